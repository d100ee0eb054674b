/- Part 4 of the proof. -/
import Derived.Test.YtjkcmnedolfkjaaGreatProg
import Derived.Laws.Tables
import Derived.Orders
import Derived.Below
import Derived.Deep.Draws
import Derived.Deep.AppendLies
import Derived.Maps.AppendAt
import Derived.OwnWalk
import Derived.Laws.BytesArg
import Derived.Laws.MakeOwn
import Derived.Laws.OwnMore
import Derived.Deep.OwnRows
import Derived.Tactics
import Derived.Lib.ConvBytes
import Derived.Laws.Slices
import Derived.WalkKit
import Derived.KernelRfl
import Derived.RowKit3
import Derived.Deep.LoopGhost
import Derived.Deep.QuietTactic
import Derived.BigQuiet
import Derived.WideLaws
import Derived.Deep.DeepCutAuto
import Derived.Deep.CutBlock
import Derived.Deep.RegionHeld3
import Derived.Laws.Rows
import Derived.Lib.AppendStr
import Derived.ArgAppend
import Derived.Laws.IdiomCopy
import Derived.RowKit
import Derived.OrdersHeld
import Derived.Laws.BitsLemmas
import Derived.Laws.Cells
import Derived.Great.BuildSlice
import Derived.Deep.Slices
import Derived.Laws.AppendOwn
import Derived.Laws.LoneSync
import Derived.LoopN
import Derived.Laws.StructEq
import Derived.Test.YtjkcmnedolfkjaaGreatW3
set_option linter.unusedVariables false
set_option linter.unusedSimpArgs false
section
set_option linter.unusedVariables false
namespace Go.Proofs.YtjkcmnedolfkjaaGreat.Rd
open Go
inductive U where
 | v (x : Value)
 | l (xs : List Int)
 | s (k : Nat) (xs : List (List U))
 | agg (us : List U)
 | tup (us : List U)
 | fp (us : List U) (off : Nat)
 | ptr (id off : Nat)
 | pe (id k : Nat) (i : Int) (off : Nat)
 | sl (id : Nat) (len cap : Int) (k : Nat)
 | clo (f : FuncId) (us : List U)
 | lost
def U.bare : U → Bool
 | .v _ => true
 | .l _ => true
 | .s _ _ => true
 | .fp _ _ => true
 | _ => false
inductive Ob where
 | cells (us : List U)
 | row (k : Nat) (xs : List (List U))
 | lim (xs : List Int)
def cnt {α : Type} (xs : List α) : Int := xs.length
abbrev q1f := List (Option Ob)
abbrev Rows := List (List U)
structure Ty where
 zero : List U
 agg : Bool := false
 fields : List (Nat × Nat × Bool) := []
 elem : List U := []
 limbs : Bool := false
 int : Option IntKind := none
 bool : Bool := false
 sref : Bool := false
 pref : Bool := false
 flat : Bool := false
 alen : Int := 0
inductive Ext where
 | add64 | load64
structure Tab where
 ty : TypeId → Option Ty
 ext : FuncId → Option Ext
 ent : List FuncId
abbrev Orc := FuncId → List U → U → Prop
abbrev Ent := FuncId → List U → q1f → (U → q1f → Prop) → Prop
def q9j : U := .v (.slice none 0 0)
def cst : Value → U
 | .agg vs => if vs.toList.all (·.oneCell') then .agg (vs.toList.map .v) else .v (.agg vs)
 | x => .v x
def get (a : List U) (t : Nat) : U := a[t]?.getD (.v undef)
def ov (a : List U) : Operand → U
 | .tmp t => get a t
 | .const v => cst v
 | .global g => .v (.pointer (some ⟨g,0,none⟩))
 | .func f => .clo f []
def ovs (a : List U) (xs : Array Operand) : List U := xs.toList.map (ov a)
def U.cells : U → Option (List U)
 | .agg us => some us
 | .tup _ => none
 | .lost => none
 | .v x => if x.oneCell' then some [.v x] else none
 | u => some [u]
def part (us : List U) (off size : Nat) (agg : Bool) : Option U :=
 if agg then (if off + size ≤ us.length then some (.agg ((us.drop off).take size)) else none) else us[off]?
def over (us : List U) (off : Nat) (cs : List U) : Option (List U) := if off + cs.length ≤ us.length then some (us.take off ++ cs ++ us.drop (off + cs.length)) else none
def qIm (place : Nat → Option (Nat × Nat)) (us : List U) : List (Nat × U) → Option (List U)
 | [] => some us
 | (i,u) :: rest => (place i).bind fun (off,size) => u.cells.bind fun cs => if cs.length = size then (over us off cs).bind fun us => qIm place us rest else none
def qIw (k : Nat) : Nat → List U → Rows
 | 0,_ => []
 | n + 1,us => us.take k :: qIw k n (us.drop k)
def qAe : List U → Option (List Int)
 | [] => some []
 | .v (.int .u32 n) :: us => (qAe us).map (n :: ·)
 | _ => none
def q0r (h : q1f) (id : Nat) : Option Ob := (h[id]?).join
def qZo (u : U) (h : q1f) (k : U → q1f → Prop) : Prop := match u with
 | .sl id len _ e => match q0r h id with
  | some (.row e' xs) => if e = e' then ∃ _ : Unit,len ≤ cnt xs ∧ ∀ ys,ys = xs.take len.toNat → k (.s e ys) (h.set id none) else False
  | some (.lim xs) => if e = 1 then ∃ _ : Unit,len = cnt xs ∧ k (.l xs) (h.set id none) else False
  | _ => False
 | .ptr _ _ => False
 | .pe _ _ _ _ => False
 | .clo _ _ => False
 | .agg _ => False
 | .tup _ => False
 | .lost => False
 | u => k u h
def qMg : List U → q1f → (List U → q1f → Prop) → Prop
 | [],h,k => k [] h
 | u :: us,h,k => qZo u h fun u h => qMg us h fun us h => k (u :: us) h
def qYy (u : U) (h : q1f) (k : U → q1f → Prop) : Prop := match u with
 | .agg us => qMg us h fun us h => k (.agg us) h
 | u => qZo u h k
def qLx : List U → q1f → (List U → q1f → Prop) → Prop
 | [],h,k => k [] h
 | u :: us,h,k => qYy u h fun u h => qLx us h fun us h => k (u :: us) h
def shut (u : U) (h : q1f) (k : U → q1f → Prop) : Prop := match u with
 | .tup us => qLx us h fun us h => k (.tup us) h
 | u => qYy u h k
def U.free : U → Bool
 | .agg us => us.all U.bare
 | u => u.bare
def binI (op : BinOp) (k : IntKind) (a b : Int) (q : U → Prop) : Prop :=
 match op with
 | .add => ∀ r,r = k.wrap (a + b) → q (.v (.int k r))
 | .sub => ∀ r,r = k.wrap (a - b) → q (.v (.int k r))
 | .mul => ∀ r,r = k.wrap (a * b) → q (.v (.int k r))
 | .rem => ∃ _ : Unit,1 ≤ b ∧ ∀ r,r = Int.tmod a b → q (.v (.int k r))
 | .eql => ∀ t : Bool,(t = true ↔ a = b) → q (.v (.bool t))
 | .neq => ∀ t : Bool,(t = true ↔ ¬ a = b) → q (.v (.bool t))
 | .lss => ∀ t : Bool,(t = true ↔ a < b) → q (.v (.bool t))
 | .leq => ∀ t : Bool,(t = true ↔ a ≤ b) → q (.v (.bool t))
 | .gtr => ∀ t : Bool,(t = true ↔ b < a) → q (.v (.bool t))
 | .geq => ∀ t : Bool,(t = true ↔ b ≤ a) → q (.v (.bool t))
 | _ => False
def nilS : U → Option Bool
 | .v (.slice none _ _) => some true
 | .sl _ _ _ _ => some false
 | .s _ (_ :: _) => some false
 | _ => none
def nilP : U → Option Bool
 | .v (.pointer none) => some true
 | .ptr _ _ => some false
 | _ => none
def qJr : List U → List U → Option Prop
 | [],[] => some True
 | .v (.int k a) :: us,.v (.int k' b) :: ws => if k = k' then (qJr us ws).map fun r => a = b ∧ r else none
 | _,_ => none
def eqB (op : BinOp) (b : Bool) : Option U := match op with
 | .eql => some (.v (.bool b))
 | .neq => some (.v (.bool (!b)))
 | _ => none
def bin (ty : Option Ty) (op : BinOp) (x y : U) (q : U → Prop) : Prop := match x,y with
 | .v (.int k a),.v (.int k' b) => if k = k' then binI op k a b q else False
 | .v (.bool a), .v (.bool b) => if (ty.map (·.bool)) = some true then (match op with
  | .eql => ∀ t,t = (a == b) → q (.v (.bool t))
  | .neq => ∀ t,t = (a != b) → q (.v (.bool t))
  | _ => False) else False
 | .agg us,.agg ws => match ty with
  | some ty => if ty.flat = true ∧ us.length = ty.zero.length then (match op, qJr us ws with
   | .eql,some r => ∀ t : Bool,(t = true ↔ r) → q (.v (.bool t))
   | _, _ => False) else False
  | none => False
 | u, .v (.slice none _ _) => if (ty.map (·.sref)) = some true then (match (nilS u).bind (eqB op) with
  | some w => q w
  | none => False) else False
 | u, .v (.pointer none) => if (ty.map (·.pref)) = some true then (match (nilP u).bind (eqB op) with
  | some w => q w
  | none => False) else False
 | _,_ => False
def qOu (h : q1f) (id off : Nat) (cs : List U) : Option q1f := match q0r h id with
 | some (.cells us) => (over us off cs).map fun us => h.set id (some (.cells us))
 | _ => none
def val (T : Tab) (a : List U) (h : q1f) (o : Oper) (k : U → q1f → Prop) : Prop :=
 match o.op with
 | .move x | .assign x => k (ov a x) h
 | .pick c x y => match ov a c with
  | .v (.bool b) => if b = true then k (ov a x) h else k (ov a y) h
  | _ => False
 | .nilCheck x => match ov a x with
  | .ptr i j => k (.ptr i j) h
  | .pe i e n j => k (.pe i e n j) h
  | .fp us j => k (.fp us j) h
  | _ => False
 | .alloc t => match T.ty t with
  | some ty => k (.ptr h.length 0) (h ++ [some (.cells ty.zero)])
  | none => False
 | .box _ x => match (ov a x).cells with
  | some cs => k (.ptr h.length 0) (h ++ [some (.cells cs)])
  | none => False
 | .build t parts => match (T.ty t).bind (fun ty => if ty.fields = [] then none else qIm (fun i => (ty.fields[i]?).map fun f => (f.1,f.2.1)) ty.zero (parts.toList.map fun p => (p.1,ov a p.2))) with
  | some us => k (.agg us) h
  | none => False
 | .buildSlice t len parts => match T.ty t with
  | some ty => match len == 0 && parts.toList.isEmpty with
   | true => if ty.elem = [] ∨ ty.agg = true ∨ ty.limbs = true then False else k (.sl h.length 0 0 ty.elem.length) (h ++ [some (.row ty.elem.length [])])
   | false => if ty.elem = [] ∨ ty.agg = true ∨ len = 0 ∨ 1000 < len * ty.elem.length then False else
    match qIm (fun i => some (i * ty.elem.length,ty.elem.length)) (List.replicate len ty.elem).flatten (parts.toList.map fun p => (p.1,ov a p.2)) with
    | some us => if ty.limbs = true then (match qAe us with
      | some ns => k (.l ns) h
      | none => False) else if us.all U.bare = true then k (.s ty.elem.length (qIw ty.elem.length len us)) h else False
    | none => False
  | none => False
 | .makeSlice t n m => match T.ty t,ov a n,ov a m with
  | some ty,.v (.int _ n),.v (.int _ n') => if ty.elem = [] ∨ ty.agg = true then False else
   ∃ _ : Unit,(0 ≤ n ∧ n ≤ 1000000 ∧ n' = n) ∧ if ty.limbs = true then ∀ xs,xs = List.replicate n.toNat 0 → k (.sl h.length n n 1) (h ++ [some (.lim xs)])
   else ∀ xs,xs = List.replicate n.toNat ty.elem → k (.sl h.length n n ty.elem.length) (h ++ [some (.row ty.elem.length xs)])
  | _,_,_ => False
 | .slice t x none (some hi) none => match T.ty t with
  | some ty => if ty.elem ≠ [] ∧ ty.agg = false then (match ov a x, ov a hi with
   | .s e xs,.v (.int _ n) => ∃ _ : Unit,(0 ≤ n ∧ n ≤ cnt xs) ∧ ∀ ys,ys = xs.take n.toNat → k (.s e ys) h
   | _, _ => False) else False
  | none => False
 | .load t x => match T.ty t,ov a x with
  | some ty,.ptr id off => match q0r h id with
   | some (.cells us) => (match part us off ty.zero.length ty.agg with
    | some u => k u h
    | none => False)
   | _ => False
  | some ty,.pe id e n off => match q0r h id with
   | some (.row e' xs) => if e = e' then ∃ us, (0 ≤ n ∧ xs[n.toNat]? = some us) ∧ (match part us off ty.zero.length ty.agg with
    | some u => k u h
    | none => False) else False
   | _ => False
  | some ty, .fp us off => (match part us off ty.zero.length ty.agg with
    | some u => k u h
    | none => False)
  | _,_ => False
 | .store t x y => match T.ty t,ov a x,(ov a y).cells,o.dst with
  | some ty, .ptr id off, some cs, none => if cs.length = ty.zero.length then (match qOu h id off cs with
    | some h => k (.v undef) h
    | none => False) else False
  | some ty, .pe id e n off, some cs, none => if cs.length = ty.zero.length ∧ cs.all U.bare = true then (match q0r h id with
    | some (.row e' xs) => if e = e' then ∃ us, (0 ≤ n ∧ xs[n.toNat]? = some us) ∧ (match over us off cs with
     | some us => ∀ ys,ys = xs.set n.toNat us → k (.v undef) (h.set id (some (.row e ys)))
     | none => False) else False
    | _ => False) else False
  | _,_,_,_ => False
 | .fieldAddr t x f => match (T.ty t).bind (fun ty => ty.fields[f]?) with
  | some p => if p.2.1 = 0 then False else (match ov a x with
   | .ptr id off => k (.ptr id (off + p.1)) h
   | .pe id e n off => k (.pe id e n (off + p.1)) h
   | .fp us off => k (.fp us (off + p.1)) h
   | _ => False)
  | none => False
 | .field t x f => match (T.ty t).bind (fun ty => ty.fields[f]?),ov a x with
  | some p, .agg us => (match part us p.1 p.2.1 p.2.2 with
   | some u => k u h
   | none => False)
  | _,_ => False
 | .indexAddr t x i => match T.ty t,ov a x,ov a i with
  | some ty,.sl id len _ e,.v (.int _ n) => if e = ty.elem.length ∧ ty.elem ≠ [] ∧ ty.agg = false then ∃ _ : Unit,(0 ≤ n ∧ n < len) ∧ k (.pe id e n 0) h else False
  | some ty,.s e xs,.v (.int _ n) => if e = ty.elem.length ∧ ty.elem ≠ [] ∧ ty.agg = false then ∃ us,(0 ≤ n ∧ xs[n.toNat]? = some us) ∧ k (.fp us 0) h else False
  | some ty,.l xs,.v (.int _ n) => if ty.elem.length = 1 ∧ ty.elem ≠ [] ∧ ty.agg = false then ∃ x,(0 ≤ n ∧ xs[n.toNat]? = some x) ∧ k (.fp [.v (.int .u32 x)] 0) h else False
  | some ty,.ptr id off,.v (.int _ n) => if ty.alen = 0 then False else ∃ _ : Unit,(0 ≤ n ∧ n < ty.alen) ∧ k (.ptr id (off + n.toNat * ty.elem.length)) h
  | _,_,_ => False
 | .binOp op t x y _ => bin (T.ty t) op (ov a x) (ov a y) fun u => k u h
 | .unOp op _ x => match op,ov a x with
  | .not,.v (.bool b) => ∀ t,t = (!b) → k (.v (.bool t)) h
  | .neg,.v (.int kd n) => ∀ r,r = kd.wrap (-n) → k (.v (.int kd r)) h
  | _,_ => False
 | .convert s t x => match (T.ty s).bind (·.int),(T.ty t).bind (·.int),ov a x with
  | some _,some kd,.v (.int _ n) => ∀ r,r = kd.wrap n → k (.v (.int kd r)) h
  | _,_,_ => False
 | .extract x i => match ov a x with
  | .tup us => (match us[i]? with
   | some u => k u h
   | none => False)
  | _ => False
 | .makeFunc (.func f) first caught => if first.toList = [] then k (.clo f (ovs a caught)) h else False
 | .call { callee := .builtin .len, args := args, argTypes := ts } => if ((ts.toList.head?).bind T.ty).map (·.sref) = some true then (match ovs a args with
  | [.l xs] => ∀ n,n = cnt xs → k (.v (.int .i64 n)) h
  | [.s _ xs] => ∀ n,n = cnt xs → k (.v (.int .i64 n)) h
  | [.sl _ n _ _] => k (.v (.int .i64 n)) h
  | [.v (.slice none n _)] => k (.v (.int .i64 n)) h
  | _ => False) else False
 | .call { callee := .builtin .copy,args := args,argTypes := ts } => match ovs a args,ts.toList with
  | [.sl id n _ 1, .l ys], [t, _] => (match q0r h id, T.ty t, o.dst with
   | some (.lim xs),some ty,some _ => if ty.limbs = true ∧ ty.elem ≠ [] ∧ ty.agg = false then ∃ _ : Unit,(n = cnt xs) ∧ ∀ r zs,r = ((Nat.min ys.length xs.length : Nat) : Int) → zs = ys.take xs.length ++ xs.drop ys.length → k (.v (.int .i64 r)) (h.set id (some (.lim zs))) else False
   | _, _, _ => False)
  | _,_ => False
 | _ => False
def put (a : List U) (d : Option Nat) (u : U) : List U := match d with
 | none => a
 | some d => a.set d u
def q9f (a : List U) : Op → Option (FuncId × List U)
 | .call { callee := .value f,args := args,argTypes := _ } => match ov a f with
  | .clo f us => some (f,ovs a args ++ us)
  | _ => none
 | _ => none
def qRv : Op → Option (Operand × Operand × TypeId)
 | .call { callee := .builtin .append,args := args,argTypes := ts } => match args.toList,ts.toList with
  | [d,x],[t,t'] => if t = t' then some (d,x,t) else none
  | _,_ => none
 | _ => none
def qGv (h : q1f) (z : List U) (d x : U) (k : U → q1f → Prop) : Prop :=
 match d,x with
 | .sl id len cap e',.s e2 ys => match q0r h id with
  | some (.row e'' xs) => if e' = z.length ∧ e'' = z.length ∧ e2 = z.length then ∃ _ : Unit,(1 ≤ cnt ys ∧ cnt ys ≤ 100000 ∧ len ≤ 1000000 ∧ cap = cnt xs) ∧ ∀ n,n = len + cnt ys →
    (∀ zs,n ≤ cap → zs = xs.take len.toNat ++ ys ++ xs.drop (len.toNat + ys.length) → k (.sl id n cap e') (h.set id (some (.row e' zs)))) ∧
    ∀ c zs,cap < n → n ≤ c → zs = xs.take len.toNat ++ ys ++ List.replicate (c.toNat - (len.toNat + ys.length)) z → k (.sl h.length n c e') (h ++ [some (.row e' zs)]) else False
  | _ => False
 | .v (.slice none 0 0),.s e2 ys => if e2 = z.length then ∃ _ : Unit,(1 ≤ cnt ys ∧ cnt ys ≤ 100000) ∧ ∀ n c zs,n = cnt ys → n ≤ c → zs = ys ++ List.replicate (c.toNat - ys.length) z → k (.sl h.length n c e2) (h ++ [some (.row e2 zs)]) else False
 | _,_ => False
def qSv (h : q1f) (e : Ext) (us : List U) (k : U → q1f → Prop) : Prop :=
 match e,us with
 | .add64,[.ptr id off,.v (.int .i64 d)] => match q0r h id with
  | some (.cells cs) => (match cs[off]? with
   | some (.v (.int .i64 x)) => ∀ r,r = IntKind.i64.wrap (x + d) → k (.v (.int .i64 r)) (h.set id (some (.cells (cs.set off (.v (.int .i64 r))))))
   | _ => False)
  | _ => False
 | .load64,[.ptr id off] => match q0r h id with
  | some (.cells cs) => (match cs[off]? with
   | some (.v (.int .i64 x)) => k (.v (.int .i64 x)) h
   | _ => False)
  | _ => False
 | _,_ => False
def qEj (h : q1f) : List U → Option (Nat × Nat × Rows)
 | [] => none
 | .sl id _ _ _ :: us => (match q0r h id with
  | some (.row e xs) => some (id,e,xs)
  | _ => qEj h us)
 | _ :: us => qEj h us
def j3q (id e : Nat) (xs : Rows) : List U → (List U → Prop) → Prop
 | [],k => k []
 | .sl j len c e' :: a, k => (match j == id && e' == e with
  | true => ∃ _ : Unit,len ≤ cnt xs ∧ ∀ ys,ys = xs.take len.toNat → j3q id e xs a fun a => k (.s e ys :: a)
  | false => j3q id e xs a fun a => k (.sl j len c e' :: a))
 | u :: a,k => j3q id e xs a fun a => k (u :: a)
def qFo (T : Tab) (C : Orc) (E : Ent) (a : List U) (h : q1f) (o : Oper) (k : List U → q1f → Prop) : Prop :=
 match q9f a o.op with
 | some (f,us) => match T.ext f with
  | some e => qSv h e us fun u h => k (put a o.dst u) h
  | none => if T.ent.contains f = true then E f us h fun u h => k (put a o.dst u) h else match qEj h us with
   | some (id, e, xs) => j3q id e xs a fun a =>  (match q9f a o.op with
    | some (f,us) => qLx us (h.set id none) fun us h => ∃ u,C f us u ∧ k (put a o.dst u) h
    | none => False)
   | none => qLx us h fun us h => ∃ u,C f us u ∧ k (put a o.dst u) h
 | none => match qRv o.op with
  | some (d,x,t) => match T.ty t with
   | some ty => if ty.elem = [] ∨ ty.agg = true ∨ ty.limbs = true then False else qGv h ty.elem (ov a d) (ov a x) fun u h => k (put a o.dst u) h
   | none => False
  | none => val T a h o fun u h => k (put a o.dst u) h
def qFt (ops : Array Oper) (a : List U) (j : Nat) : Option (Option Bool) :=
 match (ops[j]?).bind (·.dst) with
 | some d => match get a d with
  | .v (.bool b) => some (some b)
  | .v (.tuple _) => some none
  | _ => none
 | none => some none
def step (ex : List U → q1f → Oper → (List U → q1f → Prop) → Prop) (ops : Array Oper) (a : List U) (h : q1f) (o : Oper) (k : List U → q1f → Prop) : Prop :=
 match o.guard with
 | none => ex a h o k
 | some (j,w) => match qFt ops a j with
  | some (some b) => if b = w then ex a h o k else k (put a o.dst (.v undef)) h
  | some none => k (put a o.dst (.v undef)) h
  | none => False
def run (ex : List U → q1f → Oper → (List U → q1f → Prop) → Prop) (ops : Array Oper) : List Oper → List U → q1f → (List U → q1f → Prop) → Prop
 | [],a,h,k => k a h
 | o :: rest,a,h,k => step ex ops a h o fun a h => run ex ops rest a h k
structure Fp where
 rt : List Nat
 wt : List Nat
 ro : List Nat
 wo : List Nat
def qJy (xs : List Operand) : List Nat := xs.filterMap fun x => match x with | .tmp t => some t | _ => none
def qKs : U → List Nat
 | .ptr id _ => [id]
 | .pe id _ _ _ => [id]
 | .sl id _ _ _ => [id]
 | _ => []
def gds (ops : Array Oper) (o : Oper) : List Nat := match o.guard with
 | some (j,_) => ((ops[j]?).bind (·.dst)).toList
 | none => []
def robj (a : List U) : Op → List Nat
 | .load _ x => qKs (ov a x)
 | _ => []
def qGw (a : List U) (h : q1f) : Op → List Nat
 | .store _ x _ => qKs (ov a x)
 | .alloc _ => [h.length]
 | .box _ _ => [h.length]
 | .makeSlice _ _ _ => [h.length]
 | .buildSlice _ 0 _ => [h.length]
 | .call { callee := .builtin .copy,args := args,argTypes := _ } => (ovs a args).flatMap qKs
 | _ => []
def q6u (ops : Array Oper) (a : List U) (o : Oper) : Bool := match o.guard with
 | none => true
 | some (j,w) => match qFt ops a j with
  | some (some b) => b == w
  | _ => false
def qIo (ops : Array Oper) (a : List U) (h : q1f) (o : Oper) : Fp := ⟨qJy o.op.operands.toList ++ gds ops o,o.dst.toList,if q6u ops a o = true then robj a o.op else [],if q6u ops a o = true then qGw a h o.op else []⟩
def q3k (o : Oper) : List Nat := (o.after.toList.filter (Region.binds .any)).map (·.on)
def meet (xs ys : List Nat) : Bool := xs.any fun x => ys.contains x
def qJ (p q : Fp) : Bool := meet p.wt (q.rt ++ q.wt) || meet q.wt p.rt || meet p.wo (q.ro ++ q.wo) || meet q.wo p.ro
def clear (bs : List Nat) (p : Fp) : List Fp → Bool
 | [] => true
 | q :: rest => (bs.contains rest.length || !qJ q p) && clear bs p rest
def qTd (T : Tab) (C : Orc) (a : List U) (h : q1f) (o : Oper) (k : List U → q1f → Prop) : Prop :=
 match q9f a o.op with
 | some (f,us) => match T.ext f,us.all U.free && !T.ent.contains f with
  | none,true => ∃ u,C f us u ∧ k (put a o.dst u) h
  | _,_ => False
 | none => val T a h o fun u h => k (put a o.dst u) h
def runD (T : Tab) (C : Orc) (ops : Array Oper) : List Oper → List Fp → List U → q1f → (List U → q1f → Prop) → Prop
 | [],_,a,h,k => k a h
 | o :: rest,fs,a,h,k => match (q3k o).all (fun e => decide (e < fs.length)) && clear (q3k o) (qIo ops a h o) fs with
  | true => step (qTd T C) ops a h o fun a' h' => runD T C ops rest (qIo ops a h o :: fs) a' h' k
  | false => False
inductive X where
 | normal | exit (id : Nat) | ret
def qQz (f : List U → q1f → (X → List U → q1f → Prop) → Prop) : Nat → List U → q1f → (X → List U → q1f → Prop) → Prop
 | 0,_,_,_ => False
 | n + 1,a,h,k => f a h fun e a h => match e with
  | .normal => qQz f n a h k
  | e => k e a h
structure iterX (f : List U → q1f → (X → List U → q1f → Prop) → Prop) (n : Nat) (a : List U) (h : q1f) (k : X → List U → q1f → Prop) : Prop where
 out : qQz f n a h k
def qNc (n : Nat) : U → Bool
 | .ptr id _ => decide (id < n)
 | .pe id _ _ _ => decide (id < n)
 | .sl id _ _ _ => decide (id < n)
 | u => u.bare
def wkU (n : Nat) (js : List Nat) (u w : U) : Prop := match w with
 | .lost => True
 | .tup _ => False
 | .sl id l c k => ∃ j,js[id]? = some j ∧ u = .sl j l c k
 | .ptr id off => ∃ j,js[id]? = some j ∧ u = .ptr j off
 | .pe id k i off => ∃ j,js[id]? = some j ∧ u = .pe j k i off
 | .agg us => us.all (qNc n) = true ∧ u = .agg us
 | .clo f us => us.all (qNc n) = true ∧ u = .clo f us
 | w => u = w
def wkA (n : Nat) (js : List Nat) : List U → List U → Prop
 | [],[] => True
 | u :: us,w :: ws => wkU n js u w ∧ wkA n js us ws
 | _,_ => False
def wkO (n : Nat) (JS : List Nat) (h : q1f) (j : Nat) : Option Ob → Prop
 | none => True
 | some (.cells ws) => ∃ us,q0r h j = some (.cells us) ∧ wkA n JS us ws
 | some ob => q0r h j = some ob
def wkH (n : Nat) (JS : List Nat) (h : q1f) : List Nat → q1f → Prop
 | [],[] => True
 | j :: js,o :: os => wkO n JS h j o ∧ wkH n JS h js os
 | _,_ => False
def q6h : List Nat → q1f → List Nat
 | j :: js,some _ :: os => j :: q6h js os
 | _ :: js,none :: os => q6h js os
 | _,_ => []
def qFj (n len : Nat) (rs : List Nat) (h' : q1f) : Bool := decide (n ≤ len) && rs.all (fun j => decide (j < len)) && decide (q6h (List.range n ++ rs) h').Nodup
structure qUd (n : Nat) (a : List U) (h : q1f) (k : List U → q1f → Prop) : Prop where
 out : ∃ rs a' h',(qFj n h.length rs h' = true ∧ wkA n (List.range n ++ rs) a a' ∧ wkH n (List.range n ++ rs) h (List.range n ++ rs) h') ∧ k a' h'
def qBb (r : Nat → Nat) : U → U
 | .sl i n c k => .sl (r i) n c k
 | .ptr i off => .ptr (r i) off
 | .pe i k x off => .pe (r i) k x off
 | .agg us => .agg (rens r us)
 | .tup us => .tup (rens r us)
 | .clo f us => .clo f (rens r us)
 | u => u
where rens (r : Nat → Nat) : List U → List U
 | [] => []
 | u :: us => qBb r u :: rens r us
def qEz (r : Nat → Nat) : Option Ob → Option Ob
 | some (.cells us) => some (.cells (us.map (qBb r)))
 | o => o
def back (js : List Nat) (n i : Nat) : Nat := match js[i]? with
 | some j => j
 | none => n + (i - js.length)
def qJo (r : Nat → Nat) : List Nat → q1f → q1f → q1f
 | [],_,h => h
 | j :: js,[],h => qJo r js [] (h.set j none)
 | j :: js,o :: os,h => qJo r js os (h.set j (qEz r o))
def q9l (js : List Nat) (h hs : q1f) : q1f := qJo (back js h.length) js hs h ++ (hs.drop js.length).map (qEz (back js h.length))
abbrev HR := List U → q1f → (U → q1f → Prop) → Prop
def qGn (o : Option Ob) : Bool := match o with
 | some _ => true
 | none => false
structure seen (R : HR) (us : List U) (h : q1f) (k : U → q1f → Prop) : Prop where
 out : ∃ n rs us0 hs,(wkA n (List.range n ++ rs) us us0 ∧ wkH n (List.range n ++ rs) h (List.range n ++ rs) hs ∧ (List.range n ++ rs).Nodup ∧ ((List.range n ++ rs).all fun j => decide (j < h.length)) = true ∧ hs.all qGn = true) ∧ R us0 hs fun u hs' => k (qBb (back (List.range n ++ rs) h.length) u) (q9l (List.range n ++ rs) h hs')
def rdy (ops : List Oper) (done : List Nat) : List Nat := (List.range ops.length).filter fun i => !done.contains i && match ops[i]? with
 | some o => (q3k o).all fun e => done.contains e
 | none => false
def conj : List Nat → (Nat → Prop) → Prop
 | [],_ => True
 | [i],f => f i
 | i :: is,f => f i ∧ conj is f
def flat (a : List U) (o : Oper) : Bool := match o.guard with
 | some _ => false
 | none => match o.op with
  | .move _ => true
  | .assign _ => true
  | .nilCheck _ => true
  | .fieldAddr _ _ _ => true
  | .indexAddr _ x _ => (match ov a x with
   | .sl _ _ _ _ => true
   | _ => false)
  | .binOp op _ x y _ => (match op, ov a x, ov a y with
   | .add,.v (.int _ _),.v (.int _ _) => true
   | .sub,.v (.int _ _),.v (.int _ _) => true
   | _, _, _ => false)
  | _ => false
def j0v (o : Oper) : Bool := match o.guard with
 | some _ => false
 | none => match o.op with
  | .load _ _ => true
  | _ => false
def calm (o : Oper) : Bool := match o.op with
 | .load _ _ => true
 | .indexAddr _ _ _ => true
 | _ => false
def qQh (done : List Nat) (p : Nat → Oper → Bool) : Nat → List Oper → Bool
 | _,[] => true
 | j,o :: os => match done.contains j with
  | true => qQh done p (j + 1) os
  | false => match p j o with
   | true => qQh done p (j + 1) os
   | false => false
def qEr (i : Nat) : Nat → List Oper → List Nat → List Nat
 | _,[],acc => acc
 | j, o :: os, acc => qEr i (j + 1) os    (match (q3k o).any (fun e => e == i || acc.contains e) with
  | true => j :: acc
  | false => acc)
def free1 (ops : Array Oper) (done : List Nat) (i : Nat) (oi : Oper) : Bool := qQh done (fun j oj => j == i || (q3k oj).contains i || oi.apart ops oj) 0 ops.toList
def free2 (ops : Array Oper) (done D : List Nat) (i : Nat) (oi : Oper) : Bool := qQh done (fun j oj => j == i || D.contains j || (oi.apart ops oj && calm oj)) 0 ops.toList
def qRe (p : Nat → Oper → Bool) (ops : Array Oper) : List Nat → Option Nat
 | [] => none
 | i :: is => match ops[i]? with
  | some o => (match p i o with
   | true => some i
   | false => qRe p ops is)
  | none => qRe p ops is
def pick1 (a : List U) (ops : Array Oper) (done : List Nat) (i : Nat) (o : Oper) : Bool := match flat a o with
 | true => free1 ops done i o
 | false => false
def pick2 (ops : Array Oper) (done : List Nat) (i : Nat) (o : Oper) : Bool := match j0v o with
 | true => free2 ops done (qEr i 0 ops.toList []) i o
 | false => false
def sel (a : List U) (ops : Array Oper) (done is : List Nat) : List Nat := match qRe (pick1 a ops done) ops is with
 | some i => [i]
 | none => match qRe (pick2 ops done) ops is with
  | some i => [i]
  | none => is
def q7w (ex : List U → q1f → Oper → (List U → q1f → Prop) → Prop) (ops : Array Oper) : Nat → List Nat → List U → q1f → (List U → q1f → Prop) → Prop
 | 0,done,a,h,k => match rdy ops.toList done with
  | [] => k a h
  | _ => False
 | n + 1,done,a,h,k => match rdy ops.toList done with
  | [] => k a h
  | is => conj (sel a ops done is) fun i => match ops[i]? with
   | some o => step ex ops a h o fun a h => q7w ex ops n (i :: done) a h k
   | none => False
def hasEnt (T : Tab) (ops : List Oper) : Bool := ops.any fun o => match o.op with
 | .call { callee := .value (.func f),args := _,argTypes := _ } => T.ent.contains f
 | .call { callee := .builtin .append,args := _,argTypes := _ } => true
 | _ => false
def noSel (ops : List Oper) : Bool := ops.all fun o => match o.op with
 | .select _ _ => false
 | _ => true
def den (rounds : Nat) (T : Tab) (C : Orc) (E : Ent) : Code → List U → q1f → (X → List U → q1f → Prop) → Prop
 | .skip,a,h,k => k .normal a h
 | .ret,a,h,k => k .ret a h
 | .exit id,a,h,k => k (.exit id) a h
 | .region _ ops false,a,h,k => run (qFo T C E) ops ops.toList a h (k .normal)
 | .region _ ops true,a,h,k => match hasEnt T ops.toList with
  | true => (match noSel ops.toList with
   | true => q7w (qFo T C E) ops ops.size [] a h (k .normal)
   | false => False)
  | false => runD T C ops ops.toList [] a h (k .normal)
 | .seq x y,a,h,k => den rounds T C E x a h fun e a h => match e with
  | .normal => den rounds T C E y a h k
  | e => k e a h
 | .cond c x y,a,h,k => match ov a c with
  | .v (.bool b) => if b = true then den rounds T C E x a h k else den rounds T C E y a h k
  | _ => False
 | .block id c,a,h,k => den rounds T C E c a h fun e a h => match e with
  | .exit i => if i = id then k .normal a h else k (.exit i) a h
  | e => k e a h
 | .loop c, a, h, k => qUd h.length a h fun a' h' => iterX  (fun a1 h1 k => den rounds T C E c a1 h1 fun e a2 h2 => match e with
  | .normal => qUd h.length a2 h2 (k .normal)
  | e => k e a2 h2) rounds a' h' k
 | _,_,_,_ => False
def res1 (T : Tab) (a : List U) (h : q1f) : ResultVar → Option U
 | .tmp t => some (get a t)
 | .cell x t => match get a x with
  | .ptr id off => match q0r h id with
   | some (.cells us) => (T.ty t).bind fun ty => part us off ty.zero.length ty.agg
   | _ => none
  | _ => none
def j3r (T : Tab) (a : List U) (h : q1f) : List ResultVar → Option (List U)
 | [] => some []
 | x :: xs => (res1 T a h x).bind fun u => (j3r T a h xs).map (u :: ·)
def body (rounds : Nat) (T : Tab) (C : Orc) (E : Ent) (fn : Func) (us : List U) (h : q1f) (k : U → q1f → Prop) : Prop :=
 match fn.body with
 | some c => den rounds T C E c (us ++ List.replicate (fn.ntmps - us.length) (.v undef)) h fun e a h => match e with
  | .exit _ => False
  | _ => match j3r T a h fn.results.toList with
   | some [u] => k u h
   | some us => k (.tup us) h
   | none => False
 | none => False
end Go.Proofs.YtjkcmnedolfkjaaGreat.Rd
end
section
set_option linter.unusedVariables false
set_option linter.unusedSimpArgs false
namespace Go.Proofs.YtjkcmnedolfkjaaGreat.Rd
open Go Go.RowKit Go.Proofs.YtjkcmnedolfkjaaGreatW.PrintWords
abbrev Map := Nat → Option Nat
def noM : Map := fun _ => none
mutual
/-- the value y is, in W, what u says: own objects lie where m says, what is only read lies in ok -/
def Rep (ok : Nat → Prop) (W : World) (m : Map) : U → Value → Prop
 | .v x,y => y = x
 | .l xs,y => ∃ A c,y = .slice A xs.length c ∧ xs.length ≤ c ∧ Kd.F (Kd.int .u32) W ok A xs.length xs
 | .s k xs,y => ∃ A c,y = .slice A xs.length c ∧ xs.length ≤ c ∧ (xs = [] ∨ ∃ a,A = some a ∧ Rws ok W k a xs)
 | .agg us,y => ∃ vs : List Value,y = .agg vs.toArray ∧ Reps ok W m us vs ∧ ∀ v ∈ vs,v.oneCell' = true
 | .tup us,y => ∃ vs : List Value,y = .tuple vs.toArray ∧ Reps ok W m us vs
 | .fp us off,y => ∃ a : Addr,y = .pointer (some (a.add off)) ∧ Cells ok W a us
 | .ptr id off,y => ∃ b,m id = some b ∧ y = .pointer (some ⟨b,off,none⟩)
 | .pe id k i off,y => ∃ b,m id = some b ∧ 0 ≤ i ∧ y = .pointer (some ⟨b,i.toNat * k + off,none⟩)
 | .sl id len cap k,y => ∃ b,m id = some b ∧ 0 ≤ len ∧ len ≤ cap ∧ y = .slice (some ⟨b,0,none⟩) len.toNat cap.toNat
 | .clo f us,y => ∃ vs : List Value,y = .func (.func f) #[] vs.toArray ∧ Reps ok W m us vs
 | .lost,y => True
def Reps (ok : Nat → Prop) (W : World) (m : Map) : List U → List Value → Prop
 | [],[] => True
 | u :: us,v :: vs => Rep ok W m u v ∧ Reps ok W m us vs
 | [],_ :: _ => False
 | _ :: _,[] => False
/-- cells that are only read, from an address on -/
def Cells (ok : Nat → Prop) (W : World) (a : Addr) : List U → Prop
 | [] => True
 | u :: us => (∃ y,Foot (fun W => W.cell? a = some y) W ok ∧ Rep ok W noM u y ∧ y.oneCell' = true) ∧ Cells ok W (a.add 1) us
def Rws (ok : Nat → Prop) (W : World) (k : Nat) (a : Addr) : List (List U) → Prop
 | [] => True
 | us :: rest => Cells ok W a us ∧ us.length = k ∧ Rws ok W k (a.add k) rest
end
structure q3s (m m' : Map) (ok ok' : Nat → Prop) (W W' : World) : Prop where
 map : ∀ id b,m id = some b → m' id = some b
 mem : ∀ k,ok k → k < W.heap.size → W'.heap[k]? = W.heap[k]?
 ok : ∀ k,ok k → k < W.heap.size → ok' k
theorem q3s.none {m m' : Map} {ok ok' : Nat → Prop} {W W' : World} (h : q3s m m' ok ok' W W') : q3s noM noM ok ok' W W' := ⟨fun _ _ h => h,h.mem,h.ok⟩
theorem Foot.lasts {Q : World → Prop} {m m' : Map} {ok ok' : Nat → Prop} {W W' : World} (h : q3s m m' ok ok' W W') (hf : Foot Q W ok) : Foot Q W' ok' :=
 Foot.mono (Foot.step (Foot.bound hf) (fun k hk hlt => h.mem k hk.1 hlt)) (fun k hk => h.ok k hk.1 hk.2)
mutual
theorem Rep.move {m m' : Map} {ok ok' : Nat → Prop} {W W' : World} (h : q3s m m' ok ok' W W') : ∀ (u : U) (v : Value),Rep ok W m u v → Rep ok' W' m' u v
 | .v x,y,hr => hr
 | .l xs,y,hr => by
  obtain ⟨A,c,h1,h2,h3⟩ := hr
  exact ⟨A,c,h1,h2,Foot.lasts h h3⟩
 | .s k xs,y,hr => by
  obtain ⟨A,c,h1,h2,h3⟩ := hr
  refine ⟨A,c,h1,h2,?_⟩
  rcases h3 with h3 | ⟨a,h3,h4⟩
  ·exact .inl h3
  ·exact .inr ⟨a,h3,Rws.move h.none k a xs h4⟩
 | .agg us,y,hr => by
  obtain ⟨vs,h1,h2,h3⟩ := hr
  exact ⟨vs,h1,Reps.move h us vs h2,h3⟩
 | .tup us,y,hr => by
  obtain ⟨vs,h1,h2⟩ := hr
  exact ⟨vs,h1,Reps.move h us vs h2⟩
 | .fp us off,y,hr => by
  obtain ⟨a,h1,h2⟩ := hr
  exact ⟨a,h1,Cells.move h.none a us h2⟩
 | .ptr id off,y,hr => by
  obtain ⟨b,h1,h2⟩ := hr
  exact ⟨b,h.map _ _ h1,h2⟩
 | .pe id k i off,y,hr => by
  obtain ⟨b,h1,h2⟩ := hr
  exact ⟨b,h.map _ _ h1,h2⟩
 | .sl id len cap k,y,hr => by
  obtain ⟨b,h1,h2⟩ := hr
  exact ⟨b,h.map _ _ h1,h2⟩
 | .clo f us,y,hr => by
  obtain ⟨vs,h1,h2⟩ := hr
  exact ⟨vs,h1,Reps.move h us vs h2⟩
 | .lost,y,hr => hr
theorem Reps.move {m m' : Map} {ok ok' : Nat → Prop} {W W' : World} (h : q3s m m' ok ok' W W') : ∀ (us : List U) (vs : List Value),Reps ok W m us vs → Reps ok' W' m' us vs
 | [],[],hr => hr
 | u :: us,v :: vs,hr => ⟨Rep.move h u v hr.1,Reps.move h us vs hr.2⟩
 | [],_ :: _,hr => hr.elim
 | _ :: _,[],hr => hr.elim
theorem Cells.move {ok ok' : Nat → Prop} {W W' : World} (h : q3s noM noM ok ok' W W') : ∀ (a : Addr) (us : List U),Cells ok W a us → Cells ok' W' a us
 | _,[],hr => hr
 | a,u :: us,hr => by
  obtain ⟨⟨y,h1,h2,h3⟩,h4⟩ := hr
  exact ⟨⟨y,Foot.lasts h h1,Rep.move h u y h2,h3⟩,Cells.move h (a.add 1) us h4⟩
theorem Rws.move {ok ok' : Nat → Prop} {W W' : World} (h : q3s noM noM ok ok' W W') (k : Nat) : ∀ (a : Addr) (xs : List (List U)),Rws ok W k a xs → Rws ok' W' k a xs
 | _,[],hr => hr
 | a,us :: rest,hr => ⟨Cells.move h a us hr.1,hr.2.1,Rws.move h k (a.add k) rest hr.2.2⟩
end
section
variable {ok : Nat → Prop} {W : World} {m : Map}
theorem q3s.same {m m' : Map} (h : ∀ id b,m id = some b → m' id = some b) : q3s m m' ok ok W W := ⟨h,fun _ _ _ => rfl,fun _ h _ => h⟩
theorem q3s.up {ok' : Nat → Prop} (h : ∀ k,ok k → k < W.heap.size → ok' k) : q3s m m ok ok' W W := ⟨fun _ _ h => h,fun _ _ _ => rfl,h⟩
theorem Rep.any {u : U} {v : Value} (h : Rep ok W noM u v) : Rep ok W m u v := Rep.move (q3s.same fun _ _ h => by cases h) u v h
theorem Reps.any {us : List U} {vs : List Value} (h : Reps ok W noM us vs) : Reps ok W m us vs := Reps.move (q3s.same fun _ _ h => by cases h) us vs h
theorem Reps.len : ∀ {us : List U} {vs : List Value},Reps ok W m us vs → us.length = vs.length
 | [],[],_ => rfl
 | _ :: us,_ :: vs,h => by simp [Reps.len h.2]
 | [],_ :: _,h => h.elim
 | _ :: _,[],h => h.elim
theorem Reps.nth : ∀ {us : List U} {vs : List Value} {i : Nat} {u : U},Reps ok W m us vs → us[i]? = some u → ∃ v,vs[i]? = some v ∧ Rep ok W m u v
 | [],[],_,_,_,h => by simp at h
 | _ :: us,v :: vs,0,u,h,hu => ⟨v,rfl,by simp at hu; exact hu ▸ h.1⟩
 | _ :: us,_ :: vs,i + 1,u,h,hu => by
  obtain ⟨v,h1,h2⟩ := Reps.nth (i := i) h.2 (by simpa using hu)
  exact ⟨v,by simpa using h1,h2⟩
 | [],_ :: _,_,_,h,_ => h.elim
 | _ :: _,[],_,_,h,_ => h.elim
theorem Reps.take : ∀ {us : List U} {vs : List Value} (n : Nat),Reps ok W m us vs → Reps ok W m (us.take n) (vs.take n)
 | _,_,0,_ => by simp [Reps]
 | [],[],_ + 1,_ => by simp [Reps]
 | _ :: us,_ :: vs,n + 1,h => by simpa [Reps] using ⟨h.1,Reps.take n h.2⟩
 | [],_ :: _,_ + 1,h => h.elim
 | _ :: _,[],_ + 1,h => h.elim
theorem Reps.drop : ∀ {us : List U} {vs : List Value} (n : Nat),Reps ok W m us vs → Reps ok W m (us.drop n) (vs.drop n)
 | _,_,0,h => by simpa using h
 | [],[],_ + 1,_ => by simp [Reps]
 | _ :: us,_ :: vs,n + 1,h => by simpa using Reps.drop n h.2
 | [],_ :: _,_ + 1,h => h.elim
 | _ :: _,[],_ + 1,h => h.elim
theorem Reps.append : ∀ {us us' : List U} {vs vs' : List Value},Reps ok W m us vs → Reps ok W m us' vs' → Reps ok W m (us ++ us') (vs ++ vs')
 | [],_,[],_,_,h => h
 | _ :: us,_,_ :: vs,_,h,h' => ⟨h.1,Reps.append h.2 h'⟩
 | [],_,_ :: _,_,h,_ => h.elim
 | _ :: _,_,[],_,h,_ => h.elim
theorem Reps.same {u : U} {v : Value} (h : Rep ok W m u v) : ∀ n,Reps ok W m (List.replicate n u) (List.replicate n v)
 | 0 => trivial
 | n + 1 => ⟨h,Reps.same h n⟩
theorem Reps.flat {us : List U} {vs : List Value} (h : Reps ok W m us vs) : ∀ n,Reps ok W m (List.replicate n us).flatten (List.replicate n vs).flatten
 | 0 => by simp [Reps]
 | n + 1 => by
  rw [List.replicate_succ,List.replicate_succ,List.flatten_cons,List.flatten_cons]
  exact Reps.append h (Reps.flat h n)
theorem Reps.put {us cs : List U} {vs ws : List Value} (h : Reps ok W m us vs) (g : Reps ok W m cs ws) (off : Nat) : Reps ok W m (us.take off ++ cs ++ us.drop (off + cs.length)) (vs.take off ++ ws ++ vs.drop (off + cs.length)) :=
 Reps.append (Reps.append (Reps.take _ h) g) (Reps.drop _ h)
theorem qTy {v : Value} (h : v.oneCell' = true) : v.cells = #[v] := by cases v <;> first | rfl | (simp [Value.oneCell'] at h)
theorem qAw {u : U} {y : Value} {cs : List U} (h : Rep ok W m u y) (hc : u.cells = some cs) : ∃ vs : List Value,y.cells = vs.toArray ∧ Reps ok W m cs vs ∧ ∀ v ∈ vs,v.oneCell' = true := by
 have one : cs = [u] → y.oneCell' = true → ∃ vs : List Value,y.cells = vs.toArray ∧ Reps ok W m cs vs ∧ ∀ v ∈ vs,v.oneCell' = true := fun e ho => by
  subst e
  exact ⟨[y],qTy ho,⟨h,trivial⟩,fun v hv => by simp at hv; subst hv; exact ho⟩
 cases u with
 | agg us =>
  obtain ⟨vs,rfl,h2,h3⟩ := h
  simp only [U.cells,Option.some.injEq] at hc
  subst hc
  exact ⟨vs,rfl,h2,h3⟩
 | v x =>
  simp only [U.cells] at hc
  split at hc
  ·rename_i hx
   injection hc with hc
   have hy : y = x := h
   exact one hc.symm (by rw [hy]; exact hx)
  ·cases hc
 | tup us => cases hc
 | lost => cases hc
 | l xs => obtain ⟨A,c,rfl,_⟩ := h; injection hc with hc; exact one hc.symm rfl
 | s k xs => obtain ⟨A,c,rfl,_⟩ := h; injection hc with hc; exact one hc.symm rfl
 | fp us off => obtain ⟨A,rfl,_⟩ := h; injection hc with hc; exact one hc.symm rfl
 | ptr id off => obtain ⟨b,_,rfl⟩ := h; injection hc with hc; exact one hc.symm rfl
 | pe id k i off => obtain ⟨b,_,_,rfl⟩ := h; injection hc with hc; exact one hc.symm rfl
 | sl id len cap k => obtain ⟨b,_,_,_,rfl⟩ := h; injection hc with hc; exact one hc.symm rfl
 | clo f us => obtain ⟨vs,rfl,_⟩ := h; injection hc with hc; exact one hc.symm rfl
theorem Rep.bare {u : U} {y : Value} (h : Rep ok W m u y) (hb : u.bare = true) : Rep ok W noM u y := by cases u <;> first | exact h | (simp [U.bare] at hb)
theorem Reps.bare : ∀ {us : List U} {vs : List Value},Reps ok W m us vs → us.all U.bare = true → Reps ok W noM us vs
 | [],[],_,_ => trivial
 | u :: us,v :: vs,h,hb => by
  simp only [List.all_cons,Bool.and_eq_true] at hb
  exact ⟨Rep.bare h.1 hb.1,Reps.bare h.2 hb.2⟩
 | [],_ :: _,h,_ => h.elim
 | _ :: _,[],h,_ => h.elim
def Ob.rep (ok : Nat → Prop) (W : World) (m : Map) : Ob → List Value → Prop
 | .cells us,vs => Reps ok W m us vs
 | .row k xs,vs => Reps ok W noM xs.flatten vs ∧ ∀ us ∈ xs,us.length = k
 | .lim xs,vs => vs = xs.map (Value.int .u32) ∧ xs.length ≤ 1000000
theorem Ob.rep.move {m m' : Map} {ok ok' : Nat → Prop} {W W' : World} (h : q3s m m' ok ok' W W') : ∀ (ob : Ob) (vs : List Value),ob.rep ok W m vs → ob.rep ok' W' m' vs
 | .cells us,vs,hr => Reps.move h us vs hr
 | .row k xs,vs,hr => ⟨Reps.move h.none _ vs hr.1,hr.2⟩
 | .lim xs,vs,hr => hr
end
abbrev Kn := Nat → Ob → Prop
def own (m : Map) (K : Kn) : Nat → Prop := fun k => ∃ id ob,K id ob ∧ m id = some k
def q3o (base : Nat) (S : Nat → Prop) (ow : Nat → Prop) : Nat → Prop := fun k => (S k ∨ base ≤ k) ∧ ¬ ow k
structure Hp (m : Map) (S : Nat → Prop) (base : Nat) (W : World) (K : Kn) : Prop where
 at_ : ∀ id ob,K id ob → ∃ b vs te,m id = some b ∧ W.heap[b]? = some (.cells vs.toArray te (0,0)) ∧ ob.rep (q3o base S (own m K)) W m vs ∧ ∀ v ∈ vs,v.oneCell' = true
 inj : ∀ i j b oi oj,K i oi → K j oj → m i = some b → m j = some b → i = j
 lt : ∀ i b,m i = some b → b < W.heap.size
 lo : ∀ i b,m i = some b → S b ∨ base ≤ b
structure q4u (m : Map) (ow : Nat → Prop) (W : World) (m' : Map) (ow' : Nat → Prop) (W' : World) : Prop where
 map : ∀ id b,m id = some b → m' id = some b
 new : ∀ k,ow' k → ow k ∨ W.heap.size ≤ k
 size : W.heap.size ≤ W'.heap.size
 mem : ∀ k,k < W.heap.size → ¬ ow k → W'.heap[k]? = W.heap[k]?
 os : W'.os = W.os
 tape : W'.tape = W.tape
 output : W'.output = W.output
theorem q4u.refl (m : Map) (ow : Nat → Prop) (W : World) : q4u m ow W m ow W := ⟨fun _ _ h => h,fun _ h => .inl h,Nat.le_refl _,fun _ _ _ => rfl,rfl,rfl,rfl⟩
theorem q4u.trans {m m1 m2 : Map} {ow ow1 ow2 : Nat → Prop} {W W1 W2 : World} (h : q4u m ow W m1 ow1 W1) (g : q4u m1 ow1 W1 m2 ow2 W2) : q4u m ow W m2 ow2 W2 where
 map := fun id b hb => g.map id b (h.map id b hb)
 new := fun k hk => by
  rcases g.new k hk with h1 | h1
  ·exact h.new k h1
  ·exact .inr (Nat.le_trans h.size h1)
 size := Nat.le_trans h.size g.size
 mem := fun k hk hn => by
  rw [g.mem k (Nat.lt_of_lt_of_le hk h.size) fun h1 => ?_]
  ·exact h.mem k hk hn
  ·rcases h.new k h1 with h2 | h2
   ·exact hn h2
   ·omega
 os := g.os.trans h.os
 tape := g.tape.trans h.tape
 output := g.output.trans h.output
theorem q4u.lasts {base : Nat} {S : Nat → Prop} {m m' : Map} {ow ow' : Nat → Prop} {W W' : World} (h : q4u m ow W m' ow' W') : q3s m m' (q3o base S ow) (q3o base S ow') W W' :=
 ⟨h.map, fun k hk hlt => h.mem k hlt hk.2, fun k hk hlt => ⟨hk.1, fun hn => by
  rcases h.new k hn with h1 | h1
  ·exact hk.2 h1
  ·omega⟩⟩
theorem q4u.of_below {m : Map} {ow ow' : Nat → Prop} {W W' : World} (h : Below W.heap.size W W') (ho : ∀ k,ow' k → ow k) : q4u m ow W m ow' W' :=
 ⟨fun _ _ h => h,fun k hk => .inl (ho k hk),h.size,fun k hk _ => h.block k hk,h.os,h.tape,h.output⟩
theorem heap_alloc (W : World) (o : Obj) {k : Nat} (hk : k < W.heap.size) : (W.alloc o).heap[k]? = W.heap[k]? := Below.heap_alloc W o k hk
theorem qIl (W : World) (o : Obj) : (W.alloc o).heap[W.heap.size]? = some o := by
 show (W.heap.push o)[W.heap.size]? = some o
 simp
theorem qFm (W : World) (o : Obj) : (W.alloc o).heap.size = W.heap.size + 1 := by
 show (W.heap.push o).size = _
 simp
section
variable {m : Map} {S : Nat → Prop} {base : Nat} {W W' : World} {K : Kn}
theorem Hp.move {K' : Kn} (hp : Hp m S base W K) (hK : ∀ id ob,K' id ob → K id ob) (hg : q4u m (own m K) W m (own m K') W') (hW : ∀ k,own m K' k → W'.heap[k]? = W.heap[k]?) : Hp m S base W' K' where
 at_ := fun id ob hu => by
  obtain ⟨b,vs,te,h1,h2,h3,h4⟩ := hp.at_ id ob (hK id ob hu)
  exact ⟨b,vs,te,h1,by rw [hW b ⟨id,ob,hu,h1⟩]; exact h2,Ob.rep.move hg.lasts ob vs h3,h4⟩
 inj := fun i j b oi oj hi hj => hp.inj i j b oi oj (hK _ _ hi) (hK _ _ hj)
 lt := fun i b hb => Nat.lt_of_lt_of_le (hp.lt i b hb) hg.size
 lo := hp.lo
def upM (m : Map) (i b : Nat) : Map := fun j => if j = i then some b else m j
def upK (K : Kn) (i : Nat) (ob : Ob) : Kn := fun j o => if j = i then o = ob else K j o
theorem j0y {i b : Nat} (hm : m i = some b) {ob : Ob} {k : Nat} : own m (upK K i ob) k ↔ k = b ∨ ∃ id o,id ≠ i ∧ K id o ∧ m id = some k := by
 constructor
 ·rintro ⟨id,o,h1,h2⟩
  unfold upK at h1
  by_cases e : id = i
  ·rw [e,hm] at h2; injection h2 with h2; exact .inl h2.symm
  ·rw [if_neg e] at h1; exact .inr ⟨id,o,e,h1,h2⟩
 ·rintro (rfl | ⟨id,o,h1,h2,h3⟩)
  ·exact ⟨i,ob,by unfold upK; rw [if_pos rfl],hm⟩
  ·exact ⟨id,o,by unfold upK; rw [if_neg h1]; exact h2,h3⟩
theorem q4u.alloc (hp : Hp m S base W K) {i : Nat} (hi : m i = none) (ob : Ob) (o : Obj) : q4u m (own m K) W (upM m i W.heap.size) (own (upM m i W.heap.size) (upK K i ob)) (W.alloc o) := by
 refine ⟨fun id b hb => ?_,fun k hk => ?_,by rw [qFm]; omega,fun k hk _ => heap_alloc W _ hk,rfl,rfl,rfl⟩
 ·have : id ≠ i := fun e => by rw [e,hi] at hb; cases hb
  unfold upM
  rw [if_neg this]
  exact hb
 ·rcases (j0y (by unfold upM; rw [if_pos rfl])).1 hk with rfl | ⟨id,o,h1,h2,h3⟩
  ·exact .inr (Nat.le_refl _)
  ·unfold upM at h3
   rw [if_neg h1] at h3
   exact .inl ⟨id,o,h2,h3⟩
theorem Hp.alloc (hp : Hp m S base W K) (hb : base ≤ W.heap.size) {i : Nat} (hi : m i = none) {ob : Ob} {vs : List Value} {te : TypeId} (hr : ob.rep (q3o base S (own m K)) W m vs) (ho : ∀ v ∈ vs,v.oneCell' = true) :
  Hp (upM m i W.heap.size) S base (W.alloc (.cells vs.toArray te (0,0))) (upK K i ob) := by
 have hg := q4u.alloc hp hi ob (.cells vs.toArray te (0,0))
 refine ⟨fun id o hw => ?_,fun x y b ox oy kx ky hx hy => ?_,fun x b hx => ?_,fun x b hx => ?_⟩
 ·unfold upK at hw
  by_cases e : id = i
  ·rw [if_pos e] at hw
   subst hw
   exact ⟨W.heap.size,vs,te,by unfold upM; rw [if_pos e],qIl W _,Ob.rep.move hg.lasts _ _ hr,ho⟩
  ·rw [if_neg e] at hw
   obtain ⟨b,vs',te',h1,h2,h3,h4⟩ := hp.at_ id o hw
   exact ⟨b,vs',te',hg.map _ _ h1,by rw [heap_alloc W _ (hp.lt _ _ h1)]; exact h2,Ob.rep.move hg.lasts _ _ h3,h4⟩
 ·unfold upM at hx hy
  by_cases ex : x = i <;> by_cases ey : y = i
  ·rw [ex,ey]
  ·rw [if_pos ex] at hx; rw [if_neg ey] at hy; injection hx with hx; have := hp.lt y b hy; omega
  ·rw [if_neg ex] at hx; rw [if_pos ey] at hy; injection hy with hy; have := hp.lt x b hx; omega
  ·rw [if_neg ex] at hx; rw [if_neg ey] at hy
   unfold upK at kx ky
   rw [if_neg ex] at kx
   rw [if_neg ey] at ky
   exact hp.inj x y b ox oy kx ky hx hy
 ·rw [qFm]
  unfold upM at hx
  by_cases ex : x = i
  ·rw [if_pos ex] at hx; injection hx with hx; omega
  ·rw [if_neg ex] at hx; have := hp.lt x b hx; omega
 ·unfold upM at hx
  by_cases ex : x = i
  ·rw [if_pos ex] at hx; injection hx with hx; exact .inr (by omega)
  ·rw [if_neg ex] at hx; exact hp.lo x b hx
theorem q4u.write {i b : Nat} {ob0 ob : Ob} (hK : K i ob0) (hi : m i = some b) (h2 : ∀ k,k ≠ b → W'.heap[k]? = W.heap[k]?) (hs : W'.heap.size = W.heap.size) (ho : W'.os = W.os) (ht : W'.tape = W.tape) (hu : W'.output = W.output) :
  q4u m (own m K) W m (own m (upK K i ob)) W' := by
 refine ⟨fun _ _ h => h,fun k hk => ?_,by omega,fun k hk hn => h2 k fun e => hn ⟨i,ob0,hK,by rw [e]; exact hi⟩,ho,ht,hu⟩
 rcases (j0y hi).1 hk with rfl | ⟨id,o,_,h3,h4⟩
 ·exact .inl ⟨i,ob0,hK,hi⟩
 ·exact .inl ⟨id,o,h3,h4⟩
theorem Hp.write (hp : Hp m S base W K) {i b : Nat} {ob0 ob : Ob} (hK : K i ob0) (hi : m i = some b) {vs : List Value} {te : TypeId} (hr : ob.rep (q3o base S (own m K)) W m vs) (ho : ∀ v ∈ vs,v.oneCell' = true)
  (h1 : W'.heap[b]? = some (.cells vs.toArray te (0,0))) (hg : q4u m (own m K) W m (own m (upK K i ob)) W') (h2 : ∀ k,k ≠ b → W'.heap[k]? = W.heap[k]?) : Hp m S base W' (upK K i ob) := by
 have hal : ∀ {x o},upK K i ob x o → ∃ o',K x o' := fun {x o} h => by
  unfold upK at h
  by_cases e : x = i
  ·exact ⟨ob0,e ▸ hK⟩
  ·rw [if_neg e] at h; exact ⟨o,h⟩
 refine ⟨fun id o hw => ?_,fun x y b _ _ kx ky => (hal kx).elim fun _ kx => (hal ky).elim fun _ ky => hp.inj x y b _ _ kx ky,fun x c hx => Nat.lt_of_lt_of_le (hp.lt x c hx) hg.size,hp.lo⟩
 unfold upK at hw
 by_cases e : id = i
 ·rw [if_pos e] at hw
  subst hw
  exact ⟨b,vs,te,by rw [e]; exact hi,h1,Ob.rep.move hg.lasts _ _ hr,ho⟩
 ·rw [if_neg e] at hw
  obtain ⟨b',vs',te',g1,g2,g3,g4⟩ := hp.at_ id o hw
  have hne : b' ≠ b := fun eb => e (hp.inj _ _ _ _ _ hw hK (by rw [← eb]; exact g1) hi)
  exact ⟨b',vs',te',g1,by rw [h2 b' hne]; exact g2,Ob.rep.move hg.lasts _ _ g3,g4⟩
end
section
variable {ok : Nat → Prop} {W : World}
theorem Cells.nth : ∀ {us : List U} {a : Addr} {i : Nat} {u : U},Cells ok W a us → us[i]? = some u → ∃ y,Foot (fun W => W.cell? (a.add i) = some y) W ok ∧ Rep ok W noM u y ∧ y.oneCell' = true
 | [],_,_,_,_,h => by simp at h
 | u :: us,a,0,w,h,hu => by
  simp at hu
  subst hu
  have : a.add 0 = a := by cases a; simp [Addr.add]
  rw [this]
  exact h.1
 | u :: us,a,i + 1,w,h,hu => by
  obtain ⟨y,h1,h2⟩ := Cells.nth (i := i) h.2 (by simpa using hu)
  have : (a.add 1).add i = a.add (i + 1) := by rw [Go.Deep.add_add,Nat.add_comm 1 i]
  rw [this] at h1
  exact ⟨y,h1,h2⟩
theorem Rws.nth {k : Nat} : ∀ {xs : Rows} {a : Addr} {i : Nat} {us : List U},Rws ok W k a xs → xs[i]? = some us → Cells ok W (a.add (i * k)) us ∧ us.length = k
 | [],_,_,_,_,h => by simp at h
 | us :: rest,a,0,ws,h,hu => by
  simp at hu
  subst hu
  have : a.add (0 * k) = a := by cases a; simp [Addr.add]
  rw [this]
  exact ⟨h.1,h.2.1⟩
 | us :: rest,a,i + 1,ws,h,hu => by
  obtain ⟨h1,h2⟩ := Rws.nth (i := i) h.2.2 (by simpa using hu)
  have : (a.add k).add (i * k) = a.add ((i + 1) * k) := by rw [Go.Deep.add_add,Nat.succ_mul,Nat.add_comm k]
  rw [this] at h1
  exact ⟨h1,h2⟩
theorem Rws.take {k : Nat} : ∀ {xs : Rows} {a : Addr} (n : Nat),Rws ok W k a xs → Rws ok W k a (xs.take n)
 | _,_,0,_ => trivial
 | [],_,_ + 1,_ => trivial
 | us :: rest,a,n + 1,h => ⟨h.1,h.2.1,Rws.take n h.2.2⟩
theorem q5b (g o n : Nat) : (⟨g,o,none⟩ : Addr).add n = ⟨g,o + n,none⟩ := by
 unfold Addr.add
 split <;> simp_all
theorem qDn {b : Nat} {vs : List Value} {te : TypeId} (hb : W.heap[b]? = some (.cells vs.toArray te (0,0))) (hok : ok b) : ∀ (us : List U) (off : Nat),(∀ j u,us[j]? = some u → ∃ v,vs[off + j]? = some v ∧ Rep ok W noM u v ∧ v.oneCell' = true) → Cells ok W ⟨b,off,none⟩ us
 | [],_,_ => trivial
 | u :: us,off,hc => by
  obtain ⟨v,h1,h2,h3⟩ := hc 0 u rfl
  refine ⟨⟨v,fun W' hW => ?_,h2,h3⟩,?_⟩
  ·have hlt : b < W.heap.size := (Array.getElem?_eq_some_iff.1 hb).1
   have := hW b hok hlt
   simp [World.cell?,this,hb]
   simpa using h1
  ·rw [q5b]
   exact qDn hb hok us (off + 1) fun j w hj => by
    have := hc (j + 1) w (by simpa using hj)
    rw [show off + (j + 1) = off + 1 + j by omega] at this
    exact this
theorem q8p {b : Nat} {vs : List Value} {te : TypeId} (hb : W.heap[b]? = some (.cells vs.toArray te (0,0))) (hok : ok b) (k : Nat) : ∀ (xs : Rows) (off : Nat),(∀ us ∈ xs,us.length = k) → (∀ j u,xs.flatten[j]? = some u → ∃ v,vs[off + j]? = some v ∧ Rep ok W noM u v ∧ v.oneCell' = true) → Rws ok W k ⟨b,off,none⟩ xs
 | [],_,_,_ => trivial
 | us :: rest,off,hl,hc => by
  have hk : us.length = k := hl us (by simp)
  refine ⟨qDn hb hok _ off fun j w hj => hc j w ?_,hk,?_⟩
  ·rw [List.flatten_cons,List.getElem?_append_left (List.getElem?_eq_some_iff.1 hj).1]
   exact hj
  ·rw [q5b]
   refine q8p hb hok k rest (off + k) (fun us h => hl us (by simp [h])) fun j w hj => ?_
   have := hc (k + j) w (by rw [List.flatten_cons,List.getElem?_append_right (by omega)]; rw [hk,Nat.add_sub_cancel_left]; exact hj)
   rw [show off + (k + j) = off + k + j by omega] at this
   exact this
end
end Go.Proofs.YtjkcmnedolfkjaaGreat.Rd
end
section
set_option linter.unusedVariables false
set_option linter.unusedSimpArgs false
namespace Go.Proofs.YtjkcmnedolfkjaaGreat.Rd
open Go Go.RowKit Go.Proofs.YtjkcmnedolfkjaaGreatW.PrintWords
theorem j0k (ok : Nat → Prop) (W : World) (m : Map) : ∀ xs : List Value,Reps ok W m (xs.map U.v) xs
 | [] => trivial
 | x :: xs => ⟨rfl,j0k ok W m xs⟩
theorem j1u (ok : Nat → Prop) (W : World) (m : Map) (x : Value) : Rep ok W m (cst x) x := by
 unfold cst
 split
 ·rename_i vs
  split
  ·rename_i h
   exact ⟨vs.toList,by simp,j0k ok W m _,fun v hv => List.all_eq_true.1 h v hv⟩
  ·exact rfl
 ·exact rfl
structure St (base : Nat) (S : Nat → Prop) (N : Nat) (G : Nat → U → Prop) (m : Map) (K : Kn) (c : Act) (W : World) : Prop where
 defers : c.defers = []
 size : c.tmps.size = N
 tmp : ∀ t u,G t u → t < N → Rep (q3o base S (own m K)) W m u (c.tmps.getD t undef)
 hp : Hp m S base W K
 big : base ≤ W.heap.size
def Cov (a : List U) (G : Nat → U → Prop) (x : Operand) : Prop := ∀ t,x = .tmp t → ∀ u,a[t]? = some u → G t u
def j0f : TypeDesc → Bool
 | .struct _ => true
 | .array _ _ => true
 | _ => false
structure TyOk (P : Program) (t : TypeId) (ty : Ty) : Prop where
 places : ty.fields ≠ [] → ∃ fs : Array Field,P.underlying t = some (.struct fs) ∧ fs.toList.mapM (fun f => (P.info? f.type).map fun i => (f.offset,i.size)) = some (ty.fields.map fun x => (x.1,x.2.1))
 info : ∃ i z vs,P.info? t = some i ∧ i.size = ty.zero.length ∧ i.zero = some z ∧ z.cells = vs.toArray ∧ (∀ ok W m,Reps ok W m ty.zero vs) ∧ ∀ v ∈ vs,v.oneCell' = true
 und : ∃ d,P.underlying t = some d ∧ j0f d = ty.agg ∧ (∀ k,ty.int = some k → d = .int k) ∧ (ty.bool = true → d = .bool) ∧
  (∀ (f : Nat) p,ty.fields[f]? = some p → ∃ fs fd i d',d = .struct fs ∧ fs[f]? = some fd ∧ fd.offset = p.1 ∧ P.info? fd.type = some i ∧ i.size = p.2.1 ∧ P.underlying fd.type = some d' ∧ j0f d' = p.2.2) ∧
  (ty.elem ≠ [] → ∃ e i z vs,(d = .slice e ∨ ∃ n,d = .array n e) ∧ P.info? e = some i ∧ i.size = ty.elem.length ∧ i.zero = some z ∧ z.cells = vs.toArray ∧ (∀ ok W m,Reps ok W m ty.elem vs) ∧ (∀ v ∈ vs,v.oneCell' = true) ∧ i.bytes ≤ 65536 ∧ (ty.limbs = true → ty.elem = [.v (.int .u32 0)])) ∧
  (ty.sref = true → ∃ e,d = .slice e) ∧ (ty.pref = true → ∃ e,d = .pointer e)
 flat : ty.flat = true → ∀ (x y : Operand) (us ws : List U) (r : Prop) (ok : Nat → Prop) (m : Map) (W : World) (vs zs : List Value) (b : Bool),us.length = ty.zero.length → qJr us ws = some r → (b = true ↔ r) → Reps ok W m us vs → Reps ok W m ws zs →
  (do eqGuard .eql t x y (.agg vs.toArray) (.agg zs.toArray); Go.binOp .eql t (.agg vs.toArray) (.agg zs.toArray) : Sem Value).run P W = .ok (.bool b) W
 arr : ty.alen ≠ 0 → ∃ nn e i,P.underlying t = some (.array nn e) ∧ ((nn : Nat) : Int) = ty.alen ∧ P.info? e = some i ∧ i.size = ty.elem.length
abbrev q4w (P : Program) (T : Tab) : Prop := ∀ t ty,T.ty t = some ty → TyOk P t ty
structure Loc (P : Program) (a : List U) (H : q1f) (o : Oper) (u : U) (H' : q1f) (rd wr : List Nat) : Prop where
 same : ∀ id,id ∉ wr → H'[id]? = H[id]?
 len : H.length ≤ H'.length
 does : ∀ {base : Nat} {S : Nat → Prop} {N : Nat} {G : Nat → U → Prop} {m : Map} {K : Kn} {c : Act} {W : World},a.length = N → St base S N G m K c W → (∀ x ∈ o.op.operands.toList,Cov a G x) →
  (∀ id ob,id ∈ rd ∨ id ∈ wr → q0r H id = some ob → K id ob) → (∀ id,H.length ≤ id → id ∈ wr → m id = none) →
  ∃ m' K' W' nx,(execOp c.eval o).run P W = .ok nx W' ∧ ((∃ v,nx = .value v ∧ Rep (q3o base S (own m' K')) W' m' u v) ∨ (nx = .skip ∧ o.dst = none)) ∧ q4u m (own m K) W m' (own m' K') W' ∧ Hp m' S base W' K' ∧
   (∀ id ob,K' id ob ↔ if id ∈ wr then q0r H' id = some ob else K id ob) ∧ ∀ id,m' id ≠ none → m id ≠ none ∨ (id ∈ wr ∧ id < H'.length)
section
variable {P : Program} {T : Tab} {a : List U} {base : Nat} {S : Nat → Prop} {N : Nat} {G : Nat → U → Prop} {m : Map} {K : Kn} {c : Act} {W : World} {H : q1f} {o : Oper} {k : U → q1f → Prop}
theorem q2z (hs : St base S N G m K c W) (hN : a.length = N) {x : Operand} (hx : Cov a G x) : Rep (q3o base S (own m K)) W m (ov a x) (c.eval x) := by
 cases x with
 | tmp t =>
  show Rep _ _ _ (get a t) (c.tmps.getD t undef)
  unfold get
  cases e : a[t]? with
  | none =>
   have hlt : ¬ t < a.length := fun hlt => by simp [List.getElem?_eq_getElem hlt] at e
   have hlt' : ¬ (t : Nat) < N := hN ▸ hlt
   have : c.tmps.getD t undef = undef := by simp [Array.getD,hs.size,hlt']
   rw [this]
   exact rfl
  | some u =>
   have hlt : t < a.length := by
    rcases Nat.lt_or_ge t a.length with h1 | h1
    ·exact h1
    ·rw [List.getElem?_eq_none h1] at e; cases e
   exact hs.tmp t u (hx t rfl u e) (hN ▸ hlt)
 | const v => exact j1u _ _ _ v
 | global g => exact rfl
 | func f => exact ⟨[],rfl,trivial⟩
theorem q7n (hs : St base S N G m K c W) (hN : a.length = N) : ∀ {xs : List Operand},(∀ x ∈ xs,Cov a G x) → Reps (q3o base S (own m K)) W m (xs.map (ov a)) (xs.map c.eval)
 | [],_ => trivial
 | x :: xs,hx => ⟨q2z hs hN (hx x (by simp)),q7n hs hN fun y hy => hx y (by simp [hy])⟩
theorem qCf (hs : St base S N G m K c W) (hN : a.length = N) {x : Operand} (hx : Cov a G x) {y : Value} (he : ov a x = .v y) : c.eval x = y := by
 have := q2z hs hN hx
 rw [he] at this
 exact this
theorem q5e {ρ : Operand → Value} {o : Oper} {s : Sem Value} {v : Value} {W W' : World} (h : execOp ρ o = (do pure (Next.value (← s)))) (hs : s.run P W = .ok v W') : (execOp ρ o).run P W = .ok (.value v) W' := by
 rw [h]
 simp [Sem.run_bind,hs]
theorem Loc.plain {u : U} {rd : List Nat} (h : ∀ {base : Nat} {S : Nat → Prop} {N : Nat} {G : Nat → U → Prop} {m : Map} {K : Kn} {c : Act} {W : World}, a.length = N → St base S N G m K c W → (∀ x ∈ o.op.operands.toList, Cov a G x) → (∀ id ob, id ∈ rd → q0r H id = some ob → K id ob) →
  ∃ v, (execOp c.eval o).run P W = .ok (.value v) W ∧ Rep (q3o base S (own m K)) W m u v) : Loc P a H o u H rd [] :=
 ⟨fun _ _ => rfl, Nat.le_refl _, fun {_ _ _ _ m K c W} hN hs hc hr _ => by
  obtain ⟨v,h1,h2⟩ := h hN hs hc fun id ob hi => hr id ob (.inl hi)
  exact ⟨m, K, W, _, h1, .inl ⟨v, rfl, h2⟩, q4u.refl _ _ _, hs.hp, fun id ob => by simp, fun id hid => .inl hid⟩⟩
abbrev qBp (P : Program) (a : List U) (H : q1f) (o : Oper) (k : U → q1f → Prop) : Prop := ∃ u H',k u H' ∧ Loc P a H o u H' (robj a o.op) (qGw a H o.op)
theorem q1o {u : U} (hk : k u H) (hw : qGw a H o.op = [])         (h : ∀ {base : Nat} {S : Nat → Prop} {N : Nat} {G : Nat → U → Prop} {m : Map} {K : Kn} {c : Act} {W : World}, a.length = N → St base S N G m K c W → (∀ x ∈ o.op.operands.toList, Cov a G x) → (∀ id ob, id ∈ robj a o.op → q0r H id = some ob → K id ob) →
  ∃ v, (execOp c.eval o).run P W = .ok (.value v) W ∧ Rep (q3o base S (own m K)) W m u v) : qBp P a H o k := ⟨u, H, hk, by rw [hw]; exact Loc.plain h⟩
theorem qNw {x : Operand} (ho : o.op = .move x ∨ o.op = .assign x) (hv : val T a H o k) : qBp P a H o k := by
 rcases ho with ho | ho
 all_goals
  simp only [val,ho] at hv
  refine q1o hv (by rw [ho]; rfl) fun hN hs hc _ => ⟨_,by simp [execOp,ho],q2z hs hN (hc x (by rw [ho]; simp [Op.operands]))⟩
theorem qYv {b x y : Operand} (ho : o.op = .pick b x y) (hv : val T a H o k) : qBp P a H o k := by
 simp only [val,ho] at hv
 split at hv
 case h_2 => exact hv.elim
 rename_i t he
 cases t
 ·rw [if_neg (by simp)] at hv
  exact q1o hv (by rw [ho]; rfl) fun hN hs hc _ => ⟨_,by simp [execOp,ho,qCf hs hN (hc b (by rw [ho]; simp [Op.operands])) he,asBool],q2z hs hN (hc y (by rw [ho]; simp [Op.operands]))⟩
 ·rw [if_pos rfl] at hv
  exact q1o hv (by rw [ho]; rfl) fun hN hs hc _ => ⟨_,by simp [execOp,ho,qCf hs hN (hc b (by rw [ho]; simp [Op.operands])) he,asBool],q2z hs hN (hc x (by rw [ho]; simp [Op.operands]))⟩
theorem qYd {op : UnOp} {t : TypeId} {x : Operand} (ho : o.op = .unOp op t x) (hv : val T a H o k) : qBp P a H o k := by
 simp only [val,ho] at hv
 have hx : x ∈ o.op.operands.toList := by rw [ho]; simp [Op.operands]
 split at hv
 ·rename_i b he
  exact q1o (hv _ rfl) (by rw [ho]; rfl) fun {_ _ _ _ _ _ c _} hN hs hc _ => ⟨.bool (!b),q5e (s := Op.unary .not (c.eval x)) (by simp [execOp,ho]) (by rw [qCf hs hN (hc x hx) he]; simp [Op.unary]),rfl⟩
 ·rename_i kd n he
  exact q1o (hv _ rfl) (by rw [ho]; rfl) fun {_ _ _ _ _ _ c _} hN hs hc _ => ⟨.int kd (kd.wrap (-n)),q5e (s := Op.unary .neg (c.eval x)) (by simp [execOp,ho]) (by rw [qCf hs hN (hc x hx) he]; simp [Op.unary,Op.intArith]),rfl⟩
 ·exact hv.elim
theorem qMo {x : Operand} {i : Nat} (ho : o.op = .extract x i) (hv : val T a H o k) : qBp P a H o k := by
 simp only [val,ho] at hv
 have hx : x ∈ o.op.operands.toList := by rw [ho]; simp [Op.operands]
 split at hv
 case h_2 => exact hv.elim
 rename_i us he
 split at hv
 case h_2 => exact hv.elim
 rename_i w hw
 refine q1o hv (by rw [ho]; rfl) fun {_ _ _ _ _ _ c _} hN hs hc _ => ?_
 have hr := q2z hs hN (hc x hx)
 rw [he] at hr
 obtain ⟨vs,e1,e2⟩ := hr
 obtain ⟨v,f1,f2⟩ := e2.nth hw
 exact ⟨v,q5e (s := Instr.extract (c.eval x) i) (by simp [execOp,ho]) (by rw [e1]; simp [Instr.extract,f1]),f2⟩
theorem qJj {x : Operand} (ho : o.op = .nilCheck x) (hv : val T a H o k) : qBp P a H o k := by
 have hx : x ∈ o.op.operands.toList := by rw [ho]; simp [Op.operands]
 simp only [val,ho] at hv
 split at hv
 case h_4 => exact hv.elim
 all_goals
  rename_i he
  refine q1o hv (by rw [ho]; rfl) fun {_ _ _ _ _ _ c _} hN hs hc _ => ?_
  have hr := q2z hs hN (hc x hx)
  rw [he] at hr
  obtain ⟨b,h1,h2⟩ := hr
 ·exact ⟨_,by simp [execOp,ho,h2],b,h1,rfl⟩
 ·exact ⟨_,by simp [execOp,ho,h2.2],b,h1,h2.1,rfl⟩
 ·exact ⟨_,by simp [execOp,ho,h1],b,rfl,h2⟩
theorem qXp {ok : Nat → Prop} {us : List U} {vs : List Value} {off size : Nat} {u : U} (hr : Reps ok W m us vs) (h1 : ∀ v ∈ vs,v.oneCell' = true) (hp : part us off size true = some u) :
  off + size ≤ vs.length ∧ Rep ok W m u (.agg ((vs.drop off).take size).toArray) := by
 unfold part at hp
 simp only [if_true] at hp
 split at hp
 ·rename_i hle
  injection hp with hp
  subst hp
  exact ⟨by rw [← Reps.len hr]; exact hle,(vs.drop off).take size,rfl,Reps.take size (Reps.drop off hr),fun v hv => h1 v (List.mem_of_mem_drop (List.mem_of_mem_take hv))⟩
 ·cases hp
theorem qXk {ok : Nat → Prop} {us : List U} {vs : List Value} {off size : Nat} {u : U} (hr : Reps ok W m us vs) (hp : part us off size false = some u) : ∃ v,vs[off]? = some v ∧ Rep ok W m u v := by
 unfold part at hp
 simp only [Bool.false_eq_true,if_false] at hp
 exact Reps.nth hr hp
theorem q8x {t : TypeId} {d : TypeDesc} (h1 : P.underlying t = some d) (W : World) : (isAgg t).run P W = .ok (j0f d) W := by
 cases d <;> simp [isAgg,run_underlying h1,j0f]
theorem q3g {t : TypeId} {i : TypeInfo} (h : P.info? t = some i) (W : World) : (sizeOf t).run P W = .ok i.size W := by simp [sizeOf,typeInfo,h]
theorem q8r {t : TypeId} {ty : Ty} (ht : TyOk P t ty) {ad : Addr} {us : List U} {off : Nat} {ok : Nat → Prop} {u : U} (hc : ∀ j w,us[j]? = some w → ∃ v,W.cell? (ad.add j) = some v ∧ Rep ok W m w v ∧ v.oneCell' = true) (hp : part us off ty.zero.length ty.agg = some u) :
  ∃ v,(loadVar t (ad.add off)).run P W = .ok v W ∧ Rep ok W m u v := by
 obtain ⟨i,_,_,hi,hsz,_⟩ := ht.info
 obtain ⟨d,hd,ha,_⟩ := ht.und
 have hag : (isAgg t).run P W = .ok ty.agg W := by rw [← ha]; exact q8x hd W
 have hso : (sizeOf t).run P W = .ok ty.zero.length W := by rw [← hsz]; exact q3g hi W
 unfold part at hp
 by_cases hA : ty.agg = true
 ·rw [if_pos hA] at hp
  split at hp
  case isFalse => cases hp
  rename_i hl
  injection hp with hp
  subst hp
  have key : ∀ n k,k + n ≤ us.length → ∃ vs : List Value,vs.length = n ∧ (∀ j v,vs[j]? = some v → W.cell? (ad.add (k + j)) = some v) ∧ Reps ok W m ((us.drop k).take n) vs ∧ ∀ v ∈ vs,v.oneCell' = true := by
   intro n
   induction n with
   | zero => intro k _; exact ⟨[],rfl,fun j v hj => by simp at hj,by simp [Reps],fun v hv => by cases hv⟩
   | succ n ih =>
    intro k hk
    obtain ⟨vs,h1,h2,h3,h4⟩ := ih (k + 1) (by omega)
    have hlt : k < us.length := by omega
    obtain ⟨v,g1,g2,g3⟩ := hc k us[k] (by simp [hlt])
    refine ⟨v :: vs,by simp [h1],fun j w hj => ?_,?_,fun w hw => ?_⟩
    ·cases j with
     | zero => simp at hj; subst hj; exact g1
     | succ j =>
      have := h2 j w (by simpa using hj)
      rw [show k + (j + 1) = k + 1 + j by omega]
      exact this
    ·rw [List.drop_eq_getElem_cons hlt,List.take_succ_cons]
     exact ⟨g2,h3⟩
    ·rcases List.mem_cons.1 hw with rfl | hw
     ·exact g3
     ·exact h4 w hw
  obtain ⟨vs,h1,h2,h3,h4⟩ := key ty.zero.length off hl
  have hlc := run_loadCells_list (P := P) W (ad.add off) vs (fun j v hj => by rw [Go.Deep.add_add]; exact h2 j v hj)
  rw [h1] at hlc
  refine ⟨.agg vs.toArray,?_,vs,rfl,h3,h4⟩
  simp [loadVar,hag,hA,hso,hlc]
 ·rw [if_neg hA] at hp
  obtain ⟨v,g1,g2,_⟩ := hc off u hp
  exact ⟨v,by simp [loadVar,hag,hA,run_load,g1],g2⟩
theorem Hp.cell (hp : Hp m S base W K) {id : Nat} {us : List U} (hu : K id (.cells us)) {j : Nat} {w : U} (hw : us[j]? = some w) {b : Nat} (hb : m id = some b) : ∃ v,W.cell? ⟨b,j,none⟩ = some v ∧ Rep (q3o base S (own m K)) W m w v ∧ v.oneCell' = true := by
 obtain ⟨b',vs,te,h1,h2,h3,h4⟩ := hp.at_ id _ hu
 rw [hb] at h1
 injection h1 with h1
 subst h1
 obtain ⟨v,e1,e2⟩ := Reps.nth h3 hw
 exact ⟨v,by simp [World.cell?,h2,e1],e2,h4 v (List.mem_of_getElem? e1)⟩
theorem qEp {k : Nat} : ∀ {xs : Rows} {i j : Nat} {us : List U} {w : U},(∀ us ∈ xs,us.length = k) → xs[i]? = some us → us[j]? = some w → xs.flatten[i * k + j]? = some w
 | [],_,_,_,_,_,h,_ => by simp at h
 | ys :: rest,0,j,us,w,hl,h,hw => by
  simp at h
  subst h
  rw [List.flatten_cons,Nat.zero_mul,Nat.zero_add,List.getElem?_append_left (List.getElem?_eq_some_iff.1 hw).1]
  exact hw
 | ys :: rest,i + 1,j,us,w,hl,h,hw => by
  have hy : ys.length = k := hl ys (by simp)
  rw [List.flatten_cons,List.getElem?_append_right (by rw [hy,Nat.succ_mul]; omega),hy,show (i + 1) * k + j - k = i * k + j by rw [Nat.succ_mul]; omega]
  exact qEp (fun us h => hl us (by simp [h])) (by simpa using h) hw
theorem Hp.elem (hp : Hp m S base W K) {id e : Nat} {xs : Rows} (hu : K id (.row e xs)) {i j : Nat} {us : List U} {w : U} (hi : xs[i]? = some us) (hw : us[j]? = some w) {b : Nat} (hb : m id = some b) : ∃ v,W.cell? ⟨b,i * e + j,none⟩ = some v ∧ Rep (q3o base S (own m K)) W m w v ∧ v.oneCell' = true := by
 obtain ⟨b',vs,te,h1,h2,⟨h3,h5⟩,h4⟩ := hp.at_ id _ hu
 rw [hb] at h1
 injection h1 with h1
 subst h1
 obtain ⟨v,e1,e2⟩ := Reps.nth h3 (qEp h5 hi hw)
 exact ⟨v,by simp [World.cell?,h2,e1],e2.any,h4 v (List.mem_of_getElem? e1)⟩
theorem qXa {t : TypeId} {x : Operand} (hT : q4w P T) (ho : o.op = .load t x) (hv : val T a H o k) : qBp P a H o k := by
 have hx : x ∈ o.op.operands.toList := by rw [ho]; simp [Op.operands]
 have hwo : qGw a H o.op = [] := by rw [ho]; rfl
 have hro : robj a o.op = qKs (ov a x) := by rw [ho]; rfl
 simp only [val,ho] at hv
 split at hv
 ·rename_i ty id off ht he
  split at hv
  case h_2 => exact hv.elim
  rename_i us hus
  split at hv
  case h_2 => exact hv.elim
  rename_i w hw
  refine q1o hv hwo fun {_ _ _ _ _ _ c _} hN hs hc hr => ?_
  have hK := hr id _ (by rw [hro,he]; simp [qKs]) hus
  have hrx := q2z hs hN (hc x hx)
  rw [he] at hrx
  obtain ⟨b,e1,e2⟩ := hrx
  obtain ⟨v, f1, f2⟩ := q8r (hT t _ ht) (ad := ⟨b, 0, none⟩)        (fun j w hj => by
   obtain ⟨v,g2,g3⟩ := hs.hp.cell hK hj e1
   exact ⟨v, by rw [q5b, Nat.zero_add]; exact g2, g3⟩) hw
  rw [q5b,Nat.zero_add] at f1
  exact ⟨v,q5e (s := Instr.loadAt t (c.eval x)) (by simp [execOp,ho]) (by rw [e2]; simp [Instr.loadAt,Instr.sureAddr,f1]),f2⟩
 ·rename_i ty id e n off ht he
  split at hv
  case h_2 => exact hv.elim
  rename_i e' xs hus
  split at hv
  case isFalse => exact hv.elim
  rename_i hee
  subst hee
  obtain ⟨us,⟨hn0,hn1⟩,hv⟩ := hv
  split at hv
  case h_2 => exact hv.elim
  rename_i w hw
  refine q1o hv hwo fun {_ _ _ _ _ _ c _} hN hs hc hr => ?_
  have hK := hr id _ (by rw [hro,he]; simp [qKs]) hus
  have hrx := q2z hs hN (hc x hx)
  rw [he] at hrx
  obtain ⟨b,e1,_,e2⟩ := hrx
  obtain ⟨v, f1, f2⟩ := q8r (hT t _ ht) (ad := ⟨b, n.toNat * e, none⟩)        (fun j w hj => by
   obtain ⟨v,g2,g3⟩ := hs.hp.elem hK hn1 hj e1
   exact ⟨v, by rw [q5b]; exact g2, g3⟩) hw
  rw [q5b] at f1
  exact ⟨v,q5e (s := Instr.loadAt t (c.eval x)) (by simp [execOp,ho]) (by rw [e2]; simp [Instr.loadAt,Instr.sureAddr,f1]),f2⟩
 ·rename_i ty us off ht he
  split at hv
  case h_2 => exact hv.elim
  rename_i w hw
  refine q1o hv hwo fun {_ _ _ _ m _ c _} hN hs hc hr => ?_
  have hrx := q2z hs hN (hc x hx)
  rw [he] at hrx
  obtain ⟨ad,e2,e3⟩ := hrx
  obtain ⟨v, f1, f2⟩ := q8r (m := m) (hT t _ ht) (ad := ad)        (fun j w hj => by
   obtain ⟨v,g1,g2,g3⟩ := e3.nth hj
   exact ⟨v, g1.now, g2.any, g3⟩) hw
  exact ⟨v,q5e (s := Instr.loadAt t (c.eval x)) (by simp [execOp,ho]) (by rw [e2]; simp [Instr.loadAt,Instr.sureAddr,f1]),f2⟩
 ·exact hv.elim
theorem qRr {t : TypeId} {x : Operand} {f : Nat} (hT : q4w P T) (ho : o.op = .field t x f) (hv : val T a H o k) : qBp P a H o k := by
 have hx : x ∈ o.op.operands.toList := by rw [ho]; simp [Op.operands]
 simp only [val,ho] at hv
 split at hv
 case h_2 => exact hv.elim
 rename_i p us hp he
 split at hv
 case h_2 => exact hv.elim
 rename_i w hw
 obtain ⟨ty,ht,hp⟩ := Option.bind_eq_some_iff.1 hp
 refine q1o hv (by rw [ho]; rfl) fun {base S _ _ m K c W} hN hs hc _ => ?_
 have hr := q2z hs hN (hc x hx)
 rw [he] at hr
 obtain ⟨vs,e1,e2,e3⟩ := hr
 obtain ⟨d,g1,g2,_,_,g3,_⟩ := (hT t _ ht).und
 obtain ⟨fs,fd,i,d',rfl,q1,q2,q3,q4,q5,q6⟩ := g3 f p hp
 have : ∃ v,(Go.part fd.type vs.toArray p.1).run P W = .ok v W ∧ Rep (q3o base S (own m K)) W m w v := by
  by_cases hA : p.2.2 = true
  ·rw [hA] at hw
   obtain ⟨f1,f2⟩ := qXp e2 e3 hw
   refine ⟨_,?_,f2⟩
   simp [Go.part,q8x q5,q6,hA,q3g q3,q4]
  ·rw [Bool.eq_false_iff.2 hA] at hw
   obtain ⟨v,f1,f2⟩ := qXk e2 hw
   exact ⟨v,by simp [Go.part,q8x q5,q6,hA,f1],f2⟩
 obtain ⟨v,f1,f2⟩ := this
 exact ⟨v,q5e (s := Instr.field t (c.eval x) f) (by simp [execOp,ho]) (by rw [e1]; simp [Instr.field,run_underlying g1,q1,asAgg,q2,f1]),f2⟩
theorem qHp {t : TypeId} {x : Operand} {f : Nat} (hT : q4w P T) (ho : o.op = .fieldAddr t x f) (hv : val T a H o k) : qBp P a H o k := by
 have hx : x ∈ o.op.operands.toList := by rw [ho]; simp [Op.operands]
 simp only [val,ho] at hv
 split at hv
 case h_2 => exact hv.elim
 rename_i p hp
 obtain ⟨ty,ht,hp⟩ := Option.bind_eq_some_iff.1 hp
 split at hv
 case isTrue => exact hv.elim
 rename_i hz
 have hrun : ∀ (ad : Addr) (W : World),(Instr.fieldAt t (.pointer (some ad)) f).run P W = .ok (.pointer (some (ad.add p.1))) W := fun ad W => by
  obtain ⟨d,g1,_,_,_,g3,_⟩ := (hT t _ ht).und
  obtain ⟨fs,fd,i,d',rfl,q1,q2,q3,q4,_,_⟩ := g3 f p hp
  have hne : i.size ≠ 0 := by rw [q4]; exact hz
  simp [Instr.fieldAt,run_underlying g1,q1,Instr.sureAddr,fieldPlace,q3g q3,hne,q2]
 split at hv
 case h_4 => exact hv.elim
 all_goals
  rename_i he
  refine q1o hv (by rw [ho]; rfl) fun {_ _ _ _ _ _ c W} hN hs hc _ => ?_
  have hr := q2z hs hN (hc x hx)
  rw [he] at hr
  obtain ⟨b,h1,h2⟩ := hr
 ·exact ⟨_,q5e (s := Instr.fieldAt t (c.eval x) f) (by simp [execOp,ho]) (by rw [h2]; exact hrun _ W),b,h1,by rw [q5b]⟩
 ·exact ⟨_,q5e (s := Instr.fieldAt t (c.eval x) f) (by simp [execOp,ho]) (by rw [h2.2]; exact hrun _ W),b,h1,h2.1,by rw [q5b,Nat.add_assoc]⟩
 ·exact ⟨_,q5e (s := Instr.fieldAt t (c.eval x) f) (by simp [execOp,ho]) (by rw [h1]; exact hrun _ W),b,by rw [Go.Deep.add_add],h2⟩
theorem qAa {A : Option Addr} {xs : List Int} (h : Kd.C (Kd.int .u32) W A xs.length xs) {j : Nat} {x : Int} (hx : xs[j]? = some x) : ∃ ad,A = some ad ∧ W.cell? (ad.add j) = some (.int .u32 x) := by
 obtain ⟨_,_,hc⟩ := h
 have hne : xs.length ≠ 0 := by have := (List.getElem?_eq_some_iff.1 hx).1; omega
 obtain ⟨ad,e,hc⟩ := hc (by omega)
 obtain ⟨c,h1,h2,h3⟩ := hc j x hx
 refine ⟨ad,e,?_⟩
 have hk : c = [Value.int .u32 x] := h2
 have := h3 0 (.int .u32 x) (by rw [hk]; rfl)
 have e1 : j * (Kd.int .u32).sz + 0 = j := by show j * 1 + 0 = j; omega
 rwa [e1] at this
theorem qIb {t : TypeId} {x i : Operand} (hT : q4w P T) (ho : o.op = .indexAddr t x i) (hv : val T a H o k) : qBp P a H o k := by
 have hx : x ∈ o.op.operands.toList := by rw [ho]; simp [Op.operands]
 have hi : i ∈ o.op.operands.toList := by rw [ho]; simp [Op.operands]
 have hel : ∀ ty,T.ty t = some ty → ty.elem ≠ [] → ty.agg = false → ∀ (A : Addr) (n cc : Nat) (kk : IntKind) (z : Int) (W : World),0 ≤ z → z.toNat < n → (Instr.indexAt t (.slice (some A) n cc) (.int kk z)).run P W = .ok (.pointer (some (A.add (z.toNat * ty.elem.length)))) W := by
  intro ty ht hne hag A n cc kk z W h0 hlt
  obtain ⟨d,g1,g0,_,_,_,g4,_⟩ := (hT t _ ht).und
  obtain ⟨e,ie,zz,vs,hd,q1,q2,_⟩ := g4 hne
  rcases hd with hd | ⟨n,hd⟩
  ·subst hd
   simp [Instr.indexAt,run_underlying g1,asIntOf,q3g q1,q2,h0,show z < n by omega]
  ·subst hd
   rw [hag] at g0
   cases g0
 simp only [val,ho] at hv
 split at hv
 ·rename_i ty id len cp e kk z ht he hz
  split at hv
  case isFalse => exact hv.elim
  rename_i hb
  obtain ⟨b2,b3,b4⟩ := hb
  obtain ⟨_,⟨b0,b1⟩,hv⟩ := hv
  refine q1o hv (by rw [ho]; rfl) fun {_ _ _ _ _ _ c W} hN hs hc _ => ?_
  have hr := q2z hs hN (hc x hx)
  rw [he] at hr
  obtain ⟨b,r1,r2,r3,r4⟩ := hr
  exact ⟨_,q5e (s := Instr.indexAt t (c.eval x) (c.eval i)) (by simp [execOp,ho]) (by rw [r4,qCf hs hN (hc i hi) hz]; exact hel ty ht b3 b4 _ _ _ _ _ W b0 (by omega)),b,r1,b0,by rw [q5b,b2,Nat.zero_add,Nat.add_zero]⟩
 ·rename_i ty e xs kk z ht he hz
  split at hv
  case isFalse => exact hv.elim
  rename_i hb
  obtain ⟨b2,b3,b4⟩ := hb
  obtain ⟨us,⟨b0,hus⟩,hv⟩ := hv
  refine q1o hv (by rw [ho]; rfl) fun {_ _ _ _ _ _ c W} hN hs hc _ => ?_
  have hr := q2z hs hN (hc x hx)
  rw [he] at hr
  obtain ⟨A,cc,r1,r2,r3⟩ := hr
  have hlt := (List.getElem?_eq_some_iff.1 hus).1
  rcases r3 with r3 | ⟨ad,rfl,r3⟩
  ·subst r3; simp at hlt
  ·obtain ⟨q1,q2⟩ := r3.nth hus
   refine ⟨_,q5e (s := Instr.indexAt t (c.eval x) (c.eval i)) (by simp [execOp,ho]) (by rw [r1,qCf hs hN (hc i hi) hz]; exact hel ty ht b3 b4 _ _ _ _ _ W b0 hlt),_,?_,q1⟩
   have : ∀ A : Addr,A.add 0 = A := fun A => by cases A; simp [Addr.add]
   rw [this,b2]
 ·rename_i ty xs kk z ht he hz
  split at hv
  case isFalse => exact hv.elim
  rename_i hb
  obtain ⟨b2,b3,b4⟩ := hb
  obtain ⟨p,⟨b0,hp⟩,hv⟩ := hv
  refine q1o hv (by rw [ho]; rfl) fun {_ _ _ _ _ _ c W} hN hs hc _ => ?_
  have hr := q2z hs hN (hc x hx)
  rw [he] at hr
  obtain ⟨A,cc,r1,r2,r3⟩ := hr
  have hlt := (List.getElem?_eq_some_iff.1 hp).1
  obtain ⟨ad,rfl,_⟩ := qAa (Kd.F_now r3) hp
  refine ⟨_,q5e (s := Instr.indexAt t (c.eval x) (c.eval i)) (by simp [execOp,ho]) (by rw [r1,qCf hs hN (hc i hi) hz]; exact hel ty ht b3 b4 _ _ _ _ _ W b0 hlt),ad.add z.toNat,?_,⟨_,fun W' hW => ?_,rfl,rfl⟩,trivial⟩
  ·have : ∀ A : Addr,A.add 0 = A := fun A => by cases A; simp [Addr.add]
   rw [this,b2,Nat.mul_one]
  ·obtain ⟨ad',h1,h2⟩ := qAa (r3 W' hW) hp
   injection h1 with h1
   subst h1
   exact h2
 ·rename_i ty id off kk z ht he hz
  split at hv
  case isTrue => exact hv.elim
  rename_i hne
  obtain ⟨_,⟨b0,b1⟩,hv⟩ := hv
  refine q1o hv (by rw [ho]; rfl) fun {_ _ _ _ _ _ c W} hN hs hc _ => ?_
  have hr := q2z hs hN (hc x hx)
  rw [he] at hr
  obtain ⟨b,r1,r2⟩ := hr
  obtain ⟨nn,e,ie,q1,q2,q3,q4⟩ := (hT t ty ht).arr hne
  exact ⟨_,q5e (s := Instr.indexAt t (c.eval x) (c.eval i)) (by simp [execOp,ho]) (by rw [r2,qCf hs hN (hc i hi) hz]; simp [Instr.indexAt,run_underlying q1,asIntOf,Instr.sureAddr,q3g q3,q4,b0,show z < nn by omega]; rfl),b,r1,by rw [q5b]⟩
 ·exact hv.elim
theorem qMn {s t : TypeId} {x : Operand} (hT : q4w P T) (ho : o.op = .convert s t x) (hv : val T a H o k) : qBp P a H o k := by
 have hx : x ∈ o.op.operands.toList := by rw [ho]; simp [Op.operands]
 simp only [val,ho] at hv
 split at hv
 case h_2 => exact hv.elim
 rename_i ks kd k' n hs1 ht1 he
 obtain ⟨sy,hs1,hks⟩ := Option.bind_eq_some_iff.1 hs1
 obtain ⟨ty,ht1,hkd⟩ := Option.bind_eq_some_iff.1 ht1
 obtain ⟨d,g1,_,g2,_⟩ := (hT s _ hs1).und
 obtain ⟨d',g1',_,g2',_⟩ := (hT t _ ht1).und
 have e1 := g2 ks hks
 have e2 := g2' kd hkd
 subst e1 e2
 refine q1o (hv _ rfl) (by rw [ho]; rfl) fun {_ _ _ _ _ _ c W} hN hs hc _ => ?_
 exact ⟨.int kd (kd.wrap n),q5e (s := Go.convert s t (c.eval x)) (by simp [execOp,ho]) (by rw [qCf hs hN (hc x hx) he]; simp [Go.convert,run_underlying g1,run_underlying g1',Conv.intToInt]),rfl⟩
theorem qKw {f : FuncId} {first caught : Array Operand} (ho : o.op = .makeFunc (.func f) first caught) (hv : val T a H o k) : qBp P a H o k := by
 simp only [val,ho] at hv
 split at hv
 case isFalse => exact hv.elim
 rename_i hf
 have e : first = #[] := Array.toList_inj.1 hf
 subst e
 refine q1o hv (by rw [ho]; rfl) fun {_ _ _ _ _ _ c W} hN hs hc _ => ?_
 exact ⟨.func (.func f) #[] (caught.map c.eval),q5e (s := Instr.makeFunc (.func f) (#[].map c.eval) (caught.map c.eval)) (by simp [execOp,ho]) (by simp [Instr.makeFunc]),caught.toList.map c.eval,by congr 1; exact Array.toList_inj.1 (by simp),q7n hs hN fun x hx => hc x (by rw [ho]; simp [Op.operands] at hx ⊢; exact hx)⟩
theorem qHc {args : Array Operand} {w : U} (hs : St base S N G m K c W) (hN : a.length = N) (hc : ∀ x ∈ args.toList,Cov a G x) (he : ovs a args = [w]) : ∃ v,args.toList.map c.eval = [v] ∧ Rep (q3o base S (own m K)) W m w v := by
 have hr := q7n hs hN hc
 unfold ovs at he
 rw [he] at hr
 match hq : args.toList.map c.eval,hr with
 | [v],hr => exact ⟨v,rfl,hr.1⟩
 | _ :: _ :: _,hr => exact hr.2.elim
 | [],hr => exact hr.elim
theorem qUx {args : Array Operand} {ts : Array TypeId} (hT : q4w P T) (ho : o.op = .call { callee := .builtin .len,args := args,argTypes := ts }) (hv : val T a H o k) : qBp P a H o k := by
 have hcov : ∀ x ∈ args.toList,x ∈ o.op.operands.toList := fun x hx => by rw [ho]; simp [Op.operands,Call.operands]; simpa using hx
 simp only [val,ho] at hv
 split at hv
 case isFalse => exact hv.elim
 rename_i hty
 simp only [Option.map_eq_some_iff,Option.bind_eq_some_iff] at hty
 obtain ⟨ty,⟨t,ht0,ht⟩,hsr⟩ := hty
 obtain ⟨d,g1,_,_,_,_,_,g2,_⟩ := (hT t _ ht).und
 obtain ⟨e,rfl⟩ := g2 hsr
 have ht1 : ts[0]? = some t := by rw [← Array.getElem?_toList,← List.head?_eq_getElem?]; exact ht0
 have hrun : ∀ (c : Act) (W : World) A n cc,(args.toList.map c.eval) = [.slice A n cc] → (execOp c.eval o).run P W = .ok (.value (.int .i64 n)) W := fun c W A n cc he => by
  have : args.map c.eval = #[.slice A n cc] := Array.toList_inj.1 (by simpa using he)
  simp [execOp,ho,resolve,this,invoke,Deferred.ofValue,builtin,Builtin.len_,ht1,run_underlying g1,goInt]
 split at hv
 case h_5 => exact hv.elim
 ·rename_i he
  refine q1o (hv _ rfl) (by rw [ho]; rfl) fun {_ _ _ _ _ _ c W} hN hs hc _ => ?_
  obtain ⟨v,e1,A,cc,rfl,_⟩ := qHc hs hN (fun x hx => hc x (hcov x hx)) he
  exact ⟨_,hrun _ _ _ _ _ e1,rfl⟩
 ·rename_i he
  refine q1o (hv _ rfl) (by rw [ho]; rfl) fun {_ _ _ _ _ _ c W} hN hs hc _ => ?_
  obtain ⟨v,e1,A,cc,rfl,_⟩ := qHc hs hN (fun x hx => hc x (hcov x hx)) he
  exact ⟨_,hrun _ _ _ _ _ e1,rfl⟩
 ·rename_i he
  refine q1o hv (by rw [ho]; rfl) fun {_ _ _ _ _ _ c W} hN hs hc _ => ?_
  obtain ⟨v,e1,b,_,h0,_,rfl⟩ := qHc hs hN (fun x hx => hc x (hcov x hx)) he
  exact ⟨_,hrun _ _ _ _ _ e1,by show Value.int .i64 _ = _; rw [Int.toNat_of_nonneg h0]⟩
 ·rename_i he
  refine q1o hv (by rw [ho]; rfl) fun {_ _ _ _ _ _ c W} hN hs hc _ => ?_
  obtain ⟨v,e1,e2⟩ := qHc hs hN (fun x hx => hc x (hcov x hx)) he
  have e2 : v = _ := e2
  subst e2
  exact ⟨_,hrun _ _ _ _ _ e1,rfl⟩
theorem j3d {ok : Nat → Prop} {u : U} {v : Value} {b : Bool} (hr : Rep ok W m u v) (h : nilS u = some b) : (b = true ∧ ∃ n cc,v = .slice none n cc) ∨ (b = false ∧ ∃ A n cc,v = .slice (some A) n cc) := by
 unfold nilS at h
 split at h
 ·injection h with h; have hr : v = _ := hr; subst hr; exact .inl ⟨h.symm,_,_,rfl⟩
 ·injection h with h; obtain ⟨b,_,_,_,rfl⟩ := hr; exact .inr ⟨h.symm,_,_,_,rfl⟩
 ·injection h with h
  obtain ⟨A,cc,rfl,_,hx⟩ := hr
  rcases hx with hx | ⟨ad,rfl,_⟩
  ·cases hx
  ·exact .inr ⟨h.symm,_,_,_,rfl⟩
 ·cases h
theorem j2b {ok : Nat → Prop} {u : U} {v : Value} {b : Bool} (hr : Rep ok W m u v) (h : nilP u = some b) : (b = true ∧ v = .pointer none) ∨ (b = false ∧ ∃ A,v = .pointer (some A)) := by
 unfold nilP at h
 split at h
 ·injection h with h; have hr : v = _ := hr; exact .inl ⟨h.symm,hr⟩
 ·injection h with h; obtain ⟨b,_,rfl⟩ := hr; exact .inr ⟨h.symm,_,rfl⟩
 ·cases h
theorem qOc {op : BinOp} {b : Bool} {u : U} (h : eqB op b = some u) : (op = .eql ∧ u = .v (.bool b)) ∨ (op = .neq ∧ u = .v (.bool (!b))) := by
 unfold eqB at h
 split at h
 ·injection h with h; exact .inl ⟨rfl,h.symm⟩
 ·injection h with h; exact .inr ⟨rfl,h.symm⟩
 ·cases h
theorem qWb {op : BinOp} {t ty' : TypeId} {x y : Operand} (hT : q4w P T) (ho : o.op = .binOp op t x y ty') (hv : val T a H o k) : qBp P a H o k := by
 have hx : x ∈ o.op.operands.toList := by rw [ho]; simp [Op.operands]
 have hy : y ∈ o.op.operands.toList := by rw [ho]; simp [Op.operands]
 simp only [val,ho] at hv
 have fin : ∀ z : Value, k (.v z) H → (∀ {base : Nat} {S : Nat → Prop} {N : Nat} {G : Nat → U → Prop} {m : Map} {K : Kn} {c : Act} {W : World}, a.length = N → St base S N G m K c W → Cov a G x → Cov a G y →
   (do eqGuard op t x y (c.eval x) (c.eval y); Go.binOp op t (c.eval x) (c.eval y) : Sem Value).run P W = .ok z W) → qBp P a H o k := fun z hk hz =>
  q1o hk (by rw [ho]; rfl) fun {_ _ _ _ m K c W} hN hs hc _ => ⟨z,q5e (s := do eqGuard op t x y (c.eval x) (c.eval y); Go.binOp op t (c.eval x) (c.eval y)) (by simp [execOp,ho]) (hz hN hs (hc x hx) (hc y hy)),rfl⟩
 unfold bin at hv
 split at hv
 ·rename_i kd p k' q hp hq
  split at hv
  case isFalse => exact hv.elim
  rename_i hk
  subst hk
  have ints : ∀ z : Value,k (.v z) H → (∀ W : World,(do eqGuard op t x y (.int kd p) (.int kd q); Go.binOp op t (.int kd p) (.int kd q) : Sem Value).run P W = .ok z W) → qBp P a H o k := fun z hk hz =>
   fin z hk fun hN hs hcx hcy => by rw [qCf hs hN hcx hp,qCf hs hN hcy hq]; exact hz _
  unfold binI at hv
  split at hv
  ·exact ints _ (hv _ rfl) fun W => by simp [eqGuard_at_int,Go.binOp,Op.intArith,Op.intCmp]
  ·exact ints _ (hv _ rfl) fun W => by simp [eqGuard_at_int,Go.binOp,Op.intArith,Op.intCmp]
  ·exact ints _ (hv _ rfl) fun W => by simp [eqGuard_at_int,Go.binOp,Op.intArith,Op.intCmp]
  ·obtain ⟨_,hv1,hv⟩ := hv
   have hn0 : ¬ q = 0 := by omega
   exact ints _ (hv _ rfl) fun W => by simp [eqGuard_at_int,Go.binOp,Op.intDiv,hn0]
  ·exact ints _ (hv (decide (p = q)) (by simp)) fun W => by simp [eqGuard_at_int,Go.binOp,Op.intCmp]; try rw [Bool.eq_iff_iff]; simp
  ·exact ints _ (hv (decide (¬ p = q)) (by simp)) fun W => by simp [eqGuard_at_int,Go.binOp,Op.intCmp]; try rw [Bool.eq_iff_iff]; simp
  ·exact ints _ (hv (decide (p < q)) (by simp)) fun W => by simp [eqGuard_at_int,Go.binOp,Op.intCmp]
  ·exact ints _ (hv (decide (p ≤ q)) (by simp)) fun W => by simp [eqGuard_at_int,Go.binOp,Op.intCmp]
  ·exact ints _ (hv (decide (q < p)) (by simp)) fun W => by simp [eqGuard_at_int,Go.binOp,Op.intCmp]
  ·exact ints _ (hv (decide (q ≤ p)) (by simp)) fun W => by simp [eqGuard_at_int,Go.binOp,Op.intCmp]
  ·exact hv.elim
 ·rename_i b b' hp hq
  split at hv
  case isFalse => exact hv.elim
  rename_i hb
  simp only [Option.map_eq_some_iff] at hb
  obtain ⟨ty,ht,hb⟩ := hb
  obtain ⟨d,g1,_,_,g2,_⟩ := (hT t _ ht).und
  have hu : P.underlying t = some .bool := by rw [g1,g2 hb]
  have he : ∀ W : World,(Op.equal t (.bool b) (.bool b')).run P W = .ok (b == b') W := fun W => by
   have key : ∀ d,(Op.equalIn (d + 1) t (.bool b) (.bool b')).run P W = .ok (b == b') W := fun d => by
    unfold Op.equalIn
    simp [run_underlying hu]
   exact key 9999
  split at hv
  ·exact fin _ (hv _ rfl) fun hN hs hcx hcy => by rw [qCf hs hN hcx hp,qCf hs hN hcy hq]; simp [eqGuard_at_bool,Go.binOp,he]
  ·exact fin _ (hv _ rfl) fun hN hs hcx hcy => by rw [qCf hs hN hcx hp,qCf hs hN hcy hq]; simp [eqGuard_at_bool,Go.binOp,he,bne]
  ·exact hv.elim
 ·rename_i us ws hp hq
  split at hv
  case h_2 => exact hv.elim
  rename_i ty ht
  split at hv
  case isFalse => exact hv.elim
  rename_i hb
  split at hv
  case h_2 => exact hv.elim
  rename_i r hr
  have hdec : Decidable r := Classical.propDecidable r
  refine fin (.bool (decide r)) (hv (decide r) (by simp)) fun {base S N G m K c W} hN hs hcx hcy => ?_
  have r1 := q2z hs hN hcx
  have r2 := q2z hs hN hcy
  rw [hp] at r1
  rw [hq] at r2
  obtain ⟨vs,e1,e2,_⟩ := r1
  obtain ⟨zs,f1,f2,_⟩ := r2
  rw [e1,f1]
  exact (hT t _ ht).flat hb.1 x y us ws r _ _ W vs zs (decide r) hb.2 hr (by simp) e2 f2
 ·rename_i n0 c0 hq
  split at hv
  case isFalse => exact hv.elim
  rename_i hb
  simp only [Option.map_eq_some_iff] at hb
  obtain ⟨ty,ht,hb⟩ := hb
  split at hv
  case h_2 => exact hv.elim
  rename_i w hw
  obtain ⟨b,hb1,hb2⟩ := Option.bind_eq_some_iff.1 hw
  obtain ⟨d,g1,_,_,_,_,_,g2,_⟩ := (hT t _ ht).und
  obtain ⟨e,rfl⟩ := g2 hb
  have hz : ∃ z,w = .v z ∧ ∀ {base : Nat} {S : Nat → Prop} {N : Nat} {G : Nat → U → Prop} {m : Map} {K : Kn} {c : Act} {W : World},a.length = N → St base S N G m K c W → Cov a G x → Cov a G y →
    (do eqGuard op t x y (c.eval x) (c.eval y); Go.binOp op t (c.eval x) (c.eval y) : Sem Value).run P W = .ok z W := by
   rcases qOc hb2 with ⟨rfl, rfl⟩ | ⟨rfl, rfl⟩ <;> refine ⟨_, rfl, fun {base S N G m K c W} hN hs hcx hcy => ?_⟩ <;>      (
    have hr := j3d (q2z hs hN hcx) hb1
    rw [qCf hs hN hcy hq]
    have he : (Op.equal t (c.eval x) (.slice none n0 c0)).run P W = .ok b W := by
     have key : ∀ d,(Op.equalIn (d + 1) t (c.eval x) (.slice none n0 c0)).run P W = .ok b W := fun d => by
      unfold Op.equalIn
      rcases hr with ⟨rfl,n,cc,hu⟩ | ⟨rfl,A,n,cc,hu⟩ <;> rw [hu] <;> simp [run_underlying g1]
     exact key 9999
    rcases hr with ⟨rfl, n, cc, hu⟩ | ⟨rfl, A, n, cc, hu⟩ <;> rw [hu] at he ⊢ <;> simp [eqGuard, Go.binOp, he, bne])
  obtain ⟨z,rfl,hz⟩ := hz
  exact fin z hv hz
 ·rename_i hq
  split at hv
  case isFalse => exact hv.elim
  rename_i hb
  simp only [Option.map_eq_some_iff] at hb
  obtain ⟨ty,ht,hb⟩ := hb
  split at hv
  case h_2 => exact hv.elim
  rename_i w hw
  obtain ⟨b,hb1,hb2⟩ := Option.bind_eq_some_iff.1 hw
  obtain ⟨d,g1,_,_,_,_,_,_,g2⟩ := (hT t _ ht).und
  obtain ⟨e,rfl⟩ := g2 hb
  have hz : ∃ z,w = .v z ∧ ∀ {base : Nat} {S : Nat → Prop} {N : Nat} {G : Nat → U → Prop} {m : Map} {K : Kn} {c : Act} {W : World},a.length = N → St base S N G m K c W → Cov a G x → Cov a G y →
    (do eqGuard op t x y (c.eval x) (c.eval y); Go.binOp op t (c.eval x) (c.eval y) : Sem Value).run P W = .ok z W := by
   rcases qOc hb2 with ⟨rfl, rfl⟩ | ⟨rfl, rfl⟩ <;> refine ⟨_, rfl, fun {base S N G m K c W} hN hs hcx hcy => ?_⟩ <;>      (
    have hr := j2b (q2z hs hN hcx) hb1
    rw [qCf hs hN hcy hq]
    have he : (Op.equal t (c.eval x) (.pointer none)).run P W = .ok b W := by
     have key : ∀ d,(Op.equalIn (d + 1) t (c.eval x) (.pointer none)).run P W = .ok b W := fun d => by
      unfold Op.equalIn
      rcases hr with ⟨rfl,hu⟩ | ⟨rfl,A,hu⟩ <;> rw [hu] <;> simp [run_underlying g1]
     exact key 9999
    rcases hr with ⟨rfl, hu⟩ | ⟨rfl, A, hu⟩ <;> rw [hu] at he ⊢ <;> simp [eqGuard, Go.binOp, he, bne])
  obtain ⟨z,rfl,hz⟩ := hz
  exact fin z hv hz
 ·exact hv.elim
end
end Go.Proofs.YtjkcmnedolfkjaaGreat.Rd
end
section
set_option linter.unusedVariables false
set_option linter.unusedSimpArgs false
namespace Go.Proofs.YtjkcmnedolfkjaaGreat.Rd
open Go Go.RowKit Go.Proofs.YtjkcmnedolfkjaaGreatW.PrintWords
theorem qFy (H : q1f) (x : Option Ob) (id : Nat) : q0r (H ++ [x]) id = if id = H.length then x else q0r H id := by
  unfold q0r
  by_cases e : id = H.length
  · subst e; simp
  · rw [if_neg e]
    by_cases hlt : id < H.length
    · rw [List.getElem?_append_left hlt]
    · rw [List.getElem?_eq_none (l := H) (by omega),List.getElem?_eq_none (by simp; omega)]
theorem q5r (H : q1f) (x : Option Ob) {i : Nat} (hi : i < H.length) (id : Nat) : q0r (H.set i x) id = if id = i then x else q0r H id := by
  unfold q0r
  rw [List.getElem?_set]
  by_cases e : id = i
  · subst e; simp [hi]
  · rw [if_neg e,if_neg (Ne.symm e)]
theorem q6r {H : q1f} {id : Nat} {ob : Ob} (h : q0r H id = some ob) : id < H.length := by
  unfold q0r at h
  rcases Nat.lt_or_ge id H.length with h1 | h1
  · exact h1
  · rw [List.getElem?_eq_none h1] at h; cases h
theorem qHr (H : q1f) (x : Option Ob) : ∀ id,id ∉ [H.length] → (H ++ [x])[id]? = H[id]? := fun id hid => by
  have : id ≠ H.length := by simpa using hid
  by_cases hlt : id < H.length
  · rw [List.getElem?_append_left hlt]
  · rw [List.getElem?_eq_none (l := H) (by omega),List.getElem?_eq_none (by simp; omega)]
section
variable {P : Program} {T : Tab} {a : List U} {base : Nat} {S : Nat → Prop} {N : Nat} {G : Nat → U → Prop} {m : Map} {K : Kn} {c : Act} {W : World} {H : q1f} {o : Oper} {k : U → q1f → Prop}
theorem q7d {ob : Ob} {u : U} (hk : k u (H ++ [some ob])) (hw : qGw a H o.op = [H.length])         (h : ∀ {base : Nat} {S : Nat → Prop} {N : Nat} {G : Nat → U → Prop} {m : Map} {K : Kn} {c : Act} {W : World}, a.length = N → St base S N G m K c W → (∀ x ∈ o.op.operands.toList, Cov a G x) →
    ∃ v vs te, (execOp c.eval o).run P W = .ok (.value v) (W.alloc (.cells vs.toArray te (0, 0))) ∧ ob.rep (q3o base S (own m K)) W m vs ∧ (∀ v ∈ vs, v.oneCell' = true) ∧ ∀ (ok : Nat → Prop) W' (m' : Map), m' H.length = some W.heap.size → Rep ok W' m' u v) : qBp P a H o k := by
  refine ⟨u,_,hk,?_⟩
  rw [hw]
  refine ⟨qHr H _,by simp,fun {_ _ _ _ m K c W} hN hs hc _ hnew => ?_⟩
  obtain ⟨v,vs,te,h1,h2,h3,h4⟩ := h hN hs hc
  have hm := hnew H.length (Nat.le_refl _) (by simp)
  refine ⟨upM m H.length W.heap.size,upK K H.length ob,_,_,h1,.inl ⟨v,rfl,h4 _ _ _ (by unfold upM; rw [if_pos rfl])⟩,q4u.alloc hs.hp hm ob _,hs.hp.alloc hs.big hm h2 h3,fun id ob' => ?_,fun id hid => ?_⟩
  · unfold upK
    rw [qFy]
    by_cases e : id = H.length
    · subst e
      simp only [List.mem_singleton,if_true,Option.some.injEq]
      exact ⟨fun h => h.symm,fun h => h.symm⟩
    · simp [e]
  · unfold upM at hid
    by_cases e : id = H.length
    · exact .inr ⟨by simp [e],by simp [e]⟩
    · rw [if_neg e] at hid; exact .inl hid
theorem j2z {t : TypeId} {x : Operand} (ho : o.op = .box t x) (hv : val T a H o k) : qBp P a H o k := by
  have hx : x ∈ o.op.operands.toList := by rw [ho]; simp [Op.operands]
  simp only [val,ho] at hv
  split at hv
  case h_2 => exact hv.elim
  rename_i cs hcs
  refine q7d hv (by rw [ho]; rfl) fun {_ _ _ _ _ _ c W} hN hs hc => ?_
  obtain ⟨vs,e1,e2,e3⟩ := qAw (q2z hs hN (hc x hx)) hcs
  exact ⟨_,vs,t,q5e (s := Instr.box t (c.eval x)) (by simp [execOp,ho]) (by simp [Instr.box,newVar,newRow,e1]),e2,e3,fun _ _ _ hm => ⟨_,hm,rfl⟩⟩
theorem qWl {t : TypeId} (hT : q4w P T) (ho : o.op = .alloc t) (hv : val T a H o k) : qBp P a H o k := by
  simp only [val,ho] at hv
  split at hv
  case h_2 => exact hv.elim
  rename_i ty ht
  obtain ⟨i,z,vs,h1,h2,h3,h4,h5,h6⟩ := (hT t ty ht).info
  refine q7d hv (by rw [ho]; rfl) fun {_ _ _ _ _ _ c W} hN hs hc => ?_
  have hz : (zeroValue t).run P W = .ok z W := by simp [zeroValue,typeInfo,h1,h3]
  exact ⟨_,vs,t,q5e (s := Instr.alloc t true (.tuple #[])) (by simp [execOp,ho]) (by simp [Instr.alloc,hz,newVar,newRow,h4]),h5 _ _ _,h6,fun _ _ _ hm => ⟨_,hm,rfl⟩⟩
theorem q5u (vs : List Value) : ∀ n,(madeCells vs.toArray (n * vs.length)).toList = (List.replicate n vs).flatten
  | 0 => by simp [madeCells]
  | n + 1 => by
    have ih := q5u vs n
    unfold madeCells at ih ⊢
    rw [Array.toList_map,Array.toList_range] at ih ⊢
    rw [Nat.succ_mul,List.range_add,List.map_append,ih,List.replicate_succ',List.flatten_append]
    congr 1
    simp only [List.flatten_cons,List.flatten_nil,List.append_nil,List.map_map]
    apply List.ext_getElem
    · simp
    · intro r h1 h2
      have hr : r < vs.length := by simpa using h1
      simp [Nat.mod_eq_of_lt hr,hr]
theorem qIz (n : Nat) (x : Value) : (List.replicate n [x]).flatten = List.replicate n x := by
  induction n with
  | zero => rfl
  | succ n ih => rw [List.replicate_succ,List.flatten_cons,ih,List.replicate_succ]; rfl
theorem qHo {t : TypeId} {x y : Operand} (hT : q4w P T) (ho : o.op = .makeSlice t x y) (hv : val T a H o k) : qBp P a H o k := by
  have hx : x ∈ o.op.operands.toList := by rw [ho]; simp [Op.operands]
  have hy : y ∈ o.op.operands.toList := by rw [ho]; simp [Op.operands]
  simp only [val,ho] at hv
  split at hv
  case h_2 => exact hv.elim
  rename_i ty kk n k' n' ht he1 he2
  split at hv
  case isTrue => exact hv.elim
  rename_i hc0
  obtain ⟨_,⟨h0,hle,rfl⟩,hv⟩ := hv
  have hne : ty.elem ≠ [] := fun h => hc0 (.inl h)
  have hag : ty.agg = false := Bool.eq_false_iff.2 fun h => hc0 (.inr h)
  obtain ⟨d,g1,g0,_,_,_,g4,_⟩ := (hT t _ ht).und
  obtain ⟨e,ie,z,vs,hd,q1,q2,q3,q4,q5,q6,q7,q8⟩ := g4 hne
  have hsl : d = .slice e := by
    rcases hd with hd | ⟨q,hd⟩
    · exact hd
    · subst hd
      rw [hag] at g0
      cases g0
  subst hsl
  have go : ∀ {base : Nat} {S : Nat → Prop} {N : Nat} {G : Nat → U → Prop} {m : Map} {K : Kn} {c : Act} {W : World},a.length = N → St base S N G m K c W → (∀ x ∈ o.op.operands.toList,Cov a G x) →
      (execOp c.eval o).run P W = .ok (.value (.slice (some ⟨W.heap.size,0,none⟩) n'.toNat n'.toNat)) (W.alloc (.cells ((List.replicate n'.toNat vs).flatten).toArray e (0,0))) ∧ ∀ v ∈ (List.replicate n'.toNat vs).flatten,v.oneCell' = true := fun {base S _ _ m K c W} hN hs hc => by
    have hrun := run_make (P := P) (w := W) t e ie z g1 q1 q3 kk k' n' n' h0 (Int.le_refl _) (by
      have : (ie.bytes : Int) ≤ 65536 := by omega
      have h2 : (ie.bytes : Int) * n' ≤ 65536 * n' := Int.mul_le_mul_of_nonneg_right this h0
      omega) (by omega)
    have hlen : vs.length = ty.elem.length := ((q5 (fun _ => True) W noM).len).symm
    have hcells : madeCells z.cells (n'.toNat * ie.size) = ((List.replicate n'.toNat vs).flatten).toArray := by
      apply Array.toList_inj.1
      rw [q4,q2,← hlen,q5u]
    rw [hcells] at hrun
    exact ⟨q5e (s := Instr.makeSlice t (c.eval x) (c.eval y)) (by simp [execOp, ho]) (by rw [qCf hs hN (hc x hx) he1, qCf hs hN (hc y hy) he2]; exact hrun), fun v hv => by
      obtain ⟨l,hl,hv⟩ := List.mem_flatten.1 hv
      rw [List.eq_of_mem_replicate hl] at hv
      exact q6 v hv⟩
  split at hv
  · rename_i hL
    refine q7d (hv _ rfl) (by rw [ho]; rfl) fun {base S _ _ m K c W} hN hs hc => ?_
    obtain ⟨r1,r2⟩ := go hN hs hc
    refine ⟨_,_,e,r1,?_,r2,fun _ _ _ hm => ⟨_,hm,h0,Int.le_refl _,rfl⟩⟩
    have he := q8 hL
    have hvs := q5 (fun _ => True) W noM
    rw [he] at hvs
    match vs,hvs with
    | [v],hvs =>
      have hv : v = _ := hvs.1
      subst hv
      refine ⟨?_,by show (List.replicate _ _).length ≤ _; rw [List.length_replicate]; omega⟩
      show _ = List.map _ (List.replicate n'.toNat 0)
      rw [qIz,List.map_replicate]
    | [],hvs => exact hvs.elim
    | _ :: _ :: _,hvs => exact hvs.2.elim
  · refine q7d (hv _ rfl) (by rw [ho]; rfl) fun {base S _ _ m K c W} hN hs hc => ?_
    obtain ⟨r1,r2⟩ := go hN hs hc
    exact ⟨_,_,e,r1,⟨Reps.flat (q5 _ W noM) n'.toNat,fun us hus => by rw [List.eq_of_mem_replicate hus]⟩,r2,fun _ _ _ hm => ⟨_,hm,h0,Int.le_refl _,rfl⟩⟩
theorem qCs {u : U} {id : Nat} {ob : Ob} {ob0 : Ob} (h0 : q0r H id = some ob0) {rd : List Nat}          (h : ∀ {base : Nat} {S : Nat → Prop} {N : Nat} {G : Nat → U → Prop} {m : Map} {K : Kn} {c : Act} {W : World}, a.length = N → St base S N G m K c W → (∀ x ∈ o.op.operands.toList, Cov a G x) → K id ob0 →
    ∃ b vs te W' nx, m id = some b ∧ (execOp c.eval o).run P W = .ok nx W' ∧ ((∃ v, nx = .value v ∧ ∀ ok W' m', Rep ok W' m' u v) ∨ (nx = .skip ∧ o.dst = none)) ∧ W' = W.setRow b vs.toArray ∧ ob.rep (q3o base S (own m K)) W m vs ∧ (∀ v ∈ vs, v.oneCell' = true) ∧ ∃ old, W.heap[b]? = some (.cells old te (0, 0))) :
    Loc P a H o u (H.set id (some ob)) rd [id] := by
  refine ⟨fun j hj => ?_,by simp,fun {_ _ _ _ m K c W} hN hs hc hr _ => ?_⟩
  · rw [List.getElem?_set,if_neg (by simpa using Ne.symm (by simpa using hj))]
  · have hK := hr id ob0 (.inr (by simp)) h0
    obtain ⟨b,vs,te,W',nx,e1,e2,e3,rfl,e5,e6,old,e7⟩ := h hN hs hc hK
    have hg := q4u.write (W' := W.setRow b vs.toArray) (ob := ob) hK e1 (fun k hk => setRow_other W b k _ hk) (by simp) rfl rfl rfl
    refine ⟨m,upK K id ob,_,nx,e2,?_,hg,hs.hp.write hK e1 e5 e6 (setRow_heap W b _ _ _ _ e7) hg (fun k hk => setRow_other W b k _ hk),fun j ob' => ?_,fun j hj => .inl hj⟩
    · rcases e3 with ⟨v,g1,g2⟩ | g
      · exact .inl ⟨v,g1,g2 _ _ _⟩
      · exact .inr g
    · unfold upK
      rw [q5r _ _ (q6r h0)]
      by_cases e : j = id
      · subst e
        simp only [List.mem_singleton,if_true,Option.some.injEq]
        exact ⟨fun h => h.symm,fun h => h.symm⟩
      · simp [e]
theorem qC {t : TypeId} {ty : Ty} (ht : TyOk P t ty) {b off : Nat} {te : TypeId} {vs ws : List Value} {y : Value} (g2 : W.heap[b]? = some (.cells vs.toArray te (0,0))) (f1 : y.cells = ws.toArray) (hl : ws.length = ty.zero.length) (hle : off + ws.length ≤ vs.length) (f3 : ∀ v ∈ ws,v.oneCell' = true) :
    (storeVar t ⟨b,off,none⟩ y).run P W = .ok () (W.setRow b (vs.take off ++ ws ++ vs.drop (off + ws.length)).toArray) := by
  obtain ⟨i,_,_,hi,hsz,_⟩ := ht.info
  have hso : (sizeOf t).run P W = .ok ty.zero.length W := by rw [← hsz]; exact q3g hi W
  have hst := run_storeCells_at P b off te ws 0 vs.toArray W g2 (by simpa using hle) f3
  simp only [Nat.add_zero] at hst
  simp [storeVar,hso,f1,hl,hst]
theorem qI {vs ws : List Value} {off n : Nat} (h1 : ∀ v ∈ vs,v.oneCell' = true) (h2 : ∀ v ∈ ws,v.oneCell' = true) : ∀ v ∈ vs.take off ++ ws ++ vs.drop n,v.oneCell' = true := fun v hv => by
  simp only [List.mem_append] at hv
  rcases hv with (hv | hv) | hv
  · exact h1 v (List.mem_of_mem_take hv)
  · exact h2 v hv
  · exact h1 v (List.mem_of_mem_drop hv)
theorem qAg {us cs us' : List U} {off : Nat} (h : over us off cs = some us') : off + cs.length ≤ us.length ∧ us' = us.take off ++ cs ++ us.drop (off + cs.length) := by
  unfold over at h
  split at h
  · injection h with h; exact ⟨‹_›,h.symm⟩
  · cases h
theorem qCy {k : Nat} : ∀ {xs : Rows} {i off : Nat} {us cs : List U},(∀ us ∈ xs,us.length = k) → xs[i]? = some us → off + cs.length ≤ us.length →
    (xs.set i (us.take off ++ cs ++ us.drop (off + cs.length))).flatten = xs.flatten.take (i * k + off) ++ cs ++ xs.flatten.drop (i * k + off + cs.length)
  | [],_,_,_,_,_,h,_ => by simp at h
  | ys :: rest,0,off,us,cs,hl,h,hw => by
    simp at h
    subst h
    simp only [List.set_cons_zero,List.flatten_cons,Nat.zero_mul,Nat.zero_add]
    rw [List.take_append_of_le_length (by omega),List.drop_append_of_le_length hw]
    simp [List.append_assoc]
  | ys :: rest,i + 1,off,us,cs,hl,h,hw => by
    have hy : ys.length = k := hl ys (by simp)
    simp only [List.set_cons_succ,List.flatten_cons]
    rw [qCy (k := k) (fun us h => hl us (by simp [h])) (by simpa using h) hw]
    rw [show (i + 1) * k + off = ys.length + (i * k + off) by rw [hy,Nat.succ_mul]; omega,show ys.length + (i * k + off) + cs.length = ys.length + (i * k + off + cs.length) by omega,List.take_length_add_append,List.drop_length_add_append]
    simp [List.append_assoc]
theorem qVw {k : Nat} : ∀ {xs : Rows} {i : Nat} {us : List U},(∀ us ∈ xs,us.length = k) → xs[i]? = some us → i * k + k ≤ xs.flatten.length
  | [],_,_,_,h => by simp at h
  | ys :: rest,0,us,hl,h => by
    have hy : ys.length = k := hl ys (by simp)
    simp [hy]
  | ys :: rest,i + 1,us,hl,h => by
    have hy : ys.length = k := hl ys (by simp)
    have := qVw (k := k) (xs := rest) (i := i) (us := us) (fun us h => hl us (by simp [h])) (by simpa using h)
    simp only [List.flatten_cons,List.length_append,hy,Nat.succ_mul]
    omega
theorem qS {t : TypeId} {x y : Operand} (hT : q4w P T) (ho : o.op = .store t x y) (hv : val T a H o k) : qBp P a H o k := by
  have hx : x ∈ o.op.operands.toList := by rw [ho]; simp [Op.operands]
  have hy : y ∈ o.op.operands.toList := by rw [ho]; simp [Op.operands]
  have hwo : qGw a H o.op = qKs (ov a x) := by rw [ho]; rfl
  have hst : ∀ (c : Act) (ad : Addr) (W W' : World),c.eval x = .pointer (some ad) → (storeVar t ad (c.eval y)).run P W = .ok () W' → (execOp c.eval o).run P W = .ok .skip W' := fun c ad W W' h1 h2 => by
    rw [show execOp c.eval o = (do Instr.storeAt t (c.eval x) (c.eval y); pure .skip) from by simp [execOp,ho],h1]
    simp [Instr.storeAt,Instr.sureAddr,h2]
  simp only [val,ho] at hv
  split at hv
  · rename_i ty id off cs ht hp hcs hd
    split at hv
    case isFalse => exact hv.elim
    rename_i hl
    split at hv
    case h_2 => exact hv.elim
    rename_i H' hu
    unfold qOu at hu
    split at hu
    case h_2 => cases hu
    rename_i us hus
    obtain ⟨us',ho',rfl⟩ := Option.map_eq_some_iff.1 hu
    obtain ⟨hle,rfl⟩ := qAg ho'
    refine ⟨_,_,hv,?_⟩
    rw [hwo,hp]
    refine qCs hus fun {base S N G m K c W} hN hs hc hK => ?_
    have hrx := q2z hs hN (hc x hx)
    rw [hp] at hrx
    obtain ⟨b,r1,r2⟩ := hrx
    obtain ⟨ws,f1,f2,f3⟩ := qAw (q2z hs hN (hc y hy)) hcs
    obtain ⟨b',vs,te,g1,g2,g3,g4⟩ := hs.hp.at_ id _ hK
    rw [r1] at g1
    injection g1 with g1
    subst g1
    have hl1 := Reps.len g3
    have hl2 := f2.len
    refine ⟨b,vs.take off ++ ws ++ vs.drop (off + ws.length),te,_,.skip,r1,hst c _ W _ r2 (qC (hT t ty ht) g2 f1 (by omega) (by omega) f3),.inr ⟨rfl,hd⟩,rfl,?_,qI g4 f3,_,g2⟩
    have := Reps.put g3 f2 off
    rw [hl2] at this
    show Reps _ _ _ _ _
    rw [hl2]
    exact this
  · rename_i ty id e n off cs ht hp hcs hd
    split at hv
    case isFalse => exact hv.elim
    rename_i hl
    split at hv
    case h_2 => exact hv.elim
    rename_i e' xs hus
    split at hv
    case isFalse => exact hv.elim
    rename_i hee
    subst hee
    obtain ⟨us,⟨hn0,hn1⟩,hv⟩ := hv
    obtain ⟨hl,hbare⟩ := hl
    split at hv
    case h_2 => exact hv.elim
    rename_i us' ho'
    obtain ⟨hle,rfl⟩ := qAg ho'
    refine ⟨_,_,hv _ rfl,?_⟩
    rw [hwo,hp]
    refine qCs hus fun {base S N G m K c W} hN hs hc hK => ?_
    have hrx := q2z hs hN (hc x hx)
    rw [hp] at hrx
    obtain ⟨b,r1,_,r2⟩ := hrx
    obtain ⟨ws,f1,f2,f3⟩ := qAw (q2z hs hN (hc y hy)) hcs
    obtain ⟨b',vs,te,g1,g2,⟨g3,g5⟩,g4⟩ := hs.hp.at_ id _ hK
    rw [r1] at g1
    injection g1 with g1
    subst g1
    have hl1 := Reps.len g3
    have hl2 := f2.len
    have hfl := qVw g5 hn1
    have hue := g5 us (List.mem_of_getElem? hn1)
    refine ⟨b,vs.take (n.toNat * e + off) ++ ws ++ vs.drop (n.toNat * e + off + ws.length),te,_,.skip,r1,hst c _ W _ r2 (qC (hT t ty ht) g2 f1 (by omega) (by omega) f3),.inr ⟨rfl,hd⟩,rfl,⟨?_,fun ys hys => ?_⟩,qI g4 f3,_,g2⟩
    · have := Reps.put g3 (Reps.bare f2 hbare) (n.toNat * e + off)
      show Reps _ _ _ (xs.set n.toNat _).flatten _
      rw [qCy g5 hn1 hle,← hl2]
      exact this
    · rcases List.mem_or_eq_of_mem_set hys with h | h
      · exact g5 ys h
      · rw [h]
        simp only [List.length_append,List.length_take,List.length_drop]
        omega
  · exact hv.elim
theorem qLk {ok : Nat → Prop} {place : Nat → Option (Nat × Nat)} :
    ∀ {ps : List (Nat × U)} {us us' : List U} {qs : List (Nat × Value)} {vs : List Value},qIm place us ps = some us' → Reps ok W m us vs → (∀ v ∈ vs,v.oneCell' = true) → qs.map (·.1) = ps.map (·.1) → Reps ok W m (ps.map (·.2)) (qs.map (·.2)) →
      ∃ vs' : List Value,Instr.fill place vs.toArray qs = some vs'.toArray ∧ Reps ok W m us' vs' ∧ ∀ v ∈ vs',v.oneCell' = true
  | [],us,us',[],vs,h,hr,h1,_,_ => by
    simp only [qIm,Option.some.injEq] at h
    subst h
    exact ⟨vs,rfl,hr,h1⟩
  | (i,u) :: ps,us,us',(j,y) :: qs,vs,h,hr,h1,he,hq => by
    simp only [List.map_cons,List.cons.injEq] at he
    obtain ⟨rfl,he⟩ := he
    obtain ⟨hu,hq⟩ := hq
    simp only [qIm,Option.bind_eq_some_iff] at h
    obtain ⟨⟨off,size⟩,hp,cs,hcs,h⟩ := h
    split at h
    case isFalse => cases h
    rename_i c1
    obtain ⟨us1,ho,h⟩ := Option.bind_eq_some_iff.1 h
    obtain ⟨c2,rfl⟩ := qAg ho
    obtain ⟨ws,e1,e2,e3⟩ := qAw hu hcs
    have hlen := e2.len
    have hlen2 := hr.len
    have hmid := Reps.put hr e2 off
    have hone : ∀ v ∈ vs.take off ++ ws ++ vs.drop (off + cs.length),v.oneCell' = true := qI h1 e3
    obtain ⟨vs',f1,f2,f3⟩ := qLk h hmid hone he hq
    refine ⟨vs',?_,f2,f3⟩
    simp only [Instr.fill,hp,e1]
    have hs : ¬ (ws.toArray.size ≠ size ∨ (decide (off + ws.toArray.size > vs.toArray.size)) = true) := by
      simp only [List.size_toArray,decide_eq_true_eq]
      omega
    rw [if_neg (by simpa using hs)]
    rw [← f1]
    congr 1
    clear f1 f2 f3 h hmid hone hs
    have key : ∀ (ws : List Value) (vs : List Value) (k : Nat),off + k + ws.length ≤ vs.length → ((ws.zipIdx k).foldl (fun (cs : Array Value) (x : Value × Nat) => cs.setIfInBounds (off + x.2) x.1) vs.toArray) = (vs.take (off + k) ++ ws ++ vs.drop (off + k + ws.length)).toArray := by
      intro ws
      induction ws with
      | nil => intro vs k _; simp
      | cons w ws ih =>
        intro vs k hk
        simp only [List.length_cons] at hk
        simp only [List.zipIdx_cons,List.foldl_cons,List.setIfInBounds_toArray]
        rw [ih (vs.set (off + k) w) (k + 1) (by simp; omega)]
        congr 1
        apply List.ext_getElem?
        intro m
        simp only [List.getElem?_append,List.length_append,List.length_take,List.getElem?_take,List.getElem?_drop,List.length_set,List.length_cons,List.getElem?_set,List.getElem?_cons]
        repeat' split
        all_goals first | rfl | omega | (exfalso; omega) | (congr 1; omega)
    have := key ws vs 0 (by omega)
    simp only [Nat.add_zero] at this
    rw [hlen,← this,← Array.foldl_toList,Array.toList_zipIdx]
  | [],_,_,_ :: _,_,_,_,_,he,_ => by simp at he
  | _ :: _,_,_,[],_,_,_,_,he,_ => by simp at he
theorem qGh {ps : Array (Nat × Operand)} (hs : St base S N G m K c W) (hN : a.length = N) (hx : ∀ p ∈ ps.toList,Cov a G p.2) : Reps (q3o base S (own m K)) W m ((ps.toList.map fun p => (p.1,ov a p.2)).map (·.2)) ((ps.toList.map fun p => (p.1,c.eval p.2)).map (·.2)) := by
  have := q7n hs hN (xs := ps.toList.map (·.2))      (fun x hx' => by
    obtain ⟨p,hp,rfl⟩ := List.mem_map.1 hx'
    exact hx p hp)
  rw [List.map_map,List.map_map] at this ⊢
  exact this
theorem qWs {t : TypeId} {parts : Array (Nat × Operand)} (hT : q4w P T) (ho : o.op = .build t parts) (hv : val T a H o k) : qBp P a H o k := by
  simp only [val,ho] at hv
  split at hv
  case h_2 => exact hv.elim
  rename_i us hus
  obtain ⟨ty,ht,hus⟩ := Option.bind_eq_some_iff.1 hus
  split at hus
  case isTrue => cases hus
  rename_i hne
  obtain ⟨i,z,vs,h1,h2,h3,h4,h5,h6⟩ := (hT t ty ht).info
  obtain ⟨fs,g1,g2⟩ := (hT t ty ht).places hne
  refine q1o hv (by rw [ho]; rfl) fun {base S _ _ m K c W} hN hs hc _ => ?_
  obtain ⟨vs',f1,f2,f3⟩ := qLk hus (h5 (q3o base S (own m K)) W m) h6 (by simp) (qGh (ps := parts) hs hN fun p hp => hc p.2 (by rw [ho]; simp only [Op.operands]; exact List.mem_map.2 ⟨p,hp,rfl⟩))
  refine ⟨.agg vs'.toArray,q5e (s := Instr.build t (parts.map fun (i,x) => (i,c.eval x))) (by simp [execOp,ho]) (run_build W t _ vs'.toArray ?_),vs',rfl,f2,f3⟩
  unfold Program.built
  rw [h1,g1]
  simp only [h3,g2,h4]
  rw [← f1]
  congr 1
  · funext j
    simp
  · simp
theorem qFs (k : Nat) : ∀ (n : Nat) (us : List U),us.length = n * k → (qIw k n us).flatten = us ∧ (qIw k n us).length = n ∧ ∀ x ∈ qIw k n us,x.length = k
  | 0,us,h => ⟨by rw [Nat.zero_mul] at h; rw [List.eq_nil_of_length_eq_zero h]; rfl,rfl,fun x hx => by simp [qIw] at hx⟩
  | n + 1,us,h => by
    rw [Nat.succ_mul] at h
    obtain ⟨h1,h2,h3⟩ := qFs k n (us.drop k) (by rw [List.length_drop]; omega)
    refine ⟨by rw [qIw,List.flatten_cons,h1,List.take_append_drop],by simp [qIw,h2],fun x hx => ?_⟩
    rcases List.mem_cons.1 hx with rfl | hx
    · simp; omega
    · exact h3 x hx
theorem qBt {place : Nat → Option (Nat × Nat)} : ∀ {ps : List (Nat × U)} {us us' : List U},qIm place us ps = some us' → us'.length = us.length
  | [],us,us',h => by simp only [qIm,Option.some.injEq] at h; rw [h]
  | (i,u) :: ps,us,us',h => by
    simp only [qIm,Option.bind_eq_some_iff] at h
    obtain ⟨⟨off,size⟩,hp,cs,hcs,h⟩ := h
    split at h
    case isFalse => cases h
    obtain ⟨us1,ho,h⟩ := Option.bind_eq_some_iff.1 h
    obtain ⟨c2,rfl⟩ := qAg ho
    rw [qBt h]
    simp
    omega
theorem qDw {ok : Nat → Prop} : ∀ {us : List U} {ns : List Int} {vs : List Value},qAe us = some ns → Reps ok W m us vs → vs = ns.map (Value.int .u32) ∧ ns.length = us.length
  | [],ns,[],h,_ => by simp [qAe] at h; subst h; exact ⟨rfl,rfl⟩
  | u :: us,ns,v :: vs,h,hr => by
    unfold qAe at h
    split at h
    · rename_i e; cases e
    · rename_i n us' e
      injection e with e1 e2
      subst e1 e2
      obtain ⟨ns',h1,rfl⟩ := Option.map_eq_some_iff.1 h
      have hv : v = _ := hr.1
      obtain ⟨g1,g2⟩ := qDw h1 hr.2
      rw [hv,g1]
      exact ⟨rfl,by simp [g2]⟩
    · cases h
  | [],_,_ :: _,_,hr => hr.elim
  | _ :: _,_,[],_,hr => hr.elim
theorem qSu {ok : Nat → Prop} {b : Nat} {xs : List Int} {te : TypeId} (hg : W.heap[b]? = some (.cells (xs.map (Value.int .u32)).toArray te (0,0))) (hok : ok b) (hl : xs.length ≤ 1000000) :
    Kd.F (Kd.int .u32) W ok (some ⟨b,0,none⟩) xs.length xs := fun W' hW => by
  have hg' : W'.heap[b]? = some (.cells (xs.map (Value.int .u32)).toArray te (0,0)) := by rw [hW b hok (Array.getElem?_eq_some_iff.1 hg).1]; exact hg
  refine ⟨rfl,by show xs.length ≤ 9223372036854775807; omega,fun _ => ⟨_,rfl,fun j p hj => ⟨[.int .u32 p],rfl,rfl,fun i u hi => ?_⟩⟩⟩
  cases i with
  | zero =>
    simp at hi
    subst hi
    have e1 : j * (Kd.int .u32).sz + 0 = j := by show j * 1 + 0 = j; omega
    rw [e1,q5b,Nat.zero_add]
    simp [World.cell?,hg',hj]
  | succ i => simp at hi
theorem Reps.of_nth {ok : Nat → Prop} {us : List U} {vs : List Value} (h : Reps ok W m us vs) (h1 : ∀ v ∈ vs,v.oneCell' = true) : ∀ j u,us[j]? = some u → ∃ v,vs[0 + j]? = some v ∧ Rep ok W m u v ∧ v.oneCell' = true := fun j u hj => by
  obtain ⟨v,e1,e2⟩ := h.nth hj
  exact ⟨v,by rw [Nat.zero_add]; exact e1,e2,h1 v (List.mem_of_getElem? e1)⟩
theorem qGb {u : U} (hk : k u H) (hw : qGw a H o.op = [])         (h : ∀ {base : Nat} {S : Nat → Prop} {N : Nat} {G : Nat → U → Prop} {m : Map} {K : Kn} {c : Act} {W : World}, a.length = N → St base S N G m K c W → (∀ x ∈ o.op.operands.toList, Cov a G x) →
    ∃ v ob, (execOp c.eval o).run P W = .ok (.value v) (W.alloc ob) ∧ ∀ ok, ok W.heap.size → q3s noM noM (q3o base S (own m K)) ok W (W.alloc ob) → Rep ok (W.alloc ob) m u v) : qBp P a H o k := by
  refine ⟨u,H,hk,?_⟩
  rw [hw]
  refine ⟨fun _ _ => rfl,Nat.le_refl _,fun {base S _ _ m K c W} hN hs hc _ _ => ?_⟩
  obtain ⟨v,ob,h1,h2⟩ := h hN hs hc
  have hg : q4u m (own m K) W m (own m K) (W.alloc ob) := q4u.of_below ((Below.refl _ _).alloc (Nat.le_refl _) _) fun _ h => h
  have hnb : q3o base S (own m K) W.heap.size := ⟨.inr hs.big,fun ⟨id,ob,_,hi⟩ => by have := hs.hp.lt id _ hi; omega⟩
  have hl : q3s m m (q3o base S (own m K)) (q3o base S (own m K)) W (W.alloc ob) := hg.lasts
  exact ⟨m,K,_,_,h1,.inl ⟨v,rfl,h2 _ hnb hl.none⟩,hg,hs.hp.move (fun _ _ h => h) hg fun k ⟨id,_,_,hi⟩ => heap_alloc W _ (hs.hp.lt id k hi),fun id ob => by simp,fun id hid => .inl hid⟩
set_option maxHeartbeats 1000000 in
theorem qFi {t : TypeId} {len : Nat} {parts : Array (Nat × Operand)} (hT : q4w P T) (ho : o.op = .buildSlice t len parts) (hv : val T a H o k) : qBp P a H o k := by
  simp only [val,ho] at hv
  split at hv
  case h_2 => exact hv.elim
  rename_i ty ht
  split at hv
  · rename_i hps
    simp only [Bool.and_eq_true,beq_iff_eq,List.isEmpty_iff] at hps
    obtain ⟨rfl,hps⟩ := hps
    split at hv
    case isTrue => exact hv.elim
    rename_i hc
    simp only [not_or] at hc
    obtain ⟨hne,hag,hlim⟩ := hc
    obtain ⟨d,g1,g0,_,_,_,g4,_⟩ := (hT t _ ht).und
    obtain ⟨e,ie,z,vs,hd,q1,q2,q3,q4,q5,q6,q7,q8⟩ := g4 hne
    have hsl : d = .slice e := by
      rcases hd with hd | ⟨q,hd⟩
      · exact hd
      · subst hd
        exact absurd g0.symm hag
    subst hsl
    have hpe : parts = #[] := Array.toList_inj.1 hps
    refine q7d hv (by rw [ho]; rfl) fun {base S _ _ m K c W} hN hs hc => ?_
    refine ⟨_,[],e,q5e (s := Instr.buildSlice t 0 #[]) (by simp [execOp,ho,hpe]) ?_,⟨trivial,fun us h => (by cases h)⟩,fun v h => (by cases h),fun _ _ _ hm => ⟨_,hm,Int.le_refl _,Int.le_refl _,rfl⟩⟩
    simp [Instr.buildSlice,run_underlying g1,sizeOf,typeInfo,q1,Instr.fill,newRow]
    exact congrArg (fun xs => W.alloc (.cells xs e (0,0))) (Array.eq_empty_of_size_eq_zero (by simp))
  rename_i hnz
  split at hv
  case isTrue => exact hv.elim
  rename_i hc
  simp only [not_or] at hc
  obtain ⟨hne,hag,hl0,hl1⟩ := hc
  have hwo : qGw a H o.op = [] := by
    rw [ho]
    cases len with
    | zero => exact absurd rfl hl0
    | succ n => rfl
  split at hv
  case h_2 => exact hv.elim
  rename_i us hus
  obtain ⟨d,g1,g0,_,_,_,g4,_⟩ := (hT t _ ht).und
  obtain ⟨e,ie,z,vs,hd,q1,q2,q3,q4,q5,q6,q7,q8⟩ := g4 hne
  have hsl : d = .slice e := by
    rcases hd with hd | ⟨q,hd⟩
    · exact hd
    · subst hd
      exact absurd g0.symm hag
  subst hsl
  have hpos : 0 < ty.elem.length := List.length_pos_iff.2 hne
  have hcells : ∀ W : World,(Array.range (len * ie.size)).map (z.cells[· % z.cells.size]!) = ((List.replicate len vs).flatten).toArray := fun W => by
    apply Array.toList_inj.1
    have := q5u vs len
    have hlen : vs.length = ty.elem.length := ((q5 (fun _ => True) W noM).len).symm
    rw [q4,q2,← hlen]
    exact this
  have hulen : us.length = len * ty.elem.length := by
    rw [qBt hus]
    simp
  have all : ∀ {base : Nat} {S : Nat → Prop} {N : Nat} {G : Nat → U → Prop} {m : Map} {K : Kn} {c : Act} {W : World},a.length = N → St base S N G m K c W → (∀ x ∈ o.op.operands.toList,Cov a G x) →
      ∃ vs' : List Value,(execOp c.eval o).run P W = .ok (.value (.slice (some ⟨W.heap.size,0,none⟩) len len)) (W.alloc (.cells vs'.toArray e (0,0))) ∧ Reps (q3o base S (own m K)) W m us vs' ∧ ∀ v ∈ vs',v.oneCell' = true := fun {base S _ _ m K c W} hN hs hc => by
    obtain ⟨vs', f1, f2, f3⟩ := qLk hus (Reps.flat (q5 (q3o base S (own m K)) W m) len)      (fun v hv => by
      obtain ⟨l,hl,hv⟩ := List.mem_flatten.1 hv
      rw [List.eq_of_mem_replicate hl] at hv
      exact q6 v hv) (by simp) (qGh (ps := parts) hs hN fun p hp => hc p.2 (by rw [ho]; simp only [Op.operands]; exact List.mem_map.2 ⟨p, hp, rfl⟩))
    have hrun := run_buildSlice (P := P) W t e len (parts.map fun (i, x) => (i, c.eval x)) vs'.toArray ie z g1 q1 q3 (by rw [q2]; omega) (by rw [q2]; intro h0; rcases Nat.mul_eq_zero.1 h0 with h0 | h0 <;> omega) (by
      rw [hcells W,q2,← f1]
      congr 1
      simp)
    exact ⟨vs',q5e (s := Instr.buildSlice t len (parts.map fun (i,x) => (i,c.eval x))) (by simp [execOp,ho]) hrun,f2,f3⟩
  split at hv
  · rename_i hL
    split at hv
    case h_2 => exact hv.elim
    rename_i ns hns
    refine qGb hv hwo fun {base S _ _ m K c W} hN hs hc => ?_
    obtain ⟨vs',f1,f2,f3⟩ := all hN hs hc
    obtain ⟨rfl,e2⟩ := qDw hns f2
    have he1 : ty.elem.length = 1 := by rw [q8 hL]; rfl
    have e3 : ns.length = len := by rw [e2,hulen,he1,Nat.mul_one]
    refine ⟨_,_,f1,fun ok hok _ => ⟨_,len,by rw [e3],by omega,?_⟩⟩
    exact qSu (qIl W _) hok          (by rw [e3]; have : len * 1 ≤ 1000 := by rw [← he1]; omega
                                         omega)
  · split at hv
    case isFalse => exact hv.elim
    rename_i hbare
    refine qGb hv hwo fun {base S _ _ m K c W} hN hs hc => ?_
    obtain ⟨vs',f1,f2,f3⟩ := all hN hs hc
    obtain ⟨c1,c2,c3⟩ := qFs ty.elem.length len us hulen
    refine ⟨_,_,f1,fun ok hok hl => ⟨_,len,by rw [c2],by omega,.inr ⟨_,rfl,?_⟩⟩⟩
    exact q8p (qIl W _) hok _ _ 0 c3 (by rw [c1]; exact Reps.of_nth (Reps.move hl _ _ (Reps.bare f2 hbare)) f3)
theorem qTa {t : TypeId} {x hi : Operand} (hT : q4w P T) (ho : o.op = .slice t x none (some hi) none) (hv : val T a H o k) : qBp P a H o k := by
  have hx : x ∈ o.op.operands.toList := by rw [ho]; simp [Op.operands]
  have hhi : hi ∈ o.op.operands.toList := by rw [ho]; simp [Op.operands]
  simp only [val,ho] at hv
  split at hv
  case h_2 => exact hv.elim
  rename_i ty ht
  split at hv
  case isFalse => exact hv.elim
  rename_i hc
  obtain ⟨hne,hag⟩ := hc
  split at hv
  case h_2 => exact hv.elim
  rename_i e xs kk n he hn
  obtain ⟨_,⟨h0,h1⟩,hv⟩ := hv
  have h1 : n ≤ (xs.length : Int) := h1
  obtain ⟨d,g1,g0,_,_,_,g4,_⟩ := (hT t _ ht).und
  obtain ⟨el,ie,z,vs,hd,q1,q2,q3,q4,q5,q6,q7,q8⟩ := g4 hne
  have hsl : d = .slice el := by
    rcases hd with hd | ⟨q,hd⟩
    · exact hd
    · subst hd
      rw [hag] at g0
      cases g0
  subst hsl
  refine q1o (hv _ rfl) (by rw [ho]; rfl) fun {_ _ _ _ m K c W} hN hs hc _ => ?_
  have hr := q2z hs hN (hc x hx)
  rw [he] at hr
  obtain ⟨A,cc,r1,r2,r3⟩ := hr
  have hlen : (xs.take n.toNat).length = n.toNat := by rw [List.length_take]; omega
  have hbd : ∀ W : World,(Instr.slice t (.slice A xs.length cc) none (some (.int kk n)) none).run P W = .ok (.slice A n.toNat cc) W := fun W => by
    have hb : 0 ≤ n ∧ n ≤ (cc : Int) := ⟨h0,by omega⟩
    have h0' : (0 : Nat) ≤ n.toNat := Nat.zero_le _
    have hA : A.map (fun ad => ad.add 0) = A := by
      cases A with
      | none => rfl
      | some ad => cases ad; simp [Addr.add]
    by_cases hz : cc = 0
    · subst hz
      have : n = 0 := by omega
      subst this
      simp [Instr.slice,run_underlying g1,Instr.sliceBounds,Instr.sliceBound,asIntOf,q3g q1]
    · simp [Instr.slice,run_underlying g1,Instr.sliceBounds,Instr.sliceBound,asIntOf,hb,q3g q1,hz]
      exact hA
  refine ⟨.slice A n.toNat cc,q5e (s := Instr.sliceAt t (c.eval x) none (some (c.eval hi)) none) (by simp [execOp,ho]) ?_,A,cc,by rw [hlen],by rw [hlen]; omega,?_⟩
  · rw [r1,qCf hs hN (hc hi hhi) hn]
    simp [Instr.sliceAt,run_underlying g1,hbd W]
  · by_cases hz : xs.take n.toNat = []
    · exact .inl hz
    · rcases r3 with r3 | ⟨ad,r3,r4⟩
      · exact absurd (by rw [r3]; simp) hz
      · exact .inr ⟨ad,r3,Rws.take _ r4⟩
set_option maxHeartbeats 1000000 in
theorem qNm {args : Array Operand} {ts : Array TypeId} (hT : q4w P T) (ho : o.op = .call { callee := .builtin .copy,args := args,argTypes := ts }) (hv : val T a H o k) : qBp P a H o k := by
  have hcov : ∀ x ∈ args.toList,x ∈ o.op.operands.toList := fun x hx => by rw [ho]; simp [Op.operands,Call.operands]; simpa using hx
  have hwo : qGw a H o.op = (ovs a args).flatMap qKs := by rw [ho]; rfl
  simp only [val,ho] at hv
  split at hv
  case h_2 => exact hv.elim
  rename_i id n cp ys t t' hargs hts
  split at hv
  case h_2 => exact hv.elim
  rename_i xs ty dd hus ht hd
  split at hv
  case isFalse => exact hv.elim
  rename_i hL
  obtain ⟨hL,hty⟩ := hL
  obtain ⟨_,hn,hv⟩ := hv
  have hn : n = (xs.length : Int) := hn
  obtain ⟨d,g1,g0,_,_,_,g4,_⟩ := (hT t _ ht).und
  refine ⟨_,_,hv _ _ rfl rfl,?_⟩
  rw [hwo,hargs]
  have hL1 : ty.elem = [.v (.int .u32 0)] := by
    have hne : ty.elem ≠ [] := hty.1
    obtain ⟨e,ie,z,vs,hd,q1,q2,q3,q4,q5,q6,q7,q8⟩ := g4 hne
    exact q8 hL
  obtain ⟨e,ie,z,vs0,hd,q1,q2,q3,q4,q5,q6,q7,q8⟩ := g4 hty.1
  have hsl : d = .slice e := by
    rcases hd with hd | ⟨q,hd⟩
    · exact hd
    · subst hd
      rw [hty.2] at g0
      cases g0
  subst hsl
  have hsz : ie.size = 1 := by rw [q2,hL1]; rfl
  have hts0 : ts[0]? = some t := by rw [← Array.getElem?_toList,hts]; rfl
  have hrow : ((ys.map (Value.int .u32)).take (Nat.min ys.length xs.length) ++ (xs.map (Value.int .u32)).drop (Nat.min ys.length xs.length)) = ((ys.take xs.length ++ xs.drop ys.length)).map (Value.int .u32) := by
    simp only [List.map_append,List.map_take,List.map_drop]
    rcases Nat.le_total ys.length xs.length with hle | hle
    · rw [show Nat.min ys.length xs.length = ys.length from Nat.min_eq_left hle,List.take_of_length_le (by simp),List.take_of_length_le (by simpa using hle)]
    · rw [show Nat.min ys.length xs.length = xs.length from Nat.min_eq_right hle,List.drop_eq_nil_of_le (by simp),List.drop_eq_nil_of_le (by simpa using hle)]
  have hlen : ((ys.take xs.length ++ xs.drop ys.length)).length = xs.length := by
    simp only [List.length_append,List.length_take,List.length_drop]
    omega
  refine qCs hus fun {base S _ _ m K c W} hN hs hc hK => ?_
  have hr := q7n hs hN (xs := args.toList) fun x hx => hc x (hcov x hx)
  unfold ovs at hargs
  rw [hargs] at hr
  match hq : args.toList.map c.eval,hr with
  | [v1,v2],hr =>
    obtain ⟨⟨b,r1,r2,r3,rfl⟩,⟨A,cc,rfl,f2,f3⟩,_⟩ := hr
    obtain ⟨b',vs,te,e1,e4,⟨rfl,e5⟩,e6⟩ := hs.hp.at_ id _ hK
    rw [r1] at e1
    injection e1 with e1
    subst e1
    refine ⟨b,((ys.take xs.length ++ xs.drop ys.length)).map (Value.int .u32),te,_,_,r1,?_,.inl ⟨.int .i64 (((Nat.min ys.length xs.length : Nat) : Int)),rfl,fun _ _ _ => rfl⟩,rfl,⟨rfl,by rw [hlen]; exact e5⟩,fun v hv => by obtain ⟨_,_,rfl⟩ := List.mem_map.1 hv; rfl,_,e4⟩
    have key : (Builtin.copy_ ts o.type #[.slice (some ⟨b,0,none⟩) n.toNat cp.toNat,.slice A ys.length cc]).run P W = .ok (goInt (Nat.min ys.length xs.length : Nat)) (W.setRow b (((ys.take xs.length ++ xs.drop ys.length)).map (Value.int .u32)).toArray) := by
      have hnn : n.toNat = xs.length := by omega
      rw [hnn]
      by_cases hn : Nat.min ys.length xs.length = 0
      · have hsame : W.setRow b (((ys.take xs.length ++ xs.drop ys.length)).map (Value.int .u32)).toArray = W := by
          rw [← hrow,hn]
          simp only [List.take_zero,List.nil_append,List.drop_zero]
          exact setRow_self W b _ te (0,0) e4
        rw [hsame,hn]
        cases A with
        | none => simp [Builtin.copy_,hts0,run_underlying g1,Builtin.lenOf,Builtin.firstCells,q3g q1,hn,storeCells]
        | some ad => simp [Builtin.copy_,hts0,run_underlying g1,Builtin.lenOf,Builtin.firstCells,q3g q1,hn,storeCells,loadCells,loadCellsFrom]
      · obtain ⟨y0,hy0⟩ : ∃ y0,ys[0]? = some y0 := by
          cases ys with
          | nil => exact absurd (by simp [Nat.min_def]) hn
          | cons y0 ys => exact ⟨y0,rfl⟩
        obtain ⟨ad,rfl,_⟩ := qAa (Kd.F_now f3) hy0
        have hl := run_loadCells_list (P := P) W ad ((ys.map (Value.int .u32)).take (Nat.min ys.length xs.length)) (fun j v hj => by
          rw [List.getElem?_take] at hj
          split at hj
          case isFalse => cases hj
          rw [List.getElem?_map,Option.map_eq_some_iff] at hj
          obtain ⟨n,hn,rfl⟩ := hj
          obtain ⟨ad',h1,h2⟩ := qAa (Kd.F_now f3) hn
          injection h1 with h1
          subst h1
          exact h2)
        have hll : ((ys.map (Value.int .u32)).take (Nat.min ys.length xs.length)).length = Nat.min ys.length xs.length := by
          rw [List.length_take,List.length_map]
          exact Nat.min_eq_left (Nat.min_le_left _ _)
        rw [hll] at hl
        have hst := run_storeCells_at P b 0 te ((ys.map (Value.int .u32)).take (Nat.min ys.length xs.length)) 0 (xs.map (Value.int .u32)).toArray W e4 (by rw [hll]; simp; exact Nat.min_le_right _ _) (fun v hv => by
          obtain ⟨n,_,rfl⟩ := List.mem_map.1 (List.mem_of_mem_take hv)
          rfl)
        have hfin : ((xs.map (Value.int .u32)).toArray.toList.take (0 + 0) ++ (ys.map (Value.int .u32)).take (Nat.min ys.length xs.length) ++ (xs.map (Value.int .u32)).toArray.toList.drop (0 + 0 + ((ys.map (Value.int .u32)).take (Nat.min ys.length xs.length)).length)) = ((ys.take xs.length ++ xs.drop ys.length)).map (Value.int .u32) := by
          rw [hll,← hrow]
          simp
        rw [hfin] at hst
        simp [Builtin.copy_,hts0,run_underlying g1,Builtin.lenOf,Builtin.firstCells,q3g q1,hsz,hl,hst]
    have hargs' : args.map c.eval = #[.slice (some ⟨b,0,none⟩) n.toNat cp.toNat,.slice A ys.length cc] := Array.toList_inj.1 (by simpa using hq)
    simp [execOp,ho,resolve,invoke,Deferred.ofValue,Go.builtin,hargs',key]
    rfl
  | [],hr => exact hr.elim
  | [_],hr => exact hr.2.elim
  | _ :: _ :: _ :: _,hr => exact hr.2.2.elim
theorem qPu (hT : q4w P T) (hv : val T a H o k) : qBp P a H o k := by
  cases ho : o.op with
  | move x => exact qNw (.inl ho) hv
  | assign x => exact qNw (.inr ho) hv
  | pick c x y => exact qYv ho hv
  | nilCheck x => exact qJj ho hv
  | alloc t => exact qWl hT ho hv
  | box t x => exact j2z ho hv
  | build t ps => exact qWs hT ho hv
  | buildSlice t n ps => exact qFi hT ho hv
  | makeSlice t x y => exact qHo hT ho hv
  | load t x => exact qXa hT ho hv
  | store t x y => exact qS hT ho hv
  | fieldAddr t x f => exact qHp hT ho hv
  | field t x f => exact qRr hT ho hv
  | indexAddr t x i => exact qIb hT ho hv
  | binOp op t x y t' => exact qWb hT ho hv
  | unOp op t x => exact qYd ho hv
  | convert s t x => exact qMn hT ho hv
  | extract x i => exact qMo ho hv
  | slice t x lo hi mx =>
    match lo,hi,mx,ho with
    | none,some h,none,ho => exact qTa hT ho hv
    | none,none,_,ho => simp only [val,ho] at hv
    | none,some _,some _,ho => simp only [val,ho] at hv
    | some _,_,_,ho => simp only [val,ho] at hv
  | makeFunc f first caught =>
    cases f <;> first | exact qKw ho hv | (simp only [val,ho] at hv)
  | call cl =>
    obtain ⟨callee,args,ts⟩ := cl
    match callee,ho with
    | .builtin .len,ho => exact qUx hT ho hv
    | .builtin .copy,ho => exact qNm hT ho hv
    | .builtin b,ho => cases b <;> first | exact qUx hT ho hv | exact qNm hT ho hv | (simp only [val,ho] at hv)
    | .value f,ho => simp only [val,ho] at hv
    | .invoke r s,ho => simp only [val,ho] at hv
  | _ => simp only [val,ho] at hv
end
end Go.Proofs.YtjkcmnedolfkjaaGreat.Rd
end
section
set_option linter.unusedVariables false
set_option linter.unusedSimpArgs false
namespace Go.Proofs.YtjkcmnedolfkjaaGreat.Rd
open Go Go.RowKit Go.Proofs.YtjkcmnedolfkjaaGreatW.PrintWords
def q1q (H : q1f) : Kn := fun id ob => q0r H id = some ob
def Is (a : List U) : Nat → U → Prop := fun t u => a[t]? = some u
structure Sat (base : Nat) (S : Nat → Prop) (N : Nat) (a : List U) (H : q1f) (m : Map) (c : Act) (W : World) : Prop where
 len : a.length = N
 st : St base S N (Is a) m (q1q H) c W
 fresh : ∀ id,H.length ≤ id → m id = none
def q9u (P : Program) (base : Nat) (S : Nat → Prop) (f : FuncId) (us : List U) (H : q1f) (k : U → q1f → Prop) : Prop := ∀ (m : Map) (W : World) (cs : List Value),Hp m S base W (q1q H) → (∀ id,H.length ≤ id → m id = none) → base ≤ W.heap.size → Reps (q3o base S (own m (q1q H))) W m us cs →
 Calls P f cs.toArray W fun e W' => ∃ u H' m' v,k u H' ∧ e = .returned v ∧ Rep (q3o base S (own m' (q1q H'))) W' m' u v ∧ Hp m' S base W' (q1q H') ∧ (∀ id,H'.length ≤ id → m' id = none) ∧ q4u m (own m (q1q H)) W m' (own m' (q1q H')) W'
def q9n (P : Program) (f : FuncId) : Prop := ∃ fn b, P.funcs[f]? = some fn ∧ (fn.name == "runtime.NumGoroutine") = false ∧ fn.body = some b
def q0w (P : Program) (f : FuncId) (R : List U → U → Prop) : Prop := ∀ us u,R us u → q9n P f ∧
 ∀ (W : World) (S : Nat → Prop) (cs : List Value),Reps S W noM us cs → Calls P f cs.toArray W fun e W' => ∃ v,e = .returned v ∧ Rep (fun k => S k ∨ W.heap.size ≤ k) W' noM u v ∧ Below W.heap.size W W'
def q9p (P : Program) (base : Nat) (S : Nat → Prop) (E : Ent) : Prop := ∀ f us H k,E f us H k → q9n P f ∧ q9u P base S f us H k
def extRun : Ext → Array Value → Sem Value
 | .add64 => Extern.Atomic.update (Op.intArith .add) .i64 true
 | .load64 => Extern.Atomic.loadT (.int .i64)
def qHg (P : Program) (T : Tab) : Prop := ∀ f e, T.ext f = some e → ∃ fn, P.funcs[f]? = some fn ∧ (fn.name == "runtime.NumGoroutine") = false ∧ fn.body.isNone = true ∧ Extern.findNext fn = none ∧ Extern.find fn = some (extRun e)
section
variable {P : Program} {T : Tab} {a : List U} {base : Nat} {S : Nat → Prop} {N : Nat} {m : Map} {c : Act} {W : World} {H : q1f} {o : Oper} {E : Ent} {u : U} {Q : Exit → Act → World → Prop} {next : Act → World → Prop}
theorem qOm {wr : List Nat} {H' : q1f} {K' : Kn} (hs : ∀ id,id ∉ wr → H'[id]? = H[id]?) (hK : ∀ id ob,K' id ob ↔ if id ∈ wr then q0r H' id = some ob else q1q H id ob) : K' = q1q H' := by
 funext id ob
 apply propext
 rw [hK]
 by_cases h : id ∈ wr
 ·rw [if_pos h]; rfl
 ·rw [if_neg h]
  unfold q1q q0r
  rw [hs id h]
theorem qOy {d : Nat} {v : Value} (hd : d < c.tmps.size) : (c.put (some d) v).tmps.getD d undef = v := by simp [Act.put,hd]
theorem qJx {d : Nat} {v : Value} {t : Nat} (h : t ≠ d) : (c.put (some d) v).tmps.getD t undef = c.tmps.getD t undef := by simp [Act.put,Array.getElem?_setIfInBounds_ne (Ne.symm h)]
theorem Sat.put {m' : Map} {W' : World} {H' : q1f} {v : Value} (h : Sat base S N a H m c W) (hg : q4u m (own m (q1q H)) W m' (own m' (q1q H')) W') (hp : Hp m' S base W' (q1q H')) (hf : ∀ id,H'.length ≤ id → m' id = none) (d : Option Nat) (hr : Rep (q3o base S (own m' (q1q H'))) W' m' u v) :
  Sat base S N (put a d u) H' m' (c.put d v) W' := by
 have hb : base ≤ W'.heap.size := Nat.le_trans h.st.big hg.size
 cases d with
 | none => exact ⟨h.len,⟨h.st.defers,h.st.size,fun t w hw hlt => Rep.move hg.lasts _ _ (h.st.tmp t w hw hlt),hp,hb⟩,hf⟩
 | some d =>
  refine ⟨by simp [Rd.put,h.len],⟨h.st.defers,by simp [Act.put,h.st.size],fun t w hw hlt => ?_,hp,hb⟩,hf⟩
  have hw' : (a.set d u)[t]? = some w := hw
  rw [List.getElem?_set] at hw'
  split at hw'
  ·rename_i e
   subst e
   rw [if_pos (by rw [h.len]; exact hlt)] at hw'
   injection hw' with hw'
   subst hw'
   rw [qOy (by rw [h.st.size]; exact hlt)]
   exact hr
  ·rename_i e
   rw [qJx (Ne.symm e)]
   exact Rep.move hg.lasts _ _ (h.st.tmp t w hw' hlt)
theorem Sat.skip {m' : Map} {W' : World} {H' : q1f} (h : Sat base S N a H m c W) (hg : q4u m (own m (q1q H)) W m' (own m' (q1q H')) W') (hp : Hp m' S base W' (q1q H')) (hf : ∀ id,H'.length ≤ id → m' id = none) : Sat base S N a H' m' c W' :=
 ⟨h.len,⟨h.st.defers,h.st.size,fun t w hw hlt => Rep.move hg.lasts _ _ (h.st.tmp t w hw hlt),hp,Nat.le_trans h.st.big hg.size⟩,hf⟩
abbrev qNv (base : Nat) (S : Nat → Prop) (N : Nat) (H : q1f) (m : Map) (W : World) (k : List U → q1f → Prop) (next : Act → World → Prop) : Prop := ∀ a' H' m' c' W',k a' H' → Sat base S N a' H' m' c' W' → q4u m (own m (q1q H)) W m' (own m' (q1q H')) W' → next c' W'
theorem qZs {k : List U → q1f → Prop} (hT : q4w P T) (h : Sat base S N a H m c W) (hv : val T a H o fun u h => k (put a o.dst u) h) (hk : qNv base S N H m W k next) : o.wp P c W next Q := by
 obtain ⟨u,H',hk',hloc⟩ := qPu hT hv
 obtain ⟨m',K',W',nx,g1,g2,g3,g4,g5,g6⟩ := hloc.does h.len h.st (fun x _ t _ u hu => hu) (fun id ob _ ho => ho) (fun id hid _ => h.fresh id hid)
 have hK := qOm hloc.same g5
 subst hK
 have hf : ∀ id,H'.length ≤ id → m' id = none := fun id hid => by
  cases hm : m' id with
  | none => rfl
  | some b =>
   exfalso
   rcases g6 id (by rw [hm]; simp) with h1 | h1
   ·exact h1 (h.fresh id (Nat.le_trans hloc.len hid))
   ·exact absurd h1.2 (by omega)
 unfold Oper.wp
 rw [g1]
 rcases g2 with ⟨v,rfl,g2⟩ | ⟨rfl,g2⟩
 ·exact hk _ _ _ _ _ hk' (h.put g3 g4 hf o.dst g2) g3
 ·rw [g2] at hk'
  exact hk _ _ _ _ _ hk' (by rw [show c.put o.dst undef = c from by rw [g2]; rfl]; exact h.skip g3 g4 hf) g3
theorem qPq {id : Nat} {ob0 ob : Ob} (h : q1q H id ob0) : upK (q1q H) id ob = q1q (H.set id (some ob)) := by
 funext j o
 apply propext
 unfold upK q1q
 rw [q5r _ _ (q6r h)]
 by_cases e : j = id
 ·rw [if_pos e,if_pos e,Option.some.injEq]
  exact ⟨fun h => h.symm,fun h => h.symm⟩
 ·rw [if_neg e,if_neg e]
theorem qZh {ob : Ob} : upK (q1q H) H.length ob = q1q (H ++ [some ob]) := by
 funext j o
 apply propext
 unfold upK q1q
 rw [qFy]
 by_cases e : j = H.length
 ·rw [if_pos e,if_pos e,Option.some.injEq]
  exact ⟨fun h => h.symm,fun h => h.symm⟩
 ·rw [if_neg e,if_neg e]
theorem Sat.write {k : List U → q1f → Prop} {id b : Nat} {ob0 ob : Ob} {vs : List Value} {te : TypeId} {old : Array Value} {v : Value} (h : Sat base S N a H m c W) (hK : q1q H id ob0) (hi : m id = some b) (hg : W.heap[b]? = some (.cells old te (0,0)))
  (hr : ob.rep (q3o base S (own m (q1q H))) W m vs) (ho : ∀ v ∈ vs,v.oneCell' = true) (hrun : (execOp c.eval o).run P W = .ok (.value v) (W.setRow b vs.toArray)) (hu : ∀ ok W',Rep ok W' m u v) (hk' : k (Rd.put a o.dst u) (H.set id (some ob))) (hk : qNv base S N H m W k next) : o.wp P c W next Q := by
 have g := q4u.write (W' := W.setRow b vs.toArray) (ob := ob) hK hi (fun k hk => setRow_other W b k _ hk) (by simp) rfl rfl rfl
 have p := h.st.hp.write hK hi hr ho (setRow_heap W b _ _ _ _ hg) g (fun k hk => setRow_other W b k _ hk)
 rw [qPq hK] at g p
 have hf : ∀ j,(H.set id (some ob)).length ≤ j → m j = none := fun j hj => h.fresh j (by simpa using hj)
 unfold Oper.wp
 rw [hrun]
 exact hk _ _ _ _ _ hk' (h.put g p hf o.dst (hu _ _)) g
theorem Sat.alloc {k : List U → q1f → Prop} {ob : Ob} {vs : List Value} {te : TypeId} {v : Value} {W1 : World} (h : Sat base S N a H m c W) (hW : W1 = W ∨ W1 = W.drew) (hr : ob.rep (q3o base S (own m (q1q H))) W m vs) (ho : ∀ v ∈ vs,v.oneCell' = true)
  (hrun : (execOp c.eval o).run P W = .ok (.value v) (W1.alloc (.cells vs.toArray te (0,0)))) (hu : ∀ ok W' (m' : Map),m' H.length = some W.heap.size → Rep ok W' m' u v) (hk' : k (Rd.put a o.dst u) (H ++ [some ob])) (hk : qNv base S N H m W k next) : o.wp P c W next Q := by
 have hm := h.fresh H.length (Nat.le_refl _)
 have e1 : W1.heap = W.heap ∧ W1.os = W.os ∧ W1.tape = W.tape ∧ W1.output = W.output := by rcases hW with rfl | rfl <;> exact ⟨rfl,rfl,rfl,rfl⟩
 have ga := q4u.alloc h.st.hp hm ob (.cells vs.toArray te (0,0))
 have ha : (W1.alloc (.cells vs.toArray te (0,0))).heap = (W.alloc (.cells vs.toArray te (0,0))).heap := by show W1.heap.push _ = W.heap.push _; rw [e1.1]
 have pa := h.st.hp.alloc h.st.big hm (te := te) hr ho
 have g : q4u m (own m (q1q H)) W (upM m H.length W.heap.size) (own (upM m H.length W.heap.size) (upK (q1q H) H.length ob)) (W1.alloc (.cells vs.toArray te (0,0))) :=
  ⟨ga.map,ga.new,by rw [ha]; exact ga.size,fun k h1 h2 => by rw [ha]; exact ga.mem k h1 h2,e1.2.1,e1.2.2.1,e1.2.2.2⟩
 have p : Hp (upM m H.length W.heap.size) S base (W1.alloc (.cells vs.toArray te (0,0))) (upK (q1q H) H.length ob) := by
  refine pa.move (fun _ _ h => h) ⟨fun _ _ h => h,fun _ h => .inl h,by rw [ha]; exact Nat.le_refl _,fun k _ _ => by rw [ha],e1.2.1,e1.2.2.1,e1.2.2.2⟩ fun k _ => by rw [ha]
 rw [qZh] at g p
 have hf : ∀ j,(H ++ [some ob]).length ≤ j → upM m H.length W.heap.size j = none := fun j hj => by
  have : H.length < j := by simp at hj; omega
  unfold upM
  rw [if_neg (by omega)]
  exact h.fresh j (by omega)
 unfold Oper.wp
 rw [hrun]
 exact hk _ _ _ _ _ hk' (h.put g p hf o.dst (hu _ _ _ (by unfold upM; rw [if_pos rfl]))) g
theorem qGd {b off : Nat} {cs : Array Value} {te : TypeId} (hg : W.heap[b]? = some (.cells cs te (0,0))) : W.frozen? ⟨b,off,none⟩ = false := by
 simp [World.frozen?,hg]
theorem q7o {f : FuncId} {us : List U} (h : Sat base S N a H m c W) (hcall : q9f a o.op = some (f,us)) :
  ∃ (x : Operand) (args : Array Operand) (ts : Array TypeId) (vs : List Value),o.op = .call { callee := .value x,args := args,argTypes := ts } ∧ c.eval x = .func (.func f) #[] vs.toArray ∧ Reps (q3o base S (own m (q1q H))) W m us (args.toList.map c.eval ++ vs) := by
 unfold q9f at hcall
 split at hcall
 ·rename_i x args ts hop
  split at hcall
  ·rename_i g cl hx
   simp only [Option.some.injEq,Prod.mk.injEq] at hcall
   obtain ⟨rfl,rfl⟩ := hcall
   have hrx := q2z h.st h.len (x := x) (fun t ht u hu => hu)
   rw [hx] at hrx
   obtain ⟨vs,e1,e2⟩ := hrx
   exact ⟨x,args,ts,vs,hop,e1,Reps.append (q7n h.st h.len (xs := args.toList) (fun x _ t ht u hu => hu)) e2⟩
  ·cases hcall
 ·cases hcall
theorem qDp {k : List U → q1f → Prop} {f : FuncId} {us : List U} (hB : q9n P f) (hcalls : q9u P base S f us H fun u h => k (put a o.dst u) h) (h : Sat base S N a H m c W) (hcall : q9f a o.op = some (f,us)) (hk : qNv base S N H m W k next) : o.wp P c W next Q := by
 obtain ⟨x,args,ts,vs,ho,e1,e2⟩ := q7o h hcall
 obtain ⟨fn,b,hfn,hname,hb⟩ := hB
 have hrun : (execOp c.eval o).run P W = .ok (.enter f (args.map c.eval ++ vs.toArray)) W := by
  have h1 : fn.name ≠ "runtime.NumGoroutine" := by simpa using hname
  simp [execOp,ho,resolve,e1,Deferred.ofValue,invoke,callFunc,hfn,h1,hb]
 unfold Oper.wp
 rw [hrun]
 show Calls P f (args.map c.eval ++ vs.toArray) W _
 have hargs' : args.map c.eval ++ vs.toArray = (args.toList.map c.eval ++ vs).toArray := Array.toList_inj.1 (by simp)
 rw [hargs']
 refine (hcalls m W _ h.st.hp h.fresh h.st.big e2).mono fun e W' ⟨u,H',m',v,g1,g2,g3,g4,g5,g6⟩ => ?_
 subst g2
 exact hk _ _ _ _ _ g1 (h.put g6 g4 g5 o.dst g3) g6
theorem qZg {k : List U → q1f → Prop} {f : FuncId} {us : List U} {e : Ext} (hX : qHg P T) (h : Sat base S N a H m c W) (hcall : q9f a o.op = some (f,us)) (hx : T.ext f = some e) (he : qSv H e us fun u h => k (put a o.dst u) h) (hk : qNv base S N H m W k next) : o.wp P c W next Q := by
 obtain ⟨x,args,ts,vs,ho,e1,e2⟩ := q7o h hcall
 obtain ⟨fn,hfn,hname,hb,hn,hf⟩ := hX f e hx
 have hrun : ∀ (cs : Array Value) (v : Value) (W' : World),(args.map c.eval ++ vs.toArray) = cs → (callFunc f cs).run P W = .ok (.value v) W' → (execOp c.eval o).run P W = .ok (.value v) W' := fun cs v W' h1 h2 => by
  subst h1
  simp [execOp,ho,resolve,e1,Deferred.ofValue,invoke,h2]
 unfold qSv at he
 split at he
 ·rename_i id off d
  split at he
  case h_2 => exact he.elim
  rename_i cs hcs
  split at he
  case h_2 => exact he.elim
  rename_i z hz
  match hq : args.toList.map c.eval ++ vs,e2 with
  | [v1,v2],e2 =>
   obtain ⟨⟨b,r1,rfl⟩,r3,_⟩ := e2
   have r3 : v2 = _ := r3
   subst r3
   have hargs : args.map c.eval ++ vs.toArray = #[.pointer (some ⟨b,off,none⟩),.int .i64 d] := Array.toList_inj.1 (by simpa using hq)
   obtain ⟨b',ws,te,g1,g2,g3,g4⟩ := h.st.hp.at_ id _ hcs
   rw [r1] at g1
   injection g1 with g1
   subst g1
   obtain ⟨v,f1,f2⟩ := Reps.nth g3 hz
   have f2 : v = _ := f2
   subst f2
   have hcell : W.cell? ⟨b,off,none⟩ = some (.int .i64 z) := by simp [World.cell?,g2,f1]
   have hadd := run_call_add hfn hname hb hn .i64 hf (y := d) (s := IntKind.i64.wrap (z + d)) hcell (qGd g2) (by simp [Op.intArith])
   rw [setCell_eq_setRow W b off _ te (0,0) _ g2,show ws.toArray.setIfInBounds off (Value.int .i64 (IntKind.i64.wrap (z + d))) = (ws.set off (Value.int .i64 (IntKind.i64.wrap (z + d)))).toArray by simp] at hadd
   refine h.write (u := .v (.int .i64 (IntKind.i64.wrap (z + d)))) hcs r1 g2 (vs := ws.set off (.int .i64 (IntKind.i64.wrap (z + d)))) ?_ (fun v hv => ?_) (hrun _ _ _ hargs hadd) (fun _ _ => rfl) (he _ rfl) hk
   ·have := Reps.put g3 (cs := [.v (.int .i64 (IntKind.i64.wrap (z + d)))]) (ws := [.int .i64 (IntKind.i64.wrap (z + d))]) ⟨rfl,trivial⟩ off
    have hlt := (List.getElem?_eq_some_iff.1 hz).1
    have hlt' := (List.getElem?_eq_some_iff.1 f1).1
    show Reps _ _ _ (cs.set off _) _
    rw [List.set_eq_take_append_cons_drop,if_pos hlt,List.set_eq_take_append_cons_drop,if_pos hlt']
    simpa using this
   ·rcases List.mem_or_eq_of_mem_set hv with h | rfl
    ·exact g4 v h
    ·rfl
  | [],e2 => exact e2.elim
  | [_],e2 => exact e2.2.elim
  | _ :: _ :: _ :: _,e2 => exact e2.2.2.elim
 ·rename_i id off
  split at he
  case h_2 => exact he.elim
  rename_i cs hcs
  split at he
  case h_2 => exact he.elim
  rename_i z hz
  match hq : args.toList.map c.eval ++ vs,e2 with
  | [v1],e2 =>
   obtain ⟨⟨b,r1,rfl⟩,_⟩ := e2
   have hargs : args.map c.eval ++ vs.toArray = #[.pointer (some ⟨b,off,none⟩)] := Array.toList_inj.1 (by simpa using hq)
   obtain ⟨v,f1,f2,_⟩ := h.st.hp.cell hcs hz r1
   have f2 : v = _ := f2
   subst f2
   have hl := run_call_load hfn hname hb hn .i64 hf f1
   unfold Oper.wp
   rw [hrun _ _ _ hargs hl]
   exact hk _ _ _ _ _ he (h.put (q4u.refl _ _ _) h.st.hp h.fresh o.dst (show Rep _ _ _ (.v _) _ from rfl)) (q4u.refl _ _ _)
  | [],e2 => exact e2.elim
  | _ :: _ :: _,e2 => exact e2.2.elim
 ·exact he.elim
theorem q8n {k : Nat} : ∀ {xs : Rows} (n : Nat),(∀ us ∈ xs,us.length = k) → (xs.take n).flatten = xs.flatten.take (n * k)
 | _,0,_ => by simp
 | [],_ + 1,_ => by simp
 | ys :: rest,n + 1,hl => by
  have hy : ys.length = k := hl ys (by simp)
  rw [List.take_succ_cons,List.flatten_cons,List.flatten_cons,q8n n fun us h => hl us (by simp [h]),show (n + 1) * k = ys.length + n * k by rw [Nat.succ_mul,hy]; omega,List.take_length_add_append]
theorem qBv {k : Nat} : ∀ {xs : Rows} (n : Nat),(∀ us ∈ xs,us.length = k) → (xs.drop n).flatten = xs.flatten.drop (n * k)
 | _,0,_ => by simp
 | [],_ + 1,_ => by simp
 | ys :: rest,n + 1,hl => by
  have hy : ys.length = k := hl ys (by simp)
  rw [List.drop_succ_cons,List.flatten_cons,qBv n fun us h => hl us (by simp [h]),show (n + 1) * k = ys.length + n * k by rw [Nat.succ_mul,hy]; omega,List.drop_length_add_append]
theorem q9h {k : Nat} : ∀ {xs : Rows},(∀ us ∈ xs,us.length = k) → xs.flatten.length = xs.length * k
 | [],_ => by simp
 | ys :: rest,hl => by
  have hy : ys.length = k := hl ys (by simp)
  rw [List.flatten_cons,List.length_append,q9h fun us h => hl us (by simp [h]),List.length_cons,Nat.succ_mul,hy]
  omega
theorem Rws.flat {ok : Nat → Prop} {k : Nat} : ∀ {xs : Rows} {ad : Addr},Rws ok W k ad xs → ∃ vs : List Value,vs.length = xs.length * k ∧ (∀ j v,vs[j]? = some v → W.cell? (ad.add j) = some v) ∧ Reps ok W noM xs.flatten vs ∧ (∀ v ∈ vs,v.oneCell' = true) ∧ ∀ us ∈ xs,us.length = k
 | [],_,_ => ⟨[],by simp,fun j v h => by simp at h,trivial,fun v h => (by cases h),fun us h => (by cases h)⟩
 | us :: rest,ad,h => by
  obtain ⟨h1,h2,h3⟩ := h
  obtain ⟨vs,g1,g2,g3,g4,g5⟩ := Rws.flat h3
  have key : ∀ (us : List U) (ad : Addr),Cells ok W ad us → ∃ vs : List Value,vs.length = us.length ∧ (∀ j v,vs[j]? = some v → W.cell? (ad.add j) = some v) ∧ Reps ok W noM us vs ∧ ∀ v ∈ vs,v.oneCell' = true := by
   intro us
   induction us with
   | nil => intro ad _; exact ⟨[],rfl,fun j v h => by simp at h,trivial,fun v h => by cases h⟩
   | cons u us ih =>
    intro ad hc
    obtain ⟨⟨y,e1,e2,e3⟩,hc⟩ := hc
    obtain ⟨vs,f1,f2,f3,f4⟩ := ih _ hc
    refine ⟨y :: vs,by simp [f1],fun j v hj => ?_,⟨e2,f3⟩,fun v hv => ?_⟩
    ·cases j with
     | zero =>
      simp at hj
      subst hj
      have : ad.add 0 = ad := by cases ad; simp [Addr.add]
      rw [this]
      exact e1.now
     | succ j =>
      have := f2 j v (by simpa using hj)
      rw [Go.Deep.add_add,Nat.add_comm 1 j] at this
      exact this
    ·rcases List.mem_cons.1 hv with rfl | hv
     ·exact e3
     ·exact f4 v hv
  obtain ⟨ws,f1,f2,f3,f4⟩ := key us ad h1
  refine ⟨ws ++ vs,by rw [List.length_append,f1,g1,h2,List.length_cons,Nat.succ_mul]; omega,fun j v hj => ?_,Reps.append f3 g3,fun v hv => ?_,fun x hx => ?_⟩
  ·rcases Nat.lt_or_ge j ws.length with hlt | hge
   ·rw [List.getElem?_append_left hlt] at hj; exact f2 j v hj
   ·rw [List.getElem?_append_right hge] at hj
    have := g2 _ v hj
    rw [Go.Deep.add_add,show k + (j - ws.length) = j by omega] at this
    exact this
  ·rcases List.mem_append.1 hv with h | h
   ·exact f4 v h
   ·exact g4 v h
  ·rcases List.mem_cons.1 hx with rfl | hx
   ·exact h2
   ·exact g5 x hx
theorem q9e (vs : List Value) (n : Nat) : Builtin.zeroCells vs.toArray n = ((List.replicate n vs).flatten).toArray := by
 apply Array.toList_inj.1
 have := q5u vs n
 unfold madeCells at this
 simpa [Builtin.zeroCells] using this
set_option maxHeartbeats 2000000 in
theorem qZt {k : List U → q1f → Prop} {d x : Operand} {t : TypeId} {ty : Ty} (hT : q4w P T) (h : Sat base S N a H m c W) (ha : qRv o.op = some (d,x,t)) (ht : T.ty t = some ty) (hne : ty.elem ≠ []) (hag : ty.agg = false)
  (he : qGv H ty.elem (ov a d) (ov a x) fun u h => k (put a o.dst u) h) (hk : qNv base S N H m W k next) : o.wp P c W next Q := by
 have hop : o.op = .call { callee := .builtin .append,args := #[d,x],argTypes := #[t,t] } := by
  unfold qRv at ha
  split at ha
  ·rename_i args ts hop
   split at ha
   ·rename_i d' x' t1 t2 h1 h2
    split at ha
    ·rename_i e
     simp only [Option.some.injEq,Prod.mk.injEq] at ha
     obtain ⟨rfl,rfl,rfl⟩ := ha
     subst e
     rw [hop,show args = #[d',x'] from Array.toList_inj.1 (by rw [h1]),show ts = #[t1,t1] from Array.toList_inj.1 (by rw [h2])]
    ·cases ha
   ·cases ha
  ·cases ha
 obtain ⟨ds,g1,g0,_,_,_,g4,_⟩ := (hT t _ ht).und
 obtain ⟨e,ie,z,zs,hd,q1,q2,q3,q4,q5,q6,q7,q8⟩ := g4 hne
 have hsl : ds = .slice e := by
  rcases hd with hd | ⟨q,hd⟩
  ·exact hd
  ·subst hd
   rw [hag] at g0
   cases g0
 subst hsl
 have hzl : zs.length = ty.elem.length := ((q5 (fun _ => True) W noM).len).symm
 have hpos : 0 < ty.elem.length := List.length_pos_iff.2 hne
 have hrun : ∀ (v1 v2 v : Value) (W' : World),c.eval d = v1 → c.eval x = v2 → (Builtin.append_ #[t,t] o.type #[v1,v2]).run P W = .ok v W' → (execOp c.eval o).run P W = .ok (.value v) W' := fun v1 v2 v W' h1 h2 h3 => by
  subst h1 h2
  simp [execOp,hop,resolve,invoke,Deferred.ofValue,Go.builtin,h3]
 have hrd := q2z h.st h.len (x := d) (fun t ht u hu => hu)
 have hrx := q2z h.st h.len (x := x) (fun t ht u hu => hu)
 unfold qGv at he
 split at he
 ·rename_i id len cap e' e2 ys hvd hvx
  split at he
  case h_2 => exact he.elim
  rename_i e'' xs hxs
  split at he
  case isFalse => exact he.elim
  rename_i hee
  obtain ⟨rfl,rfl,rfl⟩ := hee
  obtain ⟨_,⟨l1,l2,l3,l4⟩,he⟩ := he
  unfold cnt at l1 l2 l4 he
  obtain ⟨k1,k2⟩ := he _ rfl
  rw [hvd] at hrd
  rw [hvx] at hrx
  obtain ⟨b,r1,r2,r3,r4⟩ := hrd
  obtain ⟨A,cc,s1,s2,s3⟩ := hrx
  rcases s3 with rfl | ⟨ad,rfl,s3⟩
  ·simp at l1
  obtain ⟨ws,f1,f2,f3,f4,f5⟩ := Rws.flat s3
  obtain ⟨b',vs,te,p1,p2,⟨p3,p4⟩,p5⟩ := h.st.hp.at_ id _ hxs
  rw [r1] at p1
  injection p1 with p1
  subst p1
  have pl := Reps.len p3
  have pf := q9h p4
  have hf := run_firstCells_some (P := P) W ie.size ys.length ad ys.length cc ws (by rw [f1,q2]) f2
  have hbig : (len.toNat + ys.length) * ie.bytes ≤ 140737488355328 := Nat.le_trans (Nat.mul_le_mul (show len.toNat + ys.length ≤ 1100000 by omega) q7) (by decide)
  by_cases hroom : len + ys.length ≤ cap
  ·have hfit : len.toNat * ty.elem.length + ws.length ≤ vs.length := by
    have : len.toNat * ty.elem.length + ys.length * ty.elem.length ≤ xs.length * ty.elem.length := by rw [← Nat.add_mul]; exact Nat.mul_le_mul_right _ (by omega)
    omega
   have hst := run_storeCells_at P b (len.toNat * ie.size) te ws 0 vs.toArray W p2 (by rw [q2]; simpa using hfit) f4
   simp only [Nat.add_zero] at hst
   have hr : (Builtin.append_ #[t,t] o.type #[.slice (some ⟨b,0,none⟩) len.toNat cap.toNat,.slice (some ad) ys.length cc]).run P W = .ok (.slice (some ⟨b,0,none⟩) (len.toNat + ys.length) cap.toNat) (W.setRow b (vs.take (len.toNat * ie.size) ++ ws ++ vs.drop (len.toNat * ie.size + ws.length)).toArray) := by
    have hn : len.toNat + ys.length ≤ cap.toNat := by omega
    simp [Builtin.append_,run_underlying g1,sizeOf,typeInfo,q1,Builtin.lenOf,hn,hf,q5b,hst]
   refine h.write hxs r1 p2 (ob := .row ty.elem.length (xs.take len.toNat ++ ys ++ xs.drop (len.toNat + ys.length))) (u := .sl id (len + ys.length) cap ty.elem.length) (vs := vs.take (len.toNat * ie.size) ++ ws ++ vs.drop (len.toNat * ie.size + ws.length)) ⟨?_,fun us hus => ?_⟩ (qI p5 f4) (hrun _ _ _ _ r4 s1 hr)
    (fun _ _ => ⟨b,r1,by omega,hroom,by rw [show (len + (ys.length : Int)).toNat = len.toNat + ys.length by omega]⟩) (k1 _ hroom rfl) hk
   ·show Reps _ _ _ (xs.take len.toNat ++ ys ++ xs.drop (len.toNat + ys.length)).flatten _
    rw [List.flatten_append,List.flatten_append,q8n _ p4,qBv _ p4,q2,f1,← Nat.add_mul]
    exact Reps.append (Reps.append (Reps.take _ p3) f3) (Reps.drop _ p3)
   ·have hus : us ∈ xs.take len.toNat ++ ys ++ xs.drop (len.toNat + ys.length) := hus
    simp only [List.mem_append] at hus
    rcases hus with (hu | hu) | hu
    ·exact p4 us (List.mem_of_mem_take hu)
    ·exact f5 us hu
    ·exact p4 us (List.mem_of_mem_drop hu)
  ·have holds : ∀ j v,(vs.take (len.toNat * ie.size))[j]? = some v → W.cell? ((⟨b,0,none⟩ : Addr).add j) = some v := fun j v hj => by
    rw [q5b,Nat.zero_add,World.cell?,p2]
    rw [List.getElem?_take] at hj
    split at hj
    ·simpa using hj
    ·cases hj
   have hlo : (vs.take (len.toNat * ie.size)).length = len.toNat * ie.size := by
    rw [List.length_take,← pl,pf,q2]
    exact Nat.min_eq_left (Nat.mul_le_mul_right _ (by omega))
   have hr := run_append_grow (P := P) W t o.type e ie z g1 q1 q3 ⟨b,0,none⟩ len.toNat cap.toNat (vs.take (len.toNat * ie.size)) hlo holds ad ys.length cc ws (by rw [f1,q2]) f2 (by omega) (by omega) (growslice_fits (by omega) hbig)
   have hge := grownCap_ge W (len.toNat + ys.length) cap.toNat e
   rw [q4,q9e] at hr
   generalize hc : grownCap W (len.toNat + ys.length) cap.toNat e = gc at hr hge
   have hr' := hrun _ _ _ _ r4 s1 hr
   rw [show (vs.take (len.toNat * ie.size)).toArray ++ ws.toArray ++ (List.replicate (gc - (len.toNat + ys.length)) zs).flatten.toArray = (vs.take (len.toNat * ie.size) ++ ws ++ (List.replicate (gc - (len.toNat + ys.length)) zs).flatten).toArray by simp] at hr'
   refine h.alloc (.inr rfl) (ob := .row ty.elem.length (xs.take len.toNat ++ ys ++ List.replicate ((gc : Int).toNat - (len.toNat + ys.length)) ty.elem)) (u := .sl H.length (len + ys.length) gc ty.elem.length) ⟨?_,fun us hus => ?_⟩ (fun v hv => ?_) hr'
    (fun _ _ _ hm => ⟨_,hm,by omega,by omega,by rw [show (len + (ys.length : Int)).toNat = len.toNat + ys.length by omega]; rfl⟩) (k2 gc _ (by omega) (by omega) rfl) hk
   ·show Reps _ _ _ (xs.take len.toNat ++ ys ++ List.replicate ((gc : Int).toNat - (len.toNat + ys.length)) ty.elem).flatten _
    rw [List.flatten_append,List.flatten_append,q8n _ p4,q2]
    exact Reps.append (Reps.append (Reps.take _ p3) f3) (Reps.flat (q5 _ _ _) _)
   ·have hus : us ∈ xs.take len.toNat ++ ys ++ List.replicate ((gc : Int).toNat - (len.toNat + ys.length)) ty.elem := hus
    simp only [List.mem_append] at hus
    rcases hus with (hu | hu) | hu
    ·exact p4 us (List.mem_of_mem_take hu)
    ·exact f5 us hu
    ·rw [List.eq_of_mem_replicate hu]
   ·simp only [List.mem_append] at hv
    rcases hv with (hv | hv) | hv
    ·exact p5 v (List.mem_of_mem_take hv)
    ·exact f4 v hv
    ·obtain ⟨l,hl,hv⟩ := List.mem_flatten.1 hv
     rw [List.eq_of_mem_replicate hl] at hv
     exact q6 v hv
 ·rename_i e2 ys hvd hvx
  split at he
  case isFalse => exact he.elim
  rename_i hee
  subst hee
  obtain ⟨_,⟨l1,l2⟩,k2⟩ := he
  unfold cnt at l1 l2 k2
  rw [hvd] at hrd
  rw [hvx] at hrx
  have hrd : c.eval d = _ := hrd
  obtain ⟨A,cc,s1,s2,s3⟩ := hrx
  rcases s3 with rfl | ⟨ad,rfl,s3⟩
  ·simp at l1
  obtain ⟨ws,f1,f2,f3,f4,f5⟩ := Rws.flat s3
  have hbig : ys.length * ie.bytes ≤ 281474976710656 := Nat.le_trans (Nat.mul_le_mul (show ys.length ≤ 1100000 by omega) q7) (by decide)
  have hr := run_append_nil (P := P) W t o.type e ie z g1 q1 q3 ad ys.length cc ws (by rw [f1,q2]) f2 (by omega) (by omega) hbig
  have hge := grownCap_ge W ys.length 0 e
  rw [q4,q9e] at hr
  generalize hc : grownCap W ys.length 0 e = gc at hr hge
  have hr' := hrun _ _ _ _ hrd s1 hr
  rw [show ws.toArray ++ (List.replicate (gc - ys.length) zs).flatten.toArray = (ws ++ (List.replicate (gc - ys.length) zs).flatten).toArray by simp] at hr'
  refine h.alloc (.inr rfl) (ob := .row ty.elem.length (ys ++ List.replicate ((gc : Int).toNat - ys.length) ty.elem)) (u := .sl H.length ys.length gc ty.elem.length) ⟨?_,fun us hus => ?_⟩ (fun v hv => ?_) hr'
   (fun _ _ _ hm => ⟨_,hm,by omega,by omega,by simp⟩) (k2 _ gc _ rfl (by omega) rfl) hk
  ·show Reps _ _ _ (ys ++ List.replicate ((gc : Int).toNat - ys.length) ty.elem).flatten _
   rw [List.flatten_append]
   exact Reps.append f3 (Reps.flat (q5 _ _ _) _)
  ·have hus : us ∈ ys ++ List.replicate ((gc : Int).toNat - ys.length) ty.elem := hus
   simp only [List.mem_append] at hus
   rcases hus with hu | hu
   ·exact f5 us hu
   ·rw [List.eq_of_mem_replicate hu]
  ·simp only [List.mem_append] at hv
   rcases hv with hv | hv
   ·exact f4 v hv
   ·obtain ⟨l,hl,hv⟩ := List.mem_flatten.1 hv
    rw [List.eq_of_mem_replicate hl] at hv
    exact q6 v hv
 ·exact he.elim
theorem qOp {v : Value} {k : U → q1f → Prop} (hp : Hp m S base W (q1q H)) (hr : Rep (q3o base S (own m (q1q H))) W m u v) (hs : qZo u H k) :
  ∃ u' H',k u' H' ∧ Rep (q3o base S (own m (q1q H'))) W noM u' v ∧ H'.length = H.length ∧ ∀ id ob,q1q H' id ob → q1q H id ob := by
 have here : u.bare = true → k u H → ∃ u' H',k u' H' ∧ Rep (q3o base S (own m (q1q H'))) W noM u' v ∧ H'.length = H.length ∧ ∀ id ob,q1q H' id ob → q1q H id ob := fun hb hk => ⟨u,H,hk,hr.bare hb,rfl,fun _ _ h => h⟩
 unfold qZo at hs
 split at hs
 ·rename_i id len cap e
  have hdel : ∀ ob0,q0r H id = some ob0 → ∀ j ob,q1q (H.set id none) j ob → q1q H j ob := fun ob0 h0 j ob hj => by
   unfold q1q at hj ⊢
   rw [q5r _ _ (q6r h0)] at hj
   split at hj
   ·cases hj
   ·exact hj
  obtain ⟨b,r1,r2,r3,rfl⟩ := hr
  have hok : ∀ ob0, q0r H id = some ob0 → q3o base S (own m (q1q (H.set id none))) b := fun ob0 h0 =>      ⟨hp.lo _ _ r1, fun ⟨j, ob, hj, hb⟩ => by
   have := hp.inj _ _ _ _ _ (hdel ob0 h0 j ob hj) (show q1q H id ob0 from h0) hb r1
   subst this
   unfold q1q at hj
   rw [q5r _ _ (q6r h0),if_pos rfl] at hj
   cases hj⟩
  have hmv : ∀ ob0,q0r H id = some ob0 → q3s noM noM (q3o base S (own m (q1q H))) (q3o base S (own m (q1q (H.set id none)))) W W := fun ob0 h0 => q3s.up fun k hk _ => ⟨hk.1,fun ⟨j,ob,hj,hb⟩ => hk.2 ⟨j,ob,hdel ob0 h0 j ob hj,hb⟩⟩
  split at hs
  ·rename_i e' xs h0
   split at hs
   case isFalse => exact hs.elim
   rename_i hee
   subst hee
   obtain ⟨_,hl,hk⟩ := hs
   unfold cnt at hl
   obtain ⟨b',vs,te,p1,p2,⟨p3,p4⟩,p5⟩ := hp.at_ id _ h0
   rw [r1] at p1
   injection p1 with p1
   subst p1
   refine ⟨_,_,hk _ rfl,⟨some ⟨b,0,none⟩,cap.toNat,?_,?_,.inr ⟨_,rfl,?_⟩⟩,by simp,hdel _ h0⟩
   ·show Value.slice _ _ _ = Value.slice _ (xs.take len.toNat).length _
    rw [List.length_take,Nat.min_eq_left (by omega)]
   ·show (xs.take len.toNat).length ≤ _
    rw [List.length_take]
    omega
   ·exact Rws.take _ (q8p p2 (hok _ h0) _ _ 0 p4 (Reps.of_nth (Reps.move (hmv _ h0) _ _ p3) p5))
  ·rename_i xs h0
   split at hs
   case isFalse => exact hs.elim
   obtain ⟨_,hl,hk⟩ := hs
   unfold cnt at hl
   obtain ⟨b',vs,te,p1,p2,⟨rfl,p4⟩,p5⟩ := hp.at_ id _ h0
   rw [r1] at p1
   injection p1 with p1
   subst p1
   refine ⟨_,_,hk,⟨some ⟨b,0,none⟩,cap.toNat,by rw [show len.toNat = xs.length by omega],by omega,qSu p2 (hok _ h0) p4⟩,by simp,hdel _ h0⟩
  ·exact hs.elim
 all_goals first | exact hs.elim | skip
 cases u <;> first | exact here rfl hs | (rename_i h1 h2 h3 h4 h5 h6 h7; first | exact absurd rfl (h1 _ _ _ _) | exact absurd rfl (h2 _ _) | exact absurd rfl (h3 _ _ _ _) | exact absurd rfl (h4 _ _) | exact absurd rfl (h5 _) | exact absurd rfl (h6 _) | exact absurd rfl h7)
theorem qFx : ∀ {us : List U} {vs : List Value} {H : q1f} {k : List U → q1f → Prop},Hp m S base W (q1q H) → Reps (q3o base S (own m (q1q H))) W m us vs → qMg us H k →
  ∃ us' H',k us' H' ∧ Reps (q3o base S (own m (q1q H'))) W noM us' vs ∧ H'.length = H.length ∧ ∀ id ob,q1q H' id ob → q1q H id ob
 | [],[],H,k,hp,hr,hs => ⟨[],H,hs,trivial,rfl,fun _ _ h => h⟩
 | u :: us,v :: vs,H,k,hp,hr,hs => by
  obtain ⟨u',H1,h1,h2,h3,h4⟩ := qOp hp hr.1 hs
  have hl : q3s m m (q3o base S (own m (q1q H))) (q3o base S (own m (q1q H1))) W W := q3s.up fun k hk _ => ⟨hk.1,fun ⟨j,ob,hj,hb⟩ => hk.2 ⟨j,ob,h4 j ob hj,hb⟩⟩
  have hp1 := hp.move h4 (q4u.of_below (Below.refl _ _) fun k ⟨j,ob,hj,hb⟩ => ⟨j,ob,h4 j ob hj,hb⟩) fun _ _ => rfl
  obtain ⟨us',H2,g1,g2,g3,g4⟩ := qFx hp1 (Reps.move hl _ _ hr.2) h1
  have hl2 : q3s noM noM (q3o base S (own m (q1q H1))) (q3o base S (own m (q1q H2))) W W := q3s.up fun k hk _ => ⟨hk.1,fun ⟨j,ob,hj,hb⟩ => hk.2 ⟨j,ob,g4 j ob hj,hb⟩⟩
  exact ⟨_,H2,g1,⟨Rep.move hl2 _ _ h2,g2⟩,g3.trans h3,fun id ob h => h4 id ob (g4 id ob h)⟩
 | [],_ :: _,_,_,_,hr,_ => hr.elim
 | _ :: _,[],_,_,_,hr,_ => hr.elim
theorem qNt {v : Value} {k : U → q1f → Prop} (hp : Hp m S base W (q1q H)) (hr : Rep (q3o base S (own m (q1q H))) W m u v) (hs : qYy u H k) :
  ∃ u' H',k u' H' ∧ Rep (q3o base S (own m (q1q H'))) W noM u' v ∧ H'.length = H.length ∧ ∀ id ob,q1q H' id ob → q1q H id ob := by
 unfold qYy at hs
 split at hs
 ·obtain ⟨vs,rfl,h2,h3⟩ := hr
  obtain ⟨us',H',g1,g2,g3,g4⟩ := qFx hp h2 hs
  exact ⟨_,H',g1,⟨vs,rfl,g2,h3⟩,g3,g4⟩
 ·exact qOp hp hr hs
theorem qCj : ∀ {us : List U} {vs : List Value} {H : q1f} {k : List U → q1f → Prop},Hp m S base W (q1q H) → Reps (q3o base S (own m (q1q H))) W m us vs → qLx us H k →
  ∃ us' H',k us' H' ∧ Reps (q3o base S (own m (q1q H'))) W noM us' vs ∧ H'.length = H.length ∧ ∀ id ob,q1q H' id ob → q1q H id ob
 | [],[],H,k,hp,hr,hs => ⟨[],H,hs,trivial,rfl,fun _ _ h => h⟩
 | u :: us,v :: vs,H,k,hp,hr,hs => by
  obtain ⟨u',H1,h1,h2,h3,h4⟩ := qNt hp hr.1 hs
  have hl : q3s m m (q3o base S (own m (q1q H))) (q3o base S (own m (q1q H1))) W W := q3s.up fun k hk _ => ⟨hk.1,fun ⟨j,ob,hj,hb⟩ => hk.2 ⟨j,ob,h4 j ob hj,hb⟩⟩
  have hp1 := hp.move h4 (q4u.of_below (Below.refl _ _) fun k ⟨j,ob,hj,hb⟩ => ⟨j,ob,h4 j ob hj,hb⟩) fun _ _ => rfl
  obtain ⟨us',H2,g1,g2,g3,g4⟩ := qCj hp1 (Reps.move hl _ _ hr.2) h1
  have hl2 : q3s noM noM (q3o base S (own m (q1q H1))) (q3o base S (own m (q1q H2))) W W := q3s.up fun k hk _ => ⟨hk.1,fun ⟨j,ob,hj,hb⟩ => hk.2 ⟨j,ob,g4 j ob hj,hb⟩⟩
  exact ⟨_,H2,g1,⟨Rep.move hl2 _ _ h2,g2⟩,g3.trans h3,fun id ob h => h4 id ob (g4 id ob h)⟩
 | [],_ :: _,_,_,_,hr,_ => hr.elim
 | _ :: _,[],_,_,_,hr,_ => hr.elim
theorem j2c {v : Value} {k : U → q1f → Prop} (hp : Hp m S base W (q1q H)) (hr : Rep (q3o base S (own m (q1q H))) W m u v) (hs : shut u H k) :
  ∃ u' H',k u' H' ∧ Rep (q3o base S (own m (q1q H'))) W noM u' v := by
 unfold shut at hs
 split at hs
 ·obtain ⟨vs,rfl,h2⟩ := hr
  obtain ⟨us',H',g1,g2,g3,g4⟩ := qCj hp h2 hs
  exact ⟨_,H',g1,vs,rfl,g2⟩
 ·obtain ⟨u',H',g1,g2,_⟩ := qNt hp hr hs
  exact ⟨u',H',g1,g2⟩
abbrev qBs (P : Program) (C : Orc) : Prop := ∀ f,q0w P f (C f)
theorem qRn {C : Orc} {f : FuncId} {us : List U} {k : U → q1f → Prop} (hC : qBs P C) (hs : qLx us H fun us h => ∃ u,C f us u ∧ k u h) : q9u P base S f us H k := fun m W cs hp hf hb hcs => by
 obtain ⟨us',H',⟨u,h1,h2⟩,h3,h4,h5⟩ := qCj hp hcs hs
 refine ((hC f us' u h1).2 W _ cs h3).mono fun e W' ⟨v,g1,g2,g3⟩ => ?_
 have hsub : ∀ k,own m (q1q H') k → own m (q1q H) k := fun k ⟨j,ob,hj,hb⟩ => ⟨j,ob,h5 j ob hj,hb⟩
 have hg : q4u m (own m (q1q H)) W m (own m (q1q H')) W' := q4u.of_below g3 hsub
 refine ⟨u,H',m,v,h2,g1,Rep.any (Rep.move (q3s.up fun k hk _ => ?_) _ _ g2),hp.move h5 hg fun k ⟨j,ob,hj,hb⟩ => g3.block k (hp.lt j k hb),fun id hid => hf id (by omega),hg⟩
 rcases hk with hk | hk
 ·exact hk
 ·exact ⟨.inr (Nat.le_trans hb hk),fun ⟨j,ob,hj,hb⟩ => by have := hp.lt j k hb; omega⟩
theorem qJb {C : Orc} {f : FuncId} {us : List U} {k : U → q1f → Prop} (hC : qBs P C) (hp : Hp m S base W (q1q H)) (hr : ∃ cs,Reps (q3o base S (own m (q1q H))) W m us cs) (hs : qLx us H fun us h => ∃ u,C f us u ∧ k u h) : q9n P f := by
 obtain ⟨cs,hr⟩ := hr
 obtain ⟨us',H',⟨u,h1,_⟩,_⟩ := qCj hp hr hs
 exact (hC f us' u h1).1
theorem qBr {h : q1f} : ∀ {us : List U} {id e : Nat} {xs : Rows},qEj h us = some (id,e,xs) → q0r h id = some (.row e xs)
 | [],_,_,_,hs => by cases hs
 | u :: us,id,e,xs,hs => by
  unfold qEj at hs
  split at hs
  ·cases hs
  ·rename_i id' l c e' us' heq
   injection heq with h1 h2
   subst h2
   split at hs
   ·rename_i e2 xs2 h0
    injection hs with hs
    injection hs with h3 h4
    injection h4 with h4 h5
    subst h3 h4 h5
    exact h0
   ·exact qBr hs
  ·rename_i heq
   injection heq with h1 h2
   subst h2
   exact qBr hs
def qXx (id e : Nat) (xs : Rows) (u w : U) : Prop := w = u ∨ ∃ len c,u = .sl id len c e ∧ len ≤ cnt xs ∧ w = .s e (xs.take len.toNat)
theorem qAk {id e : Nat} {xs : Rows} : ∀ {a : List U} {k : List U → Prop},j3q id e xs a k → ∃ a',k a' ∧ a'.length = a.length ∧ ∀ (t : Nat) w,a'[t]? = some w → ∃ u,a[t]? = some u ∧ qXx id e xs u w
 | [],k,h => ⟨[],h,rfl,fun t w hw => by simp at hw⟩
 | u :: a,k,h => by
  have put1 : ∀ w, qXx id e xs u w → (∃ a', k (w :: a') ∧ a'.length = a.length ∧ ∀ (t : Nat) w, a'[t]? = some w → ∃ u, a[t]? = some u ∧ qXx id e xs u w) → ∃ a', k a' ∧ a'.length = (u :: a).length ∧ ∀ (t : Nat) w, a'[t]? = some w → ∃ u', (u :: a)[t]? = some u' ∧ qXx id e xs u' w := fun w hw ⟨a', h1, h2, h3⟩ =>       ⟨w :: a', h1, by simp [h2], fun t x hx => by
   cases t with
   | zero =>
    have hx : some w = some x := hx
    injection hx with hx
    subst hx
    exact ⟨u,rfl,hw⟩
   | succ t => exact h3 t x hx⟩
  unfold j3q at h
  split at h
  ·rename_i heq
   cases heq
  ·rename_i j len c e' a2 heq
   injection heq with h1 h2
   subst h1 h2
   split at h
   ·rename_i hc
    simp only [Bool.and_eq_true,beq_iff_eq] at hc
    obtain ⟨rfl,rfl⟩ := hc
    obtain ⟨_,hl,h⟩ := h
    exact put1 _ (.inr ⟨len,c,rfl,hl,rfl⟩) (qAk (h _ rfl))
   ·exact put1 _ (.inl rfl) (qAk h)
  ·rename_i heq
   injection heq with h1 h2
   subst h1 h2
   exact put1 _ (.inl rfl) (qAk h)
theorem j2j {id e : Nat} {xs : Rows} {k : List U → Prop} (h : Sat base S N a H m c W) (h0 : q0r H id = some (.row e xs)) (ht : j3q id e xs a k) :
  ∃ a',k a' ∧ Sat base S N a' (H.set id none) m c W ∧ ∀ x,own m (q1q (H.set id none)) x → own m (q1q H) x := by
 obtain ⟨a',hk,hl,hw⟩ := qAk ht
 have hp := h.st.hp
 have hdel : ∀ j ob,q1q (H.set id none) j ob → q1q H j ob := fun j ob hj => by
  unfold q1q at hj ⊢
  rw [q5r _ _ (q6r h0)] at hj
  split at hj
  ·cases hj
  ·exact hj
 have hown : ∀ x,own m (q1q (H.set id none)) x → own m (q1q H) x := fun x ⟨j,ob,hj,hb⟩ => ⟨j,ob,hdel j ob hj,hb⟩
 have hup : ∀ mm : Map,q3s mm mm (q3o base S (own m (q1q H))) (q3o base S (own m (q1q (H.set id none)))) W W := fun mm => q3s.up fun x hx _ => ⟨hx.1,fun ho => hx.2 (hown x ho)⟩
 refine ⟨a',hk,⟨hl.trans h.len,⟨h.st.defers,h.st.size,fun t w ht hN => ?_,hp.move hdel (q4u.of_below (Below.refl _ _) hown) fun _ _ => rfl,h.st.big⟩,fun j hj => h.fresh j (by simpa using hj)⟩,hown⟩
 obtain ⟨u,hu,h1⟩ := hw t w ht
 have hr := h.st.tmp t u hu hN
 rcases h1 with rfl | ⟨len,cp,rfl,hle,rfl⟩
 ·exact Rep.move (hup m) _ _ hr
 ·obtain ⟨b,r1,r2,r3,r4⟩ := hr
  rw [r4]
  unfold cnt at hle
  have hok : q3o base S (own m (q1q (H.set id none))) b :=   ⟨hp.lo _ _ r1, fun ⟨j, ob, hj, hb⟩ => by
   have := hp.inj _ _ _ _ _ (hdel j ob hj) (show q1q H id (.row e xs) from h0) hb r1
   subst this
   unfold q1q at hj
   rw [q5r _ _ (q6r h0),if_pos rfl] at hj
   cases hj⟩
  obtain ⟨b',vs,te,p1,p2,⟨p3,p4⟩,p5⟩ := hp.at_ id _ h0
  rw [r1] at p1
  injection p1 with p1
  subst p1
  refine ⟨some ⟨b,0,none⟩,cp.toNat,?_,?_,.inr ⟨_,rfl,?_⟩⟩
  ·show Value.slice _ _ _ = Value.slice _ (xs.take len.toNat).length _
   rw [List.length_take,Nat.min_eq_left (by omega)]
  ·show (xs.take len.toNat).length ≤ _
   rw [List.length_take]
   omega
  ·exact Rws.take _ (q8p p2 hok _ _ 0 p4 (Reps.of_nth (Reps.move (hup noM) _ _ p3) p5))
theorem j2p {C : Orc} {k : List U → q1f → Prop} (hT : q4w P T) (hX : qHg P T) (hC : qBs P C) (hE : q9p P base S E) (h : Sat base S N a H m c W) (he : qFo T C E a H o k) (hk : qNv base S N H m W k next) : o.wp P c W next Q := by
 unfold qFo at he
 split at he
 ·rename_i f us hcall
  split at he
  ·rename_i e hx
   exact qZg hX h hcall hx he hk
  ·split at he
   ·obtain ⟨h1,h2⟩ := hE f _ H _ he
    exact qDp h1 h2 h hcall hk
   ·split at he
    ·rename_i id e xs hfs
     obtain ⟨a',he,h',ho⟩ := j2j h (qBr hfs) he
     split at he
     case h_2 => exact he.elim
     rename_i f' us' hcall'
     obtain ⟨x,args,ts,vs,_,e1,e2⟩ := q7o h' hcall'
     exact qDp (qJb hC h'.st.hp ⟨_,e2⟩ he) (qRn (k := fun u h => k (Rd.put a' o.dst u) h) hC he) h' hcall' fun a2 H2 m2 c2 W2 g1 g2 g3 => hk a2 H2 m2 c2 W2 g1 g2 ⟨g3.map,fun x hx => (g3.new x hx).imp (ho x) fun h => h,g3.size,fun x hx hn => g3.mem x hx fun hh => hn (ho x hh),g3.os,g3.tape,g3.output⟩
    ·obtain ⟨x,args,ts,vs,ho,e1,e2⟩ := q7o h hcall
     exact qDp (qJb hC h.st.hp ⟨_,e2⟩ he) (qRn (k := fun u h => k (Rd.put a o.dst u) h) hC he) h hcall hk
 ·split at he
  ·rename_i d x t ha
   split at he
   ·rename_i ty ht
    split at he
    ·exact he.elim
    ·rename_i hc
     simp only [not_or] at hc
     exact qZt hT h ha ht hc.1 (Bool.eq_false_iff.2 hc.2.1) he hk
   ·exact he.elim
  ·exact qZs hT h he hk
end
end Go.Proofs.YtjkcmnedolfkjaaGreat.Rd
end
section
set_option linter.unusedVariables false
set_option linter.unusedSimpArgs false
namespace Go.Proofs.YtjkcmnedolfkjaaGreat.Rd
open Go Go.RowKit Go.Proofs.YtjkcmnedolfkjaaGreatW.PrintWords
def Post (a' : List U) (wt : List Nat) (G : Nat → U → Prop) : Nat → U → Prop := fun t u => (t ∉ wt ∧ G t u) ∨ (t ∈ wt ∧ a'[t]? = some u)
structure Stp (P : Program) (ops : Array Oper) (o : Oper) (a : List U) (H : q1f) (a' : List U) (H' : q1f) (fp : Fp) : Prop where
 same : ∀ id,id ∉ fp.wo → H'[id]? = H[id]?
 len : H.length ≤ H'.length
 size : a'.length = a.length
 keep : ∀ t,t ∉ fp.wt → a'[t]? = a[t]?
 does : ∀ {base : Nat} {S : Nat → Prop} {N : Nat} {G : Nat → U → Prop} {m : Map} {K : Kn} {c : Act} {W : World} {i : Nat} {next : Act → World → Prop} {Q : Exit → Act → World → Prop},ops[i]? = some o → a.length = N → St base S N G m K c W →
  (∀ t,t ∈ fp.rt → ∀ u,a[t]? = some u → G t u) → (∀ id ob,id ∈ fp.ro ∨ id ∈ fp.wo → q0r H id = some ob → K id ob) → (∀ id,H.length ≤ id → id ∈ fp.wo → m id = none) →
  (∀ m' K' c' W',St base S N (Post a' fp.wt G) m' K' c' W' → (∀ id ob,K' id ob ↔ if id ∈ fp.wo then q0r H' id = some ob else K id ob) → (∀ id,m' id ≠ none → m id ≠ none ∨ (id ∈ fp.wo ∧ id < H'.length)) → q4u m (own m K) W m' (own m' K') W' → next c' W') → wpOp P ops Q i next c W
section
variable {P : Program} {T : Tab} {a a' : List U} {base : Nat} {S : Nat → Prop} {N : Nat} {G : Nat → U → Prop} {m : Map} {K : Kn} {c : Act} {W : World} {H H' : q1f} {o : Oper} {C : Orc} {E : Ent} {u : U} {Q : Exit → Act → World → Prop} {next : Act → World → Prop} {ops : Array Oper}
theorem qLb (h : St base S N G m K c W) (hN : a.length = N) {j : Nat} {b : Option Bool} (hG : ∀ d,(ops[j]?).bind (·.dst) = some d → ∀ u,a[d]? = some u → G d u) (hy : qFt ops a j = some b) : yielded ops c.tmps j = b := by
 unfold qFt at hy
 unfold yielded
 split at hy
 ·rename_i d hd
  rw [hd]
  have hv' : Rep (q3o base S (own m K)) W m (get a d) (c.tmps.getD d undef) := q2z h hN (x := .tmp d) (fun t ht u hu => by injection ht with ht; subst ht; exact hG _ hd u hu)
  have hg : c.tmps.getD d undef = (c.tmps[d]?).getD undef := by simp [Array.getD_eq_getD_getElem?]
  rw [hg] at hv'
  show (match c.tmps[d]? with | some (Value.bool b) => some b | _ => none) = b
  split at hy
  ·rename_i b' he
   injection hy with hy
   subst hy
   rw [he] at hv'
   have e : (c.tmps[d]?).getD undef = .bool b' := hv'
   cases hq : c.tmps[d]? with
   | none => rw [hq] at e; cases e
   | some v => rw [hq] at e; simp at e; subst e; rfl
  ·rename_i q he
   injection hy with hy
   subst hy
   rw [he] at hv'
   have e : (c.tmps[d]?).getD undef = .tuple q := hv'
   cases hq : c.tmps[d]? with
   | none => rfl
   | some v => rw [hq] at e; simp at e; subst e; rfl
  ·cases hy
 ·rename_i hd
  rw [hd]
  injection hy with hy
theorem qUk {k : List U → q1f → Prop} (hT : q4w P T) (hX : qHg P T) (hC : qBs P C) (hE : q9p P base S E) {i : Nat} (hi : ops[i]? = some o) (h : Sat base S N a H m c W) (hr : step (qFo T C E) ops a H o k) (go : qNv base S N H m W k next) : wpOp P ops Q i next c W := by
 have hskip : k (put a o.dst (.v undef)) H → next (c.put o.dst undef) W := fun hr =>
  go _ _ _ _ _ hr (h.put (q4u.refl _ _ _) h.st.hp h.fresh o.dst (show Rep _ W m (.v undef) undef from rfl)) (q4u.refl _ _ _)
 have hexec : qFo T C E a H o k → o.wp P c W next Q := fun he => j2p hT hX hC hE h he go
 unfold wpOp
 rw [hi]
 simp only
 unfold step at hr
 cases hg : o.guard with
 | none =>
  simp only [hg] at hr
  rw [if_pos (by simp [Region.wanted,hg])]
  exact .inl (hexec hr)
 | some p =>
  obtain ⟨j,w⟩ := p
  simp only [hg] at hr
  cases hy : qFt ops a j with
  | none => simp only [hy] at hr
  | some ob =>
   have hw : Region.wanted o (yielded ops c.tmps) = (ob == some w) := by simp only [Region.wanted,hg]; rw [qLb h.st h.len (fun d _ u hu => hu) hy]
   rw [hw]
   cases ob with
   | none =>
    simp only [hy] at hr
    rw [if_neg (by simp)]
    exact hskip hr
   | some b =>
    simp only [hy] at hr
    split at hr
    ·rename_i e
     subst e
     rw [if_pos (by simp)]
     exact .inl (hexec hr)
    ·rename_i e
     rw [if_neg (by simpa using e)]
     exact hskip hr
theorem j0t {k : List U → q1f → Prop} (hT : q4w P T) (hX : qHg P T) (hC : qBs P C) (hE : q9p P base S E) : ∀ (l : List Oper) (i : Nat) (a : List U) (H : q1f) (m : Map) (c : Act) (W : World),ops.toList.drop i = l → Sat base S N a H m c W →
  run (qFo T C E) ops l a H k → qNv base S N H m W k (Q .normal) → wpOps P ops Q (List.range' i l.length) c W
 | [],i,a,H,m,c,W,_,h,hr,hk => hk a H m c W hr h (q4u.refl _ _ _)
 | o :: l,i,a,H,m,c,W,hl,h,hr,hk => by
  have hi : ops[i]? = some o := by
   rw [← Array.getElem?_toList]
   have := congrArg (fun l => l[0]?) hl
   simpa using this
  have hl' : ops.toList.drop (i + 1) = l := by
   have := congrArg List.tail hl
   simpa using this
  rw [List.length_cons,List.range'_succ,wpOps_cons]
  exact qUk hT hX hC hE hi h hr fun a' H' m' c' W' g1 g2 g3 =>
   j0t hT hX hC hE l (i + 1) a' H' m' c' W' hl' g2 g1 fun a'' H'' m'' c'' W'' q1 q2 q3 => hk _ _ _ _ _ q1 q2 (g3.trans q3)
theorem qOr {f : Nat → Prop} : ∀ {is : List Nat},conj is f → ∀ i ∈ is,f i
 | [],_,i,hi => by cases hi
 | [x],h,i,hi => by rw [List.mem_singleton.1 hi]; exact h
 | x :: y :: is,h,i,hi => by
  rcases List.mem_cons.1 hi with rfl | hi
  ·exact h.1
  ·exact qOr (is := y :: is) h.2 i hi
theorem qBl {done : List Nat} {listed : Array Bool} (hl : listed.size = ops.size) (hd : ∀ i,listed.getD i false = true ↔ i ∈ done) (i : Nat) : i ∈ rdy ops.toList done ↔ i ∈ Region.ready .any ops listed := by
 have hb : ∀ o : Oper,(∀ e ∈ o.after,Region.binds .any e = true → listed.getD e.on false = true) ↔ (q3k o).all (fun e => done.contains e) = true := fun o => by
  unfold q3k
  rw [List.all_eq_true]
  constructor
  ·intro h e he
   obtain ⟨e',h1,rfl⟩ := List.mem_map.1 he
   obtain ⟨h2,h3⟩ := List.mem_filter.1 h1
   simpa using (hd e'.on).1 (h e' (by simpa using h2) h3)
  ·intro h e he hb
   exact (hd e.on).2 (by simpa using h e.on (List.mem_map.2 ⟨e,List.mem_filter.2 ⟨by simpa using he,hb⟩,rfl⟩))
 have gd : i < ops.size → listed.getD i true = listed.getD i false := fun hi => by simp [show i < listed.size by omega]
 rw [mem_ready]
 unfold rdy
 rw [List.mem_filter,List.mem_range]
 constructor
 ·rintro ⟨h1,h2⟩
  have h1 : i < ops.size := by simpa using h1
  simp only [Bool.and_eq_true] at h2
  obtain ⟨h2,h3⟩ := h2
  have ho : ops.toList[i]? = some ops[i] := by simp [h1]
  rw [ho] at h3
  refine ⟨?_,ops[i],by simp [h1],(hb _).2 h3⟩
  rw [gd h1]
  cases hx : listed.getD i false with
  | false => rfl
  | true =>
   have := (hd i).1 hx
   simp [this] at h2
 ·rintro ⟨h1,o,h2,h3⟩
  have hi : i < ops.size := (Array.getElem?_eq_some_iff.1 h2).1
  have ho : ops.toList[i]? = some o := by rw [Array.getElem?_toList]; exact h2
  refine ⟨by simpa using hi,?_⟩
  rw [ho]
  simp only [Bool.and_eq_true]
  refine ⟨?_,(hb o).1 h3⟩
  rw [gd hi] at h1
  have : i ∉ done := fun hm => by rw [(hd i).2 hm] at h1; cases h1
  simpa using this
def qVt (P : Program) (o : Oper) : Prop := ∀ ρ w n w',(execOp ρ o).run P w = .ok n w' → w' = w ∧ ∃ u,n = .value u
def Qt (P : Program) {α : Type} (s : Sem α) : Prop := ∀ w v w',s.run P w = .ok v w' → w' = w
theorem Qt.bind {α β : Type} {s : Sem α} {f : α → Sem β} (h : Qt P s) (hf : ∀ x,Qt P (f x)) : Qt P (s >>= f) := fun w v w' e => by
 rw [Sem.run_bind] at e
 cases hs : s.run P w with
 | ok x w1 =>
  rw [hs] at e
  have h1 := h _ _ _ hs
  subst h1
  exact hf x _ _ _ e
 | halt x w1 => rw [hs] at e; cases e
theorem Qt.pure {α : Type} (x : α) : Qt P (Pure.pure x : Sem α) := fun w v w' e => by rw [Sem.run_pure] at e; injection e with _ e; exact e.symm
theorem Qt.halt {α : Type} (x : Halt) : Qt P (Sem.halt x : Sem α) := fun w v w' e => by rw [Sem.run_halt] at e; cases e
theorem Qt.program : Qt P program := fun w v w' e => by rw [run_program] at e; injection e with _ e; exact e.symm
theorem Qt.underlying (t : TypeId) : Qt P (underlying t) := by
 unfold Go.underlying
 refine Qt.bind Qt.program fun p => ?_
 split
 ·exact Qt.pure _
 ·exact Qt.halt _
theorem Qt.typeInfo (t : TypeId) : Qt P (typeInfo t) := by
 unfold Go.typeInfo
 refine Qt.bind Qt.program fun p => ?_
 split
 ·exact Qt.pure _
 ·exact Qt.halt _
theorem Qt.sizeOf (t : TypeId) : Qt P (sizeOf t) := by
 unfold Go.sizeOf
 exact Qt.bind (Qt.typeInfo t) fun _ => Qt.pure _
theorem Qt.isAgg (t : TypeId) : Qt P (isAgg t) := by
 unfold Go.isAgg
 refine Qt.bind (Qt.underlying t) fun d => ?_
 split <;> exact Qt.pure _
theorem Qt.load (a : Addr) (m : Mode) : Qt P (load a m) := fun w v w' e => by
 rw [run_load] at e
 split at e
 ·injection e with _ e; exact e.symm
 ·split at e
  ·injection e with _ e; exact e.symm
  ·cases e
theorem Qt.cells (a : Addr) : ∀ (n i : Nat) (acc : Array Value),Qt P (loadCellsFrom a i n acc)
 | 0,i,acc => by unfold loadCellsFrom; exact Qt.pure _
 | n + 1,i,acc => by
  unfold loadCellsFrom
  exact Qt.bind (Qt.load _ _) fun v => Qt.cells a n (i + 1) _
theorem Qt.sureAddr (v : Value) : Qt P (Instr.sureAddr v) := by
 unfold Instr.sureAddr
 split
 ·exact Qt.pure _
 ·exact Qt.halt _
theorem Qt.loadAt (t : TypeId) (v : Value) : Qt P (Instr.loadAt t v) := by
 unfold Instr.loadAt
 refine Qt.bind (Qt.sureAddr v) fun a => ?_
 unfold loadVar
 refine Qt.bind (Qt.isAgg t) fun b => ?_
 cases b
 ·exact Qt.load _ _
 ·refine Qt.bind (Qt.sizeOf t) fun n => ?_
  unfold loadCells
  exact Qt.bind (Qt.cells _ _ _ _) fun _ => Qt.pure _
def Nv (P : Program) {α : Type} (s : Sem α) : Prop := ∀ w v w',¬ s.run P w = .ok v w'
theorem Nv.bind {α β : Type} {s : Sem α} {f : α → Sem β} (hf : ∀ x,Nv P (f x)) : Nv P (s >>= f) := fun w v w' e => by
 rw [Sem.run_bind] at e
 cases hs : s.run P w with
 | ok x w1 => rw [hs] at e; exact absurd e (hf x _ _ _)
 | halt x w1 => rw [hs] at e; cases e
theorem Nv.halt {α : Type} (x : Halt) : Nv P (Sem.halt x : Sem α) := fun w v w' e => by rw [Sem.run_halt] at e; cases e
theorem Nv.qt {α : Type} {s : Sem α} (h : Nv P s) : Qt P s := fun w v w' e => absurd e (h _ _ _)
theorem Nv.panic {α : Type} (e : RuntimeError) : Nv P (runtimePanic e : Sem α) := by
 unfold runtimePanic
 refine Nv.bind fun p => ?_
 dsimp only
 split <;> first | exact Nv.halt _ | exact Nv.bind fun _ => Nv.bind fun _ => Nv.halt _
theorem Qt.boundsPanic {α : Type} (k : IntKind) (x y : Int) (c : BoundsCode) : Qt P (boundsPanic k x y c : Sem α) := by
 unfold Go.boundsPanic
 dsimp only
 split <;> exact (Nv.bind fun _ => Nv.panic _).qt
theorem Qt.indexAt (t : TypeId) (x i : Value) : Qt P (Instr.indexAt t x i) := by
 unfold Instr.indexAt
 refine Qt.bind ?_ fun p => ?_
 ·unfold asIntOf
  split
  ·exact Qt.pure _
  ·exact Qt.halt _
  ·exact Qt.halt _
 refine Qt.bind (Qt.underlying t) fun q => ?_
 have key : ∀ {α : Type} (f : α → Sem Value) (s : Sem α),Qt P s → (∀ z,Qt P (f z)) → Qt P (s >>= f) := fun f s h1 h2 => Qt.bind h1 h2
 dsimp only
 split
 ·refine Qt.bind (Qt.sureAddr _) fun _ => Qt.bind (Qt.pure _) fun z => ?_
  obtain ⟨base,len,elem⟩ := z
  refine Qt.bind (Qt.underlying t) fun d => ?_
  dsimp only
  split
  ·split
   ·exact Qt.bind (Qt.sizeOf _) fun _ => Qt.pure _
   ·repeat' split
    all_goals first | exact Qt.halt _ | exact Qt.boundsPanic _ _ _ _
  ·exact Qt.boundsPanic _ _ _ _
 ·refine Qt.bind (Qt.pure _) fun z => ?_
  obtain ⟨base,len,elem⟩ := z
  refine Qt.bind (Qt.underlying t) fun d => ?_
  dsimp only
  split
  ·split
   ·exact Qt.bind (Qt.sizeOf _) fun _ => Qt.pure _
   ·repeat' split
    all_goals first | exact Qt.halt _ | exact Qt.boundsPanic _ _ _ _
  ·exact Qt.boundsPanic _ _ _ _
 ·exact fun w v w' e => by rw [Sem.run_bind,run_stuck] at e; cases e
theorem qNo {o : Oper} {s : (Operand → Value) → Sem Value} (h : ∀ ρ,execOp ρ o = (do pure (Next.value (← s ρ)))) (hs : ∀ ρ,Qt P (s ρ)) : qVt P o := fun ρ w n w' e => by
 rw [h,Sem.run_bind] at e
 cases hr : (s ρ).run P w with
 | ok x w1 =>
  rw [hr] at e
  have h1 := hs ρ _ _ _ hr
  subst h1
  simp at e
  exact ⟨e.2.symm,x,e.1.symm⟩
 | halt x w1 => rw [hr] at e; cases e
theorem qGm {o : Oper} (h : calm o = true) : qVt P o := by
 unfold calm at h
 split at h
 ·rename_i t x ho
  exact qNo (s := fun ρ => Instr.loadAt t (ρ x)) (fun ρ => by simp [execOp,ho]) fun ρ => Qt.loadAt _ _
 ·rename_i t x i ho
  exact qNo (s := fun ρ => Instr.indexAt t (ρ x) (ρ i)) (fun ρ => by simp [execOp,ho]) fun ρ => Qt.indexAt _ _ _
 ·cases h
def q7p (P : Program) (ops : Array Oper) (o : Oper) (v : Value) (c : Act) (w : World) : Prop := Region.wanted o (yielded ops c.tmps) = true ∧ (execOp c.eval o).run P w = .ok (.value v) w
theorem qUq {j : Nat} {oi oj : Oper} {v : Value} (hj : ops[j]? = some oj) (hap : oi.apart ops oj = true) (hst : qVt P oj)
  (hsi : ∀ cs b,oi.op ≠ .select cs b) (hsj : ∀ cs b,oj.op ≠ .select cs b)
  (hQ : ∀ c a w,Q (.panic c) (a.put oi.dst v) w → Q (.panic c) a w) {K : Act → World → Prop} {c : Act} {w : World}
  (hy : q7p P ops oi v c w) (h : wpOp P ops Q j K (c.put oi.dst v) w) :
  wpOp P ops Q j (fun a' w' => w' = w ∧ q7p P ops oi v a' w ∧ K (a'.put oi.dst v) w') c w := by
 obtain ⟨h1,h2,h3⟩ := Oper.apart_spec hap
 have keep : ∀ (a : Act),q7p P ops oi v a w → ∀ u,q7p P ops oi v (a.put oj.dst u) w := fun a hy u => by
  unfold q7p at *
  rw [execOp_put oi hsi a oj.dst u h3,wanted_put oi a oj.dst u h3]
  exact hy
 unfold wpOp at *
 simp only [hj] at *
 rw [wanted_put oj c oi.dst v h1] at h
 split
 ·rename_i hw
  simp only [hw,if_true] at h
  rcases h with h | ⟨hasks,hlets⟩
  case inr => exact .inr ⟨by unfold Oper.asks at *; rw [execOp_put oj hsj c oi.dst v h1] at hasks; exact hasks,hlets⟩
  refine .inl ?_
  unfold Oper.wp at *
  rw [execOp_put oj hsj c oi.dst v h1] at h
  have hq := hst c.eval w
  generalize (execOp c.eval oj).run P w = r at *
  cases r with
  | ok n w' =>
   obtain ⟨e,u,rfl⟩ := hq _ _ rfl
   subst e
   simp only [Oper.upon] at h ⊢
   exact ⟨trivial,keep c hy u,by rw [← Act.put_comm c v u h2]; exact h⟩
  | halt x w' =>
   cases x <;> simp only [Oper.upon] at h ⊢
   case panic u => exact hQ _ _ _ h
 ·rename_i hw
  simp only [hw] at h
  exact ⟨trivial,keep c hy _,by rw [← Act.put_comm c v undef h2]; exact h⟩
def qEc (ops : Array Oper) (listed : Array Bool) : Prop := ∀ (j : Nat) o,ops[j]? = some o → listed.getD j false = true → ∀ e ∈ q3k o,listed.getD e false = true
theorem qAv {j : Nat} {listed : Array Bool} (h : j ∈ Region.ready .any ops listed) : ∃ o,ops[j]? = some o ∧ listed.getD j true = false ∧ ∀ e ∈ q3k o,listed.getD e false = true := by
 obtain ⟨h1,o,ho,h2⟩ := mem_ready.1 h
 refine ⟨o,ho,h1,fun e he => ?_⟩
 unfold q3k at he
 obtain ⟨e',he',rfl⟩ := List.mem_map.1 he
 obtain ⟨h3,h4⟩ := List.mem_filter.1 he'
 exact h2 e' (by simpa using h3) h4
theorem qEc.add {i : Nat} {listed : Array Bool} (h : qEc ops listed) (hi : i ∈ Region.ready .any ops listed) : qEc ops (listed.setIfInBounds i true) := fun j o ho hl e he => by
 obtain ⟨o',ho',_,h2⟩ := qAv hi
 by_cases e1 : j = i
 ·subst e1
  rw [ho] at ho'
  injection ho' with ho'
  subst ho'
  exact getD_set_true (h2 e he)
 ·rw [getD_set_ne false (Ne.symm e1)] at hl
  exact getD_set_true (h j o ho hl e he)
theorem qKl {i : Nat} {listed : Array Bool} (hc : qEc ops listed) (hi : listed.getD i false = false) : ∀ (l : List Oper) (j : Nat) (acc : List Nat),(∀ x o,l[x]? = some o → ops[j + x]? = some o) → (∀ x ∈ acc,listed.getD x false = false ∧ x ∉ Region.ready .any ops listed) → ∀ x ∈ qEr i j l acc,listed.getD x false = false ∧ x ∉ Region.ready .any ops listed
 | [],j,acc,_,ha,x,hx => ha x hx
 | o :: os,j,acc,hl,ha,x,hx => by
  unfold qEr at hx
  refine qKl hc hi os (j + 1) _ (fun x o ho => by rw [Nat.add_assoc,Nat.add_comm 1 x]; exact hl (x + 1) o (by simpa using ho)) ?_ x hx
  have ho : ops[j]? = some o := by simpa using hl 0 o rfl
  split
  ·rename_i hb
   intro x hx
   rcases List.mem_cons.1 hx with rfl | hx
   ·obtain ⟨e,he,hb⟩ := List.any_eq_true.1 hb
    have hne : ¬ listed.getD e false = true := fun h => by
     rcases Bool.or_eq_true _ _ ▸ hb with hb | hb
     ·rw [eq_of_beq hb,hi] at h; cases h
     ·have := (ha e (by simpa using hb)).1
      rw [this] at h; cases h
    refine ⟨?_,fun hr => ?_⟩
    ·cases hx : listed.getD x false with
     | false => rfl
     | true => exact absurd (hc x o ho hx e he) hne
    ·obtain ⟨o',ho',_,h2⟩ := qAv hr
     rw [ho] at ho'
     injection ho' with ho'
     subst ho'
     exact hne (h2 e he)
   ·exact ha x hx
  ·exact ha
theorem qLn {i : Nat} {oi : Oper} {v : Value} {w : World} (hi : ops[i]? = some oi) (hsel : ∀ (j : Nat) (o : Oper) cs b,ops[j]? = some o → o.op ≠ .select cs b)
  (hQ : ∀ c a w,Q (.panic c) (a.put oi.dst v) w → Q (.panic c) a w) :
  ∀ (fuel : Nat) (listed : Array Bool) (c : Act),qEc ops listed →
   (∀ j oj,ops[j]? = some oj → j ≠ i → listed.getD j true = false → j ∉ qEr i 0 ops.toList [] → oi.apart ops oj = true ∧ qVt P oj) →
   i ∈ Region.ready .any ops listed → q7p P ops oi v c w →
   wpAny P .any ops Q fuel (listed.setIfInBounds i true) (c.put oi.dst v) w → wpAny P .any ops Q (fuel + 1) listed c w := by
 have hgo : ∀ {c : Act} {K : Act → World → Prop},q7p P ops oi v c w → K (c.put oi.dst v) w → wpOp P ops Q i K c w := fun {c K} hy h => by
  unfold wpOp
  simp only [hi,hy.1,if_true]
  refine .inl ?_
  unfold Oper.wp
  rw [hy.2]
  exact h
 intro fuel
 induction fuel with
 | zero =>
  intro listed c _ _ hr hy H
  refine ⟨fun h => (by rw [h] at hr; cases hr),fun j hj => ?_⟩
  by_cases hji : j = i
  ·subst hji; exact hgo hy H
  ·have := ready_mono hj hji
   rw [H.1] at this
   cases this
 | succ fuel ih =>
  intro listed c hc hfree hr hy H
  refine ⟨fun h => (by rw [h] at hr; cases hr),fun j hj => ?_⟩
  by_cases hji : j = i
  ·subst hji; exact hgo hy H
  ·have h1 := H.2 j (ready_mono hj hji)
   obtain ⟨hjun,oj,hoj,_⟩ := mem_ready.1 hj
   obtain ⟨hiun,oi',hoi',_⟩ := mem_ready.1 hr
   have hun : listed.getD i false = false := by
    rcases Nat.lt_or_ge i listed.size with h' | h'
    ·simpa [h'] using hiun
    ·simp [Array.getD_eq_getD_getElem?,Array.getElem?_eq_none h']
   have hnb : j ∉ qEr i 0 ops.toList [] := fun hb => (qKl hc hun ops.toList 0 [] (fun x o ho => by rw [Nat.zero_add,← Array.getElem?_toList]; exact ho) (fun x hx => by cases hx) j hb).2 hj
   obtain ⟨f1,f2⟩ := hfree j oj hoj hji hjun hnb
   have h2 := qUq hoj f1 f2 (fun cs b => hsel i oi cs b hi) (fun cs b => hsel j oj cs b hoj) hQ hy h1
   have hfree' : ∀ k ok,ops[k]? = some ok → k ≠ i → (listed.setIfInBounds j true).getD k true = false → k ∉ qEr i 0 ops.toList [] → oi.apart ops ok = true ∧ qVt P ok := fun k ok hk hki hun hno => by
    refine hfree k ok hk hki ?_ hno
    by_cases hjk : j = k
    ·subst hjk; exact hjun
    ·rw [getD_set_ne true hjk] at hun; exact hun
   refine wpOp_mono (fun a' w' h3 => ?_) h2
   obtain ⟨e,h4,h5⟩ := h3
   subst e
   refine ih (listed.setIfInBounds j true) a' (hc.add hj) hfree' (ready_mono hr (Ne.symm hji)) h4 ?_
   rw [Array.setIfInBounds_comm _ _ hji]
   exact h5
theorem qCm {done : List Nat} {p : Nat → Oper → Bool} : ∀ {l : List Oper} {j : Nat},qQh done p j l = true → ∀ x o,l[x]? = some o → j + x ∉ done → p (j + x) o = true
 | [],_,_,x,o,h,_ => by simp at h
 | o :: os,j,hh,x,o',h,hn => by
  unfold qQh at hh
  split at hh
  ·rename_i hd
   cases x with
   | zero => exact absurd (by simpa using hd) hn
   | succ x =>
    have := qCm hh x o' (by simpa using h) (by rw [Nat.add_assoc,Nat.add_comm 1 x]; exact hn)
    rwa [Nat.add_assoc,Nat.add_comm 1 x] at this
  ·split at hh
   ·rename_i hp
    cases x with
    | zero => simp at h; subst h; exact hp
    | succ x =>
     have := qCm hh x o' (by simpa using h) (by rw [Nat.add_assoc,Nat.add_comm 1 x]; exact hn)
     rwa [Nat.add_assoc,Nat.add_comm 1 x] at this
   ·cases hh
theorem qCp {p : Nat → Oper → Bool} : ∀ {is : List Nat} {i : Nat},qRe p ops is = some i → i ∈ is ∧ ∃ o,ops[i]? = some o ∧ p i o = true
 | [],_,h => by cases h
 | x :: is,i,h => by
  unfold qRe at h
  split at h
  ·rename_i o ho
   split at h
   ·rename_i hp
    injection h with h
    subst h
    exact ⟨by simp,o,ho,hp⟩
   ·obtain ⟨h1,h2⟩ := qCp h
    exact ⟨List.mem_cons_of_mem _ h1,h2⟩
  ·obtain ⟨h1,h2⟩ := qCp h
   exact ⟨List.mem_cons_of_mem _ h1,h2⟩
theorem qXl {k : U → q1f → Prop} (hT : q4w P T) (hf : flat a o = true) (hv : val T a H o k) (h : Sat base S N a H m c W) : ∃ v,∀ w,(execOp c.eval o).run P w = .ok (.value v) w := by
 unfold flat at hf
 split at hf
 ·cases hf
 have rv : ∀ x : Operand,Rep (q3o base S (own m (q1q H))) W m (ov a x) (c.eval x) := fun x => q2z h.st h.len fun t _ u hu => hu
 split at hf
 ·rename_i x ho; exact ⟨c.eval x,fun w => by simp [execOp,ho]⟩
 ·rename_i x ho; exact ⟨c.eval x,fun w => by simp [execOp,ho]⟩
 ·rename_i x ho
  have hr := rv x
  simp only [val,ho] at hv
  split at hv
  case h_4 => exact hv.elim
  all_goals
   rename_i he
   rw [he] at hr
   obtain ⟨b,h1,h2⟩ := hr
  ·exact ⟨_,fun w => by simp [execOp,ho,h2]; rfl⟩
  ·exact ⟨_,fun w => by simp [execOp,ho,h2.2]; rfl⟩
  ·exact ⟨_,fun w => by simp [execOp,ho,h1]; rfl⟩
 ·rename_i t x f ho
  have hr := rv x
  simp only [val,ho] at hv
  split at hv
  case h_2 => exact hv.elim
  rename_i p hp
  obtain ⟨ty,ht,hp⟩ := Option.bind_eq_some_iff.1 hp
  split at hv
  case isTrue => exact hv.elim
  rename_i hz
  have hrun : ∀ (ad : Addr) (W : World),(Instr.fieldAt t (.pointer (some ad)) f).run P W = .ok (.pointer (some (ad.add p.1))) W := fun ad W => by
   obtain ⟨d,g1,_,_,_,g3,_⟩ := (hT t _ ht).und
   obtain ⟨fs,fd,i,d',rfl,q1,q2,q3,q4,_,_⟩ := g3 f p hp
   have hne : i.size ≠ 0 := by rw [q4]; exact hz
   simp [Instr.fieldAt,run_underlying g1,q1,Instr.sureAddr,fieldPlace,q3g q3,hne,q2]
  split at hv
  case h_4 => exact hv.elim
  all_goals
   rename_i he
   rw [he] at hr
   obtain ⟨b,h1,h2⟩ := hr
  ·exact ⟨_,fun w => q5e (s := Instr.fieldAt t (c.eval x) f) (by simp [execOp,ho]) (by rw [h2]; exact hrun _ w)⟩
  ·exact ⟨_,fun w => q5e (s := Instr.fieldAt t (c.eval x) f) (by simp [execOp,ho]) (by rw [h2.2]; exact hrun _ w)⟩
  ·exact ⟨_,fun w => q5e (s := Instr.fieldAt t (c.eval x) f) (by simp [execOp,ho]) (by rw [h1]; exact hrun _ w)⟩
 ·rename_i t x i ho
  split at hf
  case h_2 => cases hf
  rename_i id len cp e he
  have hr := rv x
  rw [he] at hr
  simp only [val,ho,he] at hv
  split at hv
  case h_2 => simp_all
  case h_3 => simp_all
  case h_4 => simp_all
  case h_5 => exact hv.elim
  rename_i ty id' len' cp' e' kk z ht he' hz
  injection he' with e1 e2 e3 e4
  subst e1 e2 e3 e4
  split at hv
  case isFalse => exact hv.elim
  rename_i hb
  obtain ⟨b2,b3,b4⟩ := hb
  obtain ⟨_,⟨b0,b1⟩,hv⟩ := hv
  obtain ⟨b,r1,r2,r3,r4⟩ := hr
  have hel : ∀ (A : Addr) (n cc : Nat) (kk : IntKind) (z : Int) (W : World),0 ≤ z → z.toNat < n → (Instr.indexAt t (.slice (some A) n cc) (.int kk z)).run P W = .ok (.pointer (some (A.add (z.toNat * ty.elem.length)))) W := by
   intro A n cc kk z W h0 hlt
   obtain ⟨d,g1,g0,_,_,_,g4,_⟩ := (hT t _ ht).und
   obtain ⟨e,ie,zz,vs,hd,q1,q2,_⟩ := g4 b3
   rcases hd with hd | ⟨n,hd⟩
   ·subst hd
    simp [Instr.indexAt,run_underlying g1,asIntOf,q3g q1,q2,h0,show z < n by omega]
   ·subst hd
    rw [b4] at g0
    cases g0
  exact ⟨_,fun w => q5e (s := Instr.indexAt t (c.eval x) (c.eval i)) (by simp [execOp,ho]) (by rw [r4,qCf h.st h.len (fun t _ u hu => hu) hz]; exact hel _ _ _ _ _ w b0 (by omega))⟩
 ·rename_i op t x y ty' ho
  split at hf
  case h_3 => cases hf
  all_goals
   rename_i k1 p1 k2 p2 hp hq
   have ep := qCf h.st h.len (fun t _ u hu => hu) hp
   have eq := qCf h.st h.len (fun t _ u hu => hu) hq
   simp only [val,ho,hp,hq,bin] at hv
   split at hv
   case isFalse => exact hv.elim
   rename_i hk
   subst hk
  ·exact ⟨_,fun w => q5e (s := do eqGuard .add t x y (c.eval x) (c.eval y); Go.binOp .add t (c.eval x) (c.eval y)) (by simp [execOp,ho]) (by rw [ep,eq]; simp [eqGuard_at_int,Go.binOp,Op.intArith]; rfl)⟩
  ·exact ⟨_,fun w => q5e (s := do eqGuard .sub t x y (c.eval x) (c.eval y); Go.binOp .sub t (c.eval x) (c.eval y)) (by simp [execOp,ho]) (by rw [ep,eq]; simp [eqGuard_at_int,Go.binOp,Op.intArith]; rfl)⟩
 ·cases hf
theorem qFz {k : List U → q1f → Prop} (hT : q4w P T) (h : Sat base S N a H m c W) (hw : qGw a H o.op = []) (hst : ∃ v,(execOp c.eval o).run P W = .ok (.value v) W) (hv : val T a H o fun u h => k (put a o.dst u) h) :
  ∃ v a' H' m',(execOp c.eval o).run P W = .ok (.value v) W ∧ k a' H' ∧ Sat base S N a' H' m' (c.put o.dst v) W ∧ q4u m (own m (q1q H)) W m' (own m' (q1q H')) W := by
 obtain ⟨u,H',hk',hloc⟩ := qPu hT hv
 obtain ⟨m',K',W',nx,g1,g2,g3,g4,g5,g6⟩ := hloc.does h.len h.st (fun x _ t _ u hu => hu) (fun id ob _ ho => ho) (fun id hid _ => h.fresh id hid)
 obtain ⟨v,hst⟩ := hst
 rw [hst] at g1
 injection g1 with g1 g1'
 subst g1'
 have hK := qOm hloc.same g5
 subst hK
 have hf : ∀ id,H'.length ≤ id → m' id = none := fun id hid => by
  cases hm : m' id with
  | none => rfl
  | some b =>
   exfalso
   rcases g6 id (by rw [hm]; simp) with h1 | h1
   ·exact h1 (h.fresh id (Nat.le_trans hloc.len hid))
   ·exact absurd h1.2 (by omega)
 rcases g2 with ⟨v',e,g2⟩ | ⟨e,g2⟩
 ·rw [← g1] at e
  injection e with e
  subst e
  exact ⟨v,_,H',m',hst,hk',h.put g3 g4 hf o.dst g2,g3⟩
 ·rw [← g1] at e
  cases e
def qEn (Q : Exit → Act → World → Prop) : Exit → Act → World → Prop
 | .panic _,_,_ => False
 | e,a,w => Q e a w
theorem qTl {k : List U → q1f → Prop} (hT : q4w P T) (hX : qHg P T) (hC : qBs P C) (hE : q9p P base S E) (hsel : ∀ (j : Nat) (o : Oper) cs b,ops[j]? = some o → o.op ≠ .select cs b) : ∀ (fuel : Nat) (done : List Nat) (listed : Array Bool) (a : List U) (H : q1f) (m : Map) (c : Act) (W : World),listed.size = ops.size → (∀ i,listed.getD i false = true ↔ i ∈ done) → qEc ops listed → Sat base S N a H m c W →
  q7w (qFo T C E) ops fuel done a H k → qNv base S N H m W k (Q .normal) → wpAny P .any ops (qEn Q) fuel listed c W := by
 intro fuel
 induction fuel with
 | zero =>
  intro done listed a H m c W hl hd hcl h hr hk
  unfold q7w at hr
  split at hr
  ·rename_i hnil
   refine ⟨?_,hk a H m c W hr h (q4u.refl _ _ _)⟩
   cases hq : Region.ready .any ops listed with
   | nil => rfl
   | cons i l =>
    have := (qBl hl hd i).2 (by rw [hq]; simp)
    rw [hnil] at this
    cases this
  ·exact hr.elim
 | succ fuel ih =>
  intro done listed a H m c W hl hd hcl h hr hk
  unfold q7w at hr
  split at hr
  ·rename_i hnil
   have hq : Region.ready .any ops listed = [] := by
    cases hq : Region.ready .any ops listed with
    | nil => rfl
    | cons i l =>
     have := (qBl hl hd i).2 (by rw [hq]; simp)
     rw [hnil] at this
     cases this
   exact wpAny_done (Q := qEn Q) hq (hk a H m c W hr h (q4u.refl _ _ _)) _
  ·rename_i hne
   have hdn : ∀ i,i ∈ Region.ready .any ops listed → ∀ j,(listed.setIfInBounds i true).getD j false = true ↔ j ∈ i :: done := fun i hi j => by
    obtain ⟨h1,o,ho,_⟩ := mem_ready.1 hi
    have hlt : i < ops.size := (Array.getElem?_eq_some_iff.1 ho).1
    by_cases hj : j = i
    ·subst hj
     simp [show j < listed.size by omega]
    ·rw [getD_set_ne false (Ne.symm hj),hd j]
     simp [hj]
   have hQ : ∀ (oi : Oper) (v : Value) cc (x : Act) (y : World),qEn Q (.panic cc) (x.put oi.dst v) y → qEn Q (.panic cc) x y := fun oi v cc x y hh => hh
   have hnd : ∀ j,j < ops.size → listed.getD j true = false → j ∉ done := fun j hj hu hm => by
    have := (hd j).2 hm
    have hlt : j < listed.size := by omega
    simp [hlt] at hu this
    rw [hu] at this
    cases this
   unfold sel at hr
   split at hr
   ·rename_i i hp
    obtain ⟨h1,o,ho,h2⟩ := qCp hp
    have hir := (qBl hl hd i).1 h1
    unfold pick1 at h2
    split at h2
    case h_2 => cases h2
    rename_i hf
    have hr : step (qFo T C E) ops a H o fun a h => q7w (qFo T C E) ops fuel (i :: done) a h k := by simpa only [conj,ho] using hr
    have hg : o.guard = none := by
     unfold flat at hf
     split at hf
     ·cases hf
     ·assumption
    have hv : val T a H o fun u h => q7w (qFo T C E) ops fuel (i :: done) (put a o.dst u) h k := by
     unfold step qFo at hr
     rw [hg] at hr
     unfold flat at hf
     rw [hg] at hf
     simp only at hr hf
     split at hf <;> first | (cases hf; done) | (rename_i ho'; simp only [ho',q9f,qRv] at hr; exact hr)
    have hw : qGw a H o.op = [] := by
     unfold flat at hf
     rw [hg] at hf
     simp only at hf
     split at hf <;> first | (cases hf; done) | (rename_i ho'; rw [ho']; rfl)
    obtain ⟨v,hany⟩ := qXl hT hf hv h
    obtain ⟨v',a',H',m',q1,q2,q3,q4⟩ := qFz (k := fun a h => q7w (qFo T C E) ops fuel (i :: done) a h k) hT h hw ⟨v,hany W⟩ hv
    rw [hany W] at q1
    injection q1 with q1 _
    injection q1 with q1
    subst q1
    refine wpAny_first ho hsel (hQ o v) fuel listed c W (fun j oj hoj hji hju hno => ?_) hir (.inl ⟨by simp [Region.wanted,hg],hany⟩) ?_
    ·have := qCm h2 j oj (by rw [Array.getElem?_toList]; exact hoj) (by rw [Nat.zero_add]; exact hnd j (Array.getElem?_eq_some_iff.1 hoj).1 hju)
     rw [Nat.zero_add] at this
     simp only [Bool.or_eq_true,beq_iff_eq,hji,false_or] at this
     rcases this with hb | hb
     ·exfalso
      have hb : i ∈ q3k oj := by simpa using hb
      unfold q3k at hb
      obtain ⟨e,he,hb⟩ := List.mem_map.1 hb
      obtain ⟨g1,g2⟩ := List.mem_filter.1 he
      exact hno e (by simpa using g1) g2 hb
     ·exact hb
    ·exact ih (i :: done) _ a' H' m' _ W (by simpa using hl) (hdn i hir) (hcl.add hir) q3 q2 fun a'' H'' m'' c'' W'' r1 r2 r3 => hk _ _ _ _ _ r1 r2 (q4.trans r3)
   ·split at hr
    ·rename_i i hp
     obtain ⟨h1,o,ho,h2⟩ := qCp hp
     have hir := (qBl hl hd i).1 h1
     unfold pick2 at h2
     split at h2
     case h_2 => cases h2
     rename_i hf
     have hr : step (qFo T C E) ops a H o fun a h => q7w (qFo T C E) ops fuel (i :: done) a h k := by simpa only [conj,ho] using hr
     unfold j0v at hf
     split at hf
     ·cases hf
     rename_i hg
     split at hf
     case h_2 => cases hf
     rename_i t x hop
     have hv : val T a H o fun u h => q7w (qFo T C E) ops fuel (i :: done) (put a o.dst u) h k := by
      unfold step qFo at hr
      rw [hg] at hr
      simp only [hop,q9f,qRv] at hr
      exact hr
     have hw : qGw a H o.op = [] := by rw [hop]; rfl
     have hst : ∃ v,(execOp c.eval o).run P W = .ok (.value v) W := by
      obtain ⟨u,H',_,hloc⟩ := qPu hT hv
      obtain ⟨m',K',W',nx,g1,_⟩ := hloc.does h.len h.st (fun x _ t _ u hu => hu) (fun id ob _ ho => ho) (fun id hid _ => h.fresh id hid)
      obtain ⟨e,u',rfl⟩ := qGm (P := P) (o := o) (by unfold calm; rw [hop]) _ _ _ _ g1
      subst e
      exact ⟨_,g1⟩
     obtain ⟨v,a',H',m',q1,q2,q3,q4⟩ := qFz (k := fun a h => q7w (qFo T C E) ops fuel (i :: done) a h k) hT h hw hst hv
     refine qLn ho hsel (hQ o v) fuel listed c hcl (fun j oj hoj hji hju hno => ?_) hir ⟨by simp [Region.wanted,hg],q1⟩ ?_
     ·have := qCm h2 j oj (by rw [Array.getElem?_toList]; exact hoj) (by rw [Nat.zero_add]; exact hnd j (Array.getElem?_eq_some_iff.1 hoj).1 hju)
      rw [Nat.zero_add] at this
      simp only [Bool.or_eq_true,beq_iff_eq,hji,false_or,Bool.and_eq_true] at this
      rcases this with hb | hb
      ·exact absurd (by simpa using hb) hno
      ·exact ⟨hb.1,qGm hb.2⟩
     ·exact ih (i :: done) _ a' H' m' _ W (by simpa using hl) (hdn i hir) (hcl.add hir) q3 q2 fun a'' H'' m'' c'' W'' r1 r2 r3 => hk _ _ _ _ _ r1 r2 (q4.trans r3)
    ·refine ⟨fun hq => ?_,fun i hi => ?_⟩
     ·exfalso
      cases hq2 : rdy ops.toList done with
      | nil => exact hne hq2
      | cons i l =>
       have := (qBl hl hd i).1 (by rw [hq2]; simp)
       rw [hq] at this
       cases this
     ·have hr := qOr hr i ((qBl hl hd i).2 hi)
      obtain ⟨h1,o,ho,_⟩ := mem_ready.1 hi
      simp only [ho] at hr
      exact qUk hT hX hC hE ho h hr fun a' H' m' c' W' g1 g2 g3 =>
       ih (i :: done) (listed.setIfInBounds i true) a' H' m' c' W' (by simpa using hl) (hdn i hi) (hcl.add hi) g2 g1 fun a'' H'' m'' c'' W'' q1 q2 q3 => hk _ _ _ _ _ q1 q2 (g3.trans q3)
theorem qQs {t : Nat} {xs : List Operand} (h : Operand.tmp t ∈ xs) : t ∈ qJy xs := List.mem_filterMap.2 ⟨_,h,rfl⟩
theorem q8z (d : Option Nat) (u : U) : (put a d u).length = a.length ∧ ∀ t,t ∉ d.toList → (put a d u)[t]? = a[t]? := by
 cases d with
 | none => exact ⟨rfl,fun _ _ => rfl⟩
 | some d => exact ⟨by simp [put],fun t ht => by rw [put,List.getElem?_set,if_neg (by simpa using Ne.symm (by simpa using ht))]⟩
theorem St.put {m' : Map} {K' : Kn} {W' : World} {v : Value} (h : St base S N G m K c W) (hN : a.length = N) (hg : q4u m (own m K) W m' (own m' K') W') (hp : Hp m' S base W' K') (d : Option Nat) (hr : Rep (q3o base S (own m' K')) W' m' u v) :
  St base S N (Post (put a d u) d.toList G) m' K' (c.put d v) W' := by
 have hb : base ≤ W'.heap.size := Nat.le_trans h.big hg.size
 cases d with
 | none => exact ⟨h.defers,h.size,fun t w hw hlt => Rep.move hg.lasts _ _ (h.tmp t w (by rcases hw with hw | hw; exact hw.2; simp at hw) hlt),hp,hb⟩
 | some d =>
  refine ⟨h.defers,by simp [Act.put,h.size],fun t w hw hlt => ?_,hp,hb⟩
  rcases hw with ⟨h1,h2⟩ | ⟨h1,h2⟩
  ·rw [qJx (by simpa using h1)]
   exact Rep.move hg.lasts _ _ (h.tmp t w h2 hlt)
  ·have e : t = d := by simpa using h1
   subst e
   rw [Rd.put,List.getElem?_set,if_pos rfl,if_pos (by rw [hN]; exact hlt)] at h2
   injection h2 with h2
   subst h2
   rw [qOy (by rw [h.size]; exact hlt)]
   exact hr
theorem St.skip {m' : Map} {K' : Kn} {W' : World} (h : St base S N G m K c W) (hg : q4u m (own m K) W m' (own m' K') W') (hp : Hp m' S base W' K') : St base S N G m' K' c W' :=
 ⟨h.defers,h.size,fun t w hw hlt => Rep.move hg.lasts _ _ (h.tmp t w hw hlt),hp,Nat.le_trans h.big hg.size⟩
theorem St.imp {G' : Nat → U → Prop} (h : St base S N G m K c W) (hG : ∀ t u,G' t u → G t u) : St base S N G' m K c W := ⟨h.defers,h.size,fun t u hu hlt => h.tmp t u (hG t u hu) hlt,h.hp,h.big⟩
theorem Rep.free {ok : Nat → Prop} {v : Value} (h : Rep ok W m u v) (hb : u.free = true) : Rep ok W noM u v := by
 cases u with
 | agg us =>
  obtain ⟨vs,h1,h2,h3⟩ := h
  exact ⟨vs,h1,h2.bare hb,h3⟩
 | _ => exact h.bare hb
theorem Reps.free {ok : Nat → Prop} : ∀ {us : List U} {vs : List Value},Reps ok W m us vs → us.all U.free = true → Reps ok W noM us vs
 | [],[],_,_ => trivial
 | u :: us,v :: vs,h,hb => by
  simp only [List.all_cons,Bool.and_eq_true] at hb
  exact ⟨Rep.free h.1 hb.1,Reps.free h.2 hb.2⟩
 | [],_ :: _,h,_ => h.elim
 | _ :: _,[],h,_ => h.elim
theorem qZq {k : List U → q1f → Prop} (hT : q4w P T) (hC : qBs P C) (he : qTd T C a H o k) : ∃ a' H',k a' H' ∧ (∀ id,id ∉ qGw a H o.op → H'[id]? = H[id]?) ∧ H.length ≤ H'.length ∧ a'.length = a.length ∧ (∀ t,t ∉ o.dst.toList → a'[t]? = a[t]?) ∧
  ∀ {base : Nat} {S : Nat → Prop} {N : Nat} {G : Nat → U → Prop} {m : Map} {K : Kn} {c : Act} {W : World} {next : Act → World → Prop} {Q : Exit → Act → World → Prop},a.length = N → St base S N G m K c W → (∀ t,t ∈ qJy o.op.operands.toList → ∀ u,a[t]? = some u → G t u) →
   (∀ id ob,id ∈ robj a o.op ∨ id ∈ qGw a H o.op → q0r H id = some ob → K id ob) → (∀ id,H.length ≤ id → id ∈ qGw a H o.op → m id = none) →
   (∀ m' K' c' W',St base S N (Post a' o.dst.toList G) m' K' c' W' → (∀ id ob,K' id ob ↔ if id ∈ qGw a H o.op then q0r H' id = some ob else K id ob) → (∀ id,m' id ≠ none → m id ≠ none ∨ (id ∈ qGw a H o.op ∧ id < H'.length)) → q4u m (own m K) W m' (own m' K') W' → next c' W') → o.wp P c W next Q := by
 unfold qTd at he
 have cov : ∀ {G : Nat → U → Prop},(∀ t,t ∈ qJy o.op.operands.toList → ∀ u,a[t]? = some u → G t u) → ∀ x ∈ o.op.operands.toList,Cov a G x := fun hG x hx t ht u hu => hG t (qQs (by rw [← ht]; exact hx)) u hu
 split at he
 ·rename_i f us hcall
  split at he
  case h_2 => exact he.elim
  rename_i hx0 hfree
  simp only [Bool.and_eq_true] at hfree
  obtain ⟨u,hR,hk⟩ := he
  have hc : ∃ x args ts cl,o.op = .call { callee := .value x,args := args,argTypes := ts } ∧ ov a x = .clo f cl ∧ us = ovs a args ++ cl := by
   unfold q9f at hcall
   split at hcall
   ·rename_i x args ts hop
    split at hcall
    ·rename_i g cl hx
     simp only [Option.some.injEq,Prod.mk.injEq] at hcall
     obtain ⟨rfl,rfl⟩ := hcall
     exact ⟨x,args,ts,cl,hop,hx,rfl⟩
    ·cases hcall
   ·cases hcall
  obtain ⟨x,args,ts,cl,ho,hx,rfl⟩ := hc
  have hw : qGw a H o.op = [] := by rw [ho]; rfl
  refine ⟨_,H,hk,fun _ _ => rfl,Nat.le_refl _,(q8z _ _).1,(q8z _ _).2,fun {base S N G m K c W next Q} hN hs hG hK hfr hnext => ?_⟩
  obtain ⟨⟨fn,b,hfn,hname,hb⟩,hcalls⟩ := hC f _ _ hR
  have hcv := cov hG
  have hrx := q2z hs hN (x := x) (hcv x (by rw [ho]; simp [Op.operands,Call.operands]))
  rw [hx] at hrx
  obtain ⟨vs,e1,e2⟩ := hrx
  have hargs := q7n hs hN (xs := args.toList) (fun y hy => hcv y (by rw [ho]; simp [Op.operands,Call.operands]; exact .inr (by simpa using hy)))
  have hrun : (execOp c.eval o).run P W = .ok (.enter f (args.map c.eval ++ vs.toArray)) W := by
   have h1 : fn.name ≠ "runtime.NumGoroutine" := by simpa using hname
   simp [execOp,ho,resolve,e1,Deferred.ofValue,invoke,callFunc,hfn,h1,hb]
  unfold Oper.wp
  rw [hrun]
  show Calls P f (args.map c.eval ++ vs.toArray) W _
  have hargs' : args.map c.eval ++ vs.toArray = (args.toList.map c.eval ++ vs).toArray := Array.toList_inj.1 (by simp)
  rw [hargs']
  refine (hcalls W _ _ (Reps.free (Reps.append hargs e2) hfree.1)).mono fun e W' ⟨v,g1,g2,g3⟩ => ?_
  subst g1
  have hg : q4u m (own m K) W m (own m K) W' := q4u.of_below g3 fun _ h => h
  have hp := hs.hp.move (fun _ _ h => h) hg fun k ⟨j,ob,hj,hb⟩ => g3.block k (hs.hp.lt j k hb)
  refine hnext m K _ _ (hs.put hN hg hp o.dst (Rep.any (Rep.move (q3s.up fun k hk _ => ?_) _ _ g2))) (fun id ob => by rw [hw]; simp) (fun id hid => .inl hid) hg
  rcases hk with hk | hk
  ·exact hk
  ·exact ⟨.inr (Nat.le_trans hs.big hk),fun ⟨j,ob,hj,hb⟩ => by have := hs.hp.lt j k hb; omega⟩
 ·obtain ⟨u,H',hk',hloc⟩ := qPu hT he
  refine ⟨_,H',hk',hloc.same,hloc.len,(q8z _ _).1,(q8z _ _).2,fun {base S N G m K c W next Q} hN hs hG hK hfr hnext => ?_⟩
  obtain ⟨m',K',W',nx,g1,g2,g3,g4,g5,g6⟩ := hloc.does hN hs (cov hG) hK hfr
  unfold Oper.wp
  rw [g1]
  rcases g2 with ⟨v,rfl,g2⟩ | ⟨rfl,g2⟩
  ·exact hnext m' K' _ _ (hs.put hN g3 g4 o.dst g2) g5 g6 g3
  ·have e : c.put o.dst undef = c := by rw [g2]; rfl
   show next (c.put o.dst undef) W'
   rw [e]
   rw [g2] at hnext
   refine hnext m' K' c _ ((hs.skip g3 g4).imp fun t u hu => ?_) g5 g6 g3
   rcases hu with hu | hu
   ·exact hu.2
   ·simp at hu
theorem stp_ok {k : List U → q1f → Prop} (hT : q4w P T) (hC : qBs P C) (hs : step (qTd T C) ops a H o k) : ∃ a' H',k a' H' ∧ Stp P ops o a H a' H' (qIo ops a H o) := by
 have fp1 : ∀ {G : Nat → U → Prop},(∀ t,t ∈ (qIo ops a H o).rt → ∀ u,a[t]? = some u → G t u) → (∀ t,t ∈ qJy o.op.operands.toList → ∀ u,a[t]? = some u → G t u) := fun h t ht => h t (by simp [qIo,ht])
 have hexec : q6u ops a o = true → (∀ {base : Nat} {S : Nat → Prop} {N : Nat} {G : Nat → U → Prop} {m : Map} {K : Kn} {c : Act} {W : World},a.length = N → St base S N G m K c W → (∀ t,t ∈ (qIo ops a H o).rt → ∀ u,a[t]? = some u → G t u) → Region.wanted o (yielded ops c.tmps) = true) → qTd T C a H o k → ∃ a' H',k a' H' ∧ Stp P ops o a H a' H' (qIo ops a H o) := fun h0 hw he => by
  obtain ⟨a',H',h1,h2,h3,h4,h5,h6⟩ := qZq hT hC he
  have ew : (qIo ops a H o).wo = qGw a H o.op := by simp [qIo,h0]
  have er : (qIo ops a H o).ro = robj a o.op := by simp [qIo,h0]
  refine ⟨a',H',h1,by rw [ew]; exact h2,h3,h4,h5,fun {base S N G m K c W i next Q} hi hN hst hG hK hfr hnext => ?_⟩
  rw [ew,er] at hK
  rw [ew] at hfr hnext
  unfold wpOp
  rw [hi]
  simp only
  rw [if_pos (hw hN hst hG)]
  exact .inl (h6 hN hst (fp1 hG) hK hfr hnext)
 have hskip : q6u ops a o = false → (∀ {base : Nat} {S : Nat → Prop} {N : Nat} {G : Nat → U → Prop} {m : Map} {K : Kn} {c : Act} {W : World},a.length = N → St base S N G m K c W → (∀ t,t ∈ (qIo ops a H o).rt → ∀ u,a[t]? = some u → G t u) → Region.wanted o (yielded ops c.tmps) = false) → k (put a o.dst (.v undef)) H → ∃ a' H',k a' H' ∧ Stp P ops o a H a' H' (qIo ops a H o) := fun h0 hw hk => by
  have ew : (qIo ops a H o).wo = [] := by simp [qIo,h0]
  refine ⟨_,H,hk,fun _ _ => rfl,Nat.le_refl _,(q8z _ _).1,(q8z _ _).2,fun {base S N G m K c W i next Q} hi hN hst hG hK hfr hnext => ?_⟩
  rw [ew] at hnext
  unfold wpOp
  rw [hi]
  simp only
  rw [if_neg (by rw [hw hN hst hG]; simp)]
  exact hnext m K _ _ (hst.put hN (q4u.refl _ _ _) hst.hp o.dst (show Rep _ W m (.v undef) undef from rfl)) (fun id ob => by simp) (fun id hid => .inl hid) (q4u.refl _ _ _)
 unfold step at hs
 split at hs
 ·rename_i hg
  exact hexec (by simp [q6u,hg]) (fun _ _ _ => by simp [Region.wanted,hg]) hs
 ·rename_i j w hg
  have hy' : ∀ {b : Option Bool},qFt ops a j = some b → ∀ {base : Nat} {S : Nat → Prop} {N : Nat} {G : Nat → U → Prop} {m : Map} {K : Kn} {c : Act} {W : World},a.length = N → St base S N G m K c W → (∀ t,t ∈ (qIo ops a H o).rt → ∀ u,a[t]? = some u → G t u) → Region.wanted o (yielded ops c.tmps) = (b == some w) := fun hy _ _ _ _ _ _ _ _ hN hst hG => by
   simp only [Region.wanted,hg]
   rw [qLb hst hN (fun d hd u hu => hG d (by simp [qIo,gds,hg,hd]) u hu) hy]
  split at hs
  ·rename_i b hy
   split at hs
   ·rename_i e
    subst e
    exact hexec (by simp [q6u,hg,hy]) (fun h1 h2 h3 => by rw [hy' hy h1 h2 h3]; simp) hs
   ·rename_i e
    exact hskip (by simp [q6u,hg,hy,e]) (fun h1 h2 h3 => by rw [hy' hy h1 h2 h3]; simpa using e) hs
  ·rename_i hy
   exact hskip (by simp [q6u,hg,hy]) (fun h1 h2 h3 => by rw [hy' hy h1 h2 h3]; simp) hs
  ·exact hs.elim
theorem trace {k : List U → q1f → Prop} (hT : q4w P T) (hC : qBs P C) : ∀ (l : List Oper) (fs : List Fp) (a : List U) (H : q1f),runD T C ops l fs a H k → ∃ (env : Nat → List U × q1f) (fp : Nat → Fp),env 0 = (a,H) ∧
  (∀ i o,l[i]? = some o → Stp P ops o (env i).1 (env i).2 (env (i + 1)).1 (env (i + 1)).2 (fp i) ∧ (∀ e ∈ q3k o,e < fs.length + i) ∧ clear (q3k o) (fp i) (((List.range i).map fp).reverse ++ fs) = true) ∧ k (env l.length).1 (env l.length).2
 | [],fs,a,H,h => ⟨fun _ => (a,H),fun _ => ⟨[],[],[],[]⟩,rfl,fun i o hi => by simp at hi,h⟩
 | o :: l,fs,a,H,h => by
  unfold runD at h
  split at h
  case h_2 => exact h.elim
  rename_i hchk
  simp only [Bool.and_eq_true] at hchk
  obtain ⟨a',H',h1,h2⟩ := stp_ok hT hC h
  obtain ⟨env,fp,e1,e2,e3⟩ := trace hT hC l _ a' H' h1
  refine ⟨fun i => match i with
   | 0 => (a,H)
   | i + 1 => env i,fun i => match i with
   | 0 => qIo ops a H o
   | i + 1 => fp i, rfl, fun i o' hi => ?_, e3⟩
  cases i with
  | zero =>
   simp at hi
   subst hi
   refine ⟨?_,fun e he => by simpa using List.all_eq_true.1 hchk.1 e he,by simpa using hchk.2⟩
   show Stp P ops o a H (env 0).1 (env 0).2 _
   rw [e1]
   exact h2
  | succ i =>
   obtain ⟨g1,g2,g3⟩ := e2 i o' (by simpa using hi)
   refine ⟨g1,fun e he => by have := g2 e he; simp at this; omega,?_⟩
   rw [List.range_succ_eq_map,List.map_cons,List.reverse_cons,List.append_assoc,List.map_map]
   exact g3
theorem q6x {xs ys : List Nat} {t : Nat} (h1 : t ∈ xs) (h2 : t ∈ ys) : meet xs ys = true := by
 unfold meet
 rw [List.any_eq_true]
 exact ⟨t,h1,by simpa using h2⟩
theorem qFp {bs : List Nat} {p : Fp} : ∀ {l : List Fp},clear bs p l = true → ∀ (j : Nat) (q : Fp),l.reverse[j]? = some q → j ∈ bs ∨ qJ q p = false
 | [],_,j,q,h => by simp at h
 | x :: rest,hc,j,q,h => by
  simp only [clear,Bool.and_eq_true,Bool.or_eq_true,Bool.not_eq_true'] at hc
  rw [List.reverse_cons,List.getElem?_append] at h
  split at h
  ·exact qFp hc.2 j q h
  ·rename_i hge
   have hj : j = rest.length := by
    have := (List.getElem?_eq_some_iff.1 h).1
    simp at this hge
    omega
   subst hj
   simp at h
   subst h
   rcases hc.1 with h1 | h1
   ·exact .inl (by simpa using h1)
   ·exact .inr h1
def left (n : Nat) (listed : Array Bool) : Nat := (List.range n).countP fun i => !listed.getD i true
theorem qTj {l : List Nat} {p q : Nat → Bool} (hpq : ∀ x,q x = true → p x = true) {y : Nat} (hy : y ∈ l) (h1 : p y = true) (h2 : q y = false) : l.countP q < l.countP p := by
 induction l with
 | nil => cases hy
 | cons x l ih =>
  have hle : l.countP q ≤ l.countP p := List.countP_mono_left (fun x _ hx => hpq x hx)
  rw [List.countP_cons,List.countP_cons]
  rcases List.mem_cons.1 hy with rfl | hy
  ·rw [h1,h2]; simp; omega
  ·have := ih hy
   cases hq : q x
   ·simp; split <;> omega
   ·rw [hpq x hq]; simp; omega
def Ver (ops : Array Oper) (fp : Nat → Fp) (wr : Fp → List Nat) (listed : Array Bool) (t q : Nat) : Prop := q ≤ ops.size ∧ ∀ j,j < ops.size → t ∈ wr (fp j) → (listed.getD j false = true ↔ j < q)
structure q8f (P : Program) (ops : Array Oper) (env : Nat → List U × q1f) (fp : Nat → Fp) : Prop where
 stp : ∀ i o,ops[i]? = some o → Stp P ops o (env i).1 (env i).2 (env (i + 1)).1 (env (i + 1)).2 (fp i)
 back : ∀ i o,ops[i]? = some o → ∀ e ∈ q3k o,e < i
 clear : ∀ i o j,ops[i]? = some o → j < i → j ∈ q3k o ∨ qJ (fp j) (fp i) = false
section
variable {env : Nat → List U × q1f} {fp : Nat → Fp} {listed : Array Bool}
theorem j0b (tr : q8f P ops env fp) (rd wr : Fp → List Nat) (hcl : ∀ p q t,qJ p q = false → (t ∈ wr p → t ∉ rd q ∧ t ∉ wr q) ∧ (t ∈ wr q → t ∉ rd p ∧ t ∉ wr p)) {i : Nat} (ho : ops[i]? = some o) (h1 : listed.getD i false = false)
  (hb : ∀ e ∈ q3k o,listed.getD e false = true) (hcc : ∀ i o,ops[i]? = some o → listed.getD i false = true → ∀ e ∈ q3k o,listed.getD e false = true) {t : Nat} (ht : t ∈ rd (fp i) ∨ t ∈ wr (fp i)) {j : Nat} (hj : j < ops.size) (hw : t ∈ wr (fp j)) (hne : j ≠ i) : listed.getD j false = true ↔ j < i := by
 rcases Nat.lt_or_ge j i with hlt | hge
 ·refine ⟨fun _ => hlt,fun _ => ?_⟩
  rcases tr.clear i o j ho hlt with hbd | hno
  ·exact hb j hbd
  ·have := (hcl _ _ t hno).1 hw
   rcases ht with ht | ht
   ·exact absurd ht this.1
   ·exact absurd ht this.2
 ·refine ⟨fun hl => ?_,fun hlt => by omega⟩
  exfalso
  have hgt : i < j := by omega
  have ho' : ops[j]? = some ops[j] := by simp [hj]
  rcases tr.clear j _ i ho' hgt with hbd | hno
  ·have := hcc j _ ho' hl i hbd
   rw [h1] at this
   cases this
  ·have := (hcl _ _ t hno).2 hw
   rcases ht with ht | ht
   ·exact absurd ht this.1
   ·exact absurd ht this.2
theorem j4a (p q : Fp) (t : Nat) (h : qJ p q = false) : (t ∈ p.wt → t ∉ q.rt ∧ t ∉ q.wt) ∧ (t ∈ q.wt → t ∉ p.rt ∧ t ∉ p.wt) := by
 simp only [qJ,Bool.or_eq_false_iff] at h
 obtain ⟨⟨⟨h1,h2⟩,_⟩,_⟩ := h
 refine ⟨fun hp => ⟨fun hq => ?_,fun hq => ?_⟩,fun hq => ⟨fun hp => ?_,fun hp => ?_⟩⟩
 ·rw [q6x hp (by simp [hq])] at h1; cases h1
 ·rw [q6x hp (by simp [hq])] at h1; cases h1
 ·rw [q6x hq hp] at h2; cases h2
 ·rw [q6x hp (by simp [hq])] at h1; cases h1
theorem j4c (p q : Fp) (t : Nat) (h : qJ p q = false) : (t ∈ p.wo → t ∉ q.ro ∧ t ∉ q.wo) ∧ (t ∈ q.wo → t ∉ p.ro ∧ t ∉ p.wo) := by
 simp only [qJ,Bool.or_eq_false_iff] at h
 obtain ⟨⟨_,h1⟩,h2⟩ := h
 refine ⟨fun hp => ⟨fun hq => ?_,fun hq => ?_⟩,fun hq => ⟨fun hp => ?_,fun hp => ?_⟩⟩
 ·rw [q6x hp (by simp [hq])] at h1; cases h1
 ·rw [q6x hp (by simp [hq])] at h1; cases h1
 ·rw [q6x hq hp] at h2; cases h2
 ·rw [q6x hp (by simp [hq])] at h1; cases h1
theorem q8f.keep (tr : q8f P ops env fp) (t : Nat) {i q : Nat} (hiq : i ≤ q) (hq : q ≤ ops.size) (hw : ∀ j,i ≤ j → j < q → t ∉ (fp j).wt) : (env q).1[t]? = (env i).1[t]? := by
 induction q with
 | zero =>
  have : i = 0 := by omega
  subst this; rfl
 | succ q ih =>
  by_cases he : i = q + 1
  ·subst he; rfl
  ·have hlt : q < ops.size := by omega
   rw [(tr.stp q ops[q] (by simp [hlt])).keep t (hw q (by omega) (by omega))]
   exact ih (by omega) (by omega) fun j h1 h2 => hw j h1 (by omega)
theorem q8f.keepO (tr : q8f P ops env fp) (t : Nat) {i q : Nat} (hiq : i ≤ q) (hq : q ≤ ops.size) (hw : ∀ j,i ≤ j → j < q → t ∉ (fp j).wo) : q0r (env q).2 t = q0r (env i).2 t := by
 induction q with
 | zero =>
  have : i = 0 := by omega
  subst this; rfl
 | succ q ih =>
  by_cases he : i = q + 1
  ·subst he; rfl
  ·have hlt : q < ops.size := by omega
   unfold q0r
   rw [(tr.stp q ops[q] (by simp [hlt])).same t (hw q (by omega) (by omega))]
   exact ih (by omega) (by omega) fun j h1 h2 => hw j h1 (by omega)
theorem q8f.grows (tr : q8f P ops env fp) {i q : Nat} (hiq : i ≤ q) (hq : q ≤ ops.size) : (env i).2.length ≤ (env q).2.length := by
 induction q with
 | zero =>
  have : i = 0 := by omega
  subst this; exact Nat.le_refl _
 | succ q ih =>
  by_cases he : i = q + 1
  ·subst he; exact Nat.le_refl _
  ·have hlt : q < ops.size := by omega
   exact Nat.le_trans (ih (by omega) (by omega)) (tr.stp q ops[q] (by simp [hlt])).len
theorem q8f.size (tr : q8f P ops env fp) {i : Nat} (hi : i ≤ ops.size) : (env i).1.length = (env 0).1.length := by
 induction i with
 | zero => rfl
 | succ i ih =>
  have hlt : i < ops.size := by omega
  rw [(tr.stp i ops[i] (by simp [hlt])).size]
  exact ih (by omega)
structure Mid (base : Nat) (S : Nat → Prop) (N : Nat) (ops : Array Oper) (env : Nat → List U × q1f) (fp : Nat → Fp) (m0 : Map) (ow0 : Nat → Prop) (W0 : World) (listed : Array Bool) (m : Map) (K : Kn) (c : Act) (W : World) : Prop where
 st : St base S N (fun t u => ∃ q,Ver ops fp (·.wt) listed t q ∧ (env q).1[t]? = some u) m K c W
 objs : ∀ id ob,K id ob ↔ ∃ q,Ver ops fp (·.wo) listed id q ∧ q0r (env q).2 id = some ob
 fresh : ∀ id,m id ≠ none → ∃ q,Ver ops fp (·.wo) listed id q ∧ id < (env q).2.length
 goes : q4u m0 ow0 W0 m (own m K) W
theorem any_ok (tr : q8f P ops env fp) (hN : (env 0).1.length = N) {m0 : Map} {ow0 : Nat → Prop} {W0 : World} (hQ : ∀ m' c' W',Sat base S N (env ops.size).1 (env ops.size).2 m' c' W' → q4u m0 ow0 W0 m' (own m' (q1q (env ops.size).2)) W' → Q .normal c' W') :
  ∀ (fuel : Nat) (listed : Array Bool) (m : Map) (K : Kn) (c : Act) (W : World),listed.size = ops.size → left ops.size listed ≤ fuel → (∀ i o,ops[i]? = some o → listed.getD i false = true → ∀ e ∈ q3k o,listed.getD e false = true) →
   Mid base S N ops env fp m0 ow0 W0 listed m K c W → wpAny P .any ops Q fuel listed c W := by
 have gd : ∀ (listed : Array Bool) (i : Nat),listed.size = ops.size → i < ops.size → listed.getD i true = listed.getD i false := fun listed i hs hi => by simp [show i < listed.size by omega]
 have hall : ∀ listed : Array Bool,listed.size = ops.size → Region.ready .any ops listed = [] → ∀ i,i < ops.size → listed.getD i false = true := by
  intro listed hs hr i
  induction i using Nat.strongRecOn with
  | _ i ih =>
   intro hi
   cases hl : listed.getD i false with
   | true => rfl
   | false =>
    have hoi : ops[i]? = some ops[i] := by simp [hi]
    have hmem : i ∈ Region.ready .any ops listed := mem_ready.2 ⟨by rw [gd listed i hs hi]; exact hl, ops[i], hoi, fun e he hb => by
     have hlt := tr.back i _ hoi e.on (by
      unfold q3k
      exact List.mem_map.2 ⟨e, List.mem_filter.2 ⟨by simpa using he, hb⟩, rfl⟩)
     exact ih e.on hlt (by omega)⟩
    rw [hr] at hmem
    cases hmem
 have hfin : ∀ (listed : Array Bool) (m : Map) (K : Kn) (c : Act) (W : World),listed.size = ops.size → Region.ready .any ops listed = [] → Mid base S N ops env fp m0 ow0 W0 listed m K c W → Q .normal c W := by
  intro listed m K c W hs hr h
  have hv : ∀ (wr : Fp → List Nat) t,Ver ops fp wr listed t ops.size := fun wr t => ⟨Nat.le_refl _,fun j hj _ => ⟨fun _ => hj,fun _ => hall listed hs hr j hj⟩⟩
  have hKe : K = q1q (env ops.size).2 := by
   funext id ob
   apply propext
   rw [h.objs]
   refine ⟨fun ⟨q,h1,h2⟩ => ?_,fun h1 => ⟨ops.size,hv _ _,h1⟩⟩
   show q0r _ _ = _
   rw [tr.keepO id h1.1 (Nat.le_refl _) fun j hj1 hj2 hw => ?_]
   ·exact h2
   ·have := (h1.2 j hj2 hw).1 (hall listed hs hr j hj2)
    omega
  have hg := h.goes
  have hst := h.st
  subst hKe
  exact hQ m c W ⟨by rw [tr.size (Nat.le_refl _)]; exact hN, hst.imp fun t u hu => ⟨ops.size, hv _ _, hu⟩, fun id hid => by
   cases hm : m id with
   | none => rfl
   | some b =>
    obtain ⟨q,h1,h2⟩ := h.fresh id (by rw [hm]; simp)
    have := tr.grows h1.1 (Nat.le_refl _)
    omega⟩ hg
 intro fuel
 induction fuel with
 | zero =>
  intro listed m K c W hs hcnt hcl h
  have hr : Region.ready .any ops listed = [] := by
   cases hq : Region.ready .any ops listed with
   | nil => rfl
   | cons i l =>
    have hmem : i ∈ Region.ready .any ops listed := by rw [hq]; simp
    obtain ⟨h1,o,ho,_⟩ := mem_ready.1 hmem
    have hi := (Array.getElem?_eq_some_iff.1 ho).1
    have : 0 < left ops.size listed := by
     unfold left
     exact List.countP_pos_iff.2 ⟨i,List.mem_range.2 hi,by rw [h1]; rfl⟩
    omega
  exact ⟨hr,hfin listed m K c W hs hr h⟩
 | succ fuel ih =>
  intro listed m K c W hs hcnt hcl h
  refine ⟨fun hr => hfin listed m K c W hs hr h,fun i hmem => ?_⟩
  obtain ⟨h1,o,ho,hafter⟩ := mem_ready.1 hmem
  have hi := (Array.getElem?_eq_some_iff.1 ho).1
  have h1f : listed.getD i false = false := by rw [← gd listed i hs hi]; exact h1
  have hb : ∀ e ∈ q3k o,listed.getD e false = true := fun e he => by
   unfold q3k at he
   obtain ⟨e',he',rfl⟩ := List.mem_map.1 he
   obtain ⟨h2,h3⟩ := List.mem_filter.1 he'
   exact hafter e' (by simpa using h2) h3
  have stp := tr.stp i o ho
  have vt : ∀ t, t ∈ (fp i).rt ∨ t ∈ (fp i).wt → Ver ops fp (·.wt) listed t i := fun t ht => ⟨by omega, fun j hj hw => by
   by_cases hne : j = i
   ·subst hne; rw [h1f]; simp
   ·exact j0b tr (·.rt) (·.wt) j4a ho h1f hb hcl ht hj hw hne⟩
  have vo : ∀ t, t ∈ (fp i).ro ∨ t ∈ (fp i).wo → Ver ops fp (·.wo) listed t i := fun t ht => ⟨by omega, fun j hj hw => by
   by_cases hne : j = i
   ·subst hne; rw [h1f]; simp
   ·exact j0b tr (·.ro) (·.wo) j4c ho h1f hb hcl ht hj hw hne⟩
  have hset : ∀ j,j ≠ i → (listed.setIfInBounds i true).getD j false = listed.getD j false := fun j hj => getD_set_ne false (Ne.symm hj)
  have hseti : (listed.setIfInBounds i true).getD i false = true := by simp [show i < listed.size by omega]
  have same : ∀ (wr : Fp → List Nat) t q,t ∉ wr (fp i) → (Ver ops fp wr (listed.setIfInBounds i true) t q ↔ Ver ops fp wr listed t q) := fun wr t q hn => by
   have : ∀ j,t ∈ wr (fp j) → (listed.setIfInBounds i true).getD j false = listed.getD j false := fun j hw => hset j fun e => hn (by rw [← e]; exact hw)
   exact ⟨fun hv => ⟨hv.1,fun j hj hw => by rw [← this j hw]; exact hv.2 j hj hw⟩,fun hv => ⟨hv.1,fun j hj hw => by rw [this j hw]; exact hv.2 j hj hw⟩⟩
  have next : ∀ (wr : Fp → List Nat) t,t ∈ wr (fp i) → Ver ops fp wr listed t i → Ver ops fp wr (listed.setIfInBounds i true) t (i + 1) ∧ ∀ q,Ver ops fp wr (listed.setIfInBounds i true) t q → i < q ∧ ∀ j,i + 1 ≤ j → j < q → t ∉ wr (fp j) := fun wr t ht hv => by
   refine ⟨⟨by omega,fun j hj hw => ?_⟩,fun q hq => ⟨(hq.2 i hi ht).1 hseti,fun j hj1 hj2 hw => ?_⟩⟩
   ·by_cases hne : j = i
    ·subst hne; rw [hseti]; simp
    ·rw [hset j hne,hv.2 j hj hw]; omega
   ·have hj : j < ops.size := Nat.lt_of_lt_of_le hj2 hq.1
    have := (hq.2 j hj hw).2 hj2
    rw [hset j (by omega)] at this
    have := (hv.2 j hj hw).1 this
    omega
  refine stp.does ho (by rw [tr.size (by omega)]; exact hN) h.st (fun t ht u hu => ⟨i,vt t (.inl ht),hu⟩) (fun id ob hid hob => (h.objs id ob).2 ⟨i,vo id hid,hob⟩) (fun id hid hw => ?_) fun m' K' c' W' k1 k2 k3 k4 => ?_
  ·cases hm : m id with
   | none => rfl
   | some b =>
    exfalso
    obtain ⟨q,g1,g2⟩ := h.fresh id (by rw [hm]; simp)
    have hq : q ≤ i := by
     have := (g1.2 i hi hw).2
     rcases Nat.lt_or_ge i q with hlt | hge
     ·rw [this hlt] at h1f; cases h1f
     ·exact hge
    have := tr.grows hq (by omega)
    omega
  ·refine ih (listed.setIfInBounds i true) m' K' c' W' (by simpa using hs) ?_ (fun j o' ho' hl e he => ?_) ⟨k1.imp fun t u ⟨q,hv,hu⟩ => ?_,fun id ob => ?_,fun id hid => ?_,h.goes.trans k4⟩
   ·have : left ops.size (listed.setIfInBounds i true) < left ops.size listed := by
     unfold left
     refine qTj (y := i) (fun x hx => ?_) (List.mem_range.2 hi) (by rw [h1]; rfl) (by simp [show i < listed.size by omega])
     by_cases hxi : x = i
     ·subst hxi; rw [h1]; rfl
     ·rw [getD_set_ne true (Ne.symm hxi)] at hx; exact hx
    omega
   ·by_cases hji : j = i
    ·subst hji
     rw [ho] at ho'
     injection ho' with ho'
     subst ho'
     exact getD_set_true (hb e he)
    ·rw [hset j hji] at hl
     exact getD_set_true (hcl j o' ho' hl e he)
   ·by_cases ht : t ∈ (fp i).wt
    ·obtain ⟨_,hn⟩ := next (·.wt) t ht (vt t (.inr ht))
     obtain ⟨g1,g2⟩ := hn q hv
     exact .inr ⟨ht,by rw [← tr.keep t g1 hv.1 g2]; exact hu⟩
    ·exact .inl ⟨ht,q,(same (·.wt) t q ht).1 hv,hu⟩
   ·rw [k2]
    by_cases ht : id ∈ (fp i).wo
    ·rw [if_pos ht]
     obtain ⟨hv,hn⟩ := next (·.wo) id ht (vo id (.inr ht))
     refine ⟨fun h => ⟨i + 1,hv,h⟩,fun ⟨q,hq,h⟩ => ?_⟩
     obtain ⟨g1,g2⟩ := hn q hq
     rw [← tr.keepO id g1 hq.1 g2]
     exact h
    ·rw [if_neg ht,h.objs]
     exact ⟨fun ⟨q,hq,h⟩ => ⟨q,(same (·.wo) id q ht).2 hq,h⟩,fun ⟨q,hq,h⟩ => ⟨q,(same (·.wo) id q ht).1 hq,h⟩⟩
   ·by_cases ht : id ∈ (fp i).wo
    ·obtain ⟨hv,hn⟩ := next (·.wo) id ht (vo id (.inr ht))
     refine ⟨i + 1,hv,?_⟩
     rcases k3 id hid with g | ⟨_,g⟩
     ·obtain ⟨q,g1,g2⟩ := h.fresh id g
      have hq : q ≤ i := by
       have := (g1.2 i hi ht).2
       rcases Nat.lt_or_ge i q with hlt | hge
       ·rw [this hlt] at h1f; cases h1f
       ·exact hge
      have := tr.grows (i := q) (q := i + 1) (by omega) (by omega)
      omega
     ·exact g
    ·rcases k3 id hid with g | ⟨g,_⟩
     ·obtain ⟨q,g1,g2⟩ := h.fresh id g
      exact ⟨q,(same (·.wo) id q ht).2 g1,g2⟩
     ·exact absurd g ht
theorem qYa {k : List U → q1f → Prop} (hm : P.follows .mixedOrders = true) (hT : q4w P T) (hC : qBs P C) (id : Nat) (h : Sat base S N a H m c W) (hd : runD T C ops ops.toList [] a H k) (hk : qNv base S N H m W k (Q .normal)) : (Code.region id ops true).wp P Q c W := by
 obtain ⟨env,fp,e1,e2,e3⟩ := trace hT hC ops.toList [] a H hd
 have tr : q8f P ops env fp :=    ⟨fun i o ho => (e2 i o (by simpa using ho)).1, fun i o ho e he => by have := (e2 i o (by simpa using ho)).2.1 e he; simpa using this, fun i o j ho hj => by
  have hc := (e2 i o (by simpa using ho)).2.2
  exact qFp hc j (fp j) (by simp [hj])⟩
 have hsz : ops.toList.length = ops.size := by simp
 rw [hsz] at e3
 refine wp_region_any hm ?_
 have hg0 : q4u m (own m (q1q H)) W m (own m (q1q H)) { W with drawn := W.drawn + 1 } := ⟨fun _ _ h => h,fun _ h => .inl h,Nat.le_refl _,fun _ _ _ => rfl,rfl,rfl,rfl⟩
 have hp0 := h.st.hp.move (fun _ _ h => h) hg0 fun _ _ => rfl
 have zero : ∀ j,(Array.replicate ops.size false).getD j false = false := fun j => by
  simp only [Array.getD_eq_getD_getElem?,Array.getElem?_replicate]
  split <;> rfl
 refine any_ok tr (by rw [e1]; exact h.len) (fun m' c' W' h1 h2 => hk _ _ _ _ _ e3 h1 h2) ops.size _ m (q1q H) c _ (by simp) ?_ (fun i o ho hl => ?_) ⟨(h.st.skip hg0 hp0).imp fun t u ⟨q,hv,hu⟩ => ?_,fun id ob => ?_,fun id hid => ?_,hg0⟩
 ·unfold left
  refine Nat.le_trans List.countP_le_length ?_
  simp
 ·rw [zero] at hl; cases hl
 ·have hn : ∀ j,0 ≤ j → j < q → t ∉ (fp j).wt := fun j _ hj hw => by
   have := (hv.2 j (Nat.lt_of_lt_of_le hj hv.1) hw).2 hj
   rw [zero] at this
   cases this
  show a[t]? = some u
  rw [tr.keep t (Nat.zero_le _) hv.1 hn,e1] at hu
  exact hu
 ·refine ⟨fun h => ⟨0,⟨Nat.zero_le _,fun j _ _ => by rw [zero]; simp⟩,by rw [e1]; exact h⟩,fun ⟨q,hv,hu⟩ => ?_⟩
  have hn : ∀ j,0 ≤ j → j < q → id ∉ (fp j).wo := fun j _ hj hw => by
   have := (hv.2 j (Nat.lt_of_lt_of_le hj hv.1) hw).2 hj
   rw [zero] at this
   cases this
  rw [tr.keepO id (Nat.zero_le _) hv.1 hn,e1] at hu
  exact hu
 ·refine ⟨0,⟨Nat.zero_le _,fun j _ _ => by rw [zero]; simp⟩,?_⟩
  rw [e1]
  rcases Nat.lt_or_ge id H.length with hlt | hge
  ·exact hlt
  ·exact absurd (h.fresh id hge) hid
theorem qZk {k : List U → q1f → Prop} (hm : P.follows .mixedOrders = true) (hT : q4w P T) (hX : qHg P T) (hC : qBs P C) (hE : q9p P base S E) (id : Nat) (h : Sat base S N a H m c W) (hsel : ∀ (j : Nat) (o : Oper) cs b,ops[j]? = some o → o.op ≠ .select cs b) (hd : q7w (qFo T C E) ops ops.size [] a H k) (hk : qNv base S N H m W k (Q .normal)) : (Code.region id ops true).wp P Q c W := by
 refine Code.wp_mono (Q := qEn Q) (fun e a w hh => by cases e <;> first | exact hh | exact (hh : False).elim) ?_
 refine wp_region_any hm ?_
 have hg0 : q4u m (own m (q1q H)) W m (own m (q1q H)) { W with drawn := W.drawn + 1 } := ⟨fun _ _ h => h,fun _ h => .inl h,Nat.le_refl _,fun _ _ _ => rfl,rfl,rfl,rfl⟩
 have hp0 := h.st.hp.move (fun _ _ h => h) hg0 fun _ _ => rfl
 have zero : ∀ j,(Array.replicate ops.size false).getD j false = false := fun j => by
  simp only [Array.getD_eq_getD_getElem?,Array.getElem?_replicate]
  split <;> rfl
 exact qTl hT hX hC hE hsel ops.size [] _ a H m c _ (by simp) (fun i => by rw [zero]; simp) (fun j o ho hl => by rw [zero] at hl; cases hl) ⟨h.len,h.st.skip hg0 hp0,h.fresh⟩ hd fun a' H' m' c' W' q1 q2 q3 => hk _ _ _ _ _ q1 q2 (hg0.trans q3)
theorem j3i {k : List U → q1f → Prop} (hT : q4w P T) (hX : qHg P T) (hC : qBs P C) (hE : q9p P base S E) (id : Nat) (h : Sat base S N a H m c W) (hd : run (qFo T C E) ops ops.toList a H k) (hk : qNv base S N H m W k (Q .normal)) : (Code.region id ops false).wp P Q c W := by
 refine wp_region ?_
 have := j0t (ops := ops) (Q := Q) hT hX hC hE ops.toList 0 a H m c W rfl h hd hk
 rw [List.range_eq_range']
 simpa using this
end
end
end Go.Proofs.YtjkcmnedolfkjaaGreat.Rd
end
section
set_option linter.unusedVariables false
set_option linter.unusedSimpArgs false
namespace Go.Proofs.YtjkcmnedolfkjaaGreat.Rd
open Go Go.RowKit Go.Proofs.YtjkcmnedolfkjaaGreatW.PrintWords
def ex : X → Exit
 | .normal => .normal
 | .exit i => .exit i
 | .ret => .ret
structure Env (P : Program) (T : Tab) (C : Orc) : Prop where
 mixed : P.follows .mixedOrders = true
 ty : q4w P T
 ext : qHg P T
 orc : qBs P C
section
variable {P : Program} {T : Tab} {C : Orc} {E : Ent} {base : Nat} {S : Nat → Prop} {N : Nat}
theorem qXo {n : Nat} {m m' : Map} {ok : Nat → Prop} {W : World} (hm : ∀ i,i < n → m' i = m i) {u : U} {v : Value} (ho : qNc n u = true) (h : Rep ok W m u v) : Rep ok W m' u v := by
 cases u with
 | ptr id off => obtain ⟨b,h1,h2⟩ := h; exact ⟨b,by rw [hm _ (by simpa [qNc] using ho)]; exact h1,h2⟩
 | pe id k i off => obtain ⟨b,h1,h2⟩ := h; exact ⟨b,by rw [hm _ (by simpa [qNc] using ho)]; exact h1,h2⟩
 | sl id l c k => obtain ⟨b,h1,h2⟩ := h; exact ⟨b,by rw [hm _ (by simpa [qNc] using ho)]; exact h1,h2⟩
 | _ => exact (Rep.bare h ho).any
theorem qEb {n : Nat} {m m' : Map} {ok : Nat → Prop} {W : World} (hm : ∀ i,i < n → m' i = m i) : ∀ {us : List U} {vs : List Value},us.all (qNc n) = true → Reps ok W m us vs → Reps ok W m' us vs
 | [],[],_,_ => trivial
 | u :: us,v :: vs,ho,h => by
  simp only [List.all_cons,Bool.and_eq_true] at ho
  exact ⟨qXo hm ho.1 h.1,qEb hm ho.2 h.2⟩
 | [],_ :: _,_,h => h.elim
 | _ :: _,[],_,h => h.elim
theorem qSf {n : Nat} {js : List Nat} {m : Map} {ok : Nat → Prop} {W : World} (hm : ∀ i,i < n → (fun i => (js[i]?).bind m) i = m i) {u w : U} {v : Value} (hw : wkU n js u w) (h : Rep ok W m u v) : Rep ok W (fun i => (js[i]?).bind m) w v := by
 cases w with
 | lost => trivial
 | tup us => exact hw.elim
 | sl id l c k => obtain ⟨j,h1,rfl⟩ := hw; obtain ⟨b,g1,g2⟩ := h; exact ⟨b,by show (js[id]?).bind m = _; rw [h1]; exact g1,g2⟩
 | ptr id off => obtain ⟨j,h1,rfl⟩ := hw; obtain ⟨b,g1,g2⟩ := h; exact ⟨b,by show (js[id]?).bind m = _; rw [h1]; exact g1,g2⟩
 | pe id k i off => obtain ⟨j,h1,rfl⟩ := hw; obtain ⟨b,g1,g2⟩ := h; exact ⟨b,by show (js[id]?).bind m = _; rw [h1]; exact g1,g2⟩
 | agg us => obtain ⟨h1,rfl⟩ := hw; obtain ⟨vs,g1,g2,g3⟩ := h; exact ⟨vs,g1,qEb hm h1 g2,g3⟩
 | clo f us => obtain ⟨h1,rfl⟩ := hw; obtain ⟨vs,g1,g2⟩ := h; exact ⟨vs,g1,qEb hm h1 g2⟩
 | _ => have e : u = _ := hw; subst e; exact (Rep.bare h rfl).any
theorem qTc {n : Nat} {js : List Nat} : ∀ {a a' : List U} {t : Nat} {w : U},wkA n js a a' → a'[t]? = some w → ∃ u,a[t]? = some u ∧ wkU n js u w
 | [],[],_,_,_,h => by simp at h
 | u :: us,w :: ws,0,x,h,hx => by simp at hx; subst hx; exact ⟨u,rfl,h.1⟩
 | u :: us,w :: ws,t + 1,x,h,hx => by
  obtain ⟨u',h1,h2⟩ := qTc (t := t) h.2 (by simpa using hx)
  exact ⟨u',by simpa using h1,h2⟩
 | [],_ :: _,_,_,h,_ => h.elim
 | _ :: _,[],_,_,h,_ => h.elim
theorem qUc {n : Nat} {js : List Nat} : ∀ {a a' : List U},wkA n js a a' → a.length = a'.length
 | [],[],_ => rfl
 | _ :: _,_ :: _,h => by simp [qUc h.2]
 | [],_ :: _,h => h.elim
 | _ :: _,[],h => h.elim
theorem qHk {n : Nat} {js : List Nat} {m : Map} {ok : Nat → Prop} {W : World} (hm : ∀ i,i < n → (fun i => (js[i]?).bind m) i = m i) : ∀ {us ws : List U} {vs : List Value},wkA n js us ws → Reps ok W m us vs → Reps ok W (fun i => (js[i]?).bind m) ws vs
 | [],[],[],_,_ => trivial
 | u :: us,w :: ws,v :: vs,h,hr => ⟨qSf hm h.1 hr.1,qHk hm h.2 hr.2⟩
 | [],[],_ :: _,_,h => h.elim
 | _ :: _,_,[],_,h => h.elim
 | [],_ :: _,_,h,_ => h.elim
 | _ :: _,[],_,h,_ => h.elim
theorem q9r {n : Nat} {JS : List Nat} {h : q1f} : ∀ {js : List Nat} {os : q1f} {i : Nat} {ob : Ob},wkH n JS h js os → q0r os i = some ob → ∃ j,js[i]? = some j ∧ wkO n JS h j (some ob)
 | [],[],_,_,_,hx => by simp [q0r] at hx
 | j :: js,o :: os,0,ob,hw,hx => by
  simp [q0r] at hx
  subst hx
  exact ⟨j,rfl,hw.1⟩
 | j :: js,o :: os,i + 1,ob,hw,hx => by
  obtain ⟨j',h1,h2⟩ := q9r (i := i) hw.2 (by simpa [q0r] using hx)
  exact ⟨j',by simpa using h1,h2⟩
 | [],_ :: _,_,_,h,_ => h.elim
 | _ :: _,[],_,_,h,_ => h.elim
theorem qNi {n : Nat} {JS : List Nat} {h : q1f} : ∀ {js : List Nat} {os : q1f},wkH n JS h js os → js.length = os.length
 | [],[],_ => rfl
 | _ :: _,_ :: _,h => by simp [qNi h.2]
 | [],_ :: _,h => h.elim
 | _ :: _,[],h => h.elim
theorem qOd {n : Nat} {JS : List Nat} {h : q1f} {j : Nat} {ob : Ob} (hw : wkO n JS h j (some ob)) : ∃ ob',q0r h j = some ob' := by
 cases ob with
 | cells ws => obtain ⟨us,h1,_⟩ := hw; exact ⟨_,h1⟩
 | row k xs => exact ⟨_,hw⟩
 | lim xs => exact ⟨_,hw⟩
theorem qAh : ∀ {js : List Nat} {os : q1f} {i j : Nat} {ob : Ob},js[i]? = some j → q0r os i = some ob → j ∈ q6h js os
 | [],_,_,_,_,h,_ => by simp at h
 | _ :: _,[],_,_,_,_,h => by simp [q0r] at h
 | x :: js,some o :: os,0,j,ob,h,_ => by simp at h; subst h; simp [q6h]
 | x :: js,none :: os,0,j,ob,_,h => by simp [q0r] at h
 | x :: js,some o :: os,i + 1,j,ob,h,h' => by
  simp only [q6h]
  exact List.mem_cons_of_mem _ (qAh (i := i) (by simpa using h) (by simpa [q0r] using h'))
 | x :: js,none :: os,i + 1,j,ob,h,h' => by
  simp only [q6h]
  exact qAh (i := i) (by simpa using h) (by simpa [q0r] using h')
theorem qEw : ∀ {js : List Nat} {os : q1f} {i i' j : Nat} {ob ob' : Ob},(q6h js os).Nodup → js[i]? = some j → js[i']? = some j → q0r os i = some ob → q0r os i' = some ob' → i = i'
 | [],_,_,_,_,_,_,_,h,_,_,_ => by simp at h
 | _ :: _,[],_,_,_,_,_,_,_,_,h,_ => by simp [q0r] at h
 | x :: js,none :: os,0,_,_,_,_,_,_,_,h,_ => by simp [q0r] at h
 | x :: js,none :: os,_,0,_,_,_,_,_,_,_,h => by simp [q0r] at h
 | x :: js,none :: os,i + 1,i' + 1,j,_,_,hn,h1,h2,h3,h4 => by
  rw [qEw (js := js) (os := os) (i := i) (i' := i') (by simpa only [q6h] using hn) (by simpa using h1) (by simpa using h2) (by simpa [q0r] using h3) (by simpa [q0r] using h4)]
 | x :: js,some o :: os,0,0,_,_,_,_,_,_,_,_ => rfl
 | x :: js,some o :: os,0,i' + 1,j,_,_,hn,h1,h2,_,h4 => by
  simp only [q6h,List.nodup_cons] at hn
  simp at h1
  subst h1
  exact absurd (qAh (i := i') (by simpa using h2) (by simpa [q0r] using h4)) hn.1
 | x :: js,some o :: os,i + 1,0,j,_,_,hn,h1,h2,h3,_ => by
  simp only [q6h,List.nodup_cons] at hn
  simp at h2
  subst h2
  exact absurd (qAh (i := i) (by simpa using h1) (by simpa [q0r] using h3)) hn.1
 | x :: js,some o :: os,i + 1,i' + 1,j,_,_,hn,h1,h2,h3,h4 => by
  simp only [q6h,List.nodup_cons] at hn
  rw [qEw (js := js) (os := os) (i := i) (i' := i') hn.2 (by simpa using h1) (by simpa using h2) (by simpa [q0r] using h3) (by simpa [q0r] using h4)]
theorem qMf {n : Nat} {js : List Nat} {H H' : q1f} {m : Map} (h3 : wkH n js H js H') : ∀ b,own (fun i => (js[i]?).bind m) (q1q H') b → own m (q1q H) b := fun b ⟨id,ob,g1,g2⟩ => by
 obtain ⟨j,e1,e2⟩ := q9r h3 g1
 have g2 : (js[id]?).bind m = some b := g2
 rw [e1] at g2
 obtain ⟨ob',e3⟩ := qOd e2
 exact ⟨j,ob',e3,g2⟩
theorem qUm {base base' : Nat} {S S' : Nat → Prop} {n : Nat} {js : List Nat} {H H' : q1f} {m : Map} {W : World} (hlo : ∀ i,i < n → js[i]? = some i) (hnd : (q6h js H').Nodup) (h3 : wkH n js H js H') (hp : Hp m S base W (q1q H))
  (hok : ∀ k,q3o base S (own m (q1q H)) k → q3o base' S' (own (fun i => (js[i]?).bind m) (q1q H')) k) (hlo' : ∀ (i b : Nat),(js[i]?).bind m = some b → S' b ∨ base' ≤ b) : Hp (fun i => (js[i]?).bind m) S' base' W (q1q H') := by
 have hm : ∀ i,i < n → (fun i => (js[i]?).bind m) i = m i := fun i hi => by show (js[i]?).bind m = m i; rw [hlo i hi]; rfl
 have hl : ∀ m1 : Map,q3s m1 m1 (q3o base S (own m (q1q H))) (q3o base' S' (own (fun i => (js[i]?).bind m) (q1q H'))) W W := fun m1 => q3s.up fun k hk _ => hok k hk
 refine ⟨fun id ob hw => ?_,fun i j b oi oj ki kj hi hj => ?_,fun i b hi => ?_,hlo'⟩
 ·obtain ⟨j,e1,e2⟩ := q9r h3 hw
  have fin : ∀ {ob0 : Ob},q0r H j = some ob0 → (∀ vs,ob0.rep (q3o base S (own m (q1q H))) W m vs → ob.rep (q3o base S (own m (q1q H))) W (fun i => (js[i]?).bind m) vs) →
    ∃ b vs te,(js[id]?).bind m = some b ∧ W.heap[b]? = some (.cells vs.toArray te (0,0)) ∧ ob.rep (q3o base' S' (own (fun i => (js[i]?).bind m) (q1q H'))) W (fun i => (js[i]?).bind m) vs ∧ ∀ v ∈ vs,v.oneCell' = true := fun {ob0} e3 hrep => by
   obtain ⟨b,vs,te,p1,p2,p3,p4⟩ := hp.at_ j ob0 e3
   exact ⟨b,vs,te,by rw [e1]; exact p1,p2,Ob.rep.move (hl _) _ _ (hrep vs p3),p4⟩
  cases ob with
  | cells ws => obtain ⟨us,e3,e4⟩ := e2; exact fin e3 fun vs p3 => qHk hm e4 p3
  | row k xs => exact fin (show q0r H j = _ from e2) fun vs p3 => p3
  | lim xs => exact fin (show q0r H j = _ from e2) fun vs p3 => p3
 ·obtain ⟨x,x1,x2⟩ := q9r h3 ki
  obtain ⟨y,y1,y2⟩ := q9r h3 kj
  obtain ⟨ox,x3⟩ := qOd x2
  obtain ⟨oy,y3⟩ := qOd y2
  have hi : (js[i]?).bind m = some b := hi
  have hj : (js[j]?).bind m = some b := hj
  rw [x1] at hi
  rw [y1] at hj
  have e := hp.inj x y b ox oy x3 y3 hi hj
  subst e
  exact qEw hnd x1 y1 ki kj
 ·obtain ⟨x,x1,x2⟩ := Option.bind_eq_some_iff.1 (show (js[i]?).bind m = some b from hi)
  exact hp.lt x b x2
theorem qUp {base : Nat} {S : Nat → Prop} {N n : Nat} {js : List Nat} {a a' : List U} {H H' : q1f} {m : Map} {c : Act} {W : World} (hlo : ∀ i,i < n → js[i]? = some i) (hnd : (q6h js H').Nodup) (h2 : wkA n js a a') (h3 : wkH n js H js H') (h : Sat base S N a H m c W) :
  Sat base S N a' H' (fun i => (js[i]?).bind m) c W := by
 have hm : ∀ i,i < n → (fun i => (js[i]?).bind m) i = m i := fun i hi => by show (js[i]?).bind m = m i; rw [hlo i hi]; rfl
 have hlen := qNi h3
 have hok : ∀ k,q3o base S (own m (q1q H)) k → q3o base S (own (fun i => (js[i]?).bind m) (q1q H')) k := fun k hk => ⟨hk.1,fun hb => hk.2 (qMf h3 k hb)⟩
 refine ⟨(qUc h2).symm.trans h.len,⟨h.st.defers,h.st.size,fun t w hw hlt => ?_,qUm hlo hnd h3 h.st.hp hok (fun i b hi => ?_),h.st.big⟩,fun id hid => ?_⟩
 ·obtain ⟨u,g1,g2⟩ := qTc h2 hw
  exact Rep.move (q3s.up fun k hk _ => hok k hk) _ _ (qSf hm g2 (h.st.tmp t u g1 hlt))
 ·obtain ⟨x,x1,x2⟩ := Option.bind_eq_some_iff.1 hi
  exact h.st.hp.lo x b x2
 ·show (js[id]?).bind m = none
  rw [List.getElem?_eq_none (by omega)]
  rfl
theorem qIc {base : Nat} {S : Nat → Prop} {N n : Nat} {a : List U} {H H0 : q1f} {m m0 : Map} {c : Act} {W W0 : World} {k : List U → q1f → Prop} (hw : qUd n a H k) (h : Sat base S N a H m c W) (hg : q4u m0 (own m0 (q1q H0)) W0 m (own m (q1q H)) W) (h0 : ∀ id,n ≤ id → m0 id = none) :
  ∃ a' H' m',k a' H' ∧ Sat base S N a' H' m' c W ∧ q4u m0 (own m0 (q1q H0)) W0 m' (own m' (q1q H')) W := by
 obtain ⟨rs,a',H',⟨h1,h2,h3⟩,hk⟩ := hw.out
 unfold qFj at h1
 simp only [Bool.and_eq_true,decide_eq_true_eq] at h1
 have hlo : ∀ i,i < n → (List.range n ++ rs)[i]? = some i := fun i hi => by rw [List.getElem?_append_left (by simpa using hi)]; simp [hi]
 refine ⟨a',H',_,hk,qUp hlo h1.2 h2 h3 h,⟨fun id b hb => ?_,fun b hb => hg.new b (qMf h3 b hb),hg.size,hg.mem,hg.os,hg.tape,hg.output⟩⟩
 have : id < n := Nat.lt_of_not_le fun hle => by rw [h0 id hle] at hb; cases hb
 show ((List.range n ++ rs)[id]?).bind m = some b
 rw [hlo id this]
 exact hg.map id b hb
theorem den_ok {rounds : Nat} (hV : Env P T C) (hE : q9p P base S E) :
  ∀ (code : Code) (a : List U) (H : q1f) (m : Map) (c : Act) (W : World) (k : X → List U → q1f → Prop) (Q : Exit → Act → World → Prop),den rounds T C E code a H k → Sat base S N a H m c W →
   (∀ e,qNv base S N H m W (k e) (Q (ex e))) → code.wp P Q c W := by
 intro code
 induction code with
 | skip => intro a H m c W k Q hd h hk; exact wp_skip (hk .normal a H m c W hd h (q4u.refl _ _ _))
 | ret => intro a H m c W k Q hd h hk; exact wp_ret (hk .ret a H m c W hd h (q4u.refl _ _ _))
 | exit id => intro a H m c W k Q hd h hk; exact wp_exit (hk (.exit id) a H m c W hd h (q4u.refl _ _ _))
 | region id ops draw =>
  intro a H m c W k Q hd h hk
  cases draw with
  | false => exact j3i hV.ty hV.ext hV.orc hE id h hd (hk .normal)
  | true =>
   unfold den at hd
   split at hd
   ·split at hd
    case h_2 => exact hd.elim
    rename_i hns
    refine qZk hV.mixed hV.ty hV.ext hV.orc hE id h (fun j o cs b ho he => ?_) hd (hk .normal)
    have := List.all_eq_true.1 hns o (by rw [Array.mem_toList_iff]; exact Array.mem_of_getElem? ho)
    rw [he] at this
    cases this
   ·exact qYa hV.mixed hV.ty hV.orc id h hd (hk .normal)
 | seq x y ihx ihy =>
  intro a H m c W k Q hd h hk
  unfold den at hd
  refine wp_seq (ihx a H m c W _ _ hd h fun e a' H' m' c' W' h1 h2 h3 => ?_)
  cases e with
  | normal => exact ihy a' H' m' c' W' k Q h1 h2 fun e a'' H'' m'' c'' W'' g1 g2 g3 => hk e a'' H'' m'' c'' W'' g1 g2 (h3.trans g3)
  | exit i => exact hk (.exit i) a' H' m' c' W' h1 h2 h3
  | ret => exact hk .ret a' H' m' c' W' h1 h2 h3
 | cond x t e iht ihe =>
  intro a H m c W k Q hd h hk
  unfold den at hd
  split at hd
  case h_2 => exact hd.elim
  rename_i b hx
  have hc : c.eval x = .bool b := qCf h.st h.len (fun t ht u hu => hu) hx
  cases b with
  | true => exact wp_cond_true hc (iht a H m c W k Q hd h hk)
  | false => exact wp_cond_false hc (ihe a H m c W k Q hd h hk)
 | block id x ih =>
  intro a H m c W k Q hd h hk
  unfold den at hd
  refine wp_block (ih a H m c W _ _ hd h fun e a' H' m' c' W' h1 h2 h3 => ?_)
  cases e with
  | normal => exact hk .normal a' H' m' c' W' h1 h2 h3
  | exit i =>
   simp only at h1
   show (if i = id then Q .normal c' W' else Q (.exit i) c' W')
   split at h1
   ·rename_i he
    rw [if_pos he]
    exact hk .normal a' H' m' c' W' h1 h2 h3
   ·rename_i he
    rw [if_neg he]
    exact hk (.exit i) a' H' m' c' W' h1 h2 h3
  | ret => exact hk .ret a' H' m' c' W' h1 h2 h3
 | loop x ih =>
  intro a H m c W k Q hd h hk
  unfold den at hd
  obtain ⟨a0,H0,m0,hd,h0,hg⟩ := qIc hd h (q4u.refl _ _ _) h.fresh
  have hfr := h.fresh
  refine wp_loop_rounds rounds ?_
  have key : ∀ (n : Nat) (a : List U) (H1 : q1f) (m1 : Map) (c : Act) (W1 : World), qQz    (fun a1 h1 k => den rounds T C E x a1 h1 fun e a2 h2 => match e with
    | .normal => qUd H.length a2 h2 (k .normal)
    | e => k e a2 h2) n a H1 k → Sat base S N a H1 m1 c W1 → q4u m (own m (q1q H)) W m1 (own m1 (q1q H1)) W1 → Code.rounds P x Q n c W1 := by
   intro n
   induction n with
   | zero => intro a H1 m1 c W1 hd; exact hd.elim
   | succ n ihn =>
    intro a H1 m1 c W1 hd h1 hg1
    unfold qQz at hd
    unfold Code.rounds
    refine ih a H1 m1 c W1 _ _ hd h1 fun e a' H' m' c' W' g1 g2 g3 => ?_
    cases e with
    | normal =>
     obtain ⟨a2,H2,m2,q1,q2,q3⟩ := qIc g1 g2 (hg1.trans g3) hfr
     exact ihn a2 H2 m2 c' W' q1 q2 q3
    | exit i => exact hk (.exit i) a' H' m' c' W' g1 g2 (hg1.trans g3)
    | ret => exact hk .ret a' H' m' c' W' g1 g2 (hg1.trans g3)
  exact key rounds a0 H0 m0 c W hd.out h0 hg
 | rangeFunc f ps x y ih1 ih2 => intro a H m c W k Q hd; exact hd.elim
 | scope x ih => intro a H m c W k Q hd; exact hd.elim
 | label l => intro a H m c W k Q hd; exact hd.elim
 | goto l => intro a H m c W k Q hd; exact hd.elim
 | refuse w => intro a H m c W k Q hd; exact hd.elim
def rs1 (tmps : Array Value) : ResultVar → Sem Value
 | .tmp t => pure (tmps.getD t undef)
 | .cell a t => do loadVar t (← asAddr (tmps.getD a undef))
theorem qPz (fn : Func) (tmps : Array Value) : results fn tmps =        (do
  let vs ← fn.results.mapM (rs1 tmps)
  pure (if h : vs.size = 1 then vs[0] else .tuple vs)) := by
 unfold results
 congr 2
theorem qRk {a : List U} {H : q1f} {m : Map} {c : Act} {W : World} (hT : q4w P T) (h : Sat base S N a H m c W) : ∀ {rs : List ResultVar} {us : List U},j3r T a H rs = some us →
  ∃ vs : List Value,(rs.mapM (rs1 c.tmps)).run P W = .ok vs W ∧ Reps (q3o base S (own m (q1q H))) W m us vs
 | [],us,hr => by simp [j3r] at hr; subst hr; exact ⟨[],by simp,trivial⟩
 | x :: rs,us,hr => by
  simp only [j3r,Option.bind_eq_some_iff,Option.map_eq_some_iff] at hr
  obtain ⟨u,hu,us',hus,he⟩ := hr
  subst he
  obtain ⟨vs,f1,f2⟩ := qRk hT h hus
  have fin : ∀ v,(rs1 c.tmps x).run P W = .ok v W → ((x :: rs).mapM (rs1 c.tmps)).run P W = .ok (v :: vs) W := fun v hv => by
   simp only [List.mapM_cons,Sem.run_bind,hv,Result.andThen_ok,f1,Sem.run_pure]
  cases x with
  | tmp t =>
   simp only [res1,Option.some.injEq] at hu
   subst hu
   have := q2z h.st h.len (x := .tmp t) (fun z hz u hu => hu)
   exact ⟨_,fin _ rfl,this,f2⟩
  | cell x t =>
   simp only [res1] at hu
   split at hu
   case h_2 => cases hu
   rename_i id off he
   split at hu
   case h_2 => cases hu
   rename_i ws hws
   obtain ⟨ty,ht,hp⟩ := Option.bind_eq_some_iff.1 hu
   have hr := q2z h.st h.len (x := .tmp x) (fun z hz u hu => hu)
   rw [show ov a (.tmp x) = .ptr id off from he] at hr
   obtain ⟨b,e1,e2⟩ := hr
   obtain ⟨v, g1, g2⟩ := q8r (m := m) (hT t ty ht) (ad := ⟨b, 0, none⟩)        (fun j w hj => by
    obtain ⟨v,g2,g3⟩ := h.st.hp.cell (show q1q H id _ from hws) hj e1
    exact ⟨v, by rw [q5b, Nat.zero_add]; exact g2, g3⟩) hp
   rw [q5b,Nat.zero_add] at g1
   have e3' : c.tmps.getD x undef = .pointer (some ⟨b,off,none⟩) := e2
   refine ⟨_,fin v ?_,g2,f2⟩
   simp only [rs1,e3',asAddr,Sem.run_bind,Sem.run_pure,Result.andThen_ok]
   exact g1
theorem qMs {rounds : Nat} {f : FuncId} {fn : Func} {b : Code} {us : List U} {H : q1f} {k : U → q1f → Prop} (hV : Env P T C) (hE : q9p P base S E) (hf : P.funcs[f]? = some fn) (hb : fn.body = some b)
  (hd : body rounds T C E fn us H k) : q9u P base S f us H k := by
 intro m W cs hp hfr hbig hcs
 unfold body at hd
 rw [hb] at hd
 simp only at hd
 refine calls_of_wp hf hb ?_
 have hl := hcs.len
 have hst : Sat base S (us ++ List.replicate (fn.ntmps - us.length) (U.v undef)).length (us ++ List.replicate (fn.ntmps - us.length) (U.v undef)) H m { tmps := cs.toArray ++ Array.replicate (fn.ntmps - cs.toArray.size) undef,defers := [] } W := by
  refine ⟨rfl,⟨rfl,by simp [hl],fun t x hx ht => ?_,hp,hbig⟩,hfr⟩
  have hall : Reps (q3o base S (own m (q1q H))) W m (us ++ List.replicate (fn.ntmps - us.length) (U.v undef)) (cs ++ List.replicate (fn.ntmps - us.length) undef) :=
   Reps.append hcs (Reps.same (show Rep _ W m (U.v undef) undef from rfl) _)
  obtain ⟨v,h1,h2⟩ := hall.nth hx
  have : (cs.toArray ++ Array.replicate (fn.ntmps - cs.toArray.size) undef).getD t undef = v := by
   have e : cs.toArray ++ Array.replicate (fn.ntmps - cs.toArray.size) undef = (cs ++ List.replicate (fn.ntmps - us.length) undef).toArray := by
    apply Array.toList_inj.1
    simp [hl]
   rw [e]
   simp [h1]
  rw [this]
  exact h2
 refine den_ok hV hE b _ _ _ _ _ _ _ hd hst fun e a H' m' c W' hk h hg => ?_
 have hfin : (match j3r T a H' fn.results.toList with | some [u] => k u H' | some us => k (.tup us) H' | none => False) → c.defers = [] ∧ ∃ v,(results fn c.tmps).run P W' = .ok v W' ∧
   ∃ u H' m' v',k u H' ∧ Ending.returned v = .returned v' ∧ Rep (q3o base S (own m' (q1q H'))) W' m' u v' ∧ Hp m' S base W' (q1q H') ∧ (∀ id,H'.length ≤ id → m' id = none) ∧ q4u m (own m (q1q H)) W m' (own m' (q1q H')) W' := fun hr => by
  cases hws : j3r T a H' fn.results.toList with
  | none => rw [hws] at hr; exact hr.elim
  | some ws =>
   rw [hws] at hr
   obtain ⟨vs,g1,g2⟩ := qRk hV.ty h hws
   have hrun : (results fn c.tmps).run P W' = .ok (if h : vs.length = 1 then vs[0] else .tuple vs.toArray) W' := by
    rw [qPz,Array.mapM_eq_mapM_toList]
    simp [g1]
   refine ⟨h.st.defers,_,hrun,?_⟩
   have hlen := g2.len
   match ws,vs,g2,hlen,hr with
   | [u],[v],g2,_,hr => exact ⟨u,H',m',v,hr,rfl,g2.1,h.st.hp,h.fresh,hg⟩
   | [],[],g2,_,hr => exact ⟨.tup [],H',m',.tuple #[],hr,rfl,⟨[],rfl,g2⟩,h.st.hp,h.fresh,hg⟩
   | u :: u' :: ws,v :: v' :: vs,g2,_,hr => exact ⟨.tup (u :: u' :: ws),H',m',.tuple (v :: v' :: vs).toArray,hr,by simp,⟨_,rfl,g2⟩,h.st.hp,h.fresh,hg⟩
 cases e with
 | normal => exact hfin hk
 | ret => exact hfin hk
 | exit i => exact hk.elim
def qG (rounds : Nat) (T : Tab) (C : Orc) (fns : FuncId → Option Func) : Nat → Ent
 | 0 => fun _ _ _ _ => False
 | n + 1 => fun f us H k => match fns f with
  | some fn => body rounds T C (qG rounds T C fns n) fn us H k
  | none => False
theorem qJa {rounds : Nat} {fns : FuncId → Option Func} (hV : Env P T C) (hfns : ∀ f fn, fns f = some fn → P.funcs[f]? = some fn ∧ (fn.name == "runtime.NumGoroutine") = false ∧ fn.body.isSome = true) : ∀ n, q9p P base S (qG rounds T C fns n)
 | 0 => fun f us H k h => h.elim
 | n + 1 => fun f us H k h => by
  unfold qG at h
  split at h
  ·rename_i fn hfn
   obtain ⟨h1,h2,h3⟩ := hfns f fn hfn
   obtain ⟨b,hb⟩ := Option.isSome_iff_exists.1 h3
   exact ⟨⟨fn,b,h1,h2,hb⟩,qMs hV (qJa hV hfns n) h1 hb h⟩
  ·exact h.elim
theorem qYf (S : Nat → Prop) (W : World) : Hp noM S W.heap.size W (q1q []) :=
 ⟨fun id us h => (by simp [q1q,q0r] at h),fun i j b oi oj _ _ h _ => (by cases h),fun i b h => (by cases h),fun i b h => (by cases h)⟩
theorem qJi (W : World) (k : Nat) : ¬ own noM (q1q []) k := fun ⟨i,ob,h,_⟩ => by simp [q1q,q0r] at h
theorem qIa {f : FuncId} {fn : Func} {R : List U → U → Prop} (hV : Env P T C)
  (hf : P.funcs[f]? = some fn) (hname : (fn.name == "runtime.NumGoroutine") = false) (hb : fn.body.isSome = true) (hR : ∀ us u, R us u → ∃ rounds E, (∀ base S, q9p P base S E) ∧ body rounds T C E fn us [] fun w H => shut w H fun w _ => w = u) : q0w P f R := fun us u hus => by
 obtain ⟨b,hb⟩ := Option.isSome_iff_exists.1 hb
 obtain ⟨rounds,E,hE,hd⟩ := hR us u hus
 refine ⟨⟨fn,b,hf,hname,hb⟩,fun W S cs hcs => ?_⟩
 have hc := qMs (base := W.heap.size) (S := S) hV (hE _ _) hf hb hd
 have hcs' : Reps (q3o W.heap.size S (own noM (q1q []))) W noM us cs := Reps.move (q3s.up fun k hk _ => ⟨.inl hk,qJi W k⟩) _ _ hcs
 refine (hc noM W cs (qYf S W) (fun _ _ => rfl) (Nat.le_refl _) hcs').mono fun e W' ⟨w,H',m',v,h1,h2,h3,h4,h5,h6⟩ => ?_
 obtain ⟨u',H'',g1,g2⟩ := j2c h4 h3 h1
 subst g1
 refine ⟨v,h2,Rep.move (q3s.up fun k hk _ => hk.1) _ _ g2,⟨h6.os,h6.tape,h6.output,h6.size,fun k hk => h6.mem k hk (qJi W k)⟩⟩
theorem qK {f : List U → q1f → (X → List U → q1f → Prop) → Prop} {k : X → List U → q1f → Prop} (I : Nat → List U → q1f → Prop)
  (step : ∀ i a h (K : List U → q1f → Prop),I i a h → (∀ j a' h',j < i → I j a' h' → K a' h') → f a h fun e a h => match e with | .normal => K a h | e => k e a h) :
  ∀ (n i : Nat) (a : List U) (h : q1f),i < n → I i a h → qQz f n a h k
 | 0,_,_,_,hi,_ => absurd hi (Nat.not_lt_zero _)
 | n + 1,i,a,h,hi,hI => by
  unfold qQz
  exact step i a h _ hI fun j a' h' hj hI' => qK I step n j a' h' (by omega) hI'
theorem q2g {f : List U → q1f → (X → List U → q1f → Prop) → Prop} {k : X → List U → q1f → Prop} (I : Nat → List U → q1f → Prop)
  (step : ∀ i a h (K : List U → q1f → Prop),I i a h → (∀ j a' h',j < i → I j a' h' → K a' h') → f a h fun e a h => match e with | .normal => K a h | e => k e a h) (n i : Nat) (a : List U) (h : q1f) (hi : i < n) (hI : I i a h) : iterX f n a h k := ⟨qK I step n i a h hi hI⟩
end
end Go.Proofs.YtjkcmnedolfkjaaGreat.Rd
end
section
set_option linter.unusedVariables false
set_option linter.unusedSimpArgs false
namespace Go.Proofs.YtjkcmnedolfkjaaGreat.Rd
open Go Go.RowKit Go.Proofs.YtjkcmnedolfkjaaGreatW.PrintWords
def q9c {α : Type} (t : Nat) : List (Nat × α) → Option α
 | [] => none
 | (s,x) :: rest => if s = t then some x else q9c t rest
def j4g : Value → U → Bool
 | .bool a,.v (.bool b) => a == b
 | .int k n,.v (.int k' m) => decide (k = k') && decide (n = m)
 | .slice none 0 0,.l [] => true
 | .slice none 0 0,.v (.slice none 0 0) => true
 | .pointer none,.v (.pointer none) => true
 | .map none,.v (.map none) => true
 | _,_ => false
def qJn : List Value → List U → Bool
 | [],[] => true
 | v :: vs,u :: us => j4g v u && qJn vs us
 | _,_ => false
def qEy (P : Program) : List Field → List (Nat × Nat × Bool) → Bool
 | [],[] => true
 | f :: fs, x :: xs => decide (f.offset = x.1) && (match P.info? f.type with
  | some i => decide (i.size = x.2.1)
  | none => false) && (match P.underlying f.type with
  | some d => j0f d == x.2.2
  | none => false) && qEy P fs xs
 | _,_ => false
def qXs (P : Program) (t : TypeId) : Bool := match P.underlying t with
 | some (.int _) => true
 | _ => false
def qTp (P : Program) : List Field → Nat → Bool
 | [],_ => true
 | f :: fs, n => decide (f.offset = n) && qXs P f.type && (f.name != "_") && qTp P fs (n + 1)
def j1e : TypeDesc → Option TypeId
 | .slice e => some e
 | .array _ e => some e
 | _ => none
def tyB (P : Program) (t : TypeId) (ty : Ty) : Bool := match P.info? t,P.underlying t with
 | some i, some d => decide (i.size = ty.zero.length) && (j0f d == ty.agg) &&  (match i.zero with
  | some z => qJn z.cells.toList ty.zero
  | none => false) && (match ty.int with
  | some k => (match d with
   | .int k' => decide (k = k')
   | _ => false)
  | none => true) && (!ty.bool || (match d with
   | .bool => true
   | _ => false)) && (!ty.sref || (match d with
   | .slice _ => true
   | _ => false)) && (!ty.pref || (match d with
   | .pointer _ => true
   | _ => false)) && (ty.fields.isEmpty || (match d with
   | .struct fs => qEy P fs.toList ty.fields
   | _ => false)) && (ty.elem.isEmpty || (match j1e d with
   | some e => (match P.info? e with
    | some ie => decide (ie.size = ty.elem.length) && decide (ie.bytes ≤ 65536) && (match ie.zero with
     | some z => qJn z.cells.toList ty.elem
     | none => false) && (!ty.limbs || (match ty.elem with
      | [.v (.int .u32 0)] => true
      | _ => false))
    | none => false)
   | none => false)) && (!ty.flat || (match d with
   | .struct fs => decide (fs.size = ty.zero.length) && qTp P fs.toList 0 && !P.stoodInHeld t && !P.eqGuardType P.depth t
   | _ => false)) && (decide (ty.alen = 0) || (match d with
   | .array nn e => decide (((nn : Nat) : Int) = ty.alen) && (match P.info? e with
    | some ie => decide (ie.size = ty.elem.length)
    | none => false)
   | _ => false))
 | _,_ => false
theorem qYg {v : Value} {u : U} (h : j4g v u = true) : (∀ ok W m,Rep ok W m u v) ∧ v.oneCell' = true := by
 unfold j4g at h
 split at h
 ·have := eq_of_beq h
  subst this
  exact ⟨fun _ _ _ => rfl,rfl⟩
 ·simp only [Bool.and_eq_true,decide_eq_true_eq] at h
  obtain ⟨rfl,rfl⟩ := h
  exact ⟨fun _ _ _ => rfl,rfl⟩
 ·exact ⟨fun ok W _ => ⟨none,0,rfl,Nat.le_refl _,Kd.F_nil _ _ _⟩,rfl⟩
 ·exact ⟨fun _ _ _ => rfl,rfl⟩
 ·exact ⟨fun _ _ _ => rfl,rfl⟩
 ·exact ⟨fun _ _ _ => rfl,rfl⟩
 ·cases h
theorem qCt : ∀ {vs : List Value} {us : List U},qJn vs us = true → (∀ ok W m,Reps ok W m us vs) ∧ ∀ v ∈ vs,v.oneCell' = true
 | [],[],_ => ⟨fun _ _ _ => trivial,fun v hv => by cases hv⟩
 | v :: vs,u :: us,h => by
  simp only [qJn,Bool.and_eq_true] at h
  obtain ⟨h1,h2⟩ := h
  obtain ⟨e1,e2⟩ := qYg h1
  obtain ⟨e3,e4⟩ := qCt h2
  refine ⟨fun ok W m => ⟨e1 ok W m,e3 ok W m⟩,fun w hw => ?_⟩
  rcases List.mem_cons.1 hw with rfl | hw
  ·exact e2
  ·exact e4 w hw
 | [],_ :: _,h => by cases h
 | _ :: _,[],h => by cases h
theorem qBk {P : Program} : ∀ {fs : List Field} {xs : List (Nat × Nat × Bool)},qEy P fs xs = true → fs.mapM (fun f => (P.info? f.type).map fun i => (f.offset,i.size)) = some (xs.map fun x => (x.1,x.2.1)) ∧
  ∀ (f : Nat) p,xs[f]? = some p → ∃ fd i d',fs[f]? = some fd ∧ fd.offset = p.1 ∧ P.info? fd.type = some i ∧ i.size = p.2.1 ∧ P.underlying fd.type = some d' ∧ j0f d' = p.2.2
 | [],[],_ => ⟨rfl,fun f p h => by simp at h⟩
 | f :: fs,x :: xs,h => by
  simp only [qEy,Bool.and_eq_true,decide_eq_true_eq] at h
  obtain ⟨⟨⟨h1,h2⟩,h3⟩,h4⟩ := h
  split at h2
  case h_2 => cases h2
  rename_i i hi
  split at h3
  case h_2 => cases h3
  rename_i d hd
  obtain ⟨g1,g2⟩ := qBk h4
  refine ⟨?_,fun j p hj => ?_⟩
  ·simp only [List.mapM_cons,hi,g1]
   simp [h1,of_decide_eq_true h2]
  ·cases j with
   | zero =>
    simp at hj
    subst hj
    exact ⟨f,i,d,rfl,h1,hi,of_decide_eq_true h2,hd,eq_of_beq h3⟩
   | succ j =>
    obtain ⟨fd,i,d',e1,e2⟩ := g2 j p (by simpa using hj)
    exact ⟨fd,i,d',by simpa using e1,e2⟩
 | [],_ :: _,h => by cases h
 | _ :: _,[],h => by cases h
theorem qKm {P : Program} {t : TypeId} (h : qXs P t = true) (d : Nat) (k k' : IntKind) (a b : Int) (W : World) (hk : k = k') : (Op.equalIn (d + 1) t (.int k a) (.int k' b)).run P W = .ok (a == b) W := by
 unfold qXs at h
 split at h
 case h_2 => cases h
 rename_i q hq
 unfold Op.equalIn
 simp [run_underlying hq,hk]
theorem qGc {us ws : List U} {r : Prop} (h : qJr us ws = some r) : (us = [] ∧ ws = [] ∧ r = True) ∨ ∃ k k' x y us' ws' r',us = .v (.int k x) :: us' ∧ ws = .v (.int k' y) :: ws' ∧ k = k' ∧ qJr us' ws' = some r' ∧ r = (x = y ∧ r') := by
 unfold qJr at h
 split at h
 ·injection h with h; exact .inl ⟨rfl,rfl,h.symm⟩
 ·split at h
  case isFalse => cases h
  rename_i k x us' k' y ws' hk
  obtain ⟨r',h1,h2⟩ := Option.map_eq_some_iff.1 h
  exact .inr ⟨k,k',x,y,us',ws',r',rfl,rfl,hk,h1,h2.symm⟩
 ·cases h
theorem qAt {P : Program} {W : World} {vs zs : List Value} {ok : Nat → Prop} {m : Map} : ∀ (fs : List Field) (n : Nat) (us ws : List U) (r : Prop) (b : Bool),qTp P fs n = true → us.length = fs.length → qJr us ws = some r → (b = true ↔ r) → Reps ok W m us (vs.drop n) → Reps ok W m ws (zs.drop n) →
  (Op.eqFields 9999 vs.toArray zs.toArray fs).run P W = .ok b W
 | [],n,us,ws,r,b,hf,hl,hs,hb,h1,h2 => by
  rcases qGc hs with ⟨_,_,rfl⟩ | ⟨_,_,_,_,us',_,_,rfl,_⟩
  ·rw [show b = true from hb.2 trivial]; rfl
  ·simp at hl
 | f :: fs,n,us,ws,r,b,hf,hl,hs,hb,h1,h2 => by
  simp only [qTp,Bool.and_eq_true,decide_eq_true_eq,bne_iff_ne] at hf
  obtain ⟨⟨⟨f1,f2⟩,f3⟩,f4⟩ := hf
  rcases qGc hs with ⟨rfl,_⟩ | ⟨k,k',x,y,us',ws',r',rfl,rfl,hk,hs',rfl⟩
  ·simp at hl
  have ev : ∀ {us : List U} {vs : List Value} {z : Value},Reps ok W m (.v z :: us) (vs.drop n) → vs[n]? = some z ∧ Reps ok W m us (vs.drop (n + 1)) := fun {us vs z} h => by
   cases hd : vs.drop n with
   | nil => rw [hd] at h; exact h.elim
   | cons w rest =>
    rw [hd] at h
    have hw : w = z := h.1
    subst hw
    have e0 := congrArg (fun l => l[0]?) hd
    have e1 := congrArg List.tail hd
    simp at e0 e1
    exact ⟨e0,by rw [e1]; exact h.2⟩
  obtain ⟨e1,r1⟩ := ev h1
  obtain ⟨e2,r2⟩ := ev h2
  have hd : ∃ q,P.underlying f.type = some (.int q) := by
   unfold qXs at f2
   split at f2
   ·exact ⟨_,by assumption⟩
   ·cases f2
  obtain ⟨q,hq⟩ := hd
  have hp : ∀ {vs : List Value} {z : Value},vs[n]? = some z → (Go.part f.type vs.toArray f.offset).run P W = .ok z W := fun {vs z} h => by
   simp [Go.part,q8x hq,j0f,f1,h]
  have he := qKm f2 9998 k k' x y W hk
  simp only [Op.eqFields,if_pos f3]
  simp only [Sem.run_bind,hp e1,hp e2,Result.andThen_ok,he]
  by_cases hxy : x = y
  ·have ih := qAt fs (n + 1) us' ws' r' b f4 (by simpa using hl) hs' (by rw [hb]; exact ⟨fun h => h.2,fun h => ⟨hxy,h⟩⟩) r1 r2
   simp [hxy,ih]
  ·have : b = false := by
    cases b with
    | false => rfl
    | true => exact absurd (hb.1 rfl).1 hxy
   simp [hxy,this]
theorem qHm {P : Program} {t : TypeId} {fs : Array Field} (hu : P.underlying t = some (.struct fs)) (hf : qTp P fs.toList 0 = true) (hst : P.stoodInHeld t = false) {us ws : List U} {vs zs : List Value} {r : Prop} {b : Bool} {ok : Nat → Prop} {m : Map} {W : World}
  (hlen : us.length = fs.size) (hs : qJr us ws = some r) (hb : b = true ↔ r) (h1 : Reps ok W m us vs) (h2 : Reps ok W m ws zs) : (Op.equal t (.agg vs.toArray) (.agg zs.toArray)).run P W = .ok b W := by
 have hfo : P.fieldsOf t = fs := by simp [Program.fieldsOf,hu]
 have := run_equalIn_struct (P := P) W 9999 t vs.toArray zs.toArray (by rw [hfo]; exact hu) hst
 show (Op.equalIn 10000 t _ _).run P W = _
 rw [this,hfo]
 exact qAt fs.toList 0 us ws r b hf (by simpa using hlen) hs hb h1 h2
theorem tyB_ok {P : Program} {t : TypeId} {ty : Ty} (h : tyB P t ty = true) : TyOk P t ty := by
 unfold tyB at h
 split at h
 case h_2 => cases h
 rename_i i d hi hd
 simp only [Bool.and_eq_true,Bool.or_eq_true,decide_eq_true_eq,Bool.not_eq_true'] at h
 obtain ⟨⟨⟨⟨⟨⟨⟨⟨⟨⟨h1,h2⟩,h3⟩,h4⟩,h5⟩,h6⟩,h7⟩,h8⟩,h9⟩,h10⟩,h11⟩ := h
 have hfs : ∀ hne : ty.fields ≠ [],∃ fs : Array Field,d = .struct fs ∧ qEy P fs.toList ty.fields = true := fun hne => by
  rcases h8 with h8 | h8
  ·exact absurd (by simpa using h8) hne
  ·split at h8
   ·exact ⟨_,rfl,h8⟩
   ·cases h8
 refine ⟨fun hne => ?_,?_,⟨d,hd,eq_of_beq h2,fun k hk => ?_,fun hb => ?_,fun f p hp => ?_,fun hne => ?_,fun hb => ?_,fun hb => ?_⟩,fun hfl => ?_,fun hne => ?_⟩
 ·obtain ⟨fs,rfl,hf⟩ := hfs hne
  exact ⟨fs,hd,(qBk hf).1⟩
 ·split at h3
  case h_2 => cases h3
  rename_i z hz
  obtain ⟨e1,e2⟩ := qCt h3
  exact ⟨i,z,z.cells.toList,hi,h1,hz,rfl,e1,e2⟩
 ·rw [hk] at h4
  simp only at h4
  split at h4
  ·rw [of_decide_eq_true h4]
  ·cases h4
 ·rcases h5 with h5 | h5
  ·rw [hb] at h5; cases h5
  ·split at h5
   ·rfl
   ·cases h5
 ·have hne : ty.fields ≠ [] := fun e => by rw [e] at hp; simp at hp
  obtain ⟨fs,rfl,hf⟩ := hfs hne
  obtain ⟨fd,i,d',e1,e2⟩ := (qBk hf).2 f p hp
  exact ⟨fs,fd,i,d',rfl,by simpa using e1,e2⟩
 ·rcases h9 with h9 | h9
  ·exact absurd (by simpa using h9) hne
  ·split at h9
   case h_2 => cases h9
   rename_i e he
   split at h9
   case h_2 => cases h9
   rename_i ie hie
   simp only [Bool.and_eq_true,Bool.or_eq_true,decide_eq_true_eq,Bool.not_eq_true'] at h9
   obtain ⟨⟨⟨g1,g2⟩,g3⟩,g4⟩ := h9
   split at g3
   case h_2 => cases g3
   rename_i z hz
   obtain ⟨e1,e2⟩ := qCt g3
   refine ⟨e,ie,z,z.cells.toList,?_,hie,g1,hz,rfl,e1,e2,g2,fun hl => ?_⟩
   ·cases d <;> simp [j1e] at he
    ·subst he; exact .inl rfl
    ·subst he; exact .inr ⟨_,rfl⟩
   ·rcases g4 with g4 | g4
    ·rw [hl] at g4; cases g4
    ·split at g4
     ·assumption
     ·cases g4
 ·rcases h6 with h6 | h6
  ·rw [hb] at h6; cases h6
  ·split at h6
   ·exact ⟨_,rfl⟩
   ·cases h6
 ·rcases h7 with h7 | h7
  ·rw [hb] at h7; cases h7
  ·split at h7
   ·exact ⟨_,rfl⟩
   ·cases h7
 ·rcases h10 with h10 | h10
  ·rw [hfl] at h10; cases h10
  ·split at h10
   case h_2 => cases h10
   simp only [Bool.and_eq_true,Bool.not_eq_true'] at h10
   obtain ⟨⟨⟨g0,g1⟩,g2⟩,g3⟩ := h10
   intro x y us ws r ok m W vs zs b hl hs1 hb r1 r2
   have he := qHm hd g1 g2 (by rw [hl,of_decide_eq_true g0]) hs1 hb r1 r2
   have hg : (eqGuard .eql t x y (.agg vs.toArray) (.agg zs.toArray)).run P W = .ok () W := by
    unfold eqGuard
    simp [g3]
   simp [hg,Go.binOp,he]
 ·rcases h11 with h11 | h11
  ·exact absurd h11 hne
  ·split at h11
   case h_2 => cases h11
   simp only [Bool.and_eq_true,decide_eq_true_eq] at h11
   obtain ⟨g1,g2⟩ := h11
   split at g2
   case h_2 => cases g2
   rename_i ie hie
   exact ⟨_,_,ie,hd,g1,hie,of_decide_eq_true g2⟩
end Go.Proofs.YtjkcmnedolfkjaaGreat.Rd
end
