/- Part 4 of the proof. -/
import Derived.Test.YticngjjdjmadgaaProg
import Derived.Laws.Tables
import Derived.Orders
import Derived.Below
import Derived.Deep.Draws
import Derived.Deep.AppendLies
import Derived.Maps.AppendAt
import Derived.OwnWalk
import Derived.Laws.BytesArg
import Derived.Laws.MakeOwn
import Derived.Laws.OwnMore
import Derived.Deep.OwnRows
import Derived.Tactics
import Derived.Lib.ConvBytes
import Derived.Laws.Slices
import Derived.WalkKit
import Derived.KernelRfl
import Derived.RowKit3
import Derived.Deep.LoopGhost
import Derived.Deep.QuietTactic
import Derived.BigQuiet
import Derived.WideLaws
import Derived.Deep.DeepCutAuto
import Derived.Deep.CutBlock
import Derived.Deep.RegionHeld3
import Derived.Laws.Rows
import Derived.Lib.AppendStr
import Derived.ArgAppend
import Derived.Laws.IdiomCopy
import Derived.RowKit
import Derived.OrdersHeld
import Derived.Laws.BitsLemmas
import Derived.Laws.Cells
import Derived.Great.BuildSlice
import Derived.Laws.CopyRow
import Derived.Test.YticngjjdjmadgaaM3
set_option linter.unusedVariables false
set_option linter.unusedSimpArgs false
section
set_option linter.unusedVariables false
namespace Go.Proofs.Yticngjjdjmadgaa.Den
open Go

inductive U where
  | v (x : Value)
  | l (xs : List Int)
  | r (k : IntKind) (n : Int)
  | agg (us : List U)
  | tup (us : List U)
  | box (us : List U)
  | own (xs : List Int)
  | fz (xs : List Int)
  | p (t o : Nat)
  | q (t : Nat)
structure Dat where
  len : List Int → Int
  add : IntKind → Int → Int → Int
  sub : IntKind → Int → Int → Int
  mul : IntKind → Int → Int → Int
  rem : IntKind → Int → Int → Int
  neg : IntKind → Int → Int
  conv : IntKind → Int → Int
  max : Int → Int → Int
  eq : Int → Int → Bool
  ne : Int → Int → Bool
  lt : Int → Int → Bool
  le : Int → Int → Bool
  nth : List Int → Int → Option Int
  zeros : Int → Int → Option (List Int)
  copy : List Int → List Int → List Int
  cpd : List Int → List Int → Int
  bor : IntKind → Int → Int → Int
def real : Dat where
  len l := l.length
  add k a b := k.wrap (a + b)
  sub k a b := k.wrap (a - b)
  mul k a b := k.wrap (a * b)
  rem _ a b := Int.tmod a b
  neg k a := k.wrap (-a)
  conv k a := k.wrap a
  max a b := if b > a then b else a
  eq a b := decide (a = b)
  ne a b := decide (¬ a = b)
  lt a b := decide (a < b)
  le a b := decide (a ≤ b)
  nth l i := if 0 ≤ i then l[i.toNat]? else none
  zeros n m := if n = m ∧ 0 ≤ n ∧ n ≤ 70368744177664 then some (List.replicate n.toNat 0) else none
  copy xs ys := ys.take xs.length ++ xs.drop ys.length
  cpd xs ys := (Nat.min ys.length xs.length : Nat)
  bor k a b := Go.bits .or k a b
def U.plain : U → Bool
  | .v _ | .l _ | .r _ _ | .agg _ | .tup _ => true
  | _ => false
def U.loc : U → Bool
  | .box _ | .own _ | .fz _ => true
  | _ => false
def cst1 : Value → U
  | .slice none 0 0 => .l []
  | x => .v x
def cst : Value → U
  | .agg vs => if vs.toList.all (·.oneCell') then .agg (vs.toList.map cst1) else .v (.agg vs)
  | x => cst1 x
def U.cells : U → Option (List U)
  | .agg us => some us
  | .l xs => some [.l xs]
  | .v x => if x.oneCell' then some [.v x] else none
  | .r k n => some [.r k n]
  | _ => none
abbrev Tbl := List (Nat × Nat)
def root (R : Tbl) (t : Nat) : Option Nat := (R.find? fun e => e.1 == t).map (·.2)
def get (a : List U) (t : Nat) : U := a[t]?.getD (.v undef)
def rv (R : Tbl) (a : List U) : Operand → U
  | .tmp t => match get a t with
    | .q s => if root R t == some s then (match get a s with | .fz xs => .l xs | _ => .q s) else .q s
    | .fz xs => .l xs
    | u => u
  | .const v => cst v
  | .global g => .v (.pointer (some ⟨g, 0, none⟩))
  | .func f => .v (.func (.func f) #[] #[])
def pv (R : Tbl) (a : List U) (x : Operand) : Option U :=
  match rv R a x with
  | .v x => some (.v x)
  | .l xs => some (.l xs)
  | .r k n => some (.r k n)
  | .agg us => some (.agg us)
  | .tup us => some (.tup us)
  | _ => none
def pvs (R : Tbl) (a : List U) : List Operand → Option (List U)
  | [] => some []
  | x :: xs => (pv R a x).bind fun u => (pvs R a xs).bind fun us => some (u :: us)
def put (a : List U) (d : Option Nat) (u : U) : Option (List U) :=
  match d with
  | none => some a
  | some d => match a[d]? with
    | some old => if old.loc then none else some (a.set d u)
    | none => none
def at_ (R : Tbl) (a : List U) : Operand → Option (Nat × Nat × List U)
  | .tmp t => match get a t with
    | .box us => some (t, 0, us)
    | .p s o => if root R t == some s then (match get a s with | .box us => some (s, o, us) | _ => none) else none
    | _ => none
  | _ => none
inductive Ty where
  | bool | row
  | int (k : IntKind)
  | struct (zero : List U) (fields : List (Nat × Nat × Bool))
  | array (n : Nat) (k : IntKind)
def Ty.size : Ty → Nat
  | .struct z _ => z.length
  | .array n _ => n
  | _ => 1
def Ty.isAgg : Ty → Bool
  | .struct _ _ | .array _ _ => true
  | _ => false
def Ty.zero : Ty → List U
  | .bool => [.v (.bool false)]
  | .row => [.l []]
  | .int k => [.v (.int k 0)]
  | .struct z _ => z
  | .array n k => List.replicate n (.v (.int k 0))
abbrev Tys := TypeId → Option Ty
def part (us : List U) (off size : Nat) (agg : Bool) : Option U :=
  if agg then (if off + size ≤ us.length then some (.agg ((us.drop off).take size)) else none) else us[off]?
def fillU (place : List (Nat × Nat × Bool)) (us : List U) : List (Nat × U) → Option (List U)
  | [] => some us
  | (i, u) :: rest => (place[i]?).bind fun (off, size, _) => (u.cells).bind fun cs =>
      if cs.length = size ∧ off + cs.length ≤ us.length then fillU place (us.take off ++ cs ++ us.drop (off + cs.length)) rest else none
def bin (D : Dat) (op : BinOp) : U → U → Option U
  | .v (.int k a), .v (.int k' b) =>
    if k = k' then
      match op with
      | .add => some (.v (.int k (D.add k a b)))
      | .sub => some (.v (.int k (D.sub k a b)))
      | .mul => some (.v (.int k (D.mul k a b)))
      | .rem => if 2 ≤ b then some (.v (.int k (D.rem k a b))) else none
      | .or => some (.v (.int k (D.bor k a b)))
      | .eql => some (.v (.bool (D.eq a b)))
      | .neq => some (.v (.bool (D.ne a b)))
      | .lss => some (.v (.bool (D.lt a b)))
      | .leq => some (.v (.bool (D.le a b)))
      | .gtr => some (.v (.bool (D.lt b a)))
      | .geq => some (.v (.bool (D.le b a)))
      | _ => none
    else none
  | .v (.bool a), .v (.bool b) =>
    match op with
    | .eql => some (.v (.bool (a == b)))
    | .neq => some (.v (.bool (!(a == b))))
    | _ => none
  | _, _ => none
def partsU (R : Tbl) (a : List U) : List (Nat × Operand) → Option (List (Nat × U))
  | [] => some []
  | (i, x) :: xs => (pv R a x).bind fun u => (partsU R a xs).bind fun us => some ((i, u) :: us)
def flat : Nat → List (Nat × U) → Option (List Int)
  | _, [] => some []
  | i, (j, .v (.int .u32 n)) :: rest => if i = j then (flat (i + 1) rest).bind fun ns => some (n :: ns) else none
  | _, _ => none
abbrev Orc := FuncId → List U → U → Prop
def mv (R : Tbl) (a : List U) (d : Option Nat) : Operand → Option U
  | .tmp t => match get a t with
    | .own _ => if d.bind (root R) = some t then some (.q t) else none
    | .q s => match rv R a (.tmp t) with
      | .l xs => some (.l xs)
      | _ => if d.bind (root R) = some s then some (.q s) else none
    | _ => pv R a (.tmp t)
  | x => pv R a x
def val (T : Tys) (D : Dat) (R : Tbl) (a : List U) (o : Oper) : Option U :=
  match o.op with
  | .move x | .assign x => mv R a o.dst x
  | .pick c x y => match rv R a c with
    | .v (.bool b) => if b then pv R a x else pv R a y
    | _ => none
  | .alloc t => (T t).map fun ty => .box ty.zero
  | .box t x => (pv R a x).bind fun u => u.cells.map .box
  | .build t parts => (partsU R a parts.toList).bind fun ps => match T t with
    | some (.struct z fs) => (fillU fs z ps).map .agg
    | _ => none
  | .buildSlice t len parts => (partsU R a parts.toList).bind fun ps => (flat 0 ps).bind fun ns =>
      match T t with
      | some .row => if ns.length = len ∧ len ≤ 1000 ∧ 0 < len then some (.l ns) else none
      | _ => none
  | .load t x => match T t with
    | some ty => match x with
      | .tmp s => match get a s with
        | .r k n => if ty.isAgg then none else some (.v (.int k n))
        | _ => (at_ R a x).bind fun (_, o, us) => part us o ty.size ty.isAgg
      | _ => none
    | none => none
  | .fieldAddr s x f => match x, T s with
    | .tmp t, some (.struct _ fs) => match fs[f]? with
      | some (off, size, _) => if size = 0 then none else
        match get a t with
        | .box _ => some (.p t off)
        | .p s' o => some (.p s' (o + off))
        | _ => none
      | none => none
    | _, _ => none
  | .binOp op t x y _ => match rv R a x, rv R a y with
    | .v (.bool b), .v (.bool b') => match T t with
      | some .bool => bin D op (.v (.bool b)) (.v (.bool b'))
      | _ => none
    | x, y => bin D op x y
  | .unOp op _ x => match op, rv R a x with
    | .not, .v (.bool b) => some (.v (.bool (!b)))
    | .neg, .v (.int k n) => some (.v (.int k (D.neg k n)))
    | _, _ => none
  | .convert s t x => match T s, T t, rv R a x with
    | some _, some (.int k), .v (.int _ n) => some (.v (.int k (D.conv k n)))
    | _, _, _ => none
  | .field t x f => match T t, rv R a x with
    | some (.struct _ fs), .agg us => match fs[f]? with
      | some (off, size, agg) => part us off size agg
      | none => none
    | _, _ => none
  | .extract x i => match rv R a x with
    | .tup us => us[i]?
    | _ => none
  | .indexAddr t x i => match T t, rv R a i with
    | some .row, .v (.int _ n) => match rv R a x with
      | .l xs => (D.nth xs n).map (.r .u32)
      | _ => none
    | some (.array m _), .v (.int _ n) => match x with
      | .tmp t => match get a t with
        | .box _ => if 0 ≤ n ∧ n < m then some (.p t n.toNat) else none
        | _ => none
      | _ => none
    | _, _ => none
  | .makeSlice t x y => match T t, rv R a x, rv R a y with
    | some .row, .v (.int _ n), .v (.int _ m) => (D.zeros n m).map .own
    | _, _, _ => none
  | .call c => match c.callee with
    | .builtin .len => match c.args.toList, c.argTypes.toList with
      | [x], t :: _ => match T t, rv R a x with
        | some .row, .l xs => some (.v (.int .i64 (D.len xs)))
        | _, _ => none
      | _, _ => none
    | .builtin .max => match c.args.toList with
      | [x, y] => match rv R a x, rv R a y with
        | .v (.int k n), .v (.int k' m) => if k = k' then some (.v (.int k (D.max n m))) else none
        | _, _ => none
      | _ => none
    | _ => none
  | _ => none
def step (T : Tys) (D : Dat) (R : Tbl) (a : List U) (o : Oper) : Option (List U) :=
  match o.op with
  | .store t x y => (at_ R a x).bind fun (s, off, us) => (pv R a y).bind fun u => u.cells.bind fun cs => match T t with
    | some ty => if off + cs.length ≤ us.length ∧ ty.size = cs.length ∧ o.dst = none then some (a.set s (.box (us.take off ++ cs ++ us.drop (off + cs.length)))) else none
    | none => none
  | .call { callee := .builtin .copy, args := args, argTypes := ts } => match args.toList, ts.toList with
    | [.tmp d, y], t :: _ => match get a d, pv R a y, T t with
      | .q s, some (.l ys), some .row => if root R d = some s then (match get a s with
        | .own xs => put (a.set s (.fz (D.copy xs ys))) o.dst (.v (.int .i64 (D.cpd xs ys)))
        | _ => none) else none
      | _, _, _ => none
    | _, _ => none
  | _ => (val T D R a o).bind fun u => put a o.dst u
def yields (ops : Array Oper) (a : List U) (j : Nat) : Option Bool :=
  match (ops[j]?).bind (·.dst) with
  | some d => match get a d with
    | .v (.bool b) => some b
    | _ => none
  | none => none
def isCall : Op → Option (FuncId × Array Operand)
  | .call { callee := .value (.func f), args := args, argTypes := _ } => some (f, args)
  | _ => none
def exec (T : Tys) (D : Dat) (C : Orc) (R : Tbl) (a : List U) (o : Oper) (k : List U → Prop) : Prop :=
  match isCall o.op with
  | some (f, args) => match pvs R a args.toList with
    | some us => ∃ u, C f us u ∧ (match put a o.dst u with
      | some a' => k a'
      | none => False)
    | none => False
  | none => match step T D R a o with
    | some a' => k a'
    | none => False
def run (T : Tys) (D : Dat) (C : Orc) (R : Tbl) (ops : Array Oper) : List Oper → List U → (List U → Prop) → Prop
  | [], a, k => k a
  | o :: rest, a, k => match o.guard with
    | none => exec T D C R a o fun a' => run T D C R ops rest a' k
    | some (j, w) => match yields ops a j with
      | some b => if b = w then exec T D C R a o fun a' => run T D C R ops rest a' k
        else (match put a o.dst (.v undef) with
          | some a' => run T D C R ops rest a' k
          | none => False)
      | none => match put a o.dst (.v undef) with
        | some a' => run T D C R ops rest a' k
        | none => False
inductive X where
  | normal | exit (id : Nat) | ret
def den (T : Tys) (D : Dat) (C : Orc) (R : Tbl) : Code → List U → (X → List U → Prop) → Prop
  | .skip, a, k => k .normal a
  | .ret, a, k => k .ret a
  | .exit id, a, k => k (.exit id) a
  | .region _ ops _, a, k => run T D C R ops ops.toList a (k .normal)
  | .seq x y, a, k => den T D C R x a fun e a' => match e with
    | .normal => den T D C R y a' k
    | e => k e a'
  | .cond c x y, a, k => match rv R a c with
    | .v (.bool b) => if b = true then den T D C R x a k else den T D C R y a k
    | _ => False
  | .block id c, a, k => den T D C R c a fun e a' => match e with
    | .exit i => if i = id then k .normal a' else k (.exit i) a'
    | e => k e a'
  | _, _, _ => False
def rootsOps (acc : Tbl) : List Oper → Tbl
  | [] => acc
  | o :: rest => match o.dst, o.op with
    | some d, .fieldAddr _ (.tmp t) _ => rootsOps ((d, (root acc t).getD t) :: acc) rest
    | some d, .makeSlice _ _ _ => rootsOps ((d, d) :: acc) rest
    | some d, .indexAddr ty (.tmp t) _ => if ty = 56 then rootsOps ((d, (root acc t).getD t) :: acc) rest else rootsOps acc rest   -- an array's type
    | some d, .move (.tmp t) | some d, .assign (.tmp t) => match root acc t with
      | some s => rootsOps ((d, s) :: acc) rest
      | none => rootsOps acc rest
    | _, _ => rootsOps acc rest
def roots (acc : Tbl) : Code → Tbl
  | .region _ ops _ => rootsOps acc ops.toList
  | .seq x y => roots (roots acc x) y
  | .cond _ x y => roots (roots acc x) y
  | .block _ c => roots acc c
  | .loop c => roots acc c
  | _ => acc
def res1 (T : Tys) (R : Tbl) (a : List U) : ResultVar → Option U
  | .tmp t => pv R a (.tmp t)
  | .cell x t => (at_ R a (.tmp x)).bind fun (_, o, us) => (T t).bind fun ty => part us o ty.size ty.isAgg
def ress (T : Tys) (R : Tbl) (a : List U) : List ResultVar → Option (List U)
  | [] => some []
  | x :: xs => (res1 T R a x).bind fun u => (ress T R a xs).bind fun us => some (u :: us)
def result (T : Tys) (R : Tbl) (fn : Func) (a : List U) : Option U :=
  (ress T R a fn.results.toList).bind fun us => match us with
    | [u] => some u
    | us => some (.tup us)
def body (T : Tys) (D : Dat) (C : Orc) (fn : Func) (us : List U) (u : U) : Prop :=
  match fn.body with
  | some c => den T D C (roots [] c) c (us ++ List.replicate (fn.ntmps - us.length) (.v undef)) fun e a => match e with
    | .exit _ => False
    | _ => result T (roots [] c) fn a = some u
  | none => False
end Go.Proofs.Yticngjjdjmadgaa.Den
end
section
set_option linter.unusedVariables false
set_option linter.unusedSimpArgs false
namespace Go.Proofs.Yticngjjdjmadgaa.Den
open Go Go.RowKit Go.Proofs.YticngjjdjmadgaaW.PrintWords

mutual
/-- the value y is, in W, what u says; what is read lies in ok -/
def Rep (ok : Nat → Prop) (W : World) : U → Value → Prop
  | .v x, y => y = x
  | .l xs, y => ∃ A c, y = .slice A xs.length c ∧ xs.length ≤ c ∧ Kd.F (Kd.int .u32) W ok A xs.length xs
  | .r k n, y => ∃ a, y = .pointer (some a) ∧ Foot (fun W => W.cell? a = some (.int k n)) W ok
  | .agg us, y => ∃ vs : List Value, y = .agg vs.toArray ∧ Reps ok W us vs ∧ ∀ v ∈ vs, v.oneCell' = true
  | .tup us, y => ∃ vs : List Value, y = .tuple vs.toArray ∧ Reps ok W us vs
  | .box _, _ => False
  | .own _, _ => False
  | .fz _, _ => False
  | .p _ _, _ => False
  | .q _, _ => False
def Reps (ok : Nat → Prop) (W : World) : List U → List Value → Prop
  | [], [] => True
  | u :: us, v :: vs => Rep ok W u v ∧ Reps ok W us vs
  | [], _ :: _ => False
  | _ :: _, [] => False
end
mutual
theorem Rep.move {ok ok' : Nat → Prop} {W W' : World} (hm : ∀ k, ok k → k < W.heap.size → W'.heap[k]? = W.heap[k]?) (ho : ∀ k, ok k → k < W.heap.size → ok' k) :
    ∀ (u : U) (v : Value), Rep ok W u v → Rep ok' W' u v
  | .v x, y, h => h
  | .l xs, y, h => by
    obtain ⟨A, c, h1, h2, h3⟩ := h
    exact ⟨A, c, h1, h2, Kd.F_mono (Kd.F_step (Kd.F_bound h3) (fun k hk hlt => hm k hk.1 hlt)) (fun k hk => ho k hk.1 hk.2)⟩
  | .r k n, y, h => by
    obtain ⟨a, h1, h3⟩ := h
    exact ⟨a, h1, Foot.mono (Foot.step (Foot.bound h3) (fun k hk hlt => hm k hk.1 hlt)) (fun k hk => ho k hk.1 hk.2)⟩
  | .agg us, y, h => by
    obtain ⟨vs, h1, h2, h3⟩ := h
    exact ⟨vs, h1, Reps.move hm ho us vs h2, h3⟩
  | .tup us, y, h => by
    obtain ⟨vs, h1, h2⟩ := h
    exact ⟨vs, h1, Reps.move hm ho us vs h2⟩
  | .box _, _, h => h.elim
  | .own _, _, h => h.elim
  | .fz _, _, h => h.elim
  | .p _ _, _, h => h.elim
  | .q _, _, h => h.elim
theorem Reps.move {ok ok' : Nat → Prop} {W W' : World} (hm : ∀ k, ok k → k < W.heap.size → W'.heap[k]? = W.heap[k]?) (ho : ∀ k, ok k → k < W.heap.size → ok' k) :
    ∀ (us : List U) (vs : List Value), Reps ok W us vs → Reps ok' W' us vs
  | [], [], h => h
  | u :: us, v :: vs, h => ⟨Rep.move hm ho u v h.1, Reps.move hm ho us vs h.2⟩
  | [], _ :: _, h => h.elim
  | _ :: _, [], h => h.elim
end
theorem Reps.len {ok : Nat → Prop} {W : World} : ∀ {us : List U} {vs : List Value}, Reps ok W us vs → us.length = vs.length
  | [], [], _ => rfl
  | _ :: us, _ :: vs, h => by simp [Reps.len h.2]
  | [], _ :: _, h => h.elim
  | _ :: _, [], h => h.elim
theorem Reps.nth {ok : Nat → Prop} {W : World} : ∀ {us : List U} {vs : List Value} {i : Nat} {u : U}, Reps ok W us vs → us[i]? = some u → ∃ v, vs[i]? = some v ∧ Rep ok W u v
  | [], [], _, _, _, h => by simp at h
  | _ :: us, v :: vs, 0, u, h, hu => ⟨v, rfl, by simp at hu; exact hu ▸ h.1⟩
  | _ :: us, _ :: vs, i + 1, u, h, hu => by
    obtain ⟨v, h1, h2⟩ := Reps.nth (i := i) h.2 (by simpa using hu)
    exact ⟨v, by simpa using h1, h2⟩
  | [], _ :: _, _, _, h, _ => h.elim
  | _ :: _, [], _, _, h, _ => h.elim
theorem Reps.take {ok : Nat → Prop} {W : World} : ∀ {us : List U} {vs : List Value} (n : Nat), Reps ok W us vs → Reps ok W (us.take n) (vs.take n)
  | _, _, 0, _ => by simp [Reps]
  | [], [], _ + 1, _ => by simp [Reps]
  | _ :: us, _ :: vs, n + 1, h => by simpa [Reps] using ⟨h.1, Reps.take n h.2⟩
  | [], _ :: _, _ + 1, h => h.elim
  | _ :: _, [], _ + 1, h => h.elim
theorem Reps.drop {ok : Nat → Prop} {W : World} : ∀ {us : List U} {vs : List Value} (n : Nat), Reps ok W us vs → Reps ok W (us.drop n) (vs.drop n)
  | _, _, 0, h => by simpa using h
  | [], [], _ + 1, _ => by simp [Reps]
  | _ :: us, _ :: vs, n + 1, h => by simpa using Reps.drop n h.2
  | [], _ :: _, _ + 1, h => h.elim
  | _ :: _, [], _ + 1, h => h.elim
theorem Reps.append {ok : Nat → Prop} {W : World} : ∀ {us us' : List U} {vs vs' : List Value}, Reps ok W us vs → Reps ok W us' vs' → Reps ok W (us ++ us') (vs ++ vs')
  | [], _, [], _, _, h => h
  | _ :: us, _, _ :: vs, _, h, h' => ⟨h.1, Reps.append h.2 h'⟩
  | [], _, _ :: _, _, h, _ => h.elim
  | _ :: _, _, [], _, h, _ => h.elim
theorem rep_nil (ok : Nat → Prop) (W : World) : Rep ok W (.l []) (.slice none 0 0) := ⟨none, 0, rfl, Nat.le_refl _, Kd.F_nil _ _ _⟩
theorem rep_cst1 (ok : Nat → Prop) (W : World) (x : Value) : Rep ok W (cst1 x) x := by
  unfold cst1
  split
  · exact rep_nil ok W
  · exact rfl
theorem reps_cst1 (ok : Nat → Prop) (W : World) : ∀ xs : List Value, Reps ok W (xs.map cst1) xs
  | [] => trivial
  | x :: xs => ⟨rep_cst1 ok W x, reps_cst1 ok W xs⟩
theorem rep_cst (ok : Nat → Prop) (W : World) (x : Value) : Rep ok W (cst x) x := by
  unfold cst
  split
  · rename_i vs
    split
    · rename_i h
      exact ⟨vs.toList, by simp, reps_cst1 ok W _, fun v hv => List.all_eq_true.1 h v hv⟩
    · exact rfl
  · exact rep_cst1 ok W x
theorem cells_one {v : Value} (h : v.oneCell' = true) : v.cells = #[v] := by cases v <;> first | rfl | (simp [Value.oneCell'] at h)
theorem rep_cells {ok : Nat → Prop} {W : World} {u : U} {y : Value} {cs : List U} (h : Rep ok W u y) (hc : u.cells = some cs) :
    ∃ vs : List Value, y.cells = vs.toArray ∧ Reps ok W cs vs ∧ ∀ v ∈ vs, v.oneCell' = true := by
  cases u with
  | v x =>
    simp only [U.cells] at hc
    split at hc
    · rename_i h1
      injection hc with hc
      subst hc
      have hy : y = x := h
      subst hy
      exact ⟨[y], by rw [cells_one h1], ⟨rfl, trivial⟩, by simpa using h1⟩
    · cases hc
  | l xs =>
    simp only [U.cells, Option.some.injEq] at hc
    subst hc
    have h' := h
    obtain ⟨A, c, rfl, _, _⟩ := h
    exact ⟨[_], rfl, ⟨h', trivial⟩, by simp [Value.oneCell']⟩
  | r k n =>
    simp only [U.cells, Option.some.injEq] at hc
    subst hc
    have h' := h
    obtain ⟨a, rfl, _⟩ := h
    exact ⟨[_], rfl, ⟨h', trivial⟩, by simp [Value.oneCell']⟩
  | agg us =>
    simp only [U.cells, Option.some.injEq] at hc
    subst hc
    obtain ⟨vs, rfl, h2, h3⟩ := h
    exact ⟨vs, rfl, h2, h3⟩
  | tup us => simp [U.cells] at hc
  | box us => exact h.elim
  | own us => exact h.elim
  | fz us => exact h.elim
  | p t o => exact h.elim
  | q t => exact h.elim
def aggD : TypeDesc → Bool
  | .struct _ => true
  | .array _ _ => true
  | _ => false
def fieldOk (P : Program) (f : Field) (x : Nat × Nat × Bool) : Prop :=
  f.offset = x.1 ∧ (∃ i, P.info? f.type = some i ∧ i.size = x.2.1) ∧ ∃ d, P.underlying f.type = some d ∧ aggD d = x.2.2
def fieldsOk (P : Program) : List Field → List (Nat × Nat × Bool) → Prop
  | [], [] => True
  | f :: fs, x :: xs => fieldOk P f x ∧ fieldsOk P fs xs
  | [], _ :: _ => False
  | _ :: _, [] => False
def Shape (P : Program) (d : TypeDesc) : Ty → Prop
  | .bool => d = .bool
  | .int k => d = .int k
  | .row => ∃ e ie, d = .slice e ∧ e = 49 ∧ P.info? e = some ie ∧ ie.size = 1 ∧ ie.bytes = 4 ∧ ie.zero = some (.int .u32 0)
  | .struct _ fs => ∃ fields : Array Field, d = .struct fields ∧ fieldsOk P fields.toList fs
  | .array n k => ∃ e ie, d = .array n e ∧ P.info? e = some ie ∧ ie.size = 1
structure TyOk (P : Program) (t : TypeId) (ty : Ty) : Prop where
  info : ∃ i z, P.info? t = some i ∧ i.size = ty.size ∧ i.zero = some z ∧ ∃ vs : List Value, z.cells = vs.toArray ∧ (∀ ok W, Reps ok W ty.zero vs) ∧ ∀ v ∈ vs, v.oneCell' = true
  shape : ∃ d, P.underlying t = some d ∧ aggD d = ty.isAgg ∧ Shape P d ty
theorem fieldsOk.nth {P : Program} : ∀ {fs : List Field} {xs : List (Nat × Nat × Bool)} {i : Nat} {x : Nat × Nat × Bool}, fieldsOk P fs xs → xs[i]? = some x → ∃ f, fs[i]? = some f ∧ fieldOk P f x
  | [], [], _, _, _, h => by simp at h
  | f :: fs, x :: xs, 0, y, h, hy => ⟨f, rfl, by simp at hy; exact hy ▸ h.1⟩
  | f :: fs, x :: xs, i + 1, y, h, hy => by
    obtain ⟨g, h1, h2⟩ := fieldsOk.nth (i := i) h.2 (by simpa using hy)
    exact ⟨g, by simpa using h1, h2⟩
  | [], _ :: _, _, _, h, _ => h.elim
  | _ :: _, [], _, _, h, _ => h.elim
theorem fieldsOk.places {P : Program} : ∀ {fs : List Field} {xs : List (Nat × Nat × Bool)}, fieldsOk P fs xs →
    fs.mapM (fun f => (P.info? f.type).map fun i => (f.offset, i.size)) = some (xs.map fun x => (x.1, x.2.1))
  | [], [], _ => rfl
  | f :: fs, x :: xs, h => by
    obtain ⟨⟨h1, ⟨i, h2, h3⟩, _⟩, h5⟩ := h
    simp [List.mapM_cons, h2, h1, h3, fieldsOk.places h5]
  | [], _ :: _, h => h.elim
  | _ :: _, [], h => h.elim
section
variable {P : Program} {W : World} {ok : Nat → Prop}
theorem run_isAgg {t : TypeId} {ty : Ty} (h : TyOk P t ty) (W : World) : (isAgg t).run P W = .ok ty.isAgg W := by
  obtain ⟨d, h1, h2, _⟩ := h.shape
  rw [← h2]
  cases d <;> simp [isAgg, run_underlying h1, aggD]
theorem run_isAgg' {t : TypeId} {d : TypeDesc} (h1 : P.underlying t = some d) (W : World) : (isAgg t).run P W = .ok (aggD d) W := by
  cases d <;> simp [isAgg, run_underlying h1, aggD]
theorem run_sizeOf {t : TypeId} {i : TypeInfo} (h : P.info? t = some i) (W : World) : (sizeOf t).run P W = .ok i.size W := by simp [sizeOf, typeInfo, h]
theorem run_sizeOk {t : TypeId} {ty : Ty} (h : TyOk P t ty) (W : World) : (sizeOf t).run P W = .ok ty.size W := by
  obtain ⟨i, z, h1, h2, _⟩ := h.info
  rw [run_sizeOf h1, h2]
theorem run_zero {t : TypeId} {i : TypeInfo} {z : Value} (h : P.info? t = some i) (hz : i.zero = some z) (W : World) : (zeroValue t).run P W = .ok z W := by simp [zeroValue, typeInfo, h, hz]
theorem run_part {t : TypeId} {us : List U} {vs : List Value} {off size : Nat} {agg : Bool} {u : U} {d : TypeDesc} {i : TypeInfo} (hr : Reps ok W us vs) (h1 : ∀ v ∈ vs, v.oneCell' = true) (hd : P.underlying t = some d) (ha : aggD d = agg)
    (hi : P.info? t = some i) (hs : i.size = size) (h : part us off size agg = some u) :
    ∃ v, (Go.part t vs.toArray off).run P W = .ok v W ∧ Rep ok W u v := by
  subst ha hs
  unfold part at h
  by_cases hA : aggD d = true
  · rw [if_pos hA] at h
    split at h
    case isFalse => cases h
    injection h with h
    subst h
    refine ⟨.agg (vs.toArray.extract off (off + i.size)), by simp [Go.part, run_isAgg' hd, hA, run_sizeOf hi], (vs.drop off).take i.size, ?_, Reps.take _ (Reps.drop _ hr), fun v hv => h1 v (List.mem_of_mem_drop (List.mem_of_mem_take hv))⟩
    rw [List.extract_toArray, List.extract_eq_take_drop]
    simp
  · rw [if_neg hA] at h
    obtain ⟨v, hv, hrep⟩ := hr.nth h
    exact ⟨v, by simp [Go.part, run_isAgg' hd, hA, hv], hrep⟩
theorem run_load {t : TypeId} {ty : Ty} {us : List U} {vs : List Value} {off g : Nat} {u : U} {te : TypeId} (ht : TyOk P t ty) (hr : Reps ok W us vs) (h1 : ∀ v ∈ vs, v.oneCell' = true) (hg : W.heap[g]? = some (.cells vs.toArray te (0, 0)))
    (h : part us off ty.size ty.isAgg = some u) :
    ∃ v, (loadVar t ⟨g, off, none⟩).run P W = .ok v W ∧ Rep ok W u v := by
  have hcell : ∀ j v, vs[j]? = some v → W.cell? ⟨g, j, none⟩ = some v := fun j v hj => by simp [World.cell?, hg, hj]
  unfold part at h
  by_cases hA : ty.isAgg = true
  · rw [if_pos hA] at h
    split at h
    case isFalse => cases h
    rename_i hl
    injection h with h
    subst h
    have hlen := hr.len
    have hl2 : ((vs.drop off).take ty.size).length = ty.size := by rw [List.length_take, List.length_drop]; omega
    have := run_loadCells_list (P := P) W ⟨g, off, none⟩ ((vs.drop off).take ty.size) (fun j v hj => by
      have hadd : (⟨g, off, none⟩ : Addr).add j = ⟨g, off + j, none⟩ := by unfold Addr.add; split <;> simp_all
      rw [hadd]
      rw [List.getElem?_take] at hj
      split at hj
      · rw [List.getElem?_drop] at hj
        exact hcell _ _ hj
      · cases hj)
    rw [hl2] at this
    refine ⟨.agg ((vs.drop off).take ty.size).toArray, ?_, _, rfl, Reps.take _ (Reps.drop _ hr), fun v hv => h1 v (List.mem_of_mem_drop (List.mem_of_mem_take hv))⟩
    simp [loadVar, run_isAgg ht, hA, run_sizeOk ht, this]
  · rw [if_neg hA] at h
    obtain ⟨v, hv, hrep⟩ := hr.nth h
    exact ⟨v, by simp [loadVar, run_isAgg ht, hA, run_load, hcell _ _ hv], hrep⟩
end
def okOf (W0 : Nat) (S : Nat → Prop) (β : Nat → Option Nat) (ω : Nat → Bool) : Nat → Prop := fun k => (S k ∨ W0 ≤ k) ∧ ∀ t, ω t = true → β t ≠ some k
def Slot (ok : Nat → Prop) (β : Nat → Option Nat) (ω : Nat → Bool) (c : Act) (W : World) (t : Nat) : U → Value → Prop
  | .box us, y => ∃ g te, ∃ vs : List Value, β t = some g ∧ ω t = true ∧ y = .pointer (some ⟨g, 0, none⟩) ∧ W.heap[g]? = some (.cells vs.toArray te (0, 0)) ∧ Reps ok W us vs ∧ ∀ v ∈ vs, v.oneCell' = true
  | .own xs, y => ∃ g, β t = some g ∧ ω t = true ∧ y = .slice (some ⟨g, 0, none⟩) xs.length xs.length ∧ W.heap[g]? = some (.cells (xs.map (Value.int .u32)).toArray 49 (0, 0)) ∧ xs.length ≤ 70368744177664
  | .fz xs, y => β t ≠ none ∧ ω t = false ∧ Rep ok W (.l xs) y
  | .p s o, y => (∃ g, β s = some g ∧ y = .pointer (some ⟨g, o, none⟩)) ∧ β t = none ∧ ω t = false
  | .q s, y => (β s ≠ none ∧ y = c.tmps.getD s undef ∧ ∃ A n m, y = .slice A n m) ∧ β t = none ∧ ω t = false
  | .v x, y => Rep ok W (.v x) y ∧ β t = none ∧ ω t = false
  | .l x, y => Rep ok W (.l x) y ∧ β t = none ∧ ω t = false
  | .r k x, y => Rep ok W (.r k x) y ∧ β t = none ∧ ω t = false
  | .agg x, y => Rep ok W (.agg x) y ∧ β t = none ∧ ω t = false
  | .tup x, y => Rep ok W (.tup x) y ∧ β t = none ∧ ω t = false
theorem Slot.free {ok : Nat → Prop} {β : Nat → Option Nat} {ω : Nat → Bool} {c : Act} {W : World} {t : Nat} {u : U} {y : Value} (h : Slot ok β ω c W t u y) (hu : u.loc = false) : β t = none ∧ ω t = false := by
  cases u <;> first | exact h.2 | (simp [U.loc] at hu)
theorem Slot.plain {ok : Nat → Prop} {β : Nat → Option Nat} {ω : Nat → Bool} {c : Act} {W : World} {t : Nat} {u : U} {y : Value} (hu : u.plain = true) : Slot ok β ω c W t u y ↔ Rep ok W u y ∧ β t = none ∧ ω t = false := by
  cases u <;> first | exact Iff.rfl | (simp [U.plain] at hu)
theorem Slot.move {ok ok' : Nat → Prop} {β β' : Nat → Option Nat} {ω ω' : Nat → Bool} {c c' : Act} {W W' : World} {t : Nat} {u : U} {y : Value}
    (hm : ∀ k, ok k → k < W.heap.size → W'.heap[k]? = W.heap[k]?) (ho : ∀ k, ok k → k < W.heap.size → ok' k) (hbt : β' t = β t) (hwt : ω' t = ω t) (hbs : ∀ s g, β s = some g → β' s = some g)
    (hbox : ∀ g, ω t = true → β t = some g → W'.heap[g]? = W.heap[g]?) (hc : ∀ s, β s ≠ none → c'.tmps.getD s undef = c.tmps.getD s undef)
    (h : Slot ok β ω c W t u y) : Slot ok' β' ω' c' W' t u y := by
  have hne : ∀ s, β s ≠ none → β' s ≠ none := fun s hs => by
    cases hq : β s with
    | none => exact absurd hq hs
    | some g => rw [hbs s g hq]; simp
  cases u with
  | box us =>
    obtain ⟨g, te, vs, h1, h2, h3, h4, h5, h6⟩ := h
    exact ⟨g, te, vs, by rw [hbt]; exact h1, by rw [hwt]; exact h2, h3, by rw [hbox g h2 h1]; exact h4, Reps.move hm ho _ _ h5, h6⟩
  | own xs =>
    obtain ⟨g, h1, h2, h3, h4, h5⟩ := h
    exact ⟨g, by rw [hbt]; exact h1, by rw [hwt]; exact h2, h3, by rw [hbox g h2 h1]; exact h4, h5⟩
  | fz xs =>
    obtain ⟨h1, h2, h3⟩ := h
    exact ⟨by rw [hbt]; exact h1, by rw [hwt]; exact h2, Rep.move hm ho _ _ h3⟩
  | p s o =>
    obtain ⟨⟨g, h1, h2⟩, h3, h4⟩ := h
    exact ⟨⟨g, hbs s g h1, h2⟩, by rw [hbt]; exact h3, by rw [hwt]; exact h4⟩
  | q s =>
    obtain ⟨⟨h1, h2, h5⟩, h3, h4⟩ := h
    exact ⟨⟨hne s h1, by rw [hc s h1]; exact h2, h5⟩, by rw [hbt]; exact h3, by rw [hwt]; exact h4⟩
  | v x => exact ⟨Rep.move hm ho _ _ h.1, by rw [hbt]; exact h.2.1, by rw [hwt]; exact h.2.2⟩
  | l x => exact ⟨Rep.move hm ho _ _ h.1, by rw [hbt]; exact h.2.1, by rw [hwt]; exact h.2.2⟩
  | r k x => exact ⟨Rep.move hm ho _ _ h.1, by rw [hbt]; exact h.2.1, by rw [hwt]; exact h.2.2⟩
  | agg x => exact ⟨Rep.move hm ho _ _ h.1, by rw [hbt]; exact h.2.1, by rw [hwt]; exact h.2.2⟩
  | tup x => exact ⟨Rep.move hm ho _ _ h.1, by rw [hbt]; exact h.2.1, by rw [hwt]; exact h.2.2⟩
structure St (W0 : World) (S : Nat → Prop) (N : Nat) (G : Nat → U → Prop) (β : Nat → Option Nat) (ω : Nat → Bool) (c : Act) (W : World) : Prop where
  defers : c.defers = []
  size : c.tmps.size = N
  slot : ∀ t u, G t u → t < N → Slot (okOf W0.heap.size S β ω) β ω c W t u (c.tmps.getD t undef)
  inj : ∀ t t' g, β t = some g → β t' = some g → t = t'
  lo : ∀ t g, β t = some g → W0.heap.size ≤ g ∧ g < W.heap.size
  below : Below W0.heap.size W0 W
section
variable {W0 : World} {S : Nat → Prop} {N : Nat} {G G' : Nat → U → Prop} {β : Nat → Option Nat} {ω : Nat → Bool} {c : Act} {W W' : World} {d : Nat} {u : U} {v : Value}
theorem put_same (hd : d < c.tmps.size) : (c.put (some d) v).tmps.getD d undef = v := by simp [Act.put, hd]
theorem put_other {t : Nat} (h : t ≠ d) : (c.put (some d) v).tmps.getD t undef = c.tmps.getD t undef := by simp [Act.put, Array.getElem?_setIfInBounds_ne (Ne.symm h)]
theorem St.put (h : St W0 S N G β ω c W) (hd : d < N) (hold : ∃ old, G d old ∧ old.loc = false)
    (hm : ∀ k, k < W.heap.size → W'.heap[k]? = W.heap[k]?) (hb : Below W.heap.size W W')
    (hnew : β d = none → ω d = false → Slot (okOf W0.heap.size S β ω) β ω (c.put (some d) v) W' d u v)
    (hG : ∀ t x, G' t x → (t ≠ d ∧ G t x) ∨ (t = d ∧ x = u)) : St W0 S N G' β ω (c.put (some d) v) W' := by
  obtain ⟨old, ho, hol⟩ := hold
  obtain ⟨hf1, hf2⟩ := (h.slot d old ho hd).free hol
  refine ⟨h.defers, by simp [Act.put, h.size], fun t x hx ht => ?_, h.inj, fun t g hg => ⟨(h.lo t g hg).1, Nat.lt_of_lt_of_le (h.lo t g hg).2 hb.size⟩, h.below.trans (hb.mono h.below.size)⟩
  rcases hG t x hx with ⟨hne, hx⟩ | ⟨rfl, rfl⟩
  · rw [put_other hne]
    refine (h.slot t x hx ht).move (fun k _ hk => hm k hk) (fun _ hk _ => hk) rfl rfl (fun _ _ hs => hs) (fun g _ hg => hm g (h.lo t g hg).2) (fun s hs => put_other fun e => ?_)
    subst e
    exact hs hf1
  · rw [put_same (by rw [h.size]; exact hd)]
    exact hnew hf1 hf2
theorem heap_alloc (W : World) (o : Obj) {k : Nat} (hk : k < W.heap.size) : (W.alloc o).heap[k]? = W.heap[k]? := Below.heap_alloc W o k hk
theorem heap_new (W : World) (o : Obj) : (W.alloc o).heap[W.heap.size]? = some o := by
  show (W.heap.push o)[W.heap.size]? = some o
  simp
theorem size_alloc (W : World) (o : Obj) : (W.alloc o).heap.size = W.heap.size + 1 := by
  show (W.heap.push o).size = _
  simp
theorem St.own (h : St W0 S N G β ω c W) (hd : d < N) (hold : ∃ old, G d old ∧ old.loc = false) {o : Obj}
    (hnew : ∀ β' ω', β' d = some W.heap.size → ω' d = true → (∀ k, okOf W0.heap.size S β ω k → k < W.heap.size → okOf W0.heap.size S β' ω' k) → Slot (okOf W0.heap.size S β' ω') β' ω' (c.put (some d) v) (W.alloc o) d u v)
    (hG : ∀ t x, G' t x → (t ≠ d ∧ G t x) ∨ (t = d ∧ x = u)) : ∃ β' ω', St W0 S N G' β' ω' (c.put (some d) v) (W.alloc o) := by
  obtain ⟨old, ho, hol⟩ := hold
  obtain ⟨hf1, hf2⟩ := (h.slot d old ho hd).free hol
  have hok : ∀ k, okOf W0.heap.size S β ω k → k < W.heap.size → okOf W0.heap.size S (fun t => if t = d then some W.heap.size else β t) (fun t => if t = d then true else ω t) k := fun k hk hlt => by
    refine ⟨hk.1, fun t ht => ?_⟩
    try dsimp only at ht ⊢
    split
    · intro e; injection e with e; omega
    · rename_i hne
      rw [if_neg hne] at ht
      exact hk.2 t ht
  refine ⟨fun t => if t = d then some W.heap.size else β t, fun t => if t = d then true else ω t, h.defers, by simp [Act.put, h.size], fun t x hx ht => ?_, fun t t' g h1 h2 => ?_, fun t g hg => ?_, h.below.alloc h.below.size o⟩
  · rcases hG t x hx with ⟨hne, hx⟩ | ⟨rfl, rfl⟩
    · rw [put_other hne]
      refine (h.slot t x hx ht).move (fun k _ hk => heap_alloc W o hk) hok (if_neg hne) (if_neg hne) (fun s g hs => ?_) (fun g _ hg => heap_alloc W o (h.lo t g hg).2) (fun s hs => put_other fun e => ?_)
      · try dsimp only
        rw [if_neg (fun e => by subst e; rw [hf1] at hs; cases hs)]
        exact hs
      · subst e
        exact hs hf1
    · rw [put_same (by rw [h.size]; exact hd)]
      exact hnew _ _ (if_pos rfl) (if_pos rfl) hok
  · try dsimp only at h1 h2
    split at h1 <;> split at h2
    · omega
    · injection h1 with h1
      have := (h.lo t' g h2).2
      omega
    · injection h2 with h2
      have := (h.lo t g h1).2
      omega
    · exact h.inj t t' g h1 h2
  · try dsimp only at hg
    split at hg
    · injection hg with hg
      subst hg
      exact ⟨h.below.size, by rw [size_alloc]; omega⟩
    · exact ⟨(h.lo t g hg).1, by have := (h.lo t g hg).2; rw [size_alloc]; omega⟩
theorem St.write (h : St W0 S N G β ω c W) {s g : Nat} {cs : Array Value} {ω' : Nat → Bool} (hs : s < N) (hg : β s = some g) (hw : ω s = true) {x : U}
    (hsame : ∀ t, t ≠ s → ω' t = ω t) (hless : ω' s = true → ω s = true)
    (hnew : (∀ k, okOf W0.heap.size S β ω k → k < W.heap.size → okOf W0.heap.size S β ω' k ∧ k ≠ g) → Slot (okOf W0.heap.size S β ω') β ω' c (W.setRow g cs) s x (c.tmps.getD s undef))
    (hG : ∀ t y, G' t y → (t ≠ s ∧ G t y) ∨ (t = s ∧ y = x)) : St W0 S N G' β ω' c (W.setRow g cs) := by
  have hok : ∀ k, okOf W0.heap.size S β ω k → k < W.heap.size → okOf W0.heap.size S β ω' k ∧ k ≠ g := fun k hk hlt => by
    refine ⟨⟨hk.1, fun t ht => ?_⟩, fun e => ?_⟩
    · by_cases hts : t = s
      · subst hts; exact hk.2 t hw
      · rw [hsame t hts] at ht; exact hk.2 t ht
    · subst e; exact hk.2 s hw hg
  refine ⟨h.defers, h.size, fun t y hy ht => ?_, h.inj, fun t g' hg' => ⟨(h.lo t g' hg').1, by simpa using (h.lo t g' hg').2⟩, ⟨h.below.os, h.below.tape, h.below.output, by simpa using h.below.size, fun k hk => ?_⟩⟩
  · rcases hG t y hy with ⟨hne, hy⟩ | ⟨rfl, rfl⟩
    · refine (h.slot t y hy ht).move (fun k hk hlt => setRow_other W g k cs (hok k hk hlt).2) (fun k hk hlt => (hok k hk hlt).1) rfl (hsame t hne) (fun _ _ hs => hs) (fun g' _ hg' => setRow_other W g g' cs fun e => ?_) (fun _ _ => rfl)
      subst e
      exact hne (h.inj t s g' hg' hg)
    · exact hnew hok
  · rw [setRow_other W g k cs (by have := (h.lo s g hg).1; omega)]
    exact h.below.block k hk
theorem St.skip (h : St W0 S N G β ω c W) (hm : ∀ k, k < W.heap.size → W'.heap[k]? = W.heap[k]?) (hb : Below W.heap.size W W') (hG : ∀ t x, G' t x → G t x) : St W0 S N G' β ω c W' :=
  ⟨h.defers, h.size, fun t x hx ht => (h.slot t x (hG t x hx) ht).move (fun k _ hk => hm k hk) (fun _ hk _ => hk) rfl rfl (fun _ _ hs => hs) (fun g _ hg => hm g (h.lo t g hg).2) (fun _ _ => rfl), h.inj, fun t g hg => ⟨(h.lo t g hg).1, Nat.lt_of_lt_of_le (h.lo t g hg).2 hb.size⟩, h.below.trans (hb.mono h.below.size)⟩
end
end Go.Proofs.Yticngjjdjmadgaa.Den
end
section
set_option linter.unusedVariables false
set_option linter.unusedSimpArgs false
namespace Go.Proofs.Yticngjjdjmadgaa.Den
open Go Go.RowKit Go.Proofs.YticngjjdjmadgaaW.PrintWords

section
variable {P : Program} {T : Tys} {R : Tbl} {a : List U} {W0 : World} {S : Nat → Prop} {N : Nat} {G : Nat → U → Prop} {β : Nat → Option Nat} {ω : Nat → Bool} {c : Act} {W : World}
def Cov1 (a : List U) (G : Nat → U → Prop) (x : Operand) : Prop := ∀ t, x = .tmp t → ∀ u, a[t]? = some u → G t u
def Cov2 (R : Tbl) (a : List U) (G : Nat → U → Prop) (x : Operand) : Prop := ∀ t, x = .tmp t → ∀ s, root R t = some s → ∀ u, a[s]? = some u → G s u
theorem eval_tmp (t : Nat) : c.eval (.tmp t) = c.tmps.getD t undef := rfl
theorem lt_of_get {t : Nat} {u : U} (hN : a.length = N) (h : a[t]? = some u) : t < N := by
  rw [← hN]; exact (List.getElem?_eq_some_iff.1 h).1
theorem slot_get (h : St W0 S N G β ω c W) (hN : a.length = N) {t : Nat} (h1 : ∀ u, a[t]? = some u → G t u) {u : U} (hu : get a t = u) :
    (a[t]? = some u ∧ t < N ∧ Slot (okOf W0.heap.size S β ω) β ω c W t u (c.tmps.getD t undef)) ∨ (u = .v undef ∧ c.tmps.getD t undef = undef) := by
  unfold get at hu
  cases hq : a[t]? with
  | none =>
    rw [hq] at hu
    have hlt : N ≤ t := by rw [← hN]; exact List.getElem?_eq_none_iff.1 hq
    refine .inr ⟨hu.symm, ?_⟩
    simp [Array.getElem?_eq_none (by rw [h.size]; exact hlt)]
  | some x =>
    rw [hq] at hu
    simp at hu
    subst hu
    have hlt := lt_of_get hN hq
    exact .inl ⟨rfl, hlt, h.slot t x (h1 x hq) hlt⟩
theorem pv_plain {x : Operand} {u : U} (h : pv R a x = some u) : u.plain = true ∧ rv R a x = u := by
  unfold pv at h
  split at h <;> first | (injection h with h; subst h; rename_i hq; exact ⟨rfl, hq⟩) | cases h
theorem pv_of {x : Operand} {u : U} (h : rv R a x = u) (hu : u.plain = true) : pv R a x = some u := by
  unfold pv
  rw [h]
  cases u <;> first | rfl | (simp [U.plain] at hu)
theorem pv_rep (h : St W0 S N G β ω c W) (hN : a.length = N) {x : Operand} (h1 : Cov1 a G x) (h2 : Cov2 R a G x) {u : U} (hp : pv R a x = some u) : Rep (okOf W0.heap.size S β ω) W u (c.eval x) := by
  obtain ⟨hpl, hr⟩ := pv_plain hp
  cases x with
  | const v => simp only [rv] at hr; subst hr; exact rep_cst _ _ _
  | global g => simp only [rv] at hr; subst hr; exact rfl
  | func f => simp only [rv] at hr; subst hr; exact rfl
  | tmp t =>
    rw [eval_tmp]
    simp only [rv] at hr
    rcases slot_get h hN (h1 t rfl) (u := get a t) rfl with ⟨ha, hlt, hs⟩ | ⟨hq, hu⟩
    · cases hg : get a t with
      | q s =>
        rw [hg] at hr hs
        simp only at hr
        split at hr
        · rename_i hroot
          have hroot := eq_of_beq hroot
          split at hr
          · rename_i xs hgs
            subst hr
            rcases slot_get h hN (h2 t rfl s hroot) (u := get a s) rfl with ⟨ha', hlt', hs'⟩ | ⟨hq', hu'⟩
            · rw [hgs] at hs'
              obtain ⟨⟨_, hy, _⟩, _, _⟩ := hs
              rw [hy]
              exact hs'.2.2
            · rw [hgs] at hq'; cases hq'
          · subst hr; simp [U.plain] at hpl
        · subst hr; simp [U.plain] at hpl
      | fz xs => rw [hg] at hr hs; simp only at hr; subst hr; exact hs.2.2
      | box us => rw [hg] at hr; simp only at hr; subst hr; simp [U.plain] at hpl
      | own us => rw [hg] at hr; simp only at hr; subst hr; simp [U.plain] at hpl
      | p s o => rw [hg] at hr; simp only at hr; subst hr; simp [U.plain] at hpl
      | v x => rw [hg] at hr hs; simp only at hr; subst hr; exact hs.1
      | l x => rw [hg] at hr hs; simp only at hr; subst hr; exact hs.1
      | r k x => rw [hg] at hr hs; simp only at hr; subst hr; exact hs.1
      | agg x => rw [hg] at hr hs; simp only at hr; subst hr; exact hs.1
      | tup x => rw [hg] at hr hs; simp only at hr; subst hr; exact hs.1
    · rw [hq] at hr; simp only at hr; subst hr; exact hu
theorem rv_v (h : St W0 S N G β ω c W) (hN : a.length = N) {x : Operand} (h1 : Cov1 a G x) (h2 : Cov2 R a G x) {y : Value} (hp : rv R a x = .v y) : c.eval x = y := pv_rep h hN h1 h2 (pv_of hp rfl)
theorem rv_l (h : St W0 S N G β ω c W) (hN : a.length = N) {x : Operand} (h1 : Cov1 a G x) (h2 : Cov2 R a G x) {xs : List Int} (hp : rv R a x = .l xs) : Rep (okOf W0.heap.size S β ω) W (.l xs) (c.eval x) := pv_rep h hN h1 h2 (pv_of hp rfl)
theorem pvs_reps (h : St W0 S N G β ω c W) (hN : a.length = N) : ∀ {xs : List Operand} {us : List U}, (∀ x ∈ xs, Cov1 a G x) → (∀ x ∈ xs, Cov2 R a G x) → pvs R a xs = some us → Reps (okOf W0.heap.size S β ω) W us (xs.map c.eval)
  | [], us, _, _, hp => by simp [pvs] at hp; subst hp; trivial
  | x :: xs, us, h1, h2, hp => by
    simp only [pvs, Option.bind_eq_some_iff] at hp
    obtain ⟨u, hu, us', hus, he⟩ := hp
    injection he with he
    subst he
    exact ⟨pv_rep h hN (h1 x (by simp)) (h2 x (by simp)) hu, pvs_reps h hN (fun y hy => h1 y (by simp [hy])) (fun y hy => h2 y (by simp [hy])) hus⟩
theorem at_spec (h : St W0 S N G β ω c W) (hN : a.length = N) {x : Operand} (h1 : Cov1 a G x) (h2 : Cov2 R a G x) {s o : Nat} {us : List U} (hp : at_ R a x = some (s, o, us)) :
    a[s]? = some (.box us) ∧ s < N ∧ G s (.box us) ∧ ∃ g te, ∃ vs : List Value, β s = some g ∧ ω s = true ∧ c.eval x = .pointer (some ⟨g, o, none⟩) ∧ W.heap[g]? = some (.cells vs.toArray te (0, 0)) ∧ Reps (okOf W0.heap.size S β ω) W us vs ∧ ∀ v ∈ vs, v.oneCell' = true := by
  cases x with
  | tmp t =>
    simp only [at_] at hp
    rcases slot_get h hN (h1 t rfl) (u := get a t) rfl with ⟨ha, hlt, hs⟩ | ⟨hq, hu⟩
    · cases hg : get a t with
      | box us' =>
        rw [hg] at hp hs ha
        simp only [Option.some.injEq, Prod.mk.injEq] at hp
        obtain ⟨rfl, rfl, rfl⟩ := hp
        obtain ⟨g, te, vs, e1, e2, e3, e4, e5, e6⟩ := hs
        exact ⟨ha, hlt, h1 _ rfl _ ha, g, te, vs, e1, e2, by rw [eval_tmp]; exact e3, e4, e5, e6⟩
      | p s' o' =>
        rw [hg] at hp hs
        simp only at hp
        split at hp
        · rename_i hroot
          have hroot := eq_of_beq hroot
          split at hp
          · rename_i us' hgs
            simp only [Option.some.injEq, Prod.mk.injEq] at hp
            obtain ⟨rfl, rfl, rfl⟩ := hp
            rcases slot_get h hN (h2 t rfl _ hroot) hgs with ⟨ha', hlt', hs'⟩ | ⟨hq', hu'⟩
            · obtain ⟨g, te, vs, e1, e2, e3, e4, e5, e6⟩ := hs'
              obtain ⟨⟨g', d1, d2⟩, _, _⟩ := hs
              rw [e1] at d1
              injection d1 with d1
              subst d1
              exact ⟨ha', hlt', h2 t rfl _ hroot _ ha', g, te, vs, e1, e2, by rw [eval_tmp]; exact d2, e4, e5, e6⟩
            · cases hq'
          · cases hp
        · cases hp
      | fz xs => rw [hg] at hp; cases hp
      | own us => rw [hg] at hp; cases hp
      | q s => rw [hg] at hp; cases hp
      | v x => rw [hg] at hp; cases hp
      | l x => rw [hg] at hp; cases hp
      | r k x => rw [hg] at hp; cases hp
      | agg x => rw [hg] at hp; cases hp
      | tup x => rw [hg] at hp; cases hp
    · rw [hq] at hp; cases hp
  | const v => simp [at_] at hp
  | global g => simp [at_] at hp
  | func f => simp [at_] at hp
def New (ok : Nat → Prop) (β : Nat → Option Nat) (c : Act) (W : World) : U → Value → World → Prop
  | .box us, v, W' => ∃ te, ∃ vs : List Value, v = .pointer (some ⟨W.heap.size, 0, none⟩) ∧ W' = W.alloc (.cells vs.toArray te (0, 0)) ∧ Reps ok W us vs ∧ ∀ v ∈ vs, v.oneCell' = true
  | .own xs, v, W' => v = .slice (some ⟨W.heap.size, 0, none⟩) xs.length xs.length ∧ W' = W.alloc (.cells (xs.map (Value.int .u32)).toArray 49 (0, 0)) ∧ xs.length ≤ 70368744177664
  | .fz _, _, _ => False
  | .p s o, v, W' => W' = W ∧ ∃ g, β s = some g ∧ v = .pointer (some ⟨g, o, none⟩)
  | .q s, v, W' => W' = W ∧ β s ≠ none ∧ v = c.tmps.getD s undef ∧ ∃ A n m, v = .slice A n m
  | .v x, v, W' => Rep ok W' (.v x) v ∧ (∀ k, k < W.heap.size → W'.heap[k]? = W.heap[k]?) ∧ Below W.heap.size W W'
  | .l x, v, W' => Rep ok W' (.l x) v ∧ (∀ k, k < W.heap.size → W'.heap[k]? = W.heap[k]?) ∧ Below W.heap.size W W'
  | .r k x, v, W' => Rep ok W' (.r k x) v ∧ (∀ k, k < W.heap.size → W'.heap[k]? = W.heap[k]?) ∧ Below W.heap.size W W'
  | .agg x, v, W' => Rep ok W' (.agg x) v ∧ (∀ k, k < W.heap.size → W'.heap[k]? = W.heap[k]?) ∧ Below W.heap.size W W'
  | .tup x, v, W' => Rep ok W' (.tup x) v ∧ (∀ k, k < W.heap.size → W'.heap[k]? = W.heap[k]?) ∧ Below W.heap.size W W'
theorem New.mk {ok : Nat → Prop} {u : U} {v : Value} {W' : World} (hu : u.plain = true) (h : Rep ok W' u v) (hm : ∀ k, k < W.heap.size → W'.heap[k]? = W.heap[k]?) (hb : Below W.heap.size W W') : New ok β c W u v W' := by
  cases u <;> first | exact ⟨h, hm, hb⟩ | (simp [U.plain] at hu)
theorem New.now {ok : Nat → Prop} {u : U} {v : Value} (hu : u.plain = true) (h : Rep ok W u v) : New ok β c W u v W := .mk hu h (fun _ _ => rfl) (Below.refl _ _)
theorem New.put {G' : Nat → U → Prop} {u : U} {v : Value} {W' : World} {d : Nat} (h : St W0 S N G β ω c W) (hn : New (okOf W0.heap.size S β ω) β c W u v W') (hd : d < N) (hold : ∃ old, G d old ∧ old.loc = false)
    (hG : ∀ t x, G' t x → (t ≠ d ∧ G t x) ∨ (t = d ∧ x = u)) : ∃ β' ω', St W0 S N G' β' ω' (c.put (some d) v) W' := by
  have hfree : β d = none := by
    obtain ⟨old, ho, hol⟩ := hold
    exact ((h.slot d old ho hd).free hol).1
  cases u with
  | box us =>
    obtain ⟨te, vs, rfl, rfl, h3, h4⟩ := hn
    exact h.own (u := .box us) hd hold (fun β' ω' h1 h2 hok => ⟨_, te, vs, h1, h2, rfl, heap_new _ _, Reps.move (fun k _ hk => heap_alloc W _ hk) hok _ _ h3, h4⟩) hG
  | own xs =>
    obtain ⟨rfl, rfl, h3⟩ := hn
    exact h.own (u := .own xs) hd hold (fun β' ω' h1 h2 hok => ⟨_, h1, h2, rfl, heap_new _ _, h3⟩) hG
  | fz xs => exact hn.elim
  | p s o =>
    obtain ⟨rfl, g, h1, h2⟩ := hn
    exact ⟨β, ω, h.put (u := .p s o) hd hold (fun _ _ => rfl) (Below.refl _ _) (fun f1 f2 => ⟨⟨g, h1, h2⟩, f1, f2⟩) hG⟩
  | q s =>
    obtain ⟨rfl, h1, h2, h5⟩ := hn
    exact ⟨β, ω, h.put (u := .q s) hd hold (fun _ _ => rfl) (Below.refl _ _) (fun f1 f2 => ⟨⟨h1, by rw [put_other (fun e => by subst e; exact h1 hfree)]; exact h2, h5⟩, f1, f2⟩) hG⟩
  | v x => exact ⟨β, ω, h.put (u := .v x) hd hold hn.2.1 hn.2.2 (fun f1 f2 => ⟨hn.1, f1, f2⟩) hG⟩
  | l x => exact ⟨β, ω, h.put (u := .l x) hd hold hn.2.1 hn.2.2 (fun f1 f2 => ⟨hn.1, f1, f2⟩) hG⟩
  | r k x => exact ⟨β, ω, h.put (u := .r k x) hd hold hn.2.1 hn.2.2 (fun f1 f2 => ⟨hn.1, f1, f2⟩) hG⟩
  | agg x => exact ⟨β, ω, h.put (u := .agg x) hd hold hn.2.1 hn.2.2 (fun f1 f2 => ⟨hn.1, f1, f2⟩) hG⟩
  | tup x => exact ⟨β, ω, h.put (u := .tup x) hd hold hn.2.1 hn.2.2 (fun f1 f2 => ⟨hn.1, f1, f2⟩) hG⟩
end
end Go.Proofs.Yticngjjdjmadgaa.Den
end
section
set_option linter.unusedVariables false
set_option linter.unusedSimpArgs false
namespace Go.Proofs.Yticngjjdjmadgaa.Den
open Go Go.RowKit Go.Proofs.YticngjjdjmadgaaW.PrintWords

theorem cell_of_C {k : IntKind} {W : World} {A : Option Addr} {n : Nat} {xs : List Int} (h : Kd.C (Kd.int k) W A n xs) {j : Nat} {x : Int} (hx : xs[j]? = some x) : ∃ ad, A = some ad ∧ W.cell? (ad.add j) = some (.int k x) := by
  have hlt := (List.getElem?_eq_some_iff.1 hx).1
  obtain ⟨ad, e, hc⟩ := h.2.2 (by rw [← h.1]; omega)
  obtain ⟨c, h1, h2, h3⟩ := hc j x hx
  refine ⟨ad, e, ?_⟩
  have hk : c = [Value.int k x] := h2
  have := h3 0 (.int k x) (by rw [hk]; rfl)
  have e1 : j * (Kd.int k).sz + 0 = j := by show j * 1 + 0 = j; omega
  rwa [e1] at this
theorem C_of_cells {k : IntKind} {W : World} {g : Nat} {xs : List Int} {te : TypeId} {fr : Nat × Nat} (hg : W.heap[g]? = some (.cells (xs.map (Value.int k)).toArray te fr)) (hl : xs.length ≤ 9223372036854775807) :
    Kd.C (Kd.int k) W (some ⟨g, 0, none⟩) xs.length xs := by
  refine ⟨rfl, hl, fun _ => ⟨_, rfl, fun j p hj => ⟨[.int k p], rfl, rfl, fun i u hi => ?_⟩⟩⟩
  cases i with
  | zero =>
    simp at hi
    subst hi
    have hadd : (⟨g, 0, none⟩ : Addr).add (j * (Kd.int k).sz + 0) = ⟨g, j, none⟩ := by
      have e1 : j * (Kd.int k).sz + 0 = j := by show j * 1 + 0 = j; omega
      rw [e1]
      unfold Addr.add
      split <;> simp_all
    rw [hadd]
    simp [World.cell?, hg, hj]
  | succ i => simp at hi
theorem F_of_cells {k : IntKind} {W : World} {ok : Nat → Prop} {g : Nat} {xs : List Int} {te : TypeId} {fr : Nat × Nat} (hg : W.heap[g]? = some (.cells (xs.map (Value.int k)).toArray te fr)) (hl : xs.length ≤ 9223372036854775807) (hok : ok g) :
    Kd.F (Kd.int k) W ok (some ⟨g, 0, none⟩) xs.length xs := fun W' hW => C_of_cells (te := te) (fr := fr) (by rw [hW g hok (Array.getElem?_eq_some_iff.1 hg).1]; exact hg) hl
theorem fill_ok {ok : Nat → Prop} {W : World} {place : Nat → Option (Nat × Nat)} {pl : List (Nat × Nat × Bool)} (hpl : ∀ i x, pl[i]? = some x → place i = some (x.1, x.2.1)) :
    ∀ {ps : List (Nat × U)} {us us' : List U} {qs : List (Nat × Value)} {vs : List Value}, fillU pl us ps = some us' → Reps ok W us vs → (∀ v ∈ vs, v.oneCell' = true) → qs.map (·.1) = ps.map (·.1) → Reps ok W (ps.map (·.2)) (qs.map (·.2)) →
      ∃ vs' : List Value, Instr.fill place vs.toArray qs = some vs'.toArray ∧ Reps ok W us' vs' ∧ ∀ v ∈ vs', v.oneCell' = true
  | [], us, us', [], vs, h, hr, h1, _, _ => by
    simp only [fillU, Option.some.injEq] at h
    subst h
    exact ⟨vs, rfl, hr, h1⟩
  | (i, u) :: ps, us, us', (j, y) :: qs, vs, h, hr, h1, he, hq => by
    simp only [List.map_cons, List.cons.injEq] at he
    obtain ⟨rfl, he⟩ := he
    obtain ⟨hu, hq⟩ := hq
    simp only [fillU, Option.bind_eq_some_iff] at h
    obtain ⟨⟨off, size, ag⟩, hp, cs, hcs, h⟩ := h
    split at h
    case isFalse => cases h
    rename_i hc
    have c1 : cs.length = size := hc.1
    have c2 : off + cs.length ≤ us.length := hc.2
    obtain ⟨ws, e1, e2, e3⟩ := rep_cells hu hcs
    have hlen := e2.len
    have hlen2 := hr.len
    have hmid : Reps ok W (us.take off ++ cs ++ us.drop (off + cs.length)) (vs.take off ++ ws ++ vs.drop (off + cs.length)) := Reps.append (Reps.append (Reps.take _ hr) e2) (Reps.drop _ hr)
    have hone : ∀ v ∈ vs.take off ++ ws ++ vs.drop (off + cs.length), v.oneCell' = true := by
      intro v hv
      simp only [List.mem_append] at hv
      rcases hv with (hv | hv) | hv
      · exact h1 v (List.mem_of_mem_take hv)
      · exact e3 v hv
      · exact h1 v (List.mem_of_mem_drop hv)
    obtain ⟨vs', f1, f2, f3⟩ := fill_ok hpl h hmid hone he hq
    refine ⟨vs', ?_, f2, f3⟩
    simp only [Instr.fill, hpl _ _ hp, e1]
    have hs : ¬ (ws.toArray.size ≠ size ∨ (decide (off + ws.toArray.size > vs.toArray.size)) = true) := by
      simp only [List.size_toArray, decide_eq_true_eq]
      omega
    rw [if_neg (by simpa using hs)]
    rw [← f1]
    congr 1
    clear f1 f2 f3 h hmid hone hs
    have key : ∀ (ws : List Value) (vs : List Value) (k : Nat), off + k + ws.length ≤ vs.length → ((ws.zipIdx k).foldl (fun (cs : Array Value) (x : Value × Nat) => cs.setIfInBounds (off + x.2) x.1) vs.toArray) = (vs.take (off + k) ++ ws ++ vs.drop (off + k + ws.length)).toArray := by
      intro ws
      induction ws with
      | nil => intro vs k _; simp
      | cons w ws ih =>
        intro vs k hk
        simp only [List.length_cons] at hk
        simp only [List.zipIdx_cons, List.foldl_cons, List.setIfInBounds_toArray]
        rw [ih (vs.set (off + k) w) (k + 1) (by simp; omega)]
        congr 1
        apply List.ext_getElem?
        intro m
        simp only [List.getElem?_append, List.length_append, List.length_take, List.getElem?_take, List.getElem?_drop, List.length_set, List.length_cons, List.getElem?_set, List.getElem?_cons]
        repeat' split
        all_goals first | rfl | omega | (exfalso; omega) | (congr 1; omega)
    have := key ws vs 0 (by omega)
    simp only [Nat.add_zero] at this
    rw [hlen, ← this, ← Array.foldl_toList, Array.toList_zipIdx]
  | [], _, _, _ :: _, _, _, _, _, he, _ => by simp at he
  | _ :: _, _, _, [], _, _, _, _, he, _ => by simp at he
section
variable {P : Program} {T : Tys} {R : Tbl} {a : List U} {W0 : World} {S : Nat → Prop} {N : Nat} {G : Nat → U → Prop} {β : Nat → Option Nat} {ω : Nat → Bool} {c : Act} {W : World}
theorem partsU_ok (h : St W0 S N G β ω c W) (hN : a.length = N) : ∀ {ps : List (Nat × Operand)} {us : List (Nat × U)}, (∀ p ∈ ps, Cov1 a G p.2) → (∀ p ∈ ps, Cov2 R a G p.2) → partsU R a ps = some us →
    (ps.map fun p => (p.1, c.eval p.2)).map (·.1) = us.map (·.1) ∧ Reps (okOf W0.heap.size S β ω) W (us.map (·.2)) ((ps.map fun p => (p.1, c.eval p.2)).map (·.2))
  | [], us, _, _, hp => by simp [partsU] at hp; subst hp; exact ⟨rfl, trivial⟩
  | (i, x) :: ps, us, h1, h2, hp => by
    simp only [partsU, Option.bind_eq_some_iff] at hp
    obtain ⟨u, hu, us', hus, he⟩ := hp
    injection he with he
    subst he
    obtain ⟨e1, e2⟩ := partsU_ok h hN (fun p hp => h1 p (by simp [hp])) (fun p hp => h2 p (by simp [hp])) hus
    exact ⟨by simpa using e1, pv_rep h hN (h1 (i, x) (by simp)) (h2 (i, x) (by simp)) hu, e2⟩
theorem flat_ok {ok : Nat → Prop} {W : World} : ∀ {ps : List (Nat × U)} {i : Nat} {ns : List Int} {qs : List (Nat × Value)}, flat i ps = some ns → qs.map (·.1) = ps.map (·.1) → Reps ok W (ps.map (·.2)) (qs.map (·.2)) → qs = ((ns.map (Value.int .u32)).zipIdx i).map fun x => (x.2, x.1)
  | [], i, ns, [], h, _, _ => by simp [flat] at h; subst h; rfl
  | (j, u) :: ps, i, ns, (j', y) :: qs, h, he, hr => by
    simp only [List.map_cons, List.cons.injEq] at he
    obtain ⟨rfl, he⟩ := he
    cases u with
    | v x =>
      cases x with
      | int k n =>
        cases k <;> simp only [flat] at h <;> try (cases h; done)
        split at h
        case isFalse => cases h
        rename_i hij
        subst hij
        obtain ⟨ns', h1, h2⟩ := Option.bind_eq_some_iff.1 h
        injection h2 with h2
        subst h2
        obtain ⟨hy, hr⟩ := hr
        have hy : y = .int .u32 n := hy
        subst hy
        rw [flat_ok h1 he hr]
        simp [List.zipIdx_cons]
      | _ => simp [flat] at h
    | _ => simp [flat] at h
  | [], _, _, _ :: _, _, he, _ => by simp at he
  | _ :: _, _, _, [], _, he, _ => by simp at he
theorem run_v {ρ : Operand → Value} {o : Oper} {s : Sem Value} {v : Value} {W W' : World} (h : execOp ρ o = (do pure (Next.value (← s)))) (hs : s.run P W = .ok v W') : (execOp ρ o).run P W = .ok (.value v) W' := by
  rw [h]
  simp [Sem.run_bind, hs]
theorem bin_ok {op : BinOp} {t : TypeId} {x y : Operand} {u v w : U} (hb : bin real op u v = some w) (p q : Value) (hp : u = .v p) (hq : v = .v q) (hbool : ∀ b, p = .bool b → P.underlying t = some .bool) (W : World) :
    ∃ z, w = .v z ∧ (do eqGuard op t x y p q; Go.binOp op t p q : Sem Value).run P W = .ok z W := by
  subst hp hq
  cases p with
  | int k m =>
    cases q with
    | int k' n =>
      simp only [bin] at hb
      split at hb
      case isFalse => cases hb
      rename_i hk
      subst hk
      cases op <;> simp only at hb <;> first
        | (injection hb with hb; subst hb; exact ⟨_, rfl, by first | (simp [eqGuard_at_int, Go.binOp, Op.intArith, Op.intCmp, Op.intBits, real]; done) | (simp [eqGuard_at_int, Go.binOp, Op.intArith, Op.intCmp, real]; rfl)⟩)
        | (split at hb
           · rename_i hn; injection hb with hb; subst hb; have hn0 : ¬ n = 0 := by omega
             exact ⟨_, rfl, by simp [eqGuard_at_int, Go.binOp, Op.intDiv, real, hn0]⟩
           · cases hb)
        | cases hb
        | (injection hb with hb; subst hb; refine ⟨_, rfl, ?_⟩; simp [eqGuard_at_int, Go.binOp, Op.intCmp, real]; rw [Bool.eq_iff_iff]; simp)
    | _ => simp [bin] at hb
  | bool b =>
    cases q with
    | bool b' =>
      have hu := hbool b rfl
      simp only [bin] at hb
      have he : (Op.equal t (.bool b) (.bool b')).run P W = .ok (b == b') W := by
        have key : ∀ d, (Op.equalIn (d + 1) t (.bool b) (.bool b')).run P W = .ok (b == b') W := fun d => by
          unfold Op.equalIn
          simp [run_underlying hu]
        exact key 9999
      cases op <;> simp only at hb <;> first
        | (injection hb with hb; subst hb; exact ⟨_, rfl, by simp [eqGuard_at_bool, Go.binOp, he, bne]⟩)
        | cases hb
    | _ => simp [bin] at hb
  | _ => simp [bin] at hb
end
end Go.Proofs.Yticngjjdjmadgaa.Den
end
section
set_option linter.unusedVariables false
set_option linter.unusedSimpArgs false
namespace Go.Proofs.Yticngjjdjmadgaa.Den
open Go Go.RowKit Go.Proofs.YticngjjdjmadgaaW.PrintWords
section
variable {P : Program} {T : Tys} {R : Tbl} {a : List U} {W0 : World} {S : Nat → Prop} {N : Nat} {G : Nat → U → Prop} {β : Nat → Option Nat} {ω : Nat → Bool} {c : Act} {W : World}
theorem add_off (g o n : Nat) : (⟨g, o, none⟩ : Addr).add n = ⟨g, o + n, none⟩ := by
  unfold Addr.add
  split <;> simp_all
theorem val_move {o : Oper} {x : Operand} {u : U} (h : St W0 S N G β ω c W) (hN : a.length = N) (h1 : Cov1 a G x) (h2 : Cov2 R a G x) (he : execOp c.eval o = pure (.value (c.eval x)))
    (hv : mv R a o.dst x = some u) : ∃ v W', (execOp c.eval o).run P W = .ok (.value v) W' ∧ New (okOf W0.heap.size S β ω) β c W u v W' := by
  refine ⟨c.eval x, W, by rw [he]; rfl, ?_⟩
  have key : pv R a x = some u → New (okOf W0.heap.size S β ω) β c W u (c.eval x) W := fun hp => .now (pv_plain hp).1 (pv_rep h hN h1 h2 hp)
  cases x with
  | tmp t =>
    simp only [mv] at hv
    split at hv
    · rename_i xs hg
      split at hv
      case isFalse => cases hv
      injection hv with hv
      subst hv
      rcases slot_get h hN (h1 t rfl) hg with ⟨_, _, g, e1, _, e3, _⟩ | ⟨hq, _⟩
      · exact ⟨rfl, by rw [e1]; simp, rfl, _, _, _, by rw [eval_tmp]; exact e3⟩
      · cases hq
    · rename_i s hg
      split at hv
      · rename_i xs hr
        injection hv with hv
        subst hv
        exact key (pv_of hr rfl)
      · split at hv
        case isFalse => cases hv
        injection hv with hv
        subst hv
        rcases slot_get h hN (h1 t rfl) hg with ⟨_, _, ⟨e1, e2, e3⟩, _⟩ | ⟨hq, _⟩
        · exact ⟨rfl, e1, e2, e3⟩
        · cases hq
    · exact key hv
  | const v => exact key hv
  | global g => exact key hv
  | func f => exact key hv
set_option maxHeartbeats 4000000 in
theorem val_run {o : Oper} {u : U} (hT : ∀ t ty, T t = some ty → TyOk P t ty) (h : St W0 S N G β ω c W) (hN : a.length = N) (H1 : ∀ x ∈ o.op.operands.toList, Cov1 a G x)
    (H2 : (∀ s x f, o.op ≠ .fieldAddr s x f) → ∀ x ∈ o.op.operands.toList, Cov2 R a G x) (hv : val T real R a o = some u) :
    ∃ v W', (execOp c.eval o).run P W = .ok (.value v) W' ∧ New (okOf W0.heap.size S β ω) β c W u v W' := by
  cases ho : o.op with
  | move x =>
    rw [ho] at H1 H2
    simp only [val, ho] at hv
    exact val_move h hN (H1 x (by simp [Op.operands])) (H2 (by simp) x (by simp [Op.operands])) (by simp [execOp, ho]) hv
  | assign x =>
    rw [ho] at H1 H2
    simp only [val, ho] at hv
    exact val_move h hN (H1 x (by simp [Op.operands])) (H2 (by simp) x (by simp [Op.operands])) (by simp [execOp, ho]) hv
  | pick b x y =>
    rw [ho] at H1 H2
    simp only [val, ho] at hv
    split at hv
    case h_2 => cases hv
    rename_i t hb
    have eb := rv_v h hN (H1 b (by simp [Op.operands])) (H2 (by simp) b (by simp [Op.operands])) hb
    cases t
    · exact ⟨c.eval y, W, by simp [execOp, ho, eb, asBool], .now (pv_plain hv).1 (pv_rep h hN (H1 y (by simp [Op.operands])) (H2 (by simp) y (by simp [Op.operands])) hv)⟩
    · exact ⟨c.eval x, W, by simp [execOp, ho, eb, asBool], .now (pv_plain hv).1 (pv_rep h hN (H1 x (by simp [Op.operands])) (H2 (by simp) x (by simp [Op.operands])) hv)⟩
  | alloc t =>
    simp only [val, ho, Option.map_eq_some_iff] at hv
    obtain ⟨ty, ht, rfl⟩ := hv
    obtain ⟨i, z, h1, h2, h3, vs, h4, h5, h6⟩ := (hT t ty ht).info
    exact ⟨_, _, run_v (s := Instr.alloc t true (.tuple #[])) (by simp [execOp, ho]) (by simp [Instr.alloc, run_zero h1 h3, newVar, newRow, h4]), t, vs, rfl, rfl, h5 _ _, h6⟩
  | box t x =>
    rw [ho] at H1 H2
    simp only [val, ho, Option.bind_eq_some_iff, Option.map_eq_some_iff] at hv
    obtain ⟨u', hu, cs, hcs, rfl⟩ := hv
    obtain ⟨vs, e1, e2, e3⟩ := rep_cells (pv_rep h hN (H1 x (by simp [Op.operands])) (H2 (by simp) x (by simp [Op.operands])) hu) hcs
    exact ⟨_, _, run_v (s := Instr.box t (c.eval x)) (by simp [execOp, ho]) (by simp [Instr.box, newVar, newRow, e1]), t, vs, rfl, rfl, e2, e3⟩
  | build t parts =>
    rw [ho] at H1 H2
    simp only [val, ho, Option.bind_eq_some_iff] at hv
    obtain ⟨ps, hps, hv⟩ := hv
    split at hv
    case h_2 => cases hv
    rename_i z fs ht
    simp only [Option.map_eq_some_iff] at hv
    obtain ⟨us, hf, rfl⟩ := hv
    have hmem : ∀ p ∈ parts.toList, p.2 ∈ (Op.build t parts).operands.toList := fun p hp => by
      simp only [Op.operands, List.toList_toArray, List.mem_map]
      exact ⟨p, hp, rfl⟩
    obtain ⟨e1, e2⟩ := partsU_ok h hN (fun p hp => H1 p.2 (hmem p hp)) (fun p hp => H2 (by simp) p.2 (hmem p hp)) hps
    obtain ⟨i, z', h1, h2, h3, vs, h4, h5, h6⟩ := (hT t _ ht).info
    obtain ⟨d, g1, g2, fields, rfl, g3⟩ := (hT t _ ht).shape
    have hpl := g3.places
    obtain ⟨vs', f1, f2, f3⟩ := fill_ok (place := ((fs.map fun x => (x.1, x.2.1)).toArray[·]?)) (by intro i x hx; simp [hx]) hf (h5 (okOf W0.heap.size S β ω) W) h6 e1 e2
    refine ⟨_, _, run_v (s := Instr.build t (parts.map fun (i, x) => (i, c.eval x))) (by simp [execOp, ho]) (run_build W t _ vs'.toArray ?_), .now rfl ⟨vs', rfl, f2, f3⟩⟩
    unfold Program.built
    rw [h1, g1]
    simp only [h3, hpl, h4]
    rw [← f1]
    congr 1
    simp
  | buildSlice t len parts =>
    rw [ho] at H1 H2
    simp only [val, ho, Option.bind_eq_some_iff] at hv
    obtain ⟨ps, hps, ns, hns, hv⟩ := hv
    split at hv
    case h_2 => cases hv
    rename_i ht
    split at hv
    case isFalse => cases hv
    rename_i hc
    obtain ⟨c1, c2, c3⟩ := hc
    injection hv with hv
    subst hv
    have hmem : ∀ p ∈ parts.toList, p.2 ∈ (Op.buildSlice t len parts).operands.toList := fun p hp => by
      simp only [Op.operands, List.toList_toArray, List.mem_map]
      exact ⟨p, hp, rfl⟩
    obtain ⟨e1, e2⟩ := partsU_ok h hN (fun p hp => H1 p.2 (hmem p hp)) (fun p hp => H2 (by simp) p.2 (hmem p hp)) hps
    obtain ⟨d, g1, g2, e, ie, rfl, rfl, g3, g4, g5, g6⟩ := (hT t _ ht).shape
    have hq := flat_ok hns e1 e2
    have hrun := run_buildSlice (P := P) W t 49 len (parts.map fun (i, x) => (i, c.eval x)) (ns.map (Value.int .u32)).toArray ie (.int .u32 0) g1 g3 g6 (by rw [g4]; omega) (by rw [g4]; omega) (by
      rw [g4, Array.toList_map]
      have := hq
      simp only at this ⊢
      rw [show (List.map (fun (x : Nat × Operand) => match x with | (i, x) => (i, c.eval x)) parts.toList) = (parts.toList.map fun p => (p.1, c.eval p.2)) from rfl, this]
      exact Great.fill_flat _ _ (fun v hv => by obtain ⟨n, _, rfl⟩ := List.mem_map.1 hv; rfl) (by simp [c1]))
    refine ⟨_, _, run_v (s := Instr.buildSlice t len (parts.map fun (i, x) => (i, c.eval x))) (by simp [execOp, ho]) hrun, .mk rfl ?_ (fun k hk => heap_alloc W _ hk) ((Below.refl _ _).alloc (Nat.le_refl _) _)⟩
    refine ⟨some ⟨W.heap.size, 0, none⟩, len, by rw [c1], by omega, F_of_cells (heap_new _ _) (by omega) ⟨.inr h.below.size, fun t ht e => ?_⟩⟩
    have := (h.lo t _ e).2
    omega
  | load t x =>
    rw [ho] at H1 H2
    simp only [val, ho] at hv
    split at hv
    case h_2 => cases hv
    rename_i ty ht
    split at hv
    case h_2 => cases hv
    rename_i s
    have k1 := H1 (.tmp s) (by simp [Op.operands])
    have k2 := H2 (by simp) (.tmp s) (by simp [Op.operands])
    split at hv
    · rename_i k n hg
      split at hv
      case isTrue => cases hv
      rename_i hA
      injection hv with hv
      subst hv
      rcases slot_get h hN (k1 s rfl) hg with ⟨_, _, ⟨ad, e1, e2⟩, _⟩ | ⟨hq, _⟩
      · refine ⟨.int k n, W, run_v (s := Instr.loadAt t (c.eval (.tmp s))) (by simp [execOp, ho]) ?_, .now rfl rfl⟩
        have e2' : W.cell? ad = some (.int k n) := e2 W (fun _ _ _ => rfl)
        rw [eval_tmp, e1]
        simp [Instr.loadAt, Instr.sureAddr, loadVar, run_isAgg (hT t ty ht), hA, Go.run_load, e2']
      · cases hq
    · simp only [Option.bind_eq_some_iff] at hv
      obtain ⟨⟨s', o', us⟩, hat, hp⟩ := hv
      obtain ⟨_, _, _, g, te, vs, e1, e2, e3, e4, e5, e6⟩ := at_spec h hN k1 k2 hat
      obtain ⟨v, f1, f2⟩ := run_load (hT t ty ht) e5 e6 e4 hp
      have hpl : u.plain = true := by
        unfold part at hp
        split at hp
        · split at hp
          · injection hp with hp; subst hp; rfl
          · cases hp
        · cases u <;> first | rfl | exact f2.elim
      exact ⟨v, W, run_v (s := Instr.loadAt t (c.eval (.tmp s))) (by simp [execOp, ho]) (by rw [e3]; simp [Instr.loadAt, Instr.sureAddr, f1]), .now hpl f2⟩
  | fieldAddr s x f =>
    rw [ho] at H1
    simp only [val, ho] at hv
    split at hv
    case h_2 => cases hv
    rename_i t z fs ht
    have k1 := H1 (.tmp t) (by simp [Op.operands])
    split at hv
    case h_2 => cases hv
    rename_i off size ag hfs
    split at hv
    case isTrue => cases hv
    rename_i hsz
    obtain ⟨d, g1, g2, fields, rfl, g3⟩ := (hT s _ ht).shape
    obtain ⟨fd, hfd, q1, ⟨i, q2, q3⟩, q4⟩ := g3.nth hfs
    have hfd' : fields[f]? = some fd := by simpa using hfd
    simp only at q1 q3
    have hrun : ∀ g o', (Instr.fieldAt s (.pointer (some ⟨g, o', none⟩)) f).run P W = .ok (.pointer (some ⟨g, o' + off, none⟩)) W := fun g o' => by
      simp [Instr.fieldAt, run_underlying g1, hfd', Instr.sureAddr, fieldPlace, run_sizeOf q2, q3, hsz, q1, add_off]
    split at hv
    · rename_i us hg
      injection hv with hv
      subst hv
      rcases slot_get h hN (k1 t rfl) hg with ⟨_, _, g, te, vs, e1, e2, e3, _⟩ | ⟨hq, _⟩
      · exact ⟨_, W, run_v (s := Instr.fieldAt s (c.eval (.tmp t)) f) (by simp [execOp, ho]) (by rw [eval_tmp, e3]; exact hrun _ _), rfl, g, e1, by simp⟩
      · cases hq
    · rename_i s' o' hg
      injection hv with hv
      subst hv
      rcases slot_get h hN (k1 t rfl) hg with ⟨_, _, ⟨g, e1, e3⟩, _⟩ | ⟨hq, _⟩
      · exact ⟨_, W, run_v (s := Instr.fieldAt s (c.eval (.tmp t)) f) (by simp [execOp, ho]) (by rw [eval_tmp, e3]; exact hrun _ _), rfl, g, e1, rfl⟩
      · cases hq
    · cases hv
  | binOp op t x y ty =>
    rw [ho] at H1 H2
    simp only [val, ho] at hv
    have kx1 := H1 x (by simp [Op.operands])
    have kx2 := H2 (by simp) x (by simp [Op.operands])
    have ky1 := H1 y (by simp [Op.operands])
    have ky2 := H2 (by simp) y (by simp [Op.operands])
    have fin : ∀ (p q : Value), rv R a x = .v p → rv R a y = .v q → (∀ b, p = .bool b → P.underlying t = some .bool) → bin real op (.v p) (.v q) = some u → ∃ v W', (execOp c.eval o).run P W = .ok (.value v) W' ∧ New (okOf W0.heap.size S β ω) β c W u v W' := by
      intro p q hp hq hbool hb
      obtain ⟨z, rfl, hz⟩ := bin_ok (x := x) (y := y) hb p q rfl rfl hbool W
      refine ⟨z, W, run_v (s := do eqGuard op t x y (c.eval x) (c.eval y); Go.binOp op t (c.eval x) (c.eval y)) (by simp [execOp, ho]) ?_, .now rfl rfl⟩
      rw [rv_v h hN kx1 kx2 hp, rv_v h hN ky1 ky2 hq]
      exact hz
    split at hv
    · rename_i b b' hx hy
      split at hv
      case h_2 => cases hv
      rename_i ht
      obtain ⟨d, g1, g2, g3⟩ := (hT t _ ht).shape
      exact fin _ _ hx hy (fun _ _ => by rw [g1, show d = .bool from g3]) hv
    · rename_i hno
      have hb := hv
      cases hx : rv R a x with
      | v p =>
        cases hy : rv R a y with
        | v q =>
          rw [hx, hy] at hb
          refine fin p q hx hy (fun b hp => ?_) hb
          subst hp
          cases q with
          | bool b' => exact absurd hy (hno b b' hx)
          | _ => simp [bin] at hb
        | _ => rw [hx, hy] at hb; cases p <;> simp [bin] at hb
      | _ => rw [hx] at hb; simp [bin] at hb
  | unOp op t x =>
    rw [ho] at H1 H2
    simp only [val, ho] at hv
    have kx1 := H1 x (by simp [Op.operands])
    have kx2 := H2 (by simp) x (by simp [Op.operands])
    split at hv
    · rename_i b hx
      injection hv with hv
      subst hv
      exact ⟨.bool (!b), W, run_v (s := Op.unary .not (c.eval x)) (by simp [execOp, ho]) (by rw [rv_v h hN kx1 kx2 hx]; simp [Op.unary]), .now rfl rfl⟩
    · rename_i k n hx
      injection hv with hv
      subst hv
      exact ⟨.int k (k.wrap (-n)), W, run_v (s := Op.unary .neg (c.eval x)) (by simp [execOp, ho]) (by rw [rv_v h hN kx1 kx2 hx]; simp [Op.unary, Op.intArith]), .now rfl rfl⟩
    · cases hv
  | convert s t x =>
    rw [ho] at H1 H2
    simp only [val, ho] at hv
    have kx1 := H1 x (by simp [Op.operands])
    have kx2 := H2 (by simp) x (by simp [Op.operands])
    split at hv
    case h_2 => cases hv
    rename_i ts k k' n hs ht hx
    injection hv with hv
    subst hv
    obtain ⟨d, g1, _⟩ := (hT s _ hs).shape
    obtain ⟨d', g1', _, g3'⟩ := (hT t _ ht).shape
    have g3' : d' = .int k := g3'
    subst g3'
    exact ⟨.int k (k.wrap n), W, run_v (s := Go.convert s t (c.eval x)) (by simp [execOp, ho]) (by rw [rv_v h hN kx1 kx2 hx]; simp [Go.convert, run_underlying g1, run_underlying g1', Conv.intToInt]), .now rfl rfl⟩
  | field t x f =>
    rw [ho] at H1 H2
    simp only [val, ho] at hv
    split at hv
    case h_2 => cases hv
    rename_i z fs us ht hx
    split at hv
    case h_2 => cases hv
    rename_i off size ag hfs
    obtain ⟨d, g1, g2, fields, rfl, g3⟩ := (hT t _ ht).shape
    obtain ⟨fd, hfd, q1, ⟨i, q2, q3⟩, d', q4, q5⟩ := g3.nth hfs
    have hfd' : fields[f]? = some fd := by simpa using hfd
    simp only at q1 q3 q5
    obtain ⟨vs, e1, e2, e3⟩ := pv_rep h hN (H1 x (by simp [Op.operands])) (H2 (by simp) x (by simp [Op.operands])) (pv_of hx rfl)
    obtain ⟨v, f1, f2⟩ := run_part e2 e3 q4 q5 q2 q3 hv
    have hpl : u.plain = true := by
      unfold part at hv
      split at hv
      · split at hv
        · injection hv with hv; subst hv; rfl
        · cases hv
      · cases u <;> first | rfl | exact f2.elim
    exact ⟨v, W, run_v (s := Instr.field t (c.eval x) f) (by simp [execOp, ho]) (by rw [e1]; simp [Instr.field, run_underlying g1, hfd', asAgg, q1, f1]), .now hpl f2⟩
  | extract x i =>
    rw [ho] at H1 H2
    simp only [val, ho] at hv
    split at hv
    case h_2 => cases hv
    rename_i us hx
    obtain ⟨vs, e1, e2⟩ := pv_rep h hN (H1 x (by simp [Op.operands])) (H2 (by simp) x (by simp [Op.operands])) (pv_of hx rfl)
    obtain ⟨v, f1, f2⟩ := e2.nth hv
    have hpl : u.plain = true := by cases u <;> first | rfl | exact f2.elim
    exact ⟨v, W, run_v (s := Instr.extract (c.eval x) i) (by simp [execOp, ho]) (by rw [e1]; simp [Instr.extract, f1]), .now hpl f2⟩
  | indexAddr t x i =>
    rw [ho] at H1 H2
    simp only [val, ho] at hv
    have ki1 := H1 i (by simp [Op.operands])
    have ki2 := H2 (by simp) i (by simp [Op.operands])
    split at hv
    · rename_i k n ht hi
      split at hv
      case h_2 => cases hv
      rename_i xs hx
      simp only [real, Option.map_eq_some_iff] at hv
      obtain ⟨m, hm, rfl⟩ := hv
      split at hm
      case isFalse => cases hm
      rename_i h0
      obtain ⟨d, g1, g2, e, ie, rfl, rfl, g3, g4, g5, g6⟩ := (hT t _ ht).shape
      obtain ⟨A, cc, e1, e2, e3⟩ := rv_l h hN (H1 x (by simp [Op.operands])) (H2 (by simp) x (by simp [Op.operands])) hx
      obtain ⟨ad, rfl, e5⟩ := cell_of_C (Kd.F_now e3) hm
      have hlt := (List.getElem?_eq_some_iff.1 hm).1
      refine ⟨.pointer (some (ad.add n.toNat)), W, run_v (s := Instr.indexAt t (c.eval x) (c.eval i)) (by simp [execOp, ho]) ?_, .now rfl ⟨_, rfl, fun W' hW => ?_⟩⟩
      · rw [rv_v h hN ki1 ki2 hi, e1]
        simp [Instr.indexAt, run_underlying g1, asIntOf, run_sizeOf g3, g4, h0, show n < xs.length by omega]
      · obtain ⟨ad', e6, e7⟩ := cell_of_C (e3 W' hW) hm
        injection e6 with e6
        subst e6
        exact e7
    · rename_i m k k' n ht hi
      split at hv
      case h_2 => cases hv
      rename_i s
      split at hv
      case h_2 => cases hv
      rename_i us hg
      split at hv
      case isFalse => cases hv
      rename_i hlt
      injection hv with hv
      subst hv
      obtain ⟨d, g1, g2, e, ie, rfl, g3, g4⟩ := (hT t _ ht).shape
      rcases slot_get h hN (H1 (.tmp s) (by simp [Op.operands]) s rfl) hg with ⟨_, _, g, te, vs, e1, e2, e3, _⟩ | ⟨hq, _⟩
      · refine ⟨_, W, run_v (s := Instr.indexAt t (c.eval (.tmp s)) (c.eval i)) (by simp [execOp, ho]) ?_, rfl, g, e1, rfl⟩
        rw [rv_v h hN ki1 ki2 hi, eval_tmp, e3]
        simp [Instr.indexAt, run_underlying g1, asIntOf, run_sizeOf g3, g4, hlt, Instr.sureAddr, add_off]
      · cases hq
    · cases hv
  | makeSlice t x y =>
    rw [ho] at H1 H2
    simp only [val, ho] at hv
    split at hv
    case h_2 => cases hv
    rename_i k n k' m ht hx hy
    simp only [real, Option.map_eq_some_iff] at hv
    obtain ⟨zs, hz, rfl⟩ := hv
    split at hz
    case isFalse => cases hz
    rename_i hc
    obtain ⟨rfl, h0, hle⟩ := hc
    injection hz with hz
    subst hz
    obtain ⟨d, g1, g2, e, ie, rfl, rfl, g3, g4, g5, g6⟩ := (hT t _ ht).shape
    have hrun := run_make (P := P) W t 49 ie (.int .u32 0) g1 g3 g6 k k' n n h0 (Int.le_refl _) (by rw [g5]; omega) (by omega)
    refine ⟨_, _, run_v (s := Instr.makeSlice t (c.eval x) (c.eval y)) (by simp [execOp, ho]) (by rw [rv_v h hN (H1 x (by simp [Op.operands])) (H2 (by simp) x (by simp [Op.operands])) hx, rv_v h hN (H1 y (by simp [Op.operands])) (H2 (by simp) y (by simp [Op.operands])) hy]; exact hrun), ?_, ?_, by simp; omega⟩
    · simp
    · congr 2
      rw [g4, Nat.mul_one]
      have := toList_madeCells_one (.int .u32 0) n.toNat
      show madeCells #[.int .u32 0] n.toNat = _
      apply Array.toList_inj.1
      rw [this]
      simp
  | call cl =>
    rw [ho] at H1 H2
    simp only [val, ho] at hv
    split at hv
    · rename_i hcal
      have hops : ∀ x ∈ cl.args.toList, x ∈ (Op.call cl).operands.toList := fun x hx => by simp [Op.operands, Call.operands, hcal]; simpa using hx
      split at hv
      case h_2 => cases hv
      rename_i x t rest hargs hts
      split at hv
      case h_2 => cases hv
      rename_i xs ht hx
      injection hv with hv
      subst hv
      have hm : x ∈ cl.args.toList := by rw [hargs]; simp
      obtain ⟨A, cc, e1, e2, e3⟩ := rv_l h hN (H1 x (hops x hm)) (H2 (by simp) x (hops x hm)) hx
      obtain ⟨d, g1, g2, e, ie, rfl, rfl, g3, g4, g5, g6⟩ := (hT t _ ht).shape
      have ha : cl.args = #[x] := Array.toList_inj.1 (by rw [hargs])
      refine ⟨goInt xs.length, W, ?_, .now rfl rfl⟩
      have h0 : cl.argTypes[0]? = some t := by rw [← Array.getElem?_toList, hts]; rfl
      simp [execOp, ho, resolve, hcal, invoke, Go.builtin, ha, Builtin.len_, h0, run_underlying g1, e1]
    · rename_i hcal
      have hops : ∀ x ∈ cl.args.toList, x ∈ (Op.call cl).operands.toList := fun x hx => by simp [Op.operands, Call.operands, hcal]; simpa using hx
      split at hv
      case h_2 => cases hv
      rename_i x y hargs
      split at hv
      case h_2 => cases hv
      rename_i k n k' m hx hy
      split at hv
      case isFalse => cases hv
      rename_i hk
      subst hk
      injection hv with hv
      subst hv
      have hmx : x ∈ cl.args.toList := by rw [hargs]; simp
      have hmy : y ∈ cl.args.toList := by rw [hargs]; simp
      have ha : cl.args = #[x, y] := Array.toList_inj.1 (by rw [hargs])
      refine ⟨.int k (if m > n then m else n), W, ?_, .now rfl rfl⟩
      have ex := rv_v h hN (H1 x (hops x hmx)) (H2 (by simp) x (hops x hmx)) hx
      have ey := rv_v h hN (H1 y (hops y hmy)) (H2 (by simp) y (hops y hmy)) hy
      simp [execOp, ho, resolve, hcal, invoke, Go.builtin, ha, Builtin.max_, Builtin.max2, ex, ey]
    · cases hv
  | _ => simp [val, ho] at hv
end
end Go.Proofs.Yticngjjdjmadgaa.Den
end
section
set_option linter.unusedVariables false
set_option linter.unusedSimpArgs false
namespace Go.Proofs.Yticngjjdjmadgaa.Den
open Go Go.RowKit Go.Proofs.YticngjjdjmadgaaW.PrintWords
def SoundF (P : Program) (f : FuncId) (R : List U → U → Prop) : Prop := ∀ us u, R us u →
  (∃ fn b, P.funcs[f]? = some fn ∧ (fn.name == "runtime.NumGoroutine") = false ∧ fn.body = some b) ∧
  ∀ (W : World) (S : Nat → Prop) (cs : List Value), Reps S W us cs → Calls P f cs.toArray W fun e W' => ∃ v, e = .returned v ∧ Rep (fun k => S k ∨ W.heap.size ≤ k) W' u v ∧ Below W.heap.size W W'
def tmpsIn (xs : List Operand) : List Nat := xs.filterMap fun x => match x with | .tmp t => some t | _ => none
def isFA : Op → Bool
  | .fieldAddr _ _ _ => true
  | _ => false
def gds (ops : Array Oper) (o : Oper) : List Nat := match o.guard with
  | some (j, _) => ((ops[j]?).bind (·.dst)).toList
  | none => []
def rds (R : Tbl) (ops : Array Oper) (o : Oper) : List Nat := tmpsIn o.op.operands.toList ++ (if isFA o.op then [] else (tmpsIn o.op.operands.toList).filterMap (root R)) ++ gds ops o
def wrm (R : Tbl) : Op → List Nat
  | .store _ (.tmp x) _ => x :: (root R x).toList
  | .call { callee := .builtin .copy, args := args, argTypes := _ } => match args.toList with
    | .tmp d :: _ => (root R d).toList
    | _ => []
  | _ => []
def wrs (R : Tbl) (o : Oper) : List Nat := o.dst.toList ++ wrm R o.op
theorem mem_tmpsIn {xs : List Operand} {t : Nat} (h : Operand.tmp t ∈ xs) : t ∈ tmpsIn xs := List.mem_filterMap.2 ⟨_, h, rfl⟩
section
variable {P : Program} {T : Tys} {C : Orc} {R : Tbl} {a a' : List U} {ops : Array Oper} {W0 : World} {S : Nat → Prop} {N : Nat} {G G' : Nat → U → Prop} {β : Nat → Option Nat} {ω : Nat → Bool} {c : Act} {W W' : World} {o : Oper}
theorem St.imp (h : St W0 S N G β ω c W) (hG : ∀ t x, G' t x → G t x) : St W0 S N G' β ω c W := h.skip (fun _ _ => rfl) (Below.refl _ _) hG
theorem New.grow {ok : Nat → Prop} {u : U} {v : Value} (h : New ok β c W u v W') : (∀ k, k < W.heap.size → W'.heap[k]? = W.heap[k]?) ∧ Below W.heap.size W W' := by
  cases u with
  | box us => obtain ⟨te, vs, _, rfl, _⟩ := h; exact ⟨fun k hk => heap_alloc W _ hk, (Below.refl _ _).alloc (Nat.le_refl _) _⟩
  | own xs => obtain ⟨_, rfl, _⟩ := h; exact ⟨fun k hk => heap_alloc W _ hk, (Below.refl _ _).alloc (Nat.le_refl _) _⟩
  | fz xs => exact h.elim
  | p s o => obtain ⟨rfl, _⟩ := h; exact ⟨fun _ _ => rfl, Below.refl _ _⟩
  | q s => obtain ⟨rfl, _⟩ := h; exact ⟨fun _ _ => rfl, Below.refl _ _⟩
  | v x => exact h.2
  | l x => exact h.2
  | r k x => exact h.2
  | agg x => exact h.2
  | tup x => exact h.2
def Post (R : Tbl) (o : Oper) (a' : List U) (G : Nat → U → Prop) : Nat → U → Prop := fun t u => (t ∉ wrs R o ∧ G t u) ∨ (t ∈ wrs R o ∧ a'[t]? = some u)
theorem put_eq {d : Option Nat} {u : U} (h : put a d u = some a') : (d = none ∧ a' = a) ∨ ∃ t old, d = some t ∧ a[t]? = some old ∧ old.loc = false ∧ a' = a.set t u := by
  unfold put at h
  cases d with
  | none => injection h with h; exact .inl ⟨rfl, h.symm⟩
  | some t =>
    simp only at h
    cases hq : a[t]? with
    | none => simp [hq] at h
    | some old =>
      simp only [hq] at h
      split at h
      · cases h
      · rename_i hl
        injection h with h
        exact .inr ⟨t, old, rfl, hq, by simpa using hl, h.symm⟩
theorem New.post {u : U} {v : Value} (h : St W0 S N G β ω c W) (hN : a.length = N) (HG : ∀ t, t ∈ wrs R o → ∀ u, a[t]? = some u → G t u) (hn : New (okOf W0.heap.size S β ω) β c W u v W') (hp : Den.put a o.dst u = some a') :
    a'.length = N ∧ (∀ t, t ∉ wrs R o → a'[t]? = a[t]?) ∧ ∃ β' ω', St W0 S N (Post R o a' G) β' ω' (c.put o.dst v) W' := by
  have hw : ∀ t, o.dst = some t → t ∈ wrs R o := fun t ht => by simp [wrs, ht]
  rcases put_eq hp with ⟨hd, rfl⟩ | ⟨t, old, hd, ho, hl, rfl⟩
  · refine ⟨hN, fun _ _ => rfl, β, ω, ?_⟩
    rw [hd]
    refine h.skip hn.grow.1 hn.grow.2 fun t x hx => ?_
    rcases hx with ⟨_, hx⟩ | ⟨h1, hx⟩
    · exact hx
    · exact HG t h1 x hx
  · have hlt := lt_of_get hN ho
    refine ⟨by simpa using hN, fun s hs => ?_, ?_⟩
    · rw [List.getElem?_set]
      rw [if_neg (show ¬ t = s from fun e => hs (e ▸ hw t hd))]
    · rw [hd]
      refine hn.put h hlt ⟨old, HG t (hw t hd) _ ho, hl⟩ fun s x hx => ?_
      rcases hx with ⟨h1, hx⟩ | ⟨h1, hx⟩
      · exact .inl ⟨fun e => h1 (e ▸ hw t hd), hx⟩
      · rw [List.getElem?_set] at hx
        split at hx
        · rename_i e
          subst e
          rw [if_pos (by omega)] at hx
          injection hx with hx
          exact .inr ⟨rfl, hx.symm⟩
        · rename_i e
          exact .inl ⟨Ne.symm e, HG s h1 x hx⟩
theorem setRow_same (P : Program) {g : Nat} {cur : Array Value} {te : TypeId} (hg : W.heap[g]? = some (.cells cur te (0, 0))) : W.setRow g cur = W := by
  have := run_storeCells_from (P := P) g te [] cur.size cur W hg (by simp) (by simp)
  simp only [storeCells, List.append_nil] at this
  have h2 : Result.ok () W = Result.ok () (W.setRow g (List.take cur.size cur.toList).toArray) := this
  injection h2 with _ h2
  have h3 : (List.take cur.size cur.toList).toArray = cur := by
    apply Array.toList_inj.1
    rw [List.take_of_length_le (by simp)]
  rw [h3] at h2
  exact h2.symm
theorem store_ok {t : TypeId} {x y : Operand} {ty : Ty} {s off : Nat} {us cs : List U} {u : U} (hT : ∀ t ty, T t = some ty → TyOk P t ty) (h : St W0 S N G β ω c W) (hN : a.length = N) (ho : o.op = .store t x y)
    (HG : ∀ t, t ∈ rds R ops o ++ wrs R o → ∀ u, a[t]? = some u → G t u) (hat : at_ R a x = some (s, off, us)) (hu : pv R a y = some u) (hcs : u.cells = some cs) (ht : T t = some ty) (h1 : off + cs.length ≤ us.length) (h2 : ty.size = cs.length) (hd : o.dst = none) :
    ∃ W', (execOp c.eval o).run P W = .ok .skip W' ∧ (a.set s (.box (us.take off ++ cs ++ us.drop (off + cs.length)))).length = N ∧ (∀ t, t ∉ wrs R o → (a.set s (.box (us.take off ++ cs ++ us.drop (off + cs.length))))[t]? = a[t]?) ∧ St W0 S N (Post R o (a.set s (.box (us.take off ++ cs ++ us.drop (off + cs.length)))) G) β ω (c.put o.dst undef) W' := by
  have hf : isFA o.op = false := by rw [ho]; rfl
  have hr : ∀ z, Operand.tmp z = x ∨ Operand.tmp z = y → z ∈ rds R ops o ∧ ∀ s, root R z = some s → s ∈ rds R ops o := fun z hz => by
    have hm : z ∈ tmpsIn o.op.operands.toList := mem_tmpsIn (by rw [ho]; simp [Op.operands]; exact hz)
    refine ⟨by simp [rds, hm], fun s hs => ?_⟩
    have : s ∈ (tmpsIn o.op.operands.toList).filterMap (root R) := List.mem_filterMap.2 ⟨z, hm, hs⟩
    unfold rds
    rw [hf]
    simp [this]
  have cx1 : Cov1 a G x := fun z hz u hu => HG z (by simp [(hr z (.inl hz.symm)).1]) u hu
  have cx2 : Cov2 R a G x := fun z hz s hs u hu => HG s (by simp [(hr z (.inl hz.symm)).2 s hs]) u hu
  have cy1 : Cov1 a G y := fun z hz u hu => HG z (by simp [(hr z (.inr hz.symm)).1]) u hu
  have cy2 : Cov2 R a G y := fun z hz s hs u hu => HG s (by simp [(hr z (.inr hz.symm)).2 s hs]) u hu
  obtain ⟨ha, hlt, hGs, g, te, vs, e1, e2, e3, e4, e5, e6⟩ := at_spec h hN cx1 cx2 hat
  have hrep := pv_rep h hN cy1 cy2 hu
  obtain ⟨ws, f1, f2, f3⟩ := rep_cells hrep hcs
  have hl1 := e5.len
  have hl2 := f2.len
  have hst := run_storeCells_at P g off te ws 0 vs.toArray W e4 (by simp; omega) f3
  have hnew : Reps (okOf W0.heap.size S β ω) W (us.take off ++ cs ++ us.drop (off + cs.length)) (vs.take off ++ ws ++ vs.drop (off + cs.length)) := Reps.append (Reps.append (Reps.take _ e5) f2) (Reps.drop _ e5)
  have hone : ∀ v ∈ vs.take off ++ ws ++ vs.drop (off + cs.length), v.oneCell' = true := by
    intro v hv
    simp only [List.mem_append] at hv
    rcases hv with (hv | hv) | hv
    · exact e6 v (List.mem_of_mem_take hv)
    · exact f3 v hv
    · exact e6 v (List.mem_of_mem_drop hv)
  have hrun : (storeVar t ⟨g, off, none⟩ (c.eval y)).run P W = .ok () (W.setRow g (vs.take off ++ ws ++ vs.drop (off + cs.length)).toArray) := by
    simp only [Nat.add_zero] at hst
    rw [← hl2] at hst
    simp [storeVar, run_sizeOk (hT t ty ht), f1, h2, hl2, hst]
  have hsw : s ∈ wrs R o := by
    cases x with
    | tmp z =>
      unfold wrs wrm
      rw [ho]
      simp only [at_] at hat
      split at hat
      · simp only [Option.some.injEq, Prod.mk.injEq] at hat
        simp [hat.1]
      · split at hat
        case isFalse => cases hat
        rename_i hroot
        split at hat
        · simp only [Option.some.injEq, Prod.mk.injEq] at hat
          have := eq_of_beq hroot
          rw [hat.1] at this
          simp [this]
        · cases hat
      · cases hat
    | const v => simp [at_] at hat
    | global g => simp [at_] at hat
    | func f => simp [at_] at hat
  refine ⟨W.setRow g (vs.take off ++ ws ++ vs.drop (off + cs.length)).toArray, ?_, by simpa using hN, fun z hz => ?_, ?_⟩
  · rw [show execOp c.eval o = (do Instr.storeAt t (c.eval x) (c.eval y); pure .skip) from by simp [execOp, ho], e3]
    simp [Instr.storeAt, Instr.sureAddr, hrun]
  · rw [List.getElem?_set, if_neg (show ¬ s = z from fun e => hz (e ▸ hsw))]
  · rw [hd]
    show St W0 S N _ β ω c _
    refine h.write hlt e1 e2 (fun _ _ => rfl) (fun hw => hw) (x := .box (us.take off ++ cs ++ us.drop (off + cs.length))) (fun hok => ?_) (fun z x' hx => ?_)
    · have hs := h.slot s _ hGs hlt
      obtain ⟨g', te', vs', d1, d2, d3, d4, d5, d6⟩ := hs
      rw [e1] at d1
      injection d1 with d1
      subst d1
      exact ⟨g, te, _, e1, e2, d3, setRow_heap W g _ _ _ _ e4, Reps.move (fun k hk hl => setRow_other W g k _ (hok k hk hl).2) (fun k hk hl => (hok k hk hl).1) _ _ hnew, hone⟩
    · rcases hx with ⟨g1, hx⟩ | ⟨g1, hx⟩
      · exact .inl ⟨fun e => g1 (e ▸ hsw), hx⟩
      · rw [List.getElem?_set] at hx
        split at hx
        · rename_i e
          subst e
          rw [if_pos (by omega)] at hx
          injection hx with hx
          exact .inr ⟨rfl, hx.symm⟩
        · rename_i e
          exact .inl ⟨Ne.symm e, HG z (by simp [g1]) x' hx⟩
theorem copy_ok {args : Array Operand} {ts : Array TypeId} {z : Nat} {y : Operand} {t : TypeId} {rest : List TypeId} {s : Nat} {xs ys : List Int} (hT : ∀ t ty, T t = some ty → TyOk P t ty) (h : St W0 S N G β ω c W) (hN : a.length = N)
    (ho : o.op = .call { callee := .builtin .copy, args := args, argTypes := ts }) (HG : ∀ t, t ∈ rds R ops o ++ wrs R o → ∀ u, a[t]? = some u → G t u) (ha : args.toList = [.tmp z, y]) (hts : ts.toList = t :: rest)
    (hz : get a z = .q s) (hy : pv R a y = some (.l ys)) (ht : T t = some .row) (hroot : root R z = some s) (hs : get a s = .own xs) (hp : Den.put (a.set s (.fz (real.copy xs ys))) o.dst (.v (.int .i64 (real.cpd xs ys))) = some a') :
    ∃ v W' β' ω', (execOp c.eval o).run P W = .ok (.value v) W' ∧ a'.length = N ∧ (∀ t, t ∉ wrs R o → a'[t]? = a[t]?) ∧ St W0 S N (Post R o a' G) β' ω' (c.put o.dst v) W' := by
  have hf : isFA o.op = false := by rw [ho]; rfl
  have hr : ∀ w, Operand.tmp w = .tmp z ∨ Operand.tmp w = y → w ∈ rds R ops o ∧ ∀ s, root R w = some s → s ∈ rds R ops o := fun w hw => by
    have hm : w ∈ tmpsIn o.op.operands.toList := mem_tmpsIn (by rw [ho]; simp only [Op.operands, Call.operands, Array.toList_append, ha]; simp; simpa using hw)
    refine ⟨by simp [rds, hm], fun s hs => ?_⟩
    have : s ∈ (tmpsIn o.op.operands.toList).filterMap (root R) := List.mem_filterMap.2 ⟨w, hm, hs⟩
    unfold rds
    rw [hf]
    simp [this]
  have cy1 : Cov1 a G y := fun z hz u hu => HG z (by simp [(hr z (.inr hz.symm)).1]) u hu
  have cy2 : Cov2 R a G y := fun z hz s hs u hu => HG s (by simp [(hr z (.inr hz.symm)).2 s hs]) u hu
  have hsw : s ∈ wrs R o := by unfold wrs wrm; rw [ho]; simp [ha, hroot]
  obtain ⟨A, cc, f1, f2, f3⟩ := pv_rep h hN cy1 cy2 hy
  rcases slot_get h hN (fun u hu => HG z (by simp [(hr z (.inl rfl)).1]) u hu) hz with ⟨_, _, ⟨q1, q2, _⟩, _⟩ | ⟨hq, _⟩
  case inr => cases hq
  rcases slot_get h hN (fun u hu => HG s (by simp [hsw]) u hu) hs with ⟨has, hlt, g, e1, e2, e3, e4, e5⟩ | ⟨hq, _⟩
  case inr => cases hq
  have hz' : c.eval (.tmp z) = .slice (some ⟨g, 0, none⟩) xs.length xs.length := by rw [eval_tmp, q2, e3]
  obtain ⟨d, g1, g2, e, ie, rfl, rfl, g3, g4, g5, g6⟩ := (hT t _ ht).shape
  have hargs : args = #[.tmp z, y] := Array.toList_inj.1 (by rw [ha])
  have hts0 : ts[0]? = some t := by rw [← Array.getElem?_toList, hts]; rfl
  have hcells : (xs.map (Value.int .u32)).toArray.toList = xs.map (Value.int .u32) := rfl
  have hrow : ((ys.map (Value.int .u32)).take (Nat.min ys.length xs.length) ++ (xs.map (Value.int .u32)).drop (Nat.min ys.length xs.length)) = (real.copy xs ys).map (Value.int .u32) := by
    simp only [real, List.map_append, List.map_take, List.map_drop]
    rcases Nat.le_total ys.length xs.length with hle | hle
    · rw [show Nat.min ys.length xs.length = ys.length from Nat.min_eq_left hle, List.take_of_length_le (by simp), List.take_of_length_le (by simpa using hle)]
    · rw [show Nat.min ys.length xs.length = xs.length from Nat.min_eq_right hle, List.drop_eq_nil_of_le (by simp), List.drop_eq_nil_of_le (by simpa using hle)]
  have hrun : (execOp c.eval o).run P W = .ok (.value (goInt (Nat.min ys.length xs.length : Nat))) (W.setRow g ((real.copy xs ys).map (Value.int .u32)).toArray) := by
    have key : (Builtin.copy_ ts o.type #[.slice (some ⟨g, 0, none⟩) xs.length xs.length, c.eval y]).run P W = .ok (goInt (Nat.min ys.length xs.length : Nat)) (W.setRow g ((real.copy xs ys).map (Value.int .u32)).toArray) := by
      rw [f1]
      by_cases hn : Nat.min ys.length xs.length = 0
      · have hsame : W.setRow g ((real.copy xs ys).map (Value.int .u32)).toArray = W := by
          rw [← hrow, hn]
          simp only [List.take_zero, List.nil_append, List.drop_zero]
          exact setRow_same P e4
        rw [hsame, hn]
        cases A with
        | none => simp [Builtin.copy_, hts0, run_underlying g1, Builtin.lenOf, Builtin.firstCells, run_sizeOf g3, hn, storeCells]
        | some ad => simp [Builtin.copy_, hts0, run_underlying g1, Builtin.lenOf, Builtin.firstCells, run_sizeOf g3, hn, storeCells, loadCells, loadCellsFrom]
      · obtain ⟨y0, hy0⟩ : ∃ y0, ys[0]? = some y0 := by
          cases ys with
          | nil => exact absurd (by simp [Nat.min_def]) hn
          | cons y0 ys => exact ⟨y0, rfl⟩
        obtain ⟨ad, rfl, _⟩ := cell_of_C (Kd.F_now f3) hy0
        have hl := run_loadCells_list (P := P) W ad ((ys.map (Value.int .u32)).take (Nat.min ys.length xs.length)) (fun j v hj => by
          rw [List.getElem?_take] at hj
          split at hj
          case isFalse => cases hj
          rw [List.getElem?_map, Option.map_eq_some_iff] at hj
          obtain ⟨n, hn, rfl⟩ := hj
          obtain ⟨ad', h1, h2⟩ := cell_of_C (Kd.F_now f3) hn
          injection h1 with h1
          subst h1
          exact h2)
        have hll : ((ys.map (Value.int .u32)).take (Nat.min ys.length xs.length)).length = Nat.min ys.length xs.length := by
          rw [List.length_take, List.length_map]
          exact Nat.min_eq_left (Nat.min_le_left _ _)
        rw [hll] at hl
        have hst := run_storeCells_at P g 0 49 ((ys.map (Value.int .u32)).take (Nat.min ys.length xs.length)) 0 (xs.map (Value.int .u32)).toArray W e4 (by rw [hll]; simp; exact Nat.min_le_right _ _) (fun v hv => by
          obtain ⟨n, _, rfl⟩ := List.mem_map.1 (List.mem_of_mem_take hv)
          rfl)
        have hfin : ((xs.map (Value.int .u32)).toArray.toList.take (0 + 0) ++ (ys.map (Value.int .u32)).take (Nat.min ys.length xs.length) ++ (xs.map (Value.int .u32)).toArray.toList.drop (0 + 0 + ((ys.map (Value.int .u32)).take (Nat.min ys.length xs.length)).length)) = (real.copy xs ys).map (Value.int .u32) := by
          rw [hll, ← hrow]
          simp
        rw [hfin] at hst
        simp [Builtin.copy_, hts0, run_underlying g1, Builtin.lenOf, Builtin.firstCells, run_sizeOf g3, g4, hl, hst]
    simp [execOp, ho, resolve, invoke, Go.builtin, hargs, hz', key]
  have hlen : (real.copy xs ys).length = xs.length := by
    simp only [real, List.length_append, List.length_take, List.length_drop]
    omega
  have hst1 : St W0 S N (Post R { o with dst := none } (a.set s (.fz (real.copy xs ys))) G) β (fun t => if t = s then false else ω t) c (W.setRow g ((real.copy xs ys).map (Value.int .u32)).toArray) := by
    refine h.write hlt e1 e2 (fun t ht => if_neg ht) (fun hw => by simp at hw) (x := .fz (real.copy xs ys)) (fun hok => ?_) (fun w x' hx => ?_)
    · refine ⟨by rw [e1]; simp, if_pos rfl, ?_⟩
      rw [e3]
      refine ⟨_, xs.length, by rw [hlen], by rw [hlen]; exact Nat.le_refl _, F_of_cells (setRow_heap W g _ _ _ _ e4) (by rw [hlen]; omega) ⟨.inr (h.lo s g e1).1, fun t ht e => ?_⟩⟩
      by_cases hts : t = s
      · simp [hts] at ht
      · exact hts (h.inj t s g e e1)
    · have hsw' : s ∈ wrs R { o with dst := none } := by unfold wrs wrm; simp only [ho]; simp [ha, hroot]
      rcases hx with ⟨g1, hx⟩ | ⟨g1, hx⟩
      · exact .inl ⟨fun e => g1 (e ▸ hsw'), hx⟩
      · rw [List.getElem?_set] at hx
        split at hx
        · rename_i e
          subst e
          rw [if_pos (by omega)] at hx
          injection hx with hx
          exact .inr ⟨rfl, hx.symm⟩
        · rename_i e
          refine .inl ⟨Ne.symm e, HG w ?_ x' hx⟩
          have g1' : w ∈ wrm R o.op := by simpa [wrs] using g1
          simp [wrs, g1']
  have hN1 : (a.set s (.fz (real.copy xs ys))).length = N := by simpa using hN
  have hfoot : ∀ t, t ∈ wrs R o → ∀ u, (a.set s (.fz (real.copy xs ys)))[t]? = some u → Post R { o with dst := none } (a.set s (.fz (real.copy xs ys))) G t u := fun t ht u hu => by
    by_cases hm : t ∈ wrs R { o with dst := none }
    · exact .inr ⟨hm, hu⟩
    · refine .inl ⟨hm, ?_⟩
      have hne : ¬ s = t := fun e => hm (by subst e; unfold wrs wrm; simp only [ho]; simp [ha, hroot])
      rw [List.getElem?_set, if_neg hne] at hu
      exact HG t (by simp [ht]) u hu
  obtain ⟨k1, k2, β', ω', k3⟩ := New.post hst1 hN1 hfoot (New.now (β := β) (c := c) (u := .v (.int .i64 (real.cpd xs ys))) rfl rfl) hp
  refine ⟨_, _, β', ω', hrun, k1, fun t ht => ?_, k3.imp fun t x hx => ?_⟩
  · rw [k2 t ht, List.getElem?_set, if_neg (show ¬ s = t from fun e => ht (e ▸ hsw))]
  · rcases hx with ⟨h1, hx⟩ | ⟨h1, hx⟩
    · refine .inl ⟨h1, .inl ⟨fun hm => h1 ?_, hx⟩⟩
      have hm' : t ∈ wrm R o.op := by simpa [wrs] using hm
      simp [wrs, hm']
    · exact .inr ⟨h1, hx⟩
end
end Go.Proofs.Yticngjjdjmadgaa.Den
end
section
set_option linter.unusedVariables false
set_option linter.unusedSimpArgs false
namespace Go.Proofs.Yticngjjdjmadgaa.Den
open Go Go.RowKit Go.Proofs.YticngjjdjmadgaaW.PrintWords
section
variable {P : Program} {T : Tys} {C : Orc} {R : Tbl} {a a' : List U} {ops : Array Oper} {W0 : World} {S : Nat → Prop} {N : Nat} {G G' : Nat → U → Prop} {β : Nat → Option Nat} {ω : Nat → Bool} {c : Act} {W W' : World} {o : Oper} {Q : Exit → Act → World → Prop} {next : Act → World → Prop}
theorem isCall_eq {op : Op} {f : FuncId} {args : Array Operand} (h : isCall op = some (f, args)) : ∃ ts, op = .call { callee := .value (.func f), args := args, argTypes := ts } := by
  unfold isCall at h
  split at h
  · rename_i f' args' ts
    simp only [Option.some.injEq, Prod.mk.injEq] at h
    obtain ⟨rfl, rfl⟩ := h
    exact ⟨ts, rfl⟩
  · cases h
theorem step_val {op : Op} (h1 : ∀ t x y, op ≠ .store t x y) (h2 : ∀ args ts, op ≠ .call { callee := .builtin .copy, args := args, argTypes := ts }) (ho : o.op = op) : step T real R a o = (val T real R a o).bind fun u => put a o.dst u := by
  unfold step
  split
  · rename_i t x y hq; exact absurd (ho.symm.trans hq) (h1 t x y)
  · rename_i args ts hq; exact absurd (ho.symm.trans hq) (h2 args ts)
  · rfl
theorem exec_ok (hT : ∀ t ty, T t = some ty → TyOk P t ty) (hC : ∀ f, SoundF P f (C f)) {k : List U → Prop} (h : St W0 S N G β ω c W) (hN : a.length = N) (HG : ∀ t, t ∈ rds R ops o ++ wrs R o → ∀ u, a[t]? = some u → G t u)
    (he : exec T real C R a o k)
    (hk : ∀ a' β' ω' c' W', k a' → a'.length = N → (∀ t, t ∉ wrs R o → a'[t]? = a[t]?) → St W0 S N (Post R o a' G) β' ω' c' W' → next c' W') : o.wp P c W next Q := by
  have hw : ∀ t, t ∈ wrs R o → ∀ u, a[t]? = some u → G t u := fun t ht => HG t (by simp [ht])
  have c1 : ∀ x ∈ o.op.operands.toList, Cov1 a G x := fun x hx z hz u hu => HG z (by
    subst hz
    have := mem_tmpsIn hx
    simp [rds, this]) u hu
  have c2 : (∀ s x f, o.op ≠ .fieldAddr s x f) → ∀ x ∈ o.op.operands.toList, Cov2 R a G x := fun hf x hx z hz s hs u hu => HG s (by
    subst hz
    have hm : s ∈ (tmpsIn o.op.operands.toList).filterMap (root R) := List.mem_filterMap.2 ⟨z, mem_tmpsIn hx, hs⟩
    have hfa : isFA o.op = false := by
      cases hq : o.op <;> first | rfl | exact absurd hq (hf _ _ _)
    unfold rds
    rw [hfa]
    simp [hm]) u hu
  unfold exec at he
  split at he
  · rename_i f args hcall
    obtain ⟨ts, ho⟩ := isCall_eq hcall
    split at he
    case h_2 => exact he.elim
    rename_i us hus
    obtain ⟨u, hCu, he⟩ := he
    split at he
    case h_2 => exact he.elim
    rename_i a' hp
    obtain ⟨⟨fn, b, hfn, hname, hb⟩, hcalls⟩ := hC f us u hCu
    have hops : ∀ x ∈ args.toList, x ∈ o.op.operands.toList := fun x hx => by
      rw [ho]
      simp [Op.operands, Call.operands]
      exact .inr (by simpa using hx)
    have hnf : ∀ s x f, o.op ≠ .fieldAddr s x f := fun s x f e => by rw [ho] at e; cases e
    have hreps := pvs_reps h hN (fun x hx => c1 x (hops x hx)) (fun x hx => c2 hnf x (hops x hx)) hus
    have hrun : (execOp c.eval o).run P W = .ok (.enter f (args.map c.eval)) W := by
      have h1 : fn.name ≠ "runtime.NumGoroutine" := by simpa using hname
      simp [execOp, ho, resolve, Act.eval, Deferred.ofValue, invoke, callFunc, hfn, h1, hb]
    unfold Oper.wp
    rw [hrun]
    show Calls P f (args.map c.eval) W _
    have hargs : args.map c.eval = (args.toList.map c.eval).toArray := Array.toList_inj.1 (by simp)
    rw [hargs]
    refine (hcalls W _ _ hreps).mono fun e W' ⟨v, hv, hrep, hbel⟩ => ?_
    subst hv
    have hpl : u.plain = true := by cases u <;> first | rfl | exact hrep.elim
    have hrep' : Rep (okOf W0.heap.size S β ω) W' u v := hrep.move (fun _ _ _ => rfl) (fun k hk _ => by
      rcases hk with hk | hk
      · exact hk
      · refine ⟨.inr (Nat.le_trans h.below.size hk), fun t _ ht => ?_⟩
        have := (h.lo t k ht).2
        omega)
    obtain ⟨k1, k2, β', ω', k3⟩ := New.post h hN hw (New.mk hpl hrep' (fun k hk => hbel.block k hk) hbel) hp
    exact hk a' β' ω' _ _ he k1 k2 k3
  · rename_i hcall
    split at he
    case h_2 => exact he.elim
    rename_i a' hst
    by_cases hs : ∃ t x y, o.op = .store t x y
    · obtain ⟨t, x, y, ho⟩ := hs
      unfold step at hst
      rw [ho] at hst
      simp only [Option.bind_eq_some_iff] at hst
      obtain ⟨⟨s, off, us⟩, hat, u, hu, cs, hcs, hst⟩ := hst
      simp only at hst
      split at hst
      case h_2 => cases hst
      rename_i ty ht
      split at hst
      case isFalse => cases hst
      rename_i hcond
      obtain ⟨q1, q2, q3⟩ := hcond
      injection hst with hst
      subst hst
      obtain ⟨W', k0, k1, k2, k3⟩ := store_ok hT h hN ho HG hat hu hcs ht q1 q2 q3
      unfold Oper.wp
      rw [k0]
      exact hk _ _ _ _ _ he k1 k2 k3
    · by_cases hc : ∃ args ts, o.op = .call { callee := .builtin .copy, args := args, argTypes := ts }
      · obtain ⟨args, ts, ho⟩ := hc
        unfold step at hst
        rw [ho] at hst
        simp only at hst
        split at hst
        case h_2 => cases hst
        rename_i z y t rest hargs hts
        split at hst
        case h_2 => cases hst
        rename_i s ys hz hy ht
        split at hst
        case isFalse => cases hst
        rename_i hroot
        split at hst
        case h_2 => cases hst
        rename_i xs hs
        obtain ⟨v, W', β', ω', k0, k1, k2, k3⟩ := copy_ok hT h hN ho HG hargs hts hz hy ht hroot hs hst
        unfold Oper.wp
        rw [k0]
        exact hk _ _ _ _ _ he k1 k2 k3
      · rw [step_val (fun t x y e => hs ⟨t, x, y, e⟩) (fun args ts e => hc ⟨args, ts, e⟩) rfl] at hst
        obtain ⟨u, hv, hp⟩ := Option.bind_eq_some_iff.1 hst
        obtain ⟨v, W', hrun, hnew⟩ := val_run hT h hN c1 c2 hv
        obtain ⟨k1, k2, β', ω', k3⟩ := New.post h hN hw hnew hp
        unfold Oper.wp
        rw [hrun]
        exact hk _ _ _ _ _ he k1 k2 k3
theorem exec_split {k : List U → Prop} (he : exec T real C R a o k) : ∃ a', exec T real C R a o (· = a') ∧ k a' := by
  unfold exec at he ⊢
  split at he
  · split at he
    case h_2 => exact he.elim
    obtain ⟨u, h1, h2⟩ := he
    split at h2
    case h_2 => exact h2.elim
    rename_i a' hp
    exact ⟨a', ⟨u, h1, by rw [hp]⟩, h2⟩
  · split at he
    case h_2 => exact he.elim
    rename_i a' _
    exact ⟨a', rfl, he⟩
def Stp (T : Tys) (C : Orc) (R : Tbl) (ops : Array Oper) (a : List U) (o : Oper) (a' : List U) : Prop :=
  match o.guard with
  | none => exec T real C R a o (· = a')
  | some (j, w) => match yields ops a j with
    | some b => if b = w then exec T real C R a o (· = a') else put a o.dst (.v undef) = some a'
    | none => put a o.dst (.v undef) = some a'
theorem run_cons {rest : List Oper} {k : List U → Prop} (h : run T real C R ops (o :: rest) a k) : ∃ a', Stp T C R ops a o a' ∧ run T real C R ops rest a' k := by
  have hput : ∀ {d : Option Nat}, (match put a d (.v undef) with
      | some a' => run T real C R ops rest a' k
      | none => False) → ∃ a', put a d (.v undef) = some a' ∧ run T real C R ops rest a' k := fun h => by
    split at h
    · rename_i a' hp; exact ⟨a', hp, h⟩
    · exact h.elim
  unfold run at h
  unfold Stp
  split at h
  · rename_i hg
    try simp only [hg]
    exact exec_split h
  · rename_i j w hg
    try simp only [hg]
    split at h
    · rename_i b hy
      try simp only [hy]
      split at h
      · rename_i hb
        obtain ⟨a', h1, h2⟩ := exec_split h
        exact ⟨a', by rw [if_pos hb]; exact h1, h2⟩
      · rename_i hb
        obtain ⟨a', h1, h2⟩ := hput h
        exact ⟨a', by rw [if_neg hb]; exact h1, h2⟩
    · rename_i hy
      try simp only [hy]
      exact hput h
theorem yields_ok (h : St W0 S N G β ω c W) (hN : a.length = N) {j : Nat} (HG : ∀ d, (ops[j]?).bind (·.dst) = some d → ∀ u, a[d]? = some u → G d u) : yielded ops c.tmps j = yields ops a j := by
  unfold yielded yields
  cases hd : (ops[j]?).bind (·.dst) with
  | none => rfl
  | some d =>
    simp only [Option.bind_some]
    rcases slot_get h hN (HG d hd) (u := get a d) rfl with ⟨ha, hlt, hs⟩ | ⟨hq, hu⟩
    · have hc : c.tmps[d]? = some (c.tmps.getD d undef) := by
        have : d < c.tmps.size := by rw [h.size]; exact hlt
        simp [this]
      rw [hc]
      cases hg : get a d with
      | v x => rw [hg] at hs; have hx : c.tmps.getD d undef = x := hs.1; rw [hx]; cases x <;> rfl
      | l xs => rw [hg] at hs; obtain ⟨⟨A, cc, e, _⟩, _⟩ := hs; rw [e]
      | r k n => rw [hg] at hs; obtain ⟨⟨ad, e, _⟩, _⟩ := hs; rw [e]
      | agg us => rw [hg] at hs; obtain ⟨⟨vs, e, _⟩, _⟩ := hs; rw [e]
      | tup us => rw [hg] at hs; obtain ⟨⟨vs, e, _⟩, _⟩ := hs; rw [e]
      | box us => rw [hg] at hs; obtain ⟨g, te, vs, _, _, e, _⟩ := hs; rw [e]
      | own us => rw [hg] at hs; obtain ⟨g, _, _, e, _⟩ := hs; rw [e]
      | fz us => rw [hg] at hs; obtain ⟨_, _, A, cc, e, _⟩ := hs; rw [e]
      | p s o => rw [hg] at hs; obtain ⟨⟨g, _, e⟩, _⟩ := hs; rw [e]
      | q s =>
        rw [hg] at hs
        obtain ⟨⟨hb, _, A, n, m, e⟩, _⟩ := hs
        rw [e]
    · rw [hq]
      cases hc : c.tmps[d]? with
      | none => rfl
      | some x =>
        have : c.tmps.getD d undef = x := by simp [hc]
        rw [hu] at this
        subst this
        rfl
end
end Go.Proofs.Yticngjjdjmadgaa.Den
end
section
set_option linter.unusedVariables false
set_option linter.unusedSimpArgs false
namespace Go.Proofs.Yticngjjdjmadgaa.Den
open Go Go.RowKit Go.Proofs.YticngjjdjmadgaaW.PrintWords
def binders (o : Oper) : List Nat := (o.after.toList.filter (Region.binds .any)).map (·.on)
def meet (xs ys : List Nat) : Bool := xs.any fun x => ys.contains x
def okReg (R : Tbl) (ops : Array Oper) : Bool := (List.range ops.size).all fun i => match ops[i]? with
  | none => true
  | some o => (binders o).all (fun e => decide (e < i)) && (List.range i).all fun j => match ops[j]? with
    | none => true
    | some o' => (!(meet (wrs R o') (rds R ops o ++ wrs R o)) && !(meet (wrs R o) (rds R ops o' ++ wrs R o'))) || (binders o).contains j
section
variable {P : Program} {T : Tys} {C : Orc} {R : Tbl} {a a' : List U} {ops : Array Oper} {W0 : World} {S : Nat → Prop} {N : Nat} {G G' : Nat → U → Prop} {β : Nat → Option Nat} {ω : Nat → Bool} {c : Act} {W W' : World} {o : Oper} {Q : Exit → Act → World → Prop} {next : Act → World → Prop}
def Is (a : List U) : Nat → U → Prop := fun t u => a[t]? = some u
theorem stp_ok {i : Nat} (hT : ∀ t ty, T t = some ty → TyOk P t ty) (hC : ∀ f, SoundF P f (C f)) (h : St W0 S N G β ω c W) (hN : a.length = N) (hi : ops[i]? = some o) (HG : ∀ t, t ∈ rds R ops o ++ wrs R o → ∀ u, a[t]? = some u → G t u)
    (he : Stp T C R ops a o a')
    (hk : ∀ β' ω' c' W', a'.length = N → (∀ t, t ∉ wrs R o → a'[t]? = a[t]?) → St W0 S N (Post R o a' G) β' ω' c' W' → next c' W') : wpOp P ops Q i next c W := by
  have hskip : Den.put a o.dst (.v undef) = some a' → next (c.put o.dst undef) W := fun hp => by
    obtain ⟨k1, k2, β', ω', k3⟩ := New.post (R := R) (o := o) h hN (fun t ht => HG t (by simp [ht])) (New.now (β := β) (c := c) (u := .v undef) (v := undef) rfl rfl) hp
    exact hk _ _ _ _ k1 k2 k3
  have hexec : exec T real C R a o (· = a') → o.wp P c W next Q := fun he => exec_ok hT hC h hN HG he fun a'' β' ω' c' W' e k1 k2 k3 => by
    subst e
    exact hk β' ω' c' W' k1 k2 k3
  unfold wpOp
  rw [hi]
  simp only
  unfold Stp at he
  cases hg : o.guard with
  | none =>
    simp only [hg] at he
    rw [if_pos (by simp [Region.wanted, hg])]
    exact .inl (hexec he)
  | some p =>
    obtain ⟨j, w⟩ := p
    simp only [hg] at he
    have hy : yielded ops c.tmps j = yields ops a j := yields_ok h hN fun d hd u hu => HG d (by simp [rds, gds, hg, hd]) u hu
    have hw : Region.wanted o (yielded ops c.tmps) = (yields ops a j == some w) := by simp only [Region.wanted, hg]; rw [hy]
    rw [hw]
    split at he
    · rename_i b hb
      rw [hb]
      split at he
      · rename_i e
        subst e
        rw [if_pos (by simp)]
        exact .inl (hexec he)
      · rename_i e
        rw [if_neg (by simpa using e)]
        exact hskip he
    · rename_i hb
      rw [hb, if_neg (by simp)]
      exact hskip he
theorem Post_is (h : ∀ t, t ∉ wrs R o → a'[t]? = a[t]?) : ∀ t u, Is a' t u → Post R o a' (Is a) t u := fun t u hu => by
  by_cases hm : t ∈ wrs R o
  · exact .inr ⟨hm, hu⟩
  · exact .inl ⟨hm, by unfold Is; rw [← h t hm]; exact hu⟩
theorem seq_ok (hT : ∀ t ty, T t = some ty → TyOk P t ty) (hC : ∀ f, SoundF P f (C f)) {k : List U → Prop} : ∀ (l : List Oper) (i : Nat) (a : List U) (β : Nat → Option Nat) (ω : Nat → Bool) (c : Act) (W : World), ops.toList.drop i = l → St W0 S N (Is a) β ω c W → a.length = N →
    run T real C R ops l a k → (∀ a' β' ω' c' W', k a' → a'.length = N → St W0 S N (Is a') β' ω' c' W' → Q .normal c' W') → wpOps P ops Q (List.range' i l.length) c W
  | [], i, a, β, ω, c, W, _, h, hN, hr, hk => hk a β ω c W hr hN h
  | o :: l, i, a, β, ω, c, W, hl, h, hN, hr, hk => by
    obtain ⟨a', h1, h2⟩ := run_cons hr
    have hi : ops[i]? = some o := by
      rw [← Array.getElem?_toList]
      have := congrArg (fun l => l[0]?) hl
      simpa using this
    have hl' : ops.toList.drop (i + 1) = l := by
      have := congrArg List.tail hl
      simpa using this
    rw [List.length_cons, List.range'_succ, wpOps_cons]
    exact stp_ok hT hC h hN hi (fun t _ u hu => hu) h1 fun β' ω' c' W' k1 k2 k3 => seq_ok hT hC l (i + 1) a' β' ω' c' W' hl' (k3.imp (Post_is k2)) k1 h2 hk
theorem trace {k : List U → Prop} : ∀ (l : List Oper) (a : List U), run T real C R ops l a k → ∃ env : Nat → List U, env 0 = a ∧ (∀ i o, l[i]? = some o → Stp T C R ops (env i) o (env (i + 1))) ∧ k (env l.length)
  | [], a, h => ⟨fun _ => a, rfl, fun i o hi => by simp at hi, h⟩
  | o :: l, a, h => by
    obtain ⟨a', h1, h2⟩ := run_cons h
    obtain ⟨env, e1, e2, e3⟩ := trace l a' h2
    refine ⟨fun i => match i with
      | 0 => a
      | i + 1 => env i, rfl, fun i o' hi => ?_, e3⟩
    cases i with
    | zero => simp at hi; subst hi; show Stp T C R ops a o (env 0); rw [e1]; exact h1
    | succ i => exact e2 i o' (by simpa using hi)
theorem exec_keeps (he : exec T real C R a o (· = a')) : a'.length = a.length ∧ ∀ t, t ∉ wrs R o → a'[t]? = a[t]? := by
  have hput : ∀ {b b' : List U} {u : U}, put b o.dst u = some b' → b'.length = b.length ∧ ∀ t, t ∉ wrs R o → b'[t]? = b[t]? := fun hp => by
    rcases put_eq hp with ⟨_, rfl⟩ | ⟨s, old, hd, _, _, rfl⟩
    · exact ⟨rfl, fun _ _ => rfl⟩
    · refine ⟨by simp, fun t ht => ?_⟩
      rw [List.getElem?_set, if_neg (show ¬ s = t from fun e => ht (by subst e; simp [wrs, hd]))]
  unfold exec at he
  split at he
  · split at he
    case h_2 => exact he.elim
    obtain ⟨u, _, h2⟩ := he
    split at h2
    case h_2 => exact h2.elim
    rename_i b hp
    subst h2
    exact hput hp
  · split at he
    case h_2 => exact he.elim
    rename_i b hst
    subst he
    by_cases hs : ∃ t x y, o.op = .store t x y
    · obtain ⟨t, x, y, ho⟩ := hs
      unfold step at hst
      rw [ho] at hst
      simp only [Option.bind_eq_some_iff] at hst
      obtain ⟨⟨s, off, us⟩, hat, u, hu, cs, hcs, hst⟩ := hst
      simp only at hst
      split at hst
      case h_2 => cases hst
      split at hst
      case isFalse => cases hst
      injection hst with hst
      subst hst
      refine ⟨by simp, fun z hz => ?_⟩
      rw [List.getElem?_set, if_neg (show ¬ s = z from fun e => hz ?_)]
      subst e
      unfold wrs wrm
      rw [ho]
      cases x with
      | tmp z =>
        simp only [at_] at hat
        split at hat
        · simp only [Option.some.injEq, Prod.mk.injEq] at hat
          simp [hat.1]
        · split at hat
          case isFalse => cases hat
          rename_i hroot
          split at hat
          · simp only [Option.some.injEq, Prod.mk.injEq] at hat
            have := eq_of_beq hroot
            rw [hat.1] at this
            simp [this]
          · cases hat
        · cases hat
      | const v => simp [at_] at hat
      | global g => simp [at_] at hat
      | func f => simp [at_] at hat
    · by_cases hc : ∃ args ts, o.op = .call { callee := .builtin .copy, args := args, argTypes := ts }
      · obtain ⟨args, ts, ho⟩ := hc
        unfold step at hst
        rw [ho] at hst
        simp only at hst
        split at hst
        case h_2 => cases hst
        rename_i z y t rest hargs hts
        split at hst
        case h_2 => cases hst
        rename_i s ys hz hy ht
        split at hst
        case isFalse => cases hst
        rename_i hroot
        split at hst
        case h_2 => cases hst
        obtain ⟨k1, k2⟩ := hput hst
        refine ⟨by rw [k1]; simp, fun w hw => ?_⟩
        rw [k2 w hw, List.getElem?_set, if_neg (show ¬ s = w from fun e => hw (by subst e; unfold wrs wrm; rw [ho]; simp [hargs, hroot]))]
      · rw [step_val (fun t x y e => hs ⟨t, x, y, e⟩) (fun args ts e => hc ⟨args, ts, e⟩) rfl] at hst
        obtain ⟨u, _, hp⟩ := Option.bind_eq_some_iff.1 hst
        exact hput hp
theorem stp_keeps (he : Stp T C R ops a o a') : a'.length = a.length ∧ ∀ t, t ∉ wrs R o → a'[t]? = a[t]? := by
  have hput : ∀ {u : U}, put a o.dst u = some a' → a'.length = a.length ∧ ∀ t, t ∉ wrs R o → a'[t]? = a[t]? := fun hp => by
    rcases put_eq hp with ⟨_, rfl⟩ | ⟨s, old, hd, _, _, rfl⟩
    · exact ⟨rfl, fun _ _ => rfl⟩
    · refine ⟨by simp, fun t ht => ?_⟩
      rw [List.getElem?_set, if_neg (show ¬ s = t from fun e => ht (by subst e; simp [wrs, hd]))]
  unfold Stp at he
  split at he
  · exact exec_keeps he
  · split at he
    · split at he
      · exact exec_keeps he
      · exact hput he
    · exact hput he
theorem meet_mem {xs ys : List Nat} {t : Nat} (h1 : t ∈ xs) (h2 : t ∈ ys) : meet xs ys = true := by
  unfold meet
  rw [List.any_eq_true]
  exact ⟨t, h1, by simpa using h2⟩
theorem okReg_spec (h : okReg R ops = true) {i : Nat} (hi : ops[i]? = some o) : (∀ e ∈ binders o, e < i) ∧ ∀ j o', j < i → ops[j]? = some o' → j ∈ binders o ∨ ((∀ t, t ∈ wrs R o' → t ∉ rds R ops o ++ wrs R o) ∧ ∀ t, t ∈ wrs R o → t ∉ rds R ops o' ++ wrs R o') := by
  have hlt := (Array.getElem?_eq_some_iff.1 hi).1
  unfold okReg at h
  have h1 := List.all_eq_true.1 h i (List.mem_range.2 hlt)
  simp only [hi, Bool.and_eq_true] at h1
  refine ⟨fun e he => by simpa using List.all_eq_true.1 h1.1 e he, fun j o' hj ho' => ?_⟩
  have h2 := List.all_eq_true.1 h1.2 j (List.mem_range.2 hj)
  simp only [ho', Bool.or_eq_true, Bool.and_eq_true, Bool.not_eq_true'] at h2
  rcases h2 with ⟨h3, h4⟩ | h3
  · exact .inr ⟨fun t ht hm => absurd (meet_mem ht hm) (by rw [h3]; simp), fun t ht hm => absurd (meet_mem ht hm) (by rw [h4]; simp)⟩
  · exact .inl (by simpa using h3)
def left (n : Nat) (listed : Array Bool) : Nat := (List.range n).countP fun i => !listed.getD i true
theorem countP_lt {l : List Nat} {p q : Nat → Bool} (hpq : ∀ x, q x = true → p x = true) {y : Nat} (hy : y ∈ l) (h1 : p y = true) (h2 : q y = false) : l.countP q < l.countP p := by
  induction l with
  | nil => cases hy
  | cons x l ih =>
    have hle : l.countP q ≤ l.countP p := List.countP_mono_left (fun x _ hx => hpq x hx)
    rw [List.countP_cons, List.countP_cons]
    rcases List.mem_cons.1 hy with rfl | hy
    · rw [h1, h2]; simp; omega
    · have := ih hy
      cases hq : q x
      · simp; split <;> omega
      · rw [hpq x hq]; simp; omega
theorem any_ok (hT : ∀ t ty, T t = some ty → TyOk P t ty) (hC : ∀ f, SoundF P f (C f)) (hok : okReg R ops = true) {env : Nat → List U} (hN : (env 0).length = N) (hstp : ∀ i o, ops[i]? = some o → Stp T C R ops (env i) o (env (i + 1)))
    (hQ : ∀ β' ω' c' W', (env ops.size).length = N → St W0 S N (Is (env ops.size)) β' ω' c' W' → Q .normal c' W') :
    ∀ (fuel : Nat) (listed : Array Bool) (β : Nat → Option Nat) (ω : Nat → Bool) (c : Act) (W : World), listed.size = ops.size → left ops.size listed ≤ fuel → (∀ i o, ops[i]? = some o → listed.getD i false = true → ∀ e ∈ binders o, listed.getD e false = true) →
      St W0 S N (fun t u => ∃ m, m ≤ ops.size ∧ (∀ j o, ops[j]? = some o → t ∈ wrs R o → (listed.getD j false = true ↔ j < m)) ∧ (env m)[t]? = some u) β ω c W → wpAny P .any ops Q fuel listed c W := by
  have hlen : ∀ i, i ≤ ops.size → (env i).length = N := fun i => by
    induction i with
    | zero => exact fun _ => hN
    | succ i ih =>
      intro hi
      have hlt : i < ops.size := by omega
      rw [(stp_keeps (hstp i ops[i] (by simp [hlt]))).1]
      exact ih (by omega)
  have hkeep : ∀ t i m, i ≤ m → m ≤ ops.size → (∀ j o, i ≤ j → j < m → ops[j]? = some o → t ∉ wrs R o) → (env m)[t]? = (env i)[t]? := fun t i m him => by
    induction m with
    | zero => intro _ _; have : i = 0 := by omega
              subst this; rfl
    | succ m ih =>
      intro hm hw
      by_cases he : i = m + 1
      · subst he; rfl
      · have hlt : m < ops.size := by omega
        rw [(stp_keeps (hstp m ops[m] (by simp [hlt]))).2 t (hw m _ (by omega) (by omega) (by simp [hlt]))]
        exact ih (by omega) (by omega) fun j o h1 h2 => hw j o h1 (by omega)
  have gd : ∀ (listed : Array Bool) (i : Nat), listed.size = ops.size → i < ops.size → listed.getD i true = listed.getD i false := fun listed i hs hi => by simp [show i < listed.size by omega]
  -- what is ready or all is listed
  have hall : ∀ listed : Array Bool, listed.size = ops.size → Region.ready .any ops listed = [] → ∀ i, i < ops.size → listed.getD i false = true := by
    intro listed hs hr i
    induction i using Nat.strongRecOn with
    | _ i ih =>
      intro hi
      cases hl : listed.getD i false with
      | true => rfl
      | false =>
        have hoi : ops[i]? = some ops[i] := by simp [hi]
        have hmem : i ∈ Region.ready .any ops listed := mem_ready.2 ⟨by rw [gd listed i hs hi]; exact hl, ops[i], hoi, fun e he hb => by
          have hlt := (okReg_spec hok hoi).1 e.on (by
            unfold binders
            exact List.mem_map.2 ⟨e, List.mem_filter.2 ⟨by simpa using he, hb⟩, rfl⟩)
          exact ih e.on hlt (by omega)⟩
        rw [hr] at hmem
        cases hmem
  have hfin : ∀ (listed : Array Bool) (β : Nat → Option Nat) (ω : Nat → Bool) (c : Act) (W : World), listed.size = ops.size → Region.ready .any ops listed = [] →
      St W0 S N (fun t u => ∃ m, m ≤ ops.size ∧ (∀ j o, ops[j]? = some o → t ∈ wrs R o → (listed.getD j false = true ↔ j < m)) ∧ (env m)[t]? = some u) β ω c W → Q .normal c W := by
    intro listed β ω c W hs hr h
    refine hQ β ω c W (hlen _ (Nat.le_refl _)) (h.imp fun t u hu => ⟨ops.size, Nat.le_refl _, fun j o ho _ => ?_, hu⟩)
    have hj := (Array.getElem?_eq_some_iff.1 ho).1
    exact ⟨fun _ => hj, fun _ => hall listed hs hr j hj⟩
  intro fuel
  induction fuel with
  | zero =>
    intro listed β ω c W hs hcnt hcl h
    have hr : Region.ready .any ops listed = [] := by
      cases hq : Region.ready .any ops listed with
      | nil => rfl
      | cons i l =>
        have hmem : i ∈ Region.ready .any ops listed := by rw [hq]; simp
        obtain ⟨h1, o, ho, _⟩ := mem_ready.1 hmem
        have hi := (Array.getElem?_eq_some_iff.1 ho).1
        have : 0 < left ops.size listed := by
          unfold left
          exact List.countP_pos_iff.2 ⟨i, List.mem_range.2 hi, by rw [h1]; rfl⟩
        omega
    exact ⟨hr, hfin listed β ω c W hs hr h⟩
  | succ fuel ih =>
    intro listed β ω c W hs hcnt hcl h
    refine ⟨fun hr => hfin listed β ω c W hs hr h, fun i hmem => ?_⟩
    obtain ⟨h1, o, ho, hafter⟩ := mem_ready.1 hmem
    have hi := (Array.getElem?_eq_some_iff.1 ho).1
    have h1f : listed.getD i false = false := by rw [← gd listed i hs hi]; exact h1
    have hb : ∀ e ∈ binders o, listed.getD e false = true := fun e he => by
      unfold binders at he
      obtain ⟨e', he', rfl⟩ := List.mem_map.1 he
      obtain ⟨h2, h3⟩ := List.mem_filter.1 he'
      exact hafter e' (by simpa using h2) h3
    -- who else writes what this one touches
    have hothers : ∀ t, t ∈ rds R ops o ++ wrs R o → ∀ j o', ops[j]? = some o' → t ∈ wrs R o' → j ≠ i → (listed.getD j false = true ↔ j < i) := by
      intro t ht j o' ho' htw hne
      have hj := (Array.getElem?_eq_some_iff.1 ho').1
      rcases Nat.lt_or_ge j i with hlt | hge
      · refine ⟨fun _ => hlt, fun _ => ?_⟩
        rcases (okReg_spec hok ho).2 j o' hlt ho' with hbd | ⟨hno, _⟩
        · exact hb j hbd
        · exact absurd ht (hno t htw)
      · refine ⟨fun hl => ?_, fun hlt => by omega⟩
        exfalso
        have hgt : i < j := by omega
        rcases (okReg_spec hok ho').2 i o hgt ho with hbd | ⟨_, hno⟩
        · have := hcl j o' ho' hl i hbd
          rw [h1f] at this
          cases this
        · exact absurd ht (hno t htw)
    refine stp_ok (a := env i) (a' := env (i + 1)) hT hC h (hlen i (by omega)) ho (fun t ht u hu => ⟨i, by omega, fun j o' ho' htw => ?_, hu⟩) (hstp i o ho) fun β' ω' c' W' k1 k2 k3 => ?_
    · by_cases hne : j = i
      · subst hne
        rw [h1f]
        simp
      · exact hothers t ht j o' ho' htw hne
    · have hset : ∀ j, j ≠ i → (listed.setIfInBounds i true).getD j false = listed.getD j false := fun j hj => getD_set_ne false (Ne.symm hj)
      have hseti : (listed.setIfInBounds i true).getD i false = true := by simp [show i < listed.size by omega]
      refine ih (listed.setIfInBounds i true) β' ω' c' W' (by simpa using hs) ?_ (fun j o' ho' hl e he => ?_) (k3.imp fun t u hu => ?_)
      · have : left ops.size (listed.setIfInBounds i true) < left ops.size listed := by
          unfold left
          refine countP_lt (y := i) (fun x hx => ?_) (List.mem_range.2 hi) (by rw [h1]; rfl) (by simp [show i < listed.size by omega])
          by_cases hxi : x = i
          · subst hxi; rw [h1]; rfl
          · rw [getD_set_ne true (Ne.symm hxi)] at hx; exact hx
        omega
      · by_cases hji : j = i
        · subst hji
          rw [ho] at ho'
          injection ho' with ho'
          subst ho'
          exact getD_set_true (hb e he)
        · rw [hset j hji] at hl
          exact getD_set_true (hcl j o' ho' hl e he)
      · obtain ⟨m, hm, hiff, hu⟩ := hu
        by_cases ht : t ∈ wrs R o
        · refine .inr ⟨ht, ?_⟩
          have him : i < m := (hiff i o ho ht).1 hseti
          rw [← hu]
          refine (hkeep t (i + 1) m him hm fun j o' hj1 hj2 ho' htw => ?_).symm
          have hji : j ≠ i := by omega
          have h2 := (hiff j o' ho' htw).2 hj2
          rw [hset j hji] at h2
          have := (hothers t (by simp [ht]) j o' ho' htw hji).1 h2
          omega
        · refine .inl ⟨ht, m, hm, fun j o' ho' htw => ?_, hu⟩
          have hji : j ≠ i := fun e => by
            subst e
            rw [ho] at ho'
            injection ho' with ho'
            subst ho'
            exact ht htw
          rw [← hset j hji]
          exact hiff j o' ho' htw
end
end Go.Proofs.Yticngjjdjmadgaa.Den
end
section
set_option linter.unusedVariables false
set_option linter.unusedSimpArgs false
namespace Go.Proofs.Yticngjjdjmadgaa.Den
open Go Go.RowKit Go.Proofs.YticngjjdjmadgaaW.PrintWords
def okCode (R : Tbl) : Code → Bool
  | .region _ ops draw => !draw || okReg R ops
  | .seq x y => okCode R x && okCode R y
  | .cond _ x y => okCode R x && okCode R y
  | .block _ c => okCode R c
  | _ => true
def ex : X → Exit
  | .normal => .normal
  | .exit i => .exit i
  | .ret => .ret
section
variable {P : Program} {T : Tys} {C : Orc} {R : Tbl} {W0 : World} {S : Nat → Prop} {N : Nat}
theorem den_ok (hm : P.follows .mixedOrders = true) (hT : ∀ t ty, T t = some ty → TyOk P t ty) (hC : ∀ f, SoundF P f (C f)) :
    ∀ (code : Code) (a : List U) (β : Nat → Option Nat) (ω : Nat → Bool) (c : Act) (W : World) (k : X → List U → Prop) (Q : Exit → Act → World → Prop), okCode R code = true → den T real C R code a k → St W0 S N (Is a) β ω c W → a.length = N →
      (∀ e a' β' ω' c' W', k e a' → a'.length = N → St W0 S N (Is a') β' ω' c' W' → Q (ex e) c' W') → code.wp P Q c W := by
  intro code
  induction code with
  | skip => intro a β ω c W k Q _ hd h hN hk; exact wp_skip (hk .normal a β ω c W hd hN h)
  | ret => intro a β ω c W k Q _ hd h hN hk; exact wp_ret (hk .ret a β ω c W hd hN h)
  | exit id => intro a β ω c W k Q _ hd h hN hk; exact wp_exit (hk (.exit id) a β ω c W hd hN h)
  | region id ops draw =>
    intro a β ω c W k Q hok hd h hN hk
    cases draw with
    | false =>
      refine wp_region ?_
      have := seq_ok (ops := ops) (Q := Q) hT hC ops.toList 0 a β ω c W rfl h hN hd fun a' β' ω' c' W' h1 h2 h3 => hk .normal a' β' ω' c' W' h1 h2 h3
      rw [List.range_eq_range']
      simpa using this
    | true =>
      have hok' : okReg R ops = true := by simpa [okCode] using hok
      obtain ⟨env, e1, e2, e3⟩ := trace ops.toList a hd
      refine wp_region_any hm ?_
      refine any_ok hT hC hok' (env := env) (by rw [e1]; exact hN) (fun i o ho => e2 i o (by simpa using ho)) (fun β' ω' c' W' h1 h2 => hk .normal _ β' ω' c' W' e3 h1 h2) ops.size _ β ω c _ (by simp) ?_ (fun i o ho hl => ?_) ?_
      · unfold left
        refine Nat.le_trans List.countP_le_length ?_
        simp
      · exfalso
        simp [Array.getElem?_replicate] at hl
        split at hl <;> simp at hl
      · refine h.skip (fun _ _ => rfl) ((Below.refl _ _).drew) fun t u hu => ?_
        obtain ⟨m, hmn, hiff, hu⟩ := hu
        show a[t]? = some u
        rw [← e1, ← hu]
        have key : ∀ m, m ≤ ops.size → (∀ j o, ops[j]? = some o → t ∈ wrs R o → ((Array.replicate ops.size false).getD j false = true ↔ j < m)) → (env m)[t]? = (env 0)[t]? := by
          intro m hm hiff
          have hno : ∀ j o, ops[j]? = some o → t ∈ wrs R o → ¬ j < m := fun j o ho ht hlt => by
            have h1 := (hiff j o ho ht).2 hlt
            simp [Array.getElem?_replicate] at h1
            split at h1 <;> simp at h1
          clear hiff
          induction m with
          | zero => rfl
          | succ m ih =>
            have hlt : m < ops.size := by omega
            have hom : ops[m]? = some ops[m] := by simp [hlt]
            rw [(stp_keeps (e2 m ops[m] (by simp [hlt]))).2 t (fun ht => hno m _ hom ht (by omega))]
            exact ih (by omega) fun j o ho ht hj => hno j o ho ht (by omega)
        exact (key m hmn hiff).symm
  | seq x y ihx ihy =>
    intro a β ω c W k Q hok hd h hN hk
    have hok' : okCode R x = true ∧ okCode R y = true := by simpa [okCode] using hok
    unfold den at hd
    refine wp_seq (ihx a β ω c W _ _ hok'.1 hd h hN fun e a' β' ω' c' W' h1 h2 h3 => ?_)
    cases e with
    | normal => exact ihy a' β' ω' c' W' k Q hok'.2 h1 h3 h2 hk
    | exit i => exact hk (.exit i) a' β' ω' c' W' h1 h2 h3
    | ret => exact hk .ret a' β' ω' c' W' h1 h2 h3
  | cond x t e iht ihe =>
    intro a β ω c W k Q hok hd h hN hk
    have hok' : okCode R t = true ∧ okCode R e = true := by simpa [okCode] using hok
    unfold den at hd
    split at hd
    case h_2 => exact hd.elim
    rename_i b hx
    have hc : c.eval x = .bool b := rv_v h hN (fun z hz u hu => hu) (fun z hz s hs u hu => hu) hx
    cases b with
    | true => exact wp_cond_true hc (iht a β ω c W k Q hok'.1 hd h hN hk)
    | false => exact wp_cond_false hc (ihe a β ω c W k Q hok'.2 hd h hN hk)
  | block id x ih =>
    intro a β ω c W k Q hok hd h hN hk
    have hok' : okCode R x = true := by simpa [okCode] using hok
    unfold den at hd
    refine wp_block (ih a β ω c W _ _ hok' hd h hN fun e a' β' ω' c' W' h1 h2 h3 => ?_)
    cases e with
    | normal => exact hk .normal a' β' ω' c' W' h1 h2 h3
    | exit i =>
      simp only at h1
      show (if i = id then Q .normal c' W' else Q (.exit i) c' W')
      split at h1
      · rename_i he
        rw [if_pos he]
        exact hk .normal a' β' ω' c' W' h1 h2 h3
      · rename_i he
        rw [if_neg he]
        exact hk (.exit i) a' β' ω' c' W' h1 h2 h3
    | ret => exact hk .ret a' β' ω' c' W' h1 h2 h3
  | loop x ih => intro a β ω c W k Q _ hd; exact hd.elim
  | rangeFunc f ps x y ih1 ih2 => intro a β ω c W k Q _ hd; exact hd.elim
  | scope x ih => intro a β ω c W k Q _ hd; exact hd.elim
  | label l => intro a β ω c W k Q _ hd; exact hd.elim
  | goto l => intro a β ω c W k Q _ hd; exact hd.elim
  | refuse w => intro a β ω c W k Q _ hd; exact hd.elim
def rs1 (tmps : Array Value) : ResultVar → Sem Value
  | .tmp t => pure (tmps.getD t undef)
  | .cell a t => do loadVar t (← asAddr (tmps.getD a undef))
theorem results_eq (fn : Func) (tmps : Array Value) : results fn tmps = (do
    let vs ← fn.results.mapM (rs1 tmps)
    pure (if h : vs.size = 1 then vs[0] else .tuple vs)) := by
  unfold results
  congr 2
theorem ress_ok {a : List U} {β : Nat → Option Nat} {ω : Nat → Bool} {c : Act} {W : World} (hT : ∀ t ty, T t = some ty → TyOk P t ty) (h : St W0 S N (Is a) β ω c W) (hN : a.length = N) : ∀ {rs : List ResultVar} {us : List U}, ress T R a rs = some us →
    ∃ vs : List Value, (rs.mapM (rs1 c.tmps)).run P W = .ok vs W ∧ Reps (okOf W0.heap.size S β ω) W us vs
  | [], us, hr => by simp [ress] at hr; subst hr; exact ⟨[], by simp, trivial⟩
  | x :: rs, us, hr => by
    simp only [ress, Option.bind_eq_some_iff] at hr
    obtain ⟨u, hu, us', hus, he⟩ := hr
    injection he with he
    subst he
    obtain ⟨vs, f1, f2⟩ := ress_ok hT h hN hus
    have fin : ∀ v, (rs1 c.tmps x).run P W = .ok v W → ((x :: rs).mapM (rs1 c.tmps)).run P W = .ok (v :: vs) W := fun v hv => by
      simp only [List.mapM_cons, Sem.run_bind, hv, Result.andThen_ok, f1, Sem.run_pure]
    cases x with
    | tmp t =>
      have := pv_rep h hN (fun z hz u hu => hu) (fun z hz s hs u hu => hu) hu
      exact ⟨_, fin _ rfl, this, f2⟩
    | cell x t =>
      simp only [res1, Option.bind_eq_some_iff] at hu
      obtain ⟨⟨s, o, us0⟩, hat, ty, ht, hp⟩ := hu
      obtain ⟨_, _, _, g, te, ws, e1, e2, e3, e4, e5, e6⟩ := at_spec h hN (fun z hz u hu => hu) (fun z hz s hs u hu => hu) hat
      obtain ⟨v, g1, g2⟩ := run_load (hT t ty ht) e5 e6 e4 hp
      have e3' : c.tmps.getD x undef = .pointer (some ⟨g, o, none⟩) := e3
      refine ⟨_, fin v ?_, g2, f2⟩
      simp only [rs1, e3', asAddr, Sem.run_bind, Sem.run_pure, Result.andThen_ok]
      exact g1
theorem sound_of_body {f : FuncId} {fn : Func} {b : Code} {Rl : List U → U → Prop} (hm : P.follows .mixedOrders = true) (hT : ∀ t ty, T t = some ty → TyOk P t ty) (hC : ∀ f, SoundF P f (C f))
    (hf : P.funcs[f]? = some fn) (hname : (fn.name == "runtime.NumGoroutine") = false) (hb : fn.body = some b) (hok : okCode (roots [] b) b = true) (hR : ∀ us u, Rl us u → body T real C fn us u) : SoundF P f Rl := by
  intro us u hRu
  refine ⟨⟨fn, b, hf, hname, hb⟩, fun W S cs hcs => ?_⟩
  have hd := hR us u hRu
  unfold body at hd
  rw [hb] at hd
  simp only at hd
  refine calls_of_wp hf hb ?_
  have hl := hcs.len
  have hst : St W S (us ++ List.replicate (fn.ntmps - us.length) (U.v undef)).length (Is (us ++ List.replicate (fn.ntmps - us.length) (U.v undef))) (fun _ => none) (fun _ => false) { tmps := cs.toArray ++ Array.replicate (fn.ntmps - cs.toArray.size) undef, defers := [] } W := by
    refine ⟨rfl, by simp [hl], fun t x hx ht => ?_, (fun _ _ _ h => nomatch h), (fun _ _ h => nomatch h), Below.refl _ _⟩
    have hrep : Rep (okOf W.heap.size S (fun _ => none) (fun _ => false)) W x ((cs.toArray ++ Array.replicate (fn.ntmps - cs.toArray.size) undef).getD t undef) := by
      have hall : Reps (okOf W.heap.size S (fun _ => none) (fun _ => false)) W (us ++ List.replicate (fn.ntmps - us.length) (U.v undef)) (cs ++ List.replicate (fn.ntmps - us.length) undef) := by
        refine Reps.append (Reps.move (fun _ _ _ => rfl) (fun k hk _ => ⟨.inl hk, fun t ht => by cases ht⟩) _ _ hcs) ?_
        generalize fn.ntmps - us.length = n
        induction n with
        | zero => trivial
        | succ n ih => exact ⟨rfl, ih⟩
      obtain ⟨v, h1, h2⟩ := hall.nth hx
      have : (cs.toArray ++ Array.replicate (fn.ntmps - cs.toArray.size) undef).getD t undef = v := by
        have e : cs.toArray ++ Array.replicate (fn.ntmps - cs.toArray.size) undef = (cs ++ List.replicate (fn.ntmps - us.length) undef).toArray := by
          apply Array.toList_inj.1
          simp [hl]
        rw [e]
        simp [h1]
      rw [this]
      exact h2
    have hpl : x.plain = true := by cases x <;> first | rfl | exact hrep.elim
    exact (Slot.plain hpl).2 ⟨hrep, rfl, rfl⟩
  refine den_ok hm hT hC b _ _ _ _ _ _ _ hok hd hst rfl fun e a β ω c W' hk hN h => ?_
  have hfin : result T (roots [] b) fn a = some u → c.defers = [] ∧ ∃ v, (results fn c.tmps).run P W' = .ok v W' ∧ ∃ v', Ending.returned v = .returned v' ∧ Rep (fun k => S k ∨ W.heap.size ≤ k) W' u v' ∧ Below W.heap.size W W' := fun hr => by
    unfold result at hr
    obtain ⟨ws, hws, hr⟩ := Option.bind_eq_some_iff.1 hr
    obtain ⟨vs, g1, g2⟩ := ress_ok hT h hN hws
    have g2' : Reps (fun k => S k ∨ W.heap.size ≤ k) W' ws vs := g2.move (fun _ _ _ => rfl) (fun k hk _ => hk.1)
    have hrun : (results fn c.tmps).run P W' = .ok (if h : vs.length = 1 then vs[0] else .tuple vs.toArray) W' := by
      rw [results_eq, Array.mapM_eq_mapM_toList]
      simp [g1]
    refine ⟨h.defers, _, hrun, _, rfl, ?_, h.below⟩
    have hlen := g2'.len
    split at hr
    · rename_i u'
      injection hr with hr
      subst hr
      cases vs with
      | nil => simp at hlen
      | cons v vs =>
        cases vs with
        | nil => exact g2'.1
        | cons _ _ => simp at hlen
    · rename_i hne
      injection hr with hr
      subst hr
      have h1 : ¬ vs.length = 1 := fun e => by
        rw [e] at hlen
        obtain ⟨x, hx⟩ := List.length_eq_one_iff.1 hlen
        exact hne x hx
      rw [dif_neg h1]
      exact ⟨vs, rfl, g2'⟩
  cases e with
  | normal => exact hfin hk
  | ret => exact hfin hk
  | exit i => exact hk.elim
end
end Go.Proofs.Yticngjjdjmadgaa.Den
end
section
set_option linter.unusedVariables false
set_option linter.unusedSimpArgs false
namespace Go.Proofs.Yticngjjdjmadgaa.Den
open Go Go.RowKit Go.Proofs.YticngjjdjmadgaaW.PrintWords Go.Proofs.YticngjjdjmadgaaW.PrintMore
def tyList : List (TypeId × Ty) := [(2, .int .i64), (3, .int .i64), (4, .bool), (5, .int .u8), (23, .row), (25, .struct [.v (.bool false), .l []] [(0, 1, false), (1, 1, false)]),
  (27, .struct [.v (.bool false), .l [], .l []] [(0, 2, true), (2, 1, false)]), (31, .int .i64), (35, .struct [.v (.bool false), .l [], .l [], .v (.int .i64 0)] [(0, 3, true), (3, 1, false)]),
  (39, .int .i8), (49, .int .u32), (56, .array 2 .i8), (66, .int .u64), (89, .struct [.l [], .l [], .v (.bool false)] [(0, 1, false), (1, 1, false), (2, 1, false)])]
def look (t : Nat) : List (TypeId × Ty) → Option Ty
  | [] => none
  | (s, ty) :: rest => if s = t then some ty else look t rest
def tys : Tys := fun t => look t tyList
def cellB : Value → U → Bool
  | .bool a, .v (.bool b) => a == b
  | .int k n, .v (.int k' m) => decide (k = k') && decide (n = m)
  | .slice none 0 0, .l [] => true
  | _, _ => false
def cellsB : List Value → List U → Bool
  | [], [] => true
  | v :: vs, u :: us => cellB v u && cellsB vs us
  | _, _ => false
def fieldsB (P : Program) : List Field → List (Nat × Nat × Bool) → Bool
  | [], [] => true
  | f :: fs, x :: xs => decide (f.offset = x.1) && (match P.info? f.type with
    | some i => decide (i.size = x.2.1)
    | none => false) && (match P.underlying f.type with
    | some d => aggD d == x.2.2
    | none => false) && fieldsB P fs xs
  | _, _ => false
def shapeB (P : Program) : TypeDesc → Ty → Bool
  | .bool, .bool => true
  | .int k, .int k' => decide (k = k')
  | .slice e, .row => decide (e = 49) && (match P.info? e with
    | some ie => decide (ie.size = 1) && decide (ie.bytes = 4) && (match ie.zero with
      | some (.int .u32 n) => decide (n = 0)
      | _ => false)
    | none => false)
  | .struct fields, .struct _ fs => fieldsB P fields.toList fs
  | .array n e, .array n' _ => decide (n = n') && (match P.info? e with
    | some ie => decide (ie.size = 1)
    | none => false)
  | _, _ => false
def tyB (P : Program) (t : TypeId) (ty : Ty) : Bool := match P.info? t, P.underlying t with
  | some i, some d => decide (i.size = ty.size) && (aggD d == ty.isAgg) && (match i.zero with
    | some z => cellsB z.cells.toList ty.zero
    | none => false) && shapeB P d ty
  | _, _ => false
theorem cellB_ok {v : Value} {u : U} (h : cellB v u = true) : (∀ ok W, Rep ok W u v) ∧ v.oneCell' = true := by
  unfold cellB at h
  split at h
  · have := eq_of_beq h
    subst this
    exact ⟨fun _ _ => rfl, rfl⟩
  · simp only [Bool.and_eq_true, decide_eq_true_eq] at h
    obtain ⟨rfl, rfl⟩ := h
    exact ⟨fun _ _ => rfl, rfl⟩
  · exact ⟨fun ok W => rep_nil ok W, rfl⟩
  · cases h
theorem cellsB_ok : ∀ {vs : List Value} {us : List U}, cellsB vs us = true → (∀ ok W, Reps ok W us vs) ∧ ∀ v ∈ vs, v.oneCell' = true
  | [], [], _ => ⟨fun _ _ => trivial, fun v hv => by cases hv⟩
  | v :: vs, u :: us, h => by
    simp only [cellsB, Bool.and_eq_true] at h
    obtain ⟨h1, h2⟩ := h
    obtain ⟨e1, e2⟩ := cellB_ok h1
    obtain ⟨e3, e4⟩ := cellsB_ok h2
    refine ⟨fun ok W => ⟨e1 ok W, e3 ok W⟩, fun w hw => ?_⟩
    rcases List.mem_cons.1 hw with rfl | hw
    · exact e2
    · exact e4 w hw
  | [], _ :: _, h => by cases h
  | _ :: _, [], h => by cases h
theorem fieldsB_ok {P : Program} : ∀ {fs : List Field} {xs : List (Nat × Nat × Bool)}, fieldsB P fs xs = true → fieldsOk P fs xs
  | [], [], _ => trivial
  | f :: fs, x :: xs, h => by
    simp only [fieldsB, Bool.and_eq_true, decide_eq_true_eq] at h
    obtain ⟨⟨⟨h1, h2⟩, h3⟩, h4⟩ := h
    refine ⟨⟨h1, ?_, ?_⟩, fieldsB_ok h4⟩
    · split at h2
      · rename_i i hi
        exact ⟨i, hi, by simpa using h2⟩
      · cases h2
    · split at h3
      · rename_i d hd
        exact ⟨d, hd, eq_of_beq h3⟩
      · cases h3
  | [], _ :: _, h => by cases h
  | _ :: _, [], h => by cases h
theorem tyB_ok {P : Program} {t : TypeId} {ty : Ty} (h : tyB P t ty = true) : TyOk P t ty := by
  unfold tyB at h
  split at h
  case h_2 => cases h
  rename_i i d hi hd
  simp only [Bool.and_eq_true, decide_eq_true_eq] at h
  obtain ⟨⟨⟨h1, h2⟩, h3⟩, h4⟩ := h
  refine ⟨?_, d, hd, eq_of_beq h2, ?_⟩
  · split at h3
    · rename_i z hz
      obtain ⟨e1, e2⟩ := cellsB_ok h3
      exact ⟨i, z, hi, h1, hz, z.cells.toList, rfl, e1, e2⟩
    · cases h3
  · unfold shapeB at h4
    split at h4
    · rfl
    · have := of_decide_eq_true h4
      subst this
      rfl
    · simp only [Bool.and_eq_true, decide_eq_true_eq] at h4
      obtain ⟨rfl, h5⟩ := h4
      split at h5
      case h_2 => cases h5
      rename_i ie hie
      simp only [Bool.and_eq_true, decide_eq_true_eq] at h5
      obtain ⟨⟨h6, h7⟩, h8⟩ := h5
      split at h8
      case h_2 => cases h8
      rename_i n hz
      have := of_decide_eq_true h8
      subst this
      exact ⟨49, ie, rfl, rfl, hie, h6, h7, hz⟩
    · exact ⟨_, rfl, fieldsB_ok h4⟩
    · simp only [Bool.and_eq_true, decide_eq_true_eq] at h4
      obtain ⟨rfl, h5⟩ := h4
      split at h5
      case h_2 => cases h5
      rename_i ie hie
      exact ⟨_, ie, rfl, hie, of_decide_eq_true h5⟩
    · cases h4
theorem look_mem {t : Nat} {ty : Ty} : ∀ {l : List (TypeId × Ty)}, look t l = some ty → (t, ty) ∈ l
  | [], h => by cases h
  | (s, ty') :: rest, h => by
    unfold look at h
    split at h
    · rename_i e
      subst e
      injection h with h
      subst h
      simp
    · exact List.mem_cons_of_mem _ (look_mem h)
theorem tys_ok : ∀ t ty, tys t = some ty → TyOk Try.prog t ty := fun t ty h =>
  tyB_ok (List.all_eq_true.1 (show (tyList.all fun e => tyB Try.prog e.1 e.2) = true by kernel_rfl) (t, ty) (look_mem h))
theorem mixed : Try.prog.follows .mixedOrders = true := by kernel_rfl
def orc : List (Nat × (List U → U → Prop)) → Orc
  | [], _, _, _ => False
  | (g, R) :: l, f, us, u => (f = g ∧ R us u) ∨ orc l f us u
theorem orc_nil {P : Program} : ∀ f, SoundF P f (orc [] f) := fun _ _ _ h => h.elim
theorem orc_cons {P : Program} {g : Nat} {R : List U → U → Prop} {l : List (Nat × (List U → U → Prop))} (h : SoundF P g R) (hl : ∀ f, SoundF P f (orc l f)) : ∀ f, SoundF P f (orc ((g, R) :: l) f) := fun f us u h' => by
  rcases h' with ⟨rfl, h'⟩ | h'
  · exact h us u h'
  · exact hl f us u h'
def bodyOf (fn : Func) : Code := match fn.body with
  | some c => c
  | none => .skip
theorem sound {f : FuncId} {fn : Func} {l : List (Nat × (List U → U → Prop))} {Rl : List U → U → Prop} (hl : ∀ f, SoundF Try.prog f (orc l f)) (hf : Try.prog.funcs[f]? = some fn) (hname : (fn.name == "runtime.NumGoroutine") = false) (hb : fn.body.isSome = true)
    (hok : okCode (roots [] (bodyOf fn)) (bodyOf fn) = true) (hR : ∀ us u, Rl us u → body tys real (orc l) fn us u) : SoundF Try.prog f Rl :=
  sound_of_body (b := bodyOf fn) mixed tys_ok hl hf hname (by unfold bodyOf; cases h : fn.body <;> simp_all) hok hR
theorem iteE {β : Type} {c : Prop} [Decidable c] {x y : Option β} {z : β} {Q : Prop} (h : (if c then x else y) = some z) (h1 : c → x = some z → Q) (h2 : ¬ c → y = some z → Q) : Q := by
  by_cases hc : c
  · rw [if_pos hc] at h; exact h1 hc h
  · rw [if_neg hc] at h; exact h2 hc h
theorem t1 {b : Bool} {p q : Prop} (hb : b = true) (h : b = true → p) : if b = true then p else q := by rw [if_pos hb]; exact h hb
theorem t2 {b : Bool} {p q : Prop} (hb : b = false) (h : b = false → q) : if b = true then p else q := by rw [if_neg (by rw [hb]; simp)]; exact h hb
theorem t3 {b : Bool} {p q : Prop} (hb : b = false) (h : b = false → p) : if b = false then p else q := by rw [if_pos hb]; exact h hb
theorem t4 {b : Bool} {p q : Prop} (hb : b = true) (h : b = true → q) : if b = false then p else q := by rw [if_neg (by rw [hb]; simp)]; exact h hb
theorem w64 (x : Int) : IntKind.i64.wrap x = wrap64 x := by unfold wrap64; exact IntKind.wrap_i64 x
theorem b00 : (false == false) = true := rfl
theorem b01 : (false == true) = false := rfl
theorem b10 : (true == false) = false := rfl
theorem b11 : (true == true) = true := rfl
theorem n00 : (false != false) = false := rfl
theorem n01 : (false != true) = true := rfl
theorem n10 : (true != false) = true := rfl
theorem n11 : (true != true) = false := rfl
theorem nthE {nth : List Int → Int → Option Int} {nv : List Int → Int → Int} (e : nth = real.nth) (hn : nv = rd) {l : List Int} {i : Int} (h0 : 0 ≤ i) (h1 : i < l.length) : nth l i = some (nv l i) := by
  subst e hn
  simp only [real]
  rw [if_pos h0]
  have : i.toNat < l.length := by omega
  simp [rd, this]
theorem mxE (a b : Int) : (if b > a then b else a) = mx a b := rfl
theorem splice_self (l : List Int) : splice (List.replicate ((l.length : Int)).toNat 0) 0 l = l := by
  unfold splice
  simp
theorem zrow {len : List Int → Int} {zeros : Int → Int → Option (List Int)} {copy : List Int → List Int → List Int} (elen : len = real.len) (ez : zeros = real.zeros) (ec : copy = real.copy) :
    ∃ zz : List Int → List Int, (∀ l, l.length ≤ 70368744177664 → zeros (len l) (len l) = some (zz l)) ∧ ∀ l, copy (zz l) l = l := by
  subst elen ez ec
  refine ⟨fun l => List.replicate l.length 0, fun l h => ?_, fun l => ?_⟩
  · simp only [real]
    rw [if_pos ⟨trivial, by omega, by omega⟩]
    simp
  · simp [real]
theorem rep_R {W : World} {base : Nat} {ok : Nat → Prop} {S : Nat → Prop} {v : Value} {xs : List Int} (h : Kd.R (Kd.int .u32) 49 W base ok v xs) : Rep (fun k => S k ∨ base ≤ k) W (.l xs) v := by
  obtain ⟨A, c, rfl⟩ := Kd.R_slice h
  exact ⟨A, c, rfl, (Kd.R_reads' h).2.1, Kd.F_mono (Kd.R_F (Kd.R_bound h)) fun k hk => .inr hk.2.1⟩
theorem one_R {W : World} {base : Nat} {ok : Nat → Prop} {v : Value} {xs : List Int} (h : Kd.R (Kd.int .u32) 49 W base ok v xs) : v.oneCell' = true := by
  obtain ⟨A, c, rfl⟩ := Kd.R_slice h
  rfl
theorem below_drawn {w w' : World} (h : Drawn0 w w') : Below w.heap.size w w' := by
  obtain ⟨n, rfl⟩ := h
  exact pw_below_drewN (Below.refl _ _) n
end Go.Proofs.Yticngjjdjmadgaa.Den
end
