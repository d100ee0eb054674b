/- Part 7 of the proof. -/
import Derived.Test.YtjkcmnedolfkjaaGreatProg
import Derived.Laws.Tables
import Derived.Orders
import Derived.Below
import Derived.Deep.Draws
import Derived.Deep.AppendLies
import Derived.Maps.AppendAt
import Derived.OwnWalk
import Derived.Laws.BytesArg
import Derived.Laws.MakeOwn
import Derived.Laws.OwnMore
import Derived.Deep.OwnRows
import Derived.Tactics
import Derived.Lib.ConvBytes
import Derived.Laws.Slices
import Derived.WalkKit
import Derived.KernelRfl
import Derived.RowKit3
import Derived.Deep.LoopGhost
import Derived.Deep.QuietTactic
import Derived.BigQuiet
import Derived.WideLaws
import Derived.Deep.DeepCutAuto
import Derived.Deep.CutBlock
import Derived.Deep.RegionHeld3
import Derived.Laws.Rows
import Derived.Lib.AppendStr
import Derived.ArgAppend
import Derived.Laws.IdiomCopy
import Derived.RowKit
import Derived.OrdersHeld
import Derived.Laws.BitsLemmas
import Derived.Laws.Cells
import Derived.Great.BuildSlice
import Derived.Deep.Slices
import Derived.Laws.AppendOwn
import Derived.Laws.LoneSync
import Derived.LoopN
import Derived.Laws.StructEq
import Derived.Laws.Bits64b
import Derived.Laws.BitsAllLaws
import Derived.Conc.MuLone
import Derived.RegionTactic
import Derived.RegionCalls
import Derived.ChangeAlike
import Derived.Test.YtjkcmnedolfkjaaGreatW6
set_option linter.unusedVariables false
set_option linter.unusedSimpArgs false
section
set_option linter.unusedVariables false
set_option linter.unusedSimpArgs false
set_option maxRecDepth 100000
set_option maxHeartbeats 4000000
namespace Go.Proofs.YtjkcmnedolfkjaaGreat.Rd
open Go Go.RowKit Go.Proofs.YtjkcmnedolfkjaaGreatW.PrintWords Go.Proofs.YtjkcmnedolfkjaaGreat.PL Go.Proofs.YtjkcmnedolfkjaaGreat.Num
theorem alike {α : Type} {a b : List α} {n : Int} (hn : cnt a = n) (hb : cnt b = n) (h : ∀ (x : Nat),(x : Int) < n → a[x]? = b[x]?) : a = b := by
 unfold cnt at *
 refine List.ext_getElem? fun x => ?_
 by_cases e : (x : Int) < n
 ·exact h x e
 ·rw [List.getElem?_eq_none (by omega),List.getElem?_eq_none (by omega)]
theorem apart {α : Type} {a b : List α} {i : Int} {x y : α} (h1 : a[i.toNat]? = some x) (h2 : b[i.toNat]? = some y) (h : x ≠ y) : ¬ a = b := fun e => by
 rw [e,h2] at h1
 injection h1 with h1
 exact h h1.symm
theorem j4o {α : Type} {a b : List α} {i : Int} {x : α} (h0 : 0 ≤ i) (h1 : a[i.toNat]? = some x) (h2 : b[i.toNat]? = some x) (h : ∀ (x : Nat),(x : Int) < i → a[x]? = b[x]?) : ∀ (x : Nat),(x : Int) < i + 1 → a[x]? = b[x]? := fun x hx => by
 by_cases e : (x : Int) = i
 ·have : x = i.toNat := by omega
  rw [this,h1,h2]
 ·exact h x (by omega)
def qBh (us : List U) (u : U) : Prop := ∃ a b : List Bool,cnt a ≤ 1000000 ∧ us = [.s 1 (uB a),.s 1 (uB b)] ∧ u = ub (decide (a = b))
theorem qJz : q0w Tryz.prog 14 qBh := sound [] q0v Tryz.func14 (by kernel_rfl) (by kernel_rfl) fun us u hR => by
 obtain ⟨a,b,hn,rfl,hu⟩ := hR
 obtain ⟨r,hr⟩ : ∃ r,(cnt a).toNat < r := ⟨_,Nat.lt_succ_self _⟩
 refine ⟨r,fun C E hC => ?_⟩
 have hva := fun i (h0 : 0 ≤ i) (h1 : i < cnt a) => q2l (c := a) (fun x => [ub x]) h0 h1
 have hvb := fun i (h0 : 0 ≤ i) (h1 : i < cnt b) => q2l (c := b) (fun x => [ub x]) h0 h1
 have hca := q2r a fun x => [ub x]
 have hcb := q2r b fun x => [ub x]
 have ha0 := q6s a
 unfold uB
 generalize a.map (fun x => [ub x]) = xs at *
 generalize b.map (fun x => [ub x]) = ys at *
 cbv
 rcases Decidable.em (cnt a = cnt b) with h1 | h1
 case inr =>
  rw [decide_eq_false (fun e => h1 (by rw [e]))] at hu
  (repeat ((first | refine ln fun _ _ _ => ?_ | refine tt ?_); cbv))
  exact hu.symm
 (repeat ((first | refine ln fun _ _ _ => ?_ | refine ff ?_); cbv))
 refine q4n [0,1,5] ?_
 cbv
 refine q2g (fun j a1 h => ∃ i : Int,0 ≤ i ∧ i ≤ cnt a ∧ j = (cnt a - i).toNat ∧ (∀ (x : Nat),(x : Int) < i → a[x]? = b[x]?) ∧ a1 = [.s 1 xs,.s 1 ys,.lost,.lost,.lost,ui i,.lost,.lost,.lost,.lost,.lost,.lost,.lost,.lost,.lost,.lost,.lost,.lost,.lost,.lost,.lost,.lost,.lost,.lost,.lost,.lost] ∧ h = []) ?_ r (cnt a).toNat _ _ hr ⟨0,by omega,by omega,by omega,fun x hx => absurd hx (by omega),rfl,rfl⟩
 rintro j a1 h K ⟨i,i0,i1,hj,hI,rfl,rfl⟩ hK
 rcases Decidable.em (i < cnt a) with hlt | hlt
 ·obtain ⟨x,hx,hx2⟩ := hva i i0 hlt
  obtain ⟨y,hy,hy2⟩ := hvb i i0 (by omega)
  rcases Decidable.em (x = y) with e | e
  ·subst e
   have hI := j4o i0 hx hy hI
   clear hu
   cases x <;> (
    cbv
    (repeat ((first | refine ln fun _ _ _ => ?_ | refine tt ?_); cbv))
    refine el ?_ (by omega) hx2
    cbv
    (repeat ((first | refine ln fun _ _ _ => ?_ | refine tt ?_ | refine ff ?_ | refine wr fun _ _ => ?_ | refine rp fun _ _ _ => ?_ | with_reducible refine bq ?_ | refine cl ?_ | refine sd ?_ | intro _ _); cbv))
    refine el ?_ (by omega) hy2
    cbv
    (repeat ((first | refine wr fun _ _ => ?_ | with_reducible refine bq ?_); cbv))
    rename_i q' hq'
    refine q4n [0,1,5] ?_
    exact hK (cnt a - (i + 1)).toNat _ _ (by omega) ⟨i + 1, by omega, by omega, rfl, hI, by rw [hq']; rfl, rfl⟩)
  ·rw [decide_eq_false (apart hx hy e)] at hu
   clear hI hK
   cases x <;> cases y <;> first | exact absurd rfl e | (
    cbv
    (repeat ((first | refine ln fun _ _ _ => ?_ | refine tt ?_); cbv))
    refine el ?_ (by omega) hx2
    cbv
    (repeat ((first | refine ln fun _ _ _ => ?_ | refine tt ?_ | refine ff ?_ | refine wr fun _ _ => ?_ | refine rp fun _ _ _ => ?_ | with_reducible refine bq ?_ | refine cl ?_ | refine sd ?_ | intro _ _); cbv))
    refine el ?_ (by omega) hy2
    cbv
    (repeat ((with_reducible refine bq ?_); cbv))
    exact hu.symm)
 ·rw [decide_eq_true (alike rfl h1.symm fun x hx => hI x (by omega))] at hu
  clear hI hK
  cbv
  (repeat ((first | refine ln fun _ _ _ => ?_ | refine ff ?_); cbv))
  exact hu.symm
theorem j1d {a b : List Int} (h : cnt a ≤ 1000000) : q0p.R [.l a,.l b] (ub (decide (a = b))) := by obtain ⟨k,hk⟩ := (qQc a b (by unfold cnt at h; omega)).rounds; exact ⟨k,_,_,_,rfl,hk,rfl⟩
def qUs (us : List U) (u : U) : Prop := ∃ s1 l1 s2 l2,cnt l1 ≤ 1000000 ∧ us = [.agg [ub s1,.l l1],.agg [ub s2,.l l2]] ∧ u = ub (decide ((s1,l1) = (s2,l2)))
theorem qYs : q0w Tryz.prog 54 qUs := sound [(55, q0p.R)] (q0c q0p.sound q0v) Tryz.func54 (by kernel_rfl) (by kernel_rfl) fun us u hR =>                                                 ⟨0, fun C E hC => by
 obtain ⟨s1,l1,s2,l2,h,rfl,hu⟩ := hR
 have k := hC 55 q0p.R (by simp) _ _ (j1d (b := l2) h)
 by_cases h1 : s1 = s2
 ·rw [show decide ((s1,l1) = (s2,l2)) = decide (l1 = l2) by rw [decide_eq_decide]; simp [h1]] at hu
  generalize decide (l1 = l2) = t at *
  cases s1 <;> cases s2 <;> first | exact absurd h1 (by decide) | (cbv; (repeat ((first | with_reducible refine bq ?_ | refine cl ?_); cbv)); exact hu.symm)
 ·rw [decide_eq_false (show ¬ (s1,l1) = (s2,l2) by simp [h1])] at hu
  cases s1 <;> cases s2 <;> first | exact absurd rfl h1 | (cbv; (repeat ((with_reducible refine bq ?_); cbv)); exact hu.symm)⟩
def qIr (us : List U) (u : U) : Prop := ∃ a b : R3,cnt a.2.1 ≤ 1000000 ∧ cnt a.2.2 ≤ 1000000 ∧ us = [uR a,uR b] ∧ u = ub (decide (a = b))
theorem qMl : q0w Tryz.prog 24 qIr := sound [(54, qUs), (55, q0p.R)] (q0c qYs (q0c q0p.sound q0v)) Tryz.func24 (by kernel_rfl) (by kernel_rfl) fun us u hR =>                                                            ⟨0, fun C E hC => by
 obtain ⟨⟨s1,l1,b1⟩,⟨s2,l2,b2⟩,h,h',rfl,hu⟩ := hR
 have k1 := hC 54 qUs (by simp) _ _ ⟨s1,l1,s2,l2,h,rfl,rfl⟩
 have k2 := hC 55 q0p.R (by simp) _ _ (j1d (b := b2) h')
 have e : decide ((s1,l1,b1) = (s2,l2,b2)) = (decide ((s1,l1) = (s2,l2)) && decide (b1 = b2)) := by rw [Bool.eq_iff_iff]; simp [and_assoc]
 rw [e] at hu
 clear e h h'
 generalize decide ((s1,l1) = (s2,l2)) = t1 at *
 generalize decide (b1 = b2) = t2 at *
 cases t1 <;> cases t2 <;> cbv <;> (repeat ((refine cl ?_); cbv)) <;> exact hu.symm⟩
def q3v : List Tm := [⟨2,0,0,0,q7a⟩,⟨2,0,0,1,q7a⟩,⟨6,0,1,0,q7a⟩,⟨1,0,0,0,q0x 1⟩,⟨4,2,3,0,q7a⟩]
def j4q (us : List U) (u : U) : Prop := us = [] ∧ u = cU q3v
theorem by_q {C : Orc} (h : qNs C 26 byR) (a b : Int) (q : Rat) (h0 : -9223372036854775808 ≤ a ∧ a ≤ 9223372036854775807 ∧ 0 < b ∧ b ≤ 9223372036854775807) (hq : (a : Rat) / (b : Rat) = q) (hf : fits q = true) : ∃ s l d,C 26 [ui a,ui b] (.agg [ub s,.l l,.l d]) ∧ (s,l,d) = q0x q := by
 subst hq
 exact tR (h _ _ ⟨a,b,h0.1,h0.2.1,h0.2.2.1,h0.2.2.2,hf,rfl,rfl⟩)
theorem j1l : q0w Tryz.prog 33 j4q := sound [(26, byR)] (q0c by_ok q0v) Tryz.func33 (by kernel_rfl) (by kernel_rfl) fun us u hR =>                   ⟨0, fun C E hC => by
 obtain ⟨rfl,hu⟩ := hR
 obtain ⟨s,l,d,k1,e⟩ := by_q (hC 26 byR (by simp)) 1 1 1 (by decide) (by decide +kernel) (by decide +kernel)
 have hu : u = .s 7 [[ui 2,ui 0,ui 0,ui 0,ub false,.l [],.l []],[ui 2,ui 0,ui 0,ui 1,ub false,.l [],.l []],[ui 6,ui 0,ui 1,ui 0,ub false,.l [],.l []],[ui 1,ui 0,ui 0,ui 0,ub s,.l l,.l d],[ui 4,ui 2,ui 3,ui 0,ub false,.l [],.l []]] := by
  rw [hu]
  unfold cU q3v
  rw [← e]
  rfl
 clear e
 cbv; (repeat ((refine cl ?_); cbv)); exact hu.symm⟩
def ofR' (us : List U) (u : U) : Prop := ∃ c i xs x,(∀ t ∈ c,LB t.q) ∧ cnt c ≤ 1000000 ∧ (∀ a ∈ xs,LB a) ∧ cnt xs ≤ 1000000 ∧ qTb x (qsU xs) ∧ us = [cU c,ui i,x] ∧ u = uR4 (ofS c i xs)
theorem of_ok' : q0w Tryz.prog 22 ofR' := j1k of_ok fun us u ⟨c,i,xs,x,h1,h2,h3,h4,h5,h6,h7⟩ => ⟨_,u,⟨c,i,xs,h1,h2,h3,h4,rfl,h7⟩,by rw [h6]; exact ⟨.inl rfl,.inl rfl,h5,trivial⟩,.inl rfl⟩
theorem LB_q {q : Rat} (h : fits q = true) : LB (q0x q) := (q5f h).wide
theorem qDt : ∀ t ∈ q3v,LB t.q := fun t h => by
 unfold q3v at h
 simp only [List.mem_cons,List.not_mem_nil,or_false] at h
 rcases h with rfl | rfl | rfl | rfl | rfl <;> first | exact qDi | exact LB_q qNq
theorem q3w {t : Tm} (h : t.k = 7 ∨ t.k = 8) : q5z t = [t.a] := by unfold q5z; rw [if_pos h]
theorem q6e {t : Tm} (h : t.k = 3 ∨ t.k = 4 ∨ t.k = 5 ∨ t.k = 6) : q5z t = [t.a,t.b] := by unfold q5z; rw [if_neg (by omega),if_pos h]
theorem q8i {c : List Tm} {s : Int} {x : Nat} : ∀ {N M : Nat},x < N → N ≤ M → (q2a c s M)[x]? = (q2a c s N)[x]?
 | N,0,h1,h2 => absurd h2 (by omega)
 | N,M + 1,h1,h2 => by
  by_cases e : N = M + 1
  ·rw [e]
  ·rw [← q8i (M := M) h1 (by omega)]
   conv => lhs; unfold q2a
   split
   ·unfold qKj
    split
    ·rfl
    ·rw [List.getElem?_set_ne (by omega)]
   ·rfl
theorem qLc {c : List Tm} {s : Int} {q : Nat} {t : Tm} (ht : c[q]? = some t) (h1 : t.k ≠ 1) : (q2a c s (q + 1))[q]? = some (qHv (q2a c s q) s t) := by
 have hlt := (List.getElem?_eq_some_iff.1 ht).1
 have hl := cnt_eq (q7g c s q)
 rw [q2a,ht]
 show (qKj _ _ _ _)[q]? = _
 unfold qKj
 rw [if_neg h1,List.getElem?_set_self (by omega)]
theorem qCv {c : List Tm} {s : Int} {q : Nat} {t : Tm} (ht : c[q]? = some t) (hok : q1n t q = true) (hl : (q2a c s c.length)[q]? = some true) :
  t.k = 2 ∨ ((t.k = 7 ∨ (t.k = 8 ∧ t.n ≠ 0)) ∧ bAt (q2a c s c.length) t.a = true) ∨ ((t.k = 3 ∨ t.k = 4 ∨ t.k = 5 ∨ t.k = 6) ∧ (bAt (q2a c s c.length) t.a = true ∨ bAt (q2a c s c.length) t.b = true)) := by
 have hlt := (List.getElem?_eq_some_iff.1 ht).1
 have h1 : t.k ≠ 1 := fun h => by
  rw [qCo ht h c.length] at hl
  injection hl with hl
  cases hl
 rw [q8i (N := q + 1) (by omega) (by omega),qLc ht h1] at hl
 injection hl with hl
 have hst : ∀ x : Int,0 ≤ x → x < q → bAt (q2a c s q) x = bAt (q2a c s c.length) x := fun x h0 h2 => by
  unfold bAt
  rw [q8i (N := q) (M := c.length) (by omega) (by omega)]
 unfold qHv at hl
 rcases q1v hok with h | ⟨h,h2⟩ | ⟨h,h2,h3⟩ | ⟨h,h2⟩ | ⟨h,h2,h3⟩
 ·exact absurd h h1
 ·exact .inl h
 ·rw [if_neg (by omega),if_neg (by omega),if_neg (by omega),Bool.or_eq_true,hst _ h2.1 h2.2,hst _ h3.1 h3.2] at hl
  exact .inr (.inr ⟨h,hl⟩)
 ·rw [if_neg (by omega),if_pos h,hst _ h2.1 h2.2] at hl
  exact .inr (.inl ⟨.inl h,hl⟩)
 ·rw [if_neg (by omega),if_neg (by omega),if_pos h,Bool.and_eq_true,hst _ h2.1 h2.2] at hl
  refine .inr (.inl ⟨.inr ⟨h,fun e => ?_⟩,hl.2⟩)
  rw [e] at hl
  simp at hl
theorem q4h {c : List Tm} {t : Tm} (h : q4j c = true) (ht : q1n t (cnt c) = true) : q4j (c ++ [t]) = true := q1j.2 fun j u hj => by
 rcases Nat.lt_trichotomy j c.length with hlt | e | hgt
 ·rw [List.getElem?_append_left hlt] at hj
  exact q1j.1 h j u hj
 ·subst e
  rw [List.getElem?_append_right (Nat.le_refl _),Nat.sub_self] at hj
  injection hj with hj
  subst hj
  exact ht
 ·rw [List.getElem?_eq_none (by rw [List.length_append]; simp; omega)] at hj
  cases hj
theorem qE : qKb q7a.1 q7a.2.1 q7a.2.2 = true := rfl
theorem q6p {k a b i : Int} (hk : k = 3 ∨ k = 4 ∨ k = 5 ∨ k = 6) (ha : 0 ≤ a ∧ a < i) (hb : 0 ≤ b ∧ b < i) : q1n (mkT k a b 0) i = true := by
 unfold q1n mkT
 dsimp only
 rw [if_neg (by omega),qE,if_neg (by omega),if_neg (by omega),if_neg (by omega),if_pos hk]
 unfold kid
 simp [ha.1,ha.2,hb.1,hb.2]
theorem qWx {a i : Int} (ha : 0 ≤ a ∧ a < i) : q1n (mkT 7 a 0 0) i = true := by
 unfold q1n mkT
 dsimp only
 rw [if_neg (by omega),qE,if_neg (by omega),if_pos rfl]
 unfold kid
 simp [ha.1,ha.2]
theorem qSe {a n i : Int} (ha : 0 ≤ a ∧ a < i) (hn : -128 ≤ n ∧ n ≤ 128) : q1n (mkT 8 a 0 n) i = true := by
 unfold q1n mkT
 dsimp only
 rw [if_neg (by omega),qE,if_neg (by omega),if_neg (by omega),if_pos rfl]
 unfold kid
 simp [ha.1,ha.2,hn.1,hn.2]
theorem qUy {v i : Int} (h : fits (v : Rat) = true) : q1n (q9o v) i = true := by
 unfold q1n q9o
 dsimp only
 rw [if_pos rfl,q2o h]
 simp
theorem q7q {v : Int} (h : -128 ≤ v ∧ v ≤ 128) : fits (v : Rat) = true := by
 have key : ∀ n : Nat,n ≤ 256 → fits (((n : Int) - 128 : Int) : Rat) = true := by decide +kernel
 have := key (v + 128).toNat (by omega)
 rwa [show (((v + 128).toNat : Int) - 128) = v by omega] at this
structure qDe (m : Int) (c : List Tm) (r : MS) : Prop where
 good : q4j r.1 = true
 grows : cnt c ≤ cnt r.1
 lo : m ≤ r.2.1
 hi : r.2.1 < cnt r.1
theorem qDe.more {m : Int} {c e : List Tm} {u : Tm} {b : Bool} (hg : q4j e = true) (hc : cnt c ≤ cnt e) (hm : m ≤ cnt c) (ht : q1n u (cnt e) = true) : qDe m c (e ++ [u],cnt e,b) :=
 ⟨q4h hg ht,by show cnt c ≤ cnt (e ++ [u]); rw [q1h]; omega,by show m ≤ cnt e; omega,by show cnt e < cnt (e ++ [u]); rw [q1h]; omega⟩
theorem qDe.none {m : Int} {c : List Tm} {x : Int} {b : Bool} (hg : q4j c = true) (h : m ≤ x ∧ x < cnt c) : qDe m c (c,x,b) := ⟨hg,Int.le_refl _,h.1,h.2⟩
theorem qOn {l : List Bool} {d : List Int} {c : List Tm} {t : Tm} {m : Int} {b : Bool} (hg : q4j c = true) (h0 : 0 ≤ m) (hm : m ≤ cnt c) (hk : t.k = 3 ∨ t.k = 4) (hab : bAt l t.a = true ∨ bAt l t.b = true) (hA : bAt l t.a = true → m ≤ dAt d t.a ∧ dAt d t.a < cnt c) (hB : bAt l t.b = true → m ≤ dAt d t.b ∧ dAt d t.b < cnt c) : qDe m c (qLg l d c b t) := by
 unfold qLg
 split
 ·rename_i a
  have a1 := hA a
  split
  ·rename_i e
   have e1 := hB e
   exact qDe.more hg (Int.le_refl _) hm (q6p (by omega) ⟨by omega,a1.2⟩ ⟨by omega,e1.2⟩)
  ·exact qDe.none hg a1
 ·rename_i a
  have e1 := hB (hab.resolve_left a)
  split
  ·exact qDe.more hg (Int.le_refl _) hm (qWx ⟨by omega,e1.2⟩)
  ·exact qDe.none hg e1
theorem qKq {l : List Bool} {d : List Int} {c : List Tm} {t : Tm} {m : Int} {b : Bool} (hg : q4j c = true) (h0 : 0 ≤ m) (hm : m ≤ cnt c) (ha : 0 ≤ t.a ∧ t.a < m) (hb : 0 ≤ t.b ∧ t.b < m) (hab : bAt l t.a = true ∨ bAt l t.b = true) (hA : bAt l t.a = true → m ≤ dAt d t.a ∧ dAt d t.a < cnt c) (hB : bAt l t.b = true → m ≤ dAt d t.b ∧ dAt d t.b < cnt c) : qDe m c (q3y l d c b t) := by
 unfold q3y
 dsimp only
 split
 ·rename_i e
  have e1 := hB e
  split
  ·rename_i a
   have a1 := hA a
   have g1 := q4h hg (q6p (k := 5) (by omega) ⟨by omega,a1.2⟩ (show 0 ≤ t.b ∧ t.b < cnt c by omega))
   have g2 := q4h g1 (q6p (k := 5) (a := t.a) (b := dAt d t.b) (by omega) (by rw [q1h]; omega) (by rw [q1h]; omega))
   exact qDe.more g2 (by simp only [q1h]; omega) hm (q6p (by omega) (by simp only [q1h]; have := q6s c; omega) (by simp only [q1h]; have := q6s c; omega))
  ·exact qDe.more hg (Int.le_refl _) hm (q6p (by omega) (by omega) ⟨by omega,e1.2⟩)
 ·rename_i e
  have a := hab.resolve_right e
  have a1 := hA a
  rw [if_pos a]
  exact qDe.more hg (Int.le_refl _) hm (q6p (by omega) ⟨by omega,a1.2⟩ (by omega))
theorem qIj {l : List Bool} {d : List Int} {c : List Tm} {t : Tm} {m : Int} {b : Bool} (hg : q4j c = true) (h0 : 0 ≤ m) (hm : m ≤ cnt c) (ha : 0 ≤ t.a ∧ t.a < m) (hb : 0 ≤ t.b ∧ t.b < m) (hab : bAt l t.a = true ∨ bAt l t.b = true) (hA : bAt l t.a = true → m ≤ dAt d t.a ∧ dAt d t.a < cnt c) (hB : bAt l t.b = true → m ≤ dAt d t.b ∧ dAt d t.b < cnt c) : qDe m c (q3h l d c b t) := by
 have hc0 := q6s c
 unfold q3h
 dsimp only
 split
 ·rename_i e
  have e1 := hB e
  split
  ·rename_i a
   have a1 := hA a
   have g1 := q4h hg (q6p (k := 5) (by omega) ⟨by omega,a1.2⟩ (show 0 ≤ t.b ∧ t.b < cnt c by omega))
   have g2 := q4h g1 (q6p (k := 5) (a := t.a) (b := dAt d t.b) (by omega) (by rw [q1h]; omega) (by rw [q1h]; omega))
   have g3 := q4h g2 (q6p (k := 4) (a := cnt c) (b := cnt (c ++ [mkT 5 (dAt d t.a) t.b 0])) (by omega) (by simp only [q1h]; omega) (by simp only [q1h]; omega))
   have g4 := q4h g3 (qSe (a := t.b) (n := 2) (by simp only [q1h]; omega) (by omega))
   exact qDe.more g4 (by simp only [q1h]; omega) hm (q6p (by omega) (by simp only [q1h]; omega) (by simp only [q1h]; omega))
  ·have g1 := q4h hg (q6p (k := 5) (a := t.a) (b := dAt d t.b) (by omega) (by omega) ⟨by omega,e1.2⟩)
   have g2 := q4h g1 (qWx (a := cnt c) (by rw [q1h]; omega))
   have g3 := q4h g2 (qSe (a := t.b) (n := 2) (by simp only [q1h]; omega) (by omega))
   exact qDe.more g3 (by simp only [q1h]; omega) hm (q6p (by omega) (by simp only [q1h]; omega) (by simp only [q1h]; omega))
 ·rename_i e
  have a1 := hA (hab.resolve_right e)
  exact qDe.more hg (Int.le_refl _) hm (q6p (by omega) ⟨by omega,a1.2⟩ (by omega))
theorem qN {d : List Int} {c : List Tm} {t : Tm} {m : Int} (hg : q4j c = true) (h0 : 0 ≤ m) (hm : m ≤ cnt c) (ha : 0 ≤ t.a ∧ t.a < m) (hn : -128 ≤ t.n ∧ t.n ≤ 128) (hA : m ≤ dAt d t.a ∧ dAt d t.a < cnt c) (hb : (q4t d c false t).2.2 = false) : qDe m c (q4t d c false t) := by
 have hc0 := q6s c
 unfold q4t at hb ⊢
 split
 ·exact qDe.none hg hA
 ·rename_i h1
  rw [if_neg h1] at hb
  have hb : (false || decide (t.n - 1 < -128)) = false := hb
  simp only [Bool.false_or,decide_eq_false_iff_not] at hb
  dsimp only
  have g1 := q4h hg (qUy (v := t.n) (q7q (by omega)))
  have g2 := q4h g1 (qSe (a := t.a) (n := t.n - 1) (by rw [q1h]; omega) (by omega))
  have g3 := q4h g2 (q6p (k := 5) (a := cnt c) (b := cnt (c ++ [q9o t.n])) (by omega) (by simp only [q1h]; omega) (by simp only [q1h]; omega))
  exact qDe.more g3 (by simp only [q1h]; omega) hm (q6p (by omega) (by simp only [q1h]; omega) (by simp only [q1h]; omega))
theorem qVo {l : List Bool} {d : List Int} {c : List Tm} {t : Tm} {i m : Int} (hg : q4j c = true) (h0 : 0 ≤ m) (hm : m ≤ cnt c) (him : i ≤ m) (ht : q1n t i = true) (hl : t.k = 2 ∨ ((t.k = 7 ∨ (t.k = 8 ∧ t.n ≠ 0)) ∧ bAt l t.a = true) ∨ ((t.k = 3 ∨ t.k = 4 ∨ t.k = 5 ∨ t.k = 6) ∧ (bAt l t.a = true ∨ bAt l t.b = true)))
  (hd : ∀ x ∈ q5z t,bAt l x = true → m ≤ dAt d x ∧ dAt d x < cnt c) (hb : (q5m l d c false t).2.2 = false) : qDe m c (q5m l d c false t) := by
 unfold q5m at hb ⊢
 rcases q1v ht with h | ⟨h,h2⟩ | ⟨h,h2,h3⟩ | ⟨h,h2⟩ | ⟨h,h2,h3⟩
 ·omega
 ·rw [if_pos h]
  exact qDe.more hg (Int.le_refl _) hm (qUy (q7q (by omega)))
 ·have hab : bAt l t.a = true ∨ bAt l t.b = true := by
   rcases hl with e | ⟨e,_⟩ | ⟨_,e⟩
   ·omega
   ·omega
   ·exact e
  have hA := fun e => hd t.a (by rw [q6e h]; simp) e
  have hB := fun e => hd t.b (by rw [q6e h]; simp) e
  rw [if_neg (by omega),if_neg (by omega)]
  rcases h with h | h | h | h
  ·rw [if_neg (by omega),if_neg (by omega),if_neg (by omega)]
   exact qOn hg h0 hm (.inl h) hab hA hB
  ·rw [if_neg (by omega),if_neg (by omega),if_neg (by omega)]
   exact qOn hg h0 hm (.inr h) hab hA hB
  ·rw [if_pos h]
   exact qKq hg h0 hm (by omega) (by omega) hab hA hB
  ·rw [if_neg (by omega),if_pos h]
   exact qIj hg h0 hm (by omega) (by omega) hab hA hB
 ·have hA := hd t.a (by rw [q3w (.inl h)]; simp)    (by
   rcases hl with e | ⟨_,e⟩ | ⟨e,_⟩
   ·omega
   ·exact e
   ·omega)
  rw [if_neg (by omega),if_pos h]
  exact qDe.more hg (Int.le_refl _) hm (qWx ⟨by omega,hA.2⟩)
 ·have hA := hd t.a (by rw [q3w (.inr h)]; simp)    (by
   rcases hl with e | ⟨_,e⟩ | ⟨e,_⟩
   ·omega
   ·exact e
   ·omega)
  rw [if_neg (by omega),if_neg (by omega),if_neg (by omega),if_neg (by omega),if_pos h] at hb ⊢
  exact qN hg h0 hm (by omega) h3 hA hb
theorem qGy (l : List Bool) (d : List Int) (c : List Tm) (t : Tm) : (q5m l d c true t).2.2 = true := by
 unfold q5m q3y q3h q4t qLg
 repeat' split
 all_goals rfl
theorem qSw {d : List Int} {q : Nat} {x y : Int} (h0 : 0 ≤ x) (hq : q < d.length) : dAt (d.set q y) x = if x = q then y else dAt d x := by
 unfold dAt
 rw [List.getElem?_set]
 by_cases e : x = q
 ·rw [if_pos (by omega),if_pos hq,if_pos e]
  rfl
 ·rw [if_neg (by omega),if_neg e]
theorem qH {c : List Tm} {i s : Int} (hg : q4j c = true) (hi0 : 0 ≤ i) (hi1 : i < cnt c) : ∀ q : Nat,(q : Int) ≤ i + 1 → (q5n c (q2a c s c.length) (q1m c i.toNat) (i.toNat + 1) q).2.2 = false →
  q4j (q5n c (q2a c s c.length) (q1m c i.toNat) (i.toNat + 1) q).1 = true ∧ i + 1 ≤ cnt (q5n c (q2a c s c.length) (q1m c i.toNat) (i.toNat + 1) q).1 ∧
  ∀ j : Int,0 ≤ j → j < q → (q1m c i.toNat)[j.toNat]? = some true → (q2a c s c.length)[j.toNat]? = some true → i + 1 ≤ dAt (q5n c (q2a c s c.length) (q1m c i.toNat) (i.toNat + 1) q).2.1 j ∧ dAt (q5n c (q2a c s c.length) (q1m c i.toNat) (i.toNat + 1) q).2.1 j < cnt (q5n c (q2a c s c.length) (q1m c i.toNat) (i.toNat + 1) q).1
 | 0,_,_ => by
  unfold q5n
  refine ⟨q1j.2 fun j t hj => ?_,?_,fun j h0 h1 => absurd h1 (by omega)⟩
  ·rw [List.getElem?_take] at hj
   split at hj
   ·exact q1j.1 hg j t hj
   ·cases hj
  ·show i + 1 ≤ cnt (c.take (i.toNat + 1))
   unfold cnt at *
   rw [List.length_take]
   omega
 | q + 1,hq,hb => by
  have hlt : q < c.length := by unfold cnt at hi1; omega
  obtain ⟨t,ht⟩ : ∃ t,c[q]? = some t := ⟨_,List.getElem?_eq_getElem hlt⟩
  have hlen := qGt c (q2a c s c.length) (q1m c i.toNat) (i.toNat + 1) q
  have hih := qH hg hi0 hi1 (s := s) q (by omega)
  unfold q5n at hb ⊢
  by_cases hc : (q1m c i.toNat)[q]? = some true ∧ (q2a c s c.length)[q]? = some true
  ·rw [if_pos hc,ht] at hb ⊢
   dsimp only at hb ⊢
   generalize q5n c (q2a c s c.length) (q1m c i.toNat) (i.toNat + 1) q = p at *
   obtain ⟨cc,dd,bd⟩ := p
   dsimp only at *
   cases bd
   case true => rw [qGy] at hb; cases hb
   obtain ⟨g1,g2,g3⟩ := hih rfl
   have hok := q1j.1 hg q t ht
   have hR := qVo (m := i + 1) (i := q) g1 (by omega) g2 (by omega) hok (qCv ht hok hc.2)             (fun x hx hb => by
    have hx' := q6b hok x hx
    refine g3 x hx'.1 hx'.2 (q5v (q5a hg) ht hx hc.1) ?_
    unfold bAt at hb
    cases e : (q2a c s c.length)[x.toNat]? with
    | none => rw [e] at hb; cases hb
    | some b => rw [e] at hb; have : b = true := hb; rw [this]) hb
   have hl : q < dd.length := by unfold cnt at hlen; omega
   refine ⟨hR.good,Int.le_trans g2 hR.grows,fun j j0 j1 n1 l1 => ?_⟩
   rw [qSw j0 hl]
   split
   ·exact ⟨hR.lo,hR.hi⟩
   ·rename_i hne
    have := g3 j j0 (by omega) n1 l1
    exact ⟨this.1,Int.lt_of_lt_of_le this.2 hR.grows⟩
  ·rw [if_neg hc] at hb ⊢
   obtain ⟨g1,g2,g3⟩ := hih hb
   refine ⟨g1,g2,fun j j0 j1 n1 l1 => ?_⟩
   by_cases e : j = q
   ·rw [e] at n1 l1
    exact absurd ⟨n1,l1⟩ hc
   ·exact g3 j j0 (by omega) n1 l1
def q3l (n : Int) (q : R3) : Bool := decide (n < cnt q.2.1) || decide (n < cnt q.2.2)
def qQb (n : Int) (us : List U) (u : U) : Prop := ∃ q : R3,us = [uR q] ∧ u = ub (q3l n q)
theorem qYk : q0w Tryz.prog 32 (qQb 200) := sound [] q0v Tryz.func32 (by kernel_rfl) (by kernel_rfl) fun us u hR =>               ⟨0, fun C E hC => by
 obtain ⟨⟨s,l,d⟩,rfl,hu⟩ := hR
 unfold q3l at hu
 dsimp only at hu
 cbv
 rcases Decidable.em (200 < cnt l) with h1 | h1
 ·rw [decide_eq_true h1,Bool.true_or] at hu
  (repeat ((first | with_reducible refine ln fun _ _ _ => ?_ | refine tt ?_); cbv)); exact hu.symm
 rw [decide_eq_false h1,Bool.false_or] at hu
 rcases Decidable.em (200 < cnt d) with h2 | h2
 ·rw [decide_eq_true h2] at hu
  (repeat ((first | with_reducible refine ln fun _ _ _ => ?_ | refine tt ?_ | refine ff ?_); cbv)); exact hu.symm
 ·rw [decide_eq_false h2] at hu
  (repeat ((first | with_reducible refine ln fun _ _ _ => ?_ | refine ff ?_); cbv)); exact hu.symm⟩
theorem j2s : q0w Tryz.prog 45 (qQb 70) := sound [] q0v Tryz.func45 (by kernel_rfl) (by kernel_rfl) fun us u hR =>              ⟨0, fun C E hC => by
 obtain ⟨⟨s,l,d⟩,rfl,hu⟩ := hR
 unfold q3l at hu
 dsimp only at hu
 cbv
 rcases Decidable.em (70 < cnt l) with h1 | h1
 ·rw [decide_eq_true h1,Bool.true_or] at hu
  (repeat ((first | with_reducible refine ln fun _ _ _ => ?_ | refine tt ?_); cbv)); exact hu.symm
 rw [decide_eq_false h1,Bool.false_or] at hu
 rcases Decidable.em (70 < cnt d) with h2 | h2
 ·rw [decide_eq_true h2] at hu
  (repeat ((first | with_reducible refine ln fun _ _ _ => ?_ | refine tt ?_ | refine ff ?_); cbv)); exact hu.symm
 ·rw [decide_eq_false h2] at hu
  (repeat ((first | with_reducible refine ln fun _ _ _ => ?_ | refine ff ?_); cbv)); exact hu.symm⟩
def qBf (k : Int) : Bool := decide (k = 3 ∨ k = 4 ∨ k = 5 ∨ k = 6)
def qEs (us : List U) (u : U) : Prop := ∃ k : Int,us = [ui k] ∧ u = ub (qBf k)
theorem qVx : q0w Tryz.prog 44 qEs := sound [] q0v Tryz.func44 (by kernel_rfl) (by kernel_rfl) fun us u hR =>              ⟨0, fun C E hC => by
 obtain ⟨k,rfl,hu⟩ := hR
 unfold qBf at hu
 cbv
 rcases Decidable.em (k = 3 ∨ k = 4 ∨ k = 5 ∨ k = 6) with h | h
 ·rw [decide_eq_true h] at hu
  rcases h with h | h | h | h <;> ((repeat ((first | refine tt ?_ | refine ff ?_); cbv)); exact hu.symm)
 ·rw [decide_eq_false h] at hu
  (repeat ((refine ff ?_); cbv)); exact hu.symm⟩
def qBc (c : List Tm) : Nat → Int
 | 0 => 0
 | i + 1 => qBc c i +     (match c[i]? with
  | some t => cnt t.q.2.1 + cnt t.q.2.2
  | none => 0)
def qJl (c : List Tm) : Bool := decide (400 < cnt c) || (c.any fun t => q3l 200 t.q) || decide (2000 < qBc c c.length)
theorem qQm {c : List Tm} {i : Int} {t : Tm} (h0 : 0 ≤ i) (ht : c[i.toNat]? = some t) : qBc c (i + 1).toNat = qBc c i.toNat + (cnt t.q.2.1 + cnt t.q.2.2) := by
 rw [show (i + 1).toNat = i.toNat + 1 by omega,qBc,ht]
def qLt (us : List U) (u : U) : Prop := ∃ c,cnt c ≤ 9223372036854775807 ∧ us = [cU c] ∧ u = ub (qJl c)
theorem qCk {α : Type} {c : List α} {f : α → Bool} {i : Int} {t : α} (h0 : 0 ≤ i) (ht : c[i.toNat]? = some t) (hf : f t = false) (h : ∀ (x : Nat) t,(x : Int) < i → c[x]? = some t → f t = false) : ∀ (x : Nat) t,(x : Int) < i + 1 → c[x]? = some t → f t = false := fun x t' hx hx' => by
 by_cases e : (x : Int) = i
 ·rw [show x = i.toNat by omega,ht] at hx'
  injection hx' with hx'
  rw [← hx']
  exact hf
 ·exact h x t' (by omega) hx'
theorem qIg {α : Type} {c : List α} {f : α → Bool} {i : Int} {t : α} (ht : c[i.toNat]? = some t) (hf : f t = true) : c.any f = true := List.any_eq_true.2 ⟨t,List.mem_of_getElem? ht,hf⟩
theorem qOi {α : Type} {c : List α} {f : α → Bool} (h : ∀ (x : Nat) t,(x : Int) < cnt c → c[x]? = some t → f t = false) : c.any f = false := by
 rw [Bool.eq_false_iff]
 intro hh
 obtain ⟨t,ht,hf⟩ := List.any_eq_true.1 hh
 obtain ⟨x,hx,rfl⟩ := List.mem_iff_getElem.1 ht
 rw [h x _ (by unfold cnt; omega) (List.getElem?_eq_getElem hx)] at hf
 cases hf
theorem qVa : q0w Tryz.prog 8 qLt := sound [(32,qQb 200)] (q0c qYk q0v) Tryz.func8 (by kernel_rfl) (by kernel_rfl) fun us u hR => by
 obtain ⟨c,hn,rfl,hu⟩ := hR
 obtain ⟨r,hr⟩ : ∃ r,(cnt c).toNat < r := ⟨_,Nat.lt_succ_self _⟩
 refine ⟨r,fun C E hC => ?_⟩
 have kt : ∀ q : R3,C 32 [.agg [ub q.1,.l q.2.1,.l q.2.2]] (ub (q3l 200 q)) := fun q => hC 32 (qQb 200) (by simp) _ _ ⟨q,rfl,rfl⟩
 have hm := fun i (h0 : 0 ≤ i) (h1 : i < cnt c) => q2l (c := c) tU h0 h1
 have hc := q2r c tU
 have hc0 := q6s c
 unfold qJl at hu
 unfold cU
 generalize c.map tU = xs at *
 cbv
 rcases Decidable.em (400 < cnt c) with h4 | h4
 ·rw [decide_eq_true h4,Bool.true_or,Bool.true_or] at hu
  (repeat ((first | with_reducible refine ln fun _ _ _ => ?_ | refine tt ?_); cbv))
  exact hu.symm
 rw [decide_eq_false h4,Bool.false_or] at hu
 (repeat ((first | with_reducible refine ln fun _ _ _ => ?_ | refine ff ?_); cbv))
 refine q4n [0,3,4] ?_
 cbv
 refine q2g (fun j a h => ∃ i n : Int,0 ≤ i ∧ i ≤ cnt c ∧ j = (cnt c - i).toNat ∧ (∀ (x : Nat) t,(x : Int) < i → c[x]? = some t → q3l 200 t.q = false) ∧ n = qBc c i.toNat ∧ 0 ≤ n ∧ n ≤ 400 * i ∧ a = [.s 7 xs,.lost,.lost,ui n,ui i,.lost,.lost,.lost,.lost,.lost,.lost,.lost,.lost,.lost,.lost,.lost,.lost,.lost,.lost,.lost,.lost,.lost,.lost,.lost,.lost,.lost,.lost,.lost,.lost,.lost,.lost,.lost,.lost,.lost,.lost,.lost,.lost,.lost,.lost,.lost] ∧ h = []) ?_ r (cnt c).toNat _ _ hr ⟨0,0,by omega,by omega,by omega,fun x t hx _ => absurd hx (by omega),rfl,by omega,by omega,rfl,rfl⟩
 rintro j a h K ⟨i,n,i0,i1,hj,hg,hl,n0,n1,rfl,rfl⟩ hK
 rcases Decidable.em (i < cnt c) with hlt | hlt
 ·obtain ⟨t,ht,hx⟩ := hm i i0 hlt
  have k1 := kt t.q
  have hnx := qQm i0 ht
  have hg1 := fun hf => qCk (f := fun t => q3l 200 t.q) i0 ht hf hg
  have hg2 : q3l 200 t.q = true → (c.any fun t => q3l 200 t.q) = true := fun hf => qIg (f := fun t => q3l 200 t.q) ht hf
  obtain ⟨kd,ta,tb,m,s,l,d⟩ := t
  have hov : q3l 200 (s,l,d) = false → cnt l ≤ 200 ∧ cnt d ≤ 200 := fun h => by
   unfold q3l at h
   simp only [Bool.or_eq_false_iff,decide_eq_false_iff_not] at h
   have h1 : ¬ 200 < cnt l := h.1
   have h2 : ¬ 200 < cnt d := h.2
   omega
  dsimp only at k1 hg1 hg2 hnx
  generalize q3l 200 (s,l,d) = g at *
  clear hm hg kt
  cases g
  ·have hov := hov rfl
   have hg1 := hg1 rfl
   have l0 := q6s l
   have d0 := q6s d
   clear hg2
   cbv
   (repeat ((first | with_reducible refine ln fun _ _ _ => ?_ | refine tt ?_); cbv))
   refine el ?_ (by omega) hx
   cbv
   (repeat ((refine cl ?_); cbv))
   refine el ?_ (by omega) hx
   cbv
   (repeat (((with_reducible refine ln fun _ _ _ => ?_)); cbv))
   refine el ?_ (by omega) hx
   cbv
   (repeat ((first | with_reducible refine ln fun _ _ _ => ?_ | with_reducible refine wr fun _ _ => ?_); cbv))
   rename_i n' hn' i' hi'
   refine q4n [0,3,4] ?_
   exact hK (cnt c - (i + 1)).toNat _ _ (by omega) ⟨i + 1,n',by omega,by omega,rfl,hg1,by omega,by omega,by omega,by rw [hi']; rfl,rfl⟩
  ·rw [hg2 rfl,Bool.true_or] at hu
   clear hg1 hg2 hov hK
   cbv
   (repeat ((first | with_reducible refine ln fun _ _ _ => ?_ | refine tt ?_); cbv))
   refine el ?_ (by omega) hx
   cbv
   (repeat ((refine cl ?_); cbv))
   exact hu.symm
 ·rw [qOi (f := fun t => q3l 200 t.q) fun x t hx => hg x t (by omega),Bool.false_or,show c.length = i.toNat by unfold cnt at *; omega,← hl] at hu
  clear hg hm kt hK
  cbv
  rcases Decidable.em (2000 < n) with h5 | h5
  ·rw [decide_eq_true h5] at hu
   (repeat ((first | with_reducible refine ln fun _ _ _ => ?_ | refine tt ?_ | refine ff ?_); cbv)); exact hu.symm
  ·rw [decide_eq_false h5] at hu
   (repeat ((first | with_reducible refine ln fun _ _ _ => ?_ | refine ff ?_); cbv)); exact hu.symm
def qVi (xs : List R3) : Bool := ((xs.take 101).any (q3l 70)) || decide (100 < cnt xs)
def qVv (us : List U) (u : U) : Prop := ∃ xs,cnt xs ≤ 9223372036854775807 ∧ us = [qsU xs] ∧ u = ub (qVi xs)
theorem qZn : q0w Tryz.prog 17 qVv := sound [(45,qQb 70)] (q0c j2s q0v) Tryz.func17 (by kernel_rfl) (by kernel_rfl) fun us u hR => by
 obtain ⟨c,hn,rfl,hu⟩ := hR
 refine ⟨1000,fun C E hC => ?_⟩
 obtain ⟨r,hr⟩ : ∃ r,r = 1000 := ⟨_,rfl⟩
 rw [← hr]
 have kt : ∀ q : R3,C 45 [.agg [ub q.1,.l q.2.1,.l q.2.2]] (ub (q3l 70 q)) := fun q => hC 45 (qQb 70) (by simp) _ _ ⟨q,rfl,rfl⟩
 have hm := fun i (h0 : 0 ≤ i) (h1 : i < cnt c) => q2l (c := c) qU h0 h1
 have hc := q2r c qU
 have hc0 := q6s c
 unfold qVi at hu
 unfold qsU
 generalize c.map qU = xs at *
 cbv
 (repeat ((first | with_reducible refine ln fun _ _ _ => ?_ | refine tt ?_ | refine ff ?_ | refine tt ?_ rfl | with_reducible refine wr fun _ _ => ?_ | refine rp fun _ _ _ => ?_ | with_reducible refine bq ?_ | refine cl ?_ | refine sd ?_); cbv))
 refine q4n [0,3] ?_
 cbv
 refine q2g (fun j a h => ∃ i : Int,0 ≤ i ∧ i ≤ cnt c ∧ i ≤ 101 ∧ j = (101 - i).toNat ∧ (∀ (x : Nat) t,(x : Int) < i → c[x]? = some t → q3l 70 t = false) ∧ a = [.s 3 xs,.lost,.lost,ui i,.lost,.lost,.lost,.lost,.lost,.lost,.lost,.lost,.lost,.lost,.lost,.lost,.lost,.lost,.lost,.lost,.lost,.lost] ∧ h = []) ?_ r 101 _ _ (by omega) ⟨0,by omega,by omega,by omega,by omega,fun x t hx _ => absurd hx (by omega),rfl,rfl⟩
 rintro j a h K ⟨i,i0,i1,i2,hj,hg,rfl,rfl⟩ hK
 rcases Decidable.em (i < cnt c ∧ i ≤ 100) with hlt | hlt
 ·obtain ⟨⟨s,l,d⟩,ht,hx⟩ := hm i i0 hlt.1
  have k1 := kt (s,l,d)
  have hg1 := fun hf => qCk (f := q3l 70) i0 ht hf hg
  have hg2 : q3l 70 (s,l,d) = true → ((c.take 101).any (q3l 70)) = true := fun hf => qIg (f := q3l 70) (i := i) (by rw [List.getElem?_take,if_pos (by omega),ht]) hf
  dsimp only at k1
  generalize q3l 70 (s,l,d) = g at *
  clear hm hg kt
  cases g
  ·have hg1 := hg1 rfl
   clear hg2
   cbv
   (repeat ((first | with_reducible refine ln fun _ _ _ => ?_ | refine tt ?_); cbv))
   refine el ?_ (by omega) hx
   cbv
   (repeat ((first | with_reducible refine wr fun _ _ => ?_ | refine cl ?_); cbv))
   rename_i i' hi'
   refine q4n [0,3] ?_
   exact hK (101 - (i + 1)).toNat _ _ (by omega) ⟨i + 1,by omega,by omega,by omega,rfl,hg1,by rw [hi']; rfl,rfl⟩
  ·rw [hg2 rfl,Bool.true_or] at hu
   clear hg1 hg2 hK
   cbv
   (repeat ((first | with_reducible refine ln fun _ _ _ => ?_ | refine tt ?_); cbv))
   refine el ?_ (by omega) hx
   cbv
   (repeat ((refine cl ?_); cbv))
   exact hu.symm
 ·have hno : ((c.take 101).any (q3l 70)) = false := qOi (f := q3l 70) fun x t hx hx' => by
   rw [List.getElem?_take] at hx'
   split at hx'
   ·rename_i h101
    have := (List.getElem?_eq_some_iff.1 hx').1
    exact hg x t (by unfold cnt at *; omega) hx'
   ·cases hx'
  rw [hno,Bool.false_or] at hu
  clear hg hm kt hK hno
  cbv
  rcases Decidable.em (100 < cnt c) with h5 | h5
  ·rw [decide_eq_true h5] at hu
   rcases Decidable.em (i < cnt c) with h6 | h6 <;> ((repeat ((first | with_reducible refine ln fun _ _ _ => ?_ | refine tt ?_ | refine ff ?_); cbv)); exact hu.symm)
  ·rw [decide_eq_false h5] at hu
   have h6 : ¬ i < cnt c := fun h => hlt ⟨h,by omega⟩
   (repeat ((first | with_reducible refine ln fun _ _ _ => ?_ | refine ff ?_); cbv)); exact hu.symm
def j2u (k a b n : Int) (s : Bool) (cl cd : Int) (g : Bool) (i : Int) : Prop :=
  (k = 1 ∧ a = 0 ∧ b = 0 ∧ n = 0 ∧ g = true) ∨ (k ≠ 1 ∧ s = false ∧ cl = 0 ∧ cd = 0 ∧
    ((k = 2 ∧ a = 0 ∧ b = 0 ∧ 0 ≤ n) ∨ (k = 7 ∧ b = 0 ∧ n = 0 ∧ 0 ≤ a ∧ a < i) ∨ (k = 8 ∧ b = 0 ∧ 0 ≤ a ∧ a < i ∧ -128 ≤ n ∧ n ≤ 128) ∨
     (qBf k = true ∧ n = 0 ∧ 0 ≤ a ∧ a < i ∧ 0 ≤ b ∧ b < i)))
theorem q8t {t : Tm} {i : Int} : q1n t i = true ↔ j2u t.k t.a t.b t.n t.q.1 (cnt t.q.2.1) (cnt t.q.2.2) (q1r t.q) i := by
  obtain ⟨k,a,b,n,s,l,d⟩ := t
  unfold q1n qKb kid j2u qBf
  dsimp only
  generalize q1r (s,l,d) = g
  generalize cnt l = cl
  generalize cnt d = cd
  by_cases h1 : k = 1
  · subst h1
    simp [and_assoc]
  rw [if_neg h1]
  by_cases h2 : k = 2
  · subst h2
    cases s <;> simp [and_assoc]
  rw [if_neg h2]
  by_cases h7 : k = 7
  · subst h7
    cases s <;> simp [and_assoc]
  rw [if_neg h7]
  by_cases h8 : k = 8
  · subst h8
    cases s <;> simp [and_assoc]
  rw [if_neg h8]
  by_cases h9 : k = 3 ∨ k = 4 ∨ k = 5 ∨ k = 6
  · rw [if_pos h9]
    cases s <;> simp [h1,h2,h7,h8,h9,and_assoc]
  · rw [if_neg h9]
    cases s <;> simp [h1,h2,h7,h8,h9]
theorem qJv : q0w Tryz.prog 21 qBx := sound [(46,q3p),(44,qEs)] (q0c q6y (q0c qVx q0v)) Tryz.func21 (by kernel_rfl) (by kernel_rfl) fun us u hR => by
  obtain ⟨c,hq,hn,rfl,hu⟩ := hR
  obtain ⟨r,hr⟩ : ∃ r,(cnt c).toNat < r := ⟨_,Nat.lt_succ_self _⟩
  refine ⟨r,fun C E hC => ?_⟩
  have kt : ∀ (i : Int) t,c[i.toNat]? = some t → C 46 [.agg [ub t.q.1,.l t.q.2.1,.l t.q.2.2]] (ub (q1r t.q)) := fun i t ht => hC 46 q3p (by simp) _ _ ⟨t.q,hq t (List.mem_of_getElem? ht),rfl,rfl⟩
  have k2 : ∀ k : Int,C 44 [ui k] (ub (qBf k)) := fun k => hC 44 qEs (by simp) _ _ ⟨k,rfl,rfl⟩
  have hm := fun i (h0 : 0 ≤ i) (h1 : i < cnt c) => q2l (c := c) tU h0 h1
  have hc := q2r c tU
  have hc0 := q6s c
  unfold cU
  generalize c.map tU = xs at *
  cbv
  (repeat ((first | with_reducible refine ln fun _ _ _ => ?_ | refine tt ?_ | refine ff ?_ | refine tt ?_ rfl | with_reducible refine wr fun _ _ => ?_ | refine rp fun _ _ _ => ?_ | with_reducible refine bq ?_ | refine cl ?_ | refine sd ?_); cbv))
  refine q4n [0,3] ?_
  cbv
  refine q2g (fun j a h => ∃ i : Int,0 ≤ i ∧ i ≤ cnt c ∧ j = (cnt c - i).toNat ∧ (∀ (x : Nat) t,(x : Int) < i → c[x]? = some t → q1n t x = true) ∧ a = [.s 7 xs,.lost,.lost,ui i,.lost,.lost,.lost,.lost,.lost,.lost,.lost,.lost,.lost,.lost,.lost,.lost,.lost,.lost,.lost,.lost,.lost,.lost,.lost,.lost,.lost,.lost,.lost,.lost,.lost,.lost,.lost,.lost,.lost,.lost,.lost,.lost,.lost,.lost,.lost,.lost,.lost,.lost,.lost,.lost,.lost,.lost,.lost,.lost,.lost,.lost,.lost,.lost,.lost,.lost,.lost,.lost,.lost,.lost,.lost,.lost,.lost,.lost,.lost,.lost,.lost,.lost,.lost,.lost,.lost,.lost,.lost,.lost,.lost,.lost,.lost,.lost,.lost,.lost,.lost,.lost,.lost,.lost,.lost,.lost,.lost,.lost,.lost,.lost,.lost,.lost,.lost,.lost,.lost,.lost,.lost,.lost,.lost,.lost,.lost,.lost,.lost,.lost,.lost,.lost,.lost,.lost,.lost,.lost,.lost,.lost,.lost,.lost,.lost,.lost,.lost,.lost,.lost,.lost,.lost,.lost,.lost,.lost,.lost,.lost,.lost,.lost,.lost,.lost,.lost,.lost,.lost,.lost,.lost,.lost,.lost,.lost,.lost,.lost,.lost,.lost,.lost,.lost,.lost,.lost,.lost,.lost,.lost,.lost,.lost,.lost,.lost] ∧ h = []) ?_ r (cnt c).toNat _ _ hr ⟨0,by omega,by omega,by omega,fun x t hx _ => absurd hx (by omega),rfl,rfl⟩
  rintro j a h K ⟨i,h0,h1,hj,hg,rfl,rfl⟩ hK
  rcases Decidable.em (i < cnt c) with hlt | hlt
  · obtain ⟨t,ht,hx⟩ := hm i h0 hlt
    have k1 := kt i t ht
    have hT : q1n t i = true → ∀ (x : Nat) t,(x : Int) < i + 1 → c[x]? = some t → q1n t x = true := fun hb x t' hlx hx' => by
      by_cases e : (x : Int) = i
      · have : x = i.toNat := by omega
        rw [this,ht] at hx'
        injection hx' with hx'
        rw [← hx',e]
        exact hb
      · exact hg x t' (by omega) hx'
    have hF : ¬ q1n t i = true → q4j c = false := fun hb => by
      rw [Bool.eq_false_iff]
      intro hh
      have := q1j.1 hh i.toNat t ht
      rw [show ((i.toNat : Nat) : Int) = i by omega] at this
      exact hb this
    rw [q8t] at hT hF
    obtain ⟨kd,ta,tb,m,s,l,d⟩ := t
    have k3 := k2 kd
    dsimp only at hT hF k1
    unfold j2u at hT hF
    have htw : qBf kd = true → kd ≠ 1 ∧ kd ≠ 2 ∧ kd ≠ 7 ∧ kd ≠ 8 := fun h => by
      unfold qBf at h
      have := of_decide_eq_true h
      omega
    generalize q1r (s,l,d) = g at *
    generalize qBf kd = tw at *
    clear kt k2 hm hg ht hq
    have l0 := q6s l
    have d0 := q6s d
    cbv
    (repeat ((first | with_reducible refine ln fun _ _ _ => ?_ | refine tt ?_); cbv))
    refine el ?_ (by omega) hx
    cbv
    rcases Decidable.em (ta < 0) with z1 | z1
    · rw [hF (by rintro (⟨h1,h2,h3,h4,h5⟩ | ⟨h1,h2,h3,h4,h | h | h | h⟩) <;> omega)] at hu
      clear hF hT hK
      (repeat ((refine tt ?_); cbv))
      exact hu.symm
    rcases Decidable.em (tb < 0) with z2 | z2
    · rw [hF (by rintro (⟨h1,h2,h3,h4,h5⟩ | ⟨h1,h2,h3,h4,h | h | h | h⟩) <;> omega)] at hu
      clear hF hT hK
      (repeat ((first | refine tt ?_ | refine ff ?_); cbv))
      exact hu.symm
    rcases Decidable.em (kd = 1) with y1 | y1
    · skip
      rcases (Decidable.em (ta = 0)).symm with z3 | z3
      · rw [hF (by rintro (⟨h1,h2,h3,h4,h5⟩ | ⟨h1,h2,h3,h4,h | h | h | h⟩) <;> omega)] at hu
        clear hF hT hK
        (repeat ((first | refine tt ?_ | refine ff ?_ | with_reducible refine bq ?_); cbv))
        exact hu.symm
      rcases (Decidable.em (tb = 0)).symm with z4 | z4
      · rw [hF (by rintro (⟨h1,h2,h3,h4,h5⟩ | ⟨h1,h2,h3,h4,h | h | h | h⟩) <;> omega)] at hu
        clear hF hT hK
        (repeat ((first | refine tt ?_ | refine ff ?_ | with_reducible refine bq ?_); cbv))
        exact hu.symm
      rcases (Decidable.em (m = 0)).symm with z5 | z5
      · rw [hF (by rintro (⟨h1,h2,h3,h4,h5⟩ | ⟨h1,h2,h3,h4,h | h | h | h⟩) <;> omega)] at hu
        clear hF hT hK
        (repeat ((first | refine tt ?_ | refine ff ?_ | with_reducible refine bq ?_); cbv))
        exact hu.symm
      cases g
      · rw [hF (by rintro (⟨h1,h2,h3,h4,h5⟩ | ⟨h1,h2,h3,h4,h | h | h | h⟩) <;> first | omega | (cases h5; done))] at hu
        clear hF hT hK
        (repeat ((first | refine tt ?_ | refine ff ?_ | with_reducible refine bq ?_ | refine cl ?_); cbv))
        exact hu.symm
      have hT := hT (.inl ⟨y1,by omega,by omega,by omega,rfl⟩)
      clear hF
      (repeat ((first | refine tt ?_ | refine ff ?_ | with_reducible refine wr fun _ _ => ?_ | with_reducible refine bq ?_ | refine cl ?_); cbv))
      rename_i q' hq'
      refine q4n [0,3] ?_
      exact hK (cnt c - (i + 1)).toNat _ _ (by omega) ⟨i + 1,by omega,by omega,rfl,hT,by rw [hq']; rfl,rfl⟩
    cases s
    rotate_left
    · rw [hF (by rintro (⟨h1,h2,h3,h4,h5⟩ | ⟨h1,h2,h3,h4,h | h | h | h⟩) <;> first | omega | (cases h2; done))] at hu
      clear hF hT hK
      (repeat ((first | refine tt ?_ | refine ff ?_); cbv))
      exact hu.symm
    rcases (Decidable.em (cnt l = 0)).symm with z6 | z6
    · rw [hF (by rintro (⟨h1,h2,h3,h4,h5⟩ | ⟨h1,h2,h3,h4,h | h | h | h⟩) <;> omega)] at hu
      clear hF hT hK
      (repeat ((first | with_reducible refine ln fun _ _ _ => ?_ | refine tt ?_ | refine ff ?_); cbv))
      exact hu.symm
    rcases (Decidable.em (cnt d = 0)).symm with z7 | z7
    · rw [hF (by rintro (⟨h1,h2,h3,h4,h5⟩ | ⟨h1,h2,h3,h4,h | h | h | h⟩) <;> omega)] at hu
      clear hF hT hK
      (repeat ((first | with_reducible refine ln fun _ _ _ => ?_ | refine tt ?_ | refine ff ?_); cbv))
      exact hu.symm
    rcases Decidable.em (kd = 2) with y2 | y2
    · skip
      rcases (Decidable.em (ta = 0)).symm with z8 | z8
      · rw [hF (by rintro (⟨h1,h2,h3,h4,h5⟩ | ⟨h1,h2,h3,h4,h | h | h | h⟩) <;> first | omega | (have := htw h.1; omega))] at hu
        clear hF hT hK
        (repeat ((first | with_reducible refine ln fun _ _ _ => ?_ | refine tt ?_ | refine ff ?_ | with_reducible refine bq ?_); cbv))
        exact hu.symm
      rcases (Decidable.em (tb = 0)).symm with z9 | z9
      · rw [hF (by rintro (⟨h1,h2,h3,h4,h5⟩ | ⟨h1,h2,h3,h4,h | h | h | h⟩) <;> first | omega | (have := htw h.1; omega))] at hu
        clear hF hT hK
        (repeat ((first | with_reducible refine ln fun _ _ _ => ?_ | refine tt ?_ | refine ff ?_ | with_reducible refine bq ?_); cbv))
        exact hu.symm
      rcases (Decidable.em (0 ≤ m)).symm with z10 | z10
      · rw [hF (by rintro (⟨h1,h2,h3,h4,h5⟩ | ⟨h1,h2,h3,h4,h | h | h | h⟩) <;> omega)] at hu
        clear hF hT hK
        (repeat ((first | with_reducible refine ln fun _ _ _ => ?_ | refine tt ?_ | refine ff ?_ | with_reducible refine bq ?_); cbv))
        exact hu.symm
      have hT := hT (.inr ⟨y1,rfl,by omega,by omega,.inl ⟨y2,by omega,by omega,by omega⟩⟩)
      clear hF
      (repeat ((first | with_reducible refine ln fun _ _ _ => ?_ | refine tt ?_ | refine ff ?_ | with_reducible refine wr fun _ _ => ?_ | with_reducible refine bq ?_); cbv))
      rename_i q' hq'
      refine q4n [0,3] ?_
      exact hK (cnt c - (i + 1)).toNat _ _ (by omega) ⟨i + 1,by omega,by omega,rfl,hT,by rw [hq']; rfl,rfl⟩
    rcases Decidable.em (kd = 7) with y7 | y7
    · skip
      rcases (Decidable.em (ta < i)).symm with z11 | z11
      · rw [hF (by rintro (⟨h1,h2,h3,h4,h5⟩ | ⟨h1,h2,h3,h4,h | h | h | h⟩) <;> omega)] at hu
        clear hF hT hK
        (repeat ((first | with_reducible refine ln fun _ _ _ => ?_ | refine tt ?_ | refine ff ?_ | with_reducible refine bq ?_); cbv))
        exact hu.symm
      rcases (Decidable.em (tb = 0)).symm with z12 | z12
      · rw [hF (by rintro (⟨h1,h2,h3,h4,h5⟩ | ⟨h1,h2,h3,h4,h | h | h | h⟩) <;> first | omega | (have := htw h.1; omega))] at hu
        clear hF hT hK
        (repeat ((first | with_reducible refine ln fun _ _ _ => ?_ | refine tt ?_ | refine ff ?_ | with_reducible refine bq ?_); cbv))
        exact hu.symm
      rcases (Decidable.em (m = 0)).symm with z13 | z13
      · rw [hF (by rintro (⟨h1,h2,h3,h4,h5⟩ | ⟨h1,h2,h3,h4,h | h | h | h⟩) <;> omega)] at hu
        clear hF hT hK
        (repeat ((first | with_reducible refine ln fun _ _ _ => ?_ | refine tt ?_ | refine ff ?_ | with_reducible refine bq ?_); cbv))
        exact hu.symm
      have hT := hT (.inr ⟨y1,rfl,by omega,by omega,.inr (.inl ⟨y7,by omega,by omega,by omega,by omega⟩)⟩)
      clear hF
      (repeat ((first | with_reducible refine ln fun _ _ _ => ?_ | refine tt ?_ | refine ff ?_ | with_reducible refine wr fun _ _ => ?_ | with_reducible refine bq ?_); cbv))
      rename_i q' hq'
      refine q4n [0,3] ?_
      exact hK (cnt c - (i + 1)).toNat _ _ (by omega) ⟨i + 1,by omega,by omega,rfl,hT,by rw [hq']; rfl,rfl⟩
    rcases Decidable.em (kd = 8) with y8 | y8
    · skip
      rcases (Decidable.em (ta < i)).symm with z14 | z14
      · rw [hF (by rintro (⟨h1,h2,h3,h4,h5⟩ | ⟨h1,h2,h3,h4,h | h | h | h⟩) <;> omega)] at hu
        clear hF hT hK
        (repeat ((first | with_reducible refine ln fun _ _ _ => ?_ | refine tt ?_ | refine ff ?_ | with_reducible refine bq ?_); cbv))
        exact hu.symm
      rcases (Decidable.em (tb = 0)).symm with z15 | z15
      · rw [hF (by rintro (⟨h1,h2,h3,h4,h5⟩ | ⟨h1,h2,h3,h4,h | h | h | h⟩) <;> first | omega | (have := htw h.1; omega))] at hu
        clear hF hT hK
        (repeat ((first | with_reducible refine ln fun _ _ _ => ?_ | refine tt ?_ | refine ff ?_ | with_reducible refine bq ?_); cbv))
        exact hu.symm
      rcases (Decidable.em (-128 ≤ m)).symm with z16 | z16
      · rw [hF (by rintro (⟨h1,h2,h3,h4,h5⟩ | ⟨h1,h2,h3,h4,h | h | h | h⟩) <;> omega)] at hu
        clear hF hT hK
        (repeat ((first | with_reducible refine ln fun _ _ _ => ?_ | refine tt ?_ | refine ff ?_ | with_reducible refine bq ?_); cbv))
        exact hu.symm
      rcases (Decidable.em (m ≤ 128)).symm with z17 | z17
      · rw [hF (by rintro (⟨h1,h2,h3,h4,h5⟩ | ⟨h1,h2,h3,h4,h | h | h | h⟩) <;> omega)] at hu
        clear hF hT hK
        (repeat ((first | with_reducible refine ln fun _ _ _ => ?_ | refine tt ?_ | refine ff ?_ | with_reducible refine bq ?_); cbv))
        exact hu.symm
      have hT := hT (.inr ⟨y1,rfl,by omega,by omega,.inr (.inr (.inl ⟨y8,by omega,by omega,by omega,by omega,by omega⟩))⟩)
      clear hF
      (repeat ((first | with_reducible refine ln fun _ _ _ => ?_ | refine tt ?_ | refine ff ?_ | with_reducible refine wr fun _ _ => ?_ | with_reducible refine bq ?_); cbv))
      rename_i q' hq'
      refine q4n [0,3] ?_
      exact hK (cnt c - (i + 1)).toNat _ _ (by omega) ⟨i + 1,by omega,by omega,rfl,hT,by rw [hq']; rfl,rfl⟩
    cases tw
    · rw [hF (by rintro (⟨h1,h2,h3,h4,h5⟩ | ⟨h1,h2,h3,h4,h | h | h | h⟩) <;> first | omega | (cases h.1; done))] at hu
      clear hF hT hK
      (repeat ((first | with_reducible refine ln fun _ _ _ => ?_ | refine tt ?_ | refine ff ?_ | with_reducible refine bq ?_ | refine cl ?_); cbv))
      exact hu.symm
    rcases (Decidable.em (ta < i)).symm with z18 | z18
    · rw [hF (by rintro (⟨h1,h2,h3,h4,h5⟩ | ⟨h1,h2,h3,h4,h | h | h | h⟩) <;> omega)] at hu
      clear hF hT hK
      (repeat ((first | with_reducible refine ln fun _ _ _ => ?_ | refine tt ?_ | refine ff ?_ | with_reducible refine bq ?_ | refine cl ?_); cbv))
      exact hu.symm
    rcases (Decidable.em (tb < i)).symm with z19 | z19
    · rw [hF (by rintro (⟨h1,h2,h3,h4,h5⟩ | ⟨h1,h2,h3,h4,h | h | h | h⟩) <;> omega)] at hu
      clear hF hT hK
      (repeat ((first | with_reducible refine ln fun _ _ _ => ?_ | refine tt ?_ | refine ff ?_ | with_reducible refine bq ?_ | refine cl ?_); cbv))
      exact hu.symm
    rcases (Decidable.em (m = 0)).symm with z20 | z20
    · rw [hF (by rintro (⟨h1,h2,h3,h4,h5⟩ | ⟨h1,h2,h3,h4,h | h | h | h⟩) <;> omega)] at hu
      clear hF hT hK
      (repeat ((first | with_reducible refine ln fun _ _ _ => ?_ | refine tt ?_ | refine ff ?_ | with_reducible refine bq ?_ | refine cl ?_); cbv))
      exact hu.symm
    have hT := hT (.inr ⟨y1,rfl,by omega,by omega,.inr (.inr (.inr ⟨rfl,by omega,by omega,by omega,by omega,by omega⟩))⟩)
    clear hF
    (repeat ((first | with_reducible refine ln fun _ _ _ => ?_ | refine tt ?_ | refine ff ?_ | with_reducible refine wr fun _ _ => ?_ | with_reducible refine bq ?_ | refine cl ?_); cbv))
    rename_i q' hq'
    refine q4n [0,3] ?_
    exact hK (cnt c - (i + 1)).toNat _ _ (by omega) ⟨i + 1,by omega,by omega,rfl,hT,by rw [hq']; rfl,rfl⟩
  · rw [q1j.2 fun x t hx => hg x t (by have := (List.getElem?_eq_some_iff.1 hx).1; unfold cnt at h1 hlt; omega) hx] at hu
    clear hg
    cbv
    (repeat ((first | with_reducible refine ln fun _ _ _ => ?_ | refine ff ?_); cbv))
    exact hu.symm
def byD (t : Tm) (i : Int) : Prop := (t.k = 6 ∧ t.b = i) ∨ (t.k = 8 ∧ t.n < 0 ∧ t.a = i)
theorem qBd {t : Tm} {i : Int} (h : byD t i) : i ∈ q5z t := by
 rcases h with h | h
 ·rw [q6e (by omega)]
  simp [h.2]
 ·rw [q3w (by omega)]
  simp [h.2.2]
theorem qEm {vs : List R3} {q : Nat} {w : R3} {a : Int} (h : a.toNat ≠ q) : at3 (vs.set q w) a = at3 vs a := by
 unfold at3
 rw [List.getElem?_set_ne (fun e => h e.symm)]
theorem qSa {vs : List R3} {a : Nat} {w : R3} (h : a < vs.length) : at3 (vs.set a w) (a : Int) = w := by
 unfold at3
 rw [Int.toNat_natCast,List.getElem?_set_self h]
 rfl
theorem qJc {vs ws xs : List R3} {t : Tm} {i : Int} (ht : q1n t i = true) (h : ∀ k ∈ q5z t,at3 vs k = at3 ws k) : evT vs xs t = evT ws xs t := by
 unfold evT
 rcases q1v ht with h1 | ⟨h1,_⟩ | ⟨h1,_⟩ | ⟨h1,_⟩ | ⟨h1,_⟩
 ·rw [if_pos h1,if_pos h1]
 ·rw [if_neg (by omega),if_pos h1,if_neg (by omega),if_pos h1]
 ·rw [q6e h1] at h
  rw [h t.a (by simp),h t.b (by simp)]
 ·rw [q3w (.inl h1)] at h
  rw [h t.a (by simp)]
  simp [h1]
 ·rw [q3w (.inr h1)] at h
  rw [h t.a (by simp)]
  simp [h1]
theorem qEi {q : Rat} : ((lim q).2.2.2 = 0 ∧ q1r (to3 (lim q)) = true) ∨ (lim q).2.2.2 = 2 := by
 unfold lim
 split
 ·rename_i h
  exact .inl ⟨rfl,q2o h⟩
 ·exact .inr rfl
theorem qB {a : R3} (h : q1r a = true) : q1r (qEl a) = true := by
 obtain ⟨q,hq,rfl⟩ := q3c.1 h
 unfold qEl
 rw [if_pos h,q1b]
 exact q2o ((q8w q).trans hq)
theorem qEo {vs xs : List R3} {t : Tm} {i : Int} (ht : q1n t i = true) (hk : ∀ k ∈ q5z t,q1r (at3 vs k) = true) (hx : t.k = 2 → q1r (at3 xs t.n) = true) :
  ((evT vs xs t).2.2.2 = 0 ∧ q1r (to3 (evT vs xs t)) = true ∧ ∀ d : Int,byD t d → qOf (at3 vs d) ≠ 0) ∨ (evT vs xs t).2.2.2 = 2 ∨ ((evT vs xs t).2.2.2 = 3 ∧ ∃ d : Int,byD t d ∧ qOf (at3 vs d) = 0) := by
 have hby : t.k ≠ 6 → t.k ≠ 8 → ∀ d : Int,byD t d → qOf (at3 vs d) ≠ 0 := fun h6 h8 d hd => by
  rcases hd with hd | hd
  ·exact absurd hd.1 h6
  ·exact absurd hd.1 h8
 unfold evT
 rcases q1v ht with h1 | ⟨h1,_⟩ | ⟨h1,_⟩ | ⟨h1,_⟩ | ⟨h1,_,h2,h3⟩
 ·rw [if_pos h1]
  rcases q8t.1 ht with h | h
  ·exact .inl ⟨rfl,qB (qB h.2.2.2.2),hby (by omega) (by omega)⟩
  ·exact absurd h1 h.1
 ·rw [if_neg (by omega),if_pos h1]
  exact .inl ⟨rfl,qB (qB (hx h1)),hby (by omega) (by omega)⟩
 ·rw [q6e h1] at hk
  have ga := hk t.a (by simp)
  have gb := hk t.b (by simp)
  have gab : (q1r (at3 vs t.a) && q1r (at3 vs t.b)) = true := by rw [ga,gb]; rfl
  rw [if_neg (by omega),if_neg (by omega)]
  rcases h1 with h1 | h1 | h1 | h1
  ·rw [if_pos h1]
   unfold qDz
   rw [if_pos gab]
   rcases qEi (q := qOf (at3 vs t.a) + qOf (at3 vs t.b)) with h | h
   ·exact .inl ⟨h.1,h.2,hby (by omega) (by omega)⟩
   ·exact .inr (.inl h)
  ·rw [if_neg (by omega),if_pos h1]
   unfold qF
   rw [if_pos gab]
   rcases qEi (q := qOf (at3 vs t.a) - qOf (at3 vs t.b)) with h | h
   ·exact .inl ⟨h.1,h.2,hby (by omega) (by omega)⟩
   ·exact .inr (.inl h)
  ·rw [if_neg (by omega),if_neg (by omega),if_pos h1]
   unfold qIn
   rw [if_pos gab]
   rcases qEi (q := qOf (at3 vs t.a) * qOf (at3 vs t.b)) with h | h
   ·exact .inl ⟨h.1,h.2,hby (by omega) (by omega)⟩
   ·exact .inr (.inl h)
  ·rw [if_neg (by omega),if_neg (by omega),if_neg (by omega),if_pos h1]
   unfold qCd
   rw [if_pos gab]
   by_cases hz : qOf (at3 vs t.b) = 0
   ·rw [if_pos hz]
    exact .inr (.inr ⟨rfl,t.b,.inl ⟨h1,rfl⟩,hz⟩)
   ·rw [if_neg hz]
    rcases qEi (q := qOf (at3 vs t.a) / qOf (at3 vs t.b)) with h | h
    ·refine .inl ⟨h.1,h.2,fun d hd => ?_⟩
     rcases hd with hd | hd
     ·rw [← hd.2]
      exact hz
     ·omega
    ·exact .inr (.inl h)
 ·rw [q3w (.inl h1)] at hk
  rw [if_neg (by omega),if_neg (by omega),if_neg (by omega),if_neg (by omega),if_neg (by omega),if_neg (by omega),if_pos h1]
  exact .inl ⟨rfl,qB (hk t.a (by simp)),hby (by omega) (by omega)⟩
 ·rw [q3w (.inr h1)] at hk
  have ga := hk t.a (by simp)
  rw [if_neg (by omega),if_neg (by omega),if_neg (by omega),if_neg (by omega),if_neg (by omega),if_neg (by omega),if_neg (by omega)]
  unfold qLm
  rw [if_pos ga,if_pos ⟨h2,h3⟩]
  by_cases hz : t.n < 0 ∧ qOf (at3 vs t.a) = 0
  ·rw [if_pos hz]
   exact .inr (.inr ⟨rfl,t.a,.inr ⟨h1,hz.1,rfl⟩,hz.2⟩)
  ·rw [if_neg hz]
   rcases qEi (q := qOf (at3 vs t.a) ^ t.n) with h | h
   ·refine .inl ⟨h.1,h.2,fun d hd => ?_⟩
    rcases hd with hd | hd
    ·omega
    ·rw [← hd.2.2]
     exact fun e => hz ⟨hd.2.1,e⟩
   ·exact .inr (.inl h)
structure Set1 (c : List Tm) (xs : List R3) (nd : List Bool) : Prop where
 ok : ∀ (j : Nat) t,c[j]? = some t → q1n t j = true
 kid : ∀ (j : Nat) t,nd[j]? = some true → c[j]? = some t → ∀ k ∈ q5z t,nd[k.toNat]? = some true
 x : ∀ (j : Nat) t,nd[j]? = some true → c[j]? = some t → t.k = 2 → q1r (at3 xs t.n) = true
theorem qDx {c : List Tm} {xs : List R3} {nd : List Bool} (h : Set1 c xs nd) {j : Nat} {t : Tm} (ht : c[j]? = some t) {k : Int} (hk : k ∈ q5z t) : 0 ≤ k ∧ k < (j : Int) := q6b (h.ok j t ht) k hk
def Fix (c : List Tm) (xs : List R3) (nd : List Bool) (q : Nat) (vs : List R3) : Prop := ∀ (j : Nat) t,j < q → nd[j]? = some true → c[j]? = some t → evT vs xs t = to4 (at3 vs j) ∧ q1r (at3 vs j) = true
theorem j1q {r : R4} (h : r.2.2.2 = 0) : to4 (to3 r) = r := by
 obtain ⟨s,l,d,e⟩ := r
 have h : e = 0 := h
 subst h
 rfl
theorem j3s {c : List Tm} {xs : List R3} {nd : List Bool} {q : Nat} {vs : List R3} (h : evN c xs nd (q + 1) = (vs,0)) : ∃ ws,evN c xs nd q = (ws,0) ∧ ((nd[q]? = some true ∧ ∃ t,c[q]? = some t ∧ (evT ws xs t).2.2.2 = 0 ∧ vs = ws.set q (to3 (evT ws xs t))) ∨ (nd[q]? ≠ some true ∧ vs = ws) ∨ (c[q]? = none ∧ vs = ws)) := by
 obtain ⟨ws,e⟩ : ∃ ws e,evN c xs nd q = (ws,e) := ⟨_,_,rfl⟩
 obtain ⟨e,he⟩ := e
 rw [evN,he] at h
 by_cases h0 : e = 0
 ·subst h0
  refine ⟨ws,he,?_⟩
  rw [if_pos rfl,qBy] at h
  by_cases hb : nd[q]? = some true
  ·rw [if_pos hb] at h
   cases ht : c[q]? with
   | none =>
    rw [ht] at h
    injection h with h
    exact .inr (.inr ⟨rfl,h.symm⟩)
   | some t =>
    rw [ht] at h
    dsimp only at h
    split at h
    ·rename_i h0
     injection h with h
     exact .inl ⟨hb,t,rfl,h0,h.symm⟩
    ·rename_i h0
     injection h with _ h
     exact absurd h h0
  ·rw [if_neg hb] at h
   injection h with h
   exact .inr (.inl ⟨hb,h.symm⟩)
 ·rw [if_neg h0] at h
  injection h with _ h
  exact absurd h h0
theorem qP {c : List Tm} {xs : List R3} {nd : List Bool} (hs : Set1 c xs nd) : ∀ (q : Nat) (vs : List R3),evN c xs nd q = (vs,0) → Fix c xs nd q vs
 | 0,_,_ => fun j t h => absurd h (by omega)
 | q + 1,vs,h => by
  obtain ⟨ws,hw,h⟩ := j3s h
  have ih := qP hs q ws hw
  have old : ∀ w,∀ (j : Nat) t,j < q → nd[j]? = some true → c[j]? = some t → evT (ws.set q w) xs t = to4 (at3 (ws.set q w) j) ∧ q1r (at3 (ws.set q w) j) = true := fun w j t hj hb ht => by
   rw [qEm (by omega),qJc (ws := ws) (hs.ok j t ht) fun k hk => qEm (by have := qDx hs ht hk; omega)]
   exact ih j t hj hb ht
  rcases h with ⟨hb,t,ht,h0,rfl⟩ | ⟨hb,rfl⟩ | ⟨hn,rfl⟩
  ·intro j t' hj hb' ht'
   by_cases e : j = q
   ·subst e
    rw [ht] at ht'
    injection ht' with ht'
    subst ht'
    have hl : j < ws.length := by
     have := qEv c xs nd j
     rw [hw] at this
     have this : ws.length = c.length := this
     have := (List.getElem?_eq_some_iff.1 ht).1
     omega
    have hkd : ∀ k ∈ q5z t,q1r (at3 ws k) = true := fun k hk => by
     have h1 := qDx hs ht hk
     have h2 := hs.kid j t hb ht k hk
     have h3 := (List.getElem?_eq_some_iff.1 ht).1
     obtain ⟨tk,h4⟩ : ∃ tk,c[k.toNat]? = some tk := ⟨_,List.getElem?_eq_getElem (by omega)⟩
     have := (ih k.toNat tk (by omega) h2 h4).2
     rwa [show ((k.toNat : Nat) : Int) = k by omega] at this
    rw [qSa hl,qJc (ws := ws) (hs.ok j t ht) fun k hk => qEm (by have := qDx hs ht hk; omega),j1q h0]
    refine ⟨rfl,?_⟩
    rcases qEo (hs.ok j t ht) hkd (hs.x j t hb ht) with h | h | h
    ·exact h.2.1
    ·omega
    ·omega
   ·exact old _ j t' (by omega) hb' ht'
  ·intro j t hj hb' ht
   by_cases e : j = q
   ·subst e
    exact absurd hb' hb
   ·exact ih j t (by omega) hb' ht
  ·intro j t hj hb' ht
   by_cases e : j = q
   ·subst e
    rw [hn] at ht
    cases ht
   ·exact ih j t (by omega) hb' ht
theorem qOz {c : List Tm} {xs : List R3} {nd : List Bool} : ∀ (q : Nat),(evN c xs nd q).2 ≠ 0 → ∃ (j : Nat) (t : Tm) (vs : List R3),j < q ∧ evN c xs nd j = (vs,0) ∧ nd[j]? = some true ∧ c[j]? = some t ∧ (evT vs xs t).2.2.2 = (evN c xs nd q).2
 | 0,h => absurd rfl h
 | q + 1,h => by
  by_cases h0 : (evN c xs nd q).2 = 0
  ·obtain ⟨vs,hv⟩ : ∃ vs,evN c xs nd q = (vs,0) := ⟨(evN c xs nd q).1,by rw [← h0]⟩
   rw [evN,hv,if_pos rfl,qBy] at h ⊢
   by_cases hb : nd[q]? = some true
   ·rw [if_pos hb] at h ⊢
    cases ht : c[q]? with
    | none =>
     rw [ht] at h
     exact absurd rfl h
    | some t =>
     rw [ht] at h
     dsimp only at h ⊢
     split at h
     ·exact absurd rfl h
     ·rename_i h1
      rw [if_neg h1]
      exact ⟨q,t,vs,by omega,hv,hb,ht,rfl⟩
   ·rw [if_neg hb] at h
    exact absurd rfl h
  ·obtain ⟨j,t,vs,h1,h2⟩ := qOz q h0
   refine ⟨j,t,vs,by omega,?_⟩
   rw [evN,if_neg h0]
   exact h2
theorem qMc {c : List Tm} {i : Int} {xs : List R3} (h : q6a c i xs = true) : Set1 c xs (q1m c i.toNat) := by
 unfold q6a q7x at h
 simp only [Bool.and_eq_true,decide_eq_true_eq] at h
 obtain ⟨⟨⟨⟨h0,h1⟩,hg⟩,hx⟩,hr⟩ := h
 have ha := q5a hg
 refine ⟨fun j t ht => q1j.1 hg j t ht,fun j t hb ht k hk => q5v ha ht hk hb,fun j t hb ht hk => ?_⟩
 have hl := q5i.1 hr j t ht hb hk
 have h5 : 0 ≤ t.n := by
  rcases q1v (q1j.1 hg j t ht) with h | ⟨_,h⟩ | ⟨h,_⟩ | ⟨h,_⟩ | ⟨h,_⟩ <;> first | exact h | omega
 unfold cnt at hl
 have : at3 xs t.n = xs[t.n.toNat]'(by omega) := by
  unfold at3
  rw [List.getElem?_eq_getElem (by omega)]
  rfl
 rw [this]
 exact List.all_eq_true.1 hx _ (List.getElem_mem _)
end Go.Proofs.YtjkcmnedolfkjaaGreat.Rd
end
section
set_option linter.unusedVariables false
set_option linter.unusedSimpArgs false
namespace Go.Proofs.YtjkcmnedolfkjaaGreat.Rd
open Go Go.RowKit Go.Proofs.YtjkcmnedolfkjaaGreatW.PrintWords Go.Proofs.YtjkcmnedolfkjaaGreat.PL Go.Proofs.YtjkcmnedolfkjaaGreat.Num
def atA {α : Type} (z : α) (v : List α) (i : Int) : α := (v[i.toNat]?).getD z
def q4a {α : Type} (f : List α → Tm → α) : List α → List Tm → List α
 | v,[] => v
 | v,t :: c => q4a f (v ++ [f v t]) c
theorem qAi {α : Type} (f : List α → Tm → α) : ∀ (c e : List Tm) (v : List α),q4a f v (c ++ e) = q4a f (q4a f v c) e
 | [],e,v => rfl
 | t :: c,e,v => qAi f c e _
theorem qAu {α : Type} (f : List α → Tm → α) : ∀ (c : List Tm) (v : List α),(q4a f v c).length = v.length + c.length
 | [],v => rfl
 | t :: c,v => by
  have := qAu f c (v ++ [f v t])
  show (q4a f (v ++ [f v t]) c).length = _
  rw [this,List.length_append,List.length_cons]
  simp
  omega
theorem qDo {α : Type} (f : List α → Tm → α) : ∀ (c : List Tm) (v : List α),∃ w,q4a f v c = v ++ w
 | [],v => ⟨[],(List.append_nil v).symm⟩
 | t :: c,v => by
  obtain ⟨w,h⟩ := qDo f c (v ++ [f v t])
  exact ⟨f v t :: w,by show q4a f (v ++ [f v t]) c = _; rw [h,List.append_assoc]; rfl⟩
theorem qAb {α β : Type} (g : α → β) {f : List α → Tm → α} {f' : List β → Tm → β} (hf : ∀ v t,g (f v t) = f' (v.map g) t) : ∀ (c : List Tm) (v : List α),(q4a f v c).map g = q4a f' (v.map g) c
 | [],v => rfl
 | t :: c,v => by
  show (q4a f (v ++ [f v t]) c).map g = q4a f' (v.map g ++ [f' (v.map g) t]) c
  rw [qAb g hf c,List.map_append,List.map_cons,hf]
  rfl
theorem qNg {α : Type} {z : α} {v w : List α} {i : Int} (h0 : 0 ≤ i) (h : i < cnt v) : atA z (v ++ w) i = atA z v i := by
 unfold atA
 unfold cnt at h
 rw [List.getElem?_append_left (by omega)]
theorem qOx {α : Type} {z : α} {v : List α} {x : α} {i : Int} (h : i = cnt v) : atA z (v ++ [x]) i = x := by
 unfold atA
 unfold cnt at h
 rw [List.getElem?_append_right (by omega),show i.toNat - v.length = 0 by omega]
 rfl
theorem qBe {α β : Type} (g : α → β) (z : α) (v : List α) (i : Int) : g (atA z v i) = atA (g z) (v.map g) i := by
 unfold atA
 rw [List.getElem?_map]
 cases v[i.toNat]? <;> rfl
structure qZ {α : Type} (z : α) (f : List α → Tm → α) : Prop where
 out : ∀ (v w : List α) (t : Tm) (i : Int),q1n t i = true → (∀ k ∈ q5z t,atA z v k = atA z w k) → f v t = f w t
theorem qIk {α : Type} {z : α} {f : List α → Tm → α} (hf : qZ z f) {c : List Tm} {j : Nat} {t : Tm} (ht : c[j]? = some t) (hok : q1n t j = true) : atA z (q4a f [] c) j = f (q4a f [] c) t := by
 obtain ⟨hj,rfl⟩ := List.getElem?_eq_some_iff.1 ht
 have hc : c = c.take j ++ ([c[j]] ++ c.drop (j + 1)) := by simp
 have hl : (q4a f [] (c.take j)).length = j := by
  rw [qAu,List.length_take]
  simp
  omega
 have e : q4a f [] c = q4a f (q4a f [] (c.take j) ++ [f (q4a f [] (c.take j)) c[j]]) (c.drop (j + 1)) := by
  conv => lhs; rw [hc]
  rw [qAi]
  rfl
 obtain ⟨w,hw⟩ := qDo f (c.drop (j + 1)) (q4a f [] (c.take j) ++ [f (q4a f [] (c.take j)) c[j]])
 rw [e,hw,qNg (by omega) (by unfold cnt; rw [List.length_append,hl]; simp; omega),qOx (by unfold cnt; omega)]
 refine hf.out _ _ _ j hok fun k hk => ?_
 have := q6b hok k hk
 rw [List.append_assoc,qNg this.1 (by unfold cnt; omega)]
theorem q4z {α : Type} {z : α} (f : List α → Tm → α) {c e : List Tm} {i : Int} (h0 : 0 ≤ i) (h : i < cnt c) : atA z (q4a f [] (c ++ e)) i = atA z (q4a f [] c) i := by
 rw [qAi]
 obtain ⟨w,hw⟩ := qDo f e (q4a f [] c)
 rw [hw,qNg h0]
 unfold cnt at *
 rw [qAu]
 simpa using h
theorem qCx {α : Type} {z : α} (f : List α → Tm → α) {c : List Tm} {t : Tm} {i : Int} (h : i = cnt c) : atA z (q4a f [] (c ++ [t])) i = f (q4a f [] c) t := by
 rw [qAi]
 refine qOx ?_
 unfold cnt at *
 rw [qAu]
 simpa using h
def opQ (v : Int → Rat) (xs : List R3) (t : Tm) : Rat :=
 if t.k = 1 then qOf t.q else if t.k = 2 then qOf (at3 xs t.n) else if t.k = 3 then v t.a + v t.b else if t.k = 4 then v t.a - v t.b
 else if t.k = 5 then v t.a * v t.b else if t.k = 6 then v t.a / v t.b else if t.k = 7 then -v t.a else v t.a ^ t.n
def qPn (a b p q : Rat) : Rat := (p - a / b * q) / b
def qLh (v d : Int → Rat) (s : Int) (t : Tm) : Rat :=
 if t.k = 1 then 0 else if t.k = 2 then (if t.n = s then 1 else 0) else if t.k = 3 then d t.a + d t.b else if t.k = 4 then d t.a - d t.b
 else if t.k = 5 then d t.a * v t.b + v t.a * d t.b else if t.k = 6 then qPn (v t.a) (v t.b) (d t.a) (d t.b) else if t.k = 7 then -d t.a
 else (t.n : Rat) * v t.a ^ (t.n - 1) * d t.a
def quoE (a b p q p' q' r s : Rat) : Rat := (r - qPn a b p' q' * q - qPn a b p q * q' - a / b * s) / b
def j0h (v d d' e : Int → Rat) (t : Tm) : Rat :=
 if t.k = 1 then 0 else if t.k = 2 then 0 else if t.k = 3 then e t.a + e t.b else if t.k = 4 then e t.a - e t.b
 else if t.k = 5 then e t.a * v t.b + d t.a * d' t.b + (d' t.a * d t.b + v t.a * e t.b) else if t.k = 6 then quoE (v t.a) (v t.b) (d t.a) (d t.b) (d' t.a) (d' t.b) (e t.a) (e t.b) else if t.k = 7 then -e t.a
 else (t.n : Rat) * ((t.n - 1 : Int) : Rat) * v t.a ^ (t.n - 1 - 1) * d t.a * d' t.a + (t.n : Rat) * v t.a ^ (t.n - 1) * e t.a
theorem qDq {v w : Int → Rat} {xs : List R3} {t : Tm} {i : Int} (ht : q1n t i = true) (h : ∀ k ∈ q5z t,v k = w k) : opQ v xs t = opQ w xs t := by
 unfold opQ
 rcases q1v ht with h1 | ⟨h1,_⟩ | ⟨h1,_⟩ | ⟨h1,_⟩ | ⟨h1,_⟩
 ·simp only [h1,if_true]
 ·simp [h1]
 ·rw [q6e h1] at h
  rw [h t.a (by simp),h t.b (by simp)]
  repeat' split
  all_goals first | rfl | omega
 ·rw [q3w (.inl h1)] at h
  rw [h t.a (by simp)]
  simp [h1]
 ·rw [q3w (.inr h1)] at h
  rw [h t.a (by simp)]
  simp [h1]
theorem qBi {v w d d1 : Int → Rat} {s : Int} {t : Tm} {i : Int} (ht : q1n t i = true) (h : ∀ k ∈ q5z t,v k = w k ∧ d k = d1 k) : qLh v d s t = qLh w d1 s t := by
 unfold qLh
 rcases q1v ht with h1 | ⟨h1,_⟩ | ⟨h1,_⟩ | ⟨h1,_⟩ | ⟨h1,_⟩
 ·simp only [h1,if_true]
 ·simp [h1]
 ·rw [q6e h1] at h
  obtain ⟨e1,e2⟩ := h t.a (by simp)
  obtain ⟨e3,e4⟩ := h t.b (by simp)
  rw [e1,e2,e3,e4]
  repeat' split
  all_goals first | rfl | omega
 ·rw [q3w (.inl h1)] at h
  rw [(h t.a (by simp)).2]
  simp [h1]
 ·rw [q3w (.inr h1)] at h
  rw [(h t.a (by simp)).1,(h t.a (by simp)).2]
  simp [h1]
theorem qQg {v w d d1 d' d2 e e1 : Int → Rat} {t : Tm} {i : Int} (ht : q1n t i = true) (h : ∀ k ∈ q5z t,v k = w k ∧ d k = d1 k ∧ d' k = d2 k ∧ e k = e1 k) : j0h v d d' e t = j0h w d1 d2 e1 t := by
 unfold j0h
 rcases q1v ht with h1 | ⟨h1,_⟩ | ⟨h1,_⟩ | ⟨h1,_⟩ | ⟨h1,_⟩
 ·simp only [h1,if_true]
 ·simp [h1]
 ·rw [q6e h1] at h
  obtain ⟨e1,e2,e3,e4⟩ := h t.a (by simp)
  obtain ⟨e5,e6,e7,e8⟩ := h t.b (by simp)
  rw [e1,e2,e3,e4,e5,e6,e7,e8]
  repeat' split
  all_goals first | rfl | omega
 ·rw [q3w (.inl h1)] at h
  rw [(h t.a (by simp)).2.2.2]
  simp [h1]
 ·rw [q3w (.inr h1)] at h
  obtain ⟨e1,e2,e3,e4⟩ := h t.a (by simp)
  rw [e1,e2,e3,e4]
  simp [h1]
def fV (xs : List R3) (v : List Rat) (t : Tm) : Rat := opQ (atA 0 v) xs t
def fD (xs : List R3) (s : Int) (v : List (Rat × Rat)) (t : Tm) : Rat × Rat := (opQ (fun i => (atA (0,0) v i).1) xs t,qLh (fun i => (atA (0,0) v i).1) (fun i => (atA (0,0) v i).2) s t)
abbrev Q4 : Type := Rat × Rat × Rat × Rat
def z4 : Q4 := (0,0,0,0)
def fE (xs : List R3) (s r : Int) (v : List Q4) (t : Tm) : Q4 :=
 (opQ (fun i => (atA z4 v i).1) xs t, qLh (fun i => (atA z4 v i).1) (fun i => (atA z4 v i).2.1) s t, qLh (fun i => (atA z4 v i).1) (fun i => (atA z4 v i).2.2.1) r t,
  j0h (fun i => (atA z4 v i).1) (fun i => (atA z4 v i).2.1) (fun i => (atA z4 v i).2.2.1) (fun i => (atA z4 v i).2.2.2) t)
def vQ (xs : List R3) (c : List Tm) (i : Int) : Rat := atA 0 (q4a (fV xs) [] c) i
def dQ (xs : List R3) (s : Int) (c : List Tm) (i : Int) : Rat := (atA (0,0) (q4a (fD xs s) [] c) i).2
def eQ (xs : List R3) (s r : Int) (c : List Tm) (i : Int) : Rat := (atA z4 (q4a (fE xs s r) [] c) i).2.2.2
theorem qZb (xs : List R3) : qZ 0 (fV xs) := ⟨fun v w t i ht h => qDq ht h⟩
theorem qYh (xs : List R3) (s : Int) : qZ (0, 0) (fD xs s) :=         ⟨fun v w t i ht h => by
 unfold fD
 rw [qDq (w := fun i => (atA (0, 0) w i).1) ht (fun k hk => by rw [h k hk]), qBi (w := fun i => (atA (0, 0) w i).1) (d1 := fun i => (atA (0, 0) w i).2) ht (fun k hk => by rw [h k hk]; exact ⟨rfl, rfl⟩)]⟩
theorem qXg (xs : List R3) (s r : Int) : qZ z4 (fE xs s r) :=         ⟨fun v w t i ht h => by
 have e1 := qDq (v := fun i => (atA z4 v i).1) (w := fun i => (atA z4 w i).1) (xs := xs) ht fun k hk => by rw [h k hk]
 have e2 := qBi (v := fun i => (atA z4 v i).1) (w := fun i => (atA z4 w i).1) (d := fun i => (atA z4 v i).2.1) (d1 := fun i => (atA z4 w i).2.1) (s := s) ht fun k hk => by rw [h k hk]; exact ⟨rfl,rfl⟩
 have e3 := qBi (v := fun i => (atA z4 v i).1) (w := fun i => (atA z4 w i).1) (d := fun i => (atA z4 v i).2.2.1) (d1 := fun i => (atA z4 w i).2.2.1) (s := r) ht fun k hk => by rw [h k hk]; exact ⟨rfl,rfl⟩
 have e4 := qQg (v := fun i => (atA z4 v i).1) (w := fun i => (atA z4 w i).1) (d := fun i => (atA z4 v i).2.1) (d1 := fun i => (atA z4 w i).2.1) (d' := fun i => (atA z4 v i).2.2.1) (d2 := fun i => (atA z4 w i).2.2.1) (e := fun i => (atA z4 v i).2.2.2) (e1 := fun i => (atA z4 w i).2.2.2) ht fun k hk => by rw [h k hk]; exact ⟨rfl,rfl,rfl,rfl⟩
 unfold fE
 rw [e1, e2, e3, e4]⟩
theorem vQ_D (xs : List R3) (s : Int) (c : List Tm) (i : Int) : (atA (0,0) (q4a (fD xs s) [] c) i).1 = vQ xs c i := by
 rw [qBe Prod.fst,qAb Prod.fst (f' := fV xs)]
 ·rfl
 ·intro v t
  show opQ (fun i => (atA (0,0) v i).1) xs t = opQ (atA 0 (v.map Prod.fst)) xs t
  congr 1
  funext i
  exact qBe Prod.fst (0,0) v i
def g13 (x : Q4) : Rat × Rat := (x.1,x.2.2.1)
def g12 (x : Q4) : Rat × Rat := (x.1,x.2.1)
theorem D_E13 (xs : List R3) (s r : Int) (c : List Tm) (i : Int) : g13 (atA z4 (q4a (fE xs s r) [] c) i) = atA (0,0) (q4a (fD xs r) [] c) i := by
 rw [qBe g13,qAb g13 (f' := fD xs r)]
 ·rfl
 ·intro v t
  have e := fun i => qBe g13 z4 v i
  have e1 : (fun i => (atA z4 v i).1) = fun i => (atA (0,0) (v.map g13) i).1 := funext fun i => congrArg Prod.fst (e i)
  have e2 : (fun i => (atA z4 v i).2.2.1) = fun i => (atA (0,0) (v.map g13) i).2 := funext fun i => congrArg Prod.snd (e i)
  show (opQ (fun i => (atA z4 v i).1) xs t,qLh (fun i => (atA z4 v i).1) (fun i => (atA z4 v i).2.2.1) r t) = _
  rw [e1,e2]
  rfl
theorem D_E12 (xs : List R3) (s r : Int) (c : List Tm) (i : Int) : g12 (atA z4 (q4a (fE xs s r) [] c) i) = atA (0,0) (q4a (fD xs s) [] c) i := by
 rw [qBe g12,qAb g12 (f' := fD xs s)]
 ·rfl
 ·intro v t
  have e := fun i => qBe g12 z4 v i
  have e1 : (fun i => (atA z4 v i).1) = fun i => (atA (0,0) (v.map g12) i).1 := funext fun i => congrArg Prod.fst (e i)
  have e2 : (fun i => (atA z4 v i).2.1) = fun i => (atA (0,0) (v.map g12) i).2 := funext fun i => congrArg Prod.snd (e i)
  show (opQ (fun i => (atA z4 v i).1) xs t,qLh (fun i => (atA z4 v i).1) (fun i => (atA z4 v i).2.1) s t) = _
  rw [e1,e2]
  rfl
theorem j1p {xs : List R3} {c : List Tm} {j : Nat} {t : Tm} (ht : c[j]? = some t) (hok : q1n t j = true) : vQ xs c j = opQ (vQ xs c) xs t := qIk (qZb xs) ht hok
theorem qXe {xs : List R3} {s : Int} {c : List Tm} {j : Nat} {t : Tm} (ht : c[j]? = some t) (hok : q1n t j = true) : dQ xs s c j = qLh (vQ xs c) (dQ xs s c) s t := by
 have := congrArg Prod.snd (qIk (qYh xs s) ht hok)
 have e : (fun i => (atA (0,0) (q4a (fD xs s) [] c) i).1) = vQ xs c := funext (vQ_D xs s c)
 rw [← e]
 exact this
theorem eQ_at {xs : List R3} {s r : Int} {c : List Tm} {j : Nat} {t : Tm} (ht : c[j]? = some t) (hok : q1n t j = true) : eQ xs s r c j = j0h (vQ xs c) (dQ xs s c) (dQ xs r c) (eQ xs s r c) t := by
 have := congrArg (fun x : Q4 => x.2.2.2) (qIk (qXg xs s r) ht hok)
 have e1 : (fun i => (atA z4 (q4a (fE xs s r) [] c) i).1) = vQ xs c := funext fun i => (congrArg Prod.fst (D_E12 xs s r c i)).trans (vQ_D xs s c i)
 have e2 : (fun i => (atA z4 (q4a (fE xs s r) [] c) i).2.1) = dQ xs s c := funext fun i => congrArg Prod.snd (D_E12 xs s r c i)
 have e3 : (fun i => (atA z4 (q4a (fE xs s r) [] c) i).2.2.1) = dQ xs r c := funext fun i => congrArg Prod.snd (D_E13 xs s r c i)
 rw [← e1,← e2,← e3]
 exact this
structure Sem (xs : List R3) (s : Int) (c : List Tm) (k : Int) (p q : Rat) : Prop where
 h0 : 0 ≤ k
 h1 : k < cnt c
 v : vQ xs c k = p
 d : dQ xs s c k = q
variable {xs : List R3} {s : Int} {c : List Tm}
theorem Sem.app {k : Int} {p q : Rat} (h : Sem xs s c k p q) (e : List Tm) : Sem xs s (c ++ e) k p q :=
 ⟨h.h0,by have := h.h1; unfold cnt at *; rw [List.length_append]; omega,(q4z _ h.h0 h.h1).trans h.v,(congrArg Prod.snd (q4z _ h.h0 h.h1)).trans h.d⟩
theorem Sem.to {k : Int} {p q p' q' : Rat} (h : Sem xs s c k p q) (e1 : p = p') (e2 : q = q') : Sem xs s c k p' q' := e1 ▸ e2 ▸ h
theorem Sem.put (t : Tm) : Sem xs s (c ++ [t]) (cnt c) (opQ (vQ xs c) xs t) (qLh (vQ xs c) (dQ xs s c) s t) :=
 ⟨q6s c, by unfold cnt; simp; omega, qCx _ rfl, (congrArg Prod.snd (qCx (fD xs s) rfl)).trans              (by
  have e : (fun i => (atA (0,0) (q4a (fD xs s) [] c) i).1) = vQ xs c := funext (vQ_D xs s c)
  rw [← e]
  rfl)⟩
theorem Sem.add {a b : Int} {p q p' q' : Rat} (h : Sem xs s c a p q) (h' : Sem xs s c b p' q') : Sem xs s (c ++ [mkT 3 a b 0]) (cnt c) (p + p') (q + q') := by
 rw [← h.v,← h.d,← h'.v,← h'.d]; exact Sem.put _
theorem Sem.sub {a b : Int} {p q p' q' : Rat} (h : Sem xs s c a p q) (h' : Sem xs s c b p' q') : Sem xs s (c ++ [mkT 4 a b 0]) (cnt c) (p - p') (q - q') := by
 rw [← h.v,← h.d,← h'.v,← h'.d]; exact Sem.put _
theorem Sem.mul {a b : Int} {p q p' q' : Rat} (h : Sem xs s c a p q) (h' : Sem xs s c b p' q') : Sem xs s (c ++ [mkT 5 a b 0]) (cnt c) (p * p') (q * p' + p * q') := by
 rw [← h.v,← h.d,← h'.v,← h'.d]; exact Sem.put _
theorem Sem.div {a b : Int} {p q p' q' : Rat} (h : Sem xs s c a p q) (h' : Sem xs s c b p' q') : Sem xs s (c ++ [mkT 6 a b 0]) (cnt c) (p / p') (qPn p p' q q') := by
 rw [← h.v,← h.d,← h'.v,← h'.d]; exact Sem.put _
theorem Sem.neg {a : Int} {p q : Rat} (h : Sem xs s c a p q) : Sem xs s (c ++ [mkT 7 a 0 0]) (cnt c) (-p) (-q) := by
 rw [← h.v,← h.d]; exact Sem.put _
theorem Sem.pow {a n : Int} {p q : Rat} (h : Sem xs s c a p q) : Sem xs s (c ++ [mkT 8 a 0 n]) (cnt c) (p ^ n) ((n : Rat) * p ^ (n - 1) * q) := by
 rw [← h.v,← h.d]; exact Sem.put _
theorem Sem.lit {v : Int} : Sem xs s (c ++ [q9o v]) (cnt c) (v : Rat) 0 := (Sem.put (q9o v)).to (q1b _) rfl
end Go.Proofs.YtjkcmnedolfkjaaGreat.Rd
end
section
set_option linter.unusedVariables false
set_option linter.unusedSimpArgs false
namespace Go.Proofs.YtjkcmnedolfkjaaGreat.Rd
open Go Go.RowKit Go.Proofs.YtjkcmnedolfkjaaGreatW.PrintWords Go.Proofs.YtjkcmnedolfkjaaGreat.PL Go.Proofs.YtjkcmnedolfkjaaGreat.Num
theorem z_two (v : Rat) : v ^ (2 : Int) = v * v := by
 rw [show (2 : Int) = ((2 : Nat) : Int) from rfl,Rat.zpow_natCast,Rat.pow_succ,Rat.pow_succ,Rat.pow_zero,Rat.one_mul]
theorem z_one (v : Rat) : v ^ (1 : Int) = v := by
 rw [show (1 : Int) = ((1 : Nat) : Int) from rfl,Rat.zpow_natCast,Rat.pow_succ,Rat.pow_zero,Rat.one_mul]
theorem quo2 (a b p q : Rat) : (p * b - a * q) / b ^ (2 : Int) = qPn a b p q := by
 rw [z_two]
 unfold qPn
 by_cases h : b = 0
 ·subst h
  simp [Rat.div_def]
 ·grind
theorem quo3 (a b p q p' q' r s : Rat) : qPn (p * b - a * q) (b ^ (2 : Int)) (r * b + p * q' - (p' * q + a * s)) (((2 : Int) : Rat) * b ^ ((2 : Int) - 1) * q') = quoE a b p q p' q' r s := by
 rw [show (2 : Int) - 1 = 1 from rfl,z_one,z_two,show ((2 : Int) : Rat) = 2 from rfl]
 unfold quoE qPn
 by_cases h : b = 0
 ·subst h
  simp [Rat.div_def]
 ·grind
section
variable {xs : List R3} {r : Int} {l : List Bool} {d : List Int} {c : List Tm} {t : Tm} {bd : Bool} {va wa pa qa vb wb pb qb : Rat}
structure Kid (xs : List R3) (r : Int) (c : List Tm) (l : List Bool) (d : List Int) (x : Int) (v w p q : Rat) : Prop where
 o : Sem xs r c x v w
 y : bAt l x = true → Sem xs r c (dAt d x) p q
 n : ¬ bAt l x = true → p = 0 ∧ q = 0
theorem qWt (hk : t.k = 3 ∨ t.k = 4) (hA : Kid xs r c l d t.a va wa pa qa) (hB : Kid xs r c l d t.b vb wb pb qb) (hab : bAt l t.a = true ∨ bAt l t.b = true) : Sem xs r (qLg l d c bd t).1 (qLg l d c bd t).2.1 (if t.k = 3 then pa + pb else pa - pb) (if t.k = 3 then qa + qb else qa - qb) := by
 unfold qLg
 split
 ·rename_i a
  split
  ·rename_i e
   rcases hk with h | h
   ·rw [h]
    exact (hA.y a).add (hB.y e)
   ·rw [h]
    exact (hA.y a).sub (hB.y e)
  ·rename_i e
   obtain ⟨e1,e2⟩ := hB.n e
   refine (hA.y a).to ?_ ?_ <;> (split <;> grind)
 ·rename_i a
  obtain ⟨e1,e2⟩ := hA.n a
  have e := hB.y (hab.resolve_left a)
  split
  ·refine e.neg.to ?_ ?_ <;> (rw [if_neg (by omega)]; grind)
  ·refine e.to ?_ ?_ <;> (rw [if_pos (by omega)]; grind)
theorem qNd (hA : Kid xs r c l d t.a va wa pa qa) (hB : Kid xs r c l d t.b vb wb pb qb) (hab : bAt l t.a = true ∨ bAt l t.b = true) : Sem xs r (q3y l d c bd t).1 (q3y l d c bd t).2.1 (pa * vb + va * pb) (qa * vb + pa * wb + (wa * pb + va * qb)) := by
 unfold q3y
 dsimp only
 split
 ·rename_i e
  split
  ·rename_i a
   exact (((hA.y a).mul hB.o).app _).add ((hA.o.app _).mul ((hB.y e).app _))
  ·rename_i a
   obtain ⟨e1,e2⟩ := hA.n a
   refine (hA.o.mul (hB.y e)).to ?_ ?_ <;> grind
 ·rename_i e
  obtain ⟨e1,e2⟩ := hB.n e
  have a := hab.resolve_right e
  rw [if_pos a]
  refine ((hA.y a).mul hB.o).to ?_ ?_ <;> grind
theorem qKg (hA : Kid xs r c l d t.a va wa pa qa) (hB : Kid xs r c l d t.b vb wb pb qb) (hab : bAt l t.a = true ∨ bAt l t.b = true) : Sem xs r (q3h l d c bd t).1 (q3h l d c bd t).2.1 (qPn va vb pa pb) (quoE va vb pa pb wa wb qa qb) := by
 unfold q3h
 dsimp only
 split
 ·rename_i e
  split
  ·rename_i a
   refine ((((((hA.y a).mul hB.o).app _).sub ((hA.o.app _).mul ((hB.y e).app _))).app _).div ((((hB.o.app _).app _).app _).pow (n := 2))).to (quo2 va vb pa pb) (quo3 va vb pa pb wa wb qa qb)
  ·rename_i a
   obtain ⟨e1,e2⟩ := hA.n a
   subst e1 e2
   refine ((((hA.o.mul (hB.y e)).neg).app _).div (((hB.o.app _).app _).pow (n := 2))).to ?_ ?_
   ·rw [← quo2]
    congr 1
    grind
   ·rw [← quo3]
    congr 1 <;> grind
 ·rename_i e
  obtain ⟨e1,e2⟩ := hB.n e
  have a := hab.resolve_right e
  subst e1 e2
  refine ((hA.y a).div hB.o).to ?_ ?_
  ·unfold qPn
   rw [Rat.mul_zero,Rat.sub_eq_add_neg,Rat.neg_zero,Rat.add_zero]
  ·unfold quoE qPn
   congr 1
   grind
theorem qRb (hA : Kid xs r c l d t.a va wa pa qa) (a : bAt l t.a = true) : Sem xs r (q4t d c bd t).1 (q4t d c bd t).2.1 ((t.n : Rat) * va ^ (t.n - 1) * pa) ((t.n : Rat) * ((t.n - 1 : Int) : Rat) * va ^ (t.n - 1 - 1) * pa * wa + (t.n : Rat) * va ^ (t.n - 1) * qa) := by
 unfold q4t
 split
 ·rename_i h
  rw [h,show (1 : Int) - 1 = 0 from rfl,Rat.zpow_zero,show ((1 : Int) : Rat) = 1 from rfl,show ((0 : Int) : Rat) = 0 from rfl]
  refine (hA.y a).to ?_ ?_ <;> grind
 ·dsimp only
  refine ((((Sem.lit (v := t.n)).app _).mul ((hA.o.app _).pow (n := t.n - 1))).mul ((((hA.y a).app _).app _).app _)).to rfl ?_
  grind
theorem qYr {s i : Int} (V W P Q : Int → Rat) (hok : q1n t i = true) (hK : ∀ x ∈ q5z t,Kid xs r c l d x (V x) (W x) (P x) (Q x))
  (hl : (t.k = 2 ∧ t.n = s) ∨ ((t.k = 7 ∨ (t.k = 8 ∧ t.n ≠ 0)) ∧ bAt l t.a = true) ∨ ((t.k = 3 ∨ t.k = 4 ∨ t.k = 5 ∨ t.k = 6) ∧ (bAt l t.a = true ∨ bAt l t.b = true))) :
  Sem xs r (q5m l d c bd t).1 (q5m l d c bd t).2.1 (qLh V P s t) (j0h V P W Q t) := by
 unfold q5m qLh j0h
 rcases hl with ⟨h,h2⟩ | ⟨h,h2⟩ | ⟨h,h2⟩
 ·rw [if_pos h,if_neg (by omega),if_pos h,if_pos h2,if_neg (by omega),if_pos h]
  exact Sem.lit
 ·rcases h with h | ⟨h,h3⟩
  ·rw [q3w (.inl h)] at hK
   have hA := hK t.a (by simp)
   simp only [h]
   exact (hA.y h2).neg
  ·rw [q3w (.inr h)] at hK
   have hA := hK t.a (by simp)
   simp only [h]
   exact qRb hA h2
 ·rw [q6e h] at hK
  have hA := hK t.a (by simp)
  have hB := hK t.b (by simp)
  rcases h with h | h | h | h
  ·have := qWt (bd := bd) (.inl h) hA hB h2
   rw [if_pos h,if_pos h] at this
   simp only [h]
   exact this
  ·have := qWt (bd := bd) (.inr h) hA hB h2
   rw [if_neg (by omega),if_neg (by omega)] at this
   simp only [h]
   exact this
  ·simp only [h]
   exact qNd hA hB h2
  ·simp only [h]
   exact qKg hA hB h2
theorem qZi : ∃ e,(q5m l d c bd t).1 = c ++ e := by
 unfold q5m q3y q3h q4t qLg
 dsimp only
 repeat' split
 all_goals (first | exact ⟨_,rfl⟩ | exact ⟨[],(List.append_nil _).symm⟩ | (simp only [List.append_assoc]; exact ⟨_,rfl⟩))
end
theorem qTv {c : List Tm} {s : Int} {q : Nat} {t : Tm} (ht : c[q]? = some t) (hok : q1n t q = true) : (q2a c s c.length)[q]? = some (if t.k = 1 then false else qHv (q2a c s c.length) s t) := by
 have hlt := (List.getElem?_eq_some_iff.1 ht).1
 by_cases h1 : t.k = 1
 ·rw [if_pos h1]
  exact qCo ht h1 _
 ·rw [if_neg h1,q8i (N := q + 1) (by omega) (by omega),qLc ht h1]
  have hst : ∀ x : Int,0 ≤ x → x < q → bAt (q2a c s q) x = bAt (q2a c s c.length) x := fun x h0 h2 => by
   unfold bAt
   rw [q8i (N := q) (M := c.length) (by omega) (by omega)]
  unfold qHv
  rcases q1v hok with h | ⟨h,h2⟩ | ⟨h,h2,h3⟩ | ⟨h,h2⟩ | ⟨h,h2,h3⟩
  ·exact absurd h h1
  ·rw [if_pos h,if_pos h]
  ·rw [if_neg (by omega),if_neg (by omega),if_neg (by omega),if_neg (by omega),if_neg (by omega),if_neg (by omega),hst _ h2.1 h2.2,hst _ h3.1 h3.2]
  ·rw [if_neg (by omega),if_pos h,if_neg (by omega),if_pos h,hst _ h2.1 h2.2]
  ·rw [if_neg (by omega),if_neg (by omega),if_pos h,if_neg (by omega),if_neg (by omega),if_pos h,hst _ h2.1 h2.2]
theorem qNk {c : List Tm} {s : Int} (hg : q4j c = true) (xs : List R3) (r : Int) : ∀ (N : Nat) (j : Int),0 ≤ j → j < N → j < cnt c → ¬ bAt (q2a c s c.length) j = true → dQ xs s c j = 0 ∧ eQ xs s r c j = 0
 | 0,j,h0,h1,_,_ => by omega
 | N + 1,j,h0,h1,h2,hb => by
  have ih := qNk (s := s) hg xs r N
  have hlt : j.toNat < c.length := by unfold cnt at h2; omega
  obtain ⟨t,ht⟩ : ∃ t,c[j.toNat]? = some t := ⟨_,List.getElem?_eq_getElem hlt⟩
  have hok := q1j.1 hg _ t ht
  have hL := qTv (s := s) ht hok
  have e1 := qXe (xs := xs) (s := s) ht hok
  have e2 := eQ_at (xs := xs) (s := s) (r := r) ht hok
  have hj : ((j.toNat : Nat) : Int) = j := by omega
  rw [hj] at hok e1 e2
  rw [e1,e2]
  unfold bAt at hb
  rw [hL] at hb
  have hb : (if t.k = 1 then false else qHv (q2a c s c.length) s t) = false := by simpa using hb
  unfold qLh j0h
  have hk : ∀ x : Int,0 ≤ x → x < j → bAt (q2a c s c.length) x = false → dQ xs s c x = 0 ∧ eQ xs s r c x = 0 := fun x h3 h4 h5 => ih x h3 (by omega) (by omega) (by rw [h5]; simp)
  unfold qHv at hb
  rcases q1v hok with h | ⟨h,h3⟩ | ⟨h,h3,h4⟩ | ⟨h,h3⟩ | ⟨h,h3,h4⟩
  ·simp [h]
  ·rw [if_neg (by omega),if_pos h] at hb
   have hb := of_decide_eq_false hb
   simp [h,hb]
  ·rw [if_neg (by omega),if_neg (by omega),if_neg (by omega),if_neg (by omega),Bool.or_eq_false_iff] at hb
   obtain ⟨a1,a2⟩ := hk t.a h3.1 h3.2 hb.1
   obtain ⟨b1,b2⟩ := hk t.b h4.1 h4.2 hb.2
   rw [a1,a2,b1,b2]
   unfold quoE qPn
   rcases h with h | h | h | h
   all_goals (simp only [h]; constructor <;> simp [Rat.div_def] <;> grind)
  ·rw [if_neg (by omega),if_neg (by omega),if_pos h] at hb
   obtain ⟨a1,a2⟩ := hk t.a h3.1 h3.2 hb
   rw [a1,a2]
   simp [h]
  ·rw [if_neg (by omega),if_neg (by omega),if_neg (by omega),if_pos h,Bool.and_eq_false_iff] at hb
   rcases hb with hb | hb
   ·have hn : t.n = 0 := by simpa using hb
    simp [h,hn]
    exact Rat.add_zero 0
   ·obtain ⟨a1,a2⟩ := hk t.a h3.1 h3.2 hb
    rw [a1,a2]
    simp [h]
    exact Rat.add_zero 0
theorem qId {c : List Tm} {i s : Int} (hg : q4j c = true) (hi0 : 0 ≤ i) (hi1 : i < cnt c) (xs : List R3) (r : Int) : ∀ q : Nat,(q : Int) ≤ i + 1 → (q5n c (q2a c s c.length) (q1m c i.toNat) (i.toNat + 1) q).2.2 = false →
  (∃ e,(q5n c (q2a c s c.length) (q1m c i.toNat) (i.toNat + 1) q).1 = c.take (i.toNat + 1) ++ e) ∧
  ∀ j : Int,0 ≤ j → j < q → (q1m c i.toNat)[j.toNat]? = some true → (q2a c s c.length)[j.toNat]? = some true → Sem xs r (q5n c (q2a c s c.length) (q1m c i.toNat) (i.toNat + 1) q).1 (dAt (q5n c (q2a c s c.length) (q1m c i.toNat) (i.toNat + 1) q).2.1 j) (dQ xs s c j) (eQ xs s r c j)
 | 0,_,_ => by
  unfold q5n
  exact ⟨⟨[],(List.append_nil _).symm⟩,fun j h0 h1 => absurd h1 (by omega)⟩
 | q + 1,hq,hb => by
  have hlt : q < c.length := by unfold cnt at hi1; omega
  obtain ⟨t,ht⟩ : ∃ t,c[q]? = some t := ⟨_,List.getElem?_eq_getElem hlt⟩
  have hlen := qGt c (q2a c s c.length) (q1m c i.toNat) (i.toNat + 1) q
  have hih := qId hg hi0 hi1 (s := s) xs r q (by omega)
  unfold q5n at hb ⊢
  by_cases hc : (q1m c i.toNat)[q]? = some true ∧ (q2a c s c.length)[q]? = some true
  ·rw [if_pos hc,ht] at hb ⊢
   dsimp only at hb ⊢
   generalize q5n c (q2a c s c.length) (q1m c i.toNat) (i.toNat + 1) q = p at *
   obtain ⟨cc,dd,bd⟩ := p
   dsimp only at *
   cases bd
   case true => rw [qGy] at hb; cases hb
   obtain ⟨⟨e,g1⟩,g2⟩ := hih rfl
   have hok := q1j.1 hg q t ht
   have hLq := qTv (s := s) ht hok
   rw [hc.2] at hLq
   injection hLq with hLq
   have hlk := qCv ht hok hc.2
   have htk : (c.take (i.toNat + 1)) ++ c.drop (i.toNat + 1) = c := List.take_append_drop _ _
   have hcl : cnt (c.take (i.toNat + 1)) = i + 1 := by
    unfold cnt at *
    rw [List.length_take]
    omega
   have hold : ∀ x : Int,0 ≤ x → x ≤ i → Sem xs r cc x (vQ xs c x) (dQ xs r c x) := fun x h0 h1 => by
    have : Sem xs r (c.take (i.toNat + 1)) x (vQ xs (c.take (i.toNat + 1)) x) (dQ xs r (c.take (i.toNat + 1)) x) := ⟨h0,by omega,rfl,rfl⟩
    rw [g1]
    refine (this.app e).to ?_ ?_
    ·have := q4z (z := (0 : Rat)) (fV xs) (c := c.take (i.toNat + 1)) (e := c.drop (i.toNat + 1)) h0 (by omega)
     rw [htk] at this
     exact this.symm
    ·have := q4z (z := ((0,0) : Rat × Rat)) (fD xs r) (c := c.take (i.toNat + 1)) (e := c.drop (i.toNat + 1)) h0 (by omega)
     rw [htk] at this
     exact (congrArg Prod.snd this).symm
   have hS := qYr (xs := xs) (r := r) (l := q2a c s c.length) (d := dd) (c := cc) (t := t) (bd := false) (s := s) (i := q) (vQ xs c) (dQ xs r c) (dQ xs s c) (eQ xs s r c) hok        (fun x hx => by
    have hx' := q6b hok x hx
    refine ⟨hold x hx'.1 (by omega),fun hb => g2 x hx'.1 hx'.2 (q5v (q5a hg) ht hx hc.1) ?_,fun hb => qNk hg xs r q x hx'.1 hx'.2 (by unfold cnt; omega) hb⟩
    unfold bAt at hb
    cases e : (q2a c s c.length)[x.toNat]? with
    | none => rw [e] at hb; cases hb
    | some b => rw [e] at hb; have : b = true := hb; rw [this]) (by
    rcases hlk with h | h | h
    ·rw [if_neg (by omega)] at hLq
     unfold qHv at hLq
     rw [if_pos h] at hLq
     exact .inl ⟨h,of_decide_eq_true hLq.symm⟩
    ·exact .inr (.inl h)
    ·exact .inr (.inr h))
   obtain ⟨e2,he2⟩ := qZi (l := q2a c s c.length) (d := dd) (c := cc) (t := t) (bd := false)
   have hl : q < dd.length := by unfold cnt at hlen; omega
   refine ⟨⟨e ++ e2,by rw [he2,g1,List.append_assoc]⟩,fun j j0 j1 n1 l1 => ?_⟩
   rw [qSw j0 hl]
   split
   ·rename_i hj
    rw [hj,qXe ht hok,eQ_at ht hok]
    exact hS
   ·rename_i hne
    rw [he2]
    exact (g2 j j0 (by omega) n1 l1).app e2
  ·rw [if_neg hc] at hb ⊢
   obtain ⟨g1,g2⟩ := hih hb
   refine ⟨g1,fun j j0 j1 n1 l1 => ?_⟩
   by_cases e : j = q
   ·rw [e] at n1 l1
    exact absurd ⟨n1,l1⟩ hc
   ·exact g2 j j0 (by omega) n1 l1
structure Der (c : List Tm) (i s : Int) (D : List Tm) (k : Int) : Prop where
 may : q7x c i = true
 s0 : 0 ≤ s
 good : q4j D = true
 pre : ∃ e,D = c.take (i.toNat + 1) ++ e
 lo : i < k
 hi : k < cnt D
 len : cnt D ≤ cnt c + 5 * (i + 1) + 1
 sem : ∀ xs r,Sem xs r D k (dQ xs s c i) (eQ xs s r c i)
theorem qWp {c D : List Tm} {i s k : Int} (h : q6w c i s = (D,k,0)) : Der c i s D k := by
 unfold q6w at h
 split at h
 ·rename_i hm
  obtain ⟨hm,hs⟩ := hm
  have hm' := hm
  unfold q7x at hm'
  simp only [Bool.and_eq_true,decide_eq_true_eq] at hm'
  obtain ⟨⟨h0,h1⟩,hg⟩ := hm'
  have hcn := qGu c (q2a c s c.length) (q1m c i.toNat) (i.toNat + 1) (i.toNat + 1)
  have hll := q7g c s c.length
  have hb' : (q2a c s c.length)[i.toNat]? = some (bAt (q2a c s c.length) i) := by
   have : i.toNat < (q2a c s c.length).length := by unfold cnt at *; omega
   unfold bAt
   rw [List.getElem?_eq_getElem this]
   rfl
  split at h
  ·rename_i hb
   split at h
   ·cases h
   ·rename_i hbad
    have hbad : (q4r c i s).2.2 = false := by
     cases e : (q4r c i s).2.2
     ·rfl
     ·exact absurd (.inl e) hbad
    injection h with hD h
    injection h with hk h
    subst hD hk
    unfold q4r at hbad ⊢
    obtain ⟨g1,g2,g3⟩ := qH (s := s) hg h0 h1 (i.toNat + 1) (by omega) hbad
    have g4 := g3 i h0 (by omega) (q5o h0 h1) (by rw [hb',hb])
    have hsem := fun xs r => qId (s := s) hg h0 h1 xs r (i.toNat + 1) (by omega) hbad
    exact ⟨hm,hs,g1,(hsem [] 0).1,by omega,g4.2,by push_cast at hcn; omega,fun xs r => (hsem xs r).2 i h0 (by omega) (q5o h0 h1) (by rw [hb',hb])⟩
  ·rename_i hb
   split at h
   ·cases h
   ·rename_i hbad
    have hbad : (q4r c i s).2.2 = false := by
     cases e : (q4r c i s).2.2
     ·rfl
     ·exact absurd (.inl e) hbad
    injection h with hD h
    injection h with hk h
    subst hD hk
    unfold q4r at hbad ⊢
    obtain ⟨g1,g2,g3⟩ := qH (s := s) hg h0 h1 (i.toNat + 1) (by omega) hbad
    have hsem := fun xs r => qId (s := s) hg h0 h1 xs r (i.toNat + 1) (by omega) hbad
    obtain ⟨e,he⟩ := (hsem [] 0).1
    refine ⟨hm,hs,q4h g1 (qUy (q7q (by omega))),⟨e ++ [q9o 0],by rw [he,List.append_assoc]⟩,by omega,by rw [q1h]; omega,by rw [q1h]; push_cast at hcn; omega,fun xs r => ?_⟩
    obtain ⟨n1,n2⟩ := qNk (s := s) hg xs r c.length i h0 (by unfold cnt at h1; omega) h1 hb
    rw [n1,n2]
    exact Sem.lit
 ·cases h
end Go.Proofs.YtjkcmnedolfkjaaGreat.Rd
end
section
set_option linter.unusedVariables false
set_option linter.unusedSimpArgs false
namespace Go.Proofs.YtjkcmnedolfkjaaGreat.Rd
open Go Go.RowKit Go.Proofs.YtjkcmnedolfkjaaGreatW.PrintWords Go.Proofs.YtjkcmnedolfkjaaGreat.PL Go.Proofs.YtjkcmnedolfkjaaGreat.Num
theorem qKf {q : Rat} {a : R3} (h : lim q = to4 a) : a = q0x q ∧ fits q = true := by
 unfold lim at h
 split at h
 ·rename_i hf
  exact ⟨(congrArg to3 h).symm,hf⟩
 ·exact absurd (congrArg (fun r : R4 => r.2.2.2) h) (by show ¬ (2 : Int) = 0; decide)
theorem qZx {e : Int} {a : R3} (he : e ≠ 0) (h : bad e = to4 a) : False := he (congrArg (fun r : R4 => r.2.2.2) h)
theorem j0q {a : R3} (h : q1r a = true) : a = q0x (qOf a) ∧ fits (qOf a) = true := by
 obtain ⟨p,hp,rfl⟩ := q3c.1 h
 rw [q1b]
 exact ⟨rfl,hp⟩
theorem qSq {p : Rat} (h : fits p = true) : qEl (q0x p) = q0x (-p) := by unfold qEl; rw [if_pos (q2o h),q1b]
theorem qZe {t : Tm} {i : Int} (ht : q1n t i = true) (h1 : t.k = 1) : q1r t.q = true := by
 unfold q1n at ht
 rw [if_pos h1,Bool.and_eq_true] at ht
 exact ht.2
theorem qWu {c : List Tm} {xs vs : List R3} {nd : List Bool} {q : Nat} (hs : Set1 c xs nd) (h : evN c xs nd q = (vs,0)) : ∀ (N j : Nat) (t : Tm),j < N → j < q → nd[j]? = some true → c[j]? = some t → at3 vs j = q0x (vQ xs c j) ∧ fits (vQ xs c j) = true
 | 0,j,t,hj,_,_,_ => absurd hj (by omega)
 | N + 1,j,t,_,hjq,hb,ht => by
  have ih := qWu hs h N
  obtain ⟨f1,f2⟩ := qP hs q vs h j t hjq hb ht
  have hok := hs.ok j t ht
  rw [j1p ht hok]
  have kid : ∀ k ∈ q5z t,at3 vs k = q0x (vQ xs c k) ∧ fits (vQ xs c k) = true := fun k hk => by
   have h1 := qDx hs ht hk
   have h2 := hs.kid j t hb ht k hk
   have h3 := (List.getElem?_eq_some_iff.1 ht).1
   obtain ⟨tk,h4⟩ : ∃ tk,c[k.toNat]? = some tk := ⟨_,List.getElem?_eq_getElem (by omega)⟩
   have := ih k.toNat tk (by omega) (by omega) h2 h4
   rwa [show ((k.toNat : Nat) : Int) = k by omega] at this
  have hx := hs.x j t hb ht
  have to_eq : ∀ {a b : R3},to4 a = to4 b → b = a := fun h => (congrArg to3 h).symm
  unfold evT at f1
  unfold opQ
  rcases q1v hok with h1 | ⟨h1,_⟩ | ⟨h1,_⟩ | ⟨h1,_⟩ | ⟨h1,_,h2,h3⟩
  ·have g := qZe hok h1
   rw [if_pos h1,qAq g] at f1
   rw [if_pos h1,to_eq f1]
   exact j0q g
  ·have g := hx h1
   rw [if_neg (by omega),if_pos h1,qAq g] at f1
   rw [if_neg (by omega),if_pos h1,to_eq f1]
   exact j0q g
  ·rw [q6e h1] at kid
   obtain ⟨ka,fa⟩ := kid t.a (by simp)
   obtain ⟨kb,fb⟩ := kid t.b (by simp)
   rw [ka,kb] at f1
   have gab : (q1r (q0x (vQ xs c t.a)) && q1r (q0x (vQ xs c t.b))) = true := by rw [q2o fa,q2o fb]; rfl
   rw [if_neg (by omega),if_neg (by omega)] at f1 ⊢
   rcases h1 with h1 | h1 | h1 | h1
   ·rw [if_pos h1] at f1 ⊢
    unfold qDz at f1
    rw [if_pos gab,q1b,q1b] at f1
    exact qKf f1
   ·rw [if_neg (by omega),if_pos h1] at f1 ⊢
    unfold qF at f1
    rw [if_pos gab,q1b,q1b] at f1
    exact qKf f1
   ·rw [if_neg (by omega),if_neg (by omega),if_pos h1] at f1 ⊢
    unfold qIn at f1
    rw [if_pos gab,q1b,q1b] at f1
    exact qKf f1
   ·rw [if_neg (by omega),if_neg (by omega),if_neg (by omega),if_pos h1] at f1 ⊢
    unfold qCd at f1
    rw [if_pos gab,q1b,q1b] at f1
    split at f1
    ·exact (qZx (by decide) f1).elim
    ·exact qKf f1
  ·rw [q3w (.inl h1)] at kid
   obtain ⟨ka,fa⟩ := kid t.a (by simp)
   rw [ka,if_neg (by omega),if_neg (by omega),if_neg (by omega),if_neg (by omega),if_neg (by omega),if_neg (by omega),if_pos h1,qSq fa] at f1
   rw [if_neg (by omega),if_neg (by omega),if_neg (by omega),if_neg (by omega),if_neg (by omega),if_neg (by omega),if_pos h1,to_eq f1]
   exact ⟨rfl,(q8w _).trans fa⟩
  ·rw [q3w (.inr h1)] at kid
   obtain ⟨ka,fa⟩ := kid t.a (by simp)
   rw [ka,if_neg (by omega),if_neg (by omega),if_neg (by omega),if_neg (by omega),if_neg (by omega),if_neg (by omega),if_neg (by omega)] at f1
   rw [if_neg (by omega),if_neg (by omega),if_neg (by omega),if_neg (by omega),if_neg (by omega),if_neg (by omega),if_neg (by omega)]
   unfold qLm at f1
   rw [if_pos (q2o fa),if_pos ⟨h2,h3⟩,q1b] at f1
   split at f1
   ·exact (qZx (by decide) f1).elim
   ·exact qKf f1
structure Ok (c : List Tm) (i : Int) (xs : List R3) : Prop where
 made : q6a c i xs = true
 is : ofS c i xs = to4 (q0x (vQ xs c i))
 num : ∀ (j : Nat) t,(q1m c i.toNat)[j]? = some true → c[j]? = some t → fits (vQ xs c j) = true
 no : ∀ (j : Nat) t,(q1m c i.toNat)[j]? = some true → c[j]? = some t → ∀ d,byD t d → vQ xs c d ≠ 0
 ev : ∃ vs,evN c xs (q1m c i.toNat) (i.toNat + 1) = (vs,0) ∧ ∀ (j : Nat) t,(q1m c i.toNat)[j]? = some true → c[j]? = some t → at3 vs j = q0x (vQ xs c j)
theorem Ok.fits {c : List Tm} {i : Int} {xs : List R3} (h : Ok c i xs) : fits (vQ xs c i) = true := by
 have hm := h.made
 unfold q6a q7x at hm
 simp only [Bool.and_eq_true,decide_eq_true_eq] at hm
 obtain ⟨⟨⟨⟨h0,h1⟩,hg⟩,hx⟩,hr⟩ := hm
 have hl : i.toNat < c.length := by unfold cnt at h1; omega
 have := h.num i.toNat c[i.toNat] (q5o h0 h1) (List.getElem?_eq_getElem hl)
 rwa [show ((i.toNat : Nat) : Int) = i by omega] at this
theorem q4q {c : List Tm} {i : Int} {xs : List R3} (h : q6a c i xs = true) : 0 ≤ i ∧ i < cnt c ∧ q4j c = true := by
 unfold q6a q7x at h
 simp only [Bool.and_eq_true,decide_eq_true_eq] at h
 exact ⟨h.1.1.1.1,h.1.1.1.2,h.1.1.2⟩
theorem j0c {c : List Tm} {i : Int} {xs : List R3} (h : (ofS c i xs).2.2.2 = 0) : Ok c i xs := by
 unfold ofS at h
 split at h
 ·rename_i hm
  split at h
  ·rename_i he
   have hs := qMc hm
   obtain ⟨h0,h1,hg⟩ := q4q hm
   obtain ⟨vs,hv⟩ : ∃ vs,evN c xs (q1m c i.toNat) (i.toNat + 1) = (vs,0) := ⟨_,by rw [← he]⟩
   have key : ∀ (j : Nat) t,(q1m c i.toNat)[j]? = some true → c[j]? = some t → at3 vs j = q0x (vQ xs c j) ∧ Num.fits (vQ xs c j) = true := fun j t hb ht => qWu hs hv (j + 1) j t (by omega) (by have := qAn (q5a hg) hb; omega) hb ht
   have hl : i.toNat < c.length := by unfold cnt at h1; omega
   refine ⟨hm,?_,fun j t hb ht => (key j t hb ht).2,fun j t hb ht d hd => ?_,⟨vs,hv,fun j t hb ht => (key j t hb ht).1⟩⟩
   ·have := (key i.toNat c[i.toNat] (q5o h0 h1) (List.getElem?_eq_getElem hl)).1
    rw [show ((i.toNat : Nat) : Int) = i by omega] at this
    unfold ofS
    rw [if_pos hm,hv,if_pos rfl,this]
   ·have hj := qAn (q5a hg) hb
    have kid : ∀ k ∈ q5z t,at3 vs k = q0x (vQ xs c k) ∧ Num.fits (vQ xs c k) = true := fun k hk => by
     have h1 := qDx hs ht hk
     have h2 := hs.kid j t hb ht k hk
     have h3 := (List.getElem?_eq_some_iff.1 ht).1
     obtain ⟨tk,h4⟩ : ∃ tk,c[k.toNat]? = some tk := ⟨_,List.getElem?_eq_getElem (by omega)⟩
     have := key k.toNat tk h2 h4
     rwa [show ((k.toNat : Nat) : Int) = k by omega] at this
    have f := (qP hs _ vs hv j t (by omega) hb ht).1
    have hd' := (kid d (qBd hd)).1
    rcases qEo (vs := vs) (hs.ok j t ht) (fun k hk => by rw [(kid k hk).1]; exact q2o (kid k hk).2) (hs.x j t hb ht) with h | h | h
    ·have := h.2.2 d hd
     rwa [hd',q1b] at this
    ·rw [f] at h
     exact absurd h (by show ¬ (0 : Int) = 2; decide)
    ·rw [f] at h
     exact absurd h.1 (by show ¬ (0 : Int) = 3; decide)
  ·rename_i he
   exact absurd h he
 ·exact absurd h (by show ¬ (1 : Int) = 0; decide)
theorem of_may {c : List Tm} {i : Int} {xs : List R3} (hm : q6a c i xs = true) (hd : ∀ (j : Nat) t,(q1m c i.toNat)[j]? = some true → c[j]? = some t → ∀ d,byD t d → vQ xs c d ≠ 0) : (ofS c i xs).2.2.2 = 0 ∨ (ofS c i xs).2.2.2 = 2 := by
 have hs := qMc hm
 obtain ⟨h0,h1,hg⟩ := q4q hm
 by_cases he : (evN c xs (q1m c i.toNat) (i.toNat + 1)).2 = 0
 ·left
  unfold ofS
  rw [if_pos hm,if_pos he]
  rfl
 ·right
  obtain ⟨j,t,vs,j1,hv,j2,j3,j4⟩ := qOz _ he
  have hof : (ofS c i xs).2.2.2 = (evN c xs (q1m c i.toNat) (i.toNat + 1)).2 := by
   unfold ofS
   rw [if_pos hm,if_neg he]
   rfl
  have kid : ∀ k ∈ q5z t,at3 vs k = q0x (vQ xs c k) ∧ fits (vQ xs c k) = true := fun k hk => by
   have h1 := qDx hs j3 hk
   have h2 := hs.kid j t j2 j3 k hk
   have h3 := (List.getElem?_eq_some_iff.1 j3).1
   obtain ⟨tk,h4⟩ : ∃ tk,c[k.toNat]? = some tk := ⟨_,List.getElem?_eq_getElem (by omega)⟩
   have := qWu hs hv (k.toNat + 1) k.toNat tk (by omega) (by omega) h2 h4
   rwa [show ((k.toNat : Nat) : Int) = k by omega] at this
  rw [hof,← j4]
  rcases qEo (vs := vs) (hs.ok j t j3) (fun k hk => by rw [(kid k hk).1]; exact q2o (kid k hk).2) (hs.x j t j2 j3) with h | h | ⟨h,d,d1,d2⟩
  ·exact absurd (h.1.symm.trans j4).symm he
  ·exact h
  ·rw [(kid d (qBd d1)).1,q1b] at d2
   exact absurd d2 (hd j t j2 j3 d d1)
def Bd (Q M : Nat) (q : Rat) : Prop := ∃ z : Int,q = (z : Rat) / ((Q : Nat) : Rat) ∧ z.natAbs ≤ M
theorem bd_len {Q M : Nat} {q : Rat} (hQ : Q ≠ 0) (h : Bd Q M q) : q.num.natAbs ≤ M ∧ q.den ≤ Q := by
 obtain ⟨z,rfl,hz⟩ := h
 rw [← Rat.mkRat_eq_div]
 obtain ⟨e1,e2,_⟩ := q6f z Q hQ
 rw [e1,e2]
 exact ⟨Nat.le_trans (Nat.div_le_self _ _) hz,Nat.div_le_self _ _⟩
theorem j0d {Q M k l : Nat} {q : Rat} (hQ : Q ≠ 0) (hk : k ≠ 0) (hl : k ≤ l) (h : Bd Q M q) : Bd (Q * k) (M * l) q := by
 obtain ⟨z,rfl,hz⟩ := h
 refine ⟨z * k,?_,?_⟩
 ·have h1 : ((Q : Nat) : Rat) ≠ 0 := fun h => hQ (Rat.natCast_eq_zero_iff.1 h)
  have h2 : ((k : Nat) : Rat) ≠ 0 := fun h => hk (Rat.natCast_eq_zero_iff.1 h)
  rw [Rat.intCast_mul,Rat.natCast_mul,Rat.intCast_natCast]
  grind
 ·rw [Int.natAbs_mul,Int.natAbs_natCast]
  exact Nat.mul_le_mul hz hl
def j0x (α β : Rat) : Nat := α.num.natAbs * β.den + β.num.natAbs * α.den + α.den * β.den
theorem j1j {Q M : Nat} {p q α β : Rat} (hQ : Q ≠ 0) (h1 : Bd Q M p) (h2 : Bd Q M q) : Bd (Q * (α.den * β.den)) (M * j0x α β) (α * p + β * q) := by
 obtain ⟨z1,rfl,hz1⟩ := h1
 obtain ⟨z2,rfl,hz2⟩ := h2
 refine ⟨α.num * β.den * z1 + β.num * α.den * z2,?_,?_⟩
 ·have n1 : ((Q : Nat) : Rat) ≠ 0 := fun h => hQ (Rat.natCast_eq_zero_iff.1 h)
  have n2 : ((α.den : Nat) : Rat) ≠ 0 := fun h => α.den_nz (Rat.natCast_eq_zero_iff.1 h)
  have n3 : ((β.den : Nat) : Rat) ≠ 0 := fun h => β.den_nz (Rat.natCast_eq_zero_iff.1 h)
  have e1 : α = (α.num : Rat) / ((α.den : Nat) : Rat) := by rw [← Rat.mkRat_eq_div]; exact (Rat.mkRat_self α).symm
  have e2 : β = (β.num : Rat) / ((β.den : Nat) : Rat) := by rw [← Rat.mkRat_eq_div]; exact (Rat.mkRat_self β).symm
  rw [Rat.intCast_add,Rat.intCast_mul,Rat.intCast_mul,Rat.intCast_mul,Rat.intCast_mul,Rat.intCast_natCast,Rat.intCast_natCast,Rat.natCast_mul,Rat.natCast_mul]
  generalize ((α.den : Nat) : Rat) = ad at *
  generalize ((β.den : Nat) : Rat) = bd at *
  generalize (α.num : Rat) = an at *
  generalize (β.num : Rat) = bn at *
  rw [e1,e2]
  grind
 ·have a1 := Int.natAbs_add_le (α.num * β.den * z1) (β.num * α.den * z2)
  rw [Int.natAbs_mul,Int.natAbs_mul,Int.natAbs_mul,Int.natAbs_mul,Int.natAbs_natCast,Int.natAbs_natCast] at a1
  have a2 := Nat.mul_le_mul_left (α.num.natAbs * β.den) hz1
  have a3 := Nat.mul_le_mul_left (β.num.natAbs * α.den) hz2
  unfold j0x
  rw [Nat.mul_add,Nat.mul_add,Nat.mul_comm M,Nat.mul_comm M]
  exact Nat.le_trans a1 (Nat.le_trans (Nat.add_le_add a2 a3) (Nat.le_add_right _ _))
structure Fac (α : Rat) (n : Nat) : Prop where
 num : len α.num.natAbs ≤ n
 den : len α.den ≤ n
theorem q8y {α : Rat} (h : fits α = true) : Fac α 64 := ⟨(q2w h).1,(q2w h).2⟩
theorem qMr {α β : Rat} {m n : Nat} (h1 : Fac α m) (h2 : Fac β n) : Fac (α * β) (m + n) := by
 have l := q6q α β
 have := h1.num
 have := h1.den
 have := h2.num
 have := h2.den
 exact ⟨by omega,by omega⟩
theorem qMt {α : Rat} {m : Nat} (h : Fac α m) : Fac (-α) m := ⟨by rw [Rat.neg_num,Int.natAbs_neg]; exact h.num,by rw [Rat.neg_den]; exact h.den⟩
theorem qHx {n : Int} (h : n.natAbs ≤ 1000) : Fac (n : Rat) 1 := ⟨by rw [Rat.num_intCast]; exact q2x.2 (by omega),by rw [Rat.den_intCast]; exact q2x.2 (by omega)⟩
theorem qUv {α : Rat} (h : Fac α 64) (e : Nat) (he : e ≤ 7) : Fac (α ^ e) 449 := by
 have l2 := qDl α.num.natAbs e
 have l3 := qDl α.den e
 have b1 : e * len α.num.natAbs ≤ 7 * 64 := Nat.mul_le_mul he h.num
 have b2 : e * len α.den ≤ 7 * 64 := Nat.mul_le_mul he h.den
 exact ⟨by rw [Rat.num_pow,Int.natAbs_pow]; omega,by rw [Rat.den_pow]; omega⟩
theorem fac_z {α : Rat} (h : fits α = true) {n : Int} (h0 : -7 ≤ n) (h1 : n ≤ 7) (hz : n < 0 → α ≠ 0) : Fac (α ^ n) 449 := by
 rcases Int.lt_or_le n 0 with hn | hn
 ·have := qUv (q8y (q7v h (hz hn))) n.natAbs (by omega)
  rwa [qNb,← qCn,show -((n.natAbs : Nat) : Int) = n by omega] at this
 ·have := qUv (q8y h) n.natAbs (by omega)
  rwa [← Rat.zpow_natCast,show ((n.natAbs : Nat) : Int) = n by omega] at this
theorem qYe {α β : Rat} {m n : Nat} (h1 : Fac α m) (h2 : Fac β n) : len (j0x α β) ≤ 3 * (m + n) + 2 ∧ α.den * β.den ≤ j0x α β ∧ α.den * β.den ≠ 0 ∧ len (α.den * β.den) ≤ m + n := by
 have l1 := q4s α.num.natAbs β.den
 have l2 := q4s β.num.natAbs α.den
 have l3 := q4s α.den β.den
 have l4 := qDh (α.num.natAbs * β.den) (β.num.natAbs * α.den)
 have l5 := qDh (α.num.natAbs * β.den + β.num.natAbs * α.den) (α.den * β.den)
 have := h1.num
 have := h1.den
 have := h2.num
 have := h2.den
 refine ⟨?_,by unfold j0x; omega,Nat.mul_ne_zero α.den_nz β.den_nz,by omega⟩
 unfold j0x
 omega
theorem qTf {xs : List R3} {c : List Tm} {i s : Int} {j : Nat} {t : Tm} (ho : Ok c i xs) (hN : ∀ t ∈ c,-6 ≤ t.n ∧ t.n ≤ 6) (hb : (q1m c i.toNat)[j]? = some true) (ht : c[j]? = some t) {P : Rat → Prop} (h1 : P 1) (hk : ∀ k ∈ q5z t,P (dQ xs s c k)) :
  ∃ x y α β m n,P x ∧ P y ∧ Fac α m ∧ Fac β n ∧ m + n ≤ 451 ∧ dQ xs s c j = α * x + β * y := by
 obtain ⟨_,_,hg⟩ := q4q ho.made
 have hok := q1j.1 hg j t ht
 have hn := hN t (List.mem_of_getElem? ht)
 have hkid : ∀ k ∈ q5z t,fits (vQ xs c k) = true := fun k hk => by
  have hx := q6b hok k hk
  have hl := (List.getElem?_eq_some_iff.1 ht).1
  have := ho.num k.toNat c[k.toNat] (q5v (q5a hg) ht hk hb) (List.getElem?_eq_getElem (by omega))
  rwa [show ((k.toNat : Nat) : Int) = k by omega] at this
 have hno := ho.no j t hb ht
 have hv := ho.num j t hb ht
 rw [j1p ht hok] at hv
 have f0 : Fac (0 : Rat) 1 := qHx (n := 0) (by omega)
 have f1 : Fac (1 : Rat) 1 := qHx (n := 1) (by omega)
 rw [qXe ht hok]
 unfold qLh
 unfold opQ at hv
 rcases q1v hok with h | ⟨h,_⟩ | ⟨h,_⟩ | ⟨h,_⟩ | ⟨h,_⟩
 ·exact ⟨1,1,0,0,1,1,h1,h1,f0,f0,by omega,by rw [if_pos h]; grind⟩
 ·by_cases hs : t.n = s
  ·exact ⟨1,1,1,0,1,1,h1,h1,f1,f0,by omega,by rw [if_neg (by omega),if_pos h,if_pos hs]; grind⟩
  ·exact ⟨1,1,0,0,1,1,h1,h1,f0,f0,by omega,by rw [if_neg (by omega),if_pos h,if_neg hs]; grind⟩
 ·rw [q6e h] at hk hkid
  have pa := hk t.a (by simp)
  have pb := hk t.b (by simp)
  have fa := hkid t.a (by simp)
  have fb := hkid t.b (by simp)
  rcases h with h | h | h | h
  ·simp only [h] at hv ⊢
   exact ⟨_,_,1,1,1,1,pa,pb,f1,f1,by omega,by simp⟩
  ·simp only [h] at hv ⊢
   exact ⟨_,_,1,-1,1,1,pa,pb,f1,qMt f1,by omega,by simp; grind⟩
  ·simp only [h] at hv ⊢
   exact ⟨_,_,vQ xs c t.b,vQ xs c t.a,64,64,pa,pb,q8y fb,q8y fa,by omega,by simp; grind⟩
  ·have h0 := hno t.b (.inl ⟨h,rfl⟩)
   simp only [h] at hv ⊢
   have hv : fits (vQ xs c t.a / vQ xs c t.b) = true := by simpa using hv
   have f2 := q8y (q7v fb h0)
   exact ⟨_,_,(vQ xs c t.b)⁻¹,-(vQ xs c t.a / vQ xs c t.b * (vQ xs c t.b)⁻¹),64,64 + 64,pa,pb,f2,qMt (qMr (q8y hv) f2),by omega,by unfold qPn; simp; grind⟩
 ·rw [q3w (.inl h)] at hk
  exact ⟨_,1,-1,0,1,1,hk t.a (by simp),h1,qMt f1,f0,by omega,by simp only [h]; simp; grind⟩
 ·rw [q3w (.inr h)] at hk hkid
  have hz : t.n - 1 < 0 → vQ xs c t.a ≠ 0 ∨ t.n = 0 := fun hlt => by
   by_cases e : t.n = 0
   ·exact .inr e
   ·exact .inl (hno t.a (.inr ⟨h,by omega,rfl⟩))
  by_cases e : t.n = 0
  ·exact ⟨1,1,0,0,1,1,h1,h1,f0,f0,by omega,by simp only [h,e]; simp; grind⟩
  ·exact ⟨_,1,(t.n : Rat) * vQ xs c t.a ^ (t.n - 1),0,1 + 449,1,hk t.a (by simp),h1,qMr (qHx (by omega)) (fac_z (hkid t.a (by simp)) (by omega) (by omega) fun hlt => (hz hlt).resolve_right e),f0,by omega,by simp only [h]; simp; grind⟩
theorem qUl {xs : List R3} {c : List Tm} {i s : Int} (ho : Ok c i xs) (hN : ∀ t ∈ c,-6 ≤ t.n ∧ t.n ≤ 6) : ∀ q : Nat,∃ Q M : Nat,Q ≠ 0 ∧ len Q ≤ 1 + 451 * q ∧ len M ≤ 1 + 1355 * q ∧ Bd Q M 1 ∧ ∀ (j : Nat) t,j < q → (q1m c i.toNat)[j]? = some true → c[j]? = some t → Bd Q M (dQ xs s c j)
 | 0 => ⟨1,1,by omega,q2x.2 (by omega),q2x.2 (by omega),⟨1,by simp; grind,by simp⟩,fun j t hj => absurd hj (by omega)⟩
 | q + 1 => by
  obtain ⟨Q,M,hQ,l1,l2,b1,hB⟩ := qUl ho hN q
  by_cases hn : (q1m c i.toNat)[q]? = some true ∧ ∃ t,c[q]? = some t
  ·obtain ⟨hn,t,ht⟩ := hn
   obtain ⟨_,_,hg⟩ := q4q ho.made
   have hok := q1j.1 hg q t ht
   obtain ⟨x,y,α,β,m,n,hx,hy,fα,fβ,hmn,hd⟩ := qTf (s := s) (P := Bd Q M) ho hN hn ht b1 fun k hk => by
    have hx := q6b hok k hk
    have hl := (List.getElem?_eq_some_iff.1 ht).1
    have := hB k.toNat c[k.toNat] (by omega) (q5v (q5a hg) ht hk hn) (List.getElem?_eq_getElem (by omega))
    rwa [show ((k.toNat : Nat) : Int) = k by omega] at this
   obtain ⟨g1,g2,g3,g4⟩ := qYe fα fβ
   have m1 := q4s Q (α.den * β.den)
   have m2 := q4s M (j0x α β)
   refine ⟨Q * (α.den * β.den),M * j0x α β,Nat.mul_ne_zero hQ g3,by omega,by omega,j0d hQ g3 g2 b1,fun j t' hj hb ht' => ?_⟩
   by_cases e : j = q
   ·subst e
    rw [hd]
    exact j1j hQ hx hy
   ·exact j0d hQ g3 g2 (hB j t' (by omega) hb ht')
  ·refine ⟨Q,M,hQ,by omega,by omega,b1,fun j t hj hb ht => ?_⟩
   by_cases e : j = q
   ·subst e
    exact absurd ⟨hb,t,ht⟩ hn
   ·exact hB j t (by omega) hb ht
theorem d_len {xs : List R3} {c : List Tm} {i s : Int} (ho : Ok c i xs) (hN : ∀ t ∈ c,-6 ≤ t.n ∧ t.n ≤ 6) (hc : cnt c ≤ 12) {j : Nat} {t : Tm} (hb : (q1m c i.toNat)[j]? = some true) (ht : c[j]? = some t) : len (dQ xs s c j).num.natAbs ≤ 16300 ∧ len (dQ xs s c j).den ≤ 5500 := by
 obtain ⟨Q,M,hQ,l1,l2,_,hB⟩ := qUl (s := s) ho hN c.length
 have hl := (List.getElem?_eq_some_iff.1 ht).1
 obtain ⟨h1,h2⟩ := bd_len hQ (hB j t hl hb ht)
 have h1 := q2h h1
 have h2 := q2h h2
 unfold cnt at hc
 have : c.length ≤ 12 := by omega
 exact ⟨by omega,by omega⟩
set_option maxRecDepth 100000
set_option maxHeartbeats 4000000
theorem j3m : q0w Tryz.prog 82 (qHy qDz) := sound [(46, q3p), (28, qWi), (95, q8l)] (q0c q6y (q0c qRo (q0c qAr q0v))) Tryz.func82 (by kernel_rfl) (by kernel_rfl) fun us u hR =>                                                   ⟨0, fun C E hC => by
 obtain ⟨⟨s1,l1,b1⟩,⟨s2,l2,b2⟩,ha,hb,rfl,hu⟩ := hR
 have k1 := hC 46 q3p (by simp) _ _ ⟨_,ha,rfl,rfl⟩
 have k2 := hC 46 q3p (by simp) _ _ ⟨_,hb,rfl,rfl⟩
 unfold qDz at hu
 by_cases h1 : q1r (s1,l1,b1) = true
 case neg =>
  rw [Bool.eq_false_iff.2 h1] at k1 hu
  rw [Bool.false_and,if_neg (by simp),show u76 (bad 1) = .agg [ub false,.l [],.l [],ui 1] from rfl] at hu
  clear ha hb
  cbv; (repeat ((first | with_reducible refine bq ?_ | refine cl ?_); cbv)); exact hu.symm
 by_cases h2 : q1r (s2,l2,b2) = true
 case neg =>
  rw [h1] at k1
  rw [Bool.eq_false_iff.2 h2] at k2 hu
  rw [Bool.and_false,if_neg (by simp),show u76 (bad 1) = .agg [ub false,.l [],.l [],ui 1] from rfl] at hu
  clear ha hb
  cbv; (repeat ((first | with_reducible refine bq ?_ | refine cl ?_); cbv)); exact hu.symm
 rw [h1] at k1 hu
 rw [h2] at k2 hu
 rw [Bool.true_and,if_pos rfl] at hu
 obtain ⟨p,hp,ep⟩ := q3c.1 h1
 obtain ⟨q,hq,eq⟩ := q3c.1 h2
 rw [ep,eq,q1b,q1b] at hu
 have k3 := hC 28 qWi (by simp) _ _ ⟨p,q,hp,hq,rfl,rfl⟩
 rw [← ep,← eq] at k3
 have k9 := hC 95 q8l (by simp) _ _ ⟨p + q,rfl,rfl⟩
 obtain ⟨s6,l6,b6,e6,hu',i6⟩ := q4c (lim (p + q))
 rw [hu'] at k9 hu
 obtain ⟨s5,l5,b5,k3,i5⟩ := tR k3
 rw [← i5] at k9
 clear ep eq hp hq i5 i6 h1 h2 hu' ha hb
 cbv; (repeat ((first | with_reducible refine bq ?_ | refine cl ?_); cbv)); exact hu.symm⟩
theorem j3w : q0w Tryz.prog 83 (qHy qF) := sound [(46, q3p), (29, qWo), (28, qWi), (95, q8l)] (q0c q6y (q0c qWw (q0c qRo (q0c qAr q0v)))) Tryz.func83 (by kernel_rfl) (by kernel_rfl) fun us u hR =>                                                               ⟨0, fun C E hC => by
 obtain ⟨⟨s1,l1,b1⟩,⟨s2,l2,b2⟩,ha,hb,rfl,hu⟩ := hR
 have k1 := hC 46 q3p (by simp) _ _ ⟨_,ha,rfl,rfl⟩
 have k2 := hC 46 q3p (by simp) _ _ ⟨_,hb,rfl,rfl⟩
 unfold qF at hu
 by_cases h1 : q1r (s1,l1,b1) = true
 case neg =>
  rw [Bool.eq_false_iff.2 h1] at k1 hu
  rw [Bool.false_and,if_neg (by simp),show u76 (bad 1) = .agg [ub false,.l [],.l [],ui 1] from rfl] at hu
  clear ha hb
  cbv; (repeat ((first | with_reducible refine bq ?_ | refine cl ?_); cbv)); exact hu.symm
 by_cases h2 : q1r (s2,l2,b2) = true
 case neg =>
  rw [h1] at k1
  rw [Bool.eq_false_iff.2 h2] at k2 hu
  rw [Bool.and_false,if_neg (by simp),show u76 (bad 1) = .agg [ub false,.l [],.l [],ui 1] from rfl] at hu
  clear ha hb
  cbv; (repeat ((first | with_reducible refine bq ?_ | refine cl ?_); cbv)); exact hu.symm
 rw [h1] at k1 hu
 rw [h2] at k2 hu
 rw [Bool.true_and,if_pos rfl] at hu
 obtain ⟨p,hp,ep⟩ := q3c.1 h1
 obtain ⟨q,hq,eq⟩ := q3c.1 h2
 rw [ep,eq,q1b,q1b] at hu
 have k0 := hC 29 qWo (by simp) _ _ ⟨_,hb,rfl,rfl⟩
 have k3 := hC 28 qWi (by simp) _ _ ⟨p,-q,hp,(q8w q).trans hq,rfl,rfl⟩
 rw [show qEl (s2,l2,b2) = q0x (-q) by unfold qEl; rw [if_pos h2,eq,q1b]] at k0
 obtain ⟨s8,l8,b8,k0,i8⟩ := tR k0
 rw [← ep,← i8,← Rat.sub_eq_add_neg] at k3
 clear i8
 have k9 := hC 95 q8l (by simp) _ _ ⟨p - q,rfl,rfl⟩
 obtain ⟨s6,l6,b6,e6,hu',i6⟩ := q4c (lim (p - q))
 rw [hu'] at k9 hu
 obtain ⟨s5,l5,b5,k3,i5⟩ := tR k3
 rw [← i5] at k9
 clear ep eq hp hq i5 i6 h1 h2 hu' ha hb
 cbv; (repeat ((first | with_reducible refine bq ?_ | refine cl ?_); cbv)); exact hu.symm⟩
theorem j3f : q0w Tryz.prog 84 (qHy qIn) := sound [(46, q3p), (30, qKp), (95, q8l)] (q0c q6y (q0c qOg (q0c qAr q0v))) Tryz.func84 (by kernel_rfl) (by kernel_rfl) fun us u hR =>                                                     ⟨0, fun C E hC => by
 obtain ⟨⟨s1,l1,b1⟩,⟨s2,l2,b2⟩,ha,hb,rfl,hu⟩ := hR
 have k1 := hC 46 q3p (by simp) _ _ ⟨_,ha,rfl,rfl⟩
 have k2 := hC 46 q3p (by simp) _ _ ⟨_,hb,rfl,rfl⟩
 unfold qIn at hu
 by_cases h1 : q1r (s1,l1,b1) = true
 case neg =>
  rw [Bool.eq_false_iff.2 h1] at k1 hu
  rw [Bool.false_and,if_neg (by simp),show u76 (bad 1) = .agg [ub false,.l [],.l [],ui 1] from rfl] at hu
  clear ha hb
  cbv; (repeat ((first | with_reducible refine bq ?_ | refine cl ?_); cbv)); exact hu.symm
 by_cases h2 : q1r (s2,l2,b2) = true
 case neg =>
  rw [h1] at k1
  rw [Bool.eq_false_iff.2 h2] at k2 hu
  rw [Bool.and_false,if_neg (by simp),show u76 (bad 1) = .agg [ub false,.l [],.l [],ui 1] from rfl] at hu
  clear ha hb
  cbv; (repeat ((first | with_reducible refine bq ?_ | refine cl ?_); cbv)); exact hu.symm
 rw [h1] at k1 hu
 rw [h2] at k2 hu
 rw [Bool.true_and,if_pos rfl] at hu
 obtain ⟨p,hp,ep⟩ := q3c.1 h1
 obtain ⟨q,hq,eq⟩ := q3c.1 h2
 rw [ep,eq,q1b,q1b] at hu
 obtain ⟨q',hq',eq',g1,g2,g3,g4,g5,g6,_⟩ := q3u h2
 have k3 := hC 30 qKp (by simp) _ _ ⟨p,s2,l2,b2,hp,g1,g2,by omega,by omega,by rw [g6]; exact q'.den_nz,rfl,rfl⟩
 rw [show q' = q by rw [← eq',eq,q1b]] at g5 g6
 rw [g5,g6,← Rat.mul_def',← ep] at k3
 clear g1 g2 g3 g4 g5 g6 eq' hq'
 have k9 := hC 95 q8l (by simp) _ _ ⟨p * q,rfl,rfl⟩
 obtain ⟨s6,l6,b6,e6,hu',i6⟩ := q4c (lim (p * q))
 rw [hu'] at k9 hu
 obtain ⟨s5,l5,b5,k3,i5⟩ := tR k3
 rw [← i5] at k9
 clear ep eq hp hq i5 i6 h1 h2 hu' ha hb
 cbv; (repeat ((first | with_reducible refine bq ?_ | refine cl ?_); cbv)); exact hu.symm⟩
def qPw (us : List U) (u : U) : Prop := ∃ (p : Rat) (e : Nat) (n : Int),fits p = true ∧ n = e ∧ 0 < n ∧ n ≤ 128 ∧ us = [uR (q0x p),ui n] ∧ u = uR (q0x (p ^ e))
theorem qYw : q0w Tryz.prog 113 qPw := sound [(96,q4v),(61,q0g.R)] (q0c q5t (q0c q0g.sound q0v)) Tryz.func113 (by kernel_rfl) (by kernel_rfl) fun us u hR => by
 obtain ⟨p,e,n,hp,hn,n0,n1,rfl,hu⟩ := hR
 obtain ⟨r,hr⟩ : ∃ r,r = 200 := ⟨_,rfl⟩
 refine ⟨r,fun C E hC => ?_⟩
 have sg := qOb p e (by omega) (by omega)
 rw [show Int.tmod (e : Int) 2 = Int.tmod n 2 by rw [hn]] at sg
 obtain ⟨s,l,b,ep,g1,g2,g3,g4,g5,g6,g7,g8⟩ := q7y hp
 rw [ep] at sg ⊢
 dsimp only at sg
 have q1 := q2w hp
 have kM := hC 61 q0g.R (by simp)
 have kA : ∀ i : Nat,i ≤ 128 → C 61 [.l (N (p.num.natAbs ^ i)),.l l] (.l (N (p.num.natAbs ^ (i + 1)))) := fun i hi => by
  have L := q9y p.num.natAbs i q1.1 hi
  have := kM _ _ (of2R (q0t (p.num.natAbs ^ i)) g1 (by rw [q2i]; omega) (by omega))
  rwa [V_N,g7,← Nat.pow_succ] at this
 have kB : ∀ i : Nat,i ≤ 128 → C 61 [.l (N (p.den ^ i)),.l b] (.l (N (p.den ^ (i + 1)))) := fun i hi => by
  have L := q9y p.den i q1.2 hi
  have := kM _ _ (of2R (q0t (p.den ^ i)) g2 (by rw [q2i]; omega) (by omega))
  rwa [V_N,g6,← Nat.pow_succ] at this
 have L1 := q9y p.num.natAbs e q1.1 (by omega)
 have kS := hC 96 q4v (by simp) _ _ ⟨s && (Int.tmod n 2 == 1),N (p.num.natAbs ^ e),q0t _,by rw [q2i]; omega,rfl,rfl⟩
 rw [sg] at kS
 obtain ⟨s9,l9,kS,i1,i2⟩ := tI kS
 have hu' : u = .agg [ub s9,.l l9,.l (N (p.den ^ e))] := by
  rw [hu,i1,i2]
  unfold uR q0x
  rw [Rat.num_pow,Rat.den_pow]
 clear kM hC sg ep g1 g2 g3 g4 g5 g6 g7 g8 q1 L1 hu i1 i2
 unfold uR
 dsimp only
 obtain ⟨fA,hfA⟩ : ∃ f : Nat → List Int,f = fun i => N (p.num.natAbs ^ i) := ⟨_,rfl⟩
 obtain ⟨fB,hfB⟩ : ∃ f : Nat → List Int,f = fun i => N (p.den ^ i) := ⟨_,rfl⟩
 have hne : n.toNat = e := by omega
 have kA : ∀ z : Int,0 ≤ z → z ≤ 128 → C 61 [.l (fA z.toNat),.l l] (.l (fA (z + 1).toNat)) := fun z z0 z1 => by rw [hfA,show (z + 1).toNat = z.toNat + 1 by omega]; exact kA z.toNat (by omega)
 have kB : ∀ z : Int,0 ≤ z → z ≤ 128 → C 61 [.l (fB z.toNat),.l b] (.l (fB (z + 1).toNat)) := fun z z0 z1 => by rw [hfB,show (z + 1).toNat = z.toNat + 1 by omega]; exact kB z.toNat (by omega)
 have kS : C 96 [ub (s && (Int.tmod n 2 == 1)),.l (fA n.toNat)] (.agg [ub s9,.l l9]) := by rw [hfA,hne]; exact kS
 have hu' : u = .agg [ub s9,.l l9,.l (fB n.toNat)] := by rw [hfB,hne]; exact hu'
 have a0 : fA 0 = [1] := by rw [hfA]; exact j3v
 have b0 : fB 0 = [1] := by rw [hfB]; exact j3v
 clear hfA hfB hne hn hp
 cbv
 (repeat ((first | with_reducible refine ln fun _ _ _ => ?_ | refine tt ?_ | refine ff ?_ | with_reducible refine wr fun _ _ => ?_ | refine rp fun _ _ _ => ?_ | with_reducible refine bq ?_ | refine cl ?_ | refine sd ?_); cbv))
 refine q4n [1,2,4,5,6,7] ?_
 cbv
 refine q2g (fun j a h => ∃ (z : Int) (x y : List Int),0 ≤ z ∧ z ≤ n ∧ j = (n - z).toNat ∧ x = fA z.toNat ∧ y = fB z.toNat ∧ a = [.lost,ui n,.ptr 0 0,.lost,.ptr 1 0,.l x,.l y,ui z,.lost,.lost,.lost,.lost,.lost,.lost,.lost,.lost,.lost,.lost,.lost,.lost,.lost,.lost,.lost,.lost,.lost,.lost,.lost,.lost,.lost,.lost,.lost,.lost,.lost,.lost,.lost,.lost] ∧ h = [some (.cells [ub s,.l l,.l b]),some (.cells [ub false,.l [],.l []])]) ?_ r n.toNat _ _ (by omega) ⟨0,[1],[1],by omega,by omega,by omega,a0.symm,b0.symm,rfl,rfl⟩
 rintro j a h K ⟨z,x,y,z0,hi,hj,hx,hy,rfl,rfl⟩ hK
 rcases Decidable.em (z < n) with hlt | hlt
 ·have k1 := kA z z0 (by omega)
  have k2 := kB z z0 (by omega)
  rw [← hx] at k1
  rw [← hy] at k2
  obtain ⟨x2,k1,e1⟩ : ∃ x2,C 61 [.l x,.l l] (.l x2) ∧ x2 = fA (z + 1).toNat := ⟨_,k1,rfl⟩
  obtain ⟨y2,k2,e2⟩ : ∃ y2,C 61 [.l y,.l b] (.l y2) ∧ y2 = fB (z + 1).toNat := ⟨_,k2,rfl⟩
  clear kA kB kS hu'
  cbv
  (repeat ((first | refine tt ?_ | with_reducible refine wr fun _ _ => ?_ | refine cl ?_); cbv))
  rename_i z' hz'
  refine q4n [1,2,4,5,6,7] ?_
  exact hK (n - (z + 1)).toNat _ _ (by omega) ⟨z + 1,x2,y2,by omega,by omega,rfl,e1,e2,by rw [hz']; rfl,rfl⟩
 ·have hzn : z = n := by omega
  rw [hzn] at hx hy
  rw [← hx] at kS
  rw [← hy] at hu'
  clear kA kB hK hx hy
  cases s
  ·cbv
   (repeat ((first | refine ff ?_ | refine cl ?_); cbv))
   exact hu'.symm
  ·rw [Bool.true_and] at kS
   rcases Decidable.em (Int.tmod n 2 = 1) with ht | ht
   ·rw [ht] at kS
    cbv
    (repeat ((first | refine tt ?_ | refine ff ?_ | refine cl ?_ | refine sd ?_ | intro _ _); cbv))
    exact hu'.symm
   ·rw [show (Int.tmod n 2 == 1) = false by simpa using ht] at kS
    cbv
    (repeat ((first | refine ff ?_ | refine cl ?_ | refine sd ?_ | intro _ _); cbv))
    exact hu'.symm
def qGz (us : List U) (u : U) : Prop := ∃ q : Rat,q ≠ 0 ∧ len q.den ≤ 100000 ∧ us = [uR (q0x q)] ∧ u = uR (q0x q⁻¹)
theorem qW {q : Rat} (h : q ≠ 0) : q0x q⁻¹ = (decide (q.num < 0),N q.den,N q.num.natAbs) := by
 have hz : q.num ≠ 0 := fun h2 => h (Rat.num_eq_zero.1 h2)
 obtain ⟨h1,h2⟩ := qCu q h
 unfold q0x
 rw [h1,h2]
 obtain ⟨_,_,p3⟩ := q6f (if q.num < 0 then -(q.den : Int) else (q.den : Int)) q.num.natAbs (by omega)
 rw [← qOs q hz] at p3
 rw [p3]
 have := q.den_nz
 congr 1
 rw [decide_eq_decide]
 split <;> omega
theorem qQ : q0w Tryz.prog 114 qGz := sound [(96, q4v)] (q0c q5t q0v) Tryz.func114 (by kernel_rfl) (by kernel_rfl) fun us u hR =>                                  ⟨0, fun C E hC => by
 obtain ⟨q,hq,hl,rfl,hu⟩ := hR
 have k1 := hC 96 q4v (by simp) _ _ ⟨decide (q.num < 0),N q.den,q0t _,by rw [q2i]; omega,rfl,rfl⟩
 obtain ⟨s1,l1,k1,e1,e2⟩ := tI k1
 rw [qAm,V_N] at e2
 have hz : (Z (decide (q.num < 0)) (N q.den)) = if q.num < 0 then -(q.den : Int) else (q.den : Int) := by unfold Z; rw [V_N]; simp
 rw [hz] at e1
 have hd := q.den_nz
 have hu' : u = .agg [ub s1,.l l1,.l (N q.num.natAbs)] := by
  rw [hu,qW hq,e1,e2]
  unfold uR
  have : decide ((if q.num < 0 then -(q.den : Int) else (q.den : Int)) < 0) = decide (q.num < 0) := by
   rw [decide_eq_decide]
   split <;> omega
  rw [this]
 unfold uR q0x
 dsimp only
 clear hu e1 e2 hz hd hq hl
 generalize decide (q.num < 0) = s at *
 generalize N q.num.natAbs = l at *
 generalize N q.den = b at *
 cbv; (repeat ((refine cl ?_); cbv)); exact hu'.symm⟩
def of8R (us : List U) (u : U) : Prop := ∃ (a : R3) (n : Int),LB a ∧ -9223372036854775808 < n ∧ n ≤ 9223372036854775807 ∧ us = [uR a,ui n] ∧ u = u76 (qLm a n)
theorem of8_ok : q0w Tryz.prog 85 of8R := sound [(46, q3p), (40, q6j), (113, qPw), (114, qGz), (95, q8l)] (q0c q6y (q0c qBa (q0c qYw (q0c qQ (q0c qAr q0v))))) Tryz.func85 (by kernel_rfl) (by kernel_rfl) fun us u hR =>                                                                               ⟨0, fun C E hC => by
 obtain ⟨⟨s,l,b⟩,n,ha,h0,h1,rfl,hu⟩ := hR
 have k1 := hC 46 q3p (by simp) _ _ ⟨_,ha,rfl,rfl⟩
 unfold qLm at hu
 clear ha
 by_cases hg : q1r (s,l,b) = true
 case neg =>
  rw [if_neg hg,show u76 (bad 1) = .agg [ub false,.l [],.l [],ui 1] from rfl] at hu
  rw [Bool.eq_false_iff.2 hg] at k1
  cbv; (repeat ((first | with_reducible refine bq ?_ | refine cl ?_); cbv)); exact hu.symm
 rw [if_pos hg] at hu
 rw [hg] at k1
 obtain ⟨p,hp,ep⟩ := q3c.1 hg
 have q1 := q2w hp
 rw [ep,q1b] at hu
 by_cases hw : -128 ≤ n ∧ n ≤ 128
 case neg =>
  rw [if_neg hw,show u76 (bad 2) = .agg [ub false,.l [],.l [],ui 2] from rfl] at hu
  clear ep
  cbv
  rcases Decidable.em (128 < n) with h2 | h2 <;> ((repeat ((first | refine tt ?_ | refine ff ?_ | with_reducible refine bq ?_ | refine cl ?_); cbv)); exact hu.symm)
 rw [if_pos hw] at hu
 have kL := fun q => hC 95 q8l (by simp) _ _ ⟨q,rfl,rfl⟩
 by_cases hz : n = 0
 ·have k2 := hC 40 q6j (by simp) _ _ ⟨1,by omega,by omega,rfl,rfl⟩
  obtain ⟨s2,l2,b2,k2,e2⟩ := tR k2
  have hu' : u = .agg [ub s2,.l l2,.l b2,ui 0] := by
   rw [hu,hz,if_neg (by omega),Rat.zpow_zero,qHt qNq]
   have e3 : (s2,l2,b2) = q0x 1 := e2
   injection e3 with e3 e4
   injection e4 with e4 e5
   rw [e3,e4,e5]
   rfl
  clear hu e2 ep kL
  cbv; (repeat ((first | refine tt ?_ | refine ff ?_ | with_reducible refine bq ?_ | refine cl ?_); cbv)); exact hu'.symm
 by_cases hpos : 0 < n
 ·obtain ⟨e,he⟩ : ∃ e : Nat,n = e := ⟨n.toNat,by omega⟩
  rw [if_neg (by omega),he,Rat.zpow_natCast] at hu
  have k2 := hC 113 qPw (by simp) _ _ ⟨p,e,n,hp,he,hpos,by omega,rfl,rfl⟩
  have k3 := kL (p ^ e)
  rw [← ep] at k2
  obtain ⟨s2,l2,b2,k2,e2⟩ := tR k2
  rw [← e2] at k3
  obtain ⟨s6,l6,b6,e6,hu',i6⟩ := q4c (lim (p ^ e))
  rw [hu'] at k3 hu
  clear hu' i6 e2 ep kL q1 he
  cbv; (repeat ((first | refine tt ?_ | refine ff ?_ | with_reducible refine bq ?_ | refine cl ?_); cbv)); exact hu.symm
 ·obtain ⟨e,he⟩ : ∃ e : Nat,-n = e := ⟨(-n).toNat,by omega⟩
  have hln : cnt l = len p.num.natAbs := by
   injection ep with _ ep2
   injection ep2 with ep2 _
   rw [ep2,q2i]
  have hl0 : len p.num.natAbs = 0 ↔ p.num.natAbs = 0 := q3m
  by_cases hp0 : p = 0
  ·have : p.num = 0 := Rat.num_eq_zero.2 hp0
   have hl0 : cnt l = 0 := by omega
   rw [if_pos ⟨by omega,hp0⟩,show u76 (bad 3) = .agg [ub false,.l [],.l [],ui 3] from rfl] at hu
   clear ep kL hln
   cbv; (repeat ((first | with_reducible refine ln fun _ _ _ => ?_ | refine tt ?_ | refine ff ?_ | with_reducible refine bq ?_ | refine cl ?_); cbv)); exact hu.symm
  ·have hn0 : ¬ p.num = 0 := fun h => hp0 (Rat.num_eq_zero.1 h)
   have hl0 : ¬ cnt l = 0 := by omega
   rw [if_neg (fun h => hp0 h.2),show n = -(e : Int) by omega,qCn] at hu
   have k2 := hC 113 qPw (by simp) _ _ ⟨p,e,-n,hp,he,by omega,by omega,rfl,rfl⟩
   have L := q9y p.den e q1.2 (by omega)
   have k3 := hC 114 qGz (by simp) _ _ ⟨p ^ e,qUt hp0 e,by rw [Rat.den_pow]; omega,rfl,rfl⟩
   have k4 := kL (p ^ e)⁻¹
   rw [← ep] at k2
   obtain ⟨s2,l2,b2,k2,e2⟩ := tR k2
   rw [← e2] at k3
   obtain ⟨s3,l3,b3,k3,e3⟩ := tR k3
   rw [← e3] at k4
   obtain ⟨s6,l6,b6,e6,hu',i6⟩ := q4c (lim (p ^ e)⁻¹)
   rw [hu'] at k4 hu
   obtain ⟨m,k2,hm⟩ : ∃ m,C 113 [uR (s,l,b),ui m] (.agg [ub s2,.l l2,.l b2]) ∧ m = -n := ⟨_,k2,rfl⟩
   clear hu' i6 e2 e3 ep kL q1 he L hln hp0 hn0
   unfold uR at k2
   cbv
   (repeat ((first | with_reducible refine ln fun _ _ _ => ?_ | refine ff ?_ | with_reducible refine wr fun _ _ => ?_ | with_reducible refine bq ?_ | refine cl ?_); cbv))
   rename_i m' hm'
   obtain rfl : m = m' := by omega
   cbv
   (repeat ((refine cl ?_); cbv))
   exact hu.symm⟩
theorem qSd {t : Tm} (h : t.k = 1 ∨ t.k = 2) : q5z t = [] := by unfold q5z; rw [if_neg (by omega),if_neg (by omega)]
theorem qZd {t : Tm} (h : t.k = 7 ∨ t.k = 8) : q5z t = [t.a] := by unfold q5z; rw [if_pos h]
theorem qZm {t : Tm} (h : t.k = 3 ∨ t.k = 4 ∨ t.k = 5 ∨ t.k = 6) : q5z t = [t.a,t.b] := by unfold q5z; rw [if_neg (by omega),if_pos h]
theorem qBj : q0w Tryz.prog 39 q6n := sound [(21,qBx),(44,qEs)] (q0c qJv (q0c qVx q0v)) Tryz.func39 (by kernel_rfl) (by kernel_rfl) fun us u hR => by
 obtain ⟨c,i,hq,hn,rfl,hu⟩ := hR
 obtain ⟨r,hr⟩ : ∃ r,(cnt c).toNat + 10 < r := ⟨_,Nat.lt_succ_self _⟩
 refine ⟨r,fun C E hC => ?_⟩
 have kg := hC 21 qBx (by simp) _ _ ⟨c,hq,by omega,rfl,rfl⟩
 have k2 : ∀ k : Int,C 44 [ui k] (ub (qBf k)) := fun k => hC 44 qEs (by simp) _ _ ⟨k,rfl,rfl⟩
 have hm := fun i (h0 : 0 ≤ i) (h1 : i < cnt c) => q2l (c := c) tU h0 h1
 have hc := q2r c tU
 have hc0 := q6s c
 unfold qAy q7x at hu
 have hgood : q4j c = true → ∀ (k : Int) t,0 ≤ k → c[k.toNat]? = some t → q1n t k = true := fun h q t h0 ht => by
  have := q1j.1 h q.toNat t ht
  rwa [show (q.toNat : Int) = q by omega] at this
 clear hC hq
 unfold cU at kg ⊢
 obtain ⟨uB,huB⟩ : ∃ f : List Bool → Rows,f = Rd.uB := ⟨_,rfl⟩
 have uB_len : ∀ s,cnt (uB s) = cnt s := fun s => by rw [huB]; exact Rd.uB_len s
 have uB_nth : ∀ {s : List Bool} {k : Int},0 ≤ k → k < cnt s → ∃ b,s[k.toNat]? = some b ∧ (uB s)[k.toNat]? = some [ub b] := fun {s k} h0 h1 => by rw [huB]; exact Rd.uB_nth h0 h1
 have uB_set : ∀ (s : List Bool) (k : Nat) (b : Bool),(uB s).set k [ub b] = uB (s.set k b) := fun s k b => by rw [huB]; exact Rd.uB_set s k b
 rw [← huB] at hu
 generalize c.map tU = xs at *
 generalize q4j c = g at *
 cbv
 cases g
 ·rw [Bool.and_false,if_neg (by simp)] at hu
  (repeat ((first | with_reducible refine bq ?_ | refine cl ?_); cbv)); exact hu.symm
 rcases Decidable.em (0 ≤ i) with h1 | h1
 case inr =>
  rw [decide_eq_false h1,Bool.false_and,Bool.false_and,if_neg (by simp)] at hu
  (repeat ((first | refine tt ?_ | with_reducible refine bq ?_ | refine cl ?_); cbv)); exact hu.symm
 rcases Decidable.em (i < cnt c) with h2 | h2
 case inr =>
  rw [decide_eq_false h2,Bool.and_false,Bool.false_and,if_neg (by simp)] at hu
  (repeat ((first | with_reducible refine ln fun _ _ _ => ?_ | refine tt ?_ | refine ff ?_ | with_reducible refine bq ?_ | refine cl ?_); cbv)); exact hu.symm
 rw [decide_eq_true h1,decide_eq_true h2,Bool.true_and,Bool.true_and,if_pos rfl] at hu
 have hgood := hgood rfl
 (repeat ((first | with_reducible refine ln fun _ _ _ => ?_ | refine ff ?_ | refine rp fun _ _ _ => ?_ | with_reducible refine bq ?_ | refine cl ?_ | refine sd ?_); cbv))
 rename_i n0 hn0 hn0' n hn hn' rs hrs hrc
 refine el (us := [ub false]) ?_ (by omega) (by rw [hrs,List.getElem?_replicate,if_pos (by omega)])
 cbv
 refine se fun ys e hyc => ?_
 have e2 : ys = uB ((List.replicate c.length false).set i.toNat true) := by
  rw [e,hrs,← uB_set,huB]
  unfold Rd.uB
  rw [List.map_replicate]
  congr 2
  unfold cnt at hc hn
  omega
 have hnc : n = cnt c := by omega
 obtain ⟨s0,hs0⟩ : ∃ s0,s0 = (List.replicate c.length false).set i.toNat true := ⟨_,rfl⟩
 rw [← hs0] at e2
 clear e hrs hyc hrc
 subst e2
 cbv
 (repeat ((first | with_reducible refine ln fun _ _ _ => ?_ | refine tt ?_ | refine ff ?_ | refine tt ?_ rfl | with_reducible refine wr fun _ _ => ?_ | refine rp fun _ _ _ => ?_ | with_reducible refine bq ?_ | refine cl ?_ | refine sd ?_); cbv))
 refine q4n [0,5,6] ?_
 cbv
 refine q2g (fun j a h => ∃ (k : Int) (s : List Bool),-1 ≤ k ∧ k ≤ i ∧ j = (k + 1).toNat ∧ cnt s = cnt c ∧ qBm c (k + 1).toNat s = q1m c i.toNat ∧ a = [.s 7 xs,.lost,.lost,.lost,.lost,.sl 0 n n 1,ui k,.lost,.lost,.lost,.lost,.lost,.lost,.lost,.lost,.lost,.lost,.lost,.lost,.lost,.lost,.lost,.lost,.lost,.lost,.lost,.lost,.lost,.lost,.lost,.lost,.lost,.lost,.lost,.lost,.lost,.lost,.lost,.lost,.lost,.lost,.lost,.lost,.lost,.lost,.lost,.lost,.lost,.lost,.lost,.lost,.lost,.lost,.lost,.lost,.lost,.lost,.lost,.lost,.lost,.lost] ∧ h = [some (.row 1 (uB s))]) ?_ r (i + 1).toNat _ _ (by omega) ⟨i,s0,by omega,by omega,rfl,by rw [hs0]; unfold cnt; rw [List.length_set,List.length_replicate],by rw [hs0,show (i + 1).toNat = i.toNat + 1 by omega]; rfl,rfl,rfl⟩
 rintro j a h K ⟨k,s,h3,h4,hj,hsc,hd,rfl,rfl⟩ hK
 rcases Decidable.em (0 ≤ k) with h5 | h5
 ·obtain ⟨b,hb,hx⟩ := uB_nth (s := s) h5 (by omega)
  cases b
  ·rw [qTw h5 hb] at hd
   cbv
   (repeat ((first | refine tt ?_ | refine sd ?_); cbv))
   refine el ?_ (by omega) hx
   cbv
   (repeat ((first | with_reducible refine wr fun _ _ => ?_ | with_reducible refine bq ?_); cbv))
   rename_i k' hk'
   refine q4n [0,5,6] ?_
   refine hK k.toNat _ _ (by omega) ⟨k - 1,s,by omega,by omega,by omega,hsc,?_,by rw [hk']; rfl,rfl⟩
   rw [show k - 1 + 1 = k by omega]
   exact hd
  ·obtain ⟨t,ht,hx2⟩ := hm k h5 (by omega)
   rw [qPv h5 hb ht] at hd
   have k3 := k2 t.k
   have hco := q1v (hgood k t h5 ht)
   have h0 := qSd (t := t)
   have h1' := qZd (t := t)
   have h2' := qZm (t := t)
   obtain ⟨kd,ta,tb,tn,ts,tl,td⟩ := t
   dsimp only at hco h0 h1' h2' k3
   clear hgood hm k2 ht
   rcases hco with h | ⟨h,_⟩ | ⟨h,ha,hb2⟩ | h
   ·rw [h0 (.inl h)] at hd
    cbv
    (repeat ((first | refine tt ?_ | refine sd ?_); cbv))
    refine el ?_ (by omega) hx
    cbv
    (repeat ((with_reducible refine bq ?_); cbv))
    refine el ?_ (by omega) hx2
    subst h
    cbv
    (repeat ((first | refine ff ?_ | with_reducible refine wr fun _ _ => ?_ | refine cl ?_); cbv))
    rename_i k' hk'
    refine q4n [0,5,6] ?_
    refine hK k.toNat _ _ (by omega) ⟨k - 1,s,by omega,by omega,by omega,hsc,?_,by rw [hk']; rfl,rfl⟩
    rw [show k - 1 + 1 = k by omega]
    exact hd
   ·rw [h0 (.inr h)] at hd
    cbv
    (repeat ((first | refine tt ?_ | refine sd ?_); cbv))
    refine el ?_ (by omega) hx
    cbv
    (repeat ((with_reducible refine bq ?_); cbv))
    refine el ?_ (by omega) hx2
    subst h
    cbv
    (repeat ((first | refine tt ?_ | refine ff ?_ | with_reducible refine wr fun _ _ => ?_ | refine cl ?_); cbv))
    rename_i k' hk'
    refine q4n [0,5,6] ?_
    refine hK k.toNat _ _ (by omega) ⟨k - 1,s,by omega,by omega,by omega,hsc,?_,by rw [hk']; rfl,rfl⟩
    rw [show k - 1 + 1 = k by omega]
    exact hd
   ·rw [h2' h] at hd
    have hd : qBm c k.toNat ((s.set ta.toNat true).set tb.toNat true) = q1m c i.toNat := hd
    rw [show qBf kd = true by unfold qBf; exact decide_eq_true h] at k3
    obtain ⟨b1,hb1,hx3⟩ := uB_nth (s := s) (k := ta) ha.1 (by omega)
    obtain ⟨s1,hs1⟩ : ∃ s1,s1 = s.set ta.toNat true := ⟨_,rfl⟩
    have hsc1 : cnt s1 = cnt s := by rw [hs1]; unfold cnt; rw [List.length_set]
    obtain ⟨b3,hb3,hx4⟩ := uB_nth (s := s1) (k := tb) hb2.1 (by omega)
    cbv
    (repeat ((first | refine tt ?_ | refine sd ?_); cbv))
    refine el ?_ (by omega) hx
    cbv
    (repeat ((with_reducible refine bq ?_); cbv))
    refine el ?_ (by omega) hx2
    cbv
    (repeat ((first | refine tt ?_ | refine sd ?_); cbv))
    refine el ?_ (by omega) hx3
    cbv
    refine se fun ys e hyc => ?_
    have e2 : ys = uB s1 := by rw [e,hs1,← uB_set]
    clear e hyc
    subst e2
    cbv
    (repeat ((first | refine cl ?_ | refine sd ?_); cbv))
    refine el ?_ (by omega) hx4
    cbv
    refine se fun ys e hyc => ?_
    obtain ⟨s2,hs2⟩ : ∃ s2,s2 = s1.set tb.toNat true := ⟨_,rfl⟩
    have e2 : ys = uB s2 := by rw [e,hs2,← uB_set]
    have hsc2 : cnt s2 = cnt s1 := by rw [hs2]; unfold cnt; rw [List.length_set]
    clear e hyc
    subst e2
    cbv
    (repeat (((with_reducible refine wr fun _ _ => ?_)); cbv))
    rename_i k' hk'
    refine q4n [0,5,6] ?_
    refine hK k.toNat _ _ (by omega) ⟨k - 1,s2,by omega,by omega,by omega,by omega,?_,by rw [hk']; rfl,rfl⟩
    rw [show k - 1 + 1 = k by omega,hs2,hs1]
    exact hd
   ·have hk78 : kd = 7 ∨ kd = 8 := h.elim (fun h => .inl h.1) fun h => .inr h.1
    have ha : 0 ≤ ta ∧ ta < k := h.elim (fun h => h.2) fun h => h.2.1
    rw [h1' hk78] at hd
    have hd : qBm c k.toNat (s.set ta.toNat true) = q1m c i.toNat := hd
    rw [show qBf kd = false by unfold qBf; exact decide_eq_false (by omega)] at k3
    obtain ⟨b1,hb1,hx3⟩ := uB_nth (s := s) (k := ta) ha.1 (by omega)
    clear h
    cbv
    (repeat ((first | refine tt ?_ | refine sd ?_); cbv))
    refine el ?_ (by omega) hx
    cbv
    (repeat ((with_reducible refine bq ?_); cbv))
    refine el ?_ (by omega) hx2
    cbv
    (repeat ((first | refine tt ?_ | refine sd ?_); cbv))
    refine el ?_ (by omega) hx3
    cbv
    refine se fun ys e hyc => ?_
    obtain ⟨s1,hs1⟩ : ∃ s1,s1 = s.set ta.toNat true := ⟨_,rfl⟩
    have e2 : ys = uB s1 := by rw [e,hs1,← uB_set]
    have hsc1 : cnt s1 = cnt s := by rw [hs1]; unfold cnt; rw [List.length_set]
    clear e hyc
    subst e2
    cbv
    (repeat ((first | with_reducible refine wr fun _ _ => ?_ | refine cl ?_); cbv))
    rename_i k' hk'
    refine q4n [0,5,6] ?_
    refine hK k.toNat _ _ (by omega) ⟨k - 1,s1,by omega,by omega,by omega,by omega,?_,by rw [hk']; rfl,rfl⟩
    rw [show k - 1 + 1 = k by omega,hs1]
    exact hd
 ·rw [show (k + 1).toNat = 0 by omega] at hd
  unfold qBm at hd
  have hsl := uB_len s
  rw [← hd] at hu
  cbv
  (repeat ((first | refine ff ?_ | refine sd ?_ | intro _ _); cbv))
  rename_i ys e
  rw [hu,e,List.take_of_length_le (by unfold cnt at *; omega)]
def mayR (us : List U) (u : U) : Prop := ∃ c i xs,(∀ t ∈ c,LB t.q) ∧ cnt c ≤ 1000000 ∧ (∀ a ∈ xs,LB a) ∧ cnt xs ≤ 1000000 ∧ us = [cU c,ui i,qsU xs] ∧ u = ub (q6a c i xs)
theorem j0g : q0w Tryz.prog 19 mayR := sound [(39,q6n),(46,q3p)] (q0c qBj (q0c q6y q0v)) Tryz.func19 (by kernel_rfl) (by kernel_rfl) fun us u hR => by
 obtain ⟨c,i,xs,hq,hn,hx,hxn,rfl,hu⟩ := hR
 obtain ⟨r,hr⟩ : ∃ r,(cnt c).toNat + (cnt xs).toNat + 10 < r := ⟨_,Nat.lt_succ_self _⟩
 refine ⟨r,fun C E hC => ?_⟩
 have k1 := hC 39 q6n (by simp) _ _ ⟨c,i,hq,hn,rfl,rfl⟩
 have kg : ∀ (j : Int) a,xs[j.toNat]? = some a → C 46 [.agg (qU a)] (ub (q1r a)) := fun j a ha => hC 46 q3p (by simp) _ _ ⟨a,hx a (List.mem_of_getElem? ha),rfl,rfl⟩
 have hcn := fun i (h0 : 0 ≤ i) (h1 : i < cnt c) => q2l (c := c) tU h0 h1
 have hxm := fun i (h0 : 0 ≤ i) (h1 : i < cnt xs) => q2l (c := xs) qU h0 h1
 have hc := q2r c tU
 have hxc := q2r xs qU
 have hc0 := q6s c
 have hx0 := q6s xs
 have hnl := q6l c i.toNat
 have hle := fun (h : q7x c i = true) (j : Nat) => qAn (c := c) (q5a (by unfold q7x at h; simp only [Bool.and_eq_true] at h; exact h.2)) (i := i.toNat) (j := j)
 unfold q6a at hu
 unfold qAy at k1
 clear hC hx hq
 unfold cU qsU at *
 generalize c.map tU = cs at *
 generalize xs.map qU = ys at *
 have hmay : q7x c i = true → 0 ≤ i ∧ i < cnt c := fun h => by
  unfold q7x at h
  simp only [Bool.and_eq_true,decide_eq_true_eq] at h
  exact h.1
 cases hmc : q7x c i
 ·rw [hmc,if_neg (by simp)] at k1
  rw [hmc,Bool.false_and,Bool.false_and] at hu
  clear hle kg
  cbv
  (repeat ((first | refine tt ?_ rfl | refine cl ?_); cbv))
  exact hu.symm
 rw [hmc,if_pos rfl] at k1
 rw [hmc,Bool.true_and] at hu
 have hle := hle hmc
 obtain ⟨hi0,hi1⟩ := hmay hmc
 clear hmay hmc
 generalize q1m c i.toNat = nd at *
 have hnx := fun j (h0 : 0 ≤ j) (h1 : j < cnt nd) => uB_nth (s := nd) h0 h1
 have hnc := uB_len nd
 generalize uB nd = nds at *
 cbv
 (repeat ((first | with_reducible refine ln fun _ _ _ => ?_ | refine ff ?_ | refine cl ?_); cbv))
 refine q4n [0,1,2,7,8] ?_
 cbv
 refine q2g (fun j a h => ∃ q : Int,0 ≤ q ∧ q ≤ cnt xs ∧ j = (cnt xs - q).toNat ∧ (∀ (p : Nat) z,(p : Int) < q → xs[p]? = some z → q1r z = true) ∧ a = [.s 7 cs,ui i,.s 3 ys,.lost,.lost,.lost,.lost,.s 1 nds,ui q,.lost,.lost,.lost,.lost,.lost,.lost,.lost,.lost,.lost,.lost,.lost,.lost,.lost,.lost,.lost,.lost,.lost,.lost,.lost,.lost,.lost,.lost,.lost,.lost,.lost,.lost,.lost,.lost,.lost,.lost,.lost,.lost,.lost,.lost,.lost,.lost,.lost,.lost,.lost,.lost,.lost,.lost,.lost,.lost,.lost,.lost] ∧ h = []) ?_ r (cnt xs).toNat _ _ (by omega) ⟨0,by omega,by omega,by omega,fun p z hp _ => absurd hp (by omega),rfl,rfl⟩
 rintro j a h K ⟨q,q0,q1,hj,hg,rfl,rfl⟩ hK
 rcases Decidable.em (q < cnt xs) with hlt | hlt
 ·obtain ⟨⟨s,l,d⟩,hz,hy⟩ := hxm q q0 hlt
  have k2 := kg q _ hz
  have hg' : q1r (s,l,d) = true → ∀ (p : Nat) z,(p : Int) < q + 1 → xs[p]? = some z → q1r z = true := fun hb p z hp hz' => by
   by_cases e : (p : Int) = q
   ·rw [show p = q.toNat by omega,hz] at hz'
    injection hz' with hz'
    rw [← hz']
    exact hb
   ·exact hg p z (by omega) hz'
  have hg2 : q1r (s,l,d) = false → xs.all q1r = false := fun hb => by
   rw [Bool.eq_false_iff,Ne,List.all_eq_true]
   intro hh
   rw [hh _ (List.mem_of_getElem? hz)] at hb
   cases hb
  generalize q1r (s,l,d) = g at k2 hg' hg2
  cases g
  ·rw [hg2 rfl,Bool.false_and] at hu
   clear hg' hg2 hg
   cbv
   (repeat ((first | with_reducible refine ln fun _ _ _ => ?_ | refine tt ?_); cbv))
   refine el ?_ (by omega) hy
   cbv
   (repeat ((first | with_reducible refine bq ?_ | refine cl ?_); cbv))
   exact hu.symm
  ·clear hg2
   cbv
   (repeat ((first | with_reducible refine ln fun _ _ _ => ?_ | refine tt ?_); cbv))
   refine el ?_ (by omega) hy
   cbv
   (repeat ((first | with_reducible refine wr fun _ _ => ?_ | with_reducible refine bq ?_ | refine cl ?_); cbv))
   rename_i q' hq'
   refine q4n [0,1,2,7,8] ?_
   exact hK (cnt xs - (q + 1)).toNat _ _ (by omega) ⟨q + 1,by omega,by omega,rfl,hg' rfl,by rw [hq']; rfl,rfl⟩
 have hall : xs.all q1r = true := List.all_eq_true.2 fun z hz => by
  obtain ⟨p,hp,rfl⟩ := List.mem_iff_getElem.1 hz
  exact hg p _ (by unfold cnt at hlt; omega) (List.getElem?_eq_getElem hp)
 rw [hall,Bool.true_and] at hu
 clear hg hall kg hxm
 cbv
 (repeat ((first | with_reducible refine ln fun _ _ _ => ?_ | refine ff ?_); cbv))
 refine q4n [0,1,2,7,9] ?_
 cbv
 refine q2g (fun j a h => ∃ q : Int,0 ≤ q ∧ q ≤ i + 1 ∧ j = (i + 1 - q).toNat ∧ (∀ (p : Nat) t,(p : Int) < q → c[p]? = some t → nd[p]? = some true → t.k = 2 → t.n < cnt xs) ∧ a = [.s 7 cs,ui i,.s 3 ys,.lost,.lost,.lost,.lost,.s 1 nds,.lost,ui q,.lost,.lost,.lost,.lost,.lost,.lost,.lost,.lost,.lost,.lost,.lost,.lost,.lost,.lost,.lost,.lost,.lost,.lost,.lost,.lost,.lost,.lost,.lost,.lost,.lost,.lost,.lost,.lost,.lost,.lost,.lost,.lost,.lost,.lost,.lost,.lost,.lost,.lost,.lost,.lost,.lost,.lost,.lost,.lost,.lost] ∧ h = []) ?_ r (i + 1).toNat _ _ (by omega) ⟨0,by omega,by omega,by omega,fun p z hp _ => absurd hp (by omega),rfl,rfl⟩
 rintro j2 a h K2 ⟨q,q0,q1,hj2,hg,rfl,rfl⟩ hK2
 clear hK
 rcases Decidable.em (q ≤ i) with hlt | hlt
 ·obtain ⟨⟨kd,ta,tb,m,s,l,d⟩,ht,hy⟩ := hcn q q0 (by omega)
  obtain ⟨b,hb,hz⟩ := hnx q q0 (by omega)
  have hg' : (b = true → kd = 2 → m < cnt xs) → ∀ (p : Nat) t,(p : Int) < q + 1 → c[p]? = some t → nd[p]? = some true → t.k = 2 → t.n < cnt xs := fun hh p t hp ht' hb' hk => by
   by_cases e : (p : Int) = q
   ·have : p = q.toNat := by omega
    subst this
    rw [ht] at ht'
    injection ht' with ht'
    subst ht'
    rw [hb] at hb'
    injection hb' with hb'
    exact hh hb' hk
   ·exact hg p t (by omega) ht' hb' hk
  have hg2 : b = true → kd = 2 → ¬ m < cnt xs → qLf c nd (cnt xs) = false := fun e1 e2 e3 => by
   rw [Bool.eq_false_iff]
   intro hh
   exact e3 (q5i.1 hh q.toNat _ ht (by rw [hb,e1]) e2)
  clear hg hcn hnx ht hb hle
  cbv
  (repeat ((refine tt ?_); cbv))
  refine el ?_ (by omega) hz
  clear hz
  cases b
  ·clear hg2
   cbv
   (repeat (((with_reducible refine wr fun _ _ => ?_)); cbv))
   rename_i q' hq'
   refine q4n [0,1,2,7,9] ?_
   exact hK2 (i + 1 - (q + 1)).toNat _ _ (by omega) ⟨q + 1,by omega,by omega,rfl,hg' (fun e => by cases e),by rw [hq']; rfl,rfl⟩
  rcases Decidable.em (kd = 2) with h3 | h3
  ·rcases Decidable.em (m < cnt xs) with h4 | h4
   ·clear hg2
    cbv
    (repeat ((first | with_reducible refine ln fun _ _ _ => ?_ | refine tt ?_ | refine ff ?_ | refine tt ?_ rfl | with_reducible refine wr fun _ _ => ?_ | refine rp fun _ _ _ => ?_ | with_reducible refine bq ?_ | refine cl ?_ | refine sd ?_); cbv))
    refine el ?_ (by omega) hy
    cbv
    (repeat ((refine tt ?_); cbv))
    refine el ?_ (by omega) hy
    cbv
    (repeat ((first | with_reducible refine ln fun _ _ _ => ?_ | refine ff ?_ | with_reducible refine wr fun _ _ => ?_); cbv))
    rename_i q' hq'
    refine q4n [0,1,2,7,9] ?_
    exact hK2 (i + 1 - (q + 1)).toNat _ _ (by omega) ⟨q + 1,by omega,by omega,rfl,hg' (fun _ _ => h4),by rw [hq']; rfl,rfl⟩
   ·rw [hg2 rfl h3 h4] at hu
    clear hg2 hg' hK2
    cbv
    (repeat ((first | with_reducible refine ln fun _ _ _ => ?_ | refine tt ?_ | refine ff ?_ | refine tt ?_ rfl | with_reducible refine wr fun _ _ => ?_ | refine rp fun _ _ _ => ?_ | with_reducible refine bq ?_ | refine cl ?_ | refine sd ?_); cbv))
    refine el ?_ (by omega) hy
    cbv
    (repeat ((refine tt ?_); cbv))
    refine el ?_ (by omega) hy
    cbv
    (repeat ((first | with_reducible refine ln fun _ _ _ => ?_ | refine tt ?_); cbv))
    exact hu.symm
  ·clear hg2
   cbv
   (repeat ((first | with_reducible refine ln fun _ _ _ => ?_ | refine tt ?_ | refine ff ?_ | refine tt ?_ rfl | with_reducible refine wr fun _ _ => ?_ | refine rp fun _ _ _ => ?_ | with_reducible refine bq ?_ | refine cl ?_ | refine sd ?_); cbv))
   refine el ?_ (by omega) hy
   cbv
   (repeat ((first | refine ff ?_ | with_reducible refine wr fun _ _ => ?_); cbv))
   rename_i q' hq'
   refine q4n [0,1,2,7,9] ?_
   exact hK2 (i + 1 - (q + 1)).toNat _ _ (by omega) ⟨q + 1,by omega,by omega,rfl,hg' (fun _ e => absurd e h3),by rw [hq']; rfl,rfl⟩
 ·rw [q5i.2 fun p t ht hb hk => hg p t (by have := hle p hb; omega) ht hb hk] at hu
  clear hg hcn hnx hle
  cbv
  (repeat ((refine ff ?_); cbv))
  exact hu.symm
def oneS (t : Tm) (a b : R3) (xs : List R3) : R4 :=
 if t.k = 1 then to4 t.q
 else if t.k = 2 then to4 (at3 xs t.n)
 else if t.k = 3 then qDz a b
 else if t.k = 4 then qF a b
 else if t.k = 5 then qIn a b
 else if t.k = 6 then qCd a b
 else if t.k = 7 then to4 (qEl a)
 else qLm a t.n
def oneR (us : List U) (u : U) : Prop := ∃ t i a b xs,q1n t i = true ∧ (t.k = 2 → t.n < cnt xs) ∧ LB a ∧ LB b ∧ us = [.agg (tU t),uR a,uR b,qsU xs] ∧ u = u76 (oneS t a b xs)
theorem qZw : q0w Tryz.prog 47 oneR := sound [(82, qHy qDz), (83, qHy qF), (84, qHy qIn), (56, qUi), (29, qWo), (85, of8R)] (q0c j3m (q0c j3w (q0c j3f (q0c qWa (q0c qWw (q0c of8_ok q0v)))))) Tryz.func47 (by kernel_rfl) (by kernel_rfl) fun us u hR =>                                                                           ⟨0, fun C E hC => by
 obtain ⟨t,i,⟨s1,l1,d1⟩,⟨s2,l2,d2⟩,xs,ht,hr,ha,hb,rfl,hu⟩ := hR
 have hxm := fun i (h0 : 0 ≤ i) (h1 : i < cnt xs) => q2l (c := xs) qU h0 h1
 have hc := q1v ht
 obtain ⟨kd,ta,tb,m,s,l,d⟩ := t
 dsimp only at hc hr
 unfold oneS at hu
 dsimp only at hu
 unfold qsU
 generalize xs.map qU = ys at *
 clear ht
 rcases hc with h | ⟨h,h2⟩ | ⟨h,h2,h3⟩ | ⟨h,h2⟩ | ⟨h,h2,h3⟩
 ·subst h
  rw [if_pos rfl] at hu
  have hu : u = .agg [ub s,.l l,.l d,ui 0] := hu
  cbv; (repeat ((refine tt ?_); cbv)); exact hu.symm
 ·subst h
  obtain ⟨⟨s3,l3,d3⟩,v1,w1⟩ := hxm m h2 (hr rfl)
  rw [if_neg (by omega),if_pos rfl,q7k v1] at hu
  have hu : u = .agg [ub s3,.l l3,.l d3,ui 0] := hu
  cbv; (repeat ((first | refine tt ?_ | refine ff ?_); cbv))
  refine el ?_ (by omega) w1
  cbv; (repeat ((first | with_reducible refine ln fun _ _ _ => ?_ | refine tt ?_ | refine ff ?_ | with_reducible refine wr fun _ _ => ?_ | refine rp fun _ _ _ => ?_ | with_reducible refine bq ?_ | refine cl ?_ | refine sd ?_); cbv)); exact hu.symm
 ·rcases h with h | h | h | h
  ·subst h
   have k1 := hC 82 (qHy qDz) (by simp) _ _ ⟨_,_,ha,hb,rfl,rfl⟩
   rw [if_neg (by omega),if_neg (by omega),if_pos rfl] at hu
   obtain ⟨s7,l7,d7,e7,hu',_⟩ := q4c (qDz (s1,l1,d1) (s2,l2,d2))
   rw [hu'] at hu k1
   cbv; (repeat ((first | refine tt ?_ | refine ff ?_ | refine cl ?_); cbv)); exact hu.symm
  ·subst h
   have k1 := hC 83 (qHy qF) (by simp) _ _ ⟨_,_,ha,hb,rfl,rfl⟩
   rw [if_neg (by omega),if_neg (by omega),if_neg (by omega),if_pos rfl] at hu
   obtain ⟨s7,l7,d7,e7,hu',_⟩ := q4c (qF (s1,l1,d1) (s2,l2,d2))
   rw [hu'] at hu k1
   cbv; (repeat ((first | refine tt ?_ | refine ff ?_ | refine cl ?_); cbv)); exact hu.symm
  ·subst h
   have k1 := hC 84 (qHy qIn) (by simp) _ _ ⟨_,_,ha,hb,rfl,rfl⟩
   rw [if_neg (by omega),if_neg (by omega),if_neg (by omega),if_neg (by omega),if_pos rfl] at hu
   obtain ⟨s7,l7,d7,e7,hu',_⟩ := q4c (qIn (s1,l1,d1) (s2,l2,d2))
   rw [hu'] at hu k1
   cbv; (repeat ((first | refine tt ?_ | refine ff ?_ | refine cl ?_); cbv)); exact hu.symm
  ·subst h
   have k1 := hC 56 qUi (by simp) _ _ ⟨_,_,ha,hb,rfl,rfl⟩
   rw [if_neg (by omega),if_neg (by omega),if_neg (by omega),if_neg (by omega),if_neg (by omega),if_pos rfl] at hu
   obtain ⟨s7,l7,d7,e7,hu',_⟩ := q4c (qCd (s1,l1,d1) (s2,l2,d2))
   rw [hu'] at hu k1
   cbv; (repeat ((first | refine tt ?_ | refine ff ?_ | refine cl ?_); cbv)); exact hu.symm
 ·subst h
  obtain ⟨s7,l7,d7,k1,ek⟩ := tR (hC 29 qWo (by simp) _ _ ⟨_,ha,rfl,rfl⟩)
  rw [if_neg (by omega),if_neg (by omega),if_neg (by omega),if_neg (by omega),if_neg (by omega),if_neg (by omega),if_pos rfl,← ek] at hu
  have hu : u = .agg [ub s7,.l l7,.l d7,ui 0] := hu
  cbv; (repeat ((first | refine tt ?_ | refine ff ?_ | refine cl ?_); cbv)); exact hu.symm
 ·subst h
  have k1 := hC 85 of8R (by simp) _ _ ⟨(s1,l1,d1),m,ha,by omega,by omega,rfl,rfl⟩
  rw [if_neg (by omega),if_neg (by omega),if_neg (by omega),if_neg (by omega),if_neg (by omega),if_neg (by omega),if_neg (by omega)] at hu
  obtain ⟨s7,l7,d7,e7,hu',_⟩ := q4c (qLm (s1,l1,d1) m)
  rw [hu'] at hu k1
  cbv; (repeat ((first | refine ff ?_ | refine cl ?_); cbv)); exact hu.symm⟩
theorem j1x {t : Tm} {i : Int} (h : q1n t i = true) (hi : 0 ≤ i) : (0 ≤ t.a ∧ t.a ≤ i) ∧ 0 ≤ t.b ∧ t.b ≤ i := by
 rcases q8t.1 h with h | ⟨_,_,_,_,h | h | h | h⟩ <;> omega
theorem j0w {t : Tm} {vs xs : List R3} {i : Int} (ht : q1n t i = true) (hx : xs.all q1r = true) (hn : t.k = 2 → t.n < cnt xs) : oneS t (at3 vs t.a) (at3 vs t.b) xs = evT vs xs t := by
 unfold oneS evT
 by_cases h1 : t.k = 1
 ·rw [if_pos h1,if_pos h1]
  rcases q8t.1 ht with h | h
  ·rw [qAq h.2.2.2.2]
  ·exact absurd h1 h.1
 rw [if_neg h1,if_neg h1]
 by_cases h2 : t.k = 2
 ·rw [if_pos h2,if_pos h2]
  have h0 : 0 ≤ t.n := by
   rcases q1v ht with h | h | h | h | h <;> omega
  have hl := hn h2
  unfold cnt at hl
  have : at3 xs t.n = xs[t.n.toNat]'(by omega) := by
   unfold at3
   rw [List.getElem?_eq_getElem (by omega)]
   rfl
  rw [this,qAq (List.all_eq_true.1 hx _ (List.getElem_mem _))]
 ·rw [if_neg h2,if_neg h2]
theorem qZl {vs : List R3} {i a : Int} (h0 : 0 ≤ a) (h1 : a ≤ i) (h2 : i < cnt vs) : ((vs.take (i + 1).toNat).map qU)[a.toNat]? = some (qU (at3 vs a)) := by
 unfold cnt at h2
 have : at3 vs a = vs[a.toNat]'(by omega) := by
  unfold at3
  rw [List.getElem?_eq_getElem (by omega)]
  rfl
 rw [this,List.getElem?_map,List.getElem?_take,if_pos (by omega),List.getElem?_eq_getElem (by omega)]
 rfl
theorem j2x {q : Rat} (h : (lim q).2.2.2 ≠ 0) : lim q = bad (lim q).2.2.2 := by
 unfold lim at *
 split at h
 ·exact absurd rfl h
 ·rename_i h1
  rw [if_neg h1]
  rfl
theorem ev_bad (vs xs : List R3) (t : Tm) (h : (evT vs xs t).2.2.2 ≠ 0) : evT vs xs t = bad (evT vs xs t).2.2.2 := by
 unfold evT qDz qF qIn qCd qLm at *
 repeat' split at h
 all_goals first | exact absurd rfl h | (simp only [*,if_true,if_false,Bool.false_eq_true]; first | exact j2x h | rfl)
def j3n (us : List U) (u : U) : Prop := ∃ c i xs,(∀ t ∈ c,LB t.q) ∧ cnt c ≤ 1000000 ∧ (∀ a ∈ xs,LB a) ∧ cnt xs ≤ 1000000 ∧ us = [cU c,ui i,qsU xs] ∧ u = u76 (ofS c i xs)
theorem j2m : q0w Tryz.prog 20 j3n := sound [(19,mayR),(39,q6n),(47,oneR)] (q0c j0g (q0c qBj (q0c qZw q0v))) Tryz.func20 (by kernel_rfl) (by kernel_rfl) fun us u hR => by
 obtain ⟨c,i,xs,hq,hn,hx,hxn,rfl,hu⟩ := hR
 obtain ⟨r,hr⟩ : ∃ r,(cnt c).toNat + 10 < r := ⟨_,Nat.lt_succ_self _⟩
 refine ⟨r,fun C E hC => ?_⟩
 have kM := hC 19 mayR (by simp) _ _ ⟨c,i,xs,hq,hn,hx,hxn,rfl,rfl⟩
 have kN := hC 39 q6n (by simp) _ _ ⟨c,i,hq,hn,rfl,rfl⟩
 have kO := hC 47 oneR (by simp)
 have hcn := fun i (h0 : 0 ≤ i) (h1 : i < cnt c) => q2l (c := c) tU h0 h1
 have hc := q2r c tU
 have hc0 := q6s c
 have hLv := qDg c xs (q1m c i.toNat)
 have hlen := qEv c xs (q1m c i.toNat)
 have hnl := q6l c i.toNat
 have hno := fun q vs => ev_no (c := c) (xs := xs) (nd := q1m c i.toNat) (q := q) (vs := vs)
 have hmb : q6a c i xs = true → q7x c i = true ∧ qLf c (q1m c i.toNat) (cnt xs) = true ∧ xs.all q1r = true ∧ 0 ≤ i ∧ i < cnt c ∧ q4j c = true := fun h => by
  unfold q6a q7x at h
  simp only [Bool.and_eq_true,decide_eq_true_eq] at h
  exact ⟨by unfold q7x; simp only [Bool.and_eq_true,decide_eq_true_eq]; exact h.1.1,h.2,h.1.2,h.1.1.1.1,h.1.1.1.2,h.1.1.2⟩
 unfold ofS at hu
 unfold qAy at kN
 unfold cU at kM kN ⊢
 obtain ⟨ys,hys⟩ : ∃ ys,qsU xs = .s 3 ys := ⟨_,rfl⟩
 rw [hys] at kM ⊢
 generalize c.map tU = cs at *
 cases hm : q6a c i xs
 ·rw [hm] at kM hu
  rw [if_neg (by simp),show u76 (bad 1) = .agg [ub false,.l [],.l [],ui 1] from rfl] at hu
  clear hcn hLv hlen hno hmb kO kN
  cbv
  (repeat ((first | with_reducible refine bq ?_ | refine cl ?_); cbv))
  exact hu.symm
 rw [hm] at kM hu
 rw [if_pos rfl] at hu
 obtain ⟨hmay,hrf,hxg,hi0,hi1,hgc⟩ := hmb hm
 rw [if_pos hmay] at kN
 have hok : ∀ (q : Int) t,0 ≤ q → c[q.toNat]? = some t → q1n t q = true := fun q t h0 ht => by
  have := q1j.1 hgc q.toNat t ht
  rwa [show (q.toNat : Int) = q by omega] at this
 have hrefs : ∀ (q : Int) t,0 ≤ q → c[q.toNat]? = some t → (q1m c i.toNat)[q.toNat]? = some true → t.k = 2 → t.n < cnt xs := fun q t h0 ht hb => q5i.1 hrf q.toNat t ht hb
 clear hmb hmay hrf hgc hm hC
 generalize q1m c i.toNat = nd at *
 have hnx := fun j (h0 : 0 ≤ j) (h1 : j < cnt nd) => uB_nth (s := nd) h0 h1
 generalize uB nd = nds at *
 cbv
 (repeat ((first | with_reducible refine wr fun _ _ => ?_ | refine rp fun _ _ _ => ?_ | with_reducible refine bq ?_ | refine cl ?_ | refine sd ?_); cbv))
 rename_i n hn1 rs hrs hrc
 have e0 : rs = ((List.replicate c.length q7a).take (i + 1).toNat).map qU := by
  rw [hrs,List.take_replicate,List.map_replicate]
  unfold cnt at hi1
  rw [show min (i + 1).toNat c.length = n.toNat by omega]
  rfl
 clear hrs
 refine q4n [0,1,2,6,7,8,9] ?_
 cbv
 refine q2g (fun j a h => ∃ (q : Int) (vs : List R3) (vr : Rows),0 ≤ q ∧ q ≤ i + 1 ∧ j = (i + 1 - q).toNat ∧ evN c xs nd q.toNat = (vs,0) ∧ vr = (vs.take (i + 1).toNat).map qU ∧ a = [.s 7 cs,ui i,.s 3 ys,.lost,.lost,.lost,.ptr 0 0,.s 1 nds,.sl 1 n n 3,ui q,.lost,.lost,.lost,.lost,.lost,.lost,.lost,.lost,.lost,.lost,.lost,.lost,.lost,.lost,.lost,.lost,.lost,.lost,.lost,.lost,.lost,.lost,.lost,.lost,.lost,.lost,.lost,.lost,.lost,.lost,.lost,.lost,.lost,.lost,.lost,.lost,.lost,.lost,.lost,.lost,.lost,.lost,.lost,.lost,.lost,.lost,.lost,.lost,.lost,.lost,.lost,.lost,.lost,.lost,.lost,.lost,.lost,.lost,.lost] ∧ h = [some (.cells [ub false,.l [],.l [],ui 0]),some (.row 3 vr)]) ?_ r (i + 1).toNat _ _ (by omega) ⟨0,List.replicate c.length q7a,rs,by omega,by omega,by omega,rfl,e0,rfl,rfl⟩
 rintro j a h K ⟨q,vs,vr,q0,q1,hj,hev,hvr,rfl,rfl⟩ hK
 have hvl : cnt vs = cnt c := by
  have := hlen q.toNat
  rw [hev] at this
  unfold cnt
  rw [this]
 rcases Decidable.em (q ≤ i) with hlt | hlt
 ·obtain ⟨b,hb,hz⟩ := hnx q q0 (by omega)
  cases b
  ·have hnext := hno q vs q0 hev hb
   clear hcn hLv hlen hno hok hrefs hnx kO
   cbv
   (repeat ((refine tt ?_); cbv))
   refine el ?_ (by omega) hz
   cbv
   (repeat ((first | with_reducible refine wr fun _ _ => ?_ | with_reducible refine bq ?_); cbv))
   rename_i q' hq'
   refine q4n [0,1,2,6,7,8,9] ?_
   exact hK (i + 1 - (q + 1)).toNat _ _ (by omega) ⟨q + 1,vs,vr,by omega,by omega,rfl,hnext,hvr,by rw [hq']; rfl,rfl⟩
  ·obtain ⟨t,ht,hy⟩ := hcn q q0 (by omega)
   have hvL : ∀ a ∈ vs,LB a := by
    have := hLv q.toNat
    rw [hev] at this
    exact this
   have htk := hok q t q0 ht
   have hnr := hrefs q t q0 ht hb
   obtain ⟨⟨a0,a1⟩,b0,b1⟩ := j1x htk q0
   have k1 := kO _ _ ⟨t,q,at3 vs t.a,at3 vs t.b,xs,htk,hnr,LB_at hvL _,LB_at hvL _,rfl,rfl⟩
   rw [j0w htk hxg hnr,hys] at k1
   have wa := qZl (vs := vs) (i := i) a0 (by omega) (by omega)
   have wb := qZl (vs := vs) (i := i) b0 (by omega) (by omega)
   have wq := qZl (vs := vs) (i := i) q0 (by omega) (by omega)
   rw [← hvr] at wa wb wq
   obtain ⟨s7,l7,d7,e7,ek⟩ : ∃ s l d e,(s,l,d,e) = evT vs xs t := ⟨_,_,_,_,rfl⟩
   rw [← ek] at k1
   have hnext := j0u q0 hev hb ht ek
   generalize at3 vs t.a = va at *
   generalize at3 vs t.b = vb at *
   generalize at3 vs q = vq at *
   obtain ⟨sa,la,da⟩ := va
   obtain ⟨sb,lb,db⟩ := vb
   obtain ⟨sq,lq,dq⟩ := vq
   obtain ⟨kd,ta,tb,m,s,l,d⟩ := t
   dsimp only at a0 a1 b0 b1 wa wb
   have ekk := ek
   have k1 : C 47 [.agg [ui kd,ui ta,ui tb,ui m,ub s,.l l,.l d],.agg [ub sa,.l la,.l da],.agg [ub sb,.l lb,.l db],.s 3 ys] (.agg [ub s7,.l l7,.l d7,ui e7]) := k1
   clear hcn hLv hlen hno hok hrefs hnx kO hvL htk hnr ek
   cbv
   (repeat ((refine tt ?_); cbv))
   refine el ?_ (by omega) hz
   cbv
   (repeat ((with_reducible refine bq ?_); cbv))
   refine el ?_ (by omega) hy
   cbv
   (repeat ((first | with_reducible refine ln fun _ _ _ => ?_ | refine tt ?_ | refine ff ?_ | with_reducible refine wr fun _ _ => ?_ | refine rp fun _ _ _ => ?_ | with_reducible refine bq ?_ | refine cl ?_ | refine sd ?_); cbv))
   refine el ?_ (by omega) hy
   cbv
   (repeat ((refine sd ?_); cbv))
   refine el ?_ (by omega) wa
   cbv
   (repeat ((first | with_reducible refine ln fun _ _ _ => ?_ | refine tt ?_ | refine ff ?_ | with_reducible refine wr fun _ _ => ?_ | refine rp fun _ _ _ => ?_ | with_reducible refine bq ?_ | refine cl ?_ | refine sd ?_); cbv))
   refine el ?_ (by omega) hy
   cbv
   (repeat ((refine sd ?_); cbv))
   refine el ?_ (by omega) wb
   cbv
   rcases Decidable.em (e7 = 0) with h0 | h0
   ·subst h0
    rw [if_pos rfl] at hnext
    (repeat ((first | refine ff ?_ | refine cl ?_ | refine sd ?_); cbv))
    refine el ?_ (by omega) wq
    cbv
    refine se fun zs he' hyc => ?_
    have e2 : zs = ((vs.set q.toNat (s7,l7,d7)).take (i + 1).toNat).map qU := by rw [he',List.take_set,List.map_set,← hvr]; rfl
    clear he' hyc
    cbv
    (repeat (((with_reducible refine wr fun _ _ => ?_)); cbv))
    rename_i q' hq'
    refine q4n [0,1,2,6,7,8,9] ?_
    exact hK (i + 1 - (q + 1)).toNat _ _ (by omega) ⟨q + 1,_,zs,by omega,by omega,rfl,hnext,e2,by rw [hq']; rfl,rfl⟩
   ·rw [if_neg h0] at hnext
    rw [j1b q0 (by omega) h0 hnext,if_neg h0] at hu
    have hbd : (s7,l7,d7,e7) = bad e7 := by
     have := ev_bad vs xs ⟨kd,ta,tb,m,(s,l,d)⟩
     rw [← ekk] at this
     exact this h0
    injection hbd with f1 f2
    injection f2 with f2 f3
    injection f3 with f3 f4
    subst f1 f2 f3
    have hu : u = .agg [ub false,.l [],.l [],ui e7] := hu
    clear hnext hK
    (repeat ((first | refine tt ?_ | refine cl ?_); cbv))
    exact hu.symm
 ·rw [show q.toNat = i.toNat + 1 by omega] at hev
  have wq := qZl (vs := vs) (i := i) hi0 (by omega) (by omega)
  rw [← hvr] at wq
  rw [hev,if_pos rfl] at hu
  obtain ⟨s1,l1,d1,e1⟩ : ∃ s l d,at3 vs i = (s,l,d) := ⟨_,_,_,rfl⟩
  rw [e1] at hu wq
  have hu : u = .agg [ub s1,.l l1,.l d1,ui 0] := hu
  clear hcn hLv hlen hno hok hrefs hnx hK kO
  cbv
  (repeat ((first | refine ff ?_ | refine sd ?_); cbv))
  refine el ?_ (by omega) wq
  cbv
  (repeat ((first | with_reducible refine ln fun _ _ _ => ?_ | refine tt ?_ | refine ff ?_ | with_reducible refine wr fun _ _ => ?_ | refine rp fun _ _ _ => ?_ | with_reducible refine bq ?_ | refine cl ?_ | refine sd ?_); cbv))
  exact hu.symm
def j3j (c : List Tm) (xs : List R3) : Bool := !(c.any fun t => q3l 4 t.q) && (!(xs.any (q3l 4)) && decide (cnt c ≤ 60))
def j1t (us : List U) (u : U) : Prop := ∃ c xs,cnt c ≤ 9223372036854775807 ∧ cnt xs ≤ 9223372036854775807 ∧ us = [cU c,qsU xs] ∧ u = ub (j3j c xs)
theorem j0o {s : Bool} {l d : List Int} : (q3l 4 (s,l,d) = true ↔ 4 < cnt l ∨ 4 < cnt d) := by
 unfold q3l
 simp
theorem j2d : q0w Tryz.prog 18 j1t := sound [] q0v Tryz.func18 (by kernel_rfl) (by kernel_rfl) fun us u hR => by
 obtain ⟨c,xs,hn,hxn,rfl,hu⟩ := hR
 obtain ⟨r,hr⟩ : ∃ r,(cnt c).toNat + (cnt xs).toNat < r := ⟨_,Nat.lt_succ_self _⟩
 refine ⟨r,fun C E hC => ?_⟩
 have hm := fun i (h0 : 0 ≤ i) (h1 : i < cnt c) => q2l (c := c) tU h0 h1
 have hmx := fun i (h0 : 0 ≤ i) (h1 : i < cnt xs) => q2l (c := xs) qU h0 h1
 have hc := q2r c tU
 have hxc := q2r xs qU
 have hc0 := q6s c
 have hx0 := q6s xs
 unfold j3j at hu
 unfold cU qsU
 generalize c.map tU = cs at *
 generalize xs.map qU = ys at *
 cbv
 (repeat ((first | with_reducible refine ln fun _ _ _ => ?_ | refine tt ?_ | refine ff ?_ | refine tt ?_ rfl | with_reducible refine wr fun _ _ => ?_ | refine rp fun _ _ _ => ?_ | with_reducible refine bq ?_ | refine cl ?_ | refine sd ?_); cbv))
 refine q4n [0,1,5] ?_
 cbv
 refine q2g (fun j a h => ∃ i : Int,0 ≤ i ∧ i ≤ cnt c ∧ j = (cnt c - i).toNat ∧ (∀ (x : Nat) t,(x : Int) < i → c[x]? = some t → q3l 4 t.q = false) ∧ a = [.s 7 cs,.s 3 ys,.lost,.lost,.lost,ui i,.lost,.lost,.lost,.lost,.lost,.lost,.lost,.lost,.lost,.lost,.lost,.lost,.lost,.lost,.lost,.lost,.lost,.lost,.lost,.lost,.lost,.lost,.lost,.lost,.lost,.lost,.lost,.lost,.lost,.lost,.lost,.lost,.lost,.lost,.lost,.lost,.lost,.lost,.lost,.lost,.lost,.lost,.lost,.lost,.lost,.lost,.lost,.lost,.lost,.lost,.lost,.lost] ∧ h = []) ?_ r (cnt c).toNat _ _ (by omega) ⟨0,by omega,by omega,by omega,fun x t hx _ => absurd hx (by omega),rfl,rfl⟩
 rintro j a h K ⟨i,i0,i1,hj,hg,rfl,rfl⟩ hK
 rcases Decidable.em (i < cnt c) with hlt | hlt
 ·obtain ⟨t,ht,hx⟩ := hm i i0 hlt
  have hg1 := fun hf => qCk (f := fun t => q3l 4 t.q) i0 ht hf hg
  have hg2 : q3l 4 t.q = true → (c.any fun t => q3l 4 t.q) = true := fun hf => qIg (f := fun t => q3l 4 t.q) ht hf
  obtain ⟨kd,ta,tb,m,s,l,d⟩ := t
  dsimp only at hg1 hg2
  have ho := j0o (s := s) (l := l) (d := d)
  generalize q3l 4 (s,l,d) = g at *
  clear hm hmx hg
  rcases Decidable.em (4 < cnt l) with h1 | h1
  ·rw [hg2 (ho.2 (.inl h1)),Bool.not_true,Bool.false_and] at hu
   clear hg1 hg2 hK ho
   cbv
   (repeat ((first | with_reducible refine ln fun _ _ _ => ?_ | refine tt ?_); cbv))
   refine el ?_ (by omega) hx
   cbv
   (repeat ((first | with_reducible refine ln fun _ _ _ => ?_ | refine tt ?_); cbv))
   exact hu.symm
  rcases Decidable.em (4 < cnt d) with h2 | h2
  ·rw [hg2 (ho.2 (.inr h2)),Bool.not_true,Bool.false_and] at hu
   clear hg1 hg2 hK ho
   cbv
   (repeat ((first | with_reducible refine ln fun _ _ _ => ?_ | refine tt ?_); cbv))
   refine el ?_ (by omega) hx
   cbv
   (repeat ((first | with_reducible refine ln fun _ _ _ => ?_ | refine ff ?_); cbv))
   refine el ?_ (by omega) hx
   cbv
   (repeat ((first | with_reducible refine ln fun _ _ _ => ?_ | refine tt ?_); cbv))
   exact hu.symm
  ·have hg1 := hg1 (by cases g; rfl; exact absurd (ho.1 rfl) (by omega))
   clear hg2 ho
   cbv
   (repeat ((first | with_reducible refine ln fun _ _ _ => ?_ | refine tt ?_); cbv))
   refine el ?_ (by omega) hx
   cbv
   (repeat ((first | with_reducible refine ln fun _ _ _ => ?_ | refine ff ?_); cbv))
   refine el ?_ (by omega) hx
   cbv
   (repeat ((first | with_reducible refine ln fun _ _ _ => ?_ | refine ff ?_ | with_reducible refine wr fun _ _ => ?_); cbv))
   rename_i i' hi'
   refine q4n [0,1,5] ?_
   exact hK (cnt c - (i + 1)).toNat _ _ (by omega) ⟨i + 1,by omega,by omega,rfl,hg1,by rw [hi']; rfl,rfl⟩
 rw [qOi (f := fun t => q3l 4 t.q) fun x t hx => hg x t (by omega),Bool.not_false,Bool.true_and] at hu
 clear hg hm hK
 cbv
 (repeat ((first | with_reducible refine ln fun _ _ _ => ?_ | refine ff ?_); cbv))
 refine q4n [0,1,6] ?_
 cbv
 refine q2g (fun j a h => ∃ i : Int,0 ≤ i ∧ i ≤ cnt xs ∧ j = (cnt xs - i).toNat ∧ (∀ (x : Nat) t,(x : Int) < i → xs[x]? = some t → q3l 4 t = false) ∧ a = [.s 7 cs,.s 3 ys,.lost,.lost,.lost,.lost,ui i,.lost,.lost,.lost,.lost,.lost,.lost,.lost,.lost,.lost,.lost,.lost,.lost,.lost,.lost,.lost,.lost,.lost,.lost,.lost,.lost,.lost,.lost,.lost,.lost,.lost,.lost,.lost,.lost,.lost,.lost,.lost,.lost,.lost,.lost,.lost,.lost,.lost,.lost,.lost,.lost,.lost,.lost,.lost,.lost,.lost,.lost,.lost,.lost,.lost,.lost,.lost] ∧ h = []) ?_ r (cnt xs).toNat _ _ (by omega) ⟨0,by omega,by omega,by omega,fun x t hx _ => absurd hx (by omega),rfl,rfl⟩
 rintro j2 a h K2 ⟨p,p0,p1,hj2,hg,rfl,rfl⟩ hK
 rcases Decidable.em (p < cnt xs) with hlt2 | hlt2
 ·obtain ⟨⟨s,l,d⟩,ht,hx⟩ := hmx p p0 hlt2
  have hg1 := fun hf => qCk (f := q3l 4) p0 ht hf hg
  have hg2 : q3l 4 (s,l,d) = true → (xs.any (q3l 4)) = true := fun hf => qIg (f := q3l 4) ht hf
  have ho := j0o (s := s) (l := l) (d := d)
  generalize q3l 4 (s,l,d) = g at *
  clear hmx hg
  rcases Decidable.em (4 < cnt l) with h1 | h1
  ·rw [hg2 (ho.2 (.inl h1)),Bool.not_true,Bool.false_and] at hu
   clear hg1 hg2 hK ho
   cbv
   (repeat ((first | with_reducible refine ln fun _ _ _ => ?_ | refine tt ?_); cbv))
   refine el ?_ (by omega) hx
   cbv
   (repeat ((first | with_reducible refine ln fun _ _ _ => ?_ | refine tt ?_); cbv))
   exact hu.symm
  rcases Decidable.em (4 < cnt d) with h2 | h2
  ·rw [hg2 (ho.2 (.inr h2)),Bool.not_true,Bool.false_and] at hu
   clear hg1 hg2 hK ho
   cbv
   (repeat ((first | with_reducible refine ln fun _ _ _ => ?_ | refine tt ?_); cbv))
   refine el ?_ (by omega) hx
   cbv
   (repeat ((first | with_reducible refine ln fun _ _ _ => ?_ | refine ff ?_); cbv))
   refine el ?_ (by omega) hx
   cbv
   (repeat ((first | with_reducible refine ln fun _ _ _ => ?_ | refine tt ?_); cbv))
   exact hu.symm
  ·have hg1 := hg1 (by cases g; rfl; exact absurd (ho.1 rfl) (by omega))
   clear hg2 ho
   cbv
   (repeat ((first | with_reducible refine ln fun _ _ _ => ?_ | refine tt ?_); cbv))
   refine el ?_ (by omega) hx
   cbv
   (repeat ((first | with_reducible refine ln fun _ _ _ => ?_ | refine ff ?_); cbv))
   refine el ?_ (by omega) hx
   cbv
   (repeat ((first | with_reducible refine ln fun _ _ _ => ?_ | refine ff ?_ | with_reducible refine wr fun _ _ => ?_); cbv))
   rename_i i' hi'
   refine q4n [0,1,6] ?_
   exact hK (cnt xs - (p + 1)).toNat _ _ (by omega) ⟨p + 1,by omega,by omega,rfl,hg1,by rw [hi']; rfl,rfl⟩
 ·rw [qOi (f := q3l 4) fun x t hx => hg x t (by omega),Bool.not_false,Bool.true_and] at hu
  clear hg hmx hK
  cbv
  rcases Decidable.em (cnt c ≤ 60) with h5 | h5
  ·rw [decide_eq_true h5] at hu
   (repeat ((first | with_reducible refine ln fun _ _ _ => ?_ | refine tt ?_ | refine ff ?_); cbv)); exact hu.symm
  ·rw [decide_eq_false h5] at hu
   (repeat ((first | with_reducible refine ln fun _ _ _ => ?_ | refine ff ?_); cbv)); exact hu.symm
theorem j0n {row zs : Rows} {z : List U} {l d : Int} (h0 : 0 ≤ l) (hd : d = cnt row) (h : l + 1 ≤ d) (hz : zs = row.take l.toNat ++ [z] ++ row.drop (l.toNat + 1)) : d = cnt zs := by
 rw [hd,hz]
 unfold cnt at *
 simp
 omega
theorem qVm {row zs : Rows} {z e : List U} {l c d : Int} (h0 : 0 ≤ l) (hd : d = cnt row) (hl : l ≤ d) (h : l + 1 ≤ c) (hz : zs = row.take l.toNat ++ [z] ++ List.replicate (c.toNat - (l.toNat + 1)) e) : c = cnt zs := by
 rw [hz]
 unfold cnt at *
 simp
 omega
theorem qCq {row ws zs rest : Rows} {z : List U} {l : Int} (hl : l = cnt ws) (hr : row.take l.toNat = ws) (hz : zs = row.take l.toNat ++ [z] ++ rest) : zs.take (l + 1).toNat = ws ++ [z] := by
 rw [hz,hr]
 have : (l + 1).toNat = (ws ++ [z]).length := by
  rw [List.length_append,hl]
  unfold cnt
  simp
 rw [this,List.take_left]
theorem j4d {n : Int} {q : R3} (h : q3l n q = false) : cnt q.2.1 ≤ n ∧ cnt q.2.2 ≤ n := by
 unfold q3l at h
 simp only [Bool.or_eq_false_iff,decide_eq_false_iff_not] at h
 omega
theorem qRd {c : List Tm} (h : qJl c = false) : cnt c ≤ 400 ∧ ∀ t ∈ c,cnt t.q.2.1 ≤ 1000000 ∧ cnt t.q.2.2 ≤ 1000000 := by
 unfold qJl at h
 simp only [Bool.or_eq_false_iff,decide_eq_false_iff_not] at h
 refine ⟨by have := h.1.1; omega,fun t ht => ?_⟩
 have := List.any_eq_false.1 h.1.2 t ht
 have := j4d (by simpa using this)
 omega
def qCr (us : List U) (u : U) : Prop := ∃ a : List Tm,(∀ t ∈ a,cnt t.q.2.1 ≤ 1000000 ∧ cnt t.q.2.2 ≤ 1000000) ∧ cnt a ≤ 1000000 ∧ us = [cU a,cU a] ∧ u = ub true
theorem qMa : q0w Tryz.prog 13 qCr := sound [(24,qIr)] (q0c qMl q0v) Tryz.func13 (by kernel_rfl) (by kernel_rfl) fun us u hR => by
 obtain ⟨a,hq,hn,rfl,hu⟩ := hR
 obtain ⟨r,hr⟩ : ∃ r,(cnt a).toNat < r := ⟨_,Nat.lt_succ_self _⟩
 refine ⟨r,fun C E hC => ?_⟩
 have hva := fun i (h0 : 0 ≤ i) (h1 : i < cnt a) => q2l (c := a) tU h0 h1
 have kr : ∀ (i : Int) t,a[i.toNat]? = some t → C 24 [.agg (qU t.q),.agg (qU t.q)] (ub true) := fun i t h => by
  have := hC 24 qIr (by simp) _ _ ⟨t.q,t.q,(hq t (List.mem_of_getElem? h)).1,(hq t (List.mem_of_getElem? h)).2,rfl,rfl⟩
  rwa [decide_eq_true rfl] at this
 have hca := q2r a tU
 have ha0 := q6s a
 unfold cU
 generalize a.map tU = xs at *
 clear hC hq
 cbv
 (repeat ((first | with_reducible refine ln fun _ _ _ => ?_ | refine ff ?_); cbv))
 refine q4n [0,1,5] ?_
 cbv
 refine q2g (fun j a1 h => ∃ i : Int,0 ≤ i ∧ i ≤ cnt a ∧ j = (cnt a - i).toNat ∧ a1 = [.s 7 xs,.s 7 xs,.lost,.lost,.lost,ui i,.lost,.lost,.lost,.lost,.lost,.lost,.lost,.lost,.lost,.lost,.lost,.lost,.lost,.lost,.lost,.lost,.lost,.lost,.lost,.lost,.lost,.lost,.lost,.lost,.lost,.lost,.lost,.lost,.lost,.lost,.lost,.lost,.lost,.lost,.lost,.lost,.lost,.lost,.lost,.lost,.lost,.lost,.lost,.lost,.lost,.lost,.lost,.lost,.lost,.lost,.lost,.lost,.lost,.lost,.lost] ∧ h = []) ?_ r (cnt a).toNat _ _ hr ⟨0,by omega,by omega,by omega,rfl,rfl⟩
 rintro j a1 h K ⟨i,i0,i1,hj,rfl,rfl⟩ hK
 rcases Decidable.em (i < cnt a) with hlt | hlt
 ·obtain ⟨⟨kd,ta,tb,m,s,l,d⟩,hx,hx2⟩ := hva i i0 hlt
  have k1 := kr i _ hx
  clear hva kr
  dsimp only at k1
  cbv
  (repeat ((first | with_reducible refine ln fun _ _ _ => ?_ | refine tt ?_); cbv))
  refine el ?_ (by omega) hx2
  cbv
  (repeat ((first | with_reducible refine ln fun _ _ _ => ?_ | refine tt ?_ | refine ff ?_ | refine tt ?_ rfl | with_reducible refine wr fun _ _ => ?_ | with_reducible refine wu fun _ _ => ?_ | refine rp fun _ _ _ => ?_ | refine cp fun _ => ?_ | with_reducible refine bq ?_ | refine cl ?_ | refine sd ?_); cbv))
  refine el ?_ (by omega) hx2
  cbv
  (repeat ((first | refine ff ?_ | with_reducible refine wr fun _ _ => ?_ | with_reducible refine bq ?_ | refine cl ?_); cbv))
  rename_i q' hq'
  refine q4n [0,1,5] ?_
  exact hK (cnt a - (i + 1)).toNat _ _ (by omega) ⟨i + 1,by omega,by omega,rfl,by rw [hq']; rfl,rfl⟩
 ·clear hva kr hK
  cbv
  (repeat ((first | with_reducible refine ln fun _ _ _ => ?_ | refine ff ?_); cbv))
  exact hu.symm
set_option maxHeartbeats 8000000
theorem j3t {c : List Tm} {i : Int} {xs : List R3} {q : Nat} {t : Tm} (ho : Ok c i xs) (hb : (q1m c i.toNat)[q]? = some true) (ht : c[q]? = some t) {A B : R3} (hA : t.k ≠ 1 → t.k ≠ 2 → A = q0x (vQ xs c t.a)) (hB : qBf t.k = true → B = q0x (vQ xs c t.b)) : oneS t A B xs = to4 (q0x (vQ xs c q)) := by
 obtain ⟨vs,hv,hvs⟩ := ho.ev
 have hs := qMc ho.made
 obtain ⟨h0,h1,hg⟩ := q4q ho.made
 have hok := q1j.1 hg q t ht
 have hle := qAn (q5a hg) hb
 have f := (qP hs _ vs hv q t (by omega) hb ht).1
 rw [hvs q t hb ht] at f
 have hx : xs.all q1r = true ∧ (t.k = 2 → t.n < cnt xs) := by
  have hm := ho.made
  unfold q6a q7x at hm
  simp only [Bool.and_eq_true,decide_eq_true_eq] at hm
  exact ⟨hm.1.2,fun h => q5i.1 hm.2 q t ht hb h⟩
 have kid : ∀ k ∈ q5z t,at3 vs k = q0x (vQ xs c k) := fun k hk => by
  have h1 := qDx hs ht hk
  have h2 := hs.kid q t hb ht k hk
  have h3 := (List.getElem?_eq_some_iff.1 ht).1
  have := hvs k.toNat c[k.toNat] h2 (List.getElem?_eq_getElem (by omega))
  rwa [show ((k.toNat : Nat) : Int) = k by omega] at this
 rw [← f,← j0w hok hx.1 hx.2]
 unfold oneS
 rcases q1v hok with h | ⟨h,_⟩ | ⟨h,_⟩ | ⟨h,_⟩ | ⟨h,_⟩
 ·simp [h]
 ·simp [h]
 ·rw [q6e h] at kid
  rw [hA (by omega) (by omega),hB (by unfold qBf; exact decide_eq_true h),kid t.a (by simp),kid t.b (by simp)]
 ·rw [q3w (.inl h)] at kid
  rw [hA (by omega) (by omega),kid t.a (by simp)]
  simp [h]
 ·rw [q3w (.inr h)] at kid
  rw [hA (by omega) (by omega),kid t.a (by simp)]
  simp [h]
def dU (a b : R3) : List U := [ub a.1,.l a.2.1,.l a.2.2,ub b.1,.l b.2.1,.l b.2.2,ui 0]
def rowQ (c : List Tm) (xs : List R3) (s : Int) (nd : List Bool) (j : Nat) : List U := if nd[j]? = some true then dU (q0x (vQ xs c j)) (q0x (dQ xs s c j)) else dU (q0x 0) (q0x 0)
theorem qD {f : Nat → List U} {row : Rows} {q x : Int} (h0 : 0 ≤ x) (h1 : x < q) (h : row.take q.toNat = (List.range q.toNat).map f) : row[x.toNat]? = some (f x.toNat) := by
 have e : (row.take q.toNat)[x.toNat]? = row[x.toNat]? := by rw [List.getElem?_take,if_pos (by omega)]
 rw [← e,h,List.getElem?_map,List.getElem?_range (by omega)]
 rfl
theorem q7j {f : Nat → List U} {zs : Rows} {q : Int} {z : List U} (h0 : 0 ≤ q) (h : zs.take (q + 1).toNat = (List.range q.toNat).map f ++ [z]) (hz : z = f q.toNat) : zs.take (q + 1).toNat = (List.range (q + 1).toNat).map f := by
 rw [h,hz,show (q + 1).toNat = q.toNat + 1 by omega,List.range_succ,List.map_append]
 rfl
def j3z (us : List U) (u : U) : Prop := ∃ c i s xs,Ok c i xs ∧ (∀ t ∈ c,-6 ≤ t.n ∧ t.n ≤ 6) ∧ (∀ t ∈ c,LB t.q) ∧ cnt c ≤ 12 ∧ (∀ a ∈ xs,LB a) ∧ cnt xs ≤ 1000000 ∧ us = [cU c,ui i,ui s,qsU xs] ∧ u = .agg (dU (q0x (vQ xs c i)) (q0x (dQ xs s c i)))
theorem qAl {q : Rat} (h : fits q = true) : LB (q0x q) := (q5f h).wide
theorem j4e : q0w Tryz.prog 23 j3z := sound [(39,q6n),(40,q6j),(44,qEs),(47,oneR),(28,qUa),(30,qDf),(51,qTt),(52,q8b),(53,qGo)] (q0c qBj (q0c qBa (q0c qVx (q0c qZw (q0c qOv (q0c qJd (q0c qXq (q0c qDm (q0c qQn q0v))))))))) Tryz.func23 (by kernel_rfl) (by kernel_rfl) fun us u hR => by
 obtain ⟨c,i,s,xs,ho,hN,hq,hn,hx,hxn,rfl,hu⟩ := hR
 obtain ⟨r,hr⟩ : ∃ r,r = 20 := ⟨_,rfl⟩
 refine ⟨r,fun C E hC => ?_⟩
 obtain ⟨i0,i1,hg⟩ := q4q ho.made
 have hmay : q7x c i = true := by
  have := ho.made
  unfold q6a at this
  simp only [Bool.and_eq_true] at this
  exact this.1.1
 have hrf : ∀ (j : Nat) t,c[j]? = some t → (q1m c i.toNat)[j]? = some true → t.k = 2 → t.n < cnt xs := fun j t h1 h2 h3 => by
  have := ho.made
  unfold q6a at this
  simp only [Bool.and_eq_true] at this
  exact q5i.1 this.2 j t h1 h2 h3
 have kN := hC 39 q6n (by simp) _ _ ⟨c,i,hq,by omega,rfl,rfl⟩
 unfold qAy at kN
 rw [if_pos hmay] at kN
 have k2 : ∀ k : Int,C 44 [ui k] (ub (qBf k)) := fun k => hC 44 qEs (by simp) _ _ ⟨k,rfl,rfl⟩
 obtain ⟨s0,l0,d0,kW,e0⟩ := tR (hC 40 q6j (by simp) _ _ ⟨0,by omega,by omega,rfl,rfl⟩)
 obtain ⟨s1,l1,d1,kW1,e1⟩ := tR (hC 40 q6j (by simp) _ _ ⟨1,by omega,by omega,rfl,rfl⟩)
 have kO := hC 47 oneR (by simp)
 have kP := hC 28 qUa (by simp)
 have kT := hC 30 qDf (by simp)
 have kM := hC 51 qTt (by simp)
 have kU := hC 52 q8b (by simp)
 have kX := hC 53 qGo (by simp)
 have hcn := fun i (h0 : 0 ≤ i) (h1 : i < cnt c) => q2l (c := c) tU h0 h1
 have hc := q2r c tU
 have hc0 := q6s c
 have hnl := q6l c i.toNat
 have hndx := fun j (h0 : 0 ≤ j) (h1 : j < cnt (q1m c i.toNat)) => uB_nth (s := q1m c i.toNat) h0 h1
 have hul := uB_len (q1m c i.toNat)
 obtain ⟨f,hf⟩ : ∃ f,f = rowQ c xs s (q1m c i.toNat) := ⟨_,rfl⟩
 have hu' : u = .agg (f i.toNat) := by
  rw [hf,hu]
  unfold rowQ
  rw [if_pos (q5o i0 i1),show ((i.toNat : Nat) : Int) = i by omega]
 -- a value that is needed, its dual
 have hval : ∀ (q : Int) t,0 ≤ q → c[q.toNat]? = some t → (q1m c i.toNat)[q.toNat]? = some true → ∃ v w : Rat,fits v = true ∧ (len w.num.natAbs ≤ 16300 ∧ len w.den ≤ 5500) ∧ v = vQ xs c q ∧ w = dQ xs s c q ∧ f q.toNat = dU (q0x v) (q0x w) := fun q t h0 ht hb => by
  refine ⟨_,_,?_,?_,rfl,rfl,?_⟩
  ·have := ho.num q.toNat t hb ht
   rwa [show ((q.toNat : Nat) : Int) = q by omega] at this
  ·have := d_len (s := s) ho hN hn hb ht
   rwa [show ((q.toNat : Nat) : Int) = q by omega] at this
  ·rw [hf]
   unfold rowQ
   rw [if_pos hb,show ((q.toNat : Nat) : Int) = q by omega]
 have hno : ∀ q : Int,(q1m c i.toNat)[q.toNat]? = some false → f q.toNat = [ub s0,.l l0,.l d0,ub s0,.l l0,.l d0,ui 0] := fun q hb => by
  rw [hf]
  unfold rowQ
  rw [if_neg (by rw [hb]; simp)]
  have e : q0x 0 = (s0,l0,d0) := e0.symm
  rw [e]
  rfl
 clear hu hf hC hq
 obtain ⟨nds,hnds⟩ : ∃ nds,uB (q1m c i.toNat) = nds := ⟨_,rfl⟩
 rw [hnds] at kN hndx hul
 obtain ⟨ys,hys⟩ : ∃ ys,qsU xs = .s 3 ys := ⟨_,rfl⟩
 obtain ⟨cs,hcs⟩ : ∃ cs,c.map tU = cs := ⟨_,rfl⟩
 rw [hcs] at hcn hc
 unfold cU at kN ⊢
 rw [hcs] at kN ⊢
 rw [hys]
 clear hnds hcs
 cbv
 (repeat ((refine cl ?_); cbv))
 refine q4n [0,1,2,3,8,9,10,11] ?_
 cbv
 refine q2g (fun j a h => ∃ q : Int, 0 ≤ q ∧ q ≤ i + 1 ∧ j = (i + 1 - q).toNat ∧      ((q = 0 ∧ a = [.s 7 cs, ui i, ui s, .s 3 ys, .lost, .lost, .lost, .lost, .ptr 0 0, .s 1 nds, q9j, ui q, .lost, .lost, .lost, .lost, .lost, .lost, .lost, .lost, .lost, .lost, .lost, .lost, .lost, .lost, .lost, .lost, .lost, .lost, .lost, .lost, .lost, .lost, .lost, .lost, .lost, .lost, .lost, .lost, .lost, .lost, .lost, .lost, .lost, .lost, .lost, .lost, .lost, .lost, .lost, .lost, .lost, .lost, .lost, .lost, .lost, .lost, .lost, .lost, .lost, .lost, .lost, .lost, .lost, .lost, .lost, .lost, .lost, .lost, .lost, .lost, .lost, .lost, .lost, .lost, .lost, .lost, .lost, .lost, .lost, .lost, .lost, .lost, .lost, .lost, .lost, .lost, .lost, .lost, .lost, .lost, .lost, .lost, .lost, .lost, .lost, .lost, .lost, .lost, .lost, .lost, .lost, .lost, .lost, .lost, .lost, .lost, .lost, .lost, .lost, .lost, .lost, .lost, .lost, .lost, .lost, .lost, .lost, .lost, .lost, .lost, .lost, .lost, .lost, .lost, .lost, .lost, .lost, .lost, .lost, .lost, .lost, .lost, .lost, .lost, .lost, .lost, .lost, .lost, .lost, .lost, .lost, .lost, .lost, .lost, .lost, .lost, .lost] ∧ h = [some (.cells [ub false, .l [], .l [], ub false, .l [], .l [], ui 0])]) ∨
  (∃ (d : Int) (row : Rows), 1 ≤ q ∧ d = cnt row ∧ q ≤ d ∧ row.take q.toNat = (List.range q.toNat).map f ∧ a = [.s 7 cs, ui i, ui s, .s 3 ys, .lost, .lost, .lost, .lost, .ptr 0 0, .s 1 nds, .sl 1 q d 7, ui q, .lost, .lost, .lost, .lost, .lost, .lost, .lost, .lost, .lost, .lost, .lost, .lost, .lost, .lost, .lost, .lost, .lost, .lost, .lost, .lost, .lost, .lost, .lost, .lost, .lost, .lost, .lost, .lost, .lost, .lost, .lost, .lost, .lost, .lost, .lost, .lost, .lost, .lost, .lost, .lost, .lost, .lost, .lost, .lost, .lost, .lost, .lost, .lost, .lost, .lost, .lost, .lost, .lost, .lost, .lost, .lost, .lost, .lost, .lost, .lost, .lost, .lost, .lost, .lost, .lost, .lost, .lost, .lost, .lost, .lost, .lost, .lost, .lost, .lost, .lost, .lost, .lost, .lost, .lost, .lost, .lost, .lost, .lost, .lost, .lost, .lost, .lost, .lost, .lost, .lost, .lost, .lost, .lost, .lost, .lost, .lost, .lost, .lost, .lost, .lost, .lost, .lost, .lost, .lost, .lost, .lost, .lost, .lost, .lost, .lost, .lost, .lost, .lost, .lost, .lost, .lost, .lost, .lost, .lost, .lost, .lost, .lost, .lost, .lost, .lost, .lost, .lost, .lost, .lost, .lost, .lost, .lost, .lost, .lost, .lost, .lost, .lost] ∧ h = [some (.cells [ub false, .l [], .l [], ub false, .l [], .l [], ui 0]), some (.row 7 row)]))) ?_ r (i + 1).toNat _ _ (by omega) ⟨0, by omega, by omega, by omega, .inl ⟨rfl, rfl, rfl⟩⟩
 rintro j a h K ⟨q,q0,q1,hj,hI⟩ hK
 rcases Decidable.em (q ≤ i) with hlt | hlt
 case inr =>
  rcases hI with ⟨hq,rfl,rfl⟩ | ⟨d,row,hq1,hd,hqd,hrow,rfl,rfl⟩
  ·omega
  ·have hA := qD i0 (by omega) hrow
   obtain ⟨vi,wi,_,_,_,_,hfi⟩ : ∃ vi wi : Rat,True ∧ True ∧ True ∧ True ∧ f i.toNat = dU (q0x vi) (q0x wi) := by
    obtain ⟨t,ht,_⟩ := hcn i i0 (by omega)
    obtain ⟨v,w,_,_,_,_,h⟩ := hval i t i0 ht (q5o i0 i1)
    exact ⟨v,w,trivial,trivial,trivial,trivial,h⟩
   obtain ⟨va,vb,vc,ev⟩ : ∃ a b c,q0x vi = (a,b,c) := ⟨_,_,_,rfl⟩
   obtain ⟨wa,wb,wc,ew⟩ : ∃ a b c,q0x wi = (a,b,c) := ⟨_,_,_,rfl⟩
   rw [hfi,ev,ew] at hA hu'
   have hA : row[i.toNat]? = some [ub va,.l vb,.l vc,ub wa,.l wb,.l wc,ui 0] := hA
   have hu : u = .agg [ub va,.l vb,.l vc,ub wa,.l wb,.l wc,ui 0] := hu'
   clear hK hval hno hndx hcn kO kP kT kM kU kX k2 hrow ho hN hu'
   cbv
   (repeat ((first | refine ff ?_ | refine el ?_ (by omega) hA | refine sd ?_); cbv))
   exact hu.symm
 obtain ⟨b,hb,hzN⟩ := hndx q q0 (by omega)
 obtain ⟨t,ht,hy⟩ := hcn q q0 (by omega)
 have hok : q1n t q = true := by
  have := q1j.1 hg q.toNat t ht
  rwa [show (q.toNat : Int) = q by omega] at this
 have hrt : (q1m c i.toNat)[q.toNat]? = some true → t.k = 2 → t.n < cnt xs := fun h1 h2 => hrf q.toNat t ht h1 h2
 cases b
 ·have hz := hno q hb
  clear hval hno hndx hcn kO kP kT kM kU kX k2 ho hN hok hrt hrf
  rcases hI with ⟨hq,rfl,rfl⟩ | ⟨d,row,hq1,hd,hqd,hrow,rfl,rfl⟩
  ·cbv
   (repeat ((first | refine tt ?_ | refine cl ?_ | refine el ?_ (by omega) hy | refine el ?_ (by omega) hzN); cbv))
   refine sd ?_ (by unfold cnt; simp)
   intro nn cc zs e1 e2 e3
   have e1 : nn = q + 1 := by rw [hq]; exact e1
   have t1 : cc = cnt zs := by
    rw [e3]
    unfold cnt
    simp
    omega
   have t2 : zs.take (q + 1).toNat = (List.range (q + 1).toNat).map f := q7j q0 (by rw [e3,hq]; rfl) hz.symm
   clear e3
   cbv
   (repeat (((with_reducible refine wr fun _ _ => ?_)); cbv))
   rename_i q' hq'
   refine qQj [0,1,2,3,8,9,11] 10 3 ?_ (hj := by simp)
   exact hK (i + 1 - (q + 1)).toNat _ _ (by omega) ⟨q + 1,by omega,by omega,rfl,.inr ⟨cc,zs,by omega,t1,by omega,t2,by rw [hq',e1]; rfl,rfl⟩⟩
  ·cbv
   (repeat ((first | refine tt ?_ | refine cl ?_ | refine el ?_ (by omega) hy | refine el ?_ (by omega) hzN); cbv))
   refine sd ?_ ⟨by unfold cnt; simp,by unfold cnt; simp,by omega,hd⟩
   intro nn e1
   have e1 : nn = q + 1 := e1
   have hrl : cnt ((List.range q.toNat).map f) = q := by
    unfold cnt
    rw [List.length_map,List.length_range]
    omega
   refine ⟨fun zs e2 e3 => ?_,fun cc zs e2 e3 e4 => ?_⟩
   ·have t1 : d = cnt zs := j0n q0 hd (by omega) e3
    have t2 : zs.take (q + 1).toNat = (List.range (q + 1).toNat).map f := q7j q0 (qCq hrl.symm hrow e3) hz.symm
    clear e3
    cbv
    (repeat (((with_reducible refine wr fun _ _ => ?_)); cbv))
    rename_i q' hq'
    refine qQj [0,1,2,3,8,9,11] 10 1 ?_ (hj := by simp)
    exact hK (i + 1 - (q + 1)).toNat _ _ (by omega) ⟨q + 1,by omega,by omega,rfl,.inr ⟨d,zs,by omega,t1,by omega,t2,by rw [hq',e1]; rfl,rfl⟩⟩
   ·have t1 : cc = cnt zs := qVm q0 hd hqd (by omega) e4
    have t2 : zs.take (q + 1).toNat = (List.range (q + 1).toNat).map f := q7j q0 (qCq hrl.symm hrow e4) hz.symm
    clear e4
    cbv
    (repeat (((with_reducible refine wr fun _ _ => ?_)); cbv))
    rename_i q' hq'
    refine qQj [0,1,2,3,8,9,11] 10 4 ?_ (hj := by simp)
    exact hK (i + 1 - (q + 1)).toNat _ _ (by omega) ⟨q + 1,by omega,by omega,rfl,.inr ⟨cc,zs,by omega,t1,by omega,t2,by rw [hq',e1]; rfl,rfl⟩⟩
 obtain ⟨v,w,fv,fw,ev,ew,hfq⟩ := hval q t q0 ht hb
 have hdq : w = qLh (vQ xs c) (dQ xs s c) s t := by
  have := qXe (xs := xs) (s := s) ht (q1j.1 hg q.toNat t ht)
  rw [show ((q.toNat : Nat) : Int) = q by omega] at this
  rw [ew,this]
 have hvq : v = opQ (vQ xs c) xs t := by
  have := j1p (xs := xs) ht (q1j.1 hg q.toNat t ht)
  rw [show ((q.toNat : Nat) : Int) = q by omega] at this
  rw [ev,this]
 have hno0 := ho.no q.toNat t hb ht
 have hkv : ∀ x ∈ q5z t,∃ v w : Rat,fits v = true ∧ (len w.num.natAbs ≤ 16300 ∧ len w.den ≤ 5500) ∧ v = vQ xs c x ∧ w = dQ xs s c x ∧ f x.toNat = dU (q0x v) (q0x w) ∧ 0 ≤ x ∧ x < q := fun x hx => by
  have hx' := q6b hok x hx
  have hl := (List.getElem?_eq_some_iff.1 ht).1
  obtain ⟨v,w,h1,h2,h3,h4,h5⟩ := hval x c[x.toNat] hx'.1 (List.getElem?_eq_getElem (by omega)) (q5v (q5a hg) ht hx hb)
  exact ⟨v,w,h1,h2,h3,h4,h5,hx'⟩
 have hone : ∀ A B : R3,LB A → LB B → (t.k ≠ 1 → t.k ≠ 2 → A = q0x (vQ xs c t.a)) → (qBf t.k = true → B = q0x (vQ xs c t.b)) → C 47 [.agg (tU t),uR A,uR B,.s 3 ys] (.agg [ub (q0x v).1,.l (q0x v).2.1,.l (q0x v).2.2,ui 0]) := fun A B h1 h2 h3 h4 => by
  have := kO _ _ ⟨t,q,A,B,xs,hok,hrt hb,h1,h2,rfl,rfl⟩
  rw [j3t ho hb ht h3 h4,hys,show ((q.toNat : Nat) : Int) = q by omega,← ev] at this
  exact this
 have hN1 := hN t (List.mem_of_getElem? ht)
 have L0 : LB (s0,l0,d0) := by rw [e0]; exact qAl (by decide +kernel)
 have e0' : (s0,l0,d0) = q0x 0 := e0
 have e1' : (s1,l1,d1) = q0x 1 := e1
 obtain ⟨sv,lv,dv,hsv⟩ : ∃ a b c,(a,b,c) = q0x v := ⟨_,_,_,rfl⟩
 obtain ⟨sw,lw,dw,hsw⟩ : ∃ a b c,(a,b,c) = q0x w := ⟨_,_,_,rfl⟩
 have hz : f q.toNat = [ub sv,.l lv,.l dv,ub sw,.l lw,.l dw,ui 0] := by rw [hfq,← hsv,← hsw]; rfl
 rw [← hsv] at hone
 have k3 := k2 t.k
 have fw' : q9d w := ⟨by have := fw.1; omega,by have := fw.2; omega⟩
 clear hval hno hndx hcn hrf hrt ho hN kO k2 hfq
 unfold qLh at hdq
 unfold opQ at hvq
 rcases q1v hok with h1 | ⟨h1,_⟩ | ⟨h1,ha,hb'⟩ | ⟨h1,ha⟩ | ⟨h1,ha,hn8⟩
 -- a number
 rw [if_pos h1] at hdq
 rw [hdq,← e0'] at hsw
 have htw : qBf t.k = false := by unfold qBf; exact decide_eq_false (by omega)
 have k1 := hone (s0,l0,d0) (s0,l0,d0) L0 L0 (fun h => absurd h1 h) (fun h => by rw [htw] at h; cases h)
 rw [htw] at k3
 injection hsw with g1 g2
 injection g2 with g2 g3
 subst g1 g2 g3
 rcases hI with ⟨hq,rfl,rfl⟩ | ⟨d,row,hq1,hd,hqd,hrow,rfl,rfl⟩
 rotate_left 2
 -- a name
 rw [if_neg (by omega),if_pos h1] at hdq
 have htw : qBf t.k = false := by unfold qBf; exact decide_eq_false (by omega)
 have k1 := hone (s0,l0,d0) (s0,l0,d0) L0 L0 (fun _ h => absurd h1 h) (fun h => by rw [htw] at h; cases h)
 rw [htw] at k3
 rcases Decidable.em (t.n = s) with hms | hms
 rw [if_pos hms] at hdq
 rw [hdq,← e1'] at hsw
 injection hsw with g1 g2
 injection g2 with g2 g3
 subst g1 g2 g3
 rcases hI with ⟨hq,rfl,rfl⟩ | ⟨d,row,hq1,hd,hqd,hrow,rfl,rfl⟩
 rotate_left 2
 rw [if_neg hms] at hdq
 rw [hdq,← e0'] at hsw
 injection hsw with g1 g2
 injection g2 with g2 g3
 subst g1 g2 g3
 rcases hI with ⟨hq,rfl,rfl⟩ | ⟨d,row,hq1,hd,hqd,hrow,rfl,rfl⟩
 rotate_left 2
 -- of two
 have htw : qBf t.k = true := by unfold qBf; exact decide_eq_true h1
 rw [htw] at k3
 rw [q6e h1] at hkv
 obtain ⟨va,wa,fa,ga,eva,ewa,hfa,xa⟩ := hkv t.a (by simp)
 obtain ⟨vb,wb,fb,gb,evb,ewb,hfb,xb⟩ := hkv t.b (by simp)
 have k1 := hone (q0x va) (q0x vb) (qAl fa) (qAl fb) (fun _ _ => by rw [eva]) (fun _ => by rw [evb])
 rw [← eva,← evb] at hvq
 rw [← eva,← evb,← ewa,← ewb] at hdq
 have hb0 : t.k = 6 → vb ≠ 0 := fun h => by rw [evb]; exact hno0 t.b (.inl ⟨h,rfl⟩)
 have wwa : q9d wa := ⟨by have := ga.1; omega,by have := ga.2; omega⟩
 have wwb : q9d wb := ⟨by have := gb.1; omega,by have := gb.2; omega⟩
 obtain ⟨sa,la,da,hsa⟩ : ∃ a b c,(a,b,c) = q0x va := ⟨_,_,_,rfl⟩
 obtain ⟨sb,lb,db,hsb⟩ : ∃ a b c,(a,b,c) = q0x vb := ⟨_,_,_,rfl⟩
 obtain ⟨sc,lc,dc,hsc⟩ : ∃ a b c,(a,b,c) = q0x wa := ⟨_,_,_,rfl⟩
 obtain ⟨se,le,de,hse⟩ : ∃ a b c,(a,b,c) = q0x wb := ⟨_,_,_,rfl⟩
 rw [← hsa,← hsb] at k1
 rw [← hsa,← hsc] at hfa
 rw [← hsb,← hse] at hfb
 clear eva evb ewa ewb
 obtain ⟨d,row,hq1,hd,hqd,hrow,rfl,rfl⟩ := hI.resolve_left (fun h => by have := h.1; omega)
 clear hI
 have hA := qD ha.1 ha.2 hrow
 have hB := qD hb'.1 hb'.2 hrow
 rw [hfa] at hA
 rw [hfb] at hB
 have hA : row[t.a.toNat]? = some [ub sa,.l la,.l da,ub sc,.l lc,.l dc,ui 0] := hA
 have hB : row[t.b.toNat]? = some [ub sb,.l lb,.l db,ub se,.l le,.l de,ui 0] := hB
 clear hfa hfb
 rcases h1 with h1 | h1 | h1 | h1
 rw [if_neg (by omega),if_neg (by omega),if_pos h1] at hdq
 have r1 := kP _ _ ⟨wa,wb,wwa,wwb,rfl,rfl⟩
 rw [← hdq,← hsc,← hse,← hsw] at r1
 rotate_left 1
 rw [if_neg (by omega),if_neg (by omega),if_neg (by omega),if_pos h1] at hdq
 obtain ⟨sm,lm,dm,r1,q1⟩ := tR (kM _ _ ⟨wb,rfl,rfl⟩)
 rw [← hse] at r1
 have r2 := kP _ _ ⟨wa,-wb,wwa,⟨by rw [Rat.neg_num,Int.natAbs_neg]; exact wwb.1,by rw [Rat.neg_den]; exact wwb.2⟩,rfl,rfl⟩
 rw [← Rat.sub_eq_add_neg,← hdq,← hsc,← q1,← hsw] at r2
 rotate_left 1
 rw [if_neg (by omega),if_neg (by omega),if_neg (by omega),if_neg (by omega),if_pos h1] at hdq
 have l1' := q6q wa vb
 have l2' := q6q va wb
 have fa' := q2w fa
 have fb' := q2w fb
 obtain ⟨sm,lm,dm,r1,q1⟩ := tR (kT _ _ ⟨wa,vb,wwa,q7b fb,rfl,rfl⟩)
 obtain ⟨sn,ln',dn,r2,q2⟩ := tR (kT _ _ ⟨va,wb,q7b fa,wwb,rfl,rfl⟩)
 have r3 := kP _ _ ⟨wa * vb,va * wb,⟨by omega,by omega⟩,⟨by omega,by omega⟩,rfl,rfl⟩
 rw [← hdq,← q1,← q2,← hsw] at r3
 rw [← hsc,← hsb] at r1
 rw [← hsa,← hse] at r2
 clear l1' l2' fa' fb'
 rotate_left 1
 rw [if_neg (by omega),if_neg (by omega),if_neg (by omega),if_neg (by omega),if_neg (by omega),if_pos h1] at hdq
 rw [if_neg (by omega),if_neg (by omega),if_neg (by omega),if_neg (by omega),if_neg (by omega),if_pos h1] at hvq
 have hb0 := hb0 h1
 unfold qPn at hdq
 rw [← hvq] at hdq
 have l1' := q6q v wb
 have l2' := qLz wa (-(v * wb))
 have fv' := q2w fv
 rw [Rat.neg_num,Rat.neg_den,Int.natAbs_neg] at l2'
 obtain ⟨sm,lm,dm,r1,q1⟩ := tR (kT _ _ ⟨v,wb,q7b fv,wwb,rfl,rfl⟩)
 obtain ⟨sn,ln',dn,r2,q2⟩ := tR (kM _ _ ⟨v * wb,rfl,rfl⟩)
 obtain ⟨sp,lp,dp,r3,q3⟩ := tR (kP _ _ ⟨wa,-(v * wb),wwa,⟨by rw [Rat.neg_num,Int.natAbs_neg]; omega,by rw [Rat.neg_den]; omega⟩,rfl,rfl⟩)
 obtain ⟨st,lt,dt,r4,q4⟩ := tR (kU _ _ ⟨vb,hb0,rfl,rfl⟩)
 have r5 := kT _ _ ⟨wa + -(v * wb),vb⁻¹,⟨by omega,by omega⟩,q7b (q7v fb hb0),rfl,rfl⟩
 rw [← Rat.sub_eq_add_neg] at q3 r5
 rw [← Rat.div_def,← hdq,← q3,← q4,← hsw] at r5
 rw [← hsv,← hse] at r1
 rw [← q1] at r2
 rw [← hsc,← q2] at r3
 rw [← hsb] at r4
 clear l1' l2' fv'
 rotate_left 1
 -- the negative
 have htw : qBf t.k = false := by unfold qBf; exact decide_eq_false (by omega)
 rw [htw] at k3
 rw [q3w (.inl h1)] at hkv
 obtain ⟨va,wa,fa,ga,eva,ewa,hfa,xa⟩ := hkv t.a (by simp)
 have k1 := hone (q0x va) (s0,l0,d0) (qAl fa) L0 (fun _ _ => by rw [eva]) (fun h => by rw [htw] at h; cases h)
 rw [← ewa,if_neg (by omega),if_neg (by omega),if_neg (by omega),if_neg (by omega),if_neg (by omega),if_neg (by omega),if_pos h1] at hdq
 obtain ⟨sa,la,da,hsa⟩ : ∃ a b c,(a,b,c) = q0x va := ⟨_,_,_,rfl⟩
 obtain ⟨sc,lc,dc,hsc⟩ : ∃ a b c,(a,b,c) = q0x wa := ⟨_,_,_,rfl⟩
 rw [← hsa] at k1
 rw [← hsa,← hsc] at hfa
 have r1 := kM _ _ ⟨wa,rfl,rfl⟩
 rw [← hdq,← hsc,← hsw] at r1
 obtain ⟨d,row,hq1,hd,hqd,hrow,rfl,rfl⟩ := hI.resolve_left (fun h => by have := h.1; omega)
 clear hI
 have hA := qD ha.1 ha.2 hrow
 rw [hfa] at hA
 have hA : row[t.a.toNat]? = some [ub sa,.l la,.l da,ub sc,.l lc,.l dc,ui 0] := hA
 rotate_left 1
 -- a power
 have htw : qBf t.k = false := by unfold qBf; exact decide_eq_false (by omega)
 rw [htw] at k3
 rw [q3w (.inr h1)] at hkv
 obtain ⟨va,wa,fa,ga,eva,ewa,hfa,xa⟩ := hkv t.a (by simp)
 have k1 := hone (q0x va) (s0,l0,d0) (qAl fa) L0 (fun _ _ => by rw [eva]) (fun h => by rw [htw] at h; cases h)
 rw [← ewa,← eva,if_neg (by omega),if_neg (by omega),if_neg (by omega),if_neg (by omega),if_neg (by omega),if_neg (by omega),if_neg (by omega)] at hdq
 have hb0 : t.n < 0 → va ≠ 0 := fun h => by rw [eva]; exact hno0 t.a (.inr ⟨h1,h,rfl⟩)
 have wwa : q9d wa := ⟨by have := ga.1; omega,by have := ga.2; omega⟩
 obtain ⟨sa,la,da,hsa⟩ : ∃ a b c,(a,b,c) = q0x va := ⟨_,_,_,rfl⟩
 obtain ⟨sc,lc,dc,hsc⟩ : ∃ a b c,(a,b,c) = q0x wa := ⟨_,_,_,rfl⟩
 rw [← hsa] at k1
 rw [← hsa,← hsc] at hfa
 have hpw : q9d ((t.n : Rat) * va ^ (t.n - 1)) := by
  rcases Decidable.em (t.n = 0) with e | e
  ·rw [e,show ((0 : Int) : Rat) = 0 from rfl,Rat.zero_mul]
   exact q7b (by decide +kernel)
  ·have := qMr (qHx (n := t.n) (by omega)) (fac_z fa (n := t.n - 1) (by omega) (by omega) fun h => hb0 (by omega))
   exact ⟨by have := this.num; omega,by have := this.den; omega⟩
 obtain ⟨sm,lm,dm,r1,q1⟩ := tR (kX _ _ ⟨va,t.n,fa,by omega,by omega,hb0,rfl,rfl⟩)
 have r2 := kT _ _ ⟨(t.n : Rat) * va ^ (t.n - 1),wa,hpw,wwa,rfl,rfl⟩
 rw [← hdq,← q1,← hsc,← hsw] at r2
 rw [← hsa] at r1
 obtain ⟨d,row,hq1,hd,hqd,hrow,rfl,rfl⟩ := hI.resolve_left (fun h => by have := h.1; omega)
 clear hI
 have hA := qD ha.1 ha.2 hrow
 rw [hfa] at hA
 have hA : row[t.a.toNat]? = some [ub sa,.l la,.l da,ub sc,.l lc,.l dc,ui 0] := hA
 rotate_left 1
 all_goals as_aux_lemma =>
  clear hone hkv kP kT kM kU kX hvq hdq hno0
  obtain ⟨kd,ta,tb,m,ts,tl,td⟩ := t
  dsimp only at *
  cbv
  (repeat ((first | refine tt ?_ | refine ff ?_ | refine cl ?_ | refine el ?_ (by omega) hy | refine el ?_ (by omega) hzN | refine el ?_ (by omega) hA | refine el ?_ (by omega) hB | refine sd ?_); cbv))
  first
   |refine sd ?_ (by unfold cnt; simp)
    intro nn cc zs e1 e2 e3
    have e1 : nn = q + 1 := by rw [hq]; exact e1
    have t1 : cc = cnt zs := by
     rw [e3]
     unfold cnt
     simp
     omega
    have t2 : zs.take (q + 1).toNat = (List.range (q + 1).toNat).map f := q7j q0 (by rw [e3,hq]; rfl) hz.symm
    clear e3
    cbv
    (repeat (((with_reducible refine wr fun _ _ => ?_)); cbv))
    rename_i q' hq'
    refine qQj [0,1,2,3,8,9,11] 10 5 ?_ (hj := by simp)
    exact hK (i + 1 - (q + 1)).toNat _ _ (by omega) ⟨q + 1,by omega,by omega,rfl,.inr ⟨cc,zs,by omega,t1,by omega,t2,by rw [hq',e1]; rfl,rfl⟩⟩
   |refine sd ?_ ⟨by unfold cnt; simp,by unfold cnt; simp,by omega,hd⟩
    intro nn e1
    have e1 : nn = q + 1 := e1
    have hrl : cnt ((List.range q.toNat).map f) = q := by
     unfold cnt
     rw [List.length_map,List.length_range]
     omega
    refine ⟨fun zs e2 e3 => ?_,fun cc zs e2 e3 e4 => ?_⟩
    ·have t1 : d = cnt zs := j0n q0 hd (by omega) e3
     have t2 : zs.take (q + 1).toNat = (List.range (q + 1).toNat).map f := q7j q0 (qCq hrl.symm hrow e3) hz.symm
     clear e3
     cbv
     (repeat (((with_reducible refine wr fun _ _ => ?_)); cbv))
     rename_i q' hq'
     refine qQj [0,1,2,3,8,9,11] 10 1 ?_ (hj := by simp)
     exact hK (i + 1 - (q + 1)).toNat _ _ (by omega) ⟨q + 1,by omega,by omega,rfl,.inr ⟨d,zs,by omega,t1,by omega,t2,by rw [hq',e1]; rfl,rfl⟩⟩
    ·have t1 : cc = cnt zs := qVm q0 hd hqd (by omega) e4
     have t2 : zs.take (q + 1).toNat = (List.range (q + 1).toNat).map f := q7j q0 (qCq hrl.symm hrow e4) hz.symm
     clear e4
     cbv
     (repeat (((with_reducible refine wr fun _ _ => ?_)); cbv))
     rename_i q' hq'
     refine qQj [0,1,2,3,8,9,11] 10 6 ?_ (hj := by simp)
     exact hK (i + 1 - (q + 1)).toNat _ _ (by omega) ⟨q + 1,by omega,by omega,rfl,.inr ⟨cc,zs,by omega,t1,by omega,t2,by rw [hq',e1]; rfl,rfl⟩⟩
end Go.Proofs.YtjkcmnedolfkjaaGreat.Rd
end
section
set_option linter.unusedVariables false
set_option linter.unusedSimpArgs false
namespace Go.Proofs.YtjkcmnedolfkjaaGreat.Rd
open Go Go.RowKit Go.Proofs.YtjkcmnedolfkjaaGreatW.PrintWords Go.Proofs.YtjkcmnedolfkjaaGreat.PL Go.Proofs.YtjkcmnedolfkjaaGreat.Num
def Kx (r : Int) (nd : List Bool) (n x : Int) : Prop := (0 ≤ x ∧ x < n) ∧ (x ≤ r → nd[x.toNat]? = some true)
structure N1 (xs : List R3) (r : Int) (nd : List Bool) (c : List Tm) (n : Int) (u : Tm) : Prop where
 two : u.k ≠ 2
 kid : ∀ x ∈ q5z u,Kx r nd n x
 by_ : ∀ d,byD u d → vQ xs c d ≠ 0
structure Nw (xs : List R3) (r : Int) (nd : List Bool) (c : List Tm) : Prop where
 lo : r < cnt c
 r0 : 0 ≤ r
 all : ∀ (p : Nat) u,r < p → c[p]? = some u → N1 xs r nd c p u
section
variable {xs : List R3} {r : Int} {nd : List Bool} {c : List Tm}
theorem Kx.up {n x : Int} {m : Int} (h : Kx r nd n x) (hm : n ≤ m) : Kx r nd m x := ⟨⟨h.1.1,by have := h.1.2; omega⟩,h.2⟩
theorem Nw.more {u : Tm} (h : Nw xs r nd c) (hu : N1 xs r nd c (cnt c) u) : Nw xs r nd (c ++ [u]) := by
 refine ⟨by have := h.lo; rw [q1h]; omega,h.r0,fun p u' hp hu' => ?_⟩
 have old : ∀ d,0 ≤ d → d < cnt c → vQ xs (c ++ [u]) d = vQ xs c d := fun d h0 h1 => q4z _ h0 h1
 rcases Nat.lt_trichotomy p c.length with hlt | e | hgt
 ·rw [List.getElem?_append_left hlt] at hu'
  have := h.all p u' hp hu'
  refine ⟨this.two,this.kid,fun d hd => ?_⟩
  have hk := (this.kid d (qBd hd)).1
  rw [old d hk.1 (by unfold cnt; omega)]
  exact this.by_ d hd
 ·subst e
  rw [List.getElem?_append_right (Nat.le_refl _),Nat.sub_self] at hu'
  injection hu' with hu'
  subst hu'
  refine ⟨hu.two,hu.kid,fun d hd => ?_⟩
  have hk := (hu.kid d (qBd hd)).1
  rw [old d hk.1 hk.2]
  exact hu.by_ d hd
 ·rw [List.getElem?_eq_none (by rw [List.length_append]; simp; omega)] at hu'
  cases hu'
theorem Nw.new {u : Tm} (h : Nw xs r nd c) : Kx r nd (cnt (c ++ [u])) (cnt c) := ⟨⟨q6s c,by rw [q1h]; omega⟩,fun hle => by have := h.lo; omega⟩
theorem cnt_up {u : Tm} : cnt c ≤ cnt (c ++ [u]) := by rw [q1h]; omega
theorem Kx.snoc {x : Int} {u : Tm} (h : Kx r nd (cnt c) x) : Kx r nd (cnt (c ++ [u])) x := h.up cnt_up
theorem v_up {x : Int} {u : Tm} (h : Kx r nd (cnt c) x) (h0 : vQ xs c x ≠ 0) : vQ xs (c ++ [u]) x ≠ 0 := by
 have : vQ xs (c ++ [u]) x = vQ xs c x := q4z _ h.1.1 h.1.2
 rwa [this]
theorem q7i {k a b : Int} (hk : k = 3 ∨ k = 4 ∨ k = 5) (ha : Kx r nd (cnt c) a) (hb : Kx r nd (cnt c) b) : N1 xs r nd c (cnt c) (mkT k a b 0) := by
 refine ⟨by show k ≠ 2; omega,fun x hx => ?_,fun d hd => ?_⟩
 ·rw [q6e (by show k = 3 ∨ k = 4 ∨ k = 5 ∨ k = 6; omega)] at hx
  simp only [List.mem_cons,List.not_mem_nil,or_false] at hx
  rcases hx with rfl | rfl
  ·exact ha
  ·exact hb
 ·rcases hd with ⟨h,_⟩ | ⟨h,_⟩
  ·have h : k = 6 := h
   omega
  ·have h : k = 8 := h
   omega
theorem qUn {a b : Int} (ha : Kx r nd (cnt c) a) (hb : Kx r nd (cnt c) b) (h0 : vQ xs c b ≠ 0) : N1 xs r nd c (cnt c) (mkT 6 a b 0) := by
 refine ⟨by show (6 : Int) ≠ 2; omega,fun x hx => ?_,fun d hd => ?_⟩
 ·rw [q6e (.inr (.inr (.inr rfl)))] at hx
  simp only [List.mem_cons,List.not_mem_nil,or_false] at hx
  rcases hx with rfl | rfl
  ·exact ha
  ·exact hb
 ·rcases hd with ⟨_,h⟩ | ⟨h,_⟩
  ·have h : b = d := h
   rw [← h]
   exact h0
  ·have h : (6 : Int) = 8 := h
   omega
theorem qFn {k a n : Int} (hk : k = 7 ∨ k = 8) (ha : Kx r nd (cnt c) a) (h0 : k = 8 → n < 0 → vQ xs c a ≠ 0) : N1 xs r nd c (cnt c) (mkT k a 0 n) := by
 refine ⟨by show k ≠ 2; omega,fun x hx => ?_,fun d hd => ?_⟩
 ·rw [q3w hk] at hx
  simp only [List.mem_cons,List.not_mem_nil,or_false] at hx
  rw [hx]
  exact ha
 ·rcases hd with ⟨h,_⟩ | ⟨h,h2,h3⟩
  ·have h : k = 6 := h
   omega
  ·have h3 : a = d := h3
   rw [← h3]
   exact h0 h h2
theorem qSt {v : Int} : N1 xs r nd c (cnt c) (q9o v) :=     ⟨by show (1 : Int) ≠ 2; omega, fun x hx => (by cases hx), fun d hd => by
 rcases hd with ⟨h,_⟩ | ⟨h,_⟩
 ·have h : (1 : Int) = 6 := h
  omega
 ·have h : (1 : Int) = 8 := h
  omega⟩
theorem qZp {l : List Bool} {d : List Int} {t : Tm} {bd : Bool} {i : Int} (h : Nw xs r nd c) (hok : q1n t i = true) (hi : i ≤ r + 1) (hk : ∀ x ∈ q5z t,nd[x.toNat]? = some true) (hd : ∀ x ∈ q5z t,bAt l x = true → Kx r nd (cnt c) (dAt d x)) (h0 : ∀ x,byD t x → vQ xs c x ≠ 0)
  (hl : t.k = 2 ∨ ((t.k = 7 ∨ (t.k = 8 ∧ t.n ≠ 0)) ∧ bAt l t.a = true) ∨ ((t.k = 3 ∨ t.k = 4 ∨ t.k = 5 ∨ t.k = 6) ∧ (bAt l t.a = true ∨ bAt l t.b = true))) : Nw xs r nd (q5m l d c bd t).1 := by
 have hlo := h.lo
 unfold q5m
 rcases q1v hok with h1 | ⟨h1,_⟩ | ⟨h1,ka,kb⟩ | ⟨h1,ka⟩ | ⟨h1,ka,_⟩
 ·omega
 ·rw [if_pos h1]
  exact h.more qSt
 ·have ab : bAt l t.a = true ∨ bAt l t.b = true := by
   rcases hl with e | ⟨e,_⟩ | ⟨_,e⟩
   ·omega
   ·omega
   ·exact e
  rw [q6e h1] at hk hd
  have A : Kx r nd (cnt c) t.a := ⟨⟨ka.1,by omega⟩,fun _ => hk t.a (by simp)⟩
  have B : Kx r nd (cnt c) t.b := ⟨⟨kb.1,by omega⟩,fun _ => hk t.b (by simp)⟩
  have dA := hd t.a (by simp)
  have dB := hd t.b (by simp)
  rw [if_neg (by omega),if_neg (by omega)]
  rcases h1 with h1 | h1 | h1 | h1
  ·rw [if_neg (by omega),if_neg (by omega),if_neg (by omega)]
   unfold qLg
   split
   ·split
    ·exact h.more (q7i (by omega) (dA (by assumption)) (dB (by assumption)))
    ·exact h
   ·rw [if_neg (by omega)]
    exact h
  ·rw [if_neg (by omega),if_neg (by omega),if_neg (by omega)]
   unfold qLg
   split
   ·split
    ·exact h.more (q7i (by omega) (dA (by assumption)) (dB (by assumption)))
    ·exact h
   ·rename_i a
    try rw [if_pos h1]
    exact h.more (qFn (.inl rfl) (dB (ab.resolve_left a)) fun e => by omega)
  ·rw [if_pos h1]
   unfold q3y
   dsimp only
   split
   ·rename_i e
    split
    ·rename_i a
     have g1 := h.more (q7i (k := 5) (by omega) (dA a) B)
     have g2 := g1.more (q7i (k := 5) (by omega) A.snoc (dB e).snoc)
     exact g2.more (q7i (by omega) h.new.snoc g1.new)
    ·exact h.more (q7i (by omega) A (dB e))
   ·rename_i e
    rw [if_pos (ab.resolve_right e)]
    exact h.more (q7i (by omega) (dA (ab.resolve_right e)) B)
  ·rw [if_neg (by omega),if_pos h1]
   have b0 := h0 t.b (.inl ⟨h1,rfl⟩)
   have pw : ∀ (e : List Tm),Kx r nd (cnt e) t.b → vQ xs e t.b ≠ 0 → vQ xs (e ++ [mkT 8 t.b 0 2]) (cnt e) ≠ 0 := fun e _ hv => by
    have : vQ xs (e ++ [mkT 8 t.b 0 2]) (cnt e) = vQ xs e t.b ^ (2 : Int) := qCx _ rfl
    rw [this]
    exact z_ne hv 2
   unfold q3h
   dsimp only
   split
   ·rename_i e
    split
    ·rename_i a
     have g1 := h.more (q7i (k := 5) (by omega) (dA a) B)
     have g2 := g1.more (q7i (k := 5) (by omega) A.snoc (dB e).snoc)
     have g3 := g2.more (q7i (k := 4) (by omega) h.new.snoc g1.new)
     have B3 : Kx r nd _ t.b := ((B.snoc (u := mkT 5 (dAt d t.a) t.b 0)).snoc (u := mkT 5 t.a (dAt d t.b) 0)).snoc (u := mkT 4 (cnt c) (cnt (c ++ [mkT 5 (dAt d t.a) t.b 0])) 0)
     have v3 := v_up (u := mkT 4 (cnt c) (cnt (c ++ [mkT 5 (dAt d t.a) t.b 0])) 0) (B.snoc.snoc) (v_up (u := mkT 5 t.a (dAt d t.b) 0) B.snoc (v_up (u := mkT 5 (dAt d t.a) t.b 0) B b0))
     have g4 := g3.more (qFn (k := 8) (n := 2) (.inr rfl) B3 fun _ hh => by omega)
     exact g4.more (qUn g2.new.snoc g3.new (pw _ B3 v3))
    ·rename_i a
     have g1 := h.more (q7i (k := 5) (by omega) A (dB e))
     have g2 := g1.more (qFn (k := 7) (n := 0) (.inl rfl) h.new fun e => by omega)
     have B2 : Kx r nd _ t.b := (B.snoc (u := mkT 5 t.a (dAt d t.b) 0)).snoc (u := mkT 7 (cnt c) 0 0)
     have v2 := v_up (u := mkT 7 (cnt c) 0 0) B.snoc (v_up (u := mkT 5 t.a (dAt d t.b) 0) B b0)
     have g3 := g2.more (qFn (k := 8) (n := 2) (.inr rfl) B2 fun _ hh => by omega)
     exact g3.more (qUn g1.new.snoc g2.new (pw _ B2 v2))
   ·rename_i e
    exact h.more (qUn (dA (ab.resolve_right e)) B b0)
 ·rw [q3w (.inl h1)] at hd
  rw [if_neg (by omega),if_pos h1]
  refine h.more (qFn (.inl rfl) (hd t.a (by simp) ?_) fun e => by omega)
  rcases hl with e | ⟨_,e⟩ | ⟨e,_⟩
  ·omega
  ·exact e
  ·omega
 ·rw [q3w (.inr h1)] at hk hd
  have A : Kx r nd (cnt c) t.a := ⟨⟨ka.1,by omega⟩,fun _ => hk t.a (by simp)⟩
  have hh : t.n ≠ 0 ∧ bAt l t.a = true := by
   rcases hl with e | ⟨e,e2⟩ | ⟨e,_⟩
   ·omega
   ·exact ⟨by omega,e2⟩
   ·omega
  have dA := hd t.a (by simp) hh.2
  rw [if_neg (by omega),if_neg (by omega),if_neg (by omega),if_neg (by omega),if_pos h1]
  unfold q4t
  split
  ·exact h
  ·dsimp only
   have g1 := h.more (qSt (v := t.n))
   have g2 := g1.more (qFn (k := 8) (n := t.n - 1) (.inr rfl) A.snoc fun _ hlt => v_up A (h0 t.a (.inr ⟨h1,by omega,rfl⟩)))
   have g3 := g2.more (q7i (k := 5) (by omega) h.new.snoc g1.new)
   exact g3.more (q7i (by omega) g2.new dA.snoc.snoc.snoc)
end
theorem q9z {D : List Tm} {P : Nat → Prop} (hk : ∀ j,P j → ∀ k ∈ qCb D j,P k.toNat) {i : Nat} (hi : P i) : ∀ j : Nat,(q1m D i)[j]? = some true → P j := by
 have key : ∀ (m : Nat) (s : List Bool),(∀ j : Nat,s[j]? = some true → P j) → ∀ j : Nat,(qBm D m s)[j]? = some true → P j := by
  intro m
  induction m with
  | zero => exact fun s h j hj => h j hj
  | succ m ih =>
   intro s h j hj
   unfold qBm at hj
   refine ih _ ?_ j hj
   intro j hj
   split at hj
   ·rename_i hm
    rcases q8g.1 hj with h1 | ⟨_,k,hk1,rfl⟩
    ·exact h j h1
    ·exact hk m (h m hm) k hk1
   ·exact h j hj
 intro j hj
 unfold q1m at hj
 refine key _ _ (fun j h => ?_) j hj
 rcases qGr.1 h with h | h
 ·rw [List.getElem?_replicate] at h
  split at h <;> cases h
 ·rw [← h.2]
  exact hi
theorem qLy {c : List Tm} {i s : Int} {xs : List R3} (ho : Ok c i xs) : ∀ q : Nat,(q : Int) ≤ i + 1 → (q5n c (q2a c s c.length) (q1m c i.toNat) (i.toNat + 1) q).2.2 = false → Nw xs i (q1m c i.toNat) (q5n c (q2a c s c.length) (q1m c i.toNat) (i.toNat + 1) q).1
 | 0,_,_ => by
  obtain ⟨h0,h1,hg⟩ := q4q ho.made
  unfold q5n
  have hl : cnt (c.take (i.toNat + 1)) = i + 1 := by
   unfold cnt at *
   rw [List.length_take]
   omega
  refine ⟨by rw [hl]; omega,h0,fun p u hp hu => ?_⟩
  have : p < (c.take (i.toNat + 1)).length := (List.getElem?_eq_some_iff.1 hu).1
  unfold cnt at hl
  omega
 | q + 1,hq,hb => by
  obtain ⟨h0,h1,hg⟩ := q4q ho.made
  have hlt : q < c.length := by unfold cnt at h1; omega
  obtain ⟨t,ht⟩ : ∃ t,c[q]? = some t := ⟨_,List.getElem?_eq_getElem hlt⟩
  have ih := qLy ho (s := s) q (by omega)
  have hinv := qH (s := s) hg h0 h1 q (by omega)
  have hsem := qId (s := s) hg h0 h1 xs 0 q (by omega)
  unfold q5n at hb ⊢
  by_cases hc : (q1m c i.toNat)[q]? = some true ∧ (q2a c s c.length)[q]? = some true
  ·rw [if_pos hc,ht] at hb ⊢
   dsimp only at hb ⊢
   generalize q5n c (q2a c s c.length) (q1m c i.toNat) (i.toNat + 1) q = p at *
   obtain ⟨cc,dd,bd⟩ := p
   dsimp only at *
   cases bd
   case true => rw [qGy] at hb; cases hb
   obtain ⟨g1,g2,g3⟩ := hinv rfl
   obtain ⟨⟨e,he⟩,_⟩ := hsem rfl
   have hok := q1j.1 hg q t ht
   have hkn := fun x (hx : x ∈ q5z t) => q5v (q5a hg) ht hx hc.1
   refine qZp (i := q) (ih rfl) hok (by omega) hkn (fun x hx hb => ?_) (fun x hx => ?_) (qCv ht hok hc.2)
   ·have hx' := q6b hok x hx
    have := g3 x hx'.1 hx'.2 (hkn x hx) (by
     unfold bAt at hb
     cases e : (q2a c s c.length)[x.toNat]? with
     | none => rw [e] at hb; cases hb
     | some b => rw [e] at hb; have : b = true := hb; rw [this])
    exact ⟨⟨by omega,this.2⟩,fun hle => by omega⟩
   ·have hx' := q6b hok x (qBd hx)
    have := ho.no q t hc.1 ht x hx
    have hcl : cnt (c.take (i.toNat + 1)) = i + 1 := by
     unfold cnt at *
     rw [List.length_take]
     omega
    have e1 : vQ xs cc x = vQ xs (c.take (i.toNat + 1)) x := by rw [he]; exact q4z _ hx'.1 (by omega)
    have e2 := q4z (z := (0 : Rat)) (fV xs) (c := c.take (i.toNat + 1)) (e := c.drop (i.toNat + 1)) hx'.1 (by omega)
    rw [List.take_append_drop] at e2
    rw [e1]
    exact fun h => this (e2.trans h)
  ·rw [if_neg hc] at hb ⊢
   exact ih hb
theorem qWk {c D : List Tm} {i s k : Int} {xs : List R3} (ho : Ok c i xs) (h : q6w c i s = (D,k,0)) : (ofS D k xs).2.2.2 = 2 ∨ (ofS D k xs = to4 (q0x (dQ xs s c i)) ∧ fits (dQ xs s c i) = true) := by
 have hd := qWp h
 obtain ⟨h0,h1,hg⟩ := q4q ho.made
 have hnw : Nw xs i (q1m c i.toNat) D := by
  have h2 := h
  unfold q6w at h2
  split at h2
  ·split at h2
   ·split at h2
    ·cases h2
    ·rename_i hbad
     injection h2 with hD _
     rw [← hD]
     exact qLy ho _ (by omega)     (by
      cases e : (q4r c i s).2.2
      ·exact e
      ·exact absurd (.inl e) hbad)
   ·split at h2
    ·cases h2
    ·rename_i hbad
     injection h2 with hD _
     rw [← hD]
     exact (qLy ho _ (by omega)     (by
      cases e : (q4r c i s).2.2
      ·exact e
      ·exact absurd (.inl e) hbad)).more qSt
  ·cases h2
 obtain ⟨e,he⟩ := hd.pre
 have hcl : cnt (c.take (i.toNat + 1)) = i + 1 := by
  unfold cnt at *
  rw [List.length_take]
  omega
 have hat : ∀ j : Nat,(j : Int) ≤ i → D[j]? = c[j]? := fun j hj => by
  unfold cnt at hcl
  rw [he,List.getElem?_append_left (by omega),List.getElem?_take,if_pos (by omega)]
 have hvv : ∀ x : Int,0 ≤ x → x ≤ i → vQ xs D x = vQ xs c x := fun x hx0 hx1 => by
  have e1 : vQ xs D x = vQ xs (c.take (i.toNat + 1)) x := by rw [he]; exact q4z _ hx0 (by omega)
  have e2 := q4z (z := (0 : Rat)) (fV xs) (c := c.take (i.toNat + 1)) (e := c.drop (i.toNat + 1)) hx0 (by omega)
  rw [List.take_append_drop] at e2
  exact e1.trans e2.symm
 have hP := q9z (D := D) (P := fun j => (j : Int) ≤ i → (q1m c i.toNat)[j]? = some true)         (fun j hj x hx hle => by
  unfold qCb at hx
  cases hDj : D[j]? with
  | none => rw [hDj] at hx; cases hx
  | some t =>
   rw [hDj] at hx
   have hx : x ∈ q5z t := hx
   rcases Int.lt_or_le i j with hlt | hge
   ·have := (hnw.all j t hlt hDj).kid x hx
    exact this.2 (by have := this.1; omega)
   ·rw [hat j hge] at hDj
    exact q5v (q5a hg) hDj hx (hj hge)) (i := k.toNat) (fun hle => by have := hd.lo; omega)
 have hmade : q6a D k xs = true := by
  have hm := ho.made
  unfold q6a q7x at hm ⊢
  simp only [Bool.and_eq_true,decide_eq_true_eq] at hm ⊢
  refine ⟨⟨⟨⟨by have := hd.lo; omega,hd.hi⟩,hd.good⟩,hm.1.2⟩,q5i.2 fun j t ht hb hk => ?_⟩
  rcases Int.lt_or_le i j with hlt | hge
  ·exact absurd hk (hnw.all j t hlt ht).two
  ·rw [hat j hge] at ht
   exact q5i.1 hm.2 j t ht (hP j hb hge) hk
 rcases of_may hmade (fun j t hb ht d hdv => by
  rcases Int.lt_or_le i j with hlt | hge
  ·exact (hnw.all j t hlt ht).by_ d hdv
  ·have ht' := ht
   rw [hat j hge] at ht'
   have hx := q6b (q1j.1 hg j t ht') d (qBd hdv)
   rw [hvv d hx.1 (by omega)]
   exact ho.no j t (hP j hb hge) ht' d hdv) with h2 | h2
 ·right
  have hO := j0c h2
  have hv := (hd.sem xs 0).v
  have hf := hO.fits
  rw [hv] at hf
  refine ⟨?_,hf⟩
  rw [hO.is,hv]
 ·exact .inl h2
end Go.Proofs.YtjkcmnedolfkjaaGreat.Rd
end
section
set_option linter.unusedVariables false
set_option linter.unusedSimpArgs false
set_option maxRecDepth 100000
set_option maxHeartbeats 4000000
namespace Go.Proofs.YtjkcmnedolfkjaaGreat.Rd
open Go Go.RowKit Go.Proofs.YtjkcmnedolfkjaaGreatW.PrintWords Go.Proofs.YtjkcmnedolfkjaaGreat.PL Go.Proofs.YtjkcmnedolfkjaaGreat.Num
theorem qVr {v : Int} (h : -128 ≤ v ∧ v ≤ 128) : LR (q9o v).q := q5f (q7q h)
theorem j3k : LR q7a := ⟨q0i.nil,q0i.nil,by decide,by decide⟩
theorem in_app {c e : List Tm} {t : Tm} (h : ∀ u ∈ e,u ∈ c ∨ LR u.q) (ht : LR t.q) : ∀ u ∈ e ++ [t],u ∈ c ∨ LR u.q := fun u hu => by
 rcases List.mem_append.1 hu with hu | hu
 ·exact h u hu
 ·rw [List.mem_singleton.1 hu]
  exact .inr ht
theorem j3p {l : List Bool} {d : List Int} {c : List Tm} {bad : Bool} {t : Tm} {i : Int} (hok : q1n t i = true) : ∀ u ∈ (q5m l d c bad t).1,u ∈ c ∨ LR u.q := by
 have hn : t.k = 8 → -128 ≤ t.n ∧ t.n ≤ 128 := fun h => by
  rcases q1v hok with g | ⟨g,_⟩ | ⟨g,_⟩ | ⟨g,_⟩ | ⟨_,_,g⟩
  ·omega
  ·omega
  ·omega
  ·omega
  ·exact g
 have h0 := j3k
 have h1 : LR (q9o 1).q := qVr (by omega)
 have h2 : t.k = 8 → LR (q9o t.n).q := fun h => qVr (hn h)
 unfold q5m q3y q3h q4t qLg
 repeat' split
 all_goals
  repeat' (first | exact fun u h => .inl h | exact h0 | exact h1 | exact h2 (by assumption) | refine in_app ?_ ?_)
theorem qKh {P : R3 → Prop} (hP : ∀ q,LR q → P q) {c : List Tm} {l nd : List Bool} {m : Nat} (hg : q4j c = true) (hq : ∀ t ∈ c,P t.q) : ∀ q,∀ u ∈ (q5n c l nd m q).1,P u.q
 | 0,u,hu => hq u (List.mem_of_mem_take hu)
 | q + 1,u,hu => by
  unfold q5n at hu
  split at hu
  ·split at hu
   ·rename_i t ht
    rcases j3p (q1j.1 hg q t ht) u hu with h | h
    ·exact qKh hP hg hq q u h
    ·exact hP _ h
   ·exact qKh hP hg hq q u hu
  ·exact qKh hP hg hq q u hu
def qAz (us : List U) (u : U) : Prop := ∃ c i s x,(∀ t ∈ c,LB t.q) ∧ cnt c ≤ 1000 ∧ qTb x (cU c) ∧ us = [x,ui i,ui s] ∧ u = qRf (q6w c i s)
theorem qQu : q0w Tryz.prog 11 qAz := j1k qL fun us u ⟨c,i,s,x,h1,h2,h3,h4,h5⟩ => ⟨_,u,⟨c,i,s,h1,h2,rfl,h5⟩,by rw [h4]; exact ⟨h3,.inl rfl,.inl rfl,trivial⟩,.inl rfl⟩
theorem v1 : (q6w q3v 4 1).2 = (9,0) ∧ cnt (q6w q3v 4 1).1 = 10 := by decide +kernel
theorem v2 : (q6w q3v 4 2).2.2 = 0 ∧ cnt (q6w q3v 4 2).1 = 6 := by decide +kernel
theorem v3 : ofS (q6w q3v 4 1).1 9 [q0x 3,q0x 2] = to4 (q0x (-3 / 4)) := by decide +kernel
theorem v4 : ofS (q6w q3v 4 2).1 (q6w q3v 4 2).2.1 [q0x 3,q0x 2] = to4 (q0x 0) := by decide +kernel
theorem v5 : (q6w [] 0 0).2 = (0,1) := by decide +kernel
theorem v6 : q7x q3v 4 = true ∧ q2a q3v 1 q3v.length = [false,true,true,false,true] := by decide +kernel
theorem qKi : q4j q3v = true := by decide +kernel
theorem qNj {P : R3 → Prop} (hP : ∀ q,LR q → P q) {c : List Tm} {i s : Int} (hg : q4j c = true) (hq : ∀ t ∈ c,P t.q) : ∀ u ∈ (q6w c i s).1,P u.q := fun u hu => by
 unfold q6w q4r at hu
 split at hu
 ·split at hu
  ·split at hu
   ·cases hu
   ·exact qKh hP hg hq _ u hu
  ·split at hu
   ·cases hu
   ·rcases List.mem_append.1 hu with hu | hu
    ·exact qKh hP hg hq _ u hu
    ·rw [List.mem_singleton.1 hu]
     exact hP _ (qVr (by omega))
 ·cases hu
def yesR (us : List U) (u : U) : Prop := us = [] ∧ u = ub true
theorem qXr : q0w Tryz.prog 9 yesR := sound [(26, byR), (33, j4q), (22, ofR'), (11, qAz), (15, qIv), (24, qIr), (14, qBh)] (q0c by_ok (q0c j1l (q0c of_ok' (q0c qQu (q0c qOq (q0c qMl (q0c qJz q0v))))))) Tryz.func9 (by kernel_rfl) (by kernel_rfl) fun us u hR =>                                                                                                ⟨0, fun C E hC => by
 obtain ⟨rfl,hu⟩ := hR
 have kb := hC 26 byR (by simp)
 obtain ⟨s3,l3,d3,b3,e3⟩ := by_q kb 3 1 3 (by decide) (by decide +kernel) (by decide +kernel)
 obtain ⟨s2,l2,d2,b2,e2⟩ := by_q kb 2 1 2 (by decide) (by decide +kernel) (by decide +kernel)
 obtain ⟨s0,l0,d0,b0,e0⟩ := by_q kb 0 1 0 (by decide) (by decide +kernel) (by decide +kernel)
 obtain ⟨sh,lh,dh,bh,eh⟩ := by_q kb (-3) 4 (-3 / 4) (by decide) (by decide +kernel) (by decide +kernel)
 have kq := hC 33 j4q (by simp) _ _ ⟨rfl,rfl⟩
 have L3 : LB (s3,l3,d3) := e3 ▸ LB_q (by decide +kernel)
 have L2 : LB (s2,l2,d2) := e2 ▸ LB_q (by decide +kernel)
 have L32 : ∀ a ∈ [(s3,l3,d3),(s2,l2,d2)],LB a := by simp [L3,L2]
 have c5 : cnt q3v ≤ 1000 := by decide
 have cc : cnt [(s3,l3,d3),(s2,l2,d2)] ≤ 1000000 := by unfold cnt; simp
 have o1 := hC 11 qAz (by simp) _ _ ⟨q3v,4,1,_,qDt,c5,.inl rfl,rfl,rfl⟩
 have o2 := hC 11 qAz (by simp) _ _ ⟨q3v,4,2,_,qDt,c5,.inl rfl,rfl,rfl⟩
 have o3 := hC 11 qAz (by simp) _ _ ⟨[],0,0,q9j,by simp,by decide,.inr ⟨rfl,7,rfl⟩,rfl,rfl⟩
 have v1' := v1.1
 have v1c := v1.2
 have p1 := hC 22 ofR' (by simp) _ _ ⟨(q6w q3v 4 1).1,9,[(s3,l3,d3),(s2,l2,d2)],_,qNj (fun _ h => h.wide) qKi qDt,by rw [v1c]; omega,L32,cc,.inl rfl,rfl,rfl⟩
 have v2' := v2.1
 have v2c := v2.2
 have p2 := hC 22 ofR' (by simp) _ _ ⟨(q6w q3v 4 2).1,(q6w q3v 4 2).2.1,[(s3,l3,d3),(s2,l2,d2)],_,qNj (fun _ h => h.wide) qKi qDt,by rw [v2c]; omega,L32,cc,.inl rfl,rfl,rfl⟩
 have q1 := hC 15 qIv (by simp) _ _ ⟨q3v,4,1,qDt,by omega,rfl,rfl⟩
 have r1 := hC 24 qIr (by simp) _ _ ⟨(sh,lh,dh),(sh,lh,dh),by rw [eh]; decide +kernel,by rw [eh]; decide +kernel,rfl,rfl⟩
 have r2 := hC 24 qIr (by simp) _ _ ⟨(s0,l0,d0),(s0,l0,d0),by rw [e0]; decide +kernel,by rw [e0]; decide +kernel,rfl,rfl⟩
 have r4 := hC 14 qBh (by simp) _ _ ⟨[false,true,true,false,true],[false,true,true,false,true],by decide,rfl,rfl⟩
 rw [decide_eq_true rfl] at r1 r2 r4
 rw [show ofS (q6w q3v 4 1).1 9 [(s3,l3,d3),(s2,l2,d2)] = (sh,lh,dh,0) by rw [e3,e2,v3,← eh]; rfl] at p1
 rw [show ofS (q6w q3v 4 2).1 (q6w q3v 4 2).2.1 [(s3,l3,d3),(s2,l2,d2)] = (s0,l0,d0,0) by rw [e3,e2,v4,← e0]; rfl] at p2
 unfold qOk at q1
 rw [if_pos v6.1,v6.2] at q1
 have o1 : C 11 [cU q3v,ui 4,ui 1] (.tup [cU (q6w q3v 4 1).1,ui 9,ui 0]) := by
  have e : qRf (q6w q3v 4 1) = .tup [cU (q6w q3v 4 1).1,ui 9,ui 0] := by unfold qRf; rw [v1']; rfl
  rw [← e]; exact o1
 have o2 : C 11 [cU q3v,ui 4,ui 2] (.tup [cU (q6w q3v 4 2).1,ui (q6w q3v 4 2).2.1,ui 0]) := by
  have e : qRf (q6w q3v 4 2) = .tup [cU (q6w q3v 4 2).1,ui (q6w q3v 4 2).2.1,ui 0] := by unfold qRf; rw [v2',if_pos rfl]
  rw [← e]; exact o2
 have o3 : C 11 [q9j,ui 0,ui 0] (.tup [q9j,ui 0,ui 1]) := by
  have e : qRf (q6w [] 0 0) = .tup [q9j,ui 0,ui 1] := by unfold qRf; rw [v5]; rfl
  rw [← e]; exact o3
 have m1 := q2r (q6w q3v 4 1).1 tU
 have m2 := q2r (q6w q3v 4 2).1 tU
 rw [v1c] at m1
 rw [v2c] at m2
 unfold cU at o1 o2 p1 p2 kq q1
 obtain ⟨D1,hD1⟩ : ∃ D,(q6w q3v 4 1).1.map tU = D := ⟨_,rfl⟩
 obtain ⟨D2,hD2⟩ : ∃ D,(q6w q3v 4 2).1.map tU = D := ⟨_,rfl⟩
 obtain ⟨k2,hk2⟩ : ∃ k,(q6w q3v 4 2).2.1 = k := ⟨_,rfl⟩
 obtain ⟨cs,hcs⟩ : ∃ cs,q3v.map tU = cs := ⟨_,rfl⟩
 rw [hD1] at o1 p1 m1
 rw [hD2,hk2] at o2 p2
 rw [hD2] at m2
 rw [hcs] at o1 o2 kq q1
 have p1 : C 22 [.s 7 D1,ui 9,.s 3 [[ub s3,.l l3,.l d3],[ub s2,.l l2,.l d2]]] (.tup [.agg [ub sh,.l lh,.l dh],ui 0]) := p1
 have p2 : C 22 [.s 7 D2,ui k2,.s 3 [[ub s3,.l l3,.l d3],[ub s2,.l l2,.l d2]]] (.tup [.agg [ub s0,.l l0,.l d0],ui 0]) := p2
 have q1 : C 15 [.s 7 cs,ui 4,ui 1] (.s 1 [[ub false],[ub true],[ub true],[ub false],[ub true]]) := q1
 have r1 : C 24 [.agg [ub sh,.l lh,.l dh],.agg [ub sh,.l lh,.l dh]] (ub true) := r1
 have r2 : C 24 [.agg [ub s0,.l l0,.l d0],.agg [ub s0,.l l0,.l d0]] (ub true) := r2
 have r4 : C 14 [.s 1 [[ub false],[ub true],[ub true],[ub false],[ub true]],.s 1 [[ub false],[ub true],[ub true],[ub false],[ub true]]] (ub true) := r4
 clear kb hC v1' v1c v2' v2c L3 L2 L32 c5 cc e3 e2 e0 eh hD1 hD2 hk2 hcs
 cbv; (repeat ((first | with_reducible refine ln fun _ _ _ => ?_ | refine tt ?_ | refine cl ?_); cbv)); exact hu.symm⟩
theorem j3g {x n r : Int} (h0 : 0 ≤ x) (hn : 0 < n) (h : r = Int.tmod x n) : 0 ≤ r ∧ r < n := by
 rw [Int.tmod_eq_emod_of_nonneg h0] at h
 rw [h]
 exact ⟨Int.emod_nonneg _ (by omega),Int.emod_lt_of_pos _ hn⟩
theorem qRh (D : List Tm) (k : Int) : qRf (D,k,0) = .tup [.s 7 (D.map tU),ui k,ui 0] := by unfold qRf cU; rw [if_pos rfl]
theorem Der.LB {c D : List Tm} {i s k : Int} (h : q6w c i s = (D,k,0)) (hq : ∀ t ∈ c,LB t.q) : ∀ t ∈ D,LB t.q := fun t ht => by
 have hm := (qWp h).may
 unfold q7x at hm
 simp only [Bool.and_eq_true,decide_eq_true_eq] at hm
 have := qNj (P := fun q => Num.LB q) (s := s) (i := i) (fun _ h => h.wide) hm.2 hq
 rw [h] at this
 exact this t ht
set_option maxHeartbeats 8000000
theorem qVb {l : List Bool} {d : List Int} {c : List Tm} {t : Tm} (hn : -100 ≤ t.n) : (q5m l d c false t).2.2 = false := by
 unfold q5m q3y q3h q4t qLg
 dsimp only
 repeat' split
 all_goals first | rfl | (rw [Bool.false_or]; exact decide_eq_false (by omega))
theorem qKc {c : List Tm} {l nd : List Bool} {m : Nat} (hn : ∀ t ∈ c,-100 ≤ t.n) : ∀ q,(q5n c l nd m q).2.2 = false
 | 0 => rfl
 | q + 1 => by
  have ih := qKc (l := l) (nd := nd) (m := m) hn q
  unfold q5n
  split
  ·split
   ·rename_i t ht
    dsimp only
    rw [ih]
    exact qVb (hn t (List.mem_of_getElem? ht))
   ·exact ih
  ·exact ih
theorem qWz {c : List Tm} {i s : Int} (hm : q7x c i = true) (hs : 0 ≤ s) (hn : ∀ t ∈ c,-100 ≤ t.n) (hc : cnt c ≤ 1000) : ∃ D k,q6w c i s = (D,k,0) ∧ Der c i s D k := by
 have hb : (q4r c i s).2.2 = false := qKc hn _
 have h1 := qGu c (q2a c s c.length) (q1m c i.toNat) (i.toNat + 1) (i.toNat + 1)
 have hm' := hm
 unfold q7x at hm'
 simp only [Bool.and_eq_true,decide_eq_true_eq] at hm'
 have h2 : cnt (q4r c i s).1 ≤ 30000 := by
  unfold q4r
  omega
 have h0 : (q6w c i s).2.2 = 0 := by
  unfold q6w
  rw [if_pos ⟨hm,hs⟩]
  split
  ·rw [if_neg]
   rw [hb]
   simp
   omega
  ·rw [if_neg]
   rw [hb]
   simp
   omega
 obtain ⟨D,k,e⟩ : ∃ D k,q6w c i s = (D,k,0) := ⟨(q6w c i s).1,(q6w c i s).2.1,by rw [← h0]⟩
 exact ⟨D,k,e,qWp e⟩
theorem qVh {xs : List R3} (h : qVi xs = false) : cnt xs ≤ 100 := by
 unfold qVi at h
 simp only [Bool.or_eq_false_iff,decide_eq_false_iff_not] at h
 have := h.2
 omega
def rightR (us : List U) (u : U) : Prop := ∃ c k0 xs,(∀ t ∈ c,TmOk t) ∧ cnt c ≤ 9223372036854775807 ∧ 0 ≤ k0 ∧ k0 ≤ 255 ∧ (∀ a ∈ xs,LB a) ∧ cnt xs ≤ 9223372036854775807 ∧ us = [cU c,.v (.int .u8 k0),qsU xs] ∧ u = ub true
theorem qXh : q0w Tryz.prog 4 rightR := sound [(8,qLt),(17,qVv),(18,j1t),(9,yesR),(19,mayR),(20,j3n),(21,qBx),(13,qCr),(24,qIr),(23,j3z),(22,ofR),(11,qMh),(25,qNf)] (q0c qVa (q0c qZn (q0c j2d (q0c qXr (q0c j0g (q0c j2m (q0c qJv (q0c qMa (q0c qMl (q0c j4e (q0c of_ok (q0c qL (q0c qVs q0v))))))))))))) Tryz.func4 (by kernel_rfl) (by kernel_rfl) fun us u hR => by
 obtain ⟨c,k0,xs,hq,hn,k00,k01,hx,hxn,rfl,hu⟩ := hR
 obtain ⟨r,hr⟩ : ∃ r,(cnt c).toNat + 10 < r := ⟨_,Nat.lt_succ_self _⟩
 refine ⟨r,fun C E hC => ?_⟩
 have hqL : ∀ t ∈ c,LB t.q := fun t h => (hq t h).q
 have kl := hC 8 qLt (by simp) _ _ ⟨c,hn,rfl,rfl⟩
 have kx := hC 17 qVv (by simp) _ _ ⟨xs,hxn,rfl,rfl⟩
 have kt := hC 18 j1t (by simp) _ _ ⟨c,xs,hn,hxn,rfl,rfl⟩
 have kw := hC 9 yesR (by simp) _ _ ⟨rfl,rfl⟩
 have hOf := hC 22 ofR (by simp)
 have hMy := hC 19 mayR (by simp)
 have hO2 := hC 20 j3n (by simp)
 have hGd := hC 21 qBx (by simp)
 have hKc := hC 13 qCr (by simp)
 have hKq := hC 24 qIr (by simp)
 have hBy := hC 23 j3z (by simp)
 have hDi := hC 11 qMh (by simp)
 have hFi := hC 25 qNf (by simp)
 have hm := q2r c tU
 have hc0 := q6s c
 have hx0 := q6s xs
 have hmx := q2r xs qU
 have hcn := fun i (h0 : 0 ≤ i) (h1 : i < cnt c) => q2l (c := c) tU h0 h1
 have hl4 := fun h => qRd (c := c) h
 clear hC hq
 obtain ⟨cs,hcs⟩ : ∃ cs,cs = c.map tU := ⟨_,rfl⟩
 obtain ⟨ys,hys⟩ : ∃ ys,ys = xs.map qU := ⟨_,rfl⟩
 have ecU : cU c = .s 7 cs := by rw [hcs]; rfl
 have eqU : qsU xs = .s 3 ys := by rw [hys]; rfl
 rw [← hcs] at hm hcn
 rw [← hys] at hmx
 rw [ecU] at kl kt ⊢
 rw [eqU] at kx kt ⊢
 have hl1 := fun h => qVh (xs := xs) h
 generalize qVi xs = g2 at *
 generalize j3j c xs = g3 at *
 cases hg1 : qJl c
 case true =>
  rw [hg1] at kl
  clear hOf hMy hO2 hGd hKc hKq hBy hDi hFi hcn hl4
  cbv
  (repeat ((refine cl ?_); cbv))
  exact hu.symm
 rw [hg1] at kl
 obtain ⟨hc4,hb7⟩ := hl4 hg1
 clear hl4 hg1
 rcases Decidable.em (cnt c = 0) with hz | hz
 ·clear hOf hMy hO2 hGd hKc hKq hBy hDi hFi hcn
  cbv
  (repeat ((first | with_reducible refine ln fun _ _ _ => ?_ | refine tt ?_ | refine cl ?_); cbv))
  exact hu.symm
 rcases Decidable.em (12 < cnt c) with h60 | h60
 ·clear hOf hMy hO2 hGd hKc hKq hBy hDi hFi hcn
  cbv
  (repeat ((first | with_reducible refine ln fun _ _ _ => ?_ | refine tt ?_ | refine ff ?_ | refine cl ?_); cbv))
  exact hu.symm
 cases g2
 case true =>
  clear hOf hMy hO2 hGd hKc hKq hBy hDi hFi hcn
  cbv
  (repeat ((first | with_reducible refine ln fun _ _ _ => ?_ | refine ff ?_ | refine cl ?_); cbv))
  exact hu.symm
 have hxs := hl1 rfl
 clear hl1
 cases g3
 case false =>
  clear hOf hMy hO2 hGd hKc hKq hBy hDi hFi hcn
  cbv
  (repeat ((first | with_reducible refine ln fun _ _ _ => ?_ | refine ff ?_ | with_reducible refine bq ?_ | refine cl ?_); cbv))
  exact hu.symm
 obtain ⟨i,hi⟩ : ∃ i,i = cnt c - 1 := ⟨_,rfl⟩
 have kM := hMy _ _ ⟨c,i,xs,hqL,by omega,hx,by omega,rfl,rfl⟩
 rw [ecU,eqU] at kM
 cases hmd : q6a c i xs
 ·rw [hmd] at kM
  clear hOf hMy hO2 hGd hKc hKq hBy hDi hFi hcn
  cbv
  (repeat ((first | with_reducible refine ln fun _ _ _ => ?_ | refine ff ?_ | with_reducible refine wr fun _ _ => ?_ | with_reducible refine bq ?_ | refine cl ?_); cbv))
  rename_i v hv
  obtain rfl : i = v := by omega
  cbv
  (repeat ((first | with_reducible refine bq ?_ | refine cl ?_); cbv))
  exact hu.symm
 rw [hmd] at kM
 cbv
 (repeat ((first | with_reducible refine ln fun _ _ _ => ?_ | refine ff ?_ | with_reducible refine wr fun _ _ => ?_ | with_reducible refine bq ?_ | refine cl ?_); cbv))
 rename_i v hv
 obtain rfl : i = v := by omega
 cbv
 (repeat ((first | with_reducible refine bq ?_ | refine cl ?_); cbv))
 refine q4n [0,1,2,7] ?_
 cbv
 refine q2g (fun j a h => ∃ q : Int,0 ≤ q ∧ q ≤ cnt c ∧ j = (cnt c - q).toNat ∧ (∀ (x : Nat) t,(x : Int) < q → c[x]? = some t → -6 ≤ t.n ∧ t.n ≤ 6) ∧ a = [.s 7 cs,.v (.int .u8 k0),.s 3 ys,.lost,.lost,.lost,.lost,ui q,.lost,.lost,.lost,.lost,.lost,.lost,.lost,.lost,.lost,.lost,.lost,.lost,.lost,.lost,.lost,.lost,.lost,.lost,.lost,.lost,.lost,.lost,.lost,.lost,.lost,.lost,.lost,.lost,.lost,.lost,.lost,.lost,.lost,.lost,.lost,.lost,.lost,.lost,.lost,.lost,.lost,.lost,.lost,.lost,.lost,.lost,.lost,.lost,.lost,.lost,.lost,.lost,.lost,.lost,.lost,.lost,.lost,.lost,.lost,.lost,.lost,.lost,.lost,.lost,.lost,.lost,.lost,.lost,.lost,.lost,.lost,.lost,.lost,.lost,.lost,.lost,.lost,.lost,.lost,.lost,.lost,.lost,.lost,.lost,.lost,.lost,.lost,.lost,.lost,.lost,.lost,.lost,.lost,.lost,.lost,.lost,.lost,.lost,.lost,.lost,.lost,.lost,.lost,.lost,.lost,.lost,.lost,.lost,.lost,.lost,.lost,.lost,.lost,.lost,.lost,.lost,.lost,.lost,.lost,.lost,.lost,.lost,.lost,.lost,.lost,.lost,.lost,.lost,.lost,.lost,.lost,.lost,.lost,.lost,.lost,.lost,.lost,.lost,.lost,.lost,.lost,.lost,.lost,.lost,.lost,.lost] ∧ h = []) ?_ r (cnt c).toNat _ _ (by omega) ⟨0,by omega,by omega,by omega,fun x t hx _ => absurd hx (by omega),rfl,rfl⟩
 rintro j a h K ⟨q,q0,q1,hj,hnn,rfl,rfl⟩ hK
 rcases Decidable.em (q < cnt c) with hlt | hlt
 ·obtain ⟨t,ht,hy⟩ := hcn q q0 hlt
  have hK' := fun h3 : -6 ≤ t.n ∧ t.n ≤ 6 => hK (cnt c - (q + 1)).toNat _ _ (by omega) ⟨q + 1, by omega, by omega, rfl, fun x t' hx ht' => (by
   rcases Nat.lt_trichotomy x q.toNat with h | h | h
   ·exact hnn x t' (by omega) ht'
   ·subst h
    rw [ht] at ht'
    injection ht' with ht'
    rw [← ht']
    exact h3
   ·omega), rfl, rfl⟩
  clear hK hOf hMy hO2 hGd hKc hKq hBy hDi hFi hcn hnn
  obtain ⟨kd,ta,tb,m,s,l,d⟩ := t
  rcases Decidable.em (6 < m) with h1 | h1
  ·cbv
   (repeat ((first | with_reducible refine ln fun _ _ _ => ?_ | refine tt ?_); cbv))
   refine el ?_ (by omega) hy
   cbv
   (repeat ((first | refine tt ?_ | refine cl ?_); cbv))
   exact hu.symm
  rcases Decidable.em (m < -6) with h2 | h2
  ·cbv
   (repeat ((first | with_reducible refine ln fun _ _ _ => ?_ | refine tt ?_); cbv))
   refine el ?_ (by omega) hy
   cbv
   (repeat ((refine ff ?_); cbv))
   refine el ?_ (by omega) hy
   cbv
   (repeat ((first | refine tt ?_ | refine cl ?_); cbv))
   exact hu.symm
  ·replace hK' := hK' (show -6 ≤ m ∧ m ≤ 6 by omega)
   cbv
   (repeat ((first | with_reducible refine ln fun _ _ _ => ?_ | refine tt ?_); cbv))
   refine el ?_ (by omega) hy
   cbv
   (repeat ((refine ff ?_); cbv))
   refine el ?_ (by omega) hy
   cbv
   (repeat ((first | refine ff ?_ | with_reducible refine wr fun _ _ => ?_); cbv))
   rename_i q' hq'
   refine q4n [0,1,2,7] ?_
   rw [hq']
   exact hK'
 have hN6 : ∀ t ∈ c,-6 ≤ t.n ∧ t.n ≤ 6 := fun t ht => by
  obtain ⟨x,hx,rfl⟩ := List.mem_iff_getElem.1 ht
  exact hnn x _ (by unfold cnt at hlt; omega) (List.getElem?_eq_getElem hx)
 have hN : ∀ t ∈ c,-100 ≤ t.n := fun t ht => by have := (hN6 t ht).1; omega
 have kO := hO2 _ _ ⟨c,i,xs,hqL,by omega,hx,by omega,rfl,rfl⟩
 rw [ecU,eqU] at kO
 obtain ⟨s1,l1,d1,e1,kO',g1⟩ := q4c (ofS c i xs)
 rw [kO'] at kO
 clear kO'
 clear hK hcn hnn hO2 hMy
 cbv
 (repeat ((first | with_reducible refine ln fun _ _ _ => ?_ | refine ff ?_ | with_reducible refine wr fun _ _ => ?_); cbv))
 rename_i v hv
 obtain rfl : i = v := by omega
 cbv
 rcases Decidable.em (e1 = 0) with z1 | z1
 case inr =>
  clear hOf hGd hKc hKq hBy hDi hFi g1
  (repeat ((first | refine tt ?_ | refine cl ?_); cbv))
  exact hu.symm
 subst z1
 have hO := j0c (c := c) (i := i) (xs := xs) (by rw [← g1])
 have hmay : q7x c i = true := by
  have := hO.made
  unfold q6a at this
  simp only [Bool.and_eq_true] at this
  exact this.1.1
 (repeat ((first | refine ff ?_ | with_reducible refine wr fun _ _ => ?_ | refine cl ?_ | refine sd ?_); cbv))
 intro s hs
 rename_i x1 hx1
 have hs := j3g (by omega) (by omega) hs
 obtain ⟨D,k,eD,hD⟩ := qWz (c := c) (i := i) (s := s) hmay (by omega) hN (by omega)
 have o2 := hDi _ _ ⟨c,i,s,hqL,by omega,rfl,rfl⟩
 rw [eD,qRh,ecU] at o2
 have hDL := Der.LB eD hqL
 have la := hD.len
 have lo := hD.lo
 have hi' := hD.hi
 have kG := hGd _ _ ⟨D,hDL,by omega,rfl,rfl⟩
 rw [hD.good] at kG
 have kK := hKc _ _ ⟨c,hb7,by omega,rfl,rfl⟩
 rw [ecU] at kK
 obtain ⟨s2,l2,d2,e2,o3,g2⟩ := tR4 (hOf _ _ ⟨D,k,xs,hDL,by omega,hx,by omega,rfl,rfl⟩)
 have hlaw := qWk hO eD
 have hX : ∀ n : Int,n = cnt cs → (D.map tU).take n.toNat = cs := fun n hn => by
  obtain ⟨e,he⟩ := hD.pre
  have hl : c.take (i.toNat + 1) = c := List.take_of_length_le (by unfold cnt at hi; omega)
  rw [he,hl,List.map_append,hcs]
  refine List.take_left' ?_
  rw [List.length_map]
  unfold cnt at *
  omega
 have kB := hBy _ _ ⟨c,i,s,xs,hO,hN6,hqL,by omega,hx,by omega,rfl,rfl⟩
 obtain ⟨va,vb,vc,ev⟩ : ∃ y1 y2 y3,q0x (vQ xs c i) = (y1,y2,y3) := ⟨_,_,_,rfl⟩
 obtain ⟨wa,wb,wc,ew⟩ : ∃ y1 y2 y3,q0x (dQ xs s c i) = (y1,y2,y3) := ⟨_,_,_,rfl⟩
 rw [ev,ew,ecU,eqU] at kB
 have kB : C 23 [.s 7 cs,ui i,ui s,.s 3 ys] (.agg [ub va,.l vb,.l vc,ub wa,.l wb,.l wc,ui 0]) := kB
 have hcase : e2 = 2 ∨ (e2 = 0 ∧ s2 = wa ∧ l2 = wb ∧ d2 = wc ∧ C 24 [.agg [ub wa,.l wb,.l wc],.agg [ub wa,.l wb,.l wc]] (ub true) ∧ C 25 [.agg [ub wa,.l wb,.l wc]] (ub true)) := by
  rcases hlaw with h | ⟨h,hf⟩
  ·rw [← g2] at h
   exact .inl h
  ·rw [← g2,ew] at h
   injection h with h1 h2
   injection h2 with h2 h3
   injection h3 with h3 h4
   have kr := hKq _ _ ⟨q0x (dQ xs s c i),q0x (dQ xs s c i),by have := (q5f hf).lt; unfold cnt; omega,by have := (q5f hf).lb; unfold cnt; omega,rfl,rfl⟩
   rw [decide_eq_true rfl,ew] at kr
   have kf := hFi _ _ ⟨dQ xs s c i,hf,rfl,rfl⟩
   rw [ew] at kf
   exact .inr ⟨h4,h1,h2,h3,kr,kf⟩
 have hDm := q2r D tU
 rw [eqU] at o3
 unfold cU at o3 kG
 generalize D.map tU = ds at *
 clear hOf hGd hKc hKq hBy hDi hFi g1 g2 hlaw eD hD hDL hmay hqL hx hN hN6 hb7 ecU eqU hcs hys ev ew hO hmd
 cbv
 (repeat ((first | with_reducible refine ln fun _ _ _ => ?_ | refine ff ?_ | with_reducible refine bq ?_ | refine cl ?_ | refine sd ?_); cbv))
 rename_i m1 hm1 hm1' m2 hm2 hm2' m3 hm3 hm3' m4 hm4 hm4'
 refine sw (hX m4 (by omega)) ?_
 cbv
 rcases hcase with z2 | ⟨z2,z3,z4,z5,kR,kF⟩
 ·clear hX
  (repeat ((first | refine tt ?_ | with_reducible refine bq ?_ | refine cl ?_); cbv))
  exact hu.symm
 ·subst z2 z3 z4 z5
  clear hX
  (repeat ((first | refine tt ?_ | refine ff ?_ | with_reducible refine bq ?_ | refine cl ?_); cbv))
  exact hu.symm
end Go.Proofs.YtjkcmnedolfkjaaGreat.Rd
end
