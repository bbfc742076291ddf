import PyProof.Rows.All
import Wide.All
import OpenK.AllK
import Wide.FinOn
import HandS.ForMost
import HandS.Exc
import HandS.ExcOwn
import HandS.TryOnly
import HandS.WordsExc
import HandS.IsInst
import HandS.ExcIs
import HandS.Zip
import HandS.Walk
import HandS.TupAny
import HandS.TupMul
import HandS.Flow
import HandS.Wide
import KE.KDictKeyed
import HandS.Text
import HandS.List
import KE.DatumOrd
import KE.GoesNew
import KE.KRevSl
import HandS.HeadHook2
import HandS.HeadEnd
import HandS.Head0
import HandS.Head1
import HandS.Head2
import PySem.Challenge.RW_steadytanks_k12_walls_looked_at
set_option Elab.async false
set_option autoImplicit false
set_option linter.all false
set_option maxRecDepth 100000
set_option maxHeartbeats 0
section
/-! PF1: data, the heap's extension, slots, the core language and what it evaluates to. -/
namespace PF
noncomputable section
open PySem PySem.Spec PyProof.Rows L2
abbrev D := PyData
abbrev Fr := PySem.W.Frag

/-! ### what a value represents -/
/-- an empty dict, as data (no comparison takes it) -/
abbrev dicD : D := .dict []
mutual
inductive Rep (K : Fr) (G : Hp) : V → D → Prop
  | non : Rep K G .non .none
  | bl (b : Bool) : Rep K G (.bl b) (.bool b)
  | int (i : Int) : Rep K G (.int i) (.int i)
  | str (x : Str) : Rep K G (.str x) (.str x)
  | lst {a : Addr} {xs : List V} {ds : List D} : SqL K G a xs → xs.length ≤ sizeLine → RepA K G xs ds → Rep K G (.ref a) (.list ds)
  | tup {a : Addr} {xs : List V} {ds : List D} : SqT K G a xs → xs.length ≤ sizeLine → RepA K G xs ds → Rep K G (.ref a) (.tuple ds)
  | emp {a : Addr} : G a = some (.dK []) → Rep K G (.ref a) dicD
inductive RepA (K : Fr) (G : Hp) : List V → List D → Prop
  | nil : RepA K G [] []
  | cons {v : V} {vs : List V} {d : D} {ds : List D} : Rep K G v d → RepA K G vs ds → RepA K G (v :: vs) (d :: ds)
end
theorem sqT_same {K : Fr} {H H' : Hp} {a : Addr} {xs : List V} (e : Same H H') (h : SqT K H a xs) : SqT K H' a xs := by
  rcases h with (h | ⟨o, h⟩) | h
  · exact .inl (.inl (e _ _ h))
  · exact .inl (.inr ⟨o, e _ _ h⟩)
  · exact .inr h
mutual
theorem Rep.mono {K : Fr} {G G' : Hp} (s : Same G G') : ∀ {v : V} {d : D}, Rep K G v d → Rep K G' v d
  | _, _, .non => .non
  | _, _, .bl b => .bl b
  | _, _, .int i => .int i
  | _, _, .str x => .str x
  | _, _, .lst h l a => .lst (s.seq h) l (RepA.mono s a)
  | _, _, .tup h l a => .tup (sqT_same s h) l (RepA.mono s a)
  | _, _, .emp h => .emp (s _ _ h)
theorem RepA.mono {K : Fr} {G G' : Hp} (s : Same G G') : ∀ {vs : List V} {ds : List D}, RepA K G vs ds → RepA K G' vs ds
  | _, _, .nil => .nil
  | _, _, .cons h t => .cons (Rep.mono s h) (RepA.mono s t)
end
mutual
theorem Rep.dp {K : Fr} {G : Hp} : ∀ {v : V} {d : D}, d.canLay0 = true → Rep K G v d → Dp K G v d
  | _, _, _, .non => .non
  | _, _, _, .bl b => .bl b
  | _, _, _, .int i => .int i
  | _, _, _, .str x => .str x
  | _, _, c, .lst h l a => .lst h (RepA.dp c a)
  | _, _, c, .tup h l a => .tup h (RepA.dp c a)
  | _, _, c, .emp h => by exact absurd c (by decide +kernel)
theorem RepA.dp {K : Fr} {G : Hp} : ∀ {vs : List V} {ds : List D}, PyData.canLayAll0 ds = true → RepA K G vs ds → DpAll K G vs ds
  | _, _, _, .nil => .nil
  | _, _, c, .cons h t => .cons (Rep.dp (Bool.and_eq_true_iff.mp c).1 h) (RepA.dp (Bool.and_eq_true_iff.mp c).2 t)
end
section
variable {K : Fr} {G : Hp}
theorem RepA.length : ∀ {vs : List V} {ds : List D}, RepA K G vs ds → vs.length = ds.length
  | _, _, .nil => rfl
  | _, _, .cons _ t => by simp only [List.length_cons, RepA.length t]
theorem RepA.get : ∀ {vs : List V} {ds : List D} {i : Nat} {v : V}, RepA K G vs ds → vs[i]? = some v → ∃ d, ds[i]? = some d ∧ Rep K G v d
  | _, _, _, _, .nil, e => by simp at e
  | _, _, 0, _, .cons r _, e => by simp at e; subst e; exact ⟨_, rfl, r⟩
  | _, _, i + 1, v, .cons _ t, e => by
    obtain ⟨d, h1, h2⟩ := RepA.get (i := i) (v := v) t (by simpa using e)
    exact ⟨d, by simpa using h1, h2⟩
theorem RepA.get' : ∀ {vs : List V} {ds : List D} {i : Nat} {d : D}, RepA K G vs ds → ds[i]? = some d → ∃ v, vs[i]? = some v ∧ Rep K G v d
  | _, _, _, _, .nil, e => by simp at e
  | _, _, 0, _, .cons r _, e => by simp at e; subst e; exact ⟨_, rfl, r⟩
  | _, _, i + 1, d, .cons _ t, e => by
    obtain ⟨v, h1, h2⟩ := RepA.get' (i := i) (d := d) t (by simpa using e)
    exact ⟨v, by simpa using h1, h2⟩
theorem RepA.append : ∀ {xs ys : List V} {ds es : List D}, RepA K G xs ds → RepA K G ys es → RepA K G (xs ++ ys) (ds ++ es)
  | _, _, _, _, .nil, h => h
  | _, _, _, _, .cons r t, h => .cons r (RepA.append t h)
theorem RepA.take : ∀ {xs : List V} {ds : List D} (n : Nat), RepA K G xs ds → RepA K G (xs.take n) (ds.take n)
  | _, _, 0, _ => .nil
  | _, _, _ + 1, .nil => .nil
  | _, _, n + 1, .cons r t => .cons r (RepA.take n t)
theorem RepA.drop : ∀ {xs : List V} {ds : List D} (n : Nat), RepA K G xs ds → RepA K G (xs.drop n) (ds.drop n)
  | _, _, 0, r => r
  | _, _, _ + 1, .nil => .nil
  | _, _, n + 1, .cons _ t => RepA.drop n t
theorem RepA.set : ∀ {xs : List V} {ds : List D} {v : V} {d : D} (j : Nat), RepA K G xs ds → Rep K G v d → RepA K G (xs.set j v) (ds.set j d)
  | _, _, _, _, _, .nil, _ => .nil
  | _, _, _, _, 0, .cons _ t, h => .cons h t
  | _, _, _, _, j + 1, .cons r t, h => .cons r (RepA.set j t h)
theorem RepA.flat : ∀ {xs : List V} {ds : List D} (k : Nat), RepA K G xs ds → RepA K G (List.replicate k xs).flatten (List.replicate k ds).flatten
  | _, _, 0, _ => .nil
  | _, _, k + 1, h => by
    rw [List.replicate_succ, List.replicate_succ, List.flatten_cons, List.flatten_cons]
    exact h.append (RepA.flat k h)
theorem RepA.inj1 {v : V} {ds : List D} (h : RepA K G [v] ds) : ∃ d, ds = [d] ∧ Rep K G v d := by
  cases h with
  | cons r t => cases t; exact ⟨_, rfl, r⟩
theorem RepA.ints : ∀ {xs : List V} {ns : List Int}, RepA K G xs (ns.map PyData.int) → xs = ns.map V.int
  | _, [], h => by cases h; rfl
  | _, n :: r, h => by
    cases h with
    | cons h1 h2 => cases h1; rw [RepA.ints h2]; rfl
theorem RepA.of_ints : ∀ (ns : List Int), RepA K G (ns.map V.int) (ns.map PyData.int)
  | [] => .nil
  | n :: r => .cons (.int n) (RepA.of_ints r)
end

/-! ### how heaps grow -/
/-- H the tracked heap, G its frozen part: what stood stands, and what was not frozen before is not frozen now -/
structure Ext (G H G' H' : Hp) : Prop where
  hh : Same H H'
  gg : Same G G'
  gh : Same G' H'
  nw : ∀ a, G a = none → H a ≠ none → G' a = none
theorem Ext.refl {G H : Hp} (s : Same G H) : Ext G H G H := ⟨Same.refl _, Same.refl _, s, fun _ h _ => h⟩
theorem Ext.trans {G H G1 H1 G2 H2 : Hp} (a : Ext G H G1 H1) (b : Ext G1 H1 G2 H2) : Ext G H G2 H2 :=
  ⟨a.hh.trans b.hh, a.gg.trans b.gg, b.gh, fun c h1 h2 => b.nw c (a.nw c h1 h2) fun e => by
    cases q : H c with
    | none => exact h2 q
    | some o => rw [a.hh c o q] at e; cases e⟩
theorem same_upd {H : Hp} {p : Addr} {o : HO} (h : H p = none) : Same H (upd H p o) := fun b x e => by
  rw [upd_ne (ne_of_none e h)]
  exact e
theorem same_upd2 {G H : Hp} {p : Addr} {o : HO} (s : Same G H) : Same (upd G p o) (upd H p o) := fun b x e => by
  by_cases hb : b = p
  · subst hb; rw [upd_same] at e ⊢; exact e
  · rw [upd_ne hb] at e ⊢; exact s b x e
theorem same_upd3 {G H : Hp} {p : Addr} {o : HO} (s : Same G H) (h : H p = some o) : Same (upd G p o) H := fun b x e => by
  by_cases hb : b = p
  · subst hb; rw [upd_same] at e; cases e; exact h
  · rw [upd_ne hb] at e; exact s b x e
/-- a new frozen object -/
theorem Ext.new {G H : Hp} {p : Addr} {o : HO} (s : Same G H) (h : H p = none) : Ext G H (upd G p o) (upd H p o) := by
  have hg : G p = none := s.free h
  refine ⟨same_upd h, same_upd hg, same_upd2 s, fun a h1 h2 => ?_⟩
  have ne : a ≠ p := fun e => by subst e; exact h2 h
  rw [upd_ne ne]; exact h1
/-- a new object that is not frozen -/
theorem Ext.own {G H : Hp} {p : Addr} {o : HO} (s : Same G H) (h : H p = none) : Ext G H G (upd H p o) :=
  ⟨same_upd h, Same.refl _, s.trans (same_upd h), fun _ h1 _ => h1⟩
/-- what was new since is frozen -/
theorem Ext.frz {G H G' H' : Hp} {p : Addr} {o : HO} (e : Ext G H G' H') (h : H p = none) (hg : G' p = none) (h' : H' p = some o) : Ext G H (upd G' p o) H' :=
  ⟨e.hh, e.gg.trans (same_upd hg), same_upd3 e.gh h', fun a h1 h2 => by
    have ne : a ≠ p := fun e => by subst e; exact h2 h
    rw [upd_ne ne]; exact e.nw a h1 h2⟩

/-! ### results -/
/-- data, or a list that nobody else knows -/
inductive R where
  | d (x : D)
  | o (xs : List D)
/-- a value, an exception of the class no. c, or nothing said -/
inductive M (α : Type) where
  | ok (a : α)
  | ex (c : Nat)
  | no
namespace M
@[inline] def bind {α β : Type} (m : M α) (f : α → M β) : M β := match m with
  | .ok a => f a
  | .ex c => .ex c
  | .no => .no
def map {α β : Type} (f : α → β) (m : M α) : M β := m.bind fun a => .ok (f a)
@[simp] theorem bind_ok {α β : Type} (a : α) (f : α → M β) : (M.ok a).bind f = f a := rfl
@[simp] theorem bind_ex {α β : Type} (c : Nat) (f : α → M β) : (M.ex c : M α).bind f = .ex c := rfl
@[simp] theorem bind_no {α β : Type} (f : α → M β) : (M.no : M α).bind f = .no := rfl
theorem bind_assoc {α β γ : Type} (m : M α) (f : α → M β) (g : β → M γ) : (m.bind f).bind g = m.bind fun a => (f a).bind g := by cases m <;> rfl
def opt {α : Type} : Option α → M α
  | some a => .ok a
  | none => .no
@[simp] theorem opt_some {α : Type} (a : α) : opt (some a) = .ok a := rfl
@[simp] theorem opt_none {α : Type} : opt (none : Option α) = .no := rfl
/-- no exception comes out of it -/
def noex {α : Type} : M α → M α
  | .ex _ => .no
  | m => m
@[simp] theorem noex_ok {α : Type} (a : α) : noex (M.ok a) = .ok a := rfl
@[simp] theorem noex_no {α : Type} : noex (M.no : M α) = .no := rfl
@[simp] theorem noex_ex {α : Type} (c : Nat) : noex (M.ex c : M α) = .no := rfl
/-- guarded -/
def chk {α : Type} (c : Prop) (m : M α) : M α := @ite _ c (Classical.propDecidable c) m .no
theorem chk_pos {α : Type} {c : Prop} {m : M α} (h : c) : chk c m = m := if_pos h
theorem chk_ok {α : Type} {c : Prop} {m : M α} {a : α} (h : chk c m = .ok a) : c ∧ m = .ok a := by
  unfold chk at h; split at h
  · exact ⟨by assumption, h⟩
  · cases h
end M
def R.toD : R → D
  | .d x => x
  | .o xs => .list xs
/-- data alone -/
def M.toD (m : M R) : M D := m.bind fun r => .ok r.toD
@[simp] theorem M.toD_ok (r : R) : (M.ok r).toD = .ok r.toD := rfl
@[simp] theorem M.toD_ex (c : Nat) : (M.ex c : M R).toD = .ex c := rfl
@[simp] theorem M.toD_no : (M.no : M R).toD = .no := rfl
@[simp] theorem R.toD_d (x : D) : (R.d x).toD = x := rfl
@[simp] theorem R.toD_o (x : List D) : (R.o x).toD = .list x := rfl

/-! ### slots -/
inductive Sl where
  | no
  | val (d : D)
  | own (ds : List D)
  | exc (c : Nat)
  | dct (kvs : List (NestedKey × D))
abbrev Env := List Sl
def getV (ρ : PF.Env) (i : Nat) : M R := match ρ.getD i .no with
  | .val d => .ok (.d d)
  | _ => .no
def getP (ρ : PF.Env) (i : Nat) : M R := match ρ.getD i .no with
  | .val d => .ok (.d d)
  | .own ds => .ok (.o ds)
  | _ => .no

/-! ### keys of dicts: tuples -/
mutual
def keyD : D → Option NestedKey
  | .none => some .none
  | .bool b => some (.num (if b = true then 1 else 0))
  | .int i => some (.num i)
  | .str x => some (.text x)
  | .tuple xs => (keysD xs).map .tup
  | _ => none
def keysD : List D → Option (List NestedKey)
  | [] => some []
  | d :: ds => (keyD d).bind fun k => (keysD ds).map fun ks => k :: ks
end
def keyT (d : D) : Option NestedKey := match d with
  | .tuple xs => (keyD (.tuple xs)).bind fun k => if k.depth ≤ 8 then some k else none
  | _ => none
def lookD (kvs : List (NestedKey × D)) (k : NestedKey) : Option D := (kvs.find? fun kv => decide (kv.1 = k)).map (·.2)
/-- in its place, or at the end -/
def putD (kvs : List (NestedKey × D)) (k : NestedKey) (v : D) : List (NestedKey × D) :=
  if (kvs.any fun kv => decide (kv.1 = k)) = true then kvs.map (fun kv => if kv.1 = k then (kv.1, v) else kv) else kvs ++ [(k, v)]

/-! ### operations on data -/
def CDivM (_ j : Int) : Prop := j ≠ 0 ∧ j.natAbs.log2 < 9000
def CMulA (i j : Int) : Prop := CMul i j ∨ CMulW i j
instance (i j : Int) : Decidable (CMul i j) := by unfold CMul; exact inferInstance
instance (i j : Int) : Decidable (CMulW i j) := by unfold CMulW; exact inferInstance
instance (i j : Int) : Decidable (CMulA i j) := by unfold CMulA; exact inferInstance
instance (i j : Int) : Decidable (CDivW i j) := by unfold CDivW; exact inferInstance
instance (i j : Int) : Decidable (CPow i j) := by unfold CPow; exact inferInstance
def binI (op : Operator) (i j : Int) : M R := match op with
  | .Add => .ok (.d (.int (i + j)))
  | .Sub => .ok (.d (.int (i - j)))
  | .Mult => M.chk (CMulA i j) (.ok (.d (.int (i * j))))
  | .FloorDiv => M.chk (CDivM i j) (.ok (.d (.int (i.fdiv j))))
  | .Mod => M.chk (0 < j) (.ok (.d (.int (i % j))))
  | .Pow => M.chk (CPow i j) (.ok (.d (.int (i ^ j.toNat))))
  | .LShift => M.chk (CPow i j) (.ok (.d (.int (i * 2 ^ j.toNat))))
  | .RShift => M.chk (0 ≤ j) (.ok (.d (.int (i / 2 ^ j.toNat))))
  | .BitAnd => .ok (.d (.int (Builtin.bitAnd i j)))
  | _ => .no
def binD (op : Operator) (a b : R) : M R := match a.toD, b.toD with
  | .int i, .int j => binI op i j
  | .tuple xs, .tuple ys => match op with
    | .Add => M.chk (xs.length + ys.length ≤ sizeLine) (.ok (.d (.tuple (xs ++ ys))))
    | _ => .no
  | .list xs, .list ys => match op with
    | .Add => M.chk (xs.length + ys.length ≤ sizeLine) (.ok (.o (xs ++ ys)))
    | _ => .no
  | .str x, .str y => match op with
    | .Add => M.chk (x.length + y.length ≤ sizeLine) (.ok (.d (.str (x ++ y))))
    | _ => .no
  | .tuple xs, .int k => match op with
    | .Mult => M.chk (-1000 ≤ k ∧ k ≤ 1000 ∧ xs.length ≤ 1000) (.ok (.d (.tuple (List.replicate k.toNat xs).flatten)))
    | _ => .no
  | .list xs, .int k => match op with
    | .Mult => match a with
      | .o ys => M.chk (-1000 ≤ k ∧ k ≤ 1000 ∧ ys.length ≤ 1000) (.ok (.o (List.replicate k.toNat ys).flatten))
      | _ => .no
    | _ => .no
  | _, _ => .no
def negD : R → M R
  | .d (.int i) => .ok (.d (.int (-i)))
  | _ => .no
def flatD : D → Bool
  | .none => true
  | .bool _ => true
  | .int _ => true
  | .str _ => true
  | _ => false
/-- == of flat data -/
def inD (x : D) (xs : List D) : Bool := xs.any fun y => PyData.eqv y x
def boolR (b : Bool) : M R := .ok (.d (.bool b))
/-- one sign in a text -/
def signD (neg : Bool) (a : R) (z : Str) : M R := match a.toD with
  | .str x => match x.cps.toList with
    | [c] => boolR (if neg then !decide (c ∈ z.cps.toList) else decide (c ∈ z.cps.toList))
    | _ => .no
  | _ => .no
def cmpD (op : CmpOp) (a b : R) : M R := match op with
  | .Eq => M.chk (SeqAt.shaped a.toD = true ∧ SeqAt.shaped b.toD = true) (boolR (PyData.eqv a.toD b.toD))
  | .NotEq => M.chk (SeqAt.shaped a.toD = true ∧ SeqAt.shaped b.toD = true) (boolR (!PyData.eqv a.toD b.toD))
  | .Lt => match a.toD, b.toD with
    | .int i, .int j => boolR (decide (i < j))
    | _, _ => .no
  | .LtE => match a.toD, b.toD with
    | .int i, .int j => boolR (decide (i ≤ j))
    | _, _ => .no
  | .Gt => match a.toD, b.toD with
    | .int i, .int j => boolR (decide (j < i))
    | _, _ => .no
  | .GtE => match a.toD, b.toD with
    | .int i, .int j => boolR (decide (j ≤ i))
    | _, _ => .no
  | .In => match b.toD with
    | .list ys => M.chk (flatD a.toD = true ∧ ys.all flatD = true) (boolR (inD a.toD ys))
    | .tuple ys => M.chk (flatD a.toD = true ∧ ys.all flatD = true) (boolR (inD a.toD ys))
    | .str z => signD false a z
    | _ => .no
  | .NotIn => match b.toD with
    | .list ys => M.chk (flatD a.toD = true ∧ ys.all flatD = true) (boolR (!inD a.toD ys))
    | .tuple ys => M.chk (flatD a.toD = true ∧ ys.all flatD = true) (boolR (!inD a.toD ys))
    | .str z => signD true a z
    | _ => .no
  | .Is => match b.toD with
    | .none => boolR (match a.toD with | .none => true | _ => false)
    | _ => .no
  | .IsNot => match b.toD with
    | .none => boolR (match a.toD with | .none => false | _ => true)
    | _ => .no
def truthy : R → M Bool
  | .d .none => .ok false
  | .d (.bool b) => .ok b
  | .d (.int i) => .ok (i != 0)
  | .d (.str x) => M.chk (x.length ≤ sizeLine) (.ok ((x.length : Int) != 0))
  | .d (.list xs) => .ok (!xs.isEmpty)
  | .d (.tuple xs) => .ok (!xs.isEmpty)
  | .o xs => .ok (!xs.isEmpty)
  | _ => .no
def ixD (a i : R) : M R := match a.toD, i.toD with
  | .list xs, .int k => (M.opt (atI xs k)).bind fun d => .ok (.d d)
  | .tuple xs, .int k => (M.opt (atI xs k)).bind fun d => .ok (.d d)
  | .str z, .int k => M.chk (z.length ≤ sizeLine) ((M.opt (atI z.cps.toList k)).bind fun c => .ok (.d (.str ⟨#[c]⟩)))
  | _, _ => .no
def partD : D → M (Option Int)
  | .int i => .ok (some i)
  | _ => .no
def cutD (xs : List D) (lo hi : Option Int) : List D := (xs.drop (HT.sIx xs.length 0 lo)).take (HT.sIx xs.length xs.length hi - HT.sIx xs.length 0 lo)
def slD (a : R) (lo hi : Option Int) : M R := match a.toD with
  | .list xs => .ok (.o (cutD xs lo hi))
  | .tuple xs => .ok (.d (.tuple (cutD xs lo hi)))
  | .str z => M.chk (z.length ≤ sizeLine) (.ok (.d (.str (cutS z lo hi))))
  | _ => .no
/-- xs[::-1] -/
def revD (a : R) : M R := match a.toD with
  | .list xs => .ok (.o xs.reverse)
  | _ => .no
inductive Blt where
  | len | abs | max2 | min2 | max1 | min1 | sum | int | str | tuple | list
def intsD : List D → Option (List Int)
  | [] => some []
  | .int i :: r => (intsD r).map (i :: ·)
  | _ :: _ => none
def maxI : List Int → M R
  | [] => .no
  | x :: r => .ok (.d (.int (r.foldl max x)))
def minI : List Int → M R
  | [] => .no
  | x :: r => .ok (.d (.int (r.foldl min x)))
def bltD (b : Blt) (rs : List R) : M R := match b, rs with
  | .len, [r] => match r.toD with
    | .list xs => .ok (.d (.int xs.length))
    | .tuple xs => .ok (.d (.int xs.length))
    | .str x => M.chk (x.length ≤ sizeLine) (.ok (.d (.int x.length)))
    | _ => .no
  | .abs, [r] => match r.toD with
    | .int i => .ok (.d (.int (if i < 0 then -i else i)))
    | _ => .no
  | .max2, [r, s] => match r.toD, s.toD with
    | .int i, .int j => .ok (.d (.int (if j > i then j else i)))
    | _, _ => .no
  | .min2, [r, s] => match r.toD, s.toD with
    | .int i, .int j => .ok (.d (.int (if j < i then j else i)))
    | _, _ => .no
  | .max1, [r] => match r.toD with
    | .list xs => (M.opt (intsD xs)).bind maxI
    | .tuple xs => (M.opt (intsD xs)).bind maxI
    | _ => .no
  | .min1, [r] => match r.toD with
    | .list xs => (M.opt (intsD xs)).bind minI
    | .tuple xs => (M.opt (intsD xs)).bind minI
    | _ => .no
  | .sum, [r] => match r.toD with
    | .list xs => (M.opt (intsD xs)).bind fun ns => .ok (.d (.int ns.sum))
    | _ => .no
  | .int, [r] => match r.toD with
    | .int i => .ok (.d (.int i))
    | .bool b => .ok (.d (.int (if b then 1 else 0)))
    | .str x => M.chk (x.length ≤ 640) ((M.opt (PySem.intText? x)).bind fun n => .ok (.d (.int n)))
    | _ => .no
  | .str, [r] => match r.toD with
    | .int i => M.chk (i.natAbs.log2 < 1920) (.ok (.d (.str (toString i))))
    | _ => .no
  | .tuple, [r] => match r.toD with
    | .list xs => .ok (.d (.tuple xs))
    | .tuple xs => .ok (.d (.tuple xs))
    | _ => .no
  | .list, [r] => match r.toD with
    | .list xs => .ok (.o xs)
    | .tuple xs => .ok (.o xs)
    | _ => .no
  | _, _ => .no
/-- methods -/
inductive Mth where
  | ends | split | join | index
def strsD : List D → Option (List Str)
  | [] => some []
  | .str i :: r => (strsD r).map (i :: ·)
  | _ :: _ => none
/-- the receiver's kind -/
def mTy (m : Mth) (r : R) : M Unit := match m with
  | .index => match r.toD with
    | .list _ => .ok ()
    | _ => .no
  | _ => match r.toD with
    | .str _ => .ok ()
    | _ => .no
def mthD (m : Mth) (r : R) (ds : List D) : M R := match m, ds with
  | .ends, [.str b] => match r.toD with
    | .str a => boolR (Txt.endswith a b)
    | _ => .no
  | .split, [.str b] => match r.toD with
    | .str a => M.chk ((b.length == 0) = false ∧ a.length + 2 ≤ sizeLine ∧ (Txt.split a b).length ≤ sizeLine) (.ok (.o ((Txt.split a b).map PyData.str)))
    | _ => .no
  | .join, [.list xs] => match r.toD with
    | .str a => (M.opt (strsD xs)).bind fun ys => M.chk ((ys.map (·.length)).sum + ys.length * a.length ≤ 16777216) (.ok (.d (.str (Txt.join a ys))))
    | _ => .no
  | .index, [d] => match r.toD with
    | .list xs => M.chk (flatD d = true ∧ xs.all flatD = true) ((M.opt (xs.findIdx? fun z => PyData.eqv z d)).bind fun j => .ok (.d (.int (j : Nat))))
    | _ => .no
  | _, _ => .no
/-- isinstance with a built-in class -/
inductive Ty where
  | int | bool | str | tuple | list
def Ty.name : Ty → String
  | .int => "int" | .bool => "bool" | .str => "str" | .tuple => "tuple" | .list => "list"
def isTy (t : Ty) : D → M Bool
  | .none => .ok false
  | .bool _ => .ok (match t with | .int => true | .bool => true | _ => false)
  | .int _ => .ok (match t with | .int => true | _ => false)
  | .str _ => .ok (match t with | .str => true | _ => false)
  | .list _ => .ok (match t with | .list => true | _ => false)
  | .tuple _ => .ok (match t with | .tuple => true | _ => false)
  | .dict _ => .ok false

/-! ### the core language -/
inductive Tg where
  | name (i : Nat)
  | tup (ts : List Tg)
/-- what is walked: a list or tuple, range(a), range(a, b), enumerate(a), zip(a, b) -/
inductive IK where
  | seq | rng1 | rng2 | enum | zip
inductive CE where
  | var (i : Nat)
  | con (d : D)
  | bin (op : Operator) (a b : CE)
  | neg (a : CE)
  | cmp (op : CmpOp) (a b : CE)
  | chain (op op' : CmpOp) (a b c : CE)
  | chain3 (op op' op2 : CmpOp) (a b c d : CE)
  | meth (m : Mth) (a : CE) (es : List CE)
  | and (a b : CE)
  | or (a b : CE)
  | not (a : CE)
  | tup (es : List CE)
  | lst (es : List CE)
  | ix (a i : CE)
  | sl (a lo hi : CE)
  | call (f : Nat) (es : List CE)
  | blt (b : Blt) (es : List CE)
  | isI (a : CE) (t : Ty)
  | isE (i : Nat) (cs : List Nat)
  | comp (elt : CE) (tg : Tg) (k : IK) (a b : CE) (ifs : List CE) (own : List Nat)
  | dhas (neg : Bool) (i : Nat) (e : CE)
  | dget (i : Nat) (e : CE)
  | dlen (i : Nat)
  | rev (a : CE)
/-- a part of a slice: the constant None stands for one left out -/
def partC (c : CE) (m : M D) : M (Option Int) := match c with
  | .con .none => .ok none
  | _ => m.bind partD
/-- an own list's name as it stands, else the value -/
def pk (c : CE) (ρ : PF.Env) (m : M R) : M R := match c with
  | .var i => getP ρ i
  | _ => m
mutual
def setT : Tg → D → PF.Env → Option PF.Env
  | .name i, d, ρ => some (ρ.set i (.val d))
  | .tup ts, .tuple ds, ρ => setTs ts ds ρ
  | .tup _, _, _ => none
def setTs : List Tg → List D → PF.Env → Option PF.Env
  | [], [], ρ => some ρ
  | t :: ts, d :: ds, ρ => (setT t d ρ).bind fun ρ' => setTs ts ds ρ'
  | _, _, _ => none
end
def wipeE (ρ : PF.Env) : List Nat → PF.Env
  | [] => ρ
  | v :: vs => (wipeE ρ vs).set v .no
def seqD : R → M (List D)
  | .d (.list xs) => .ok xs
  | .d (.tuple xs) => .ok xs
  | _ => .no
def rngD (i j : Int) : M (List D) := M.chk (-(2 ^ 62) ≤ i ∧ i < 2 ^ 62 ∧ -(2 ^ 62) ≤ j ∧ j < 2 ^ 62 ∧ (j - i).toNat ≤ sizeLine) (.ok ((List.range (j - i).toNat).map fun (n : Nat) => PyData.int (i + (n : Int))))
def enumD (xs : List D) : List D := xs.zipIdx.map fun p => .tuple [.int p.2, p.1]
/-- a text's signs -/
def charsD : R → M (List D)
  | .d (.str z) => M.chk (z.length ≤ sizeLine) (.ok (z.cps.toList.map fun c => PyData.str ⟨#[c]⟩))
  | _ => .no
def itD (k : IK) (a b : R) : M (List D) := match k with
  | .seq => match seqD a with
    | .ok xs => .ok xs
    | .ex c => .ex c
    | .no => charsD a
  | .rng1 => match a with
    | .d (.int j) => rngD 0 j
    | _ => .no
  | .rng2 => match a, b with
    | .d (.int i), .d (.int j) => rngD i j
    | _, _ => .no
  | .enum => (seqD a).bind fun xs => .ok (enumD xs)
  | .zip => (seqD a).bind fun xs => (seqD b).bind fun ys => .ok ((xs.zip ys).map fun p => .tuple [p.1, p.2])
/-- a comprehension's turns -/
def compD (tg : Tg) (t : PF.Env → M Bool) (e : PF.Env → M D) (ρ : PF.Env) : List D → M (List D)
  | [] => .ok []
  | d :: ds => (M.opt (setT tg d ρ)).bind fun ρ' => (M.noex (t ρ')).bind fun b =>
    if b = true then (M.noex (e ρ')).bind fun y => (compD tg t e ρ ds).bind fun r => .ok (y :: r) else compD tg t e ρ ds
/-- the dict at a slot -/
def dctOf (ρ : PF.Env) (i : Nat) : M (List (NestedKey × D)) := match ρ.getD i .no with
  | .dct kvs => .ok kvs
  | _ => .no
mutual
def ev (F : Nat → List D → M R) : CE → PF.Env → M R
  | .var i, ρ => getV ρ i
  | .con d, _ => .ok (.d d)
  | .bin op a b, ρ => (pk a ρ (ev F a ρ)).bind fun x => (pk b ρ (ev F b ρ)).bind fun y => binD op x y
  | .neg a, ρ => (ev F a ρ).bind negD
  | .cmp op a b, ρ => (pk a ρ (ev F a ρ)).bind fun x => (pk b ρ (ev F b ρ)).bind fun y => cmpD op x y
  | .chain op op' a b c, ρ => (pk a ρ (ev F a ρ)).bind fun x => (pk b ρ (ev F b ρ)).bind fun y => (cmpD op x y).bind fun z => (truthy z).bind fun t =>
      if t = true then (pk c ρ (ev F c ρ)).bind fun w => cmpD op' y w else boolR false
  | .chain3 op op' op2 a b c d, ρ => (pk a ρ (ev F a ρ)).bind fun x => (pk b ρ (ev F b ρ)).bind fun y => (cmpD op x y).bind fun z => (truthy z).bind fun t =>
      if t = true then (pk c ρ (ev F c ρ)).bind fun w => (cmpD op' y w).bind fun z2 => (truthy z2).bind fun t2 => if t2 = true then (pk d ρ (ev F d ρ)).bind fun v => cmpD op2 w v else boolR false else boolR false
  | .meth m a es, ρ => (pk a ρ (ev F a ρ)).bind fun x => (mTy m x).bind fun _ => (evs F es ρ).bind fun ds => mthD m x ds
  | .and a b, ρ => (ev F a ρ).toD.bind fun x => (truthy (.d x)).bind fun t => if t = true then ev F b ρ else .ok (.d x)
  | .or a b, ρ => (ev F a ρ).toD.bind fun x => (truthy (.d x)).bind fun t => if t = true then .ok (.d x) else ev F b ρ
  | .not a, ρ => (pk a ρ (ev F a ρ)).bind fun x => (truthy x).bind fun t => boolR (!t)
  | .tup es, ρ => (evs F es ρ).bind fun ds => .ok (.d (.tuple ds))
  | .lst es, ρ => (evs F es ρ).bind fun ds => .ok (.o ds)
  | .ix a i, ρ => (pk a ρ (ev F a ρ)).bind fun x => (ev F i ρ).bind fun y => ixD x y
  | .sl a lo hi, ρ => (pk a ρ (ev F a ρ)).bind fun x => (partC lo (ev F lo ρ).toD).bind fun l => (partC hi (ev F hi ρ).toD).bind fun h => slD x l h
  | .call f es, ρ => (evs F es ρ).bind fun ds => F f ds
  | .blt b es, ρ => (evp F es ρ).bind fun rs => bltD b rs
  | .isI a t, ρ => (pk a ρ (ev F a ρ)).bind fun x => (isTy t x.toD).bind fun b => boolR b
  | .isE i cs, ρ => match ρ.getD i .no with
    | .exc e => boolR (cs.contains e)
    | _ => .no
  | .comp elt tg k a b ifs own, ρ => (ev F a ρ).bind fun x => (ev F b ρ).bind fun y => (itD k (.d x.toD) (.d y.toD)).bind fun ds =>
      (compD tg (evc F ifs) (fun ρ' => (ev F elt ρ').toD) (wipeE ρ own) ds).bind fun r => .ok (.o r)
  | .dhas neg i e, ρ => (ev F e ρ).toD.bind fun d => (dctOf ρ i).bind fun kvs => (M.opt (keyT d)).bind fun k => boolR ((lookD kvs k).isSome != neg)
  | .dget i e, ρ => (dctOf ρ i).bind fun kvs => (ev F e ρ).toD.bind fun d => (M.opt (keyT d)).bind fun k => (M.opt (lookD kvs k)).bind fun v => .ok (.d v)
  | .dlen i, ρ => (dctOf ρ i).bind fun kvs => .ok (.d (.int kvs.length))
  | .rev a, ρ => (pk a ρ (ev F a ρ)).bind revD
/-- arguments, as data -/
def evs (F : Nat → List D → M R) : List CE → PF.Env → M (List D)
  | [], _ => .ok []
  | e :: es, ρ => (ev F e ρ).toD.bind fun d => (evs F es ρ).bind fun ds => .ok (d :: ds)
/-- arguments of what keeps none of them -/
def evp (F : Nat → List D → M R) : List CE → PF.Env → M (List R)
  | [], _ => .ok []
  | e :: es, ρ => (pk e ρ (ev F e ρ)).bind fun d => (evp F es ρ).bind fun ds => .ok (d :: ds)
/-- a comprehension's tests (none or one) -/
def evc (F : Nat → List D → M R) : List CE → PF.Env → M Bool
  | [], _ => .ok true
  | e :: _, ρ => (pk e ρ (ev F e ρ)).bind fun r => truthy r
end
end
end PF

end

section
/-! PF2: operations on values keep what they say on data. -/
namespace PF
open PySem PySem.Spec PyProof.Rows L2

/-- what a value is that is looked at: data, or a list that stands -/
def Pk (K : Fr) (G H : Hp) (v : V) : R → Prop
  | .d x => Rep K G v x
  | .o ds => ∃ a xs, v = .ref a ∧ H a = some (.lst xs) ∧ xs.length ≤ sizeLine ∧ RepA K G xs ds
/-- a result: data, or a list that is new since Hb and not frozen -/
def VOk (K : Fr) (G H Hb : Hp) (v : V) : R → Prop
  | .d x => Rep K G v x
  | .o ds => ∃ a xs, v = .ref a ∧ H a = some (.lst xs) ∧ xs.length ≤ sizeLine ∧ RepA K G xs ds ∧ Hb a = none ∧ G a = none
section
variable {K : Fr} {G H G' H' Hb : Hp} {v : V} {r : R}
theorem VOk.pk (h : VOk K G H Hb v r) : Pk K G H v r := by
  cases r with
  | d x => exact h
  | o ds => obtain ⟨a, xs, e, h1, h2, h3, _, _⟩ := h; exact ⟨a, xs, e, h1, h2, h3⟩
theorem VOk.back {Hb' : Hp} (h : VOk K G H Hb v r) (s : Same Hb' Hb) : VOk K G H Hb' v r := by
  cases r with
  | d x => exact h
  | o ds => obtain ⟨a, xs, e, h1, h2, h3, h4, h5⟩ := h; exact ⟨a, xs, e, h1, h2, h3, s.free h4, h5⟩
theorem Pk.mono (h : Pk K G H v r) (e : Ext G H G' H') : Pk K G' H' v r := by
  cases r with
  | d x => exact Rep.mono e.gg h
  | o ds => obtain ⟨a, xs, q, h1, h2, h3⟩ := h; exact ⟨a, xs, q, e.hh _ _ h1, h2, h3.mono e.gg⟩
theorem Pk.dp (c : SeqAt.shaped r.toD = true) (s : Same G H) (h : Pk K G H v r) : Dp K H v r.toD := by
  have c := SeqAt.canLay_of_shaped c
  cases r with
  | d x => exact (Rep.mono s h).dp c
  | o ds => obtain ⟨a, xs, q, h1, h2, h3⟩ := h; subst q; exact .lst (.inl (.inl h1)) ((h3.mono s).dp c)
theorem Pk.int {i : Int} (h : Pk K G H v r) (e : r.toD = .int i) : v = .int i := by
  cases r with
  | d x => simp only [R.toD] at e; subst e; cases (show Rep K G v _ from h); rfl
  | o ds => cases e
theorem Pk.bool {b : Bool} (h : Pk K G H v r) (e : r.toD = .bool b) : v = .bl b := by
  cases r with
  | d x => simp only [R.toD] at e; subst e; cases (show Rep K G v _ from h); rfl
  | o ds => cases e
theorem Pk.str {b : Str} (h : Pk K G H v r) (e : r.toD = .str b) : v = .str b := by
  cases r with
  | d x => simp only [R.toD] at e; subst e; cases (show Rep K G v _ from h); rfl
  | o ds => cases e
theorem Pk.non (h : Pk K G H v r) (e : r.toD = .none) : v = .non := by
  cases r with
  | d x => simp only [R.toD] at e; subst e; cases (show Rep K G v _ from h); rfl
  | o ds => cases e
theorem Pk.tup {ds : List D} (s : Same G H) (h : Pk K G H v r) (e : r.toD = .tuple ds) : ∃ a xs, v = .ref a ∧ SqT K G a xs ∧ SqT K H a xs ∧ xs.length ≤ sizeLine ∧ RepA K G xs ds := by
  cases r with
  | d x => simp only [R.toD] at e; subst e; cases (show Rep K G v _ from h) with | tup h1 h2 h3 => exact ⟨_, _, rfl, h1, sqT_same s h1, h2, h3⟩
  | o ds => cases e
theorem Pk.lst {ds : List D} (s : Same G H) (h : Pk K G H v r) (e : r.toD = .list ds) : ∃ a xs, v = .ref a ∧ SqL K H a xs ∧ xs.length ≤ sizeLine ∧ RepA K G xs ds := by
  cases r with
  | d x => simp only [R.toD] at e; subst e; cases (show Rep K G v _ from h) with | lst h1 h2 h3 => exact ⟨_, _, rfl, s.seq h1, h2, h3⟩
  | o ds => obtain ⟨a, xs, q, h1, h2, h3⟩ := h; cases e; exact ⟨_, _, q, .inl (.inl h1), h2, h3⟩
theorem Rep.pk {x : D} (h : Rep K G v x) : Pk K G H v (.d x) := h
end
/-- what an operation on values asks, told on data -/
def r2 (K : Fr) (g : R → R → M R) : R2 := fun x y H Q => ∃ G r1 r2 r, Same G H ∧ Pk K G H x r1 ∧ Pk K G H y r2 ∧ g r1 r2 = .ok r ∧ ∀ v G' H', Ext G H G' H' → VOk K G' H' H v r → Q v H'
section
variable {X : Cx}
/-- list + list -/
def rCatR (K : Fr) : R2 := fun x y H Q => ∃ l b xs zs, x = .ref l ∧ y = .ref b ∧ SqL K H l xs ∧ SqL K H b zs ∧ xs.length + zs.length ≤ sizeLine ∧ ∀ p, H p = none → Q (.ref p) (upd H p (.lst (xs ++ zs)))
theorem op_catR : OpR X (binaryOp .Add) (rCatR X.K) := by
  intro pins s σ H x y v u Q I rx ry h
  obtain ⟨l, b, xs, zs, rfl, rfl, hH, hB, hz, q⟩ := h
  cases rx
  cases ry
  obtain ⟨its, r, pl, _⟩ := I.list hH
  obtain ⟨its2, r2, pl2, _⟩ := I.list hB
  have hl := r.length
  have hl2 := r2.length
  obtain ⟨⟨cls, dd, data, sl⟩, ho, hc, n, hd⟩ := pl.isList
  obtain ⟨⟨cls2, dd2, data2, sl2⟩, ho2, hc2, n2, hd2⟩ := pl2.isList
  simp only at hc hd hc2 hd2
  subst hc hd hc2 hd2
  refine concat_meets ⟨_, ho, rfl⟩ ⟨_, ho2, rfl⟩ noFill_list_add seq_list_add PySem.F.slot_list_add PySem.F.entry_list_add (PySem.F.args_list_add_2 _ _) (list_addW l b its.toArray its2.toArray n n2 dd dd2 sl sl2 (by simp; omega)) ⟨ho, ho2, ?_⟩
  have ea : its.toArray ++ its2.toArray = (its ++ its2).toArray := by simp
  rw [ea]
  exact ⟨.ref _, _, I.lnew (t' := s.toks) (r.append r2) (by rw [List.length_append]; omega), rfl, q _ I.fresh⟩
theorem OpR.of {f : Value → Value → Sem Value} {r r' : R2} (h : OpR X f r) (i : ∀ x y H Q, r' x y H Q → r x y H Q) : OpR X f r' :=
  fun pins s σ H x y v u Q I rx ry hr => h pins s σ H x y v u Q I rx ry (i _ _ _ _ hr)
/-- by the ways: each way has its rule -/
theorem OpR.by {f : Value → Value → Sem Value} {r' : R2} (i : ∀ x y H Q, r' x y H Q → ∃ r, OpR X f r ∧ r x y H Q) : OpR X f r' :=
  fun pins s σ H x y v u Q I rx ry hr => by
    obtain ⟨r, h, q⟩ := i _ _ _ _ hr
    exact h pins s σ H x y v u Q I rx ry q
theorem fin_d {K : Fr} {G H : Hp} {Q : VK} {d : D} {v : V} (s : Same G H) (q : ∀ v G' H', Ext G H G' H' → VOk K G' H' H v (.d d) → Q v H') (h : Rep K G v d) : Q v H := q v G H (Ext.refl s) h
theorem fin_tup {K : Fr} {G H : Hp} {Q : VK} {ds : List D} {xs : List V} (s : Same G H) (q : ∀ v G' H', Ext G H G' H' → VOk K G' H' H v (.d (.tuple ds)) → Q v H') (h : RepA K G xs ds) (l : xs.length ≤ sizeLine) (p : Addr) (hp : H p = none) :
    Q (.ref p) (upd H p (.tup xs)) :=
  q _ _ _ (Ext.new s hp) (.tup (.inl (.inl upd_same)) l (h.mono (same_upd (s.free hp))))
theorem fin_own {K : Fr} {G H : Hp} {Q : VK} {ds : List D} {xs : List V} (s : Same G H) (q : ∀ v G' H', Ext G H G' H' → VOk K G' H' H v (.o ds) → Q v H') (h : RepA K G xs ds) (l : xs.length ≤ sizeLine) (p : Addr) (hp : H p = none) :
    Q (.ref p) (upd H p (.lst xs)) :=
  q _ _ _ (Ext.own s hp) ⟨p, xs, rfl, upd_same, l, h, hp, s.free hp⟩
/-- // by a divisor other than 0 of less than 9000 bits -/
theorem op_fdivM : OpR X (binaryOp .FloorDiv) (rI CDivM fun i j => .int (i.fdiv j)) := opI fun _ _ _ _ _ _ _ hc q => floordiv_int hc.1 q (.inl (PyProof.noPylong_of_log2 hc.2))
theorem opI_of {op : Operator} {i j : Int} {r : R} (e : binI op i j = .ok r) : ∃ k, r = .d (.int k) ∧ ∀ H (Q : VK), Q (.int k) H → ∃ r', OpR X (binaryOp op) r' ∧ r' (.int i) (.int j) H Q := by
  cases op with
  | Add => cases e; exact ⟨_, rfl, fun H Q q => ⟨_, op_add, _, _, rfl, rfl, q⟩⟩
  | Sub => cases e; exact ⟨_, rfl, fun H Q q => ⟨_, op_sub, _, _, rfl, rfl, q⟩⟩
  | Mult =>
    obtain ⟨c, e⟩ := M.chk_ok e
    cases e
    refine ⟨_, rfl, fun H Q q => ?_⟩
    rcases c with c | c
    · exact ⟨_, op_mul, _, _, rfl, rfl, c, q⟩
    · exact ⟨_, op_mulW, _, _, rfl, rfl, c, q⟩
  | FloorDiv =>
    obtain ⟨c, e⟩ := M.chk_ok e
    cases e
    exact ⟨_, rfl, fun H Q q => ⟨_, op_fdivM, _, _, rfl, rfl, c, q⟩⟩
  | Mod =>
    obtain ⟨c, e⟩ := M.chk_ok e
    cases e
    exact ⟨_, rfl, fun H Q q => ⟨_, op_mod, _, _, rfl, rfl, c, q⟩⟩
  | Pow =>
    obtain ⟨c, e⟩ := M.chk_ok e
    cases e
    exact ⟨_, rfl, fun H Q q => ⟨_, op_pow, _, _, rfl, rfl, c, q⟩⟩
  | LShift =>
    obtain ⟨c, e⟩ := M.chk_ok e
    cases e
    exact ⟨_, rfl, fun H Q q => ⟨_, op_shl, _, _, rfl, rfl, c, q⟩⟩
  | RShift =>
    obtain ⟨c, e⟩ := M.chk_ok e
    cases e
    exact ⟨_, rfl, fun H Q q => ⟨_, op_shr, _, _, rfl, rfl, c, q⟩⟩
  | BitAnd => cases e; exact ⟨_, rfl, fun H Q q => ⟨_, op_and, _, _, rfl, rfl, q⟩⟩
  | _ => cases e
theorem tuple_mul_same (l : Addr) (items : Array Value) (n : Nat) (dd : Option Addr) (sl : Array (Option Value)) (x : Int) (u : Tok) (c0 : (decide (x < -(2 ^ 63)) || decide (x ≥ 2 ^ 63)) = false) (c1 : (items.isEmpty || x == 1) = true) :
    Meets (Builtin.«tuple.__mul__» ⟨[.ref l, .int x u], []⟩) (fun _ R s => s.heap.get? l = some { cls := .type "tuple", dict := dd, data := .seq items n, slots := sl } ∧ R (.ok (.ret (Value.ref l))) s) :=
  .of_wp fun prog w A R s h => by
    obtain ⟨hp, g, d, tk, os⟩ := s
    obtain ⟨hl, h⟩ := h
    have f1 := AutoSeq1.idx_int
    wp_walk using wpAny_loadPart' hl
    repeat (first
      | (refine wpAny_ite_false (decide_eq_false (by rw [c0]; exact Bool.false_ne_true)) ?_; wp_walk using wpAny_loadPart' hl)
      | (refine wpAny_ite_true (decide_eq_true (by rw [c1])) ?_; wp_walk using wpAny_loadPart' hl))
    exact ⟨_, rfl, h⟩
theorem tuple_mul_none (l : Addr) (items : Array Value) (n : Nat) (dd : Option Addr) (sl : Array (Option Value)) (x : Int) (u : Tok) (c0 : (decide (x < -(2 ^ 63)) || decide (x ≥ 2 ^ 63)) = false) (c1 : (items.isEmpty || x == 1) = false) (c2 : (decide (x ≤ 0) || items.isEmpty) = true) :
    Meets (Builtin.«tuple.__mul__» ⟨[.ref l, .int x u], []⟩) (fun _ R s => s.heap.get? l = some { cls := .type "tuple", dict := dd, data := .seq items n, slots := sl } ∧
      R (.ok (.ret (Value.ref s.heap.objs.size))) { s with heap := s.heap.push { cls := Value.type "tuple", data := Data.seq #[] }, toks := s.toks }) :=
  .of_wp fun prog w A R s h => by
    obtain ⟨hp, g, d, tk, os⟩ := s
    obtain ⟨hl, h⟩ := h
    have f1 := AutoSeq1.idx_int
    wp_walk using wpAny_loadPart' hl
    repeat (first
      | (refine wpAny_ite_false (decide_eq_false (by rw [c0]; exact Bool.false_ne_true)) ?_; wp_walk using wpAny_loadPart' hl)
      | (refine wpAny_ite_false (decide_eq_false (by rw [c1]; exact Bool.false_ne_true)) ?_; wp_walk using wpAny_loadPart' hl)
      | (refine wpAny_ite_true (decide_eq_true (by rw [c2])) ?_; wp_walk using wpAny_loadPart' hl))
    exact ⟨_, rfl, h⟩
/-- tuple * int, any number of times -/
def rRepA (K : Fr) : R2 := fun x y H Q => ∃ l k xs, x = .ref l ∧ y = .int k ∧ SqT K H l xs ∧ -1000 ≤ k ∧ k ≤ 1000 ∧ xs.length ≤ 1000 ∧ (xs = [] ∨ k = 1 → Q (.ref l) H) ∧ (xs ≠ [] → k ≠ 1 → ∀ p, H p = none → Q (.ref p) (upd H p (.tup (List.replicate k.toNat xs).flatten)))
theorem op_repA {X : Cx} : OpR X (binaryOp .Mult) (rRepA X.K) := by
  intro pins s σ H x y v u Q I rx ry h
  obtain ⟨l, k, xs, rfl, rfl, hT, h0, h1, hz, q1, q2⟩ := h
  by_cases big : xs ≠ [] ∧ 2 ≤ k
  · exact op_repT pins s σ H _ _ v u Q I rx ry ⟨l, k, xs, rfl, rfl, hT, big.1, big.2, h1, hz, q2 big.1 (by omega)⟩
  cases rx
  obtain ⟨t, rfl⟩ := ry
  obtain ⟨its, r, ⟨⟨cls, dd, data, sl⟩, ho, hc, n, hd⟩, hs⟩ := I.tuple hT
  simp only at hc hd
  subst hc hd
  have hle : its.length = xs.length := r.length.symm
  have c0 : (decide (k < -(2 ^ 63)) || decide (k ≥ 2 ^ 63)) = false := by
    rw [decide_eq_false (by omega), decide_eq_false (by omega)] <;> rfl
  have emp : its.toArray.isEmpty = true ↔ xs = [] := by
    constructor
    · intro e
      cases its with
      | nil => exact List.eq_nil_of_length_eq_zero (by simpa using hle.symm)
      | cons a b => simp at e
    · intro e
      subst e
      have : its = [] := List.eq_nil_of_length_eq_zero (by simpa using hle)
      rw [this]
      rfl
  by_cases c : xs = [] ∨ k = 1
  · have c1 : (its.toArray.isEmpty || k == 1) = true := by
      rw [Bool.or_eq_true]
      rcases c with c | c
      · exact .inl (emp.mpr c)
      · exact .inr (beq_iff_eq.mpr c)
    refine wpAny_binaryOp_repeat_ref (T := "tuple") (U := "int") (by decide) ⟨_, ho, rfl⟩ (fun s' => typeIs_int s' k t) noFill_tuple_mul F.fills_int_mul F.slot_int_rmul repeat_tuple F.slot_int_index.lookup
      (call_meets F.slot_int_rmul (typeIs_int s k t) F.entry_int_rmul (F.args_int_rmul_2 _ _) (int_rmul_tuple k t l its.toArray n dd sl)
        ⟨ho, rfl, ⟨_, ho, rfl⟩, call_meets F.slot_tuple_mul ⟨_, ho, rfl⟩ F.entry_tuple_mul (F.args_tuple_mul_2 _ _) (tuple_mul_same l its.toArray n dd sl k t c0 c1) ⟨ho, ?_⟩⟩)
    exact ⟨.ref l, H, I, rfl, q1 c⟩
  · have ne : xs ≠ [] := fun e => c (.inl e)
    have k0 : k ≤ 0 := by
      rcases (show k < 2 ∨ 2 ≤ k by omega) with z | z
      · have : k ≠ 1 := fun e => c (.inr e)
        omega
      · exact absurd ⟨ne, z⟩ big
    have e0 : its.toArray.isEmpty = false := by
      cases z : its.toArray.isEmpty with
      | false => rfl
      | true => exact absurd (emp.mp z) ne
    have c1 : (its.toArray.isEmpty || k == 1) = false := by
      rw [e0, Bool.false_or]
      exact beq_eq_false_iff_ne.mpr (by omega)
    have c2 : (decide (k ≤ 0) || its.toArray.isEmpty) = true := by
      rw [decide_eq_true k0]
      rfl
    have kz : k.toNat = 0 := by omega
    refine wpAny_binaryOp_repeat_ref (T := "tuple") (U := "int") (by decide) ⟨_, ho, rfl⟩ (fun s' => typeIs_int s' k t) noFill_tuple_mul F.fills_int_mul F.slot_int_rmul repeat_tuple F.slot_int_index.lookup
      (call_meets F.slot_int_rmul (typeIs_int s k t) F.entry_int_rmul (F.args_int_rmul_2 _ _) (int_rmul_tuple k t l its.toArray n dd sl)
        ⟨ho, rfl, ⟨_, ho, rfl⟩, call_meets F.slot_tuple_mul ⟨_, ho, rfl⟩ F.entry_tuple_mul (F.args_tuple_mul_2 _ _) (tuple_mul_none l its.toArray n dd sl k t c0 c1 c2) ⟨ho, ?_⟩⟩)
    have q := q2 ne (by omega)
    rw [kz] at q
    refine ⟨.ref s.heap.objs.size, _, I.laid (t' := s.toks) (o := .tup []) (fun b ob q => Heap.get?_push_of_some _ q) (Nat.le_refl _) ?_, rfl, q _ (I.hok.fresh (Nat.le_refl _))⟩
    exact ⟨Nat.zero_le _, [], .nil, IsTup.new _ _⟩
theorem op_bin {op : Operator} : OpR X (binaryOp op) (r2 X.K (binD op)) := by
  refine OpR.by fun x y H Q h => ?_
  obtain ⟨G, r1, r2, r, s, p1, p2, e, q⟩ := h
  unfold binD at e
  split at e
  · rename_i i j e1 e2
    have z1 := p1.int e1
    have z2 := p2.int e2
    subst z1 z2
    obtain ⟨k, rfl, o⟩ := opI_of (X := X) e
    exact o H Q (fin_d s q (.int k))
  · rename_i xs ys e1 e2
    obtain ⟨a, vs, rfl, hga, ha, la, ra⟩ := p1.tup s e1
    obtain ⟨b, ws, rfl, hgb, hb, lb, rb⟩ := p2.tup s e2
    cases op with
    | Add =>
      obtain ⟨c, e⟩ := M.chk_ok e
      cases e
      have l1 := ra.length
      have l2 := rb.length
      refine ⟨_, op_catA, a, b, vs, ws, rfl, rfl, ha, hb, by omega, fun z => ?_, fun _ z => ?_, fun _ _ p hp => fin_tup s q (ra.append rb) (by rw [List.length_append]; omega) p hp⟩
      · subst z; cases ra; exact fin_d s q (.tup hgb lb rb)
      · subst z; cases rb; exact fin_d s q (by rw [List.append_nil]; exact .tup hga la ra)
    | _ => cases e
  · rename_i xs ys e1 e2
    obtain ⟨a, vs, rfl, ha, la, ra⟩ := p1.lst s e1
    obtain ⟨b, ws, rfl, hb, lb, rb⟩ := p2.lst s e2
    cases op with
    | Add =>
      obtain ⟨c, e⟩ := M.chk_ok e
      cases e
      have l1 := ra.length
      have l2 := rb.length
      exact ⟨_, op_catR, a, b, vs, ws, rfl, rfl, ha, hb, by omega, fun p hp => fin_own s q (ra.append rb) (by rw [List.length_append]; omega) p hp⟩
    | _ => cases e
  · rename_i a b e1 e2
    have z1 := p1.str e1
    have z2 := p2.str e2
    subst z1 z2
    cases op with
    | Add =>
      obtain ⟨c, e⟩ := M.chk_ok e
      cases e
      exact ⟨_, op_add_str, _, _, rfl, rfl, c, fin_d s q (.str _)⟩
    | _ => cases e
  · rename_i xs k e1 e2
    obtain ⟨a, vs, rfl, hga, ha, la, ra⟩ := p1.tup s e1
    have z2 := p2.int e2
    subst z2
    cases op with
    | Mult =>
      obtain ⟨⟨c1, c2, c3⟩, e⟩ := M.chk_ok e
      cases e
      have l1 := ra.length
      refine ⟨_, op_repA, a, k, vs, rfl, rfl, ha, c1, c2, by omega, fun z => ?_, fun _ _ p hp => fin_tup s q (ra.flat k.toNat) ?_ p hp⟩
      · have ex : (List.replicate k.toNat xs).flatten = xs := by
          rcases z with z | z
          · have : xs = [] := by subst z; cases ra; rfl
            rw [this]
            simp
          · rw [z]
            simp
        rw [ex] at q
        exact fin_d s q (.tup hga la ra)
      · rw [List.length_flatten, List.map_replicate, List.sum_replicate_nat, sizeLine_eq]
        have h1 : k.toNat ≤ 1000 := by omega
        have h2 : vs.length ≤ 1000 := by omega
        exact Nat.le_trans (Nat.mul_le_mul h1 h2) (by decide)
    | _ => cases e
  · rename_i xs k e1 e2
    cases op with
    | Mult =>
      cases r1 with
      | d x => cases e
      | o ds =>
        cases e1
        obtain ⟨⟨c1, c2, c3⟩, e⟩ := M.chk_ok e
        cases e
        obtain ⟨a, vs, rfl, h1, h2, h3⟩ := p1
        have z2 := p2.int e2
        subst z2
        have l1 := h3.length
        have sz : vs.length * k.toNat ≤ sizeLine := by
          rw [sizeLine_eq]
          have h1 : k.toNat ≤ 1000 := by omega
          have h2 : vs.length ≤ 1000 := by omega
          exact Nat.le_trans (Nat.mul_le_mul h2 h1) (by decide)
        refine ⟨_, op_rep, a, k, vs, rfl, rfl, h1, by omega, by omega, sz, fun p hp => fin_own s q (h3.flat k.toNat) ?_ p hp⟩
        rw [List.length_flatten, List.map_replicate, List.sum_replicate_nat, Nat.mul_comm]
        exact sz
    | _ => cases e
  · cases e
/-- a one-place operation -/
def r1 (K : Fr) (g : R → M R) : V → Hp → VK → Prop := fun x H Q => ∃ G r1 r, Same G H ∧ Pk K G H x r1 ∧ g r1 = .ok r ∧ ∀ v G' H', Ext G H G' H' → VOk K G' H' H v r → Q v H'
theorem un_negD : UnR X (unaryOp .USub) (r1 X.K negD) := by
  intro pins s σ H x v Q I rx h
  obtain ⟨G, r1, r, sm, p1, e, q⟩ := h
  unfold negD at e
  split at e
  · rename_i i
    cases e
    have z := p1.int (i := i) rfl
    subst z
    exact un_neg pins s σ H _ v Q I rx ⟨i, rfl, fin_d sm q (.int _)⟩
  · cases e
theorem isNone_iff {K : Fr} {G H : Hp} {v : V} {r : R} (h : Pk K G H v r) : decide (v = .non) = (match r.toD with | .none => true | _ => false) := by
  cases r with
  | d x =>
    cases (show Rep K G v x from h) <;> simp [R.toD]
  | o ds => obtain ⟨a, xs, e, _⟩ := h; subst e; simp [R.toD]
theorem flat_of {K : Fr} {G : Hp} {v : V} {d : D} (h : Rep K G v d) : flatV v = flatD d := by
  cases h <;> rfl
theorem eqV_of {K : Fr} {G : Hp} {v w : V} {d e : D} (h : Rep K G v d) (h' : Rep K G w e) (f : flatD d = true) (f' : flatD e = true) : eqV v w = PyData.eqv d e := by
  cases h <;> first
    | (cases f; done)
    | (cases h' <;> first
        | (cases f'; done)
        | (simp only [eqV, PyData.eqv]; done))
theorem all_flat {K : Fr} {G : Hp} : ∀ {vs : List V} {ds : List D}, RepA K G vs ds → vs.all flatV = ds.all flatD
  | _, _, .nil => rfl
  | _, _, .cons h t => by rw [List.all_cons, List.all_cons, flat_of h, all_flat t]
theorem in_of {K : Fr} {G : Hp} {x : V} {d : D} (hx : Rep K G x d) (fx : flatD d = true) : ∀ {vs : List V} {ds : List D}, RepA K G vs ds → ds.all flatD = true → inV x vs = inD d ds
  | _, _, .nil, _ => rfl
  | _, _, .cons h t, f => by
    rw [List.all_cons, Bool.and_eq_true] at f
    have ih := in_of hx fx t f.2
    unfold inV inD at ih ⊢
    rw [List.any_cons, List.any_cons, ih, eqV_of h hx f.1 fx]
theorem flat_rep {K : Fr} {G H : Hp} {v : V} {r : R} (h : Pk K G H v r) (f : flatD r.toD = true) : Rep K G v r.toD := by
  cases r with
  | d x => exact h
  | o ds => cases f
theorem op_cmp {op : CmpOp} (hu : X.A.units + 64 < cLine) : OpR X (compareOp op) (r2 X.K (cmpD op)) := by
  refine OpR.by fun x y H Q h => ?_
  obtain ⟨G, r1, r2, r, s, p1, p2, e, q⟩ := h
  have intsH : ∀ {g : Int → Int → Bool} {op' : CmpOp}, OpR X (compareOp op') (rI0 fun i j => .bl (g i j)) → (match r1.toD, r2.toD with
      | .int i, .int j => boolR (g i j)
      | _, _ => .no) = M.ok r → ∃ r, OpR X (compareOp op') r ∧ r x y H Q := fun {g op'} ho e => by
    split at e
    · rename_i i j e1 e2
      have z1 := p1.int e1
      have z2 := p2.int e2
      subst z1 z2
      cases e
      exact ⟨_, ho, i, j, rfl, rfl, fin_d s q (.bl _)⟩
    · cases e
  have insH : ∀ (neg : Bool) {op' : CmpOp}, OpR X (compareOp op') (rIn X.K neg) → OpR X (compareOp op') (fun x y H Q => ∃ (c : Nat) (z : Str), x = .str ⟨#[c]⟩ ∧ y = .str z ∧ Q (.bl (if neg then !decide (c ∈ z.cps.toList) else decide (c ∈ z.cps.toList))) H) → (match r2.toD with
      | .list ys => M.chk (flatD r1.toD = true ∧ ys.all flatD = true) (boolR (if neg then !inD r1.toD ys else inD r1.toD ys))
      | .tuple ys => M.chk (flatD r1.toD = true ∧ ys.all flatD = true) (boolR (if neg then !inD r1.toD ys else inD r1.toD ys))
      | .str z => signD neg r1 z
      | _ => .no) = M.ok r → ∃ r, OpR X (compareOp op') r ∧ r x y H Q := fun neg {op'} ho hs e => by
    split at e
    · rename_i ys e2
      obtain ⟨⟨c1, c2⟩, e⟩ := M.chk_ok e
      cases e
      obtain ⟨b, ws, rfl, hb, lb, rb⟩ := p2.lst s e2
      have hx := flat_rep p1 c1
      refine ⟨_, ho, b, ws, rfl, .inl hb, by rw [flat_of hx]; exact c1, by rw [all_flat rb]; exact c2, ?_⟩
      rw [in_of hx c1 rb c2]
      exact fin_d s q (.bl _)
    · rename_i ys e2
      obtain ⟨⟨c1, c2⟩, e⟩ := M.chk_ok e
      cases e
      obtain ⟨b, ws, rfl, _, hb, lb, rb⟩ := p2.tup s e2
      have hx := flat_rep p1 c1
      refine ⟨_, ho, b, ws, rfl, .inr hb, by rw [flat_of hx]; exact c1, by rw [all_flat rb]; exact c2, ?_⟩
      rw [in_of hx c1 rb c2]
      exact fin_d s q (.bl _)
    · rename_i z e2
      have z2 := p2.str e2
      subst z2
      unfold signD at e
      split at e
      · rename_i x' e1
        split at e
        · rename_i ch ec
          have z1 := p1.str e1
          subst z1
          have ex : x' = ⟨#[ch]⟩ := by
            cases x' with
            | mk cps =>
              congr 1
              exact Array.toList_inj.mp ec
          subst ex
          cases e
          exact ⟨_, hs, ch, z, rfl, rfl, fin_d s q (.bl _)⟩
        · cases e
      · cases e
    · cases e
  cases op with
  | Eq =>
    obtain ⟨⟨c1, c2⟩, e⟩ := M.chk_ok e
    cases e
    exact ⟨_, op_eqD hu, _, _, p1.dp c1 s, p2.dp c2 s, c1, c2, fin_d s q (.bl _)⟩
  | NotEq =>
    obtain ⟨⟨c1, c2⟩, e⟩ := M.chk_ok e
    cases e
    exact ⟨_, op_neD hu, _, _, p1.dp c1 s, p2.dp c2 s, c1, c2, fin_d s q (.bl _)⟩
  | Lt => exact intsH op_lt e
  | LtE => exact intsH op_le e
  | Gt => exact intsH op_gt e
  | GtE => exact intsH op_ge e
  | In => exact insH false op_in_seq op_in_sign e
  | NotIn => exact insH true op_notIn_seq op_notIn_sign e
  | Is =>
    simp only [cmpD] at e
    split at e
    · rename_i e2
      have z2 := p2.non e2
      subst z2
      cases e
      refine ⟨_, op_isN, rfl, ?_⟩
      rw [isNone_iff p1]
      exact fin_d s q (.bl _)
    · cases e
  | IsNot =>
    simp only [cmpD] at e
    split at e
    · rename_i e2
      have z2 := p2.non e2
      subst z2
      cases e
      refine ⟨_, op_notN, rfl, ?_⟩
      rw [isNone_iff p1]
      refine fin_d s q ?_
      have : (!(match r1.toD with | .none => true | _ => false)) = (match r1.toD with | .none => false | _ => true) := by split <;> rfl
      rw [this]
      exact .bl _
    · cases e
theorem tru_of {K : Fr} {G H : Hp} {v : V} {r : R} {b : Bool} (s : Same G H) (h : Pk K G H v r) (e : truthy r = .ok b) : TruV K v H b := by
  cases r with
  | o ds =>
    cases e
    obtain ⟨a, xs, q, h1, h2, h3⟩ := h
    subst q
    refine .inl ⟨xs, .inl (.inl h1), ?_⟩
    cases h3 <;> rfl
  | d x =>
    cases (show Rep K G v x from h) with
    | non => cases e; rfl
    | bl c => cases e; rfl
    | int i => cases e; rfl
    | str y =>
      obtain ⟨c, e⟩ := M.chk_ok (show M.chk (y.length ≤ sizeLine) (.ok ((y.length : Int) != 0)) = .ok b from e)
      cases e
      exact ⟨c, rfl⟩
    | lst h1 h2 h3 =>
      cases e
      refine .inl ⟨_, s.seq h1, ?_⟩
      cases h3 <;> rfl
    | tup h1 h2 h3 =>
      cases e
      refine .inr (.inl ⟨_, sqT_same s h1, ?_⟩)
      cases h3 <;> rfl
    | emp h1 => cases e
/-! ### subscripts, slices -/
theorem atI_rep {K : Fr} {G : Hp} {vs : List V} {ds : List D} {k : Int} {d : D} (h : RepA K G vs ds) (e : atI ds k = some d) : ∃ v, atI vs k = some v ∧ Rep K G v d := by
  unfold atI at e ⊢
  rw [h.length]
  cases q : ixN ds.length k with
  | none => rw [q] at e; cases e
  | some j =>
    rw [q] at e
    obtain ⟨v, h1, h2⟩ := h.get' (i := j) e
    exact ⟨v, h1, h2⟩
theorem IxR.by {r' : R2} (i : ∀ x y H Q, r' x y H Q → ∃ r, IxR X r ∧ r x y H Q) : IxR X r' :=
  fun value slice pins s σ H x y v u Q I rx ry hr hs => by
    obtain ⟨r, h, q⟩ := i _ _ _ _ hr
    exact h value slice pins s σ H x y v u Q I rx ry q hs
theorem ix_D : IxR X (r2 X.K ixD) := by
  refine IxR.by fun x y H Q h => ?_
  obtain ⟨G, r1, r2, r, s, p1, p2, e, q⟩ := h
  unfold ixD at e
  split at e
  · rename_i xs k e1 e2
    have z2 := p2.int e2
    subst z2
    obtain ⟨a, vs, rfl, ha, la, ra⟩ := p1.lst s e1
    cases g : atI xs k with
    | none => rw [g] at e; cases e
    | some d =>
      rw [g] at e
      cases e
      obtain ⟨v, h1, h2⟩ := atI_rep ra g
      exact ⟨_, ix_list, a, vs, k, v, rfl, rfl, ha, h1, fin_d s q h2⟩
  · rename_i xs k e1 e2
    have z2 := p2.int e2
    subst z2
    obtain ⟨a, vs, rfl, _, ha, la, ra⟩ := p1.tup s e1
    cases g : atI xs k with
    | none => rw [g] at e; cases e
    | some d =>
      rw [g] at e
      cases e
      obtain ⟨v, h1, h2⟩ := atI_rep ra g
      exact ⟨_, ix_tup, a, vs, k, v, rfl, rfl, ha, h1, fin_d s q h2⟩
  · rename_i z k e1 e2
    have z1 := p1.str e1
    have z2 := p2.int e2
    subst z1 z2
    obtain ⟨c, e⟩ := M.chk_ok e
    cases g : atI z.cps.toList k with
    | none => rw [g] at e; cases e
    | some ch =>
      rw [g] at e
      cases e
      exact ⟨_, ix_str, z, k, ch, rfl, rfl, c, g, fin_d s q (.str _)⟩
  · cases e
theorem cut_rep {K : Fr} {G : Hp} {vs : List V} {ds : List D} {lo hi : Option Int} (h : RepA K G vs ds) : RepA K G (cutV vs lo hi) (cutD ds lo hi) := by
  unfold cutV cutD
  rw [h.length]
  exact (h.drop _).take _
def r3 (K : Fr) : V → Option Int → Option Int → Hp → VK → Prop := fun x lo hi H Q => ∃ G r1 r, Same G H ∧ Pk K G H x r1 ∧ slD r1 lo hi = .ok r ∧ ∀ v G' H', Ext G H G' H' → VOk K G' H' H v r → Q v H'
theorem sl_D : SlR X (r3 X.K) := by
  intro pins s σ H x v vl vu lo hi sl Q I rx hs pl pu h
  obtain ⟨G, r1, r, sm, p1, e, q⟩ := h
  unfold slD at e
  split at e
  · rename_i xs e1
    cases e
    obtain ⟨a, vs, rfl, ha, la, ra⟩ := p1.lst sm e1
    exact sl_list pins s σ H _ v vl vu lo hi sl Q I rx hs pl pu ⟨a, vs, rfl, ha, fun p hp => fin_own sm q (cut_rep ra) (Nat.le_trans (cutV_length _ _ _) la) p hp⟩
  · rename_i xs e1
    cases e
    obtain ⟨a, vs, rfl, hga, ha, la, ra⟩ := p1.tup sm e1
    refine sl_tupA pins s σ H _ v vl vu lo hi sl Q I rx hs pl pu ⟨a, vs, rfl, ha, fun ⟨z1, z2⟩ => fin_d sm q ?_, fun _ p hp => fin_tup sm q (cut_rep ra) (Nat.le_trans (cutV_length _ _ _) la) p hp⟩
    have l1 := ra.length
    have : cutD xs lo hi = xs := by
      unfold cutD
      rw [← l1, z1, z2, List.drop_zero, Nat.sub_zero, l1, List.take_length]
    rw [this]
    exact .tup hga la ra
  · rename_i z e1
    have z1 := p1.str e1
    subst z1
    obtain ⟨c, e⟩ := M.chk_ok e
    cases e
    exact sl_str pins s σ H _ v vl vu lo hi sl Q I rx hs pl pu ⟨z, rfl, c, fin_d sm q (.str _)⟩
  · cases e
/-! ### built-in functions -/
abbrev PkA (K : Fr) (G H : Hp) : List V → List R → Prop := Paired (Pk K G H)
def rB (K : Fr) (g : List R → M R) : List V → Hp → VK → Prop := fun xs H Q => ∃ G rs r, Same G H ∧ PkA K G H xs rs ∧ g rs = .ok r ∧ ∀ v G' H', Ext G H G' H' → VOk K G' H' H v r → Q v H'
theorem CallR.by {f : Value} {r' : List V → Hp → VK → Prop} (i : ∀ xs H Q, r' xs H Q → ∃ r, CallR X f r ∧ r xs H Q) : CallR X f r' :=
  fun pins s σ H xs us Q I rv hr => by
    obtain ⟨r, h, q⟩ := i _ _ _ hr
    exact h pins s σ H xs us Q I rv q
def Blt.fn : Blt → Value
  | .len => .builtin "len" | .abs => .builtin "abs" | .max2 => .builtin "max" | .min2 => .builtin "min" | .max1 => .builtin "max" | .min1 => .builtin "min" | .sum => .builtin "sum"
  | .int => .type "int" | .str => .type "str" | .tuple => .type "tuple" | .list => .type "list"
theorem intsD_map : ∀ {ds : List D} {ns : List Int}, intsD ds = some ns → ds = ns.map PyData.int
  | [], ns, h => by cases h; rfl
  | d :: r, ns, h => by
    cases d with
    | int i =>
      simp only [intsD] at h
      cases q : intsD r with
      | none => rw [q] at h; cases h
      | some ms =>
        rw [q] at h
        cases h
        rw [intsD_map q]
        rfl
    | _ => cases h
theorem foldl_max : ∀ (r : List Int) (x : Int), (r.foldl max x = x ∨ r.foldl max x ∈ r) ∧ x ≤ r.foldl max x ∧ ∀ y ∈ r, y ≤ r.foldl max x
  | [], x => ⟨.inl rfl, Int.le_refl _, fun _ h => by cases h⟩
  | a :: r, x => by
    obtain ⟨h1, h2, h3⟩ := foldl_max r (max x a)
    rw [List.foldl_cons]
    refine ⟨?_, by omega, fun y hy => ?_⟩
    · rcases h1 with h1 | h1
      · rw [h1]
        rcases (show max x a = x ∨ max x a = a by omega) with q | q
        · exact .inl q
        · rw [q]; exact .inr List.mem_cons_self
      · exact .inr (List.mem_cons_of_mem _ h1)
    · rcases List.mem_cons.mp hy with rfl | hy
      · omega
      · exact h3 y hy
theorem foldl_min : ∀ (r : List Int) (x : Int), (r.foldl min x = x ∨ r.foldl min x ∈ r) ∧ r.foldl min x ≤ x ∧ ∀ y ∈ r, r.foldl min x ≤ y
  | [], x => ⟨.inl rfl, Int.le_refl _, fun _ h => by cases h⟩
  | a :: r, x => by
    obtain ⟨h1, h2, h3⟩ := foldl_min r (min x a)
    rw [List.foldl_cons]
    refine ⟨?_, by omega, fun y hy => ?_⟩
    · rcases h1 with h1 | h1
      · rw [h1]
        rcases (show min x a = x ∨ min x a = a by omega) with q | q
        · exact .inl q
        · rw [q]; exact .inr List.mem_cons_self
      · exact .inr (List.mem_cons_of_mem _ h1)
    · rcases List.mem_cons.mp hy with rfl | hy
      · omega
      · exact h3 y hy
theorem max_is {x m : Int} {r : List Int} (h : m ∈ x :: r) (b : ∀ y ∈ x :: r, y ≤ m) : m = r.foldl max x := by
  obtain ⟨h1, h2, h3⟩ := foldl_max r x
  have u : r.foldl max x ≤ m := by
    rcases h1 with h1 | h1
    · rw [h1]; exact b x List.mem_cons_self
    · exact b _ (List.mem_cons_of_mem _ h1)
  have l : m ≤ r.foldl max x := by
    rcases List.mem_cons.mp h with rfl | h
    · exact h2
    · exact h3 m h
  omega
theorem min_is {x m : Int} {r : List Int} (h : m ∈ x :: r) (b : ∀ y ∈ x :: r, m ≤ y) : m = r.foldl min x := by
  obtain ⟨h1, h2, h3⟩ := foldl_min r x
  have u : m ≤ r.foldl min x := by
    rcases h1 with h1 | h1
    · rw [h1]; exact b x List.mem_cons_self
    · exact b _ (List.mem_cons_of_mem _ h1)
  have l : r.foldl min x ≤ m := by
    rcases List.mem_cons.mp h with rfl | h
    · exact h2
    · exact h3 m h
  omega
theorem PkA.one {K : Fr} {G H : Hp} {xs : List V} {r : R} (h : PkA K G H xs [r]) : ∃ x, xs = [x] ∧ Pk K G H x r := by
  cases h with
  | cons h t => cases t; exact ⟨_, rfl, h⟩
theorem PkA.two {K : Fr} {G H : Hp} {xs : List V} {r s : R} (h : PkA K G H xs [r, s]) : ∃ x y, xs = [x, y] ∧ Pk K G H x r ∧ Pk K G H y s := by
  cases h with
  | cons h t =>
    cases t with
    | cons h' t' => cases t'; exact ⟨_, _, rfl, h, h'⟩
section
variable {X : Cx}
/-- max(t), min(t) of a tuple of ints -/
def rMaxT (K : Fr) : List V → Hp → VK → Prop := fun vs H Q => ∃ (a : Addr) (n : Int) (ns : List Int), vs = [V.ref a] ∧ SqT K H a ((n :: ns).map V.int) ∧ Q (.int (ns.foldl max n)) H
def rMinT (K : Fr) : List V → Hp → VK → Prop := fun vs H Q => ∃ (a : Addr) (n : Int) (ns : List Int), vs = [V.ref a] ∧ SqT K H a ((n :: ns).map V.int) ∧ Q (.int (ns.foldl min n)) H
theorem maxOf_int : ∀ (ns : List Int) (n : Int), PySem.W.maxOf n ns = ns.foldl max n
  | [], _ => rfl
  | m :: r, n => by
    have e : PySem.W.maxOf n (m :: r) = PySem.W.maxOf (if decide (n < m) = true then m else n) r := rfl
    have h : (if decide (n < m) = true then m else n) = max n m := by
      by_cases z : n < m
      · rw [if_pos (by simpa using z)]; omega
      · rw [if_neg (by simpa using z)]; omega
    rw [e, h, List.foldl_cons]
    exact maxOf_int r _
theorem minOf_int : ∀ (ns : List Int) (n : Int), PySem.W.minOf n ns = ns.foldl min n
  | [], _ => rfl
  | m :: r, n => by
    have e : PySem.W.minOf n (m :: r) = PySem.W.minOf (if decide (m < n) = true then m else n) r := rfl
    have h : (if decide (m < n) = true then m else n) = min n m := by
      by_cases z : m < n
      · rw [if_pos (by simpa using z)]; omega
      · rw [if_neg (by simpa using z)]; omega
    rw [e, h, List.foldl_cons]
    exact minOf_int r _
theorem holds_int_inv {h : Heap} {v : Value} {n : Int} (H : PySem.W.Holds h v n) : ∃ t, v = .int n t := by
  have q : PySem.W.HoldAll h [v] [n] := PySem.W.HoldAll.cons H PySem.W.HoldAll.nil
  have z := q.toInts
  cases z with
  | cons n t _ => exact ⟨_, rfl⟩
theorem cr_maxT (hc : X.calm = true) (hu : X.A.units + 64 < cLine) : CallR X (.builtin "max") (rMaxT X.K) := by
  intro pins s σ H vs us Q I r h
  obtain ⟨a, n, ns, rfl, hs, q⟩ := h
  obtain ⟨its, rv, hl, _⟩ := I.tuple hs
  rw [Vals.ref1 r]
  refine PySem.W.max_tuple_datum (α := Int) (I.ok.hd hc) hl (PySem.W.HoldAll.of_ints rv.ints) (by show X.A.units + 1 + 0 < cLine; omega) fun i v h' tk hi hv hk => ?_
  obtain ⟨t, rfl⟩ := holds_int_inv hv
  rw [maxOf_int]
  exact ⟨.int _, H, I.kept hk, ⟨_, rfl⟩, q⟩
theorem cr_minT (hc : X.calm = true) (hu : X.A.units + 64 < cLine) : CallR X (.builtin "min") (rMinT X.K) := by
  intro pins s σ H vs us Q I r h
  obtain ⟨a, n, ns, rfl, hs, q⟩ := h
  obtain ⟨its, rv, hl, _⟩ := I.tuple hs
  rw [Vals.ref1 r]
  refine PySem.W.min_tuple_datum (α := Int) (I.ok.hd hc) hl (PySem.W.HoldAll.of_ints rv.ints) (by show X.A.units + 1 + 0 < cLine; omega) fun i v h' tk hi hv hk => ?_
  obtain ⟨t, rfl⟩ := holds_int_inv hv
  rw [minOf_int]
  exact ⟨.int _, H, I.kept hk, ⟨_, rfl⟩, q⟩
end
theorem cr_blt {b : Blt} (hc : X.calm = true) (hu : X.A.units + 64 < cLine) : CallR X b.fn (rB X.K (bltD b)) := by
  refine CallR.by fun xs H Q h => ?_
  obtain ⟨G, rs, r, s, p, e, q⟩ := h
  unfold bltD at e
  split at e
  · -- len
    obtain ⟨x, rfl, p1⟩ := PkA.one p
    split at e
    · rename_i e1
      cases e
      obtain ⟨a, vs, rfl, ha, la, ra⟩ := p1.lst s e1
      refine ⟨_, call_len_seq, a, vs, rfl, .inl ha, ?_⟩
      rw [ra.length]
      exact fin_d s q (.int _)
    · rename_i e1
      cases e
      obtain ⟨a, vs, rfl, _, ha, la, ra⟩ := p1.tup s e1
      refine ⟨_, call_len_seq, a, vs, rfl, .inr ha, ?_⟩
      rw [ra.length]
      exact fin_d s q (.int _)
    · rename_i e1
      obtain ⟨c, e⟩ := M.chk_ok e
      cases e
      have z := p1.str e1
      subst z
      exact ⟨_, call_len_str, _, rfl, c, fin_d s q (.int _)⟩
    · cases e
  · -- abs
    obtain ⟨x, rfl, p1⟩ := PkA.one p
    split at e
    · rename_i e1
      cases e
      have z := p1.int e1
      subst z
      exact ⟨_, call_abs, _, rfl, fin_d s q (.int _)⟩
    · cases e
  · -- max2
    obtain ⟨x, y, rfl, p1, p2⟩ := PkA.two p
    split at e
    · rename_i e1 e2
      cases e
      have z := p1.int e1
      have z' := p2.int e2
      subst z z'
      exact ⟨_, call_max2 hc, _, _, rfl, fin_d s q (.int _)⟩
    · cases e
  · -- min2
    obtain ⟨x, y, rfl, p1, p2⟩ := PkA.two p
    split at e
    · rename_i e1 e2
      cases e
      have z := p1.int e1
      have z' := p2.int e2
      subst z z'
      exact ⟨_, call_min2 hc, _, _, rfl, fin_d s q (.int _)⟩
    · cases e
  · -- max1
    obtain ⟨x, rfl, p1⟩ := PkA.one p
    split at e
    · rename_i ds e1
      obtain ⟨a, vs, rfl, ha, la, ra⟩ := p1.lst s e1
      cases g : intsD ds with
      | none => rw [g] at e; cases e
      | some ns =>
        rw [g] at e
        have z := intsD_map g
        subst z
        have z := ra.ints
        subst z
        cases ns with
        | nil => cases e
        | cons n ns =>
          cases e
          exact ⟨_, cr_max hc, a, n :: ns, rfl, ha, by simp, fun m h1 h2 => by rw [max_is h1 h2]; exact fin_d s q (.int _)⟩
    · rename_i ds e1
      obtain ⟨a, vs, rfl, _, ha, la, ra⟩ := p1.tup s e1
      cases g : intsD ds with
      | none => rw [g] at e; cases e
      | some ns =>
        rw [g] at e
        have z := intsD_map g
        subst z
        have z := ra.ints
        subst z
        cases ns with
        | nil => cases e
        | cons n ns =>
          cases e
          exact ⟨_, cr_maxT hc hu, a, n, ns, rfl, ha, fin_d s q (.int _)⟩
    · cases e
  · -- min1
    obtain ⟨x, rfl, p1⟩ := PkA.one p
    split at e
    · rename_i ds e1
      obtain ⟨a, vs, rfl, ha, la, ra⟩ := p1.lst s e1
      cases g : intsD ds with
      | none => rw [g] at e; cases e
      | some ns =>
        rw [g] at e
        have z := intsD_map g
        subst z
        have z := ra.ints
        subst z
        cases ns with
        | nil => cases e
        | cons n ns =>
          cases e
          exact ⟨_, cr_min hc, a, n :: ns, rfl, ha, by simp, fun m h1 h2 => by rw [min_is h1 h2]; exact fin_d s q (.int _)⟩
    · rename_i ds e1
      obtain ⟨a, vs, rfl, _, ha, la, ra⟩ := p1.tup s e1
      cases g : intsD ds with
      | none => rw [g] at e; cases e
      | some ns =>
        rw [g] at e
        have z := intsD_map g
        subst z
        have z := ra.ints
        subst z
        cases ns with
        | nil => cases e
        | cons n ns =>
          cases e
          exact ⟨_, cr_minT hc hu, a, n, ns, rfl, ha, fin_d s q (.int _)⟩
    · cases e
  · -- sum
    obtain ⟨x, rfl, p1⟩ := PkA.one p
    split at e
    · rename_i ds e1
      obtain ⟨a, vs, rfl, ha, la, ra⟩ := p1.lst s e1
      cases g : intsD ds with
      | none => rw [g] at e; cases e
      | some ns =>
        rw [g] at e
        have z := intsD_map g
        subst z
        have z := ra.ints
        subst z
        cases e
        exact ⟨_, cr_sum hc, a, ns, rfl, ha, fin_d s q (.int _)⟩
    · cases e
  · -- int
    obtain ⟨x, rfl, p1⟩ := PkA.one p
    split at e
    · rename_i e1
      cases e
      have z := p1.int e1
      subst z
      exact ⟨_, call_int1, .inl ⟨_, rfl, fin_d s q (.int _)⟩⟩
    · rename_i e1
      cases e
      have z := p1.bool e1
      subst z
      exact ⟨_, call_int1, .inr ⟨_, rfl, fin_d s q (.int _)⟩⟩
    · rename_i e1
      obtain ⟨c, e⟩ := M.chk_ok e
      have z := p1.str e1
      subst z
      cases g : PySem.intText? _ with
      | none => rw [g] at e; cases e
      | some n =>
        rw [g] at e
        cases e
        exact ⟨_, call_int_str, _, n, rfl, g, c, fin_d s q (.int _)⟩
    · cases e
  · -- str
    obtain ⟨x, rfl, p1⟩ := PkA.one p
    split at e
    · rename_i e1
      obtain ⟨c, e⟩ := M.chk_ok e
      cases e
      have z := p1.int e1
      subst z
      exact ⟨_, call_str_int, _, rfl, c, fin_d s q (.str _)⟩
    · cases e
  · -- tuple
    obtain ⟨x, rfl, p1⟩ := PkA.one p
    split at e
    · rename_i e1
      cases e
      obtain ⟨a, vs, rfl, ha, la, ra⟩ := p1.lst s e1
      exact ⟨_, call_tuple_of, a, vs, rfl, .inl ⟨ha, fun l hl => fin_tup s q ra la l hl⟩⟩
    · rename_i e1
      cases e
      obtain ⟨a, vs, rfl, hga, ha, la, ra⟩ := p1.tup s e1
      exact ⟨_, call_tuple_of, a, vs, rfl, .inr ⟨ha, fin_d s q (.tup hga la ra)⟩⟩
    · cases e
  · -- list
    obtain ⟨x, rfl, p1⟩ := PkA.one p
    split at e
    · rename_i e1
      cases e
      obtain ⟨a, vs, rfl, ha, la, ra⟩ := p1.lst s e1
      exact ⟨_, call_list_of, a, vs, rfl, .inl ha, fun l hl => fin_own s q ra la l hl⟩
    · rename_i e1
      cases e
      obtain ⟨a, vs, rfl, hga, ha, la, ra⟩ := p1.tup s e1
      exact ⟨_, call_list_of, a, vs, rfl, .inr ha, fun l hl => fin_own s q ra la l hl⟩
    · cases e
  · cases e
/-! ### isinstance with a built-in class -/
/-! ### methods -/
def Mth.ty : Mth → String
  | .index => "list"
  | _ => "str"
def Mth.nm : Mth → Str
  | .ends => "endswith"
  | .split => "split"
  | .join => "join"
  | .index => "index"
def Mth.id : Mth → String
  | .ends => "str.endswith"
  | .split => "str.split"
  | .join => "str.join"
  | .index => "list.index"
def rM (K : Fr) (m : Mth) : V → List V → Hp → VK → Prop := fun x ys H Q => ∃ G r1 ds r, Same G H ∧ Pk K G H x r1 ∧ RepA K G ys ds ∧ mthD m r1 ds = .ok r ∧ ∀ v G' H', Ext G H G' H' → VOk K G' H' H v r → Q v H'
theorem MtR.by {id : String} {r' : V → List V → Hp → VK → Prop} (i : ∀ x xs H Q, r' x xs H Q → ∃ r, MtR X id r ∧ r x xs H Q) : MtR X id r' := by
  intro pins s σ H x xs v us Q I rx rxs h
  obtain ⟨r, hr, q⟩ := i _ _ _ _ h
  exact hr pins s σ H x xs v us Q I rx rxs q
theorem strsD_map : ∀ {ds : List D} {ys : List Str}, strsD ds = some ys → ds = ys.map PyData.str
  | [], ys, h => by cases h; rfl
  | d :: ds, ys, h => by
    cases d <;> first | (cases h; done) | skip
    rename_i x
    unfold strsD at h
    cases g : strsD ds with
    | none => rw [g] at h; cases h
    | some zs =>
      rw [g] at h
      cases h
      rw [strsD_map g]
      rfl
theorem RepA.strs {K : Fr} {G : Hp} : ∀ {vs : List V} {ys : List Str}, RepA K G vs (ys.map PyData.str) → vs = ys.map V.str
  | [], [], _ => rfl
  | _, [], h => by cases h; rfl
  | _, y :: ys, h => by
    cases h with
    | cons h t =>
      cases h
      rw [RepA.strs t]
      rfl
theorem RepA.of_strs {K : Fr} {G : Hp} : ∀ ys : List Str, RepA K G (ys.map V.str) (ys.map PyData.str)
  | [] => .nil
  | y :: ys => .cons (.str y) (RepA.of_strs ys)
theorem RepA.one {K : Fr} {G : Hp} {vs : List V} {d : D} (h : RepA K G vs [d]) : ∃ v, vs = [v] ∧ Rep K G v d := by
  cases h with
  | cons h t => cases t; exact ⟨_, rfl, h⟩
theorem mt_D {m : Mth} : MtR X m.id (rM X.K m) := by
  refine MtR.by fun x ys H Q h => ?_
  obtain ⟨G, r1, ds, r, s, p1, pa, e, q⟩ := h
  unfold mthD at e
  split at e
  · -- endswith
    obtain ⟨y, rfl, p2⟩ := pa.one
    cases p2
    split at e
    · rename_i a e1
      have z := p1.str e1
      subst z
      cases e
      exact ⟨_, mt_endswith, _, _, rfl, rfl, fin_d s q (.bl _)⟩
    · cases e
  · -- split
    obtain ⟨y, rfl, p2⟩ := pa.one
    cases p2
    split at e
    · rename_i a e1
      have z := p1.str e1
      subst z
      obtain ⟨⟨c1, c2, c3⟩, e⟩ := M.chk_ok e
      cases e
      exact ⟨_, mt_split, _, _, rfl, rfl, c1, c2, fun p hp => fin_own s q (RepA.of_strs _) (by rw [List.length_map]; exact c3) p hp⟩
    · cases e
  · -- join
    obtain ⟨y, rfl, p2⟩ := pa.one
    split at e
    · rename_i a e1
      have z := p1.str e1
      subst z
      cases g : strsD _ with
      | none => rw [g] at e; cases e
      | some zs =>
        rw [g] at e
        obtain ⟨c, e⟩ := M.chk_ok e
        cases e
        have z := strsD_map g
        subst z
        cases p2 with
        | lst h1 h2 h3 =>
          have z := h3.strs
          subst z
          exact ⟨_, mt_join, _, _, zs, rfl, rfl, .inl (s.seq h1), c, fin_d s q (.str _)⟩
    · cases e
  · -- index
    obtain ⟨y, rfl, p2⟩ := pa.one
    split at e
    · rename_i xs e1
      obtain ⟨⟨c1, c2⟩, e⟩ := M.chk_ok e
      obtain ⟨a, vs, rfl, ha, la, ra⟩ := p1.lst s e1
      cases g : xs.findIdx? _ with
      | none => rw [g] at e; cases e
      | some j =>
        rw [g] at e
        cases e
        obtain ⟨jl, j1, j2⟩ := List.findIdx?_eq_some_iff_getElem.mp g
        have gd : xs[j]? = some xs[j] := List.getElem?_eq_getElem jl
        obtain ⟨z, hz, rz⟩ := ra.get' gd
        have fl : ∀ d ∈ xs, flatD d = true := fun d hd => List.all_eq_true.mp c2 d hd
        refine ⟨_, mt_index, a, vs, y, j, z, rfl, rfl, ha, by rw [flat_of p2]; exact c1, by rw [all_flat ra]; exact c2, hz, by rw [eqV_of rz p2 (fl _ (List.getElem_mem jl)) c1]; exact j1, fun m z' hm hz' => ?_, fin_d s q (.int _)⟩
        obtain ⟨d', hd', rd'⟩ := ra.get hz'
        have ml : m < xs.length := by omega
        have ed : d' = xs[m] := by
          rw [List.getElem?_eq_getElem ml] at hd'
          exact (Option.some.inj hd').symm
        rw [eqV_of rd' p2 (fl _ (by rw [ed]; exact List.getElem_mem ml)) c1, ed]
        have := j2 m hm
        simpa using this
    · cases e
  · cases e
theorem mthD_ex {m : Mth} {r : R} {ds : List D} {c : Nat} : mthD m r ds ≠ .ex c := by
  intro h
  unfold mthD at h
  split at h
  · split at h <;> cases h
  · split at h
    · simp only [M.chk] at h; split at h <;> cases h
    · cases h
  · split at h
    · rename_i xs _ _ _
      cases g : strsD xs with
      | none => rw [g] at h; cases h
      | some zs => rw [g] at h; simp only [M.opt_some, M.bind_ok, M.chk] at h; split at h <;> cases h
    · cases h
  · split at h
    · rename_i d _ xs _
      simp only [M.chk] at h
      split at h
      · cases g : (xs.findIdx? fun z => PyData.eqv z d) with
        | none => rw [g] at h; cases h
        | some j => rw [g] at h; cases h
      · cases h
    · cases h
  · cases h
theorem kit_table : (∀ t : Ty, kitB "NoneType" t.name = some false) ∧ (∀ t : Ty, kitB "bool" t.name = some (match t with | .int => true | .bool => true | _ => false)) ∧ (∀ t : Ty, kitB "int" t.name = some (match t with | .int => true | _ => false)) ∧
    (∀ t : Ty, kitB "str" t.name = some (match t with | .str => true | _ => false)) ∧ (∀ t : Ty, kitB "list" t.name = some (match t with | .list => true | _ => false)) ∧ (∀ t : Ty, kitB "tuple" t.name = some (match t with | .tuple => true | _ => false)) ∧ (∀ t : Ty, kitB "dict" t.name = some false) := by
  refine ⟨?_, ?_, ?_, ?_, ?_, ?_, ?_⟩ <;> intro t <;> cases t <;> decide +kernel
def rIsT (K : Fr) (t : Ty) : List V → Hp → VK → Prop := fun xs H Q => ∃ G x r b, Same G H ∧ xs = [x, .ty t.name] ∧ Pk K G H x r ∧ isTy t r.toD = .ok b ∧ Q (.bl b) H
theorem cr_isT {t : Ty} : CallR X (.builtin "isinstance") (rIsT X.K t) := by
  refine CallR.by fun xs H Q h => ?_
  obtain ⟨G, x, r, b, s, rfl, p, e, q⟩ := h
  obtain ⟨t1, t2, t3, t4, t5, t6, t7⟩ := kit_table
  have go : ∀ {x : V} {n : String} {b : Bool}, TyX X.K H x (.type n) → kitB n t.name = some b → Q (.bl b) H → ∃ r, CallR X (.builtin "isinstance") r ∧ r [x, .ty t.name] H Q := fun {x n b} hx hk q =>
    ⟨_, call_isi, x, .ty t.name, _, _, b, rfl, .ty _, hx, kit_ty hk, q⟩
  cases r with
  | o ds =>
    obtain ⟨a, xs, z, h1, h2, h3⟩ := p
    subst z
    cases e
    exact go (.base (.lst h1)) (t5 t) q
  | d y =>
    cases (show Rep X.K G x y from p) with
    | non => cases e; exact go (.base .non) (t1 t) q
    | bl c => cases e; exact go (.base (.bl c)) (t2 t) q
    | int i => cases e; exact go (.base (.int i)) (t3 t) q
    | str z => cases e; exact go (.base (.str z)) (t4 t) q
    | lst h1 h2 h3 =>
      cases e
      rcases s.seq h1 with (h1 | ⟨o, h1⟩) | ⟨o, its, n, h1, h2, _⟩
      · exact go (.base (.lst h1)) (t5 t) q
      · exact go (.base (.frz h1)) (t5 t) q
      · exact go (.kList h1 h2) (t5 t) q
    | tup h1 h2 h3 =>
      cases e
      rcases sqT_same s h1 with (h1 | ⟨o, h1⟩) | ⟨o, its, n, h1, h2, _⟩
      · exact go (.base (.tup h1)) (t6 t) q
      · exact go (.fTuple h1) (t6 t) q
      · exact go (.kTuple h1 h2) (t6 t) q
    | emp h1 =>
      cases e
      exact go (.base (.dK (s _ _ h1))) (t7 t) q
end
end PF

end

section
/-! PF3: slots and what stands at them; readings told on data. -/
namespace PF
open PySem PySem.Spec PyProof.Rows L2

/-! ### dicts whose keys are tuples, raw -/
/-- a dict's entries: keys, where their tuples stand, values -/
abbrev DRaw := List (NestedKey × Addr × V)
abbrev DVals : DRaw → List (NestedKey × Addr × Value) → Prop := Paired fun p q => p.1 = q.1 ∧ p.2.1 = q.2.1 ∧ RelV p.2.2 q.2.2
def dctP (P : Program) (w : World) (a : Addr) (xs : DRaw) (h : Heap) : Prop :=
  (a == sysModules) = false ∧ ∃ ys, DVals xs ys ∧ ∃ o es ep, h.get? a = some o ∧ o.ExactDict ∧ o.data = .dict es ep ∧ es.toList = ys.map (entryOfKey (nestedKind P w)) ∧ (ys.map (·.1)).Nodup
def DctO (P : Program) (w : World) (a : Addr) (xs : DRaw) : HO := .ext (dctP P w a xs)
/-- its keys and values, as data -/
abbrev DRep (K : Fr) (G : Hp) : DRaw → List (NestedKey × D) → Prop := Paired fun p q => p.1 = q.1 ∧ (∃ d, Rep K G (.ref p.2.1) d ∧ keyT d = some p.1) ∧ Rep K G p.2.2 q.2
theorem DRep.mono {K : Fr} {G G' : Hp} {xs : DRaw} {kvs : List (NestedKey × D)} (s : Same G G') (h : DRep K G xs kvs) : DRep K G' xs kvs :=
  Paired.mapP h fun _ _ ⟨e, ⟨d, r, q⟩, v⟩ => ⟨e, ⟨d, r.mono s, q⟩, v.mono s⟩
/-- K the written part; cV the raised classes; G0, H0 the heaps at the def's entry; xa what an except suite handles -/
structure Cfg where
  P : Program
  w : World
  K : Fr
  cV : Nat → Value
  G0 : Hp
  H0 : Hp
  xa : Option (Addr × Nat)
inductive SlOk (C : Cfg) (G H : Hp) : Option V → Sl → Prop
  | no (o : Option V) : SlOk C G H o .no
  | val {v : V} {d : D} : Rep C.K G v d → SlOk C G H (some v) (.val d)
  | own {a : Addr} {xs : List V} {ds : List D} : H a = some (.lst xs) → xs.length ≤ sizeLine → RepA C.K G xs ds → G a = none → C.H0 a = none → SlOk C G H (some (.ref a)) (.own ds)
  | exc {a : Addr} {c : Nat} : C.xa = some (a, c) → SlOk C G H (some (.ref a)) (.exc c)
  | dct {a : Addr} {xs : DRaw} {kvs : List (NestedKey × D)} : H a = some (DctO C.P C.w a xs) → xs.length ≤ sizeLine → DRep C.K G xs kvs → G a = none → C.H0 a = none → SlOk C G H (some (.ref a)) (.dct kvs)
def Sl.isOwn : Sl → Bool
  | .own _ => true
  | .dct _ => true
  | _ => false
structure St (C : Cfg) (σ : L2.St) (ρ : PF.Env) (G H : Hp) : Prop where
  len : σ.length = ρ.length
  ext : Ext C.G0 C.H0 G H
  slot : ∀ (i : Nat) (o : Option V) (s : Sl), σ[i]? = some o → ρ[i]? = some s → SlOk C G H o s
  dist : ∀ (i j : Nat) (s t : Sl) (a : Addr), i ≠ j → ρ[i]? = some s → ρ[j]? = some t → s.isOwn = true → t.isOwn = true → σ[i]? = some (some (.ref a)) → σ[j]? = some (some (.ref a)) → False
section
variable {C : Cfg} {G H G' H' : Hp} {σ : L2.St} {ρ : PF.Env}
theorem SlOk.mono {o : Option V} {s : Sl} (h : SlOk C G H o s) (e : Ext G H G' H') : SlOk C G' H' o s := by
  cases h with
  | no => exact .no _
  | val h => exact .val (h.mono e.gg)
  | own h1 h2 h3 h4 h5 => exact .own (e.hh _ _ h1) h2 (h3.mono e.gg) (e.nw _ h4 (by rw [h1]; simp)) h5
  | exc h => exact .exc h
  | dct h1 h2 h3 h4 h5 => exact .dct (e.hh _ _ h1) h2 (h3.mono e.gg) (e.nw _ h4 (by rw [h1]; simp)) h5
theorem St.mono (h : St C σ ρ G H) (e : Ext G H G' H') : St C σ ρ G' H' := ⟨h.len, h.ext.trans e, fun i o s h1 h2 => (h.slot i o s h1 h2).mono e, h.dist⟩
theorem St.same (h : St C σ ρ G H) : Same G H := h.ext.gh
theorem St.at (h : St C σ ρ G H) {i : Nat} {s : Sl} (e : ρ.getD i .no = s) (ne : s ≠ .no) : ∃ o, σ[i]? = some o ∧ ρ[i]? = some s ∧ SlOk C G H o s := by
  rw [List.getD_eq_getElem?_getD] at e
  cases q : ρ[i]? with
  | none => rw [q] at e; exact absurd e.symm ne
  | some t =>
    rw [q] at e
    have e' : t = s := e
    subst e'
    have hi : i < σ.length := by rw [h.len]; exact (List.getElem?_eq_some_iff.mp q).1
    exact ⟨σ[i], List.getElem?_eq_getElem hi, rfl, h.slot i _ _ (List.getElem?_eq_getElem hi) q⟩
/-- a name's value -/
theorem St.getV (h : St C σ ρ G H) {i : Nat} {r : R} (e : PF.getV ρ i = .ok r) : ∃ v, σ[i]? = some (some v) ∧ ∀ Hb, VOk C.K G H Hb v r := by
  unfold PF.getV at e
  split at e
  · rename_i d e1
    cases e
    obtain ⟨o, h1, _, h2⟩ := h.at e1 (by simp)
    cases h2 with
    | val h2 => exact ⟨_, h1, fun _ => h2⟩
  · cases e
theorem St.getP (h : St C σ ρ G H) {i : Nat} {r : R} (e : PF.getP ρ i = .ok r) : ∃ v, σ[i]? = some (some v) ∧ Pk C.K G H v r := by
  unfold PF.getP at e
  split at e
  · rename_i d e1
    cases e
    obtain ⟨o, h1, _, h2⟩ := h.at e1 (by simp)
    cases h2 with
    | val h2 => exact ⟨_, h1, h2⟩
  · rename_i d e1
    cases e
    obtain ⟨o, h1, _, h2⟩ := h.at e1 (by simp)
    cases h2 with
    | own a1 a2 a3 a4 a5 => exact ⟨_, h1, _, _, rfl, a1, a2, a3⟩
  · cases e
theorem noEx_getV {i : Nat} {c : Nat} : PF.getV ρ i ≠ .ex c := by unfold PF.getV; split <;> simp
theorem noEx_getP {i : Nat} {c : Nat} : PF.getP ρ i ≠ .ex c := by unfold PF.getP; split <;> simp
/-- a slot takes a value -/
theorem St.set (h : St C σ ρ G H) {i : Nat} {v : V} {d : D} (r : Rep C.K G v d) : St C (σ.set i (some v)) (ρ.set i (.val d)) G H := by
  refine ⟨by simp [h.len], h.ext, fun j o s h1 h2 => ?_, fun j k s t a hjk h1 h2 h3 h4 h5 h6 => ?_⟩
  · by_cases hj : i = j
    · subst hj
      rw [List.getElem?_set] at h1 h2
      by_cases hi : i < σ.length
      · rw [if_pos rfl, if_pos hi] at h1
        rw [if_pos rfl, if_pos (by rw [← h.len]; exact hi)] at h2
        cases h1; cases h2
        exact .val r
      · rw [if_pos rfl, if_neg hi] at h1; cases h1
    · rw [List.getElem?_set_ne hj] at h1 h2
      exact h.slot j o s h1 h2
  · have ne : ∀ {k s}, (ρ.set i (.val d))[k]? = some s → s.isOwn = true → i ≠ k := fun {k s} e f z => by
      subst z
      rw [List.getElem?_set] at e
      by_cases hi : i < ρ.length
      · rw [if_pos rfl, if_pos hi] at e; cases e; cases f
      · rw [if_pos rfl, if_neg hi] at e; cases e
    have n1 := ne h1 h3
    have n2 := ne h2 h4
    rw [List.getElem?_set_ne n1] at h1 h5
    rw [List.getElem?_set_ne n2] at h2 h6
    exact h.dist j k s t a hjk h1 h2 h3 h4 h5 h6
/-- a slot takes a new list -/
theorem St.setOwn {Hb : Hp} (h : St C σ ρ G H) (hb : St C σ ρ G' Hb) {i : Nat} {v : V} {ds : List D} (r : VOk C.K G H Hb v (.o ds)) (sm : Same Hb H) : St C (σ.set i (some v)) (ρ.set i (.own ds)) G H := by
  obtain ⟨a, xs, rfl, r1, r2, r3, r4, r5⟩ := r
  have new : ∀ (j : Nat) (t : Sl), ρ[j]? = some t → t.isOwn = true → σ[j]? = some (some (.ref a)) → False := fun j t h1 h2 h3 => by
    have q := hb.slot j _ _ h3 h1
    cases q with
    | own a1 _ _ _ _ => rw [r4] at a1; cases a1
    | dct a1 _ _ _ _ => rw [r4] at a1; cases a1
    | _ => cases h2
  refine ⟨by simp [h.len], h.ext, fun j o s h1 h2 => ?_, fun j k s t b hjk h1 h2 h3 h4 h5 h6 => ?_⟩
  · by_cases hj : i = j
    · subst hj
      rw [List.getElem?_set] at h1 h2
      by_cases hi : i < σ.length
      · rw [if_pos rfl, if_pos hi] at h1
        rw [if_pos rfl, if_pos (by rw [← h.len]; exact hi)] at h2
        cases h1; cases h2
        exact .own r1 r2 r3 r5 (hb.ext.hh.free r4)
      · rw [if_pos rfl, if_neg hi] at h1; cases h1
    · rw [List.getElem?_set_ne hj] at h1 h2
      exact h.slot j o s h1 h2
  · have old : ∀ {k s b}, (ρ.set i (.own ds))[k]? = some s → s.isOwn = true → (σ.set i (some (.ref a)))[k]? = some (some (.ref b)) → (k = i ∧ b = a) ∨ (k ≠ i ∧ ρ[k]? = some s ∧ σ[k]? = some (some (.ref b))) := fun {k s b} e f g => by
      by_cases z : k = i
      · subst z
        rw [List.getElem?_set] at g
        by_cases hi : k < σ.length
        · rw [if_pos rfl, if_pos hi] at g; cases g; exact .inl ⟨rfl, rfl⟩
        · rw [if_pos rfl, if_neg hi] at g; cases g
      · rw [List.getElem?_set_ne (Ne.symm z)] at e g
        exact .inr ⟨z, e, g⟩
    rcases old h1 h3 h5 with ⟨e1, e2⟩ | ⟨e1, e2, e3⟩
    · rcases old h2 h4 h6 with ⟨f1, f2⟩ | ⟨f1, f2, f3⟩
      · exact hjk (e1.trans f1.symm)
      · subst e2; exact new _ _ f2 h4 f3
    · rcases old h2 h4 h6 with ⟨f1, f2⟩ | ⟨f1, f2, f3⟩
      · subst f2; exact new _ _ e2 h3 e3
      · exact h.dist j k s t b hjk e2 f2 h3 h4 e3 f3
theorem St.wipe1 (h : St C σ ρ G H) (i : Nat) : St C (σ.set i none) (ρ.set i .no) G H := by
  refine ⟨by simp [h.len], h.ext, fun j o s h1 h2 => ?_, fun j k s t a hjk h1 h2 h3 h4 h5 h6 => ?_⟩
  · by_cases hj : i = j
    · subst hj
      rw [List.getElem?_set] at h2
      by_cases hi : i < ρ.length
      · rw [if_pos rfl, if_pos hi] at h2; cases h2; exact .no _
      · rw [if_pos rfl, if_neg hi] at h2; cases h2
    · rw [List.getElem?_set_ne hj] at h1 h2
      exact h.slot j o s h1 h2
  · have ne : ∀ {k s}, (ρ.set i .no)[k]? = some s → s.isOwn = true → i ≠ k := fun {k s} e f z => by
      subst z
      rw [List.getElem?_set] at e
      by_cases hi : i < ρ.length
      · rw [if_pos rfl, if_pos hi] at e; cases e; cases f
      · rw [if_pos rfl, if_neg hi] at e; cases e
    have n1 := ne h1 h3
    have n2 := ne h2 h4
    rw [List.getElem?_set_ne n1] at h1 h5
    rw [List.getElem?_set_ne n2] at h2 h6
    exact h.dist j k s t a hjk h1 h2 h3 h4 h5 h6
theorem St.wipe (h : St C σ ρ G H) : ∀ vs : List Nat, St C (L2.wipe σ vs) (wipeE ρ vs) G H
  | [] => h
  | v :: vs => by
    unfold L2.wipe wipeE
    exact (St.wipe h vs).wipe1 v
end

/-! ### readings -/
section
variable {α β γ δ : Type}
/-- what follows of a result -/
def Fin (C : Cfg) (W : WX) (ok : Hp → Hp → Hp → β → α → Prop) (Hb : Hp) (σ : L2.St) (m : M α) (G H : Hp) (Q : β → Hp → Prop) : Prop := match m with
  | .no => False
  | .ex c => ∀ G' H', Ext G H G' H' → W (C.cV c) none σ H'
  | .ok a => ∀ b G' H', Ext G H G' H' → ok G' H' Hb b a → Q b H'
/-- f of the slots -/
def T (C : Cfg) (W : WX) (ok : Hp → Hp → Hp → β → α → Prop) (f : PF.Env → M α) : L2.St → Hp → (β → Hp → Prop) → Prop := fun σ H Q => ∃ G ρ, St C σ ρ G H ∧ Fin C W ok H σ (f ρ) G H Q
variable {C : Cfg} {W : WX} {ok1 : Hp → Hp → Hp → β → α → Prop} {ok2 : Hp → Hp → Hp → δ → γ → Prop} {σ : L2.St} {ρ : PF.Env} {G H Hb : Hp}
theorem Fin.bind {m : M α} {g : α → M γ} {Q : δ → Hp → Prop} {R : β → Hp → Prop} (h : Fin C W ok2 Hb σ (m.bind g) G H Q)
    (k : ∀ b a G1 H1, Ext G H G1 H1 → ok1 G1 H1 H b a → Fin C W ok2 Hb σ (g a) G1 H1 Q → R b H1) : Fin C W ok1 H σ m G H R := by
  cases m with
  | no => exact h
  | ex c => exact h
  | ok a =>
    intro b G1 H1 e o
    refine k b a G1 H1 e o ?_
    cases q : g a with
    | no => rw [M.bind_ok, q] at h; exact h
    | ex c => rw [M.bind_ok, q] at h; intro G2 H2 e2; exact h G2 H2 (e.trans e2)
    | ok c => rw [M.bind_ok, q] at h; intro d G2 H2 e2 o2; exact h d G2 H2 (e.trans e2) o2
theorem T.bind {f : PF.Env → M α} {g : α → M γ} {Q : δ → Hp → Prop} {R : β → Hp → Prop} (st : St C σ ρ G H) (h : Fin C W ok2 Hb σ ((f ρ).bind g) G H Q)
    (k : ∀ b a G1 H1, Ext G H G1 H1 → ok1 G1 H1 H b a → St C σ ρ G1 H1 → Fin C W ok2 Hb σ (g a) G1 H1 Q → R b H1) : T C W ok1 f σ H R :=
  ⟨G, ρ, st, h.bind fun b a G1 H1 e o fin => k b a G1 H1 e o (st.mono e) fin⟩
end
abbrev okR (K : Fr) : Hp → Hp → Hp → V → R → Prop := fun G H Hb v r => VOk K G H Hb v r
abbrev okP (K : Fr) : Hp → Hp → Hp → V → R → Prop := fun G H _ v r => Pk K G H v r
abbrev okD (K : Fr) : Hp → Hp → Hp → V → D → Prop := fun G _ _ v d => Rep K G v d
abbrev okB : Hp → Hp → Hp → Bool → Bool → Prop := fun _ _ _ b a => b = a
abbrev okA (K : Fr) : Hp → Hp → Hp → List V → List D → Prop := fun G _ _ vs ds => RepA K G vs ds
abbrev okPA (K : Fr) : Hp → Hp → Hp → List V → List R → Prop := fun G H _ vs rs => PkA K G H vs rs
section
variable {C : Cfg} {W : WX} {σ : L2.St} {ρ : PF.Env} {G H Hb : Hp}
/-- a result is frozen as it comes -/
theorem frz_res {K : Fr} {G H G1 H1 : Hp} {v : V} {r : R} (e : Ext G H G1 H1) (o : VOk K G1 H1 H v r) : ∃ G2, Ext G H G2 H1 ∧ Same G1 G2 ∧ Rep K G2 v r.toD := by
  cases r with
  | d x => exact ⟨G1, e, Same.refl _, o⟩
  | o ds =>
    obtain ⟨a, xs, rfl, h1, h2, h3, h4, h5⟩ := o
    exact ⟨upd G1 a (.lst xs), e.frz h4 h5 h1, same_upd h5, .lst (.inl (.inl upd_same)) h2 (h3.mono (same_upd h5))⟩
theorem T.toD {f : PF.Env → M R} {Q : VK} (h : T C W (okD C.K) (fun ρ => (f ρ).toD) σ H Q) : T C W (okR C.K) f σ H Q := by
  obtain ⟨G, ρ, st, fin⟩ := h
  replace fin : Fin C W (okD C.K) H σ ((f ρ).toD) G H Q := fin
  refine ⟨G, ρ, st, ?_⟩
  cases q : f ρ with
  | no => rw [q] at fin; exact fin
  | ex c => rw [q] at fin; exact fin
  | ok r =>
    rw [q] at fin
    intro v G1 H1 e o
    obtain ⟨G2, e2, _, rp⟩ := frz_res e o
    exact fin v G2 H1 e2 rp
theorem T.toP {f : PF.Env → M R} {Q : VK} (h : T C W (okP C.K) f σ H Q) : T C W (okR C.K) f σ H Q := by
  obtain ⟨G, ρ, st, fin⟩ := h
  refine ⟨G, ρ, st, ?_⟩
  cases q : f ρ with
  | no => rw [q] at fin; exact fin
  | ex c => rw [q] at fin; exact fin
  | ok r => rw [q] at fin; exact fun v G1 H1 e o => fin v G1 H1 e o.pk
/-- the end: a value that is there -/
theorem Fin.here {α β : Type} {ok : Hp → Hp → Hp → β → α → Prop} {m : M α} {Q : β → Hp → Prop} {a : α} (h : Fin C W ok Hb σ m G H Q) (e : m = .ok a) (s : Same G H) {b : β} (o : ok G H Hb b a) : Q b H := by
  subst e
  exact h b G H (Ext.refl s) o
end
section
variable {X : Cx} {e a b : Expr}
theorem PE.imp {t t' : TE} (h : PE X e t) (i : ∀ σ H Q, t' σ H Q → t σ H Q) : PE X e t' := ⟨fun pins s σ H Q I q => h.run pins s σ H Q I (i σ H Q q)⟩
theorem PT.imp {t t' : TT} (h : PT X e t) (i : ∀ σ H Q, t' σ H Q → t σ H Q) : PT X e t' := ⟨fun pins s σ H Q I q => h.run pins s σ H Q I (i σ H Q q)⟩
theorem PW.imp {t t' : TT} (h : PW X e t) (i : ∀ σ H Q, t' σ H Q → t σ H Q) : PW X e t' := ⟨fun wh pins s σ H Q I q => h.run wh pins s σ H Q I (i σ H Q q)⟩
theorem PA.imp {es : List Expr} {t t' : TA} (h : PA X es t) (i : ∀ σ H Q, t' σ H Q → t σ H Q) : PA X es t' := ⟨fun pos pins s σ H Q I q => h.run pos pins s σ H Q I (i σ H Q q)⟩
theorem PS.imp {st : Stmt} {t t' : TS} (h : PS X st t) (i : ∀ D σ H, t' D σ H → t D σ H) : PS X st t' := ⟨fun pins s σ H D I q => h.run pins s σ H D I (i D σ H q)⟩
theorem PSs.imp {st : List Stmt} {t t' : TS} (h : PSs X st t) (i : ∀ D σ H, t' D σ H → t D σ H) : PSs X st t' := ⟨fun pins s σ H D I q => h.run pins s σ H D I (i D σ H q)⟩
theorem PG.imp {tg : Expr} {t t' : TG} (h : PG X tg t) (i : ∀ v σ H Q, t' v σ H Q → t v σ H Q) : PG X tg t' := ⟨fun pins s σ H v u Q I r q => h.run pins s σ H v u Q I r (i v σ H Q q)⟩
theorem PGs.imp {tg : List Expr} {t t' : TGs} (h : PGs X tg t) (i : ∀ v σ H Q, t' v σ H Q → t v σ H Q) : PGs X tg t' := ⟨fun pins s σ H v u Q I r q => h.run pins s σ H v u Q I r (i v σ H Q q)⟩
theorem PI.imp {tg it : Expr} {t t' : TI} (h : PI X tg it t) (i : ∀ σ H R, t' σ H R → t σ H R) : PI X tg it t' := ⟨fun pins s σ H R I q => h.run pins s σ H R I (i σ H R q)⟩
theorem PTs.imp {es : List Expr} {t t' : TT} (h : PTs X es t) (i : ∀ σ H Q, t' σ H Q → t σ H Q) : PTs X es t' := ⟨fun pins s σ H Q I q => h.run pins s σ H Q I (i σ H Q q)⟩
/-- by the ways of a reading -/
theorem PE.by {t' : TE} (i : ∀ σ H Q, t' σ H Q → ∃ t, PE X e t ∧ t σ H Q) : PE X e t' := ⟨fun pins s σ H Q I q => by
  obtain ⟨t, h, q⟩ := i σ H Q q
  exact h.run pins s σ H Q I q⟩
end
/-! ### operations raise nothing of themselves -/
theorem binI_ex {op : Operator} {i j : Int} {c : Nat} : binI op i j ≠ .ex c := by
  cases op <;> simp only [binI, M.chk] <;> (try split) <;> simp
theorem binD_ex {op : Operator} {a b : R} {c : Nat} : binD op a b ≠ .ex c := by
  unfold binD
  split
  · exact binI_ex
  all_goals (first | (cases op <;> simp only [M.chk] <;> (try split) <;> simp; done) | (cases op <;> cases a <;> simp only [M.chk] <;> (try split) <;> simp; done) | simp)
theorem negD_ex {a : R} {c : Nat} : negD a ≠ .ex c := by unfold negD; split <;> simp
theorem signD_ex {neg : Bool} {a : R} {z : Str} {c : Nat} : signD neg a z ≠ .ex c := by
  unfold signD boolR
  repeat' split
  all_goals simp
theorem cmpD_ex {op : CmpOp} {a b : R} {c : Nat} : cmpD op a b ≠ .ex c := by
  cases op <;> simp only [cmpD, M.chk, boolR] <;> (repeat' split) <;> first | exact signD_ex | simp
theorem truthy_ex {a : R} {c : Nat} : truthy a ≠ .ex c := by
  unfold truthy M.chk
  repeat' split
  all_goals simp
theorem opt_ex {α : Type} {o : Option α} {c : Nat} : M.opt o ≠ .ex c := by cases o <;> simp [M.opt]
theorem ixD_ex {a b : R} {c : Nat} : ixD a b ≠ .ex c := by
  unfold ixD
  split
  · rename_i xs k _ _
    cases atI xs k <;> simp [M.opt]
  · rename_i xs k _ _
    cases atI xs k <;> simp [M.opt]
  · rename_i z k _ _
    simp only [M.chk]
    split
    · cases atI z.cps.toList k <;> simp [M.opt]
    · simp
  · simp
theorem slD_ex {a : R} {l h : Option Int} {c : Nat} : slD a l h ≠ .ex c := by
  unfold slD
  split
  · simp
  · simp
  · simp only [M.chk]; split <;> simp
  · simp
theorem partD_ex {d : D} {c : Nat} : partD d ≠ .ex c := by unfold partD; split <;> simp
theorem isTy_ex {t : Ty} {d : D} {c : Nat} : isTy t d ≠ .ex c := by unfold isTy; split <;> simp
theorem maxI_ex {l : List Int} {c : Nat} : maxI l ≠ .ex c := by cases l <;> simp [maxI]
theorem minI_ex {l : List Int} {c : Nat} : minI l ≠ .ex c := by cases l <;> simp [minI]
theorem bltD_ex {b : Blt} {rs : List R} {c : Nat} : bltD b rs ≠ .ex c := by
  unfold bltD
  repeat' split
  all_goals first
    | (simp; done)
    | (simp only [M.chk]; split <;> simp; done)
    | skip
  all_goals first
    | (rename_i x _; simp only [M.chk]; split <;> first | (cases PySem.intText? x <;> simp [M.opt]; done) | simp)
    | skip
  all_goals (rename_i xs _; cases intsD xs <;> first | (simp [M.opt]; done) | (simp only [M.opt, M.bind_ok]; first | exact maxI_ex | exact minI_ex | simp))
theorem okOf {α : Type} {m : M α} (h1 : m ≠ .no) (h2 : ∀ c, m ≠ .ex c) : ∃ a, m = .ok a := by
  cases m with
  | ok a => exact ⟨a, rfl⟩
  | ex c => exact absurd rfl (h2 c)
  | no => exact absurd rfl h1
section
variable {α β : Type} {C : Cfg} {W : WX} {ok : Hp → Hp → Hp → β → α → Prop} {σ : L2.St} {G H Hb : Hp} {m : M α} {Q : β → Hp → Prop}
theorem Fin.okE (h : Fin C W ok Hb σ m G H Q) (ne : ∀ c, m ≠ .ex c) : ∃ a, m = .ok a ∧ ∀ b G' H', Ext G H G' H' → ok G' H' Hb b a → Q b H' := by
  cases m with
  | no => exact h.elim
  | ex c => exact absurd rfl (ne c)
  | ok a => exact ⟨a, rfl, h⟩
end
end PF

end

section
/-! PFit: enumerate and zip of lists and tuples in any mix, as walks. -/
namespace PySem
open Sem (wp)
set_option maxHeartbeats 1000000 in
theorem meets_enumerate_newB1 {v : Value} {o : Obj} {H : Heap → Prop} (B : Begins v o H) :
    Meets (Builtin.«enumerate.__new__» ⟨[.type "enumerate", v], []⟩) (fun _ R s => H s.heap ∧
      R (.ok (.ret (.ref (s.heap.push o).objs.size))) { s with heap := (s.heap.push o).push { cls := .type "enumerate", data := .fields #[.none, .bool false, .ref s.heap.objs.size, rawInt 0, .none, .none] } }) :=
  .of_wp fun prog w A R s h => by
    obtain ⟨hp, g, d, tk, os⟩ := s; obtain ⟨h1, h⟩ := h
    have hsub := sub_enumerate
    have q1 : ∀ {A' : Around} {E : Value → Shared → Prop} {Q : Value → Shared → Prop}, Q (.ref hp.objs.size) ⟨hp.push o, g, d, tk, os⟩ → wpAny (model prog w) A' (pyIter v) Q E ⟨hp, g, d, tk, os⟩ :=
      fun q => B.iter prog w _ _ ⟨hp, g, d, tk, os⟩ _ h1 q
    wp_walk using q1
    refine wpAny_stack_any fun st => wpAny_pure ?_
    split
    · rename_i c _ _ _ _ _
      cases (c == Value.type "enumerate")
      · wp_walk using q1
        exact ⟨_, rfl, h⟩
      · wp_walk using q1
        exact ⟨_, rfl, h⟩
    · wp_walk using q1
      exact ⟨_, rfl, h⟩
theorem enum_begins1 {prog : Program} {w : World} {A : Around} {E : Value → Shared → Prop} {s : Shared} {v : Value} {o : Obj} {H : Heap → Prop} {Q : Value → Shared → Prop} (B : Begins v o H) (h1 : H s.heap)
    (h : ∀ h', IsEnum h' (s.heap.objs.size + 1) s.heap.objs.size 0 .none → h'.get? s.heap.objs.size = some o → h'.objs.size = s.heap.objs.size + 2 →
      (∀ b o, s.heap.get? b = some o → h'.get? b = some o) → Q (.ref (s.heap.objs.size + 1)) { s with heap := h' }) :
    wpAny (model prog w) A (call (.type "enumerate") [v]) Q E s := by
  refine callType_new F.called_enumerate (by decide) (F.typeCall_enumerate_1 _) (F.newCall_enumerate_1 _) (fun obj => F.args_object_init_2 obj _) F.entry_enumerate_new
    (meets_enumerate_newB1 B) ⟨h1, ?_⟩
  have hz : (s.heap.push o).objs.size = s.heap.objs.size + 1 := Heap.size_push ..
  show _ ∧ _
  rw [hz]
  have he : IsEnum ((s.heap.push o).push { cls := .type "enumerate", data := .fields #[.none, .bool false, .ref s.heap.objs.size, rawInt 0, .none, .none] }) (s.heap.objs.size + 1) s.heap.objs.size 0 .none := by
    have := Heap.get?_push_size (s.heap.push o) (o := { cls := .type "enumerate", data := .fields #[.none, .bool false, .ref s.heap.objs.size, rawInt 0, .none, .none] }) rfl
    rw [hz] at this; exact this
  refine ⟨⟨_, he, rfl⟩, h _ he (Heap.get?_push_of_some _ (Heap.get?_push_size _ B.free)) (by rw [Heap.size_push, hz]) fun b o x => Heap.get?_push_of_some _ (Heap.get?_push_of_some _ x)⟩
end PySem
namespace PF
open PySem PySem.Spec PyProof.Rows L2

/-- a list (false) or a tuple (true) that is read -/
def Sq (K : Fr) (tp : Bool) (H : Hp) (a : Addr) (xs : List V) : Prop := if tp then SqT K H a xs else SqL K H a xs
def HSq (tp : Bool) (h : Heap) (a : Addr) (its : Array Value) : Prop := if tp then h.IsTuple a its else h.IsList a its
def ISq (tp : Bool) (h : Heap) (it a : Addr) (i : Nat) : Prop := if tp then h.IsTupleIter it a i else h.IsListIter it a i
def iterO (tp : Bool) (a : Addr) : Obj := { cls := .type (if tp then "tuple_iterator" else "list_iterator"), data := .fields #[.ref a, .int 0 0] }
section
variable {X : Cx} {pins : List (Addr × Obj)} {σ : L2.St} {H : Hp} {s : Shared} {a : Addr} {xs ys : List V} {tp : Bool}
theorem Sq.read (I : Inv X pins σ H s) (h : Sq X.K tp H a xs) : ∃ its : List Value, Vals xs its ∧ HSq tp s.heap a its.toArray ∧ xs.length ≤ sizeLine := by
  cases tp with
  | true =>
    obtain ⟨its, r, p, z⟩ := I.tuple (show SqT X.K H a xs from h)
    exact ⟨its, r, p, z⟩
  | false =>
    obtain ⟨its, r, p, z⟩ := I.list (show SqL X.K H a xs from h)
    exact ⟨its, r, p.isList, z⟩
theorem Sq.inj (I : Inv X pins σ H s) (h : Sq X.K tp H a xs) (h' : Sq X.K tp H a ys) : xs = ys := by
  cases tp with
  | true => exact I.tuple_inj (show SqT X.K H a xs from h) (show SqT X.K H a ys from h')
  | false => exact I.list_inj (show SqL X.K H a xs from h) (show SqL X.K H a ys from h')
theorem sq_begins (tp : Bool) (a : Addr) (its : Array Value) : Begins (.ref a) (iterO tp a) fun h => HSq tp h a its := by
  cases tp with
  | true => exact begins_tuple a its
  | false => exact begins_list a its
theorem sq_draws {prog : Program} {w : World} {A : Around} (hh : A.handled = none) (tp : Bool) (it a : Addr) (hne : a ≠ it) (items : Array Value) :
    Draws prog w A it [it, a] items.size (fun i v => items[i]? = some v) (fun i h => ISq tp h it a i ∧ HSq tp h a items) := by
  cases tp with
  | true => exact Draws.tuple hh it a hne items
  | false => exact Draws.list hh it a hne items
theorem ISq.obj {h : Heap} {it : Addr} {i : Nat} (x : ISq tp h it a i) : ∃ o, h.get? it = some o ∧ ∀ v, o.data ≠ .cell v := by
  cases tp with
  | true => obtain ⟨o, e, c, d⟩ := (show h.IsTupleIter it a i from x); exact ⟨o, e, fun v z => by rw [d] at z; cases z⟩
  | false => obtain ⟨o, e, c, d⟩ := (show h.IsListIter it a i from x); exact ⟨o, e, fun v z => by rw [d] at z; cases z⟩
theorem ISq.at {h h' : Heap} {it : Addr} {i : Nat} (x : ISq tp h it a i) (k : ∀ o, h.get? it = some o → h'.get? it = some o) : ISq tp h' it a i := by
  cases tp with
  | true => exact (show h.IsTupleIter it a i from x).at k
  | false => exact (show h.IsListIter it a i from x).at k
theorem ISq.zero {h : Heap} {it : Addr} (e : h.get? it = some (iterO tp a)) : ISq tp h it a 0 := by
  cases tp with
  | true => exact ⟨_, e, rfl, rfl⟩
  | false => exact ⟨_, e, rfl, rfl⟩
end
/-- a walk of the layer, of the library's walk of new tuples -/
theorem turn_goes {P : Program} {w : World} {K : Fr} {tg : Expr} {J : It} {fp : List Addr} {e : Addr} {tn : Nat → Heap → Prop} (mem : e ∈ fp) (obj : ∀ i h, tn i h → ∀ b ∈ fp, ∃ o, h.get? b = some o ∧ ∀ v, o.data ≠ .cell v)
    (keep : ∀ i h h', tn i h → (∀ b ∈ fp, ∀ o, h.get? b = some o → h'.get? b = some o) → tn i h')
    (self : ∀ (A : Around) (i : Nat) (s : Shared) (Q : Value → Shared → Prop) (E : Value → Shared → Prop), tn i s.heap → Q (.ref e) s → wpAny (model P w) A (pyIter (.ref e)) Q E s)
    (go : ∀ (X : Cx), X.prog = P → X.w = w → X.K = K → X.A.handled = none → ∀ (i : Nat) (pins : List (Addr × Obj)) (s : Shared) (σ : L2.St) (H : Hp), Inv X pins σ H s → (∀ b ∈ fp, FpOk X pins H b) → tn i s.heap → J.go i H →
      ∃ fp' wr n Y St, GoesN P w X.A tg e fp' wr n Y St ∧ (∀ b ∈ wr, b ∈ fp) ∧ i < n ∧ St i s.heap ∧ (∀ h', St (i + 1) h' → tn (i + 1) h') ∧
        ∀ v h', Y i s.heap v h' → ∃ T xs vals, v = .ref T ∧ s.heap.objs.size ≤ T ∧ h'.IsTuple T (List.toArray vals) ∧ Vals xs vals ∧ xs.length ≤ sizeLine ∧ J.yld i H (.ref T) (upd H T (.tup xs)))
    (stop : ∀ (X : Cx), X.prog = P → X.w = w → X.K = K → X.A.handled = none → ∀ (i : Nat) (pins : List (Addr × Obj)) (s : Shared) (σ : L2.St) (H : Hp), Inv X pins σ H s → (∀ b ∈ fp, FpOk X pins H b) → tn i s.heap → J.stop i H →
      ∃ fp' wr Y St, GoesN P w X.A tg e fp' wr i Y St ∧ (∀ b ∈ wr, b ∈ fp) ∧ St i s.heap) : Turn P w K tg J fp e tn where
  mem := mem
  obj := obj
  keep := keep
  self := self
  item := by
    intro X hP hw hK hc i pins s σ H E I hf st hg
    obtain ⟨fp', wr, n, Y, S, W, hwr, hi, hs, hn, hy⟩ := go X hP hw hK (I.ok.hd hc) i pins s σ H I hf st hg
    refine wpAny_mono (W.goes i s (fun v s2 => ∃ x H', Inv X pins σ H' s2 ∧ RelV x v ∧ J.yld i H x H' ∧ tn (i + 1) s2.heap ∧ ∀ b ∈ fp, H' b = none) E hi hs fun v h' tk hY hs' hk htk => ?_) (fun r s1 h1 => h1) fun _ _ h => h
    obtain ⟨T, xs, vals, rfl, hT, ht, hv, hl, yl⟩ := hy v h' hY
    have new : ObjOk X.prog X.w (upd H T (.tup xs)) h' T (.tup xs) := ⟨hl, vals, hv, ht⟩
    have kk : ∀ b o, b ∉ fp → s.heap.get? b = some o → h'.get? b = some o := fun b o hb q => hk b o (fun z => hb (hwr b z)) q
    have I1 : Inv X pins σ (upd H T (.tup xs)) { s with heap := h', toks := tk } := I.turnedNew (ch := fp) kk hf hT new
    refine ⟨.ref T, _, I1, rfl, yl, hn h' hs', fun b hb => ?_⟩
    obtain ⟨o, q, _⟩ := obj i _ st b hb
    rw [upd_ne (Nat.ne_of_lt (Nat.lt_of_lt_of_le (Heap.lt_size q) hT))]
    exact (hf b hb).1
  done := by
    intro X hP hw hK hc i pins s σ H E I hf st hg
    obtain ⟨fp', wr, Y, S, W, hwr, hs⟩ := stop X hP hw hK (I.ok.hd hc) i pins s σ H I hf st hg
    refine W.stops s (fun s1 => Inv X pins σ H s1) E hs fun h' tk hk htk => ?_
    exact I.turnedL (t' := tk) (ch := fp) (fun b o hb q => hk b o (fun z => hb (hwr b z)) q) hf
/-! ### enumerate -/
def ItE (K : Fr) (tp : Bool) (a : Addr) : It :=
  ⟨fun i H => ∃ (xs : List V) (x : V), Sq K tp H a xs ∧ xs[i]? = some x, fun i H v H' => ∃ T x, v = .ref T ∧ H T = none ∧ H' = upd H T (.tup [.int (i : Nat), x]) ∧ ∀ xs, Sq K tp H a xs → xs[i]? = some x, fun i H => ∃ xs : List V, Sq K tp H a xs ∧ xs.length = i⟩
theorem hsq_data {tp : Bool} {h : Heap} {a : Addr} {its : Array Value} (p : HSq tp h a its) : ∃ o n, h.get? a = some o ∧ o.data = .seq its n := by
  cases tp with
  | true => obtain ⟨o, e, _, n, d⟩ := (show h.IsTuple a its from p); exact ⟨o, n, e, d⟩
  | false => obtain ⟨o, e, _, n, d⟩ := (show h.IsList a its from p); exact ⟨o, n, e, d⟩
theorem isq_data {tp : Bool} {h : Heap} {it a : Addr} {i : Nat} (p : ISq tp h it a i) : ∃ o vs, h.get? it = some o ∧ o.data = .fields vs := by
  cases tp with
  | true => obtain ⟨o, e, _, d⟩ := (show h.IsTupleIter it a i from p); exact ⟨o, _, e, d⟩
  | false => obtain ⟨o, e, _, d⟩ := (show h.IsListIter it a i from p); exact ⟨o, _, e, d⟩
theorem sq_ne {tp : Bool} {h : Heap} {a b : Addr} {its : Array Value} {o : Obj} {vs : Array Value} (p : HSq tp h a its) (e : h.get? b = some o) (d : o.data = .fields vs) : a ≠ b := fun z => by
  subst z
  obtain ⟨o', n, e', d'⟩ := hsq_data p
  rw [e] at e'
  cases e'
  rw [d] at d'
  cases d'
theorem turn_enumQ {P : Program} {w : World} {K : Fr} {elts : List Expr} {kk : Nat} {tpos : Pos} (tp : Bool) (a e it : Addr) (hei : e ≠ it) :
    Turn P w K (.Tuple elts kk tpos) (ItE K tp a) [e, it] e (fun i h => (∃ old, IsEnum h e it ((i : Nat) : Int) old) ∧ ISq tp h it a i) := by
  refine turn_goes (by simp) (fun i h st b hb => ?_) (fun i h h' st k => ?_) (fun A i s Q E st h => ?_) (fun X hP hw hK hh i pins s σ H I hf st hg => ?_) (fun X hP hw hK hh i pins s σ H I hf st hg => ?_)
  · obtain ⟨⟨old, he⟩, hi⟩ := st
    have e' : b = e ∨ b = it := by simpa using hb
    rcases e' with z | z
    · rw [z]; exact ⟨_, he, fun v q => nomatch q⟩
    · rw [z]; exact hi.obj
  · obtain ⟨⟨old, he⟩, hi⟩ := st
    exact ⟨⟨old, k e (by simp) _ he⟩, hi.at fun o q => k it (by simp) o q⟩
  · obtain ⟨⟨old, he⟩, hi⟩ := st
    exact wpAny_pyIter_enum he h
  · subst hP hw
    obtain ⟨⟨old, he⟩, hi⟩ := st
    subst hK
    obtain ⟨xs, x, hq, hx⟩ := hg
    obtain ⟨its, rv, p, hz⟩ := hq.read I
    have hl := rv.length
    obtain ⟨_, _, hi1, hi2⟩ := isq_data hi
    have hne : a ≠ it := sq_ne p hi1 hi2
    have hae : a ≠ e := sq_ne p he rfl
    have D := sq_draws (prog := X.prog) (w := X.w) (A := X.A.in1) hh tp it a hne its.toArray
    have W := GoesN.enumFrom (elts := elts) (x1 := kk) (pos := tpos) 0 D e hei (by simp; exact ⟨hei, Ne.symm hae⟩) (by simp)
    have hil : i < its.length := by rw [← hl]; exact (List.getElem?_eq_some_iff.mp hx).1
    refine ⟨_, _, _, _, _, W, fun b hb => hb, by simpa using hil, ⟨⟨old, by simpa using he⟩, hi, p⟩, fun h' ⟨⟨o2, h1⟩, h2, _⟩ => ⟨⟨o2, by simpa using h1⟩, h2⟩, fun v h' hY => ?_⟩
    obtain ⟨T, t, u, rfl, hT, hu, hIs⟩ := hY
    obtain ⟨u', hu', ru⟩ := rv.get hx
    have eu : u = u' := by
      have hu2 : its[i]? = some u := by simpa using hu
      rw [hu'] at hu2; exact (Option.some.inj hu2).symm
    subst eu
    refine ⟨T, [.int (i : Nat), x], [.int (0 + (i : Int)) t, u], rfl, hT, hIs, .cons ⟨t, by simp⟩ (.cons ru .nil), by show 2 ≤ sizeLine; decide, T, x, rfl, I.hok.fresh hT, rfl, fun ys hy => by rw [hy.inj I hq]; exact hx⟩
  · subst hP hw
    obtain ⟨⟨old, he⟩, hi⟩ := st
    subst hK
    obtain ⟨xs, hq, hx⟩ := hg
    obtain ⟨its, rv, p, hz⟩ := hq.read I
    have hl := rv.length
    obtain ⟨_, _, hi1, hi2⟩ := isq_data hi
    have hne : a ≠ it := sq_ne p hi1 hi2
    have hae : a ≠ e := sq_ne p he rfl
    have D := sq_draws (prog := X.prog) (w := X.w) (A := X.A.in1) hh tp it a hne its.toArray
    have W := GoesN.enumFrom (elts := elts) (x1 := kk) (pos := tpos) 0 D e hei (by simp; exact ⟨hei, Ne.symm hae⟩) (by simp)
    have en : its.toArray.size = i := by simp; omega
    rw [en] at W
    exact ⟨_, _, _, _, W, fun b hb => hb, ⟨⟨old, by simpa using he⟩, hi, p⟩⟩
def iEnumQ (K : Fr) (ta : TA) : TI := fun σ H R => ta σ H fun vs H1 => ∃ tp a xs, vs = [.ref a] ∧ Sq K tp H1 a xs ∧ R (ItE K tp a) H1
theorem pi_enumQ {X : Cx} {e : Expr} {ta : TA} {p pos tpos : Pos} {elts : List Expr} {kk : Nat} (hg : Gl X "enumerate") (hm : X.mg "enumerate" = none) (ha : PA X [e] ta) (hs : starEach [e] X.env = [(false, eval e X.env)]) :
    PI X (.Tuple elts kk tpos) (.Call (.Name "enumerate" p) [e] [] pos) (iEnumQ X.K ta) := by
  refine ⟨fun pins s σ H R I h => ?_⟩
  refine Call_ (ld_blt I hg hm boot_enumerate (PyProof.Rows.callWith_type1 (thn (ha.run pos pins s σ H _ I h) fun us s1 ⟨vs, H1, I1, r1, q1⟩ => ?_) hs rfl))
  obtain ⟨tp, a, xs, ex, hq, q⟩ := q1
  subst ex
  cases r1 with
  | cons r rr =>
    cases rr
    cases r
    obtain ⟨its, rv, p', hz⟩ := hq.read I1
    refine enum_begins1 (sq_begins tp a its.toArray) p' fun h' he hit hsz hk => wpAny_pyIter_enum he ?_
    have I2 : Inv X pins σ H1 { s1 with heap := h' } := I1.kept (t' := s1.toks) hk
    refine ⟨s1.heap.objs.size + 1, [s1.heap.objs.size + 1, s1.heap.objs.size], _, _, H1, rfl, I2, turn_enumQ tp a (s1.heap.objs.size + 1) s1.heap.objs.size (Nat.succ_ne_self _), ⟨⟨.none, he⟩, ISq.zero hit⟩, fun b hb => ?_, q⟩
    have e' : b = s1.heap.objs.size + 1 ∨ b = s1.heap.objs.size := by simpa using hb
    have hle : s1.heap.objs.size ≤ b := by
      rcases e' with z | z
      · rw [z]; exact Nat.le_add_right _ _
      · rw [z]; exact Nat.le_refl _
    exact I1.fpOk hle (I1.hok.fresh hle)
/-! ### zip -/
def ItZ (K : Fr) (tp tp' : Bool) (a b : Addr) : It :=
  ⟨fun i H => ∃ (xs ys : List V) (x y : V), Sq K tp H a xs ∧ Sq K tp' H b ys ∧ xs[i]? = some x ∧ ys[i]? = some y,
    fun i H v H' => ∃ T x y, v = .ref T ∧ H T = none ∧ H' = upd H T (.tup [x, y]) ∧ (∀ xs, Sq K tp H a xs → xs[i]? = some x) ∧ ∀ ys, Sq K tp' H b ys → ys[i]? = some y,
    fun i H => ∃ xs ys : List V, Sq K tp H a xs ∧ Sq K tp' H b ys ∧ min xs.length ys.length = i⟩
theorem turn_zipQ {P : Program} {w : World} {K : Fr} {elts : List Expr} {kk : Nat} {tpos : Pos} (tp tp' : Bool) (a b N : Addr) (ha : a < N) (hb : b < N) :
    Turn P w K (.Tuple elts kk tpos) (ItZ K tp tp' a b) [N + 4, N + 2, N + 3, N, N + 1] (N + 4)
      (fun i h => IsZip h (N + 4) (N + 2) (N + 3) .none ∧ IsTupOf2 h (N + 2) (.ref N) (.ref (N + 1)) ∧ (∃ a1 a2, IsTupOf2 h (N + 3) a1 a2) ∧ ISq tp h N a i ∧ ISq tp' h (N + 1) b i) := by
  have S : ZipSep2 (N + 4) (N + 2) (N + 3) N (N + 1) [N, a] [N + 1, b] := zip_sep2 (N := N) (fp1 := [a]) (fp2 := [b]) (by simp; exact ha) (by simp; exact hb)
  refine turn_goes (by simp) (fun i h st c hc => ?_) (fun i h h' st k => ?_) (fun A i s Q E st h => ?_) (fun X hP hw hK hh i pins s σ H I hf st hg => ?_) (fun X hP hw hK hh i pins s σ H I hf st hg => ?_)
  · obtain ⟨hz, hTI, ⟨x, y, hTO⟩, h1, h2⟩ := st
    have e' : c = N + 4 ∨ c = N + 2 ∨ c = N + 3 ∨ c = N ∨ c = N + 1 := by simpa using hc
    rcases e' with q | q | q | q | q
    · rw [q]; exact ⟨_, hz, fun v q => nomatch q⟩
    · rw [q]; exact ⟨_, hTI, fun v q => nomatch q⟩
    · rw [q]; exact ⟨_, hTO, fun v q => nomatch q⟩
    · rw [q]; exact h1.obj
    · rw [q]; exact h2.obj
  · obtain ⟨hz, hTI, ⟨x, y, hTO⟩, h1, h2⟩ := st
    exact ⟨k (N + 4) (by simp) _ hz, k (N + 2) (by simp) _ hTI, ⟨x, y, k (N + 3) (by simp) _ hTO⟩, h1.at fun o q => k N (by simp) o q, h2.at fun o q => k (N + 1) (by simp) o q⟩
  · obtain ⟨hz, _⟩ := st
    exact wpAny_pyIter_zip hz h
  · subst hP hw
    obtain ⟨hz, hTI, hTO, h1, h2⟩ := st
    subst hK
    obtain ⟨xs, ys, x, y, hqx, hqy, hx, hy⟩ := hg
    obtain ⟨its, rv, p, _⟩ := hqx.read I
    obtain ⟨its2, rv2, p2, _⟩ := hqy.read I
    have hl := rv.length
    have hl2 := rv2.length
    have D1 := sq_draws (prog := X.prog) (w := X.w) (A := X.A.in1) hh tp N a (Nat.ne_of_lt ha) its.toArray
    have D2 := sq_draws (prog := X.prog) (w := X.w) (A := X.A.in1) hh tp' (N + 1) b (Nat.ne_of_lt (Nat.lt_succ_of_lt hb)) its2.toArray
    have W := GoesN.zip2 (elts := elts) (x1 := kk) (pos := tpos) S D1 D2
    have hi1 : i < its.length := by rw [← hl]; exact (List.getElem?_eq_some_iff.mp hx).1
    have hi2 : i < its2.length := by rw [← hl2]; exact (List.getElem?_eq_some_iff.mp hy).1
    refine ⟨_, _, _, _, _, W, fun b hb => ?_, by simp; omega, ⟨hz, hTI, hTO, ⟨h1, p⟩, ⟨h2, p2⟩⟩, fun h' ⟨g1, g2, g3, ⟨g4, _⟩, ⟨g5, _⟩⟩ => ⟨g1, g2, g3, g4, g5⟩, fun v h' hY => ?_⟩
    · simp at hb ⊢; rcases hb with q | q | q | q <;> simp [q]
    obtain ⟨T, u, u2, rfl, hT, hu, hu2, hIs⟩ := hY
    obtain ⟨w1, hw1, ru⟩ := rv.get hx
    obtain ⟨w2, hw2, ru2⟩ := rv2.get hy
    have e1 : u = w1 := by
      have q : its[i]? = some u := by simpa using hu
      rw [hw1] at q; exact (Option.some.inj q).symm
    have e2 : u2 = w2 := by
      have q : its2[i]? = some u2 := by simpa using hu2
      rw [hw2] at q; exact (Option.some.inj q).symm
    subst e1 e2
    exact ⟨T, [x, y], [u, u2], rfl, hT, hIs, .cons ru (.cons ru2 .nil), by show 2 ≤ sizeLine; decide, T, x, y, rfl, I.hok.fresh hT, rfl, fun zs hz' => by rw [hz'.inj I hqx]; exact hx, fun zs hz' => by rw [hz'.inj I hqy]; exact hy⟩
  · subst hP hw
    obtain ⟨hz, hTI, hTO, h1, h2⟩ := st
    subst hK
    obtain ⟨xs, ys, hqx, hqy, hm⟩ := hg
    obtain ⟨its, rv, p, _⟩ := hqx.read I
    obtain ⟨its2, rv2, p2, _⟩ := hqy.read I
    have hl := rv.length
    have hl2 := rv2.length
    have D1 := sq_draws (prog := X.prog) (w := X.w) (A := X.A.in1) hh tp N a (Nat.ne_of_lt ha) its.toArray
    have D2 := sq_draws (prog := X.prog) (w := X.w) (A := X.A.in1) hh tp' (N + 1) b (Nat.ne_of_lt (Nat.lt_succ_of_lt hb)) its2.toArray
    have W := GoesN.zip2 (elts := elts) (x1 := kk) (pos := tpos) S D1 D2
    have en : min its.toArray.size its2.toArray.size = i := by simp; omega
    rw [en] at W
    refine ⟨_, _, _, _, W, fun b hb => ?_, ⟨hz, hTI, hTO, ⟨h1, p⟩, ⟨h2, p2⟩⟩⟩
    simp at hb ⊢; rcases hb with q | q | q | q <;> simp [q]
def iZipQ (K : Fr) (ta : TA) : TI := fun σ H R => ta σ H fun vs H1 => ∃ tp tp' a b xs ys, vs = [.ref a, .ref b] ∧ Sq K tp H1 a xs ∧ Sq K tp' H1 b ys ∧ R (ItZ K tp tp' a b) H1
theorem Sq.lt {X : Cx} {pins : List (Addr × Obj)} {σ : L2.St} {H : Hp} {s : Shared} {a : Addr} {xs : List V} {tp : Bool} (I : Inv X pins σ H s) (h : Sq X.K tp H a xs) : a < s.heap.objs.size := by
  obtain ⟨its, _, p, _⟩ := h.read I
  obtain ⟨o, n, e, _⟩ := hsq_data p
  exact Heap.lt_size e
theorem pi_zipQ {X : Cx} {e e2 : Expr} {ta : TA} {p pos tpos : Pos} {elts : List Expr} {kk : Nat} (hg : Gl X "zip") (hm : X.mg "zip" = none) (ha : PA X [e, e2] ta)
    (hs : starEach [e, e2] X.env = [(false, eval e X.env), (false, eval e2 X.env)]) (hs2 : starEach [e2] X.env = [(false, eval e2 X.env)]) :
    PI X (.Tuple elts kk tpos) (.Call (.Name "zip" p) [e, e2] [] pos) (iZipQ X.K ta) := by
  refine ⟨fun pins s σ H R I h => ?_⟩
  refine Call_ (ld_blt I hg hm (show bootBuiltins "zip" = some (Value.type "zip") by decide +kernel) (PyProof.Rows.callWith_type1 (thn (ha.run pos pins s σ H _ I h) fun us s1 ⟨vs, H1, I1, r1, q1⟩ => ?_) (by rw [hs, hs2]) (by rw [hs2]; rfl)))
  obtain ⟨tp, tp', a, b, xs, ys, ex, hqx, hqy, q⟩ := q1
  subst ex
  cases r1 with
  | cons r rr =>
    cases rr with
    | cons r' rr =>
      cases rr
      cases r
      cases r'
      obtain ⟨its, rv, p1, _⟩ := hqx.read I1
      obtain ⟨its2, rv2, p2, _⟩ := hqy.read I1
      refine zip_begins2 (sq_begins tp a its.toArray) (sq_begins tp' b its2.toArray) p1 p2 fun h' hz hTI hTO g1 g2 hsz hk => wpAny_pyIter_zip hz ?_
      have I2 : Inv X pins σ H1 { s1 with heap := h' } := I1.kept (t' := s1.toks) hk
      refine ⟨s1.heap.objs.size + 4, [s1.heap.objs.size + 4, s1.heap.objs.size + 2, s1.heap.objs.size + 3, s1.heap.objs.size, s1.heap.objs.size + 1], _, _, H1, rfl, I2,
        turn_zipQ tp tp' a b s1.heap.objs.size (hqx.lt I1) (hqy.lt I1), ⟨hz, hTI, ⟨_, _, hTO⟩, ISq.zero g1, ISq.zero g2⟩, fun c hc => ?_, q⟩
      have e' : c = s1.heap.objs.size + 4 ∨ c = s1.heap.objs.size + 2 ∨ c = s1.heap.objs.size + 3 ∨ c = s1.heap.objs.size ∨ c = s1.heap.objs.size + 1 := by simpa using hc
      have hle : s1.heap.objs.size ≤ c := by
        rcases e' with z | z | z | z | z <;> rw [z] <;> first | exact Nat.le_refl _ | exact Nat.le_add_right _ _
      exact I1.fpOk hle (I1.hok.fresh hle)
end PF

end

section
/-! PF4: expressions, construct by construct. -/
namespace PF
open PySem PySem.Spec PyProof.Rows L2

/-- plain as an argument: no star -/
def NoStar : Expr → Prop
  | .Starred _ _ => False
  | _ => True
theorem star1 {e : Expr} {es : List Expr} {env : PySem.Env} (h : NoStar e) : starEach (e :: es) env = (false, eval e env) :: starEach es env := by
  cases e <;> first | rfl | exact h.elim
theorem star_none {env : PySem.Env} {pos : Pos} : ∀ {es : List Expr}, (∀ e ∈ es, NoStar e) → (backTo pos (starEach es env)).any (·.1) = false
  | [], _ => rfl
  | e :: es, h => by
    rw [star1 (h e (by simp))]
    have ih := star_none (env := env) (pos := pos) (es := es) fun x hx => h x (by simp [hx])
    unfold backTo at ih ⊢
    rw [List.map_cons, List.any_cons, ih]
    rfl
/-- what e is told to be: a value, a value that is looked at, a test -/
structure Snd (F : Nat → List D → M R) (C : Cfg) (W : WX) (X : Cx) (e : Expr) (c : CE) : Prop where
  val : PE X e (T C W (okR C.K) (ev F c))
  pk : PE X e (T C W (okP C.K) fun ρ => PF.pk c ρ (ev F c ρ))
  tst : PT X e (T C W okB fun ρ => (PF.pk c ρ (ev F c ρ)).bind truthy)
  ns : NoStar e
  nset : ∀ env x, foldedSetIterable e env x = pure x
section
variable {F : Nat → List D → M R} {C : Cfg} {W : WX} {X : Cx} {e a b c : Expr} {ce ca cb cc : CE} {pos : Pos}
theorem Snd.dat (h : Snd F C W X e ce) : PE X e (T C W (okD C.K) fun ρ => (ev F ce ρ).toD) := PE.imp h.val fun _ _ _ q => T.toD q
/-- a test by the value's truth -/
theorem tst_of (hK : X.K = C.K) (h : PE X e (T C W (okP C.K) fun ρ => pk ce ρ (ev F ce ρ))) (he : ∀ whole, isTrue e X.env whole = (do let v ← whole; standAt e.pos; holding [v] (PySem.truthy v))) :
    PT X e (T C W okB fun ρ => (pk ce ρ (ev F ce ρ)).bind PF.truthy) := by
  refine PT.imp (pt_truth h he) fun σ H Q q => ?_
  obtain ⟨G, ρ, st, fin⟩ := q
  refine T.bind (ok1 := okP C.K) st fin fun x r G1 H1 e1 p1 st1 fin1 => ?_
  obtain ⟨k, ek, q⟩ := fin1.okE fun c => truthy_ex
  refine ⟨k, ?_, q k G1 H1 (Ext.refl st1.same) rfl⟩
  rw [hK]
  exact tru_of st1.same p1 ek
theorem pk_id {c : CE} {ρ : PF.Env} {m : M R} (h : ∀ i, c ≠ .var i) : pk c ρ m = m := by
  cases c <;> first | rfl | exact absurd rfl (h _)
theorem Snd.of (hK : X.K = C.K) (h : PE X e (T C W (okR C.K) (ev F ce))) (nv : ∀ i, ce ≠ .var i) (he : ∀ whole, isTrue e X.env whole = (do let v ← whole; standAt e.pos; holding [v] (PySem.truthy v))) (ns : NoStar e)
    (nset : ∀ env x, foldedSetIterable e env x = pure x) : Snd F C W X e ce := by
  have p : PE X e (T C W (okP C.K) fun ρ => PF.pk ce ρ (ev F ce ρ)) := by
    refine PE.imp h fun σ H Q q => T.toP ?_
    have : (fun ρ => PF.pk ce ρ (ev F ce ρ)) = ev F ce := by funext ρ; exact pk_id nv
    rw [this] at q
    exact q
  exact ⟨h, p, tst_of hK p he, ns, nset⟩
/-! ### names, constants -/
theorem snd_var {i : Nat} {x : Str} (hK : X.K = C.K) (hN : X.N[i]? = some x) (hv : Vis X.env.scope x) (hd : (x == ("__debug__" : Str)) = false) (hcd : (x == ("__classdict__" : Str)) = false) : Snd F C W X (.Name x pos) (.var i) := by
  have p : PE X (.Name x pos) (T C W (okP C.K) fun ρ => PF.pk (.var i) ρ (ev F (.var i) ρ)) := PE.imp (pe_var hN hv hd hcd) fun σ H Q q => by
    obtain ⟨G, ρ, st, fin⟩ := q
    replace fin : Fin C W (okP C.K) H σ (getP ρ i) G H Q := fin
    obtain ⟨r, er, q⟩ := fin.okE fun c => noEx_getP
    obtain ⟨v, h1, h2⟩ := st.getP er
    exact ⟨v, h1, q v G H (Ext.refl st.same) h2⟩
  refine ⟨PE.imp (pe_var hN hv hd hcd) fun σ H Q q => ?_, p, tst_of hK p fun _ => rfl, trivial, fun _ _ => rfl⟩
  obtain ⟨G, ρ, st, fin⟩ := q
  replace fin : Fin C W (okR C.K) H σ (getV ρ i) G H Q := by simpa only [ev] using fin
  obtain ⟨r, er, q⟩ := fin.okE fun c => noEx_getV
  obtain ⟨v, h1, h2⟩ := st.getV er
  exact ⟨v, h1, q v G H (Ext.refl st.same) (h2 H)⟩
theorem snd_con {v : V} {d : D} (hK : X.K = C.K) (h : PE X e (tC v)) (hr : ∀ G, Rep C.K G v d) (he : ∀ whole, isTrue e X.env whole = (do let v ← whole; standAt e.pos; holding [v] (PySem.truthy v))) (ns : NoStar e)
    (nset : ∀ env x, foldedSetIterable e env x = pure x) : Snd F C W X e (.con d) := by
  refine Snd.of hK (PE.imp h fun σ H Q q => ?_) (by simp) he ns nset
  obtain ⟨G, ρ, st, fin⟩ := q
  simp only [ev] at fin
  exact fin v G H (Ext.refl st.same) (hr G)
/-- {}: an empty dict that nobody writes to -/
theorem snd_emp (hK : X.K = C.K) : Snd F C W X (.Dict [] [] pos) (.con dicD) := by
  refine Snd.of hK (PE.imp pe_dnewK fun σ H Q q p hp => ?_) (by simp) (fun _ => rfl) trivial fun _ _ => rfl
  obtain ⟨G, ρ, st, fin⟩ := q
  simp only [ev] at fin
  exact fin (.ref p) _ _ (Ext.new st.same hp) (show Rep C.K _ (.ref p) dicD from .emp L2.upd_same)
/-! ### operators -/
theorem snd_bin {op : Operator} (hK : X.K = C.K) (ha : Snd F C W X a ca) (hb : Snd F C W X b cb) : Snd F C W X (.BinOp a op b pos) (.bin op ca cb) := by
  have ob : OpR X (binaryOp op) (r2 C.K (binD op)) := hK ▸ op_bin
  refine Snd.of hK (PE.imp (pe_op ob ha.pk hb.pk) fun σ H Q q => ?_) (by simp) (fun _ => rfl) trivial fun _ _ => rfl
  obtain ⟨G, ρ, st, fin⟩ := q
  simp only [ev] at fin
  refine T.bind (ok1 := okP C.K) st fin fun x ra G1 H1 e1 p1 st1 fin1 => ?_
  refine T.bind (ok1 := okP C.K) st1 fin1 fun y rb G2 H2 e2 p2 st2 fin2 => ?_
  obtain ⟨r, er, q⟩ := fin2.okE fun c => binD_ex
  exact ⟨G2, ra, rb, r, st2.same, p1.mono e2, p2, er, fun v G' H' e o => q v G' H' e (o.back (e1.trans e2).hh)⟩
theorem snd_neg (hK : X.K = C.K) (ha : Snd F C W X a ca) : Snd F C W X (.UnaryOp .USub a pos) (.neg ca) := by
  have ob : UnR X (unaryOp .USub) (r1 C.K negD) := hK ▸ un_negD
  refine Snd.of hK (PE.imp (pe_un ob ha.val) fun σ H Q q => ?_) (by simp) (fun _ => rfl) trivial fun _ _ => rfl
  obtain ⟨G, ρ, st, fin⟩ := q
  simp only [ev] at fin
  refine T.bind (ok1 := okR C.K) st fin fun x ra G1 H1 e1 p1 st1 fin1 => ?_
  obtain ⟨r, er, q⟩ := fin1.okE fun c => negD_ex
  exact ⟨G1, ra, r, st1.same, p1.pk, er, fun v G' H' e o => q v G' H' e (o.back e1.hh)⟩
/-- the parts of a comparison -/
theorem cmp_parts {op : CmpOp} {σ : L2.St} {H : Hp} {Q : VK} (q : T C W (okR C.K) (ev F (.cmp op ca cb)) σ H Q) :
    tOp (r2 C.K (cmpD op)) (T C W (okP C.K) fun ρ => pk ca ρ (ev F ca ρ)) (T C W (okP C.K) fun ρ => pk cb ρ (ev F cb ρ)) σ H Q := by
  obtain ⟨G, ρ, st, fin⟩ := q
  simp only [ev] at fin
  refine T.bind (ok1 := okP C.K) st fin fun x ra G1 H1 e1 p1 st1 fin1 => ?_
  refine T.bind (ok1 := okP C.K) st1 fin1 fun y rb G2 H2 e2 p2 st2 fin2 => ?_
  obtain ⟨r, er, q⟩ := fin2.okE fun c => cmpD_ex
  exact ⟨G2, ra, rb, r, st2.same, p1.mono e2, p2, er, fun v G' H' e o => q v G' H' e (o.back (e1.trans e2).hh)⟩
theorem signD_bool {neg : Bool} {x r : R} {z : Str} (h : signD neg x z = .ok r) : ∃ b, r = .d (.bool b) := by
  unfold signD boolR at h
  repeat' split at h
  all_goals first | (cases h; exact ⟨_, rfl⟩) | cases h
theorem cmpD_bool {op : CmpOp} {x y r : R} (h : cmpD op x y = .ok r) : ∃ b, r = .d (.bool b) := by
  cases op <;> simp only [cmpD, M.chk, boolR] at h <;> (repeat' split at h) <;> first | exact signD_bool h | (cases h; exact ⟨_, rfl⟩) | cases h
/-- a test of a bool's value -/
theorem tst_bool {ok1 : Hp → Hp → Hp → V → R → Prop} {f : PF.Env → M R} {σ : L2.St} {H : Hp} {Q : Bool → Hp → Prop} (hb : ∀ ρ r, f ρ = .ok r → ∃ b, r = .d (.bool b)) (q : T C W okB (fun ρ => (f ρ).bind truthy) σ H Q) :
    T C W (okR C.K) f σ H fun x H1 => ∃ k, x = .bl k ∧ Q k H1 := by
  obtain ⟨G, ρ, st, fin⟩ := q
  refine ⟨G, ρ, st, ?_⟩
  cases q : f ρ with
  | no => simp only [q] at fin; exact fin
  | ex c => simp only [q] at fin; exact fin
  | ok r =>
    obtain ⟨b, rfl⟩ := hb ρ r q
    simp only [q] at fin
    intro v G1 H1 e o
    cases (show Rep C.K G1 v (.bool b) from o)
    exact ⟨b, rfl, fin b G1 H1 e rfl⟩
theorem bind_bool {f : M R} {g : R → M R} {r : R} (hg : ∀ x r, g x = .ok r → ∃ b, r = .d (.bool b)) (h : f.bind g = .ok r) : ∃ b, r = .d (.bool b) := by
  cases f with
  | ok x => exact hg x r h
  | ex c => cases h
  | no => cases h
theorem snd_cmp {op : CmpOp} (hK : X.K = C.K) (hu : X.A.units + 64 < cLine) (hm : behindInMarks op b = false) (ha : Snd F C W X a ca) (hb : Snd F C W X b cb) : Snd F C W X (.Compare a [op] [b] pos) (.cmp op ca cb) := by
  have ob : OpR X (compareOp op) (r2 C.K (cmpD op)) := hK ▸ op_cmp hu
  have h1 : PE X (.Compare a [op] [b] pos) (T C W (okR C.K) (ev F (.cmp op ca cb))) := PE.imp (pe_cmpR ob ha.pk hb.pk hm) fun σ H Q q => cmp_parts q
  refine ⟨h1, PE.imp h1 fun σ H Q q => T.toP q, PT.imp (pt_cmpR ob ha.pk hb.pk hm) fun σ H Q q => ?_, trivial, fun _ _ => rfl⟩
  have q' : T C W (okR C.K) (ev F (.cmp op ca cb)) σ H fun x H1 => ∃ k, x = .bl k ∧ Q k H1 := tst_bool (ok1 := okR C.K) (fun ρ r h => by
    simp only [ev] at h
    exact bind_bool (fun x r h => bind_bool (fun y r h => cmpD_bool h) h) h) q
  exact cmp_parts q'
theorem last2 {op op' : CmpOp} (h : behindInMarks op' c = false) : lastMarks [op, op'] [b, c] = false := h
theorem chain_parts {op op' : CmpOp} {σ : L2.St} {H : Hp} {Q : VK} (q : T C W (okR C.K) (ev F (.chain op op' ca cb cc)) σ H Q) :
    tChain (r2 C.K (cmpD op)) (r2 C.K (cmpD op')) (T C W (okP C.K) fun ρ => pk ca ρ (ev F ca ρ)) (T C W (okP C.K) fun ρ => pk cb ρ (ev F cb ρ)) (T C W (okP C.K) fun ρ => pk cc ρ (ev F cc ρ)) σ H Q := by
  obtain ⟨G, ρ, st, fin⟩ := q
  simp only [ev] at fin
  refine T.bind (ok1 := okP C.K) st fin fun x ra G1 H1 e1 p1 st1 fin1 => ?_
  refine T.bind (ok1 := okP C.K) st1 fin1 fun y rb G2 H2 e2 p2 st2 fin2 => ?_
  cases er : cmpD op ra rb with
  | no => rw [er] at fin2; exact fin2.elim
  | ex c => exact absurd er cmpD_ex
  | ok r =>
    rw [er] at fin2
    obtain ⟨k, rfl⟩ := cmpD_bool er
    refine ⟨G2, ra, rb, _, st2.same, p1.mono e2, p2, er, fun v G' H' e o => ?_⟩
    cases (show Rep C.K G' v (.bool k) from o)
    refine ⟨k, rfl, ?_⟩
    simp only [M.bind_ok, truthy] at fin2
    cases k with
    | false =>
      rw [if_neg Bool.false_ne_true]
      rw [if_neg Bool.false_ne_true] at fin2
      exact fin2 _ G' H' e (.bl false)
    | true =>
      rw [if_pos rfl]
      rw [if_pos rfl] at fin2
      have st3 := st2.mono e
      have fin3 : Fin C W (okR C.K) H σ ((pk cc ρ (ev F cc ρ)).bind fun w => cmpD op' rb w) G' H' Q := by
        revert fin2
        cases (pk cc ρ (ev F cc ρ)).bind fun w => cmpD op' rb w with
        | no => exact id
        | ex c => exact fun f G3 H3 e3 => f G3 H3 (e.trans e3)
        | ok r => exact fun f d G3 H3 e3 o3 => f d G3 H3 (e.trans e3) o3
      refine T.bind (ok1 := okP C.K) st3 fin3 fun z rc G4 H4 e4 p4 st4 fin4 => ?_
      obtain ⟨r, er, q⟩ := fin4.okE fun c => cmpD_ex
      exact ⟨G4, rb, rc, r, st4.same, (p2.mono e).mono e4, p4, er, fun v G' H' e' o => q v G' H' e' (o.back (((e1.trans e2).trans e).trans e4).hh)⟩
theorem chain_bool {op op' : CmpOp} {ρ : PF.Env} {r : R} (h : ev F (.chain op op' ca cb cc) ρ = .ok r) : ∃ b, r = .d (.bool b) := by
  simp only [ev] at h
  refine bind_bool (fun x r h => bind_bool (fun y r h => bind_bool (fun z r h => ?_) h) h) h
  cases q : truthy z with
  | ok t =>
    simp only [q, M.bind_ok] at h
    split at h
    · exact bind_bool (fun y r h => cmpD_bool h) h
    · cases h; exact ⟨_, rfl⟩
  | ex c => simp [q] at h
  | no => simp [q] at h
theorem snd_chain {op op' : CmpOp} (hK : X.K = C.K) (hu : X.A.units + 64 < cLine) (hm : behindInMarks op' c = false) (ha : Snd F C W X a ca) (hb : Snd F C W X b cb) (hc : Snd F C W X c cc) :
    Snd F C W X (.Compare a [op, op'] [b, c] pos) (.chain op op' ca cb cc) := by
  have ob : OpR X (compareOp op) (r2 C.K (cmpD op)) := hK ▸ op_cmp hu
  have ob' : OpR X (compareOp op') (r2 C.K (cmpD op')) := hK ▸ op_cmp hu
  have h1 : PE X (.Compare a [op, op'] [b, c] pos) (T C W (okR C.K) (ev F (.chain op op' ca cb cc))) := PE.imp (pe_chain ob ob' ha.pk hb.pk hc.pk (last2 hm)) fun σ H Q q => chain_parts q
  refine ⟨h1, PE.imp h1 fun σ H Q q => T.toP q, PT.imp (pt_chain ob ob' ha.pk hb.pk hc.pk (last2 hm)) fun σ H Q q => ?_, trivial, fun _ _ => rfl⟩
  exact chain_parts (tst_bool (ok1 := okR C.K) (fun ρ r h => chain_bool h) q)
/-! three comparisons in a row -/
def tChain3 (r r' r2 : R2) (ta tb tc td : TE) : TE := fun σ H Q => ta σ H fun x H1 => tb σ H1 fun y H2 => r x y H2 fun z H3 => ∃ k, z = .bl k ∧
  (if k = true then tc σ H3 fun w' H4 => r' y w' H4 fun z2 H5 => ∃ k2, z2 = .bl k2 ∧ (if k2 = true then td σ H5 fun u' H6 => r2 w' u' H6 Q else Q (.bl false) H5) else Q (.bl false) H3)
theorem pe_chain3 {op op' op2 : CmpOp} {d : Expr} {r r' r2 : R2} {ta tb tc td : TE} (ho : OpR X (compareOp op) r) (ho' : OpR X (compareOp op') r') (ho2 : OpR X (compareOp op2) r2) (ha : PE X a ta) (hb : PE X b tb) (hc : PE X c tc) (hd : PE X d td)
    (hm : lastMarks [op, op', op2] [b, c, d] = false) : PE X (.Compare a [op, op', op2] [b, c, d] pos) (tChain3 r r' r2 ta tb tc td) := by
  refine ⟨fun pins s σ H Q I h => ?_⟩
  refine Compare_chain (thn (ha.run pins s σ H _ I h) fun v s1 ⟨x, H1, I1, r1, q1⟩ => chain_link (thn (hb.run pins s1 σ H1 _ I1 q1) fun u s2 ⟨y, H2, I2, rr2, q2⟩ =>
    thn (ho pins s2 σ H2 x y v u _ I2 r1 rr2 q2) fun d s3 ⟨z, H3, I3, r3, k, e, q3⟩ => ?_)) hm
  subst e
  cases r3
  refine wpAny_truthy_bool ?_
  cases k with
  | false => exact ite_ff ⟨.bl false, H3, I3, rfl, q3⟩
  | true =>
    refine ite_tt (chain_link (thn (hc.run pins s3 σ H3 _ I3 q3) fun w' s4 ⟨z', H4, I4, r4, q4⟩ => thn (ho' pins s4 σ H4 y z' u w' _ I4 rr2 r4 q4) fun d' s5 ⟨z2, H5, I5, r5, k2, e2, q5⟩ => ?_))
    subst e2
    cases r5
    refine wpAny_truthy_bool ?_
    cases k2 with
    | false => exact ite_ff ⟨.bl false, H5, I5, rfl, q5⟩
    | true => exact ite_tt (chain_last (thn (hd.run pins s5 σ H5 _ I5 q5) fun u' s6 ⟨z6, H6, I6, r6, q6⟩ => ho2 pins s6 σ H6 z' z6 w' u' Q I6 r4 r6 q6))
theorem pt_chain3 {op op' op2 : CmpOp} {d : Expr} {r r' r2 : R2} {ta tb tc td : TE} (ho : OpR X (compareOp op) r) (ho' : OpR X (compareOp op') r') (ho2 : OpR X (compareOp op2) r2) (ha : PE X a ta) (hb : PE X b tb) (hc : PE X c tc) (hd : PE X d td)
    (hm : lastMarks [op, op', op2] [b, c, d] = false) : PT X (.Compare a [op, op', op2] [b, c, d] pos) (tTest (tChain3 r r' r2 ta tb tc td)) := by
  refine ⟨fun pins s σ H Q I h => ?_⟩
  refine isTrue_chain (thn (ha.run pins s σ H _ I h) fun v s1 ⟨x, H1, I1, r1, q1⟩ => test_link (thn (hb.run pins s1 σ H1 _ I1 q1) fun u s2 ⟨y, H2, I2, rr2, q2⟩ =>
    thn (ho pins s2 σ H2 x y v u _ I2 r1 rr2 q2) fun d s3 ⟨z, H3, I3, r3, k, e, q3⟩ => ?_)) hm
  subst e
  cases r3
  refine wpAny_truthy_bool ?_
  cases k with
  | false =>
    obtain ⟨k', e', q'⟩ := q3
    cases e'
    exact ite_ff ⟨H3, I3, q'⟩
  | true =>
    refine ite_tt (test_link (thn (hc.run pins s3 σ H3 _ I3 q3) fun w' s4 ⟨z', H4, I4, r4, q4⟩ => thn (ho' pins s4 σ H4 y z' u w' _ I4 rr2 r4 q4) fun d' s5 ⟨z2, H5, I5, r5, k2, e2, q5⟩ => ?_))
    subst e2
    cases r5
    refine wpAny_truthy_bool ?_
    cases k2 with
    | false =>
      obtain ⟨k', e', q'⟩ := q5
      cases e'
      exact ite_ff ⟨H5, I5, q'⟩
    | true =>
      refine ite_tt (test_last (thn (hd.run pins s5 σ H5 _ I5 q5) fun u' s6 ⟨z6, H6, I6, r6, q6⟩ => thn (ho2 pins s6 σ H6 z' z6 w' u' _ I6 r4 r6 q6) fun d2 s7 ⟨z7, H7, I7, r7, k3, e3, q7⟩ => ?_))
      subst e3
      cases r7
      exact wpAny_truthy_bool ⟨H7, I7, q7⟩
theorem chain3_parts {op op' op2 : CmpOp} {cd : CE} {σ : L2.St} {H : Hp} {Q : VK} (q : T C W (okR C.K) (ev F (.chain3 op op' op2 ca cb cc cd)) σ H Q) :
    tChain3 (r2 C.K (cmpD op)) (r2 C.K (cmpD op')) (r2 C.K (cmpD op2)) (T C W (okP C.K) fun ρ => pk ca ρ (ev F ca ρ)) (T C W (okP C.K) fun ρ => pk cb ρ (ev F cb ρ)) (T C W (okP C.K) fun ρ => pk cc ρ (ev F cc ρ)) (T C W (okP C.K) fun ρ => pk cd ρ (ev F cd ρ)) σ H Q := by
  obtain ⟨G, ρ, st, fin⟩ := q
  simp only [ev] at fin
  refine T.bind (ok1 := okP C.K) st fin fun x ra G1 H1 e1 p1 st1 fin1 => ?_
  refine T.bind (ok1 := okP C.K) st1 fin1 fun y rb G2 H2 e2 p2 st2 fin2 => ?_
  cases er : cmpD op ra rb with
  | no => rw [er] at fin2; exact fin2.elim
  | ex c => exact absurd er cmpD_ex
  | ok r =>
    rw [er] at fin2
    obtain ⟨k, rfl⟩ := cmpD_bool er
    refine ⟨G2, ra, rb, _, st2.same, p1.mono e2, p2, er, fun v G' H' e o => ?_⟩
    cases (show Rep C.K G' v (.bool k) from o)
    refine ⟨k, rfl, ?_⟩
    simp only [M.bind_ok, show ∀ b, truthy (.d (.bool b)) = .ok b from fun _ => rfl] at fin2
    cases k with
    | false =>
      rw [if_neg Bool.false_ne_true]
      rw [if_neg Bool.false_ne_true] at fin2
      exact fin2 _ G' H' e (.bl false)
    | true =>
      rw [if_pos rfl]
      rw [if_pos rfl] at fin2
      have st3 := st2.mono e
      have fin3 : Fin C W (okR C.K) H σ ((PF.pk cc ρ (ev F cc ρ)).bind fun w => (cmpD op' rb w).bind fun z2 => (truthy z2).bind fun t2 => if t2 = true then (PF.pk cd ρ (ev F cd ρ)).bind fun v => cmpD op2 w v else boolR false) G' H' Q := by
        revert fin2
        cases (PF.pk cc ρ (ev F cc ρ)).bind fun w => (cmpD op' rb w).bind fun z2 => (truthy z2).bind fun t2 => if t2 = true then (PF.pk cd ρ (ev F cd ρ)).bind fun v => cmpD op2 w v else boolR false with
        | no => exact id
        | ex c => exact fun f G3 H3 e3 => f G3 H3 (e.trans e3)
        | ok r => exact fun f d G3 H3 e3 o3 => f d G3 H3 (e.trans e3) o3
      refine T.bind (ok1 := okP C.K) st3 fin3 fun z rc G4 H4 e4 p4 st4 fin4 => ?_
      cases er' : cmpD op' rb rc with
      | no => rw [er'] at fin4; exact fin4.elim
      | ex c => exact absurd er' cmpD_ex
      | ok r =>
        rw [er'] at fin4
        obtain ⟨k2, rfl⟩ := cmpD_bool er'
        refine ⟨G4, rb, rc, _, st4.same, (p2.mono e).mono e4, p4, er', fun v G5 H5 e5 o => ?_⟩
        cases (show Rep C.K G5 v (.bool k2) from o)
        refine ⟨k2, rfl, ?_⟩
        simp only [M.bind_ok, show ∀ b, truthy (.d (.bool b)) = .ok b from fun _ => rfl] at fin4
        cases k2 with
        | false =>
          rw [if_neg Bool.false_ne_true]
          rw [if_neg Bool.false_ne_true] at fin4
          exact fin4 _ G5 H5 e5 (.bl false)
        | true =>
          rw [if_pos rfl]
          rw [if_pos rfl] at fin4
          have st5 := st4.mono e5
          have fin5 : Fin C W (okR C.K) H σ ((PF.pk cd ρ (ev F cd ρ)).bind fun v => cmpD op2 rc v) G5 H5 Q := by
            revert fin4
            cases (PF.pk cd ρ (ev F cd ρ)).bind fun v => cmpD op2 rc v with
            | no => exact id
            | ex c => exact fun f G6 H6 e6 => f G6 H6 (e5.trans e6)
            | ok r => exact fun f d G6 H6 e6 o6 => f d G6 H6 (e5.trans e6) o6
          refine T.bind (ok1 := okP C.K) st5 fin5 fun u rd G6 H6 e6 p6 st6 fin6 => ?_
          obtain ⟨r, er, q⟩ := fin6.okE fun c => cmpD_ex
          exact ⟨G6, rc, rd, r, st6.same, (p4.mono e5).mono e6, p6, er, fun v G' H' e' o => q v G' H' e' (o.back (((((e1.trans e2).trans e).trans e4).trans e5).trans e6).hh)⟩
theorem chain3_bool {op op' op2 : CmpOp} {cd : CE} {ρ : PF.Env} {r : R} (h : ev F (.chain3 op op' op2 ca cb cc cd) ρ = .ok r) : ∃ b, r = .d (.bool b) := by
  simp only [ev] at h
  refine bind_bool (fun x r h => bind_bool (fun y r h => bind_bool (fun z r h => ?_) h) h) h
  cases q : truthy z with
  | ok t =>
    simp only [q, M.bind_ok] at h
    split at h
    · refine bind_bool (fun y r h => bind_bool (fun z2 r h => ?_) h) h
      cases q2 : truthy z2 with
      | ok t2 =>
        simp only [q2, M.bind_ok] at h
        split at h
        · exact bind_bool (fun y r h => cmpD_bool h) h
        · cases h; exact ⟨_, rfl⟩
      | ex c => simp [q2] at h
      | no => simp [q2] at h
    · cases h; exact ⟨_, rfl⟩
  | ex c => simp [q] at h
  | no => simp [q] at h
theorem snd_chain3 {op op' op2 : CmpOp} {d : Expr} {cd : CE} (hK : X.K = C.K) (hu : X.A.units + 64 < cLine) (hm : behindInMarks op2 d = false) (ha : Snd F C W X a ca) (hb : Snd F C W X b cb) (hc : Snd F C W X c cc) (hd : Snd F C W X d cd) :
    Snd F C W X (.Compare a [op, op', op2] [b, c, d] pos) (.chain3 op op' op2 ca cb cc cd) := by
  have ob : OpR X (compareOp op) (r2 C.K (cmpD op)) := hK ▸ op_cmp hu
  have ob' : OpR X (compareOp op') (r2 C.K (cmpD op')) := hK ▸ op_cmp hu
  have ob2 : OpR X (compareOp op2) (r2 C.K (cmpD op2)) := hK ▸ op_cmp hu
  have h1 : PE X (.Compare a [op, op', op2] [b, c, d] pos) (T C W (okR C.K) (ev F (.chain3 op op' op2 ca cb cc cd))) := PE.imp (pe_chain3 ob ob' ob2 ha.pk hb.pk hc.pk hd.pk hm) fun σ H Q q => chain3_parts q
  refine ⟨h1, PE.imp h1 fun σ H Q q => T.toP q, PT.imp (pt_chain3 ob ob' ob2 ha.pk hb.pk hc.pk hd.pk hm) fun σ H Q q => ?_, trivial, fun _ _ => rfl⟩
  exact chain3_parts (tst_bool (ok1 := okR C.K) (fun ρ r h => chain3_bool h) q)
/-! ### and, or, not -/
structure SndW (F : Nat → List D → M R) (C : Cfg) (W : WX) (X : Cx) (e : Expr) (c : CE) : Prop where
  val : PE X e (T C W (okR C.K) (ev F c))
  tst : PW X e (T C W okB fun ρ => (pk c ρ (ev F c ρ)).bind truthy)
theorem Snd.one {op : BoolOp} (ha : Snd F C W X a ca) : SndW F C W X (.BoolOp op [a] pos) ca := by
  refine ⟨pe_one ha.val, ?_⟩
  cases op with
  | And => exact pw_and1 ha.tst
  | Or => exact pw_or1 ha.tst
theorem SndW.snd {op : BoolOp} {vs : List Expr} (nv : ∀ i, ce ≠ .var i) (h : SndW F C W X (.BoolOp op vs pos) ce) : Snd F C W X (.BoolOp op vs pos) ce :=
  ⟨h.val, PE.imp h.val fun σ H Q q => T.toP (by
    have : (fun ρ => PF.pk ce ρ (ev F ce ρ)) = ev F ce := by funext ρ; exact pk_id nv
    rw [this] at q
    exact q), h.tst.pt, trivial, fun _ _ => rfl⟩
theorem truthy_pk {ρ : PF.Env} {m : M R} {k : M R → M Bool} (hn : k .no = .no) (h : ∀ r, m = .ok r → pk ca ρ m = .ok r) : True := trivial
/-- what is a value is the same to look at -/
theorem pk_ok {ρ : PF.Env} {r : R} (h : ev F ca ρ = .ok r) : pk ca ρ (ev F ca ρ) = .ok r := by
  rw [h]
  cases ca with
  | var i =>
    simp only [ev] at h
    show getP ρ i = .ok r
    unfold getV at h
    unfold getP
    split at h
    · rename_i d e
      simp only [e]
      exact h
    · cases h
  | _ => rfl
theorem pk_ex {ρ : PF.Env} {c : Nat} (h : ev F ca ρ = .ex c) : pk ca ρ (ev F ca ρ) = .ex c := by
  rw [h]
  cases ca with
  | var i =>
    simp only [ev] at h
    exact absurd h noEx_getV
  | _ => rfl
theorem snd_and (hK : X.K = C.K) {rest : List Expr} (ha : Snd F C W X a ca) (hb : SndW F C W X (.BoolOp .And (b :: rest) pos) cb) : SndW F C W X (.BoolOp .And (a :: b :: rest) pos) (.and ca cb) := by
  refine ⟨PE.imp (pe_andT ha.dat hb.val) fun σ H Q q => ?_, PW.imp (pw_and ha.tst hb.tst) fun σ H Q q => ?_⟩
  · obtain ⟨G, ρ, st, fin⟩ := q
    simp only [ev] at fin
    refine T.bind (ok1 := okD C.K) st fin fun x d G1 H1 e1 p1 st1 fin1 => ?_
    cases ek : truthy (.d d) with
    | no => rw [ek] at fin1; exact fin1.elim
    | ex c => exact absurd ek truthy_ex
    | ok k =>
      rw [ek] at fin1
      refine ⟨k, by rw [hK]; exact tru_of (r := .d d) st1.same p1 ek, ?_⟩
      simp only [M.bind_ok] at fin1
      cases k with
      | true =>
        rw [if_pos rfl] at fin1 ⊢
        refine ⟨G1, ρ, st1, ?_⟩
        revert fin1
        cases ev F cb ρ with
        | no => exact id
        | ex c => exact id
        | ok r => exact fun f v G2 H2 e2 o => f v G2 H2 e2 (o.back e1.hh)
      | false =>
        rw [if_neg Bool.false_ne_true] at fin1 ⊢
        exact fin1 x G1 H1 (Ext.refl st1.same) p1
  · obtain ⟨G, ρ, st, fin⟩ := q
    replace fin : Fin C W okB H σ ((ev F (.and ca cb) ρ).bind truthy) G H Q := fin
    simp only [ev] at fin
    refine ⟨G, ρ, st, ?_⟩
    cases ea : ev F ca ρ with
    | no => rw [ea] at fin; exact fin.elim
    | ex c =>
      rw [ea] at fin
      show Fin C W okB H σ ((pk ca ρ (ev F ca ρ)).bind truthy) G H _
      rw [pk_ex ea]
      exact fin
    | ok r =>
      rw [ea] at fin
      show Fin C W okB H σ ((pk ca ρ (ev F ca ρ)).bind truthy) G H _
      rw [pk_ok ea]
      simp only [M.toD_ok, M.bind_ok] at fin
      have et : truthy r = truthy (.d r.toD) := by cases r <;> rfl
      show Fin C W okB H σ (truthy r) G H _
      rw [et]
      cases ek : truthy (.d r.toD) with
      | no => rw [ek] at fin; exact fin.elim
      | ex c => exact absurd ek truthy_ex
      | ok k =>
        rw [ek] at fin
        intro b' G1 H1 e1 o
        cases o
        simp only [M.bind_ok] at fin
        cases k with
        | true =>
          rw [if_pos rfl] at fin ⊢
          refine ⟨G1, ρ, st.mono e1, ?_⟩
          show Fin C W okB H1 σ ((pk cb ρ (ev F cb ρ)).bind truthy) G1 H1 Q
          cases eb : ev F cb ρ with
          | no => rw [eb] at fin; exact fin.elim
          | ex c => rw [eb] at fin; rw [← eb, pk_ex eb]; exact fun G2 H2 e2 => fin G2 H2 (e1.trans e2)
          | ok r =>
            rw [eb] at fin
            rw [← eb, pk_ok eb]
            simp only [M.bind_ok] at fin ⊢
            revert fin
            cases truthy r with
            | no => exact id
            | ex c => exact fun f G2 H2 e2 => f G2 H2 (e1.trans e2)
            | ok r => exact fun f v G2 H2 e2 o => f v G2 H2 (e1.trans e2) o
        | false =>
          rw [if_neg Bool.false_ne_true] at fin ⊢
          simp only [M.bind_ok, ek] at fin
          exact fin false G1 H1 e1 rfl
theorem snd_or (hK : X.K = C.K) {rest : List Expr} (ha : Snd F C W X a ca) (hb : SndW F C W X (.BoolOp .Or (b :: rest) pos) cb) : SndW F C W X (.BoolOp .Or (a :: b :: rest) pos) (.or ca cb) := by
  refine ⟨PE.imp (pe_orT ha.dat hb.val) fun σ H Q q => ?_, PW.imp (pw_or ha.tst hb.tst) fun σ H Q q => ?_⟩
  · obtain ⟨G, ρ, st, fin⟩ := q
    simp only [ev] at fin
    refine T.bind (ok1 := okD C.K) st fin fun x d G1 H1 e1 p1 st1 fin1 => ?_
    cases ek : truthy (.d d) with
    | no => rw [ek] at fin1; exact fin1.elim
    | ex c => exact absurd ek truthy_ex
    | ok k =>
      rw [ek] at fin1
      refine ⟨k, by rw [hK]; exact tru_of (r := .d d) st1.same p1 ek, ?_⟩
      simp only [M.bind_ok] at fin1
      cases k with
      | false =>
        rw [if_neg Bool.false_ne_true] at fin1 ⊢
        refine ⟨G1, ρ, st1, ?_⟩
        revert fin1
        cases ev F cb ρ with
        | no => exact id
        | ex c => exact id
        | ok r => exact fun f v G2 H2 e2 o => f v G2 H2 e2 (o.back e1.hh)
      | true =>
        rw [if_pos rfl] at fin1 ⊢
        exact fin1 x G1 H1 (Ext.refl st1.same) p1
  · obtain ⟨G, ρ, st, fin⟩ := q
    replace fin : Fin C W okB H σ ((ev F (.or ca cb) ρ).bind truthy) G H Q := fin
    simp only [ev] at fin
    refine ⟨G, ρ, st, ?_⟩
    cases ea : ev F ca ρ with
    | no => rw [ea] at fin; exact fin.elim
    | ex c =>
      rw [ea] at fin
      show Fin C W okB H σ ((pk ca ρ (ev F ca ρ)).bind truthy) G H _
      rw [pk_ex ea]
      exact fin
    | ok r =>
      rw [ea] at fin
      show Fin C W okB H σ ((pk ca ρ (ev F ca ρ)).bind truthy) G H _
      rw [pk_ok ea]
      simp only [M.toD_ok, M.bind_ok] at fin
      have et : truthy r = truthy (.d r.toD) := by cases r <;> rfl
      show Fin C W okB H σ (truthy r) G H _
      rw [et]
      cases ek : truthy (.d r.toD) with
      | no => rw [ek] at fin; exact fin.elim
      | ex c => exact absurd ek truthy_ex
      | ok k =>
        rw [ek] at fin
        intro b' G1 H1 e1 o
        cases o
        simp only [M.bind_ok] at fin
        cases k with
        | false =>
          rw [if_neg Bool.false_ne_true] at fin ⊢
          refine ⟨G1, ρ, st.mono e1, ?_⟩
          show Fin C W okB H1 σ ((pk cb ρ (ev F cb ρ)).bind truthy) G1 H1 Q
          cases eb : ev F cb ρ with
          | no => rw [eb] at fin; exact fin.elim
          | ex c => rw [eb] at fin; rw [← eb, pk_ex eb]; exact fun G2 H2 e2 => fin G2 H2 (e1.trans e2)
          | ok r =>
            rw [eb] at fin
            rw [← eb, pk_ok eb]
            simp only [M.bind_ok] at fin ⊢
            revert fin
            cases truthy r with
            | no => exact id
            | ex c => exact fun f G2 H2 e2 => f G2 H2 (e1.trans e2)
            | ok r => exact fun f v G2 H2 e2 o => f v G2 H2 (e1.trans e2) o
        | true =>
          rw [if_pos rfl] at fin ⊢
          simp only [M.bind_ok, ek] at fin
          exact fin true G1 H1 e1 rfl
theorem snd_not (hK : X.K = C.K) (ha : Snd F C W X a ca) : Snd F C W X (.UnaryOp .Not a pos) (.not ca) := by
  have parts : ∀ {σ : L2.St} {H : Hp} {Q : VK}, T C W (okR C.K) (ev F (.not ca)) σ H Q → T C W (okP C.K) (fun ρ => pk ca ρ (ev F ca ρ)) σ H fun x H1 => ∃ k, TruV X.K x H1 k ∧ Q (.bl (!k)) H1 := fun {σ H Q} q => by
    obtain ⟨G, ρ, st, fin⟩ := q
    simp only [ev] at fin
    refine T.bind (ok1 := okP C.K) st fin fun x r G1 H1 e1 p1 st1 fin1 => ?_
    cases ek : truthy r with
    | no => rw [ek] at fin1; exact fin1.elim
    | ex c => exact absurd ek truthy_ex
    | ok k =>
      rw [ek] at fin1
      exact ⟨k, by rw [hK]; exact tru_of st1.same p1 ek, fin1 _ G1 H1 (Ext.refl st1.same) (.bl _)⟩
  have h1 : PE X (.UnaryOp .Not a pos) (T C W (okR C.K) (ev F (.not ca))) := PE.imp (pe_notT ha.pk) fun σ H Q q => parts q
  refine ⟨h1, PE.imp h1 fun σ H Q q => T.toP q, PT.imp (pt_not ha.tst) fun σ H Q q => ?_, trivial, fun _ _ => rfl⟩
  obtain ⟨G, ρ, st, fin⟩ := q
  replace fin : Fin C W okB H σ ((ev F (.not ca) ρ).bind truthy) G H Q := fin
  simp only [ev] at fin
  refine ⟨G, ρ, st, ?_⟩
  show Fin C W okB H σ ((pk ca ρ (ev F ca ρ)).bind truthy) G H _
  cases ea : pk ca ρ (ev F ca ρ) with
  | no => rw [ea] at fin; exact fin.elim
  | ex c => rw [ea] at fin; exact fin
  | ok r =>
    rw [ea] at fin
    simp only [M.bind_ok] at fin ⊢
    cases ek : truthy r with
    | no => rw [ek] at fin; exact fin.elim
    | ex c => exact absurd ek truthy_ex
    | ok k =>
      rw [ek] at fin
      intro b' G1 H1 e1 o
      cases o
      exact fin (!k) G1 H1 e1 rfl
/-! ### displays, arguments -/
theorem pa_evs {es : List Expr} {cs : List CE} (h : Paired (fun e c => Snd F C W X e c) es cs) : PA X es (T C W (okA C.K) (evs F cs)) := by
  induction h with
  | nil => exact PA.imp pa_nil fun σ H Q ⟨G, ρ, st, fin⟩ => by simp only [evs] at fin; exact fin [] G H (Ext.refl st.same) .nil
  | cons h t ih =>
    refine PA.imp (pa_cons h.dat ih (star1 h.ns)) fun σ H Q ⟨G, ρ, st, fin⟩ => ?_
    simp only [evs] at fin
    refine T.bind (ok1 := okD C.K) st fin fun x d G1 H1 e1 p1 st1 fin1 => ?_
    refine T.bind (ok1 := okA C.K) st1 fin1 fun xs ds G2 H2 e2 p2 st2 fin2 => ?_
    exact fin2 _ G2 H2 (Ext.refl st2.same) (.cons (p1.mono e2.gg) p2)
theorem pa_evp {es : List Expr} {cs : List CE} (h : Paired (fun e c => Snd F C W X e c) es cs) : PA X es (T C W (okPA C.K) (evp F cs)) := by
  induction h with
  | nil => exact PA.imp pa_nil fun σ H Q ⟨G, ρ, st, fin⟩ => by simp only [evp] at fin; exact fin [] G H (Ext.refl st.same) .nil
  | cons h t ih =>
    refine PA.imp (pa_cons h.pk ih (star1 h.ns)) fun σ H Q ⟨G, ρ, st, fin⟩ => ?_
    simp only [evp] at fin
    refine T.bind (ok1 := okP C.K) st fin fun x d G1 H1 e1 p1 st1 fin1 => ?_
    refine T.bind (ok1 := okPA C.K) st1 fin1 fun xs ds G2 H2 e2 p2 st2 fin2 => ?_
    exact fin2 _ G2 H2 (Ext.refl st2.same) (.cons (p1.mono e2) p2)
theorem paired_ns {es : List Expr} {cs : List CE} (h : Paired (fun e c => Snd F C W X e c) es cs) : ∀ e ∈ es, NoStar e := by
  induction h with
  | nil => exact fun e he => by cases he
  | cons h t ih =>
    intro e he
    rcases List.mem_cons.mp he with rfl | he
    · exact h.ns
    · exact ih e he
theorem evs_len {ρ : PF.Env} : ∀ {cs : List CE} {ds : List D}, evs F cs ρ = .ok ds → ds.length = cs.length
  | [], ds, q => by simp only [evs] at q; cases q; rfl
  | c :: cs, ds, q => by
    simp only [evs] at q
    cases q1 : (ev F c ρ).toD with
    | no => rw [q1] at q; cases q
    | ex c => rw [q1] at q; cases q
    | ok d =>
      rw [q1] at q
      cases q2 : evs F cs ρ with
      | no => rw [q2] at q; cases q
      | ex c => rw [q2] at q; cases q
      | ok ds' =>
        rw [q2] at q
        cases q
        rw [List.length_cons, List.length_cons, evs_len q2]
theorem snd_tup {es : List Expr} {cs : List CE} {k : Nat} (hK : X.K = C.K) (h : Paired (fun e c => Snd F C W X e c) es cs) (hl : cs.length ≤ 1000) : Snd F C W X (.Tuple es k pos) (.tup cs) := by
  refine Snd.of hK (PE.imp (pe_tup (pa_evs h)) fun σ H Q ⟨G, ρ, st, fin⟩ => ?_) (by simp) (fun _ => rfl) trivial fun _ _ => rfl
  simp only [ev] at fin
  refine ⟨G, ρ, st, ?_⟩
  cases q : evs F cs ρ with
  | no => rw [q] at fin; exact fin.elim
  | ex c => rw [q] at fin; exact fin
  | ok ds =>
    rw [q] at fin
    intro xs G1 H1 e1 p1
    have l1 : xs.length ≤ sizeLine := by rw [p1.length, evs_len q]; exact Nat.le_of_lt (small1000 hl)
    exact ⟨l1, fun p hp => fin _ _ _ (e1.trans (Ext.new e1.gh hp)) (.tup (.inl (.inl upd_same)) l1 (p1.mono (same_upd (e1.gh.free hp))))⟩
theorem snd_lst {es : List Expr} {cs : List CE} (hK : X.K = C.K) (h : Paired (fun e c => Snd F C W X e c) es cs) (hl : cs.length ≤ 1000) : Snd F C W X (.List es pos) (.lst cs) := by
  refine Snd.of hK (PE.imp (pe_lst (pa_evs h)) fun σ H Q ⟨G, ρ, st, fin⟩ => ?_) (by simp) (fun _ => rfl) trivial fun _ _ => rfl
  simp only [ev] at fin
  refine ⟨G, ρ, st, ?_⟩
  cases q : evs F cs ρ with
  | no => rw [q] at fin; exact fin.elim
  | ex c => rw [q] at fin; exact fin
  | ok ds =>
    rw [q] at fin
    intro xs G1 H1 e1 p1
    have l1 : xs.length ≤ sizeLine := by rw [p1.length, evs_len q]; exact Nat.le_of_lt (small1000 hl)
    exact ⟨l1, fun p hp => fin _ _ _ (e1.trans (Ext.own e1.gh hp)) ⟨p, xs, rfl, upd_same, l1, p1, e1.hh.free hp, e1.gh.free hp⟩⟩
/-! ### subscripts, slices -/
def PlainE : Expr → Prop
  | .Slice _ _ _ _ => False
  | _ => True
theorem plain_ix {b : Expr} (h : PlainE b) : PlainIx b := by
  intro o i
  cases b <;> first | rfl | exact h.elim
theorem snd_ix (hK : X.K = C.K) (hp : PlainE b) (ha : Snd F C W X a ca) (hb : Snd F C W X b cb) : Snd F C W X (.Subscript a b pos) (.ix ca cb) := by
  have ob : IxR X (r2 C.K ixD) := hK ▸ ix_D
  refine Snd.of hK (PE.imp (pe_ix ob ha.pk hb.val (plain_ix hp)) fun σ H Q q => ?_) (by simp) (fun _ => rfl) trivial fun _ _ => rfl
  obtain ⟨G, ρ, st, fin⟩ := q
  simp only [ev] at fin
  refine T.bind (ok1 := okP C.K) st fin fun x ra G1 H1 e1 p1 st1 fin1 => ?_
  refine T.bind (ok1 := okR C.K) st1 fin1 fun y rb G2 H2 e2 p2 st2 fin2 => ?_
  obtain ⟨r, er, q⟩ := fin2.okE fun c => ixD_ex
  exact ⟨G2, ra, rb, r, st2.same, p1.mono e2, p2.pk, er, fun v G' H' e o => q v G' H' e (o.back (e1.trans e2).hh)⟩
abbrev okO : Hp → Hp → Hp → Option Int → Option Int → Prop := fun _ _ _ b a => b = a
theorem po_non : PO X none (T C W okO fun ρ => partC (.con .none) (ev F (.con .none) ρ).toD) := by
  refine ⟨fun pins s σ H Q I q => po_none.run pins s σ H Q I ?_⟩
  obtain ⟨G, ρ, st, fin⟩ := q
  exact fin none G H (Ext.refl st.same) rfl
theorem po_som (h : Snd F C W X e ce) (nn : ce ≠ .con .none) : PO X (some e) (T C W okO fun ρ => partC ce (ev F ce ρ).toD) := by
  refine ⟨fun pins s σ H Q I q => (po_some h.dat).run pins s σ H Q I ?_⟩
  obtain ⟨G, ρ, st, fin⟩ := q
  replace fin : Fin C W okO H σ ((ev F ce ρ).toD.bind partD) G H Q := by
    have : partC ce (ev F ce ρ).toD = (ev F ce ρ).toD.bind partD := by
      unfold partC
      split
      · exact absurd rfl nn
      · rfl
    rw [← this]
    exact fin
  refine T.bind (ok1 := okD C.K) st fin fun x d G1 H1 e1 p1 st1 fin1 => ?_
  obtain ⟨o, eo, q⟩ := fin1.okE fun c => partD_ex
  unfold partD at eo
  split at eo
  · cases eo
    cases (show Rep C.K G1 x (.int _) from p1)
    exact ⟨_, rfl, q _ G1 H1 (Ext.refl st1.same) rfl⟩
  · cases eo
theorem snd_sl {lo hi : Option Expr} {cl ch : CE} {p2 : Pos} (hK : X.K = C.K) (ha : Snd F C W X a ca) (hl : PO X lo (T C W okO fun ρ => partC cl (ev F cl ρ).toD)) (hh : PO X hi (T C W okO fun ρ => partC ch (ev F ch ρ).toD)) :
    Snd F C W X (.Subscript a (.Slice lo hi none p2) pos) (.sl ca cl ch) := by
  have ob : SlR X (r3 C.K) := hK ▸ sl_D
  refine Snd.of hK (PE.imp (pe_slice ob ha.pk hl hh) fun σ H Q q => ?_) (by simp) (fun _ => rfl) trivial fun _ _ => rfl
  obtain ⟨G, ρ, st, fin⟩ := q
  simp only [ev] at fin
  refine T.bind (ok1 := okP C.K) st fin fun x ra G1 H1 e1 p1 st1 fin1 => ?_
  refine T.bind (ok1 := okO) st1 fin1 fun l l' G2 H2 e2 p2 st2 fin2 => ?_
  refine T.bind (ok1 := okO) st2 fin2 fun u u' G3 H3 e3 p3 st3 fin3 => ?_
  cases p2
  cases p3
  obtain ⟨r, er, q⟩ := fin3.okE fun c => slD_ex
  exact ⟨G3, ra, r, st3.same, (p1.mono e2).mono e3, er, fun v G' H' e o => q v G' H' e (o.back ((e1.trans e2).trans e3).hh)⟩
/-! ### calls -/
/-- a def's promise: F on the data of its arguments -/
def spD (K : Fr) (cV : Nat → Value) (f : List D → M R) : Sp := fun vs H Q E => ∃ G ds, Same G H ∧ RepA K G vs ds ∧ match f ds with
  | .no => False
  | .ex c => ∀ G' H', Ext G H G' H' → E (cV c) none H'
  | .ok r => ∀ v G' H', Ext G H G' H' → VOk K G' H' H v r → Q v H'
theorem snd_call {i k : Nat} {x : Str} {f : Addr} {fd : FuncData} {ps : List Str} {es : List Expr} {cs : List CE} {p : Pos} (hK : X.K = C.K) (hF : FnOk X.prog X.w X.K X.mg X.base (L2.CX X.prog X.w) k f fd ps (spD C.K C.cV (F i)))
    (hr : Room k X.A) (hg : Gl X x) (hm : X.mg x = some (.ref f)) (hk : PySem.W.keepIn X.K (.ref f) = true) (hb : Binds X.K fd ps []) (tk : Takes X W) (hdb : (x == ("__debug__" : Str)) = false)
    (h : Paired (fun e c => Snd F C W X e c) es cs) : Snd F C W X (.Call (.Name x p) es [] pos) (.call i cs) := by
  have main : ∀ {σ : L2.St} {H : Hp} {Q : VK}, T C W (okR C.K) (ev F (.call i cs)) σ H Q → tCallS (spD C.K C.cV (F i)) (WE W) (T C W (okA C.K) (evs F cs)) σ H Q := fun {σ H Q} q => by
    obtain ⟨G, ρ, st, fin⟩ := q
    simp only [ev] at fin
    refine T.bind (ok1 := okA C.K) st fin fun xs ds G1 H1 e1 p1 st1 fin1 => ?_
    refine ⟨G1, ds, st1.same, p1, ?_⟩
    revert fin1
    cases F i ds with
    | no => exact id
    | ex c => exact id
    | ok r => exact fun q v G2 H2 e2 o => q v G2 H2 e2 (o.back e1.hh)
  refine Snd.of hK ?_ (by simp) (fun _ => rfl) trivial fun _ _ => rfl
  cases h with
  | nil =>
    refine ⟨fun pins s σ H Q I q => ?_⟩
    have q' := main q
    obtain ⟨G, ρ, st, fin⟩ := q'
    replace fin : Fin C W (okA C.K) H σ (evs F [] ρ) G H _ := fin
    simp only [evs] at fin
    have q2 := fin [] G H (Ext.refl st.same) .nil
    refine wpAny_Call_Name_kw (ld_glob I hg hm ?_ hdb)
    exact PySem.W.callWith_K0 I.kIn hk (run_fnS (us := []) (E := WE W) hF hr hb (passAt tk σ) I .nil q2)
  | cons h t =>
    refine PE.imp (pe_callS hF hr hg hm hk hb (fun σ => passAt tk σ) (pa_evs (.cons h t)) hdb (star1 h.ns) (star_none (paired_ns t))) fun σ H Q q => main q
theorem snd_blt {bl : Blt} {es : List Expr} {cs : List CE} {x : Str} {p : Pos} (hK : X.K = C.K) (hc : X.calm = true) (hu : X.A.units + 64 < cLine) (hg : Gl X x) (hm : X.mg x = none) (hv : bootBuiltins x = some bl.fn) (hn : x ≠ "__name__") (hdb : (x == ("__debug__" : Str)) = false)
    (h : Paired (fun e c => Snd F C W X e c) (a :: es) cs) : Snd F C W X (.Call (.Name x p) (a :: es) [] pos) (.blt bl cs) := by
  have ob : CallR X bl.fn (rB C.K (bltD bl)) := hK ▸ cr_blt hc hu
  have main : ∀ {σ : L2.St} {H : Hp} {Q : VK}, T C W (okR C.K) (ev F (.blt bl cs)) σ H Q → tCB (rB C.K (bltD bl)) (T C W (okPA C.K) (evp F cs)) σ H Q := fun {σ H Q} q => by
    obtain ⟨G, ρ, st, fin⟩ := q
    simp only [ev] at fin
    refine T.bind (ok1 := okPA C.K) st fin fun xs rs G1 H1 e1 p1 st1 fin1 => ?_
    obtain ⟨r, er, q⟩ := fin1.okE fun c => bltD_ex
    exact ⟨G1, rs, r, st1.same, p1, er, fun v G' H' e o => q v G' H' e (o.back e1.hh)⟩
  refine Snd.of hK ?_ (by simp) (fun _ => rfl) trivial fun _ _ => rfl
  have hs := star1 (es := es) (env := X.env) (paired_ns h a (by simp))
  have hp := star_none (env := X.env) (pos := pos) (es := es) fun e he => paired_ns h e (by simp [he])
  have pa := pa_evp h
  revert hv ob main
  cases bl <;> intro hv ob main <;> first
    | exact PE.imp (pe_callB ob hg hm hv pa hn hdb hs hp) fun σ H Q q => main q
    | exact PE.imp (pe_callTy ob hg hm hv pa hn hdb hs hp) fun σ H Q q => main q
/-! ### methods -/
def NoCall : Expr → Prop
  | .Call _ _ _ _ => False
  | _ => True
theorem base_of {o : Expr} {name : Str} {env : PySem.Env} {whole : Sem Value} (h : NoCall o) : attributeBase o name env whole = whole := by
  cases o <;> first | rfl | exact h.elim
theorem mth_plain (m : Mth) : PlainAttrs m.ty := by cases m <;> first | exact F.plainAttrs_str | exact F.plainAttrs_list
theorem mth_slot (m : Mth) : Slot m.ty m.nm m.id := by cases m <;> first | exact F.slot_str_endswith | exact F.slot_str_split | exact F.slot_str_join | exact F.slot_list_index
theorem mth_type (m : Mth) : typeOf (.builtin m.id) = pure (.type "method_descriptor") := by cases m <;> rfl
theorem mth_tyV {K : Fr} {G H : Hp} {m : Mth} {x : V} {r : R} (s : Same G H) (p : Pk K G H x r) (e : mTy m r = .ok ()) : tyV K m.ty x H := by
  have st : (match r.toD with
    | .str _ => M.ok ()
    | _ => M.no) = M.ok () → tyV K "str" x H := fun e => by
    split at e
    · rename_i a e1
      have z := p.str e1
      subst z
      exact rfl
    · cases e
  cases m with
  | index =>
    unfold mTy at e
    simp only at e
    split at e
    · rename_i xs e1
      obtain ⟨a, vs, rfl, ha, la, ra⟩ := p.lst s e1
      exact .inl ⟨rfl, _, ha⟩
    · cases e
  | _ => exact st e
theorem mTy_ex {m : Mth} {r : R} {c : Nat} : mTy m r ≠ .ex c := by
  intro h
  unfold mTy at h
  split at h <;> split at h <;> cases h
theorem snd_meth {m : Mth} {o : Expr} {co : CE} {cs : List CE} {apos cpos : Pos} (hK : X.K = C.K) (hc : NoCall o) (hl : (apos.endLine == cpos.line) = true) (ho : Snd F C W X o co) (h : Paired (fun e c => Snd F C W X e c) [a] cs) :
    Snd F C W X (.Call (.Attribute o m.nm apos) [a] [] cpos) (.meth m co cs) := by
  have hs := star1 (es := []) (env := X.env) (paired_ns h a (by simp))
  have ob : MtR X m.id (rM C.K m) := hK ▸ mt_D
  have few : ((backTo cpos (starEach [a] X.env)).all (fun x => !x.1) && (backToKw cpos (keywordEach [] X.env)).all (fun x => x.1.isSome) && decide (([a] : List Expr).length + ([] : List Keyword).length + (if ([] : List Keyword).isEmpty then 0 else 1) < 30)) = true := by
    rw [hs]
    rfl
  refine Snd.of hK (PE.imp (pe_bm (mth_plain m) (mth_slot m) (mth_type m) ob ho.pk (pa_evs h) (base_of hc) few hl hs (by rfl)) fun σ H Q q => ?_) (by simp) (fun _ => rfl) trivial fun _ _ => rfl
  obtain ⟨G, ρ, st, fin⟩ := q
  simp only [ev] at fin
  refine T.bind (ok1 := okP C.K) st fin fun x ra G1 H1 e1 p1 st1 fin1 => ?_
  cases et : mTy m ra with
  | no => rw [et] at fin1; exact fin1.elim
  | ex c => exact absurd et mTy_ex
  | ok u =>
    rw [et] at fin1
    simp only [M.bind_ok] at fin1
    refine ⟨by rw [hK]; exact mth_tyV st1.same p1 et, ?_⟩
    refine T.bind (ok1 := okA C.K) st1 fin1 fun xs ds G2 H2 e2 p2 st2 fin2 => ?_
    obtain ⟨r, er, q⟩ := fin2.okE fun c => mthD_ex
    exact ⟨G2, ra, ds, r, st2.same, p1.mono e2, p2, er, fun v G' H' e o => q v G' H' e (o.back (e1.trans e2).hh)⟩
/-! ### isinstance -/
theorem snd_isI {t : Ty} {y : Str} {p p2 : Pos} (hK : X.K = C.K) (hg : Gl X "isinstance") (hm : X.mg "isinstance" = none) (hgt : Gl X y) (hmt : X.mg y = none) (hvt : bootBuiltins y = some (.type t.name)) (hn : y ≠ "__name__") (hdb : (y == ("__debug__" : Str)) = false)
    (ha : Snd F C W X a ca) : Snd F C W X (.Call (.Name "isinstance" p) [a, .Name y p2] [] pos) (.isI ca t) := by
  have ob : CallR X (.builtin "isinstance") (rIsT C.K t) := hK ▸ cr_isT
  have pt : PE X (.Name y p2) (tC (.ty t.name)) := pe_bltn hgt hmt hvt rfl hn hdb
  have pa : PA X [a, .Name y p2] _ := pa_cons ha.pk (pa_cons pt pa_nil (by rfl)) (star1 ha.ns)
  refine Snd.of hK (PE.imp (pe_callB ob hg hm (by decide +kernel) pa (by decide) (by decide) (star1 ha.ns) (by rfl)) fun σ H Q q => ?_) (by simp) (fun _ => rfl) trivial fun _ _ => rfl
  obtain ⟨G, ρ, st, fin⟩ := q
  simp only [ev] at fin
  refine T.bind (ok1 := okP C.K) st fin fun v r G1 H1 e1 p1 st1 fin1 => ?_
  cases eb : isTy t r.toD with
  | no => rw [eb] at fin1; exact fin1.elim
  | ex c => exact absurd eb isTy_ex
  | ok b =>
    rw [eb] at fin1
    exact ⟨G1, v, r, b, st1.same, rfl, p1, eb, fin1 _ G1 H1 (Ext.refl st1.same) (.bl b)⟩
/-- isinstance of what an except suite handles -/
theorem snd_isE {i : Nat} {row : List Bool} {x y : Str} {vT : V} {p p1 p2 : Pos} (hK : X.K = C.K) (hg : Gl X "isinstance") (hm : X.mg "isinstance" = none) (ht : PE X (.Name y p2) (tC vT)) (hN : X.N[i]? = some x) (hv : Vis X.env.scope x) (hd : (x == ("__debug__" : Str)) = false) (hcd : (x == ("__classdict__" : Str)) = false)
    (hx : ∀ a c, C.xa = some (a, c) → CallR X (.builtin "isinstance") (fun xs H Q => xs = [.ref a, vT] ∧ Q (.bl (row.getD c false)) H)) (cs : List Nat) (hcs : ∀ a c, C.xa = some (a, c) → cs.contains c = row.getD c false) :
    Snd F C W X (.Call (.Name "isinstance" p) [.Name x p1, .Name y p2] [] pos) (.isE i cs) := by
  refine Snd.of hK (PE.by fun σ H Q q => ?_) (by simp) (fun _ => rfl) trivial fun _ _ => rfl
  obtain ⟨G, ρ, st, fin⟩ := q
  simp only [ev] at fin
  split at fin
  · rename_i e he
    obtain ⟨o, h1, h2, h3⟩ := st.at he (by simp)
    cases h3 with
    | exc hxa =>
      rename_i a
      have pa : PA X [.Name x p1, .Name y p2] _ := pa_cons (pe_var hN hv hd hcd) (pa_cons ht pa_nil (by rfl)) (by rfl)
      refine ⟨_, pe_callB (hx a e hxa) hg hm (by decide +kernel) pa (by decide) (by decide) (by rfl) (by rfl), ?_⟩
      refine ⟨.ref a, h1, rfl, ?_⟩
      rw [← hcs a e hxa]
      exact fin _ G H (Ext.refl st.same) (.bl _)
  · exact fin.elim
end
end PF

end

section
/-! PF5: targets, walks, comprehensions. -/
namespace PF
open PySem PySem.Spec PyProof.Rows L2

/-! ### targets -/
mutual
def tgS : Tg → List Nat
  | .name i => [i]
  | .tup ts => tgsS ts
def tgsS : List Tg → List Nat
  | [] => []
  | t :: ts => tgS t ++ tgsS ts
end
/-- the slots of vs are the only ones that differ -/
def Sim (vs : List Nat) (σ σ' : L2.St) : Prop := ∀ ws : List Nat, (∀ i ∈ vs, i ∈ ws) → wipe σ' ws = wipe σ ws
theorem wipe_set {σ : L2.St} {i : Nat} {x : Option V} : ∀ {ws : List Nat}, i ∈ ws → wipe (σ.set i x) ws = wipe σ ws
  | w :: ws, h => by
    have comm : ∀ (σ : L2.St) (ws : List Nat), wipe (σ.set i x) ws = wipe σ ws ∨ wipe (σ.set i x) ws = (wipe σ ws).set i x := by
      intro σ ws
      induction ws with
      | nil => exact .inr rfl
      | cons w ws ih =>
        unfold wipe
        by_cases hw : w = i
        · subst hw
          rcases ih with ih | ih
          · rw [ih]; exact .inl rfl
          · rw [ih, List.set_set]; exact .inl rfl
        · rcases ih with ih | ih
          · rw [ih]; exact .inl rfl
          · rw [ih, List.set_comm _ _ (Ne.symm hw)]; exact .inr rfl
    by_cases hw : w = i
    · subst hw
      unfold wipe
      rcases comm σ ws with q | q
      · rw [q]
      · rw [q, List.set_set]
    · have : i ∈ ws := by simpa [Ne.symm hw] using h
      unfold wipe
      rw [wipe_set this]
theorem wipe_none {σ : L2.St} : ∀ {ws : List Nat}, ∀ i ∈ ws, ∀ o, (wipe σ ws)[i]? = some o → o = none
  | w :: ws, i, h, o, e => by
    unfold wipe at e
    by_cases hw : w = i
    · subst hw
      rw [List.getElem?_set] at e
      by_cases hl : w < (wipe σ ws).length
      · rw [if_pos rfl, if_pos hl] at e; cases e; rfl
      · rw [if_pos rfl, if_neg hl] at e; cases e
    · rw [List.getElem?_set_ne hw] at e
      have hm : i ∈ ws := by simpa [Ne.symm hw] using h
      exact wipe_none i hm o e
theorem wipe_id {σ : L2.St} : ∀ {ws : List Nat}, (∀ i ∈ ws, ∀ o, σ[i]? = some o → o = none) → wipe σ ws = σ
  | [], _ => rfl
  | w :: ws, h => by
    unfold wipe
    rw [wipe_id fun i hi => h i (by simp [hi])]
    apply List.ext_getElem?
    intro j
    rw [List.getElem?_set]
    split
    · rename_i e
      subst e
      cases q : σ[w]? with
      | none =>
        have : ¬ w < σ.length := fun hl => by rw [List.getElem?_eq_getElem hl] at q; cases q
        rw [if_neg this]
      | some o =>
        have hl := (List.getElem?_eq_some_iff.mp q).1
        rw [if_pos hl, h w (by simp) o q]
    · rfl
theorem wipe_wipe {σ : L2.St} {ws : List Nat} : wipe (wipe σ ws) ws = wipe σ ws := wipe_id fun i hi o e => wipe_none i hi o e
/-- a target takes data -/
def GT (C : Cfg) (tg : Tg) : TG := fun v σ H Q => ∃ G ρ d ρ', St C σ ρ G H ∧ Rep C.K G v d ∧ setT tg d ρ = some ρ' ∧ ∀ σ', St C σ' ρ' G H → Sim (tgS tg) σ σ' → Q σ' H
def GTs (C : Cfg) (ts : List Tg) : TGs := fun vs σ H Q => ∃ G ρ ds ρ', St C σ ρ G H ∧ RepA C.K G vs ds ∧ setTs ts ds ρ = some ρ' ∧ ∀ σ', St C σ' ρ' G H → Sim (tgsS ts) σ σ' → Q σ' H
structure SndG (C : Cfg) (X : Cx) (e : Expr) (t : Tg) : Prop where
  run : PG X e (GT C t)
  ns : NoStar e
section
variable {C : Cfg} {X : Cx} {e : Expr} {t : Tg} {pos : Pos}
theorem assign1 {e : Expr} {es : List Expr} {env : PySem.Env} (h : NoStar e) : assignEach (e :: es) env = (false, assign e env) :: assignEach es env := by
  cases e <;> first | rfl | exact h.elim
theorem assign_len {env : PySem.Env} : ∀ {es : List Expr}, (∀ e ∈ es, NoStar e) → (assignEach es env).length = es.length
  | [], _ => rfl
  | e :: es, h => by rw [assign1 (h e (by simp)), List.length_cons, List.length_cons, assign_len fun x hx => h x (by simp [hx])]
theorem assign_idx {env : PySem.Env} : ∀ {es : List Expr}, (∀ e ∈ es, NoStar e) → (assignEach es env).findIdx? (·.1) = none
  | [], _ => rfl
  | e :: es, h => by
    rw [assign1 (h e (by simp)), List.findIdx?_cons]
    show (if false = true then _ else _) = none
    rw [if_neg Bool.false_ne_true, assign_idx fun x hx => h x (by simp [hx])]
    rfl
theorem sndG_name {i : Nat} {x : Str} (hN : X.N.Nodup) (hi : X.N[i]? = some x) (hx : Loc X.env.scope x) (hf : X.fn x = true ∨ X.env.scope.names.lookup x = some .local) : SndG C X (.Name x pos) (.name i) := by
  refine ⟨PG.imp (pg_name hN hi hx hf) fun v σ H Q q => ?_, trivial⟩
  obtain ⟨G, ρ, d, ρ', st, r, e, q⟩ := q
  cases e
  exact q _ (st.set r) fun ws h => wipe_set (h i (by simp [tgS]))
theorem pgs_of {es : List Expr} {ts : List Tg} (h : Paired (fun e t => SndG C X e t) es ts) : PGs X es (GTs C ts) := by
  induction h with
  | nil =>
    refine PGs.imp pgs_nil fun vs σ H Q q => ?_
    obtain ⟨G, ρ, ds, ρ', st, r, e, q⟩ := q
    cases ds with
    | nil =>
      cases r
      cases e
      exact ⟨rfl, q σ st fun _ _ => rfl⟩
    | cons d ds => cases e
  | cons h t ih =>
    refine PGs.imp (pgs_cons h.run ih (by rw [assign1 h.ns]; rfl)) fun vs σ H Q q => ?_
    obtain ⟨G, ρ, ds, ρ', st, r, e, q⟩ := q
    cases ds with
    | nil => cases e
    | cons d ds =>
      cases r with
      | cons r rr =>
        have e' := e
        simp only [setTs] at e'
        cases q1 : setT _ d ρ with
        | none => rw [q1] at e'; cases e'
        | some ρ1 =>
          rw [q1] at e'
          refine ⟨_, _, rfl, G, ρ, d, ρ1, st, r, q1, fun σ1 st1 s1 => ?_⟩
          refine ⟨G, ρ1, ds, ρ', st1, rr, e', fun σ2 st2 s2 => q σ2 st2 fun ws hw => ?_⟩
          rw [s2 ws fun i hi => hw i (by simp only [tgsS]; exact List.mem_append_right _ hi), s1 ws fun i hi => hw i (by simp only [tgsS]; exact List.mem_append_left _ hi)]
theorem pairedG_ns {es : List Expr} {ts : List Tg} (h : Paired (fun e t => SndG C X e t) es ts) : ∀ e ∈ es, NoStar e := by
  induction h with
  | nil => exact fun e he => by cases he
  | cons h t ih =>
    intro e he
    rcases List.mem_cons.mp he with rfl | he
    · exact h.ns
    · exact ih e he
theorem setTs_len : ∀ {ts : List Tg} {ds : List D} {ρ ρ' : PF.Env}, setTs ts ds ρ = some ρ' → ds.length = ts.length
  | [], [], _, _, _ => rfl
  | [], _ :: _, _, _, e => by simp only [setTs] at e; cases e
  | _ :: _, [], _, _, e => by simp only [setTs] at e; cases e
  | t :: ts, d :: ds, ρ, ρ', e => by
    simp only [setTs] at e
    cases q : setT t d ρ with
    | none => rw [q] at e; cases e
    | some ρ1 => rw [q] at e; rw [List.length_cons, List.length_cons, setTs_len e]
theorem sndG_tup {es : List Expr} {ts : List Tg} {k : Nat} (hK : X.K = C.K) (hc : X.calm = true) (h : Paired (fun e t => SndG C X e t) es ts) : SndG C X (.Tuple es k pos) (.tup ts) := by
  have ns := pairedG_ns h
  refine ⟨PG.imp (pg_tup (n := es.length) hc (pgs_of h) (assign_len ns) (assign_idx ns)) fun v σ H Q q => ?_, trivial⟩
  obtain ⟨G, ρ, d, ρ', st, r, e, q⟩ := q
  cases d with
  | tuple ds =>
    have e' : setTs ts ds ρ = some ρ' := by simpa only [setT] using e
    cases r with
    | tup h1 h2 h3 =>
      refine ⟨_, _, rfl, by rw [hK]; exact sqT_same st.same h1, ?_, G, ρ, ds, ρ', st, h3, e', fun σ' st' s' => q σ' st' fun ws hw => s' ws fun i hi => hw i (by simpa only [tgS] using hi)⟩
      rw [h3.length, setTs_len e', Paired.length h]
  | _ => simp only [setT] at e; cases e
end
/-! ### walks -/
structure WalkD (K : Fr) (G : Hp) (J : It) (ds : List D) : Prop where
  few : ds.length ≤ sizeLine
  goes : ∀ i H, i < ds.length → Same G H → J.go i H
  stops : ∀ H, Same G H → J.stop ds.length H
  yields : ∀ i G1 H1 x H', i < ds.length → Same G G1 → Same G1 H1 → J.yld i H1 x H' → ∃ G2 d, Ext G1 H1 G2 H' ∧ ds[i]? = some d ∧ Rep K G2 x d
section
variable {K : Fr} {G : Hp} {a b : Addr} {xs ys : List V} {ds es : List D}
theorem walkD_lst (h : SqL K G a xs) (l : xs.length ≤ sizeLine) (r : RepA K G xs ds) : WalkD K G (Itl K a) ds := by
  have len := r.length
  refine ⟨by omega, fun i H hi s => ?_, fun H s => ⟨xs, s.seq h, by omega⟩, fun i G1 H1 x H' hi s s1 y => ?_⟩
  · have hx : i < xs.length := by omega
    exact ⟨xs, xs[i], s.seq h, List.getElem?_eq_getElem hx⟩
  · obtain ⟨e, y⟩ := y
    subst e
    obtain ⟨d, hd, rd⟩ := r.get (y xs (s1.seq (s.seq h)))
    exact ⟨G1, d, Ext.refl s1, hd, rd.mono s⟩
theorem walkD_tup (h : SqT K G a xs) (l : xs.length ≤ sizeLine) (r : RepA K G xs ds) : WalkD K G (Itt K a) ds := by
  have len := r.length
  refine ⟨by omega, fun i H hi s => ?_, fun H s => ⟨xs, sqT_same s h, by omega⟩, fun i G1 H1 x H' hi s s1 y => ?_⟩
  · have hx : i < xs.length := by omega
    exact ⟨xs, xs[i], sqT_same s h, List.getElem?_eq_getElem hx⟩
  · obtain ⟨e, y⟩ := y
    subst e
    obtain ⟨d, hd, rd⟩ := r.get (y xs (sqT_same s1 (sqT_same s h)))
    exact ⟨G1, d, Ext.refl s1, hd, rd.mono s⟩
theorem walkD_str {z : Str} (h : z.length ≤ sizeLine) : WalkD K G (Its z) (z.cps.toList.map fun c => PyData.str ⟨#[c]⟩) := by
  have len : (z.cps.toList.map fun c => PyData.str ⟨#[c]⟩).length = z.cps.size := by rw [List.length_map]; simp
  refine ⟨by rw [len]; exact h, fun i H hi s => by rw [len] at hi; exact hi, fun H s => by show z.cps.size ≤ _; rw [len]; exact Nat.le_refl _, fun i G1 H1 x H' hi s s1 y => ?_⟩
  obtain ⟨e, c, hc, rfl⟩ := y
  subst e
  refine ⟨G1, .str ⟨#[c]⟩, Ext.refl s1, ?_, .str _⟩
  rw [List.getElem?_map]
  have : z.cps.toList[i]? = some c := by simpa using hc
  rw [this]
  rfl
theorem walkD_rng {lo : Int} {n : Nat} (hn : n ≤ sizeLine) : WalkD K G (Itr lo n) ((List.range n).map fun (i : Nat) => PyData.int (lo + (i : Int))) := by
  refine ⟨by simpa using hn, fun i H hi s => (show i < n by simpa using hi), fun H s => by simp [Itr], fun i G1 H1 x H' hi s s1 y => ?_⟩
  obtain ⟨e, y⟩ := y
  subst e y
  have hi' : i < n := by simpa using hi
  exact ⟨G1, _, Ext.refl s1, by rw [List.getElem?_map, List.getElem?_range hi']; rfl, .int _⟩
theorem sq_same {tp : Bool} {H H' : Hp} (s : Same H H') (h : Sq K tp H a xs) : Sq K tp H' a xs := by
  cases tp with
  | true => exact sqT_same s (show SqT K H a xs from h)
  | false => exact s.seq (show SqL K H a xs from h)
theorem pair_new {G1 H1 : Hp} {T : Addr} {x y : V} {d e : D} (s1 : Same G1 H1) (hT : H1 T = none) (hx : Rep K G1 x d) (hy : Rep K G1 y e) :
    Ext G1 H1 (upd G1 T (.tup [x, y])) (upd H1 T (.tup [x, y])) ∧ Rep K (upd G1 T (.tup [x, y])) (.ref T) (.tuple [d, e]) :=
  have u := same_upd (o := .tup [x, y]) (s1.free hT)
  ⟨Ext.new s1 hT, (.tup (.inl (.inl upd_same)) (by show 2 ≤ sizeLine; decide) (.cons (hx.mono u) (.cons (hy.mono u) .nil)))⟩
theorem walkD_enum {tp : Bool} (h : Sq K tp G a xs) (l : xs.length ≤ sizeLine) (r : RepA K G xs ds) : WalkD K G (ItE K tp a) (enumD ds) := by
  have len := r.length
  have el : (enumD ds).length = ds.length := by simp [enumD]
  refine ⟨by omega, fun i H hi s => ?_, fun H s => ⟨xs, sq_same s h, by omega⟩, fun i G1 H1 x H' hi s s1 y => ?_⟩
  · have hx : i < xs.length := by omega
    exact ⟨xs, xs[i], sq_same s h, List.getElem?_eq_getElem hx⟩
  · obtain ⟨T, x, rfl, hT, rfl, y⟩ := y
    obtain ⟨d, hd, rd⟩ := r.get (y xs (sq_same s1 (sq_same s h)))
    obtain ⟨e, rp⟩ := pair_new s1 hT (.int (i : Nat)) (rd.mono s)
    refine ⟨_, _, e, ?_, rp⟩
    simp [enumD, List.getElem?_map, List.getElem?_zipIdx, hd]
theorem walkD_zip {tp tp' : Bool} (h : Sq K tp G a xs) (h' : Sq K tp' G b ys) (l : xs.length ≤ sizeLine) (r : RepA K G xs ds) (r' : RepA K G ys es) : WalkD K G (ItZ K tp tp' a b) ((ds.zip es).map fun p => PyData.tuple [p.1, p.2]) := by
  have len := r.length
  have len' := r'.length
  have el : ((ds.zip es).map fun p => PyData.tuple [p.1, p.2]).length = min ds.length es.length := by simp
  refine ⟨by omega, fun i H hi s => ?_, fun H s => ⟨xs, ys, sq_same s h, sq_same s h', by omega⟩, fun i G1 H1 x H' hi s s1 y => ?_⟩
  · have hx : i < xs.length := by omega
    have hy : i < ys.length := by omega
    exact ⟨xs, ys, xs[i], ys[i], sq_same s h, sq_same s h', List.getElem?_eq_getElem hx, List.getElem?_eq_getElem hy⟩
  · obtain ⟨T, x, y, rfl, hT, rfl, y1, y2⟩ := y
    obtain ⟨d, hd, rd⟩ := r.get (y1 xs (sq_same s1 (sq_same s h)))
    obtain ⟨d', hd', rd'⟩ := r'.get (y2 ys (sq_same s1 (sq_same s h')))
    obtain ⟨e, rp⟩ := pair_new s1 hT (rd.mono s) (rd'.mono s)
    refine ⟨_, _, e, ?_, rp⟩
    have q : (ds.zip es)[i]? = some (d, d') := List.getElem?_zip_eq_some.mpr ⟨hd, hd'⟩
    rw [List.getElem?_map, q]
    rfl
end
/-- what is walked, told on data -/
def TIt (C : Cfg) (W : WX) (f : PF.Env → M (List D)) : TI := fun σ H R => ∃ G ρ, St C σ ρ G H ∧ match f ρ with
  | .no => False
  | .ex c => ∀ G' H', Ext G H G' H' → W (C.cV c) none σ H'
  | .ok ds => ∀ J G' H', Ext G H G' H' → WalkD C.K G' J ds → R J H'
noncomputable def itf (F : Nat → List D → M R) (k : IK) (ca cb : CE) (ρ : PF.Env) : M (List D) := (ev F ca ρ).bind fun x => (ev F cb ρ).bind fun y => itD k (.d x.toD) (.d y.toD)
structure SndI (F : Nat → List D → M R) (C : Cfg) (W : WX) (X : Cx) (tg e : Expr) (k : IK) (ca cb : CE) : Prop where
  run : PI X tg e (TIt C W (itf F k ca cb))
  nset : ∀ env x, foldedSetIterable e env x = pure x
section
variable {F : Nat → List D → M R} {C : Cfg} {W : WX} {X : Cx} {tg e a b c : Expr} {ce ca cb cc : CE} {pos : Pos}
theorem PI.by {t' : TI} (i : ∀ σ H R, t' σ H R → ∃ t, PI X tg e t ∧ t σ H R) : PI X tg e t' := ⟨fun pins s σ H R I q => by
  obtain ⟨t, h, q⟩ := i σ H R q
  exact h.run pins s σ H R I q⟩
theorem sndI_seq (hK : X.K = C.K) (h : Snd F C W X e ca) : SndI F C W X tg e .seq ca (.con .none) := by
  refine ⟨PI.by fun σ H R q => ?_, h.nset⟩
  obtain ⟨G, ρ, st, q⟩ := q
  simp only [itf, ev, M.bind_ok] at q
  cases q1 : ev F ca ρ with
  | no => rw [q1] at q; exact q.elim
  | ex c =>
    rw [q1] at q
    refine ⟨_, pi_list h.dat, G, ρ, st, ?_⟩
    show Fin C W (okD C.K) H σ (ev F ca ρ).toD G H _
    rw [q1]
    exact q
  | ok r =>
    rw [q1] at q
    simp only [M.bind_ok, itD, seqD] at q
    have dat : ∀ {R' : V → Hp → Prop}, (∀ v G' H', Ext G H G' H' → Rep C.K G' v r.toD → R' v H') → T C W (okD C.K) (fun ρ => (ev F ca ρ).toD) σ H R' := fun k => by
      refine ⟨G, ρ, st, ?_⟩
      show Fin C W (okD C.K) H σ (ev F ca ρ).toD G H _
      rw [q1]
      exact k
    cases hd : r.toD with
    | list xs =>
      rw [hd] at q
      refine ⟨_, pi_list h.dat, dat fun v G' H' e r => ?_⟩
      rw [hd] at r
      cases r with
      | lst h1 h2 h3 => exact ⟨_, rfl, ⟨_, by rw [hK]; exact e.gh.seq h1⟩, by rw [hK]; exact q _ G' H' e (walkD_lst h1 h2 h3)⟩
    | tuple xs =>
      rw [hd] at q
      refine ⟨_, pi_tup h.dat, dat fun v G' H' e r => ?_⟩
      rw [hd] at r
      cases r with
      | tup h1 h2 h3 => exact ⟨_, rfl, ⟨_, by rw [hK]; exact sqT_same e.gh h1⟩, by rw [hK]; exact q _ G' H' e (walkD_tup h1 h2 h3)⟩
    | str z =>
      rw [hd] at q
      by_cases hl : z.length ≤ sizeLine
      · simp only [charsD, M.chk_pos hl] at q
        refine ⟨_, pi_str h.dat, dat fun v G' H' e r => ?_⟩
        rw [hd] at r
        cases r
        exact ⟨z, rfl, q _ G' H' e (walkD_str hl)⟩
      · have hn : ∀ m : M (List D), M.chk (z.length ≤ sizeLine) m = .no := fun m => if_neg hl
        simp only [charsD, hn] at q
    | _ => rw [hd] at q; exact q.elim
/-- one argument, as data -/
theorem arg1 (ha : Snd F C W X a ca) : PA X [a] (tCons (T C W (okD C.K) fun ρ => (ev F ca ρ).toD) tNil) := pa_cons ha.dat pa_nil (star1 ha.ns)
theorem arg2 (ha : Snd F C W X a ca) (hb : Snd F C W X b cb) : PA X [a, b] (tCons (T C W (okD C.K) fun ρ => (ev F ca ρ).toD) (tCons (T C W (okD C.K) fun ρ => (ev F cb ρ).toD) tNil)) := pa_cons ha.dat (pa_cons hb.dat pa_nil (star1 hb.ns)) (star1 ha.ns)
theorem it1 {k : IK} {σ : L2.St} {H : Hp} {R : It → Hp → Prop} {R' : V → Hp → Prop} (q : TIt C W (itf F k ca (.con .none)) σ H R)
    (go : ∀ G v G' H' d, Ext G H G' H' → Rep C.K G' v d → (∀ ds, itD k (.d d) (.d .none) = .ok ds → ∀ J G2 H2, Ext G' H' G2 H2 → WalkD C.K G2 J ds → R J H2) → (∃ ds, itD k (.d d) (.d .none) = .ok ds) → R' v H')
    (ne : ∀ d c, itD k (.d d) (.d .none) ≠ .ex c) : T C W (okD C.K) (fun ρ => (ev F ca ρ).toD) σ H R' := by
  obtain ⟨G, ρ, st, q⟩ := q
  simp only [itf, ev, M.bind_ok] at q
  refine ⟨G, ρ, st, ?_⟩
  show Fin C W (okD C.K) H σ (ev F ca ρ).toD G H _
  cases q1 : ev F ca ρ with
  | no => rw [q1] at q; exact q.elim
  | ex c => rw [q1] at q; exact q
  | ok r =>
    rw [q1] at q
    simp only [M.bind_ok, PF.R.toD_d] at q
    intro v G' H' e rp
    cases q2 : itD k (.d r.toD) (.d .none) with
    | no => rw [q2] at q; exact q.elim
    | ex c => exact absurd q2 (ne _ _)
    | ok ds =>
      rw [q2] at q
      exact go G v G' H' _ e rp (fun ds' e' J G2 H2 e2 w => by rw [q2] at e'; cases e'; exact q J G2 H2 (e.trans e2) w) ⟨ds, q2⟩
theorem it2 {k : IK} {σ : L2.St} {H : Hp} {R : It → Hp → Prop} {R' : V → V → Hp → Prop} (q : TIt C W (itf F k ca cb) σ H R)
    (go : ∀ v w G' H' d d', Same G' H' → Rep C.K G' v d → Rep C.K G' w d' → (∀ ds, itD k (.d d) (.d d') = .ok ds → ∀ J G2 H2, Ext G' H' G2 H2 → WalkD C.K G2 J ds → R J H2) → (∃ ds, itD k (.d d) (.d d') = .ok ds) → R' v w H')
    (ne : ∀ d d' c, itD k (.d d) (.d d') ≠ .ex c) : T C W (okD C.K) (fun ρ => (ev F ca ρ).toD) σ H fun v H1 => T C W (okD C.K) (fun ρ => (ev F cb ρ).toD) σ H1 fun w H2 => R' v w H2 := by
  obtain ⟨G, ρ, st, q⟩ := q
  simp only [itf] at q
  refine ⟨G, ρ, st, ?_⟩
  show Fin C W (okD C.K) H σ (ev F ca ρ).toD G H _
  cases q1 : ev F ca ρ with
  | no => rw [q1] at q; exact q.elim
  | ex c => rw [q1] at q; exact q
  | ok r =>
    rw [q1] at q
    simp only [M.bind_ok] at q
    intro v G' H' e rp
    refine ⟨G', ρ, st.mono e, ?_⟩
    show Fin C W (okD C.K) H' σ (ev F cb ρ).toD G' H' _
    cases q3 : ev F cb ρ with
    | no => rw [q3] at q; exact q.elim
    | ex c => rw [q3] at q; exact fun G2 H2 e2 => q G2 H2 (e.trans e2)
    | ok r' =>
      rw [q3] at q
      simp only [M.bind_ok] at q
      intro w G2 H2 e2 rp2
      cases q2 : itD k (.d r.toD) (.d r'.toD) with
      | no => rw [q2] at q; exact q.elim
      | ex c => exact absurd q2 (ne _ _ _)
      | ok ds =>
        rw [q2] at q
        exact go v w G2 H2 _ _ e2.gh (rp.mono e2.gg) rp2 (fun ds' e' J G3 H3 e3 w => by rw [q2] at e'; cases e'; exact q J G3 H3 ((e.trans e2).trans e3) w) ⟨ds, q2⟩
theorem rngD_ex {i j : Int} {c : Nat} : rngD i j ≠ .ex c := by unfold rngD M.chk; split <;> simp
theorem seqD_ex {r : R} {c : Nat} : seqD r ≠ .ex c := by unfold seqD; split <;> simp
theorem itD_ex {k : IK} {x y : R} {c : Nat} : itD k x y ≠ .ex c := by
  cases k <;> simp only [itD]
  · cases q : seqD x with
    | ok a => simp
    | ex c => exact absurd q seqD_ex
    | no =>
      simp only [charsD]
      split
      · simp only [M.chk]; split <;> simp
      · simp
  · split
    · exact rngD_ex
    · simp
  · split
    · exact rngD_ex
    · simp
  · cases q : seqD x with
    | ok a => simp
    | ex c => exact absurd q seqD_ex
    | no => simp
  · cases q : seqD x with
    | ok a =>
      cases q2 : seqD y with
      | ok a => simp
      | ex c => exact absurd q2 seqD_ex
      | no => simp
    | ex c => exact absurd q seqD_ex
    | no => simp
theorem sndI_rng1 {p : Pos} (hg : Gl X "range") (hm : X.mg "range" = none) (ha : Snd F C W X a ca) : SndI F C W X tg (.Call (.Name "range" p) [a] [] pos) .rng1 ca (.con .none) := by
  refine ⟨PI.imp (pi_range1 hg hm (arg1 ha) (by rw [star1 ha.ns]; rfl)) fun σ H R q => ?_, fun _ _ => rfl⟩
  refine it1 q (fun G v G' H' d e rp k ⟨ds, hd⟩ => ?_) fun _ _ => itD_ex
  simp only [itD] at hd k
  split at hd
  · rename_i j he
    cases he
    cases rp
    have k' := k ds hd
    obtain ⟨⟨c1, c2, c3, c4, c5⟩, hd⟩ := M.chk_ok hd
    cases hd
    refine ⟨j, rfl, c3, c4, k' _ G' H' (Ext.refl e.gh) ?_⟩
    have e1 : (j - 0).toNat = j.toNat := by simp
    rw [e1]
    exact walkD_rng (by rw [e1] at c5; exact c5)
  · cases hd
theorem sndI_rng2 {p : Pos} (hg : Gl X "range") (hm : X.mg "range" = none) (ha : Snd F C W X a ca) (hb : Snd F C W X b cb) : SndI F C W X tg (.Call (.Name "range" p) [a, b] [] pos) .rng2 ca cb := by
  refine ⟨PI.imp (pi_range2 hg hm (arg2 ha hb) (by rw [star1 ha.ns, star1 hb.ns]; rfl) (by rw [star1 hb.ns]; rfl)) fun σ H R q => ?_, fun _ _ => rfl⟩
  refine it2 (R' := fun v w H2 => ∃ i j : Int, [v, w] = [.int i, .int j] ∧ _ ∧ R (Itr i (j - i).toNat) H2) q (fun v w G' H' d d' e rp rp' k ⟨ds, hd⟩ => ?_) fun _ _ _ => itD_ex
  simp only [itD] at hd k
  split at hd
  · rename_i i j he he'
    cases he
    cases he'
    cases rp
    cases rp'
    have k' := k ds hd
    obtain ⟨⟨c1, c2, c3, c4, c5⟩, hd⟩ := M.chk_ok hd
    cases hd
    exact ⟨i, j, rfl, ⟨c1, c2, c3, c4⟩, k' _ G' H' (Ext.refl e) (walkD_rng c5)⟩
  · cases hd
theorem seq_sq {K : Fr} {G : Hp} {v : V} {d : D} {ds : List D} (h : Rep K G v d) (e : seqD (.d d) = .ok ds) : ∃ tp a xs, v = .ref a ∧ Sq K tp G a xs ∧ xs.length ≤ sizeLine ∧ RepA K G xs ds := by
  cases h with
  | lst h1 h2 h3 => cases e; exact ⟨false, _, _, rfl, h1, h2, h3⟩
  | tup h1 h2 h3 => cases e; exact ⟨true, _, _, rfl, h1, h2, h3⟩
  | _ => cases e
theorem sndI_enum {p tpos : Pos} {elts : List Expr} {kk : Nat} (hK : X.K = C.K) (hg : Gl X "enumerate") (hm : X.mg "enumerate" = none) (ha : Snd F C W X a ca) : SndI F C W X (.Tuple elts kk tpos) (.Call (.Name "enumerate" p) [a] [] pos) .enum ca (.con .none) := by
  refine ⟨PI.imp (pi_enumQ hg hm (arg1 ha) (by rw [star1 ha.ns]; rfl)) fun σ H R q => ?_, fun _ _ => rfl⟩
  refine it1 q (fun G v G' H' d e rp k ⟨ds, hd⟩ => ?_) fun _ _ => itD_ex
  simp only [itD] at hd k
  cases q1 : seqD (.d d) with
  | no => rw [q1] at hd; cases hd
  | ex c => rw [q1] at hd; cases hd
  | ok es =>
    obtain ⟨tp, a, xs, rfl, h1, h2, h3⟩ := seq_sq rp q1
    rw [hK]
    exact ⟨tp, a, xs, rfl, sq_same e.gh h1, k _ (by rw [q1]; rfl) _ G' H' (Ext.refl e.gh) (walkD_enum h1 h2 h3)⟩
theorem sndI_zip {p tpos : Pos} {elts : List Expr} {kk : Nat} (hK : X.K = C.K) (hg : Gl X "zip") (hm : X.mg "zip" = none) (ha : Snd F C W X a ca) (hb : Snd F C W X b cb) : SndI F C W X (.Tuple elts kk tpos) (.Call (.Name "zip" p) [a, b] [] pos) .zip ca cb := by
  refine ⟨PI.imp (pi_zipQ hg hm (arg2 ha hb) (by rw [star1 ha.ns, star1 hb.ns]; rfl) (by rw [star1 hb.ns]; rfl)) fun σ H R q => ?_, fun _ _ => rfl⟩
  refine it2 (R' := fun v w H2 => ∃ tp tp' a b xs ys, [v, w] = [.ref a, .ref b] ∧ Sq X.K tp H2 a xs ∧ Sq X.K tp' H2 b ys ∧ R (ItZ X.K tp tp' a b) H2) q (fun v w G' H' d d' e rp rp' k ⟨ds, hd⟩ => ?_) fun _ _ _ => itD_ex
  simp only [itD] at hd k
  cases q1 : seqD (.d d) with
  | no => rw [q1] at hd; cases hd
  | ex c => rw [q1] at hd; cases hd
  | ok es =>
    cases q2 : seqD (.d d') with
    | no => rw [q1, q2] at hd; cases hd
    | ex c => rw [q1, q2] at hd; cases hd
    | ok es' =>
      obtain ⟨tp, a, xs, rfl, h1, h2, h3⟩ := seq_sq rp q1
      obtain ⟨tp', b, ys, rfl, h1', h2', h3'⟩ := seq_sq rp' q2
      rw [hK]
      exact ⟨tp, tp', a, b, xs, ys, rfl, sq_same e h1, sq_same e h1', k _ (by rw [q1, q2]; rfl) _ G' H' (Ext.refl e) (walkD_zip h1 h1' h2 h3 h3')⟩
end
end PF

end

section
/-! PF6: list comprehensions. -/
namespace PF
open PySem PySem.Spec PyProof.Rows L2
/-- in a block nothing may be raised -/
abbrev W0 : WX := fun _ _ _ _ => False
theorem M.noex_ok_iff {α : Type} {m : M α} {a : α} (h : M.noex m = .ok a) : m = .ok a := by
  cases m with
  | ok b => exact h
  | ex c => cases h
  | no => cases h
theorem M.bind_ok_iff {α β : Type} {m : M α} {f : α → M β} {b : β} (h : m.bind f = .ok b) : ∃ a, m = .ok a ∧ f a = .ok b := by
  cases m with
  | ok a => exact ⟨a, rfl, h⟩
  | ex c => cases h
  | no => cases h
theorem M.opt_ok_iff {α : Type} {m : Option α} {a : α} (h : M.opt m = .ok a) : m = some a := by
  cases m with
  | some b => cases h; rfl
  | none => cases h
theorem M.bind_ex_iff {α β : Type} {m : M α} {f : α → M β} {c : Nat} (h : m.bind f = .ex c) : m = .ex c ∨ ∃ a, m = .ok a ∧ f a = .ex c := by
  cases m with
  | ok a => exact .inr ⟨a, rfl, h⟩
  | ex c => cases h; exact .inl rfl
  | no => cases h
theorem noex_ex {α : Type} {m : M α} {c : Nat} : M.noex m ≠ .ex c := by cases m <;> simp
theorem compD_ex {tg : Tg} {t : PF.Env → M Bool} {e : PF.Env → M D} {ρ : PF.Env} {c : Nat} : ∀ {ds : List D}, compD tg t e ρ ds ≠ .ex c
  | [] => by simp [compD]
  | d :: ds => by
    intro h
    simp only [compD] at h
    rcases M.bind_ex_iff h with h | ⟨ρ', _, h⟩
    · exact opt_ex h
    rcases M.bind_ex_iff h with h | ⟨b, _, h⟩
    · exact noex_ex h
    split at h
    · rcases M.bind_ex_iff h with h | ⟨y, _, h⟩
      · exact noex_ex h
      rcases M.bind_ex_iff h with h | ⟨r, _, h⟩
      · exact compD_ex h
      · cases h
    · exact compD_ex h
section
variable {F : Nat → List D → M R} {C : Cfg} {W : WX} {X : Cx} {tg it elt : Expr} {ca cb ce : CE} {k : IK} {tgc : Tg} {ifs : List Expr} {cifs : List CE} {pos : Pos} {scope : Scope} {own : List (Str × Nat)}
/-- the list at D so far, over the base G1, H1 -/
structure LcAt (C : Cfg) (σ : L2.St) (ρ : PF.Env) (G1 H1 : Hp) (Dd : Addr) (ds rfin : List D) (rest : List D → M (List D)) (i : Nat) (Hi : Hp) : Prop where
  ex : ∃ Gi xs rs r', Ext G1 H1 Gi Hi ∧ Gi Dd = none ∧ Hi Dd = some (.lst xs) ∧ xs.length ≤ i ∧ RepA C.K Gi xs rs ∧ rest (ds.drop i) = .ok r' ∧ rfin = rs ++ r'
theorem comp_reading {σ : L2.St} {H : Hp} {Q : VK} (hs : ∀ i ∈ tgS tgc, i ∈ own.map (·.2)) (q : T C W (okR C.K) (ev F (.comp ce tgc k ca cb cifs (own.map (·.2)))) σ H Q) :
    tLc (TIt C W (itf F k ca cb)) (GT C tgc) (T C W0 okB (evc F cifs)) (T C W0 (okD C.K) fun ρ => (ev F ce ρ).toD) (own.map (·.2)) σ H Q := by
  obtain ⟨G, ρ, st, fin⟩ := q
  have hev : ev F (.comp ce tgc k ca cb cifs (own.map (·.2))) ρ = (itf F k ca cb ρ).bind fun ds => (compD tgc (evc F cifs) (fun ρ' => (ev F ce ρ').toD) (wipeE ρ (own.map (·.2))) ds).bind fun r => .ok (.o r) := by
    simp only [ev, itf, M.bind_assoc]
  rw [hev] at fin
  refine ⟨G, ρ, st, ?_⟩
  cases q1 : itf F k ca cb ρ with
  | no => rw [q1] at fin; exact fin.elim
  | ex c => rw [q1] at fin; exact fin
  | ok ds =>
    rw [q1] at fin
    simp only [M.bind_ok] at fin
    intro J G1 H1 e1 wd Dd hD
    generalize hrest : compD tgc (evc F cifs) (fun ρ' => (ev F ce ρ').toD) (wipeE ρ (own.map (·.2))) = rest at fin
    cases q2 : rest ds with
    | no => rw [q2] at fin; exact fin.elim
    | ex c => rw [← hrest] at q2; exact absurd q2 compD_ex
    | ok rfin =>
      rw [q2] at fin
      simp only [M.bind_ok] at fin
      have walk : Walk J ds.length (fun H => Same G1 H) (fun i H x H' => ∀ G2, Same G1 G2 → Same G2 H → ∃ G3 d, Ext G2 H G3 H' ∧ ds[i]? = some d ∧ Rep C.K G3 x d) :=
        ⟨fun i H hi s => wd.goes i H hi s, fun H s => wd.stops H s, fun i H x H' hi s y G2 s1 s2 => wd.yields i G2 H x H' hi s1 s2 y⟩
      refine lc_it walk (LcAt C σ ρ G1 H1 Dd ds rfin rest) ?_ ?_ ?_ ?_
      · refine ⟨G1, [], [], rfin, Ext.own e1.gh hD, e1.gh.free hD, upd_same, Nat.le_refl _, .nil, by simpa using q2, rfl⟩
      · rintro i Hi _ ⟨Gi, xs, rs, r', x1, _⟩
        exact x1.gg.trans x1.gh
      · rintro i x Hi H' hi ⟨Gi, xs, rs, r', x1, x2, x3, x4, x5, x6, x7⟩ y
        obtain ⟨G3, d, x8, x9, x10⟩ := y Gi x1.gg x1.gh
        have hdrop : ds.drop i = d :: ds.drop (i + 1) := by
          have hl : i < ds.length := hi
          rw [List.drop_eq_getElem_cons hl]
          have : ds[i] = d := by
            rw [List.getElem?_eq_getElem hl] at x9
            exact Option.some.inj x9
          rw [this]
        rw [hdrop, ← hrest] at x6
        simp only [compD] at x6
        obtain ⟨ρ', y1, x6⟩ := M.bind_ok_iff x6
        obtain ⟨b, y2, x6⟩ := M.bind_ok_iff x6
        have y1 := M.opt_ok_iff y1
        have y2 := M.noex_ok_iff y2
        have stw : St C (wipe σ (own.map (·.2))) (wipeE ρ (own.map (·.2))) G3 H' := (st.wipe _).mono ((e1.trans x1).trans x8)
        refine ⟨G3, _, d, ρ', stw, x10, y1, fun σ' st' sim => ⟨?_, ?_⟩⟩
        · rw [sim _ hs, wipe_wipe]
        refine ⟨G3, ρ', st', ?_⟩
        rw [y2]
        intro b' G4 H4 e4 o
        cases o
        have hD4 : H4 Dd = some (.lst xs) := e4.hh _ _ (x8.hh _ _ x3)
        have hG4 : G4 Dd = none := e4.nw _ (x8.nw _ x2 (by rw [x3]; simp)) (by rw [x8.hh _ _ x3]; simp)
        cases b with
        | false =>
          rw [if_neg Bool.false_ne_true] at x6 ⊢
          rw [hrest] at x6
          exact ⟨G4, xs, rs, r', (x1.trans x8).trans e4, hG4, hD4, by omega, x5.mono (x8.gg.trans e4.gg), x6, x7⟩
        | true =>
          rw [if_pos rfl] at x6 ⊢
          obtain ⟨yd, y3, x6⟩ := M.bind_ok_iff x6
          obtain ⟨r2, y4, x6⟩ := M.bind_ok_iff x6
          have y3 := M.noex_ok_iff y3
          cases x6
          refine ⟨G4, ρ', st'.mono e4, ?_⟩
          show Fin C W0 (okD C.K) H4 σ' (ev F ce ρ').toD G4 H4 _
          rw [y3]
          intro yv G5 H5 e5 rp
          have hD5 : H5 Dd = some (.lst xs) := e5.hh _ _ hD4
          have hG5 : G5 Dd = none := e5.nw _ hG4 (by rw [hD4]; simp)
          have e15 : Ext G1 H1 G5 H5 := ((x1.trans x8).trans e4).trans e5
          have few := wd.few
          refine ⟨xs, hD5, by omega, G5, xs ++ [yv], rs ++ [yd], r2, ⟨?_, e15.gg, ?_, e15.nw⟩, hG5, upd_same, by rw [List.length_append]; simp; omega, ?_, by rw [← hrest]; exact y4, by rw [x7]; simp⟩
          · intro c o hc
            rw [upd_ne (ne_of_none hc hD)]
            exact e15.hh c o hc
          · intro c o hc
            rw [upd_ne (ne_of_none hc hG5)]
            exact e15.gh c o hc
          · exact (x5.mono ((x8.gg.trans e4.gg).trans e5.gg)).append (.cons rp .nil)
      · rintro Hi ⟨Gi, xs, rs, r', x1, x2, x3, x4, x5, x6, x7⟩
        have few := wd.few
        have : r' = [] := by
          rw [← hrest] at x6
          simp only [List.drop_length, compD] at x6
          cases x6; rfl
        subst this
        rw [List.append_nil] at x7
        subst x7
        exact fin (.ref Dd) Gi Hi (e1.trans x1) ⟨Dd, xs, rfl, x3, by omega, x5, e1.hh.free hD, x2⟩
/-- the parts of a comprehension -/
structure CompParts (F : Nat → List D → M R) (C : Cfg) (W : WX) (X : Cx) (elt tg it : Expr) (ifs : List Expr) (scope : Scope) (own : List (Str × Nat)) (ce : CE) (tgc : Tg) (k : IK) (ca cb : CE) (cifs : List CE) : Prop where
  calm : X.calm = true
  nd : X.N.Nodup
  it : SndI F C W X tg it k ca cb
  blk : BlkOk X.N X.env.scope scope own
  own : ∀ i ∈ tgS tgc, i ∈ own.map (·.2)
  tg : ∀ (s : Shared) (H : Hp) (Cc : Addr) (cl : List (Str × Addr)) (fp : List Addr), SndG C (X.blk s H scope (compEnvC scope cl Cc X.env) fp) tg tgc
  few : ifs.length ≤ 1
  ifs : ∀ (s : Shared) (H : Hp) (Cc : Addr) (cl : List (Str × Addr)) (fp : List Addr), Paired (fun e c => Snd F C W0 (X.blk s H scope (compEnvC scope cl Cc X.env) fp) e c) ifs cifs
  elt : ∀ (s : Shared) (H : Hp) (Cc : Addr) (cl : List (Str × Addr)) (fp : List Addr), Snd F C W0 (X.blk s H scope (compEnvC scope cl Cc X.env) fp) elt ce
theorem pts_of {Y : Cx} (h : Paired (fun e c => Snd F C W0 Y e c) ifs cifs) (few : ifs.length ≤ 1) : PTs Y ifs (T C W0 okB (evc F cifs)) := by
  cases h with
  | nil =>
    refine PTs.imp pts_nil fun σ H Q ⟨G, ρ, st, fin⟩ => ?_
    simp only [evc] at fin
    exact fin true G H (Ext.refl st.same) rfl
  | cons h t =>
    cases t with
    | nil =>
      refine PTs.imp (pts_one h.tst) fun σ H Q ⟨G, ρ, st, fin⟩ => ⟨G, ρ, st, ?_⟩
      simp only [evc] at fin
      exact fin
    | cons _ _ => simp at few
theorem pe_comp (h : CompParts F C W X elt tg it ifs scope own ce tgc k ca cb cifs) : PE X (.ListComp elt [⟨tg, it, ifs, 0⟩] scope pos) (T C W (okR C.K) (ev F (.comp ce tgc k ca cb cifs (own.map (·.2))))) :=
  PE.imp (pe_lc h.calm h.nd h.it.run h.blk (fun s H Cc cl fp => (h.tg s H Cc cl fp).run) (fun s H Cc cl fp => pts_of (h.ifs s H Cc cl fp) h.few) (fun s H Cc cl fp => (h.elt s H Cc cl fp).dat) (fun x => h.it.nset X.env x)) fun σ H Q q => comp_reading h.own q
theorem snd_comp (hK : X.K = C.K) (h : CompParts F C W X elt tg it ifs scope own ce tgc k ca cb cifs) : Snd F C W X (.ListComp elt [⟨tg, it, ifs, 0⟩] scope pos) (.comp ce tgc k ca cb cifs (own.map (·.2))) :=
  Snd.of hK (pe_comp h) (by simp) (fun _ => rfl) trivial fun _ _ => rfl
/-- name = [..] whose value goes to the name within the comprehension -/
theorem ps_comp {i : Nat} {y : Str} {py spos : Pos} (h : CompParts F C W X elt tg it ifs scope own ce tgc k ca cb cifs) (hy : X.N[i]? = some y) (hyl : X.env.scope.names.lookup y = some .local)
    (hsw : swapsWith (.ListComp elt [⟨tg, it, ifs, 0⟩] scope pos) (some (.Name y py)) spos.line X.env = pure true) :
    PS X (.Assign [.Name y py] (.ListComp elt [⟨tg, it, ifs, 0⟩] scope pos) spos) (tAsg (T C W (okR C.K) (ev F (.comp ce tgc k ca cb cifs (own.map (·.2))))) (gName i)) :=
  PS.imp (ps_setLc h.calm h.nd hy hyl hsw h.it.run h.blk (fun s H Cc cl fp => (h.tg s H Cc cl fp).run) (fun s H Cc cl fp => pts_of (h.ifs s H Cc cl fp) h.few) (fun s H Cc cl fp => (h.elt s H Cc cl fp).dat) (fun x => h.it.nset X.env x)) fun D σ H q => comp_reading h.own q
end
end PF

end

section
/-! PF7: statements. -/
namespace PF
open PySem PySem.Spec PyProof.Rows L2
/-- how a statement ends -/
inductive Ctl where
  | nx (ρ : PF.Env)
  | rt (r : R)
  | bk (ρ : PF.Env)
  | ct (ρ : PF.Env)
  | ex (c : Nat) (ρ : PF.Env)
  | no
inductive CS where
  | asg (i : Nat) (keep : Bool) (e : CE)
  | asgT (tg : Tg) (e : CE)
  | par (i j : Nat) (a b : CE)
  | aug (i : Nat) (e : CE)
  | setix (i : Nat) (ix e : CE)
  | app (i : Nat) (e : CE)
  | expr (e : CE)
  | ret (e : CE)
  | retv (i : Nat)
  | retN
  | ite (c : CE) (a b : List CS)
  | whl (c : CE) (b : List CS)
  | for (tg : Tg) (k : IK) (a b : CE) (body : List CS)
  | brk
  | cnt
  | pass
  | raise (c : Nat)
  | try (body : List CS) (row : List Bool) (slot : Option Nat) (suite : List CS)
  | frz (is : List Nat) (s : CS)
  | dnew (i : Nat)
  | dput (i : Nat) (k e : CE)
  | bad
def store (keep : Bool) (r : R) : Sl := match keep, r with
  | true, .o ds => .own ds
  | _, r => .val r.toD
def frz1 (i : Nat) (ρ : PF.Env) : PF.Env := match ρ.getD i .no with
  | .own ds => ρ.set i (.val (.list ds))
  | _ => ρ
def frzE (is : List Nat) (ρ : PF.Env) : PF.Env := is.foldl (fun ρ i => frz1 i ρ) ρ
def Ctl.seq (c : Ctl) (k : PF.Env → Ctl) : Ctl := match c with
  | .nx ρ => k ρ
  | c => c
/-- a result, or the way out -/
def M.ctl {α : Type} (m : M α) (ρ : PF.Env) (k : α → Ctl) : Ctl := match m with
  | .ok a => k a
  | .ex c => .ex c ρ
  | .no => .no
@[simp] theorem M.ctl_ok {α : Type} (a : α) (ρ : PF.Env) (k : α → Ctl) : (M.ok a).ctl ρ k = k a := rfl
@[simp] theorem M.ctl_ex {α : Type} (c : Nat) (ρ : PF.Env) (k : α → Ctl) : (M.ex c : M α).ctl ρ k = .ex c ρ := rfl
@[simp] theorem M.ctl_no {α : Type} (ρ : PF.Env) (k : α → Ctl) : (M.no : M α).ctl ρ k = .no := rfl
@[simp] theorem Ctl.seq_nx (ρ : PF.Env) (k : PF.Env → Ctl) : (Ctl.nx ρ).seq k = k ρ := rfl
@[simp] theorem Ctl.seq_rt (r : R) (k : PF.Env → Ctl) : (Ctl.rt r).seq k = .rt r := rfl
@[simp] theorem Ctl.seq_bk (ρ : PF.Env) (k : PF.Env → Ctl) : (Ctl.bk ρ).seq k = .bk ρ := rfl
@[simp] theorem Ctl.seq_ct (ρ : PF.Env) (k : PF.Env → Ctl) : (Ctl.ct ρ).seq k = .ct ρ := rfl
@[simp] theorem Ctl.seq_ex (c : Nat) (ρ : PF.Env) (k : PF.Env → Ctl) : (Ctl.ex c ρ).seq k = .ex c ρ := rfl
@[simp] theorem Ctl.seq_no (k : PF.Env → Ctl) : Ctl.no.seq k = .no := rfl
def optC {α : Type} (o : Option α) (k : α → Ctl) : Ctl := match o with
  | some a => k a
  | none => .no
@[simp] theorem optC_some {α : Type} (a : α) (k : α → Ctl) : optC (some a) k = k a := rfl
@[simp] theorem optC_none {α : Type} (k : α → Ctl) : optC (none : Option α) k = .no := rfl
/-- a for's turns -/
def forD (tg : Tg) (b : PF.Env → Ctl) : List D → PF.Env → Ctl
  | [], ρ => .nx ρ
  | d :: ds, ρ => optC (setT tg d ρ) fun ρ1 => match b ρ1 with
    | .nx ρ2 => forD tg b ds ρ2
    | .ct ρ2 => forD tg b ds ρ2
    | .bk ρ2 => .nx ρ2
    | c => c
/-- a while of at most n turns -/
def whlN (t : PF.Env → M Bool) (b : PF.Env → Ctl) : Nat → PF.Env → Ctl
  | 0, _ => .no
  | n + 1, ρ => (t ρ).ctl ρ fun k => if k = true then (match b ρ with
    | .nx ρ2 => whlN t b n ρ2
    | .ct ρ2 => whlN t b n ρ2
    | .bk ρ2 => .nx ρ2
    | c => c) else .nx ρ
open Classical in
noncomputable def whlD (t : PF.Env → M Bool) (b : PF.Env → Ctl) (ρ : PF.Env) : Ctl := if h : ∃ n, whlN t b n ρ ≠ .no then whlN t b h.choose ρ else .no
theorem whlN_mono {t : PF.Env → M Bool} {b : PF.Env → Ctl} : ∀ {n m : Nat} {ρ : PF.Env}, whlN t b n ρ ≠ .no → n ≤ m → whlN t b m ρ = whlN t b n ρ
  | 0, _, _, h, _ => absurd rfl h
  | n + 1, 0, _, _, l => absurd l (by omega)
  | n + 1, m + 1, ρ, h, l => by
    simp only [whlN] at h ⊢
    cases q : t ρ with
    | no => rw [q] at h; exact absurd rfl h
    | ex c => rfl
    | ok k =>
      rw [q] at h
      simp only [M.ctl_ok] at h ⊢
      cases k with
      | false => rfl
      | true =>
        rw [if_pos rfl] at h
        rw [if_pos rfl, if_pos rfl]
        cases q2 : b ρ with
        | nx ρ2 => rw [q2] at h; exact whlN_mono h (by omega)
        | ct ρ2 => rw [q2] at h; exact whlN_mono h (by omega)
        | bk ρ2 => rfl
        | rt r => rfl
        | ex c ρ2 => rfl
        | no => rfl
theorem whlD_eq {t : PF.Env → M Bool} {b : PF.Env → Ctl} {n : Nat} {ρ : PF.Env} {c : Ctl} (h : whlN t b n ρ = c) (nn : c ≠ .no) : whlD t b ρ = c := by
  have h0 : ∃ n, whlN t b n ρ ≠ .no := ⟨n, by rw [h]; exact nn⟩
  unfold whlD
  rw [dif_pos h0]
  have h1 := h0.choose_spec
  have h2 : whlN t b n ρ ≠ .no := by rw [h]; exact nn
  rcases Nat.le_total n h0.choose with l | l
  · rw [whlN_mono h2 l, h]
  · rw [← whlN_mono h1 l, h]
theorem whlD_of {t : PF.Env → M Bool} {b : PF.Env → Ctl} {ρ : PF.Env} (nn : whlD t b ρ ≠ .no) : ∃ n, whlN t b n ρ = whlD t b ρ := by
  unfold whlD at nn ⊢
  split
  · rename_i h; exact ⟨h.choose, rfl⟩
  · rename_i h; rw [dif_neg h] at nn; exact absurd rfl nn
/-- one turn -/
theorem whlD_step {t : PF.Env → M Bool} {b : PF.Env → Ctl} {ρ : PF.Env} : whlD t b ρ = (t ρ).ctl ρ fun k => if k = true then (match b ρ with
    | .nx ρ2 => whlD t b ρ2
    | .ct ρ2 => whlD t b ρ2
    | .bk ρ2 => .nx ρ2
    | c => c) else .nx ρ := by
  have main : ∀ c, c ≠ Ctl.no → (((t ρ).ctl ρ fun k => if k = true then (match b ρ with
    | .nx ρ2 => whlD t b ρ2
    | .ct ρ2 => whlD t b ρ2
    | .bk ρ2 => .nx ρ2
    | c => c) else .nx ρ) = c) → whlD t b ρ = c := by
    intro c nc h
    cases q : t ρ with
    | no => rw [q] at h; exact absurd h.symm nc
    | ex e => rw [q] at h; exact whlD_eq (n := 1) (by simp only [whlN, q]; exact h) nc
    | ok k =>
      rw [q] at h
      simp only [M.ctl_ok] at h
      cases k with
      | false => exact whlD_eq (n := 1) (by simp only [whlN, q]; exact h) nc
      | true =>
        rw [if_pos rfl] at h
        cases q2 : b ρ with
        | nx ρ2 =>
          rw [q2] at h
          replace h : whlD t b ρ2 = c := h
          obtain ⟨n, hn⟩ := whlD_of (t := t) (b := b) (ρ := ρ2) (by rw [h]; exact nc)
          exact whlD_eq (n := n + 1) (by simp only [whlN, q, M.ctl_ok, if_pos, q2]; rw [hn]; exact h) nc
        | ct ρ2 =>
          rw [q2] at h
          replace h : whlD t b ρ2 = c := h
          obtain ⟨n, hn⟩ := whlD_of (t := t) (b := b) (ρ := ρ2) (by rw [h]; exact nc)
          exact whlD_eq (n := n + 1) (by simp only [whlN, q, M.ctl_ok, if_pos, q2]; rw [hn]; exact h) nc
        | bk ρ2 => exact whlD_eq (n := 1) (by simp only [whlN, q, M.ctl_ok, if_pos, q2]; rw [q2] at h; exact h) nc
        | rt r => exact whlD_eq (n := 1) (by simp only [whlN, q, M.ctl_ok, if_pos, q2]; rw [q2] at h; exact h) nc
        | ex e ρ2 => exact whlD_eq (n := 1) (by simp only [whlN, q, M.ctl_ok, if_pos, q2]; rw [q2] at h; exact h) nc
        | no => rw [q2] at h; exact absurd h.symm nc
  by_cases z : ((t ρ).ctl ρ fun k => if k = true then (match b ρ with
    | .nx ρ2 => whlD t b ρ2
    | .ct ρ2 => whlD t b ρ2
    | .bk ρ2 => .nx ρ2
    | c => c) else .nx ρ) = .no
  · rw [z]
    by_cases w : whlD t b ρ = .no
    · exact w
    · obtain ⟨n, hn⟩ := whlD_of w
      cases n with
      | zero => exact hn.symm
      | succ n =>
        exfalso
        simp only [whlN] at hn
        cases q : t ρ with
        | no => rw [q] at hn; exact w hn.symm
        | ex e => rw [q] at z; cases z
        | ok k =>
          rw [q] at hn z
          simp only [M.ctl_ok] at hn z
          cases k with
          | false => simp at z
          | true =>
            rw [if_pos rfl] at hn z
            cases q2 : b ρ with
            | nx ρ2 =>
              rw [q2] at hn z
              have := whlD_eq hn w
              simp only at z
              rw [z] at this
              exact w this.symm
            | ct ρ2 =>
              rw [q2] at hn z
              have := whlD_eq hn w
              simp only at z
              rw [z] at this
              exact w this.symm
            | bk ρ2 => rw [q2] at z; cases z
            | rt r => rw [q2] at z; cases z
            | ex e ρ2 => rw [q2] at z; cases z
            | no => rw [q2] at hn; exact w hn.symm
  · exact main _ z rfl
def Sl.isExc : Sl → Bool
  | .exc _ => true
  | _ => false
def clean (ρ : PF.Env) : Bool := ρ.all fun s => !s.isExc
/-- behind an except suite -/
def unslot (slot : Option Nat) (c : Ctl) : Ctl := match c with
  | .nx ρ => let ρ' := (match slot with
    | some i => ρ.set i .no
    | none => ρ)
    if clean ρ' = true then .nx ρ' else .no
  | .rt r => .rt r
  | _ => .no
mutual
noncomputable def exS (F : Nat → List D → M R) : CS → PF.Env → Ctl
  | .asg i keep e, ρ => (ev F e ρ).ctl ρ fun r => .nx (ρ.set i (store keep r))
  | .asgT tg e, ρ => (ev F e ρ).toD.ctl ρ fun d => optC (setT tg d ρ) fun ρ' => .nx ρ'
  | .par i j a b, ρ => (evs F [a, b] ρ).ctl ρ fun ds => match ds with
    | [x, y] => .nx ((ρ.set i (.val x)).set j (.val y))
    | _ => .no
  | .aug i e, ρ => match ρ.getD i .no with
    | .val (.int n) => (ev F e ρ).ctl ρ fun r => match r with
      | .d (.int m) => .nx (ρ.set i (.val (.int (n + m))))
      | _ => .no
    | _ => .no
  | .setix i ix e, ρ => (ev F e ρ).toD.ctl ρ fun d => match ρ.getD i .no with
    | .own ds => (ev F ix ρ).ctl ρ fun k => match k with
      | .d (.int k) => optC (ixN ds.length k) fun j => .nx (ρ.set i (.own (ds.set j d)))
      | _ => .no
    | _ => .no
  | .app i e, ρ => match ρ.getD i .no with
    | .own ds => (ev F e ρ).toD.ctl ρ fun d => if ds.length < sizeLine then .nx (ρ.set i (.own (ds ++ [d]))) else .no
    | _ => .no
  | .expr e, ρ => (ev F e ρ).ctl ρ fun _ => .nx ρ
  | .ret e, ρ => (ev F e ρ).ctl ρ fun r => .rt r
  | .retv i, ρ => (getP ρ i).ctl ρ fun r => .rt r
  | .retN, _ => .rt (.d .none)
  | .ite c a b, ρ => ((pk c ρ (ev F c ρ)).bind truthy).ctl ρ fun k => if k = true then exB F a ρ else exB F b ρ
  | .whl c b, ρ => whlD (fun ρ => (pk c ρ (ev F c ρ)).bind truthy) (exB F b) ρ
  | .for tg k a b body, ρ => (itf F k a b ρ).ctl ρ fun ds => forD tg (exB F body) ds ρ
  | .brk, ρ => .bk ρ
  | .cnt, ρ => .ct ρ
  | .pass, ρ => .nx ρ
  | .raise c, ρ => .ex c ρ
  | .try body row slot suite, ρ => match exB F body ρ with
    | .ex c ρ' => match row[c]? with
      | some true => unslot slot (exB F suite (match slot with
        | some i => ρ'.set i (.exc c)
        | none => ρ'))
      | some false => .ex c ρ'
      | none => .no
    | r => r
  | .frz is s, ρ => exS F s (frzE is ρ)
  | .dnew i, ρ => .nx (ρ.set i (.dct []))
  | .dput i k e, ρ => (ev F e ρ).toD.ctl ρ fun d => (dctOf ρ i).ctl ρ fun kvs => (ev F k ρ).toD.ctl ρ fun kd => optC (keyT kd) fun key => if kvs.length < sizeLine then .nx (ρ.set i (.dct (putD kvs key d))) else .no
  | .bad, _ => .no
noncomputable def exB (F : Nat → List D → M R) : List CS → PF.Env → Ctl
  | [], ρ => .nx ρ
  | s :: ss, ρ => (exS F s ρ).seq fun ρ' => exB F ss ρ'
end

/-! ### readings -/
def CtlOk (C : Cfg) (W : WX) (D : Ends) (G : Hp) : Ctl → Prop
  | .nx ρ => ∀ σ' G' H', Same G G' → St C σ' ρ G' H' → D.nx σ' H'
  | .bk ρ => ∀ σ' G' H', Same G G' → St C σ' ρ G' H' → D.bk σ' H'
  | .ct ρ => ∀ σ' G' H', Same G G' → St C σ' ρ G' H' → D.ct σ' H'
  | .rt r => ∀ v G' H', Ext C.G0 C.H0 G' H' → VOk C.K G' H' C.H0 v r → D.rt v H'
  | .ex c ρ => ∀ σ' G' H', Same G G' → St C σ' ρ G' H' → W (C.cV c) none σ' H'
  | .no => False
def TSt (C : Cfg) (W : WX) (f : PF.Env → Ctl) : TS := fun D σ H => ∃ G ρ, St C σ ρ G H ∧ CtlOk C W D G (f ρ)
theorem CtlOk.mono {C : Cfg} {W : WX} {D : Ends} {G G' : Hp} {c : Ctl} (h : CtlOk C W D G c) (s : Same G G') : CtlOk C W D G' c := by
  cases c with
  | nx ρ => exact fun σ' G2 H2 s2 st => h σ' G2 H2 (s.trans s2) st
  | bk ρ => exact fun σ' G2 H2 s2 st => h σ' G2 H2 (s.trans s2) st
  | ct ρ => exact fun σ' G2 H2 s2 st => h σ' G2 H2 (s.trans s2) st
  | rt r => exact h
  | ex c ρ => exact fun σ' G2 H2 s2 st => h σ' G2 H2 (s.trans s2) st
  | no => exact h
section
variable {α β : Type} {C : Cfg} {W : WX} {ok1 : Hp → Hp → Hp → β → α → Prop} {σ : L2.St} {ρ : PF.Env} {G H : Hp}
/-- an expression, then what is done with it -/
theorem T.ctl {f : PF.Env → M α} {k : α → Ctl} {D : Ends} {R : β → Hp → Prop} (st : St C σ ρ G H) (h : CtlOk C W D G ((f ρ).ctl ρ k))
    (go : ∀ b a G1 H1, Ext G H G1 H1 → ok1 G1 H1 H b a → St C σ ρ G1 H1 → f ρ = .ok a → CtlOk C W D G1 (k a) → R b H1) : T C W ok1 f σ H R := by
  refine ⟨G, ρ, st, ?_⟩
  cases q : f ρ with
  | no => rw [q] at h; exact h
  | ex c => rw [q] at h; exact fun G' H' e => h σ G' H' e.gg (st.mono e)
  | ok a => rw [q] at h; exact fun b G1 H1 e o => go b a G1 H1 e o (st.mono e) q (h.mono e.gg)
end
section
variable {C : Cfg} {σ : L2.St} {ρ : PF.Env} {G H : Hp}
theorem St.frz1 (h : St C σ ρ G H) (i : Nat) : ∃ G', Same G G' ∧ St C σ (frz1 i ρ) G' H := by
  unfold PF.frz1
  split
  · rename_i ds e
    obtain ⟨o, h1, h1', h2⟩ := h.at e (by simp)
    cases h2 with
    | own a1 a2 a3 a4 a5 =>
      rename_i a xs
      have sm : Same G (upd G a (.lst xs)) := same_upd a4
      refine ⟨upd G a (.lst xs), sm, by simp [h.len], h.ext.frz a5 a4 a1, fun j o s g1 g2 => ?_, fun j k s t b hjk g1 g2 g3 g4 g5 g6 => ?_⟩
      · by_cases hj : i = j
        · subst hj
          rw [List.getElem?_set] at g2
          by_cases hi : i < ρ.length
          · rw [if_pos rfl, if_pos hi] at g2
            cases g2
            rw [h1] at g1
            cases g1
            exact .val (.lst (.inl (.inl upd_same)) a2 (a3.mono sm))
          · rw [if_pos rfl, if_neg hi] at g2; cases g2
        · rw [List.getElem?_set_ne hj] at g2
          cases h.slot j o s g1 g2 with
          | no => exact .no _
          | val r => exact .val (r.mono sm)
          | exc r => exact .exc r
          | dct b1 b2 b3 b4 b5 =>
            rename_i b ys es
            refine .dct b1 b2 (b3.mono sm) ?_ b5
            rw [upd_ne (fun z => ?_)]
            · exact b4
            · subst z
              exact h.dist i j _ _ b hj h1' g2 rfl rfl h1 g1
          | own b1 b2 b3 b4 b5 =>
            rename_i b ys es
            refine .own b1 b2 (b3.mono sm) ?_ b5
            rw [upd_ne (fun z => ?_)]
            · exact b4
            · subst z
              exact h.dist i j _ _ b hj h1' g2 rfl rfl h1 g1
      · have ne : ∀ {k s}, (ρ.set i (.val (.list ds)))[k]? = some s → s.isOwn = true → i ≠ k := fun {k s} e f z => by
          subst z
          rw [List.getElem?_set] at e
          by_cases hi : i < ρ.length
          · rw [if_pos rfl, if_pos hi] at e; cases e; cases f
          · rw [if_pos rfl, if_neg hi] at e; cases e
        have n1 := ne g1 g3
        have n2 := ne g2 g4
        rw [List.getElem?_set_ne n1] at g1
        rw [List.getElem?_set_ne n2] at g2
        exact h.dist j k s t b hjk g1 g2 g3 g4 g5 g6
  · exact ⟨G, Same.refl _, h⟩
theorem St.frz : ∀ (is : List Nat) {ρ : PF.Env} {G : Hp}, St C σ ρ G H → ∃ G', Same G G' ∧ St C σ (frzE is ρ) G' H
  | [], ρ, G, h => ⟨G, Same.refl _, h⟩
  | i :: is, ρ, G, h => by
    obtain ⟨G1, s1, h1⟩ := h.frz1 i
    obtain ⟨G2, s2, h2⟩ := St.frz is h1
    exact ⟨G2, s1.trans s2, h2⟩
/-- a result is stored -/
theorem St.store {G' : Hp} {Hb : Hp} (hb : St C σ ρ G' Hb) (e : Ext G' Hb G H) {i : Nat} {v : V} {r : R} (keep : Bool) (o : VOk C.K G H Hb v r) : ∃ G2, Same G G2 ∧ St C (σ.set i (some v)) (ρ.set i (store keep r)) G2 H := by
  have h : St C σ ρ G H := hb.mono e
  have val : ∃ G2, Same G G2 ∧ St C (σ.set i (some v)) (ρ.set i (.val r.toD)) G2 H := by
    obtain ⟨G2, e2, s2, rp⟩ := frz_res e o
    exact ⟨G2, s2, (hb.mono e2).set rp⟩
  cases keep with
  | false => exact val
  | true =>
    cases r with
    | d x => exact val
    | o ds => exact ⟨G, Same.refl _, h.setOwn hb o e.hh⟩
end
end PF

end

section
/-! PF8: statements, one by one. -/
namespace PF
open PySem PySem.Spec PyProof.Rows L2
/-- no comprehension -/
def NoComp : Expr → Prop
  | .ListComp _ _ _ _ => False
  | .SetComp _ _ _ _ => False
  | .DictComp _ _ _ _ _ => False
  | _ => True
def NoTup : Expr → Prop
  | .Tuple _ _ _ => False
  | _ => True
theorem swaps_no {e : Expr} {t : Option Expr} {l : Nat} {env : PySem.Env} (h : NoComp e) : swapsWith e t l env = pure false := by
  cases e <;> first | rfl | exact h.elim
theorem sole_no {e t : Expr} {l : Nat} {env : PySem.Env} (h : NoComp e) : swapsWithSole [t] e l env = pure false := by
  rw [swapsWithSole]
  exact swaps_no h
theorem swapped_no {t e : Expr} {env : PySem.Env} (h : NoTup e) : swappedStores [t] e env = pure none := by
  cases e <;> first
    | exact h.elim
    | (cases t <;> rfl)
theorem swapped_sub {o i e : Expr} {sp : Pos} {env : PySem.Env} : swappedStores [.Subscript o i sp] e env = pure none := by
  cases e <;> rfl
section
variable {C : Cfg} {σ : L2.St} {ρ : PF.Env} {G H : Hp}
/-- an own list is written -/
theorem St.upd (h : St C σ ρ G H) {i : Nat} {ds ds' : List D} {a : Addr} {xs xs' : List V} (e : ρ[i]? = some (.own ds)) (ea : σ[i]? = some (some (.ref a))) (hx : H a = some (.lst xs)) (hg : G a = none) (h0 : C.H0 a = none)
    (l : xs'.length ≤ sizeLine) (r : RepA C.K G xs' ds') : St C σ (ρ.set i (.own ds')) G (upd H a (.lst xs')) := by
  have sm : Same G (L2.upd H a (.lst xs')) := fun b o hb => by
    rw [upd_ne (fun z => by subst z; rw [hg] at hb; cases hb)]
    exact h.same b o hb
  refine ⟨by simp [h.len], ⟨fun b o hb => ?_, h.ext.gg, sm, h.ext.nw⟩, fun j o s g1 g2 => ?_, fun j k s t b hjk g1 g2 g3 g4 g5 g6 => ?_⟩
  · rw [upd_ne (fun z => by subst z; rw [h0] at hb; cases hb)]
    exact h.ext.hh b o hb
  · by_cases hj : i = j
    · subst hj
      rw [ea] at g1
      cases g1
      have hi := (List.getElem?_eq_some_iff.mp e).1
      rw [List.getElem?_set_self hi] at g2
      cases g2
      exact .own upd_same l r hg h0
    · rw [List.getElem?_set_ne hj] at g2
      cases h.slot j o s g1 g2 with
      | no => exact .no _
      | val r => exact .val r
      | exc r => exact .exc r
      | dct b1 b2 b3 b4 b5 =>
        rename_i b ys es
        refine .dct ?_ b2 b3 b4 b5
        rw [upd_ne (fun z => ?_)]
        · exact b1
        · subst z
          exact h.dist i j _ _ b hj e g2 rfl rfl ea g1
      | own b1 b2 b3 b4 b5 =>
        rename_i b ys es
        refine .own ?_ b2 b3 b4 b5
        rw [upd_ne (fun z => ?_)]
        · exact b1
        · subst z
          exact h.dist i j _ _ b hj e g2 rfl rfl ea g1
  · have old : ∀ {k : Nat} {s : Sl}, (ρ.set i (.own ds'))[k]? = some s → s.isOwn = true → ∃ s' : Sl, ρ[k]? = some s' ∧ s'.isOwn = true := fun {k s} e1 f => by
      by_cases hk : i = k
      · subst hk; exact ⟨_, e, rfl⟩
      · rw [List.getElem?_set_ne hk] at e1; exact ⟨s, e1, f⟩
    obtain ⟨s', q1, q2⟩ := old g1 g3
    obtain ⟨t', q3, q4⟩ := old g2 g4
    exact h.dist j k s' t' b hjk q1 q3 q2 q4 g5 g6
theorem St.own (h : St C σ ρ G H) {i : Nat} {ds : List D} (e : ρ.getD i .no = .own ds) : ∃ a xs, σ[i]? = some (some (.ref a)) ∧ ρ[i]? = some (.own ds) ∧ H a = some (.lst xs) ∧ xs.length ≤ sizeLine ∧ RepA C.K G xs ds ∧ G a = none ∧ C.H0 a = none := by
  obtain ⟨o, h1, h1', h2⟩ := h.at e (by simp)
  cases h2 with
  | own a1 a2 a3 a4 a5 => exact ⟨_, _, h1, h1', a1, a2, a3, a4, a5⟩
end
structure SndS (F : Nat → List D → M R) (C : Cfg) (W : WX) (X : Cx) (s : Stmt) (c : CS) : Prop where
  run : PS X s (TSt C W (exS F c))
structure SndB (F : Nat → List D → M R) (C : Cfg) (W : WX) (X : Cx) (s : List Stmt) (c : List CS) : Prop where
  run : PSs X s (TSt C W (exB F c))
section
variable {F : Nat → List D → M R} {C : Cfg} {W : WX} {X : Cx} {e a b tg it : Expr} {ce ca cb : CE} {pos : Pos} {tgc : Tg} {i : Nat} {x : Str} {px : Pos}
theorem asg_reading {keep : Bool} {D : Ends} {σ : L2.St} {H : Hp} (q : TSt C W (exS F (.asg i keep ce)) D σ H) : tAsg (T C W (okR C.K) (ev F ce)) (gName i) D σ H := by
  obtain ⟨G, ρ, st, q⟩ := q
  simp only [exS] at q
  refine T.ctl (ok1 := okR C.K) st q fun v r G1 H1 e1 o st1 _ q1 => ?_
  obtain ⟨G2, s2, st2⟩ := St.store st e1 keep o
  exact q1 _ G2 H1 s2 st2
theorem sndS_asg {keep : Bool} (hN : X.N.Nodup) (hi : X.N[i]? = some x) (hx : Loc X.env.scope x) (hf : X.fn x = true ∨ X.env.scope.names.lookup x = some .local) (nc : NoComp e) (he : Snd F C W X e ce) : SndS F C W X (.Assign [.Name x px] e pos) (.asg i keep ce) :=
  ⟨PS.imp (ps_set hN hi hx he.val (swaps_no nc) hf) fun D σ H q => asg_reading q⟩
theorem sndS_comp {keep : Bool} {elt tg it : Expr} {ifs : List Expr} {scope : Scope} {own : List (Str × Nat)} {k : IK} {cifs : List CE} {cpos : Pos} (h : CompParts F C W X elt tg it ifs scope own ce tgc k ca cb cifs) (hy : X.N[i]? = some x) (hyl : X.env.scope.names.lookup x = some .local)
    (hsw : swapsWith (.ListComp elt [⟨tg, it, ifs, 0⟩] scope cpos) (some (.Name x px)) pos.line X.env = pure true) :
    SndS F C W X (.Assign [.Name x px] (.ListComp elt [⟨tg, it, ifs, 0⟩] scope cpos) pos) (.asg i keep (.comp ce tgc k ca cb cifs (own.map (·.2)))) :=
  ⟨PS.imp (ps_comp h hy hyl hsw) fun D σ H q => asg_reading q⟩
theorem sndS_comp0 {keep : Bool} {elt tg it : Expr} {ifs : List Expr} {scope : Scope} {own : List (Str × Nat)} {k : IK} {cifs : List CE} {cpos : Pos} (h : CompParts F C W X elt tg it ifs scope own ce tgc k ca cb cifs)
    (hi : X.N[i]? = some x) (hx : Loc X.env.scope x) (hf : X.fn x = true ∨ X.env.scope.names.lookup x = some .local) (hsw : swapsWith (.ListComp elt [⟨tg, it, ifs, 0⟩] scope cpos) (some (.Name x px)) pos.line X.env = pure false) :
    SndS F C W X (.Assign [.Name x px] (.ListComp elt [⟨tg, it, ifs, 0⟩] scope cpos) pos) (.asg i keep (.comp ce tgc k ca cb cifs (own.map (·.2)))) :=
  ⟨PS.imp (ps_set h.nd hi hx (pe_comp h) hsw hf) fun D σ H q => asg_reading q⟩
theorem sndS_asgT {es : List Expr} {k : Nat} {tp : Pos} {ts : Tg} (hg : SndG C X (.Tuple es k tp) ts) (nc : NoComp e) (nt : NoTup e) (he : Snd F C W X e ce) : SndS F C W X (.Assign [.Tuple es k tp] e pos) (.asgT ts ce) := by
  refine ⟨PS.imp (ps_asg he.dat hg.run (sole_no nc) (swapped_no nt) (by rfl)) fun D σ H q => ?_⟩
  obtain ⟨G, ρ, st, q⟩ := q
  simp only [exS] at q
  refine T.ctl (ok1 := okD C.K) (k := fun d => optC (setT ts d ρ) fun ρ' => Ctl.nx ρ') st q fun v d G1 H1 e1 o st1 _ q1 => ?_
  cases qs : setT ts d ρ with
  | none => rw [qs] at q1; exact q1.elim
  | some ρ' =>
    rw [qs] at q1
    exact ⟨G1, ρ, d, ρ', st1, o, qs, fun σ' st' _ => q1 σ' G1 H1 (Same.refl _) st'⟩
theorem swapped_yes {x y : Str} {px py pt : Pos} {kt k2 : Nat} {pt2 : Pos} {env : PySem.Env} (hk : env.scope.kind = .function) (hx : env.scope.names.lookup x = some .local) (hy : env.scope.names.lookup y = some .local) (hl : (py.line == px.line) = true) (hne : x ≠ y)
    (na : NoStar a) (nb : NoStar b) (h1 : [a, b].all (foldedForSure 8) = false) (h2 : [a, b].all (constantsAlone 8) = false) : swappedStores [.Tuple [.Name x px, .Name y py] kt pt] (.Tuple [a, b] k2 pt2) env = pure (some [x, y]) := by
  have kx : env.kindOf x = some .local := hx
  have ky : env.kindOf y = some .local := hy
  have hb : env.blockKind = .function := by unfold PySem.Env.blockKind; rw [hk]; rfl
  have f : ∀ e : Expr, NoStar e → (match e with | .Starred .. => true | _ => false) = false := fun e he => by cases e <;> first | rfl | exact he.elim
  have hs : ([a, b].any fun | .Starred .. => true | _ => false) = false := by
    simp only [List.any_cons, List.any_nil, f a na, f b nb, Bool.or_false]
  have hd : [x, y].eraseDups = [x, y] := by
    have : (y == x) = false := by simpa using fun z => hne z.symm
    simp [List.eraseDups_cons, this]
  unfold swappedStores
  simp only [List.length_cons, List.length_nil, hb, hs, List.head?_cons, Option.map_some, Option.getD_some, List.filterMap_cons, List.filterMap_nil, kx, ky, h1, h2]
  simp [Expr.pos, hd, hl, hb]
  intro h
  rcases h with h | h
  · cases a <;> first | exact na.elim | cases h
  · cases b <;> first | exact nb.elim | cases h
theorem sndS_par {j : Nat} {y : Str} {py pt : Pos} {kt k2 : Nat} {pt2 : Pos} (hc : X.calm = true) (hN : X.N.Nodup) (hi : X.N[i]? = some x) (hj : X.N[j]? = some y) (hij : i ≠ j) (hx : X.env.scope.names.lookup x = some .local) (hy : X.env.scope.names.lookup y = some .local)
    (hk : X.env.scope.kind = .function) (hl : (py.line == px.line) = true) (hne : x ≠ y) (h1 : [a, b].all (foldedForSure 8) = false) (h2 : [a, b].all (constantsAlone 8) = false) (ha : Snd F C W X a ca) (hb : Snd F C W X b cb) :
    SndS F C W X (.Assign [.Tuple [.Name x px, .Name y py] kt pt] (.Tuple [a, b] k2 pt2) pos) (.par i j ca cb) := by
  refine ⟨PS.imp (ps_par hc hN hi hj hij hx hy (pa_evs (.cons ha (.cons hb .nil))) (swapped_yes hk hx hy hl hne ha.ns hb.ns h1 h2)) fun D σ H q => ?_⟩
  obtain ⟨G, ρ, st, q⟩ := q
  simp only [exS] at q
  refine T.ctl (ok1 := okA C.K) (f := evs F [ca, cb]) (k := fun ds => match ds with
    | [x, y] => Ctl.nx ((ρ.set i (.val x)).set j (.val y))
    | _ => .no) st q fun vs ds G1 H1 e1 o st1 _ q1 => ?_
  split at q1
  · cases o with
    | cons r1 o =>
      cases o with
      | cons r2 o =>
        cases o
        exact ⟨_, _, rfl, q1 _ G1 H1 (Same.refl _) ((st1.set r1).set r2)⟩
  · exact q1.elim
theorem sndS_aug (hN : X.N.Nodup) (hi : X.N[i]? = some x) (hx : Loc X.env.scope x) (hf : X.fn x = true ∨ X.env.scope.names.lookup x = some .local) (he : Snd F C W X e ce) : SndS F C W X (.AugAssign (.Name x px) .Add e pos) (.aug i ce) := by
  refine ⟨PS.imp (ps_aug hN hi hx he.val ip_add hf) fun D σ H q => ?_⟩
  obtain ⟨G, ρ, st, q⟩ := q
  simp only [exS] at q
  split at q
  · rename_i n hn
    obtain ⟨o, h1, _, h2⟩ := st.at hn (by simp)
    cases h2 with
    | val r =>
      cases r
      refine ⟨_, h1, ?_⟩
      refine T.ctl (ok1 := okR C.K) (k := fun r => match r with
        | .d (.int m) => Ctl.nx (ρ.set i (.val (.int (n + m))))
        | _ => .no) st q fun v r G1 H1 e1 o st1 _ q1 => ?_
      split at q1
      · cases (show Rep C.K G1 v (.int _) from o)
        exact ⟨_, _, rfl, rfl, q1 _ G1 H1 (Same.refl _) (st1.set (.int _))⟩
      · exact q1.elim
  · exact q.elim
theorem Rep_int {K : Fr} {G : Hp} {v : V} {n : Int} (h : Rep K G v (.int n)) : v = .int n := by cases h; rfl
theorem sndS_setix {spos : Pos} {cx : CE} (hi : X.N[i]? = some x) (hv : Vis X.env.scope x) (hd : (x == ("__debug__" : Str)) = false) (hcd : (x == ("__classdict__" : Str)) = false) (nc : NoComp e) (hp : PlainE it) (hit : Snd F C W X it cx) (he : Snd F C W X e ce) :
    SndS F C W X (.Assign [.Subscript (.Name x px) it spos] e pos) (.setix i cx ce) := by
  have ha : ∀ v, assign (.Subscript (.Name x px) it spos) X.env v = (do
      let ov ← holding [v] (eval (.Name x px) X.env)
      let iv ← holding [v, ov] (eval it X.env)
      standAt spos
      holding [v, ov, iv] (setItem ov iv v)
      release [v, ov, iv] []) := by
    intro v
    cases it <;> first | rfl | exact hp.elim
  refine ⟨PS.imp (ps_asg he.dat (pg_sub (pe_var hi hv hd hcd) hit.val set_list ha) (sole_no nc) swapped_sub (by rfl)) fun D σ H q => ?_⟩
  obtain ⟨G, ρ, st, q⟩ := q
  simp only [exS] at q
  refine T.ctl (ok1 := okD C.K) (k := fun d => match ρ.getD i .no with
    | .own ds => (ev F cx ρ).ctl ρ fun k => match k with
      | .d (.int k) => optC (ixN ds.length k) fun j => Ctl.nx (ρ.set i (.own (ds.set j d)))
      | _ => .no
    | _ => .no) st q fun v d G1 H1 e1 o st1 _ q1 => ?_
  split at q1
  · rename_i ds hs
    obtain ⟨p, xs, g1, g2, g3, g4, g5, g6, g7⟩ := st1.own hs
    refine ⟨.ref p, g1, ?_⟩
    refine T.ctl (ok1 := okR C.K) (k := fun k => match k with
      | .d (.int k) => optC (ixN ds.length k) fun j => Ctl.nx (ρ.set i (.own (ds.set j d)))
      | _ => .no) st1 q1 fun w r G2 H2 e2 o2 st2 _ q2 => ?_
    split at q2
    · rename_i k _
      cases hj : ixN ds.length k with
      | none => rw [hj] at q2; exact q2.elim
      | some j =>
        rw [hj] at q2
        have hw := Rep_int (show Rep C.K G2 w (.int k) from o2)
        subst hw
        have len := g5.length
        refine ⟨p, xs, k, j, rfl, rfl, e2.hh _ _ g3, by rw [len]; exact hj, ?_⟩
        exact q2 σ G2 _ (Same.refl _) (st2.upd g2 g1 (e2.hh _ _ g3) (e2.nw _ g6 (by rw [g3]; simp)) g7 (by rw [List.length_set]; exact g4) ((g5.mono e2.gg).set j (o.mono e2.gg)))
    · exact q2.elim
  · exact q1.elim
theorem few1 {env : PySem.Env} {cpos : Pos} (h : NoStar e) : ((backTo cpos (starEach [e] env)).all (fun x => !x.1) && (backToKw cpos (keywordEach [] env)).all (fun x => x.1.isSome)
      && decide (([e] : List Expr).length + ([] : List Keyword).length + (if ([] : List Keyword).isEmpty then 0 else 1) < 30)) = true := by
  rw [star1 h]
  rfl
theorem sndS_app {ap cp : Pos} (hK : X.K = C.K) (hi : X.N[i]? = some x) (hv : Vis X.env.scope x) (hd : (x == ("__debug__" : Str)) = false) (hcd : (x == ("__classdict__" : Str)) = false) (hline : (ap.endLine == cp.line) = true) (he : Snd F C W X e ce) :
    SndS F C W X (.Expr (.Call (.Attribute (.Name x px) "append" ap) [e] [] cp) pos) (.app i ce) := by
  have pa : PA X [e] (tCons (T C W (okD C.K) fun ρ => (ev F ce ρ).toD) tNil) := arg1 he
  refine ⟨PS.imp (ps_expr (pe_bm PySem.F.plainAttrs_list PySem.F.slot_list_append PySem.F.type_list_append (r := rAppend) mt_append (pe_var hi hv hd hcd) pa (by rfl) (few1 he.ns) hline (star1 he.ns) (by rfl)) (by rfl)) fun D σ H q => ?_⟩
  obtain ⟨G, ρ, st, q⟩ := q
  simp only [exS] at q
  split at q
  · rename_i ds hs
    obtain ⟨p, xs, g1, g2, g3, g4, g5, g6, g7⟩ := st.own hs
    refine ⟨.ref p, g1, .inl ⟨rfl, _, .inl (.inl g3)⟩, ?_⟩
    refine T.ctl (ok1 := okD C.K) (k := fun d => if ds.length < sizeLine then Ctl.nx (ρ.set i (.own (ds ++ [d]))) else .no) st q fun v d G1 H1 e1 o st1 _ q1 => ?_
    split at q1
    · rename_i hl
      have len := g5.length
      refine ⟨p, xs, v, rfl, rfl, e1.hh _ _ g3, by omega, ?_⟩
      exact q1 σ G1 _ (Same.refl _) (st1.upd g2 g1 (e1.hh _ _ g3) (e1.nw _ g6 (by rw [g3]; simp)) g7 (by rw [List.length_append]; simp; omega) ((g5.mono e1.gg).append (.cons o .nil)))
    · exact q1.elim
  · exact q.elim
theorem sndS_expr (nc : NoComp e) (he : Snd F C W X e ce) : SndS F C W X (.Expr e pos) (.expr ce) := by
  refine ⟨PS.imp (ps_expr he.val (swaps_no nc)) fun D σ H q => ?_⟩
  obtain ⟨G, ρ, st, q⟩ := q
  simp only [exS] at q
  exact T.ctl (ok1 := okR C.K) (k := fun _ => Ctl.nx ρ) st q fun v r G1 H1 e1 o st1 _ q1 => q1 σ G1 H1 (Same.refl _) st1
theorem sndS_ret (he : Snd F C W X e ce) : SndS F C W X (.Return (some e) pos) (.ret ce) := by
  refine ⟨PS.imp (ps_ret he.val) fun D σ H q => ?_⟩
  obtain ⟨G, ρ, st, q⟩ := q
  simp only [exS] at q
  exact T.ctl (ok1 := okR C.K) (k := fun r => Ctl.rt r) st q fun v r G1 H1 e1 o st1 _ q1 => q1 v G1 H1 st1.ext (o.back st.ext.hh)
theorem sndS_retv (hi : X.N[i]? = some x) (hv : Vis X.env.scope x) (hd : (x == ("__debug__" : Str)) = false) (hcd : (x == ("__classdict__" : Str)) = false) : SndS F C W X (.Return (some (.Name x px)) pos) (.retv i) := by
  refine ⟨PS.imp (ps_ret (pe_var hi hv hd hcd)) fun D σ H q => ?_⟩
  obtain ⟨G, ρ, st, q⟩ := q
  simp only [exS] at q
  unfold getP at q
  split at q
  · rename_i d hs
    obtain ⟨o, h1, _, h2⟩ := st.at hs (by simp)
    cases h2 with
    | val r => exact ⟨_, h1, q _ G H st.ext r⟩
  · rename_i ds hs
    obtain ⟨p, xs, g1, g2, g3, g4, g5, g6, g7⟩ := st.own hs
    exact ⟨_, g1, q _ G H st.ext ⟨p, xs, rfl, g3, g4, g5, g7, g6⟩⟩
  · exact q.elim
theorem sndS_retN : SndS F C W X (.Return none pos) .retN := by
  refine ⟨PS.imp ps_retN fun D σ H q => ?_⟩
  obtain ⟨G, ρ, st, q⟩ := q
  simp only [exS] at q
  exact q .non G H st.ext .non
theorem sndS_pass : SndS F C W X (.Pass pos) .pass := ⟨PS.imp ps_pass fun D σ H ⟨G, ρ, st, q⟩ => by simp only [exS] at q; exact q σ G H (Same.refl _) st⟩
theorem sndS_brk : SndS F C W X (.Break pos) .brk := ⟨PS.imp ps_break fun D σ H ⟨G, ρ, st, q⟩ => by simp only [exS] at q; exact q σ G H (Same.refl _) st⟩
theorem sndS_cnt : SndS F C W X (.Continue pos) .cnt := ⟨PS.imp ps_continue fun D σ H ⟨G, ρ, st, q⟩ => by simp only [exS] at q; exact q σ G H (Same.refl _) st⟩
theorem sndS_doc {y : Str} {j : Nat} {p2 : Pos} : SndS F C W X (.Expr (.Constant (.str y) j p2) pos) .pass := ⟨PS.imp ps_doc fun D σ H ⟨G, ρ, st, q⟩ => by simp only [exS] at q; exact q σ G H (Same.refl _) st⟩
theorem sndS_frz {s : Stmt} {cs : CS} (is : List Nat) (h : SndS F C W X s cs) : SndS F C W X s (.frz is cs) := by
  refine ⟨PS.imp h.run fun D σ H q => ?_⟩
  obtain ⟨G, ρ, st, q⟩ := q
  simp only [exS] at q
  obtain ⟨G', s, st'⟩ := St.frz is st
  exact ⟨G', _, st', q.mono s⟩
theorem sndB_nil : SndB F C W X [] [] := ⟨PSs.imp pss_nil fun D σ H ⟨G, ρ, st, q⟩ => by simp only [exB] at q; exact q σ G H (Same.refl _) st⟩
theorem sndB_cons {s : Stmt} {ss : List Stmt} {cs : CS} {css : List CS} (h : SndS F C W X s cs) (t : SndB F C W X ss css) : SndB F C W X (s :: ss) (cs :: css) := by
  refine ⟨PSs.imp (pss_cons h.run t.run) fun D σ H q => ?_⟩
  obtain ⟨G, ρ, st, q⟩ := q
  simp only [exB] at q
  refine ⟨G, ρ, st, ?_⟩
  cases q1 : exS F cs ρ with
  | nx ρ' =>
    rw [q1] at q
    exact fun σ' G' H' s st' => ⟨G', ρ', st', q.mono s⟩
  | _ => rw [q1] at q; exact q
theorem sndS_ite {c : Expr} {cc : CE} {as bs : List Stmt} {cas cbs : List CS} (hc : Snd F C W X c cc) (ha : SndB F C W X as cas) (hb : SndB F C W X bs cbs) : SndS F C W X (.If c as bs pos) (.ite cc cas cbs) := by
  refine ⟨PS.imp (ps_if hc.tst ha.run hb.run) fun D σ H q => ?_⟩
  obtain ⟨G, ρ, st, q⟩ := q
  simp only [exS] at q
  refine T.ctl (ok1 := okB) (f := fun ρ => (pk cc ρ (ev F cc ρ)).bind truthy) (k := fun k => if k = true then exB F cas ρ else exB F cbs ρ) st q fun k' k G1 H1 e1 o st1 _ q1 => ?_
  cases o
  cases k' with
  | true =>
    rw [if_pos rfl] at q1 ⊢
    exact ⟨G1, ρ, st1, q1⟩
  | false =>
    rw [if_neg Bool.false_ne_true] at q1 ⊢
    exact ⟨G1, ρ, st1, q1⟩
theorem sndS_whl {c : Expr} {cc : CE} {as : List Stmt} {cas : List CS} (hp : PassesOwn (model X.prog X.w) X.A X.env X.xe) (hc : Snd F C W X c cc) (ha : SndB F C W X as cas) : SndS F C W X (.While c as [] pos) (.whl cc cas) := by
  refine ⟨PS.imp (ps_while hp hc.tst ha.run) fun D σ H q => ?_⟩
  obtain ⟨G, ρ, st, q⟩ := q
  simp only [exS] at q
  generalize hres : whlD (fun ρ => (pk cc ρ (ev F cc ρ)).bind truthy) (exB F cas) ρ = res at q
  have nn : res ≠ .no := fun z => by rw [z] at q; exact q
  obtain ⟨n, hn⟩ := whlD_of (t := fun ρ => (pk cc ρ (ev F cc ρ)).bind truthy) (b := exB F cas) (ρ := ρ) (by rw [hres]; exact nn)
  rw [hres] at hn
  refine ⟨fun m σ H => ∃ G1 ρ1, Same G G1 ∧ St C σ ρ1 G1 H ∧ whlN (fun ρ => (pk cc ρ (ev F cc ρ)).bind truthy) (exB F cas) m ρ1 = res, ⟨n, G, ρ, Same.refl _, st, hn⟩, ?_⟩
  rintro m σ1 H1 ⟨G1, ρ1, s1, st1, h1⟩
  cases m with
  | zero => exact absurd h1.symm nn
  | succ m =>
    simp only [whlN] at h1
    have q1 := q.mono s1
    rw [← h1] at q1
    refine T.ctl (ok1 := okB) (f := fun ρ => (pk cc ρ (ev F cc ρ)).bind truthy) (k := _) st1 q1 fun k' k G2 H2 e2 o st2 ek q2 => ?_
    cases o
    replace ek : (pk cc ρ1 (ev F cc ρ1)).bind truthy = .ok k' := ek
    rw [ek] at h1
    simp only [M.ctl_ok] at h1
    cases k' with
    | false =>
      rw [if_neg Bool.false_ne_true] at q2 ⊢
      exact q2 σ1 G2 H2 (Same.refl _) st2
    | true =>
      rw [if_pos rfl] at q2 h1 ⊢
      have again : ∀ ρ2, whlN (fun ρ => (pk cc ρ (ev F cc ρ)).bind truthy) (exB F cas) m ρ2 = res → ∃ N : L2.St → Hp → Prop, (∀ σ' H', N σ' H' → ∃ m', m' < m + 1 ∧ ∃ G1 ρ1, Same G G1 ∧ St C σ' ρ1 G1 H' ∧ whlN (fun ρ => (pk cc ρ (ev F cc ρ)).bind truthy) (exB F cas) m' ρ1 = res) ∧
          ∀ σ' G' H', Same G2 G' → St C σ' ρ2 G' H' → N σ' H' := fun ρ2 hr =>
        ⟨fun σ' H' => ∃ G', Same G2 G' ∧ St C σ' ρ2 G' H', fun σ' H' ⟨G', s', st'⟩ => ⟨m, by omega, G', ρ2, (s1.trans e2.gg).trans s', st', hr⟩, fun σ' G' H' s' st' => ⟨G', s', st'⟩⟩
      cases qb : exB F cas ρ1 with
      | nx ρ2 =>
        rw [qb] at h1
        obtain ⟨N, n1, n2⟩ := again ρ2 h1
        exact ⟨N, n1, G2, ρ1, st2, by rw [qb]; exact n2⟩
      | ct ρ2 =>
        rw [qb] at h1
        obtain ⟨N, n1, n2⟩ := again ρ2 h1
        exact ⟨N, n1, G2, ρ1, st2, by rw [qb]; exact n2⟩
      | bk ρ2 =>
        rw [qb] at q2
        exact ⟨fun _ _ => False, fun _ _ z => z.elim, G2, ρ1, st2, by rw [qb]; exact q2⟩
      | rt r =>
        rw [qb] at q2
        exact ⟨fun _ _ => False, fun _ _ z => z.elim, G2, ρ1, st2, by rw [qb]; exact q2⟩
      | ex c ρ2 =>
        rw [qb] at q2
        exact ⟨fun _ _ => False, fun _ _ z => z.elim, G2, ρ1, st2, by rw [qb]; exact q2⟩
      | no => rw [qb] at q2; exact q2.elim
theorem sndS_for {as : List Stmt} {cas : List CS} {k : IK} (hp : PassesOwn (model X.prog X.w) X.A X.env X.xe) (hc : X.calm = true) (hi : SndI F C W X tg it k ca cb) (hg : SndG C X tg tgc) (ha : SndB F C W X as cas) : SndS F C W X (.For tg it as [] pos) (.for tgc k ca cb cas) := by
  refine ⟨PS.imp (ps_for hp hc hi.run hg.run ha.run (fun x => hi.nset X.env x)) fun D σ H q => ?_⟩
  obtain ⟨G, ρ, st, q⟩ := q
  simp only [exS] at q
  refine ⟨G, ρ, st, ?_⟩
  cases q1 : itf F k ca cb ρ with
  | no => rw [q1] at q; exact q
  | ex c => rw [q1] at q; exact fun G' H' e => q σ G' H' e.gg (st.mono e)
  | ok ds =>
    rw [q1] at q
    simp only [M.ctl_ok] at q
    intro J G1 H1 e1 wd
    have walk : Walk J ds.length (fun H => Same G1 H) (fun i H x H' => ∀ G2, Same G1 G2 → Same G2 H → ∃ G3 d, Ext G2 H G3 H' ∧ ds[i]? = some d ∧ Rep C.K G3 x d) :=
      ⟨fun i H hi s => wd.goes i H hi s, fun H s => wd.stops H s, fun i H x H' hi s y G2 s1 s2 => wd.yields i G2 H x H' hi s1 s2 y⟩
    refine for_it walk (fun i σ' H' => ∃ G2 ρ2, Same G1 G2 ∧ St C σ' ρ2 G2 H' ∧ CtlOk C W D G2 (forD tgc (exB F cas) (ds.drop i) ρ2)) ?_ ?_ ?_ ?_
    · exact ⟨G1, ρ, Same.refl _, st.mono e1, by rw [List.drop_zero]; exact q.mono e1.gg⟩
    · rintro i σ' H' _ ⟨G2, ρ2, s2, st2, _⟩
      exact s2.trans st2.same
    · rintro i x σ' Hi H' hi ⟨G2, ρ2, s2, st2, q2⟩ y
      obtain ⟨G3, d, e3, x9, x10⟩ := y G2 s2 st2.same
      have hdrop : ds.drop i = d :: ds.drop (i + 1) := by
        rw [List.drop_eq_getElem_cons hi]
        have : ds[i] = d := by
          rw [List.getElem?_eq_getElem hi] at x9
          exact Option.some.inj x9
        rw [this]
      rw [hdrop] at q2
      simp only [forD] at q2
      cases qs : setT tgc d ρ2 with
      | none => rw [qs] at q2; exact q2.elim
      | some ρ3 =>
        rw [qs] at q2
        simp only [optC_some] at q2
        refine ⟨G3, ρ2, d, ρ3, st2.mono e3, x10, qs, fun σ3 st3 _ => ⟨G3, ρ3, st3, ?_⟩⟩
        have q3 := q2.mono e3.gg
        cases qb : exB F cas ρ3 with
        | nx ρ4 =>
          rw [qb] at q3
          exact fun σ4 G4 H4 s4 st4 => ⟨G4, ρ4, (s2.trans e3.gg).trans s4, st4, q3.mono s4⟩
        | ct ρ4 =>
          rw [qb] at q3
          exact fun σ4 G4 H4 s4 st4 => ⟨G4, ρ4, (s2.trans e3.gg).trans s4, st4, q3.mono s4⟩
        | bk ρ4 => rw [qb] at q3; exact q3
        | rt r => rw [qb] at q3; exact q3
        | ex c ρ4 => rw [qb] at q3; exact q3
        | no => rw [qb] at q3; exact q3
    · rintro σ' H' ⟨G2, ρ2, s2, st2, q2⟩
      rw [List.drop_length] at q2
      simp only [forD] at q2
      exact q2 σ' G2 H' (Same.refl _) st2
/-- raise X('..') -/
theorem sndS_raise {c : Nat} {Cc : Addr} {y m : Str} {bmB : List Value} {B newId initId : String} {j : Nat} {p p2 p3 : Pos} (hc : X.calm = true) (tk : Takes X W) (E : ExcBaseFacts B newId initId bmB) (q : PySem.W.excIn X.K Cc bmB newId = true) (gC : X.mg y = some (.ref Cc)) (kC : PySem.W.keepIn X.K (.ref Cc) = true)
    (r : Raises X (.ref Cc)) (hg : Gl X y) (hdb : (y == ("__debug__" : Str)) = false) (hV : C.cV c = .ref Cc) : SndS F C W X (.Raise (some (.Call (.Name y p) [.Constant (.str m) j p2] [] p3)) none pos) (.raise c) := by
  refine ⟨PS.imp (ps_raise hc tk (pmk_own E q gC kC r hg hdb)) fun D σ H q => ?_⟩
  obtain ⟨G, ρ, st, q⟩ := q
  simp only [exS] at q
  have := q σ G H (Same.refl _) st
  rw [hV] at this
  exact this
end
end PF

end

section
/-! PFd: dicts whose keys are tuples. -/
namespace PF
open PySem PySem.Spec PyProof.Rows L2
/-! ### tables by keys -/
section
variable {α β : Type}
def findG (xs : List (NestedKey × α)) (k : NestedKey) : Option (NestedKey × α) := xs.find? fun x => decide (x.1 = k)
def putG (xs : List (NestedKey × α)) (k : NestedKey) (repl : α → α) (new : α) : List (NestedKey × α) :=
  if (findG xs k).isSome = true then xs.map (fun p => if p.1 = k then (p.1, repl p.2) else p) else xs ++ [(k, new)]
theorem paired_find {R : NestedKey × α → NestedKey × β → Prop} (hk : ∀ p q, R p q → p.1 = q.1) (k : NestedKey) : ∀ {xs : List (NestedKey × α)} {ys : List (NestedKey × β)}, Paired R xs ys →
    (findG xs k = none ∧ findG ys k = none) ∨ ∃ p q, findG xs k = some p ∧ findG ys k = some q ∧ R p q ∧ p.1 = k
  | [], [], .nil => .inl ⟨rfl, rfl⟩
  | p :: xs, q :: ys, .cons h t => by
    by_cases e : p.1 = k
    · have e' : q.1 = k := (hk p q h).symm.trans e
      exact .inr ⟨p, q, by simp [findG, List.find?_cons, e], by simp [findG, List.find?_cons, e'], h, e⟩
    · have e' : ¬ q.1 = k := fun z => e ((hk p q h).trans z)
      have a1 : findG (p :: xs) k = findG xs k := by simp [findG, List.find?_cons, e]
      have a2 : findG (q :: ys) k = findG ys k := by simp [findG, List.find?_cons, e']
      rw [a1, a2]
      exact paired_find hk k t
theorem paired_map {R : NestedKey × α → NestedKey × β → Prop} (hk : ∀ p q, R p q → p.1 = q.1) (k : NestedKey) {f : α → α} {g : β → β} (hr : ∀ p q, R p q → p.1 = k → R (p.1, f p.2) (q.1, g q.2)) :
    ∀ {xs : List (NestedKey × α)} {ys : List (NestedKey × β)}, Paired R xs ys → Paired R (xs.map fun p => if p.1 = k then (p.1, f p.2) else p) (ys.map fun p => if p.1 = k then (p.1, g p.2) else p)
  | [], [], .nil => .nil
  | p :: xs, q :: ys, .cons h t => by
    rw [List.map_cons, List.map_cons]
    refine .cons ?_ (paired_map hk k hr t)
    by_cases e : p.1 = k
    · rw [if_pos e, if_pos ((hk p q h).symm.trans e)]; exact hr p q h e
    · rw [if_neg e, if_neg (fun z => e ((hk p q h).trans z))]; exact h
theorem paired_put {R : NestedKey × α → NestedKey × β → Prop} (hk : ∀ p q, R p q → p.1 = q.1) (k : NestedKey) {f : α → α} {g : β → β} {a : α} {b : β} (hr : ∀ p q, R p q → p.1 = k → R (p.1, f p.2) (q.1, g q.2)) (hn : R (k, a) (k, b))
    {xs : List (NestedKey × α)} {ys : List (NestedKey × β)} (h : Paired R xs ys) : Paired R (putG xs k f a) (putG ys k g b) := by
  unfold putG
  rcases paired_find hk k h with ⟨e1, e2⟩ | ⟨p, q, e1, e2, _, _⟩
  · rw [e1, e2]
    simp only [Option.isSome_none, Bool.false_eq_true, if_false]
    exact Paired.snoc h hn
  · rw [e1, e2]
    simp only [Option.isSome_some, if_true]
    exact paired_map hk k hr h
theorem put_len (xs : List (NestedKey × α)) (k : NestedKey) (f : α → α) (a : α) : (putG xs k f a).length ≤ xs.length + 1 := by
  unfold putG
  split
  · rw [List.length_map]; omega
  · rw [List.length_append]; simp
end
theorem lookD_eq (kvs : List (NestedKey × D)) (k : NestedKey) : lookD kvs k = (findG kvs k).map (·.2) := rfl
theorem any_find {α : Type} (xs : List (NestedKey × α)) (k : NestedKey) : (xs.any fun kv => decide (kv.1 = k)) = (findG xs k).isSome := by
  induction xs with
  | nil => rfl
  | cons p r ih =>
    by_cases e : p.1 = k
    · simp [findG, List.find?_cons, e]
    · simp only [List.any_cons, e, decide_false, Bool.false_or]
      rw [ih]
      simp [findG, List.find?_cons, e]
theorem putD_eq (kvs : List (NestedKey × D)) (k : NestedKey) (v : D) : putD kvs k v = putG kvs k (fun _ => v) v := by
  unfold putD putG
  rw [any_find]
theorem atKey_eq (ys : List (NestedKey × Addr × Value)) (k : NestedKey) : atKey ys k = (findG ys k).map (·.2) := rfl
theorem storedH_eq (ys : List (NestedKey × Addr × Value)) (k : NestedKey) (b : Addr) (v : Value) : storedH ys k b v = putG ys k (fun p => (p.1, v)) (b, v) := by
  unfold storedH putG
  rw [atKey_eq, Option.isSome_map]
  rfl
def putR (xs : DRaw) (k : NestedKey) (b : Addr) (v : V) : DRaw := putG xs k (fun p => (p.1, v)) (b, v)
theorem dv_put {xs : DRaw} {ys : List (NestedKey × Addr × Value)} (h : DVals xs ys) (k : NestedKey) (b : Addr) {v : V} {u : Value} (r : RelV v u) : DVals (putR xs k b v) (storedH ys k b u) := by
  rw [storedH_eq]
  exact paired_put (fun p q h => h.1) k (fun p q h _ => ⟨h.1, h.2.1, r⟩) ⟨rfl, rfl, r⟩ h
theorem dr_put {K : Fr} {G : Hp} {xs : DRaw} {kvs : List (NestedKey × D)} (h : DRep K G xs kvs) (k : NestedKey) {b : Addr} {v : V} {d kd : D} (rk : Rep K G (.ref b) kd) (ek : keyT kd = some k) (r : Rep K G v d) : DRep K G (putR xs k b v) (putD kvs k d) := by
  rw [putD_eq]
  exact paired_put (fun p q h => h.1) k (fun p q h _ => ⟨h.1, h.2.1, r⟩) ⟨rfl, ⟨kd, rk, ek⟩, r⟩ h
/-! ### what a value is as a key -/
section
variable {X : Cx} {pins : List (Addr × Obj)} {σ : L2.St} {H : Hp} {s : Shared}
mutual
theorem key_is (I : Inv X pins σ H s) : ∀ {v : V} {d : D} {k : NestedKey} {u : Value}, Rep X.K H v d → keyD d = some k → RelV v u → NestedIs s.heap k u
  | _, _, _, _, .non, e, r => by cases e; cases r; exact .none
  | _, _, _, _, .bl b, e, r => by cases e; cases r; exact .bool rfl
  | _, _, _, _, .int i, e, r => by cases e; obtain ⟨t, rfl⟩ := r; exact .int _ _
  | _, _, _, _, .str x, e, r => by cases e; obtain ⟨t, rfl⟩ := r; exact .text _ _
  | _, _, _, _, .lst _ _ _, e, _ => by cases e
  | _, _, _, _, .tup (ds := ds) h l ra, e, r => by
    cases r
    simp only [keyD] at e
    cases q : keysD ds with
    | none => rw [q] at e; cases e
    | some ks =>
      rw [q] at e
      cases e
      obtain ⟨its, rv, ⟨o, h1, h2, n, h3⟩, _⟩ := I.tuple h
      exact .tup h1 h2 h3 (by simpa using keys_are I ra q rv)
theorem keys_are (I : Inv X pins σ H s) : ∀ {vs : List V} {ds : List D} {ks : List NestedKey} {us : List Value}, RepA X.K H vs ds → keysD ds = some ks → Vals vs us → NestedAll s.heap ks us
  | _, _, _, _, .nil, e, r => by cases e; cases r; exact .nil
  | _, _, _, _, .cons (d := d) (ds := ds) h t, e, r => by
    simp only [keysD] at e
    cases r with
    | cons r1 r2 =>
      cases q1 : keyD d with
      | none => rw [q1] at e; cases e
      | some k =>
        cases q2 : keysD ds with
        | none => rw [q1, q2] at e; cases e
        | some ks =>
          rw [q1, q2] at e
          cases e
          exact .cons (key_is I h q1 r1) (keys_are I t q2 r2)
end
theorem keyT_ok {d : D} {k : NestedKey} (e : keyT d = some k) : keyD d = some k ∧ k.depth ≤ 8 ∧ ∃ xs, d = .tuple xs := by
  unfold keyT at e
  split at e
  · rename_i xs
    cases q : keyD (.tuple xs) with
    | none => rw [q] at e; cases e
    | some k' =>
      rw [q] at e
      simp only [Option.bind_some] at e
      split at e
      · cases e; exact ⟨rfl, by assumption, xs, rfl⟩
      · cases e
  · cases e
theorem keyT_ref {K : Fr} {G : Hp} {v : V} {d : D} {k : NestedKey} (r : Rep K G v d) (e : keyT d = some k) : ∃ b, v = .ref b := by
  obtain ⟨_, _, xs, rfl⟩ := keyT_ok e
  cases r
  exact ⟨_, rfl⟩
theorem nested_is (I : Inv X pins σ H s) {b : Addr} {d : D} {k : NestedKey} (r : Rep X.K H (.ref b) d) (e : keyT d = some k) : (nestedKind X.prog X.w).is s.heap k b := by
  obtain ⟨e1, e2, _⟩ := keyT_ok e
  exact ⟨key_is I r e1 rfl, e2⟩
/-- the dict as the library tells it -/
theorem dct_of (I : Inv X pins σ H s) {a : Addr} {xs : DRaw} {kvs : List (NestedKey × D)} (h : H a = some (DctO X.prog X.w a xs)) (dr : DRep X.K H xs kvs) :
    (a == sysModules) = false ∧ ∃ ys, DVals xs ys ∧ s.heap.DictOfH (nestedKind X.prog X.w) a ys := by
  obtain ⟨⟨hd, ys, dv, o, es, ep, h1, h2, h3, h4, h5⟩, _, _⟩ := (show ObjOk X.prog X.w H s.heap a (.ext (dctP X.prog X.w a xs)) from I.hok a _ h)
  refine ⟨hd, ys, dv, o, es, ep, h1, h2, h3, h4, fun y hy => ?_, h5⟩
  have all : ∀ {l : DRaw} {m : List (NestedKey × Addr × Value)} {n : List (NestedKey × D)}, DVals l m → DRep X.K H l n → ∀ y ∈ m, (nestedKind X.prog X.w).is s.heap y.1 y.2.1 := by
    intro l m n q
    induction q generalizing n with
    | nil => intro _ y hy; exact nomatch hy
    | cons h t ih =>
      intro r y hy
      cases r with
      | cons r1 r2 =>
        rcases List.mem_cons.mp hy with e | hy
        · subst e
          obtain ⟨_, ⟨d, rp, ek⟩, _⟩ := r1
          rw [← h.1, ← h.2.1]
          exact nested_is I rp ek
        · exact ih r2 y hy
  exact all dv dr y hy
theorem room_in1 (hu : X.A.units + 64 < cLine) : (nestedKind X.prog X.w).room X.A.in1 := by
  show X.A.units + 1 + 8 < cLine
  omega
/-- what an operation with a key of a dict asks -/
structure DAsk (X : Cx) (H : Hp) (a : Addr) (xs : DRaw) (kvs : List (NestedKey × D)) (y : V) (k : NestedKey) : Prop where
  ho : H a = some (DctO X.prog X.w a xs)
  dr : DRep X.K H xs kvs
  ky : ∃ d, Rep X.K H y d ∧ keyT d = some k
def rInN (X : Cx) (neg : Bool) : R2 := fun y x H Q => ∃ a xs kvs k, x = .ref a ∧ DAsk X H a xs kvs y k ∧ Q (.bl ((lookD kvs k).isSome != neg)) H
theorem look_find {xs : DRaw} {ys : List (NestedKey × Addr × Value)} {kvs : List (NestedKey × D)} {K : Fr} {G : Hp} (dv : DVals xs ys) (dr : DRep K G xs kvs) (k : NestedKey) :
    (findG xs k = none ∧ lookD kvs k = none ∧ atKey ys k = none) ∨ ∃ (b : Addr) (d : D) (v : V) (p : Addr × Value), findG xs k = some (k, b, v) ∧ lookD kvs k = some d ∧ atKey ys k = some p ∧ Rep K G v d ∧ RelV v p.2 := by
  rw [lookD_eq, atKey_eq]
  rcases paired_find (fun p q h => h.1) k dv with ⟨e1, e2⟩ | ⟨p, q, e1, e2, r1, z⟩
  · rcases paired_find (fun p q h => h.1) k dr with ⟨e3, e4⟩ | ⟨p', q', e3, e4, r2, _⟩
    · exact .inl ⟨e1, by rw [e4]; rfl, by rw [e2]; rfl⟩
    · rw [e1] at e3; cases e3
  · rcases paired_find (fun p q h => h.1) k dr with ⟨e3, e4⟩ | ⟨p', q', e3, e4, r2, _⟩
    · rw [e1] at e3; cases e3
    · rw [e1] at e3
      cases e3
      obtain ⟨p1, p2, p3⟩ := p
      subst z
      exact .inr ⟨p2, q'.2, p3, q.2, e1, by rw [e4]; rfl, by rw [e2]; rfl, r2.2.2, r1.2.2⟩
theorem op_inN (hu : X.A.units + 64 < cLine) : OpR X (compareOp .In) (rInN X false) := by
  intro pins s σ H y x v u Q I ry rx h
  obtain ⟨a, xs, kvs, k, rfl, ⟨ho, dr, d, rk, ek⟩, q⟩ := h
  obtain ⟨b, rfl⟩ := keyT_ref rk ek
  cases ry
  cases rx
  obtain ⟨hd, ys, dv, dd⟩ := dct_of I ho dr
  refine wpAny_in_heap (room_in1 hu) (nested_is I rk ek) hd dd ?_
  refine ⟨.bl (lookD kvs k).isSome, H, I.tok _, ?_, by simpa using q⟩
  rcases look_find dv dr k with ⟨_, e1, e2⟩ | ⟨b', d', v', p', _, e1, e2, _, _⟩
  · rw [e1, e2]; rfl
  · rw [e1, e2]; rfl
theorem op_notInN (hu : X.A.units + 64 < cLine) : OpR X (compareOp .NotIn) (rInN X true) := by
  intro pins s σ H y x v u Q I ry rx h
  obtain ⟨a, xs, kvs, k, rfl, ⟨ho, dr, d, rk, ek⟩, q⟩ := h
  obtain ⟨b, rfl⟩ := keyT_ref rk ek
  cases ry
  cases rx
  obtain ⟨hd, ys, dv, dd⟩ := dct_of I ho dr
  refine wpAny_notIn_heap (room_in1 hu) (nested_is I rk ek) hd dd ?_
  refine ⟨.bl (!(lookD kvs k).isSome), H, I.tok _, ?_, by simpa using q⟩
  rcases look_find dv dr k with ⟨_, e1, e2⟩ | ⟨b', d', v', p', _, e1, e2, _, _⟩
  · rw [e1, e2]; rfl
  · rw [e1, e2]; rfl
def rIxN (X : Cx) : R2 := fun x y H Q => ∃ a xs kvs k b v, x = .ref a ∧ DAsk X H a xs kvs y k ∧ findG xs k = some (k, b, v) ∧ Q v H
theorem ix_dctN (hu : X.A.units + 64 < cLine) : IxR X (rIxN X) := by
  intro value slice pins s σ H x y v u Q I rx ry h hs
  obtain ⟨a, xs, kvs, k, b0, v0, rfl, ⟨ho, dr, d, rk, ek⟩, hl, q⟩ := h
  obtain ⟨b, rfl⟩ := keyT_ref rk ek
  cases ry
  cases rx
  obtain ⟨hd, ys, dv, dd⟩ := dct_of I ho dr
  rcases look_find dv dr k with ⟨e1, e2⟩ | ⟨b', d', v', p', e1, e2, e3, r1, r2⟩
  · rw [e1] at hl; cases hl
  · rw [e1] at hl
    cases hl
    refine subscriptTail_builtinR (x := p'.2) dd.typeIs PySem.F.slot_dict_getitem.lookup ?_ hs
    refine wpAny_getItem_heap (Q := fun r s' => r = p'.2 ∧ EP X pins σ Q r s') (room_in1 hu) (nested_is I rk ek) dd e3 ⟨rfl, v0, H, I.tok _, r2, q⟩
def rSetN (X : Cx) : TSet := fun o i v H Q => ∃ a xs kvs k b, o = .ref a ∧ i = .ref b ∧ DAsk X H a xs kvs i k ∧ xs.length < sizeLine ∧ Q (upd H a (DctO X.prog X.w a (putR xs k b v)))
theorem set_dctN (hu : X.A.units + 64 < cLine) : PSet X (rSetN X) := by
  intro pins s σ H o i v ov iv u Q I ro ri rv h
  obtain ⟨a, xs, kvs, k, b, rfl, rfl, ⟨ho, dr, d, rk, ek⟩, hl, q⟩ := h
  cases ro
  cases ri
  obtain ⟨hd, ys, dv, dd⟩ := dct_of I ho dr
  have hz : ys.length ≤ sizeLine := by rw [← Paired.length dv]; omega
  refine wpAny_setItem_heap (hsz := hz) (room_in1 hu) (nested_is I rk ek) dd fun h' dd' hs => ⟨_, ?_, q⟩
  obtain ⟨ob, es, ep, hq, h2, h3, h4, _, h5⟩ := dd'
  refine d_write I (by rw [ho]; exact True.intro) hs ⟨ob, hq⟩ ⟨⟨hd, _, dv_put dv k b rv, ob, es, ep, hq, h2, h3, h4, h5⟩, ⟨ob, hq⟩, ?_⟩
  rintro g1 g2 ⟨c1, zs, c2, o1, es1, ep1, c3, c4⟩ hk
  exact ⟨c1, zs, c2, o1, es1, ep1, hk _ c3, c4⟩
/-- {} -/
def tDNewN (X : Cx) : TE := fun _ H Q => ∀ p, H p = none → Q (.ref p) (upd H p (DctO X.prog X.w p []))
theorem dctO_empty {P : Program} {w : World} {H : Hp} (h : Heap) (hb : sysModules < h.objs.size) : ObjOk P w H (h.push { cls := .type "dict", data := .dict #[] }) h.objs.size (DctO P w h.objs.size []) :=
  ⟨⟨beq_eq_false_iff_ne.mpr (Ne.symm (Nat.ne_of_lt hb)), [], .nil, _, #[], 0, Heap.get?_push_size _ rfl, ⟨rfl, rfl, rfl⟩, rfl, rfl, List.nodup_nil⟩, ⟨_, Heap.get?_push_size _ rfl⟩,
    fun g1 g2 ⟨c1, zs, c2, o1, es1, ep1, c3, c4⟩ hk => ⟨c1, zs, c2, o1, es1, ep1, hk _ c3, c4⟩⟩
theorem pe_dnewN {pos : Pos} : PE X (.Dict [] [] pos) (tDNewN X) := ⟨fun pins s σ H Q I h =>
  wpAny_Dict_empty ⟨.ref s.heap.objs.size, _, I.laid (a := s.heap.objs.size) (o := DctO X.prog X.w s.heap.objs.size []) (t' := s.toks) (fun _ _ q => Heap.get?_push_of_some _ q) (Nat.le_refl _) (dctO_empty s.heap I.big), rfl, h _ (I.hok.fresh (Nat.le_refl _))⟩⟩
/-- len(d) -/
def rLenN (X : Cx) : List V → Hp → VK → Prop := fun vs H Q => ∃ a xs kvs, vs = [.ref a] ∧ H a = some (DctO X.prog X.w a xs) ∧ DRep X.K H xs kvs ∧ xs.length ≤ sizeLine ∧ Q (.int kvs.length) H
theorem cr_lenN (hu : X.A.units + 64 < cLine) : CallR X (.builtin "len") (rLenN X) := by
  intro pins s σ H vs us Q I r h
  obtain ⟨a, xs, kvs, rfl, ho, dr, hl, q⟩ := h
  rw [Vals.ref1 r]
  obtain ⟨hd, ys, dv, dd⟩ := dct_of I ho dr
  have e1 := Paired.length dv
  have e2 := Paired.length dr
  have hm : s.heap.DictKeyed (nestedKind X.prog X.w) a (pairsH ys) := ⟨ys, dd, rfl⟩
  have el : (pairsH ys).length = kvs.length := by rw [pairsH_length]; omega
  refine PyProof.Rows.call_len_slot (n := (pairsH ys).length) hm.typeIs PySem.F.slot_dict_len (fun Q' hq => len_keyed hd hm hq) (by omega) (by rw [sizeLine_eq] at hl; omega) ?_
  rw [el]
  exact ⟨.int kvs.length, H, I.tok _, ⟨_, rfl⟩, q⟩
end
/-! ### slots -/
section
variable {C : Cfg} {σ : L2.St} {ρ : PF.Env} {G H : Hp}
theorem St.dct (h : St C σ ρ G H) {i : Nat} {kvs : List (NestedKey × D)} (e : dctOf ρ i = .ok kvs) : ∃ a xs, σ[i]? = some (some (.ref a)) ∧ ρ[i]? = some (.dct kvs) ∧ H a = some (DctO C.P C.w a xs) ∧ xs.length ≤ sizeLine ∧ DRep C.K G xs kvs ∧ G a = none ∧ C.H0 a = none := by
  unfold dctOf at e
  split at e
  · rename_i kvs' hs
    cases e
    obtain ⟨o, h1, h1', h2⟩ := h.at hs (by simp)
    cases h2 with
    | dct a1 a2 a3 a4 a5 => exact ⟨_, _, h1, h1', a1, a2, a3, a4, a5⟩
  · cases e
theorem dctOf_ex {i : Nat} {c : Nat} : dctOf ρ i ≠ .ex c := by unfold dctOf; split <;> simp
/-- a dict is written -/
theorem St.updD (h : St C σ ρ G H) {i : Nat} {kvs kvs' : List (NestedKey × D)} {a : Addr} {xs xs' : DRaw} (e : ρ[i]? = some (.dct kvs)) (ea : σ[i]? = some (some (.ref a))) (hx : H a = some (DctO C.P C.w a xs)) (hg : G a = none) (h0 : C.H0 a = none)
    (l : xs'.length ≤ sizeLine) (r : DRep C.K G xs' kvs') : St C σ (ρ.set i (.dct kvs')) G (L2.upd H a (DctO C.P C.w a xs')) := by
  have sm : Same G (L2.upd H a (DctO C.P C.w a xs')) := fun b o hb => by
    rw [L2.upd_ne (fun z => by subst z; rw [hg] at hb; cases hb)]
    exact h.same b o hb
  refine ⟨by simp [h.len], ⟨fun b o hb => ?_, h.ext.gg, sm, h.ext.nw⟩, fun j o s g1 g2 => ?_, fun j k s t b hjk g1 g2 g3 g4 g5 g6 => ?_⟩
  · rw [L2.upd_ne (fun z => by subst z; rw [h0] at hb; cases hb)]
    exact h.ext.hh b o hb
  · by_cases hj : i = j
    · subst hj
      rw [ea] at g1
      cases g1
      have hi := (List.getElem?_eq_some_iff.mp e).1
      rw [List.getElem?_set_self hi] at g2
      cases g2
      exact .dct L2.upd_same l r hg h0
    · rw [List.getElem?_set_ne hj] at g2
      cases h.slot j o s g1 g2 with
      | no => exact .no _
      | val r => exact .val r
      | exc r => exact .exc r
      | own b1 b2 b3 b4 b5 =>
        rename_i b ys es
        refine .own ?_ b2 b3 b4 b5
        rw [L2.upd_ne (fun z => ?_)]
        · exact b1
        · subst z
          exact h.dist i j _ _ b hj e g2 rfl rfl ea g1
      | dct b1 b2 b3 b4 b5 =>
        rename_i b ys es
        refine .dct ?_ b2 b3 b4 b5
        rw [L2.upd_ne (fun z => ?_)]
        · exact b1
        · subst z
          exact h.dist i j _ _ b hj e g2 rfl rfl ea g1
  · have old : ∀ {k : Nat} {s : Sl}, (ρ.set i (.dct kvs'))[k]? = some s → s.isOwn = true → ∃ s' : Sl, ρ[k]? = some s' ∧ s'.isOwn = true := fun {k s} e1 f => by
      by_cases hk : i = k
      · subst hk; exact ⟨_, e, rfl⟩
      · rw [List.getElem?_set_ne hk] at e1; exact ⟨s, e1, f⟩
    obtain ⟨s', q1, q2⟩ := old g1 g3
    obtain ⟨t', q3, q4⟩ := old g2 g4
    exact h.dist j k s' t' b hjk q1 q3 q2 q4 g5 g6
/-- a slot takes a new dict -/
theorem St.newD (h : St C σ ρ G H) {i : Nat} {a : Addr} (ha : H a = none) : St C (σ.set i (some (.ref a))) (ρ.set i (.dct [])) G (L2.upd H a (DctO C.P C.w a [])) := by
  have e1 : Ext G H G (L2.upd H a (DctO C.P C.w a [])) := Ext.own h.same ha
  have hm := h.mono e1
  have new : ∀ (j : Nat) (t : Sl), ρ[j]? = some t → t.isOwn = true → σ[j]? = some (some (.ref a)) → False := fun j t h1 h2 h3 => by
    have q := h.slot j _ _ h3 h1
    cases q with
    | own a1 _ _ _ _ => rw [ha] at a1; cases a1
    | dct a1 _ _ _ _ => rw [ha] at a1; cases a1
    | _ => cases h2
  refine ⟨by simp [h.len], hm.ext, fun j o s h1 h2 => ?_, fun j k s t b hjk h1 h2 h3 h4 h5 h6 => ?_⟩
  · by_cases hj : i = j
    · subst hj
      rw [List.getElem?_set] at h1 h2
      by_cases hi : i < σ.length
      · rw [if_pos rfl, if_pos hi] at h1
        rw [if_pos rfl, if_pos (by rw [← h.len]; exact hi)] at h2
        cases h1; cases h2
        exact .dct L2.upd_same (Nat.zero_le _) .nil (h.same.free ha) (h.ext.hh.free ha)
      · rw [if_pos rfl, if_neg hi] at h1; cases h1
    · rw [List.getElem?_set_ne hj] at h1 h2
      exact hm.slot j o s h1 h2
  · have old : ∀ {k s b}, (ρ.set i (.dct []))[k]? = some s → s.isOwn = true → (σ.set i (some (.ref a)))[k]? = some (some (.ref b)) → (k = i ∧ b = a) ∨ (k ≠ i ∧ ρ[k]? = some s ∧ σ[k]? = some (some (.ref b))) := fun {k s b} e f g => by
      by_cases z : k = i
      · subst z
        rw [List.getElem?_set] at g
        by_cases hi : k < σ.length
        · rw [if_pos rfl, if_pos hi] at g; cases g; exact .inl ⟨rfl, rfl⟩
        · rw [if_pos rfl, if_neg hi] at g; cases g
      · rw [List.getElem?_set_ne (Ne.symm z)] at e g
        exact .inr ⟨z, e, g⟩
    rcases old h1 h3 h5 with ⟨e1, e2⟩ | ⟨e1, e2, e3⟩
    · rcases old h2 h4 h6 with ⟨f1, f2⟩ | ⟨f1, f2, f3⟩
      · exact hjk (e1.trans f1.symm)
      · subst e2; exact new _ _ f2 h4 f3
    · rcases old h2 h4 h6 with ⟨f1, f2⟩ | ⟨f1, f2, f3⟩
      · subst f2; exact new _ _ e2 h3 e3
      · exact h.dist j k s t b hjk e2 f2 h3 h4 e3 f3
end
/-! ### the language's dict words -/
section
variable {F : Nat → List D → M R} {C : Cfg} {W : WX} {X : Cx} {e it : Expr} {ce cx : CE} {pos px spos : Pos} {i : Nat} {x : Str}
/-- a dict's name, with the key that is asked for -/
theorem name_read (hi : X.N[i]? = some x) (hv : Vis X.env.scope x) (hd : (x == ("__debug__" : Str)) = false) (hcd : (x == ("__classdict__" : Str)) = false) {σ : L2.St} {H : Hp} {Q : VK} {v : V} (h : σ[i]? = some (some v)) (q : Q v H) :
    tVar i σ H Q := ⟨v, h, q⟩
theorem ask_of (hP : X.prog = C.P) (hw : X.w = C.w) (hK : X.K = C.K) {σ : L2.St} {ρ : PF.Env} {G H : Hp} (st : St C σ ρ G H) {a : Addr} {xs : DRaw} {kvs : List (NestedKey × D)} (h1 : H a = some (DctO C.P C.w a xs)) (h2 : DRep C.K G xs kvs) {y : V} {d : D} {k : NestedKey} (r : Rep C.K G y d) (ek : keyT d = some k) :
    DAsk X H a xs kvs y k := by
  refine ⟨?_, ?_, d, ?_, ek⟩
  · rw [hP, hw]; exact h1
  · rw [hK]; exact h2.mono st.same
  · rw [hK]; exact r.mono st.same
theorem dhas_parts (hP : X.prog = C.P) (hw : X.w = C.w) (hK : X.K = C.K) {neg : Bool} {σ : L2.St} {H : Hp} {Q : VK} (q : T C W (okR C.K) (ev F (.dhas neg i ce)) σ H Q) :
    tOp (rInN X neg) (T C W (okD C.K) fun ρ => (ev F ce ρ).toD) (tVar i) σ H Q := by
  obtain ⟨G, ρ, st, fin⟩ := q
  simp only [ev] at fin
  refine T.bind (ok1 := okD C.K) st fin fun y d G1 H1 e1 p1 st1 fin1 => ?_
  obtain ⟨kvs, ek, fin2⟩ : ∃ kvs, dctOf ρ i = .ok kvs ∧ Fin C W (okR C.K) H σ ((M.opt (keyT d)).bind fun k => boolR ((lookD kvs k).isSome != neg)) G1 H1 Q := by
    cases q : dctOf ρ i with
    | no => rw [q] at fin1; exact fin1.elim
    | ex c => exact absurd q dctOf_ex
    | ok kvs => rw [q] at fin1; exact ⟨kvs, rfl, fin1⟩
  obtain ⟨a, xs, g1, g2, g3, g4, g5, g6, g7⟩ := st1.dct ek
  refine ⟨.ref a, g1, ?_⟩
  cases hk : keyT d with
  | none => rw [hk] at fin2; exact fin2.elim
  | some k =>
    rw [hk] at fin2
    exact ⟨a, xs, kvs, k, rfl, ask_of hP hw hK st1 g3 g5 p1 hk, fin2 _ G1 H1 (Ext.refl st1.same) (.bl _)⟩
theorem dhas_bool {neg : Bool} {ρ : PF.Env} {r : R} (h : ev F (.dhas neg i ce) ρ = .ok r) : ∃ b, r = .d (.bool b) := by
  simp only [ev] at h
  cases q1 : (ev F ce ρ).toD with
  | no => rw [q1] at h; cases h
  | ex c => rw [q1] at h; cases h
  | ok d =>
    rw [q1] at h
    cases q2 : dctOf ρ i with
    | no => simp only [M.bind_ok, q2] at h; cases h
    | ex c => simp only [M.bind_ok, q2] at h; cases h
    | ok kvs =>
      simp only [M.bind_ok, q2] at h
      cases q3 : keyT d with
      | none => rw [q3] at h; cases h
      | some k => rw [q3] at h; cases h; exact ⟨_, rfl⟩
theorem snd_dhas {neg : Bool} {op : CmpOp} (hop : op = if neg = true then .NotIn else .In) (hP : X.prog = C.P) (hw : X.w = C.w) (hK : X.K = C.K) (hu : X.A.units + 64 < cLine) (hm : behindInMarks op (.Name x px) = false) (hi : X.N[i]? = some x) (hv : Vis X.env.scope x) (hd : (x == ("__debug__" : Str)) = false) (hcd : (x == ("__classdict__" : Str)) = false) (he : Snd F C W X e ce) :
    Snd F C W X (.Compare e [op] [.Name x px] pos) (.dhas neg i ce) := by
  have ob : OpR X (compareOp op) (rInN X neg) := by
    cases neg with
    | false => rw [hop]; exact op_inN hu
    | true => rw [hop]; exact op_notInN hu
  have h1 : PE X (.Compare e [op] [.Name x px] pos) (T C W (okR C.K) (ev F (.dhas neg i ce))) := PE.imp (pe_cmpR ob he.dat (pe_var hi hv hd hcd) hm) fun σ H Q q => dhas_parts hP hw hK q
  refine ⟨h1, PE.imp h1 fun σ H Q q => T.toP q, PT.imp (pt_cmpR ob he.dat (pe_var hi hv hd hcd) hm) fun σ H Q q => ?_, trivial, fun _ _ => rfl⟩
  exact dhas_parts hP hw hK (tst_bool (ok1 := okR C.K) (fun ρ r h => dhas_bool h) q)
theorem snd_dget (hP : X.prog = C.P) (hw : X.w = C.w) (hK : X.K = C.K) (hu : X.A.units + 64 < cLine) (hi : X.N[i]? = some x) (hv : Vis X.env.scope x) (hd : (x == ("__debug__" : Str)) = false) (hcd : (x == ("__classdict__" : Str)) = false) (hp : PlainE e) (he : Snd F C W X e ce) :
    Snd F C W X (.Subscript (.Name x px) e pos) (.dget i ce) := by
  refine Snd.of hK (PE.imp (pe_ix (ix_dctN hu) (pe_var hi hv hd hcd) he.dat (plain_ix hp)) fun σ H Q q => ?_) (by simp) (fun _ => rfl) trivial fun _ _ => rfl
  obtain ⟨G, ρ, st, fin⟩ := q
  simp only [ev] at fin
  cases ek : dctOf ρ i with
  | no => rw [ek] at fin; exact fin.elim
  | ex c => exact absurd ek dctOf_ex
  | ok kvs =>
    rw [ek] at fin
    obtain ⟨a, xs, g1, _⟩ := st.dct ek
    refine ⟨.ref a, g1, ?_⟩
    refine T.bind (ok1 := okD C.K) st fin fun y d G1 H1 e1 p1 st1 fin1 => ?_
    obtain ⟨a', xs', g1', g2, g3, g4, g5, g6, g7⟩ := st1.dct ek
    rw [g1] at g1'
    cases g1'
    cases hk : keyT d with
    | none => rw [hk] at fin1; exact fin1.elim
    | some k =>
      rw [hk] at fin1
      cases hl : lookD kvs k with
      | none => simp only [M.opt_some, M.bind_ok, hl] at fin1; exact fin1.elim
      | some v =>
        simp only [M.opt_some, M.bind_ok, hl] at fin1
        obtain ⟨p, q', f1, f2, f3, f4⟩ : ∃ p q', findG xs' k = some p ∧ findG kvs k = some q' ∧ (p.1 = q'.1 ∧ (∃ d, Rep C.K G1 (.ref p.2.1) d ∧ keyT d = some p.1) ∧ Rep C.K G1 p.2.2 q'.2) ∧ p.1 = k := by
          rcases paired_find (fun p q h => h.1) k g5 with ⟨_, z⟩ | ⟨p, q', f1, f2, f3, f4⟩
          · rw [lookD_eq, z] at hl; cases hl
          · exact ⟨p, q', f1, f2, f3, f4⟩
        obtain ⟨k1, k2, k3⟩ := p
        subst f4
        have ev : q'.2 = v := by rw [lookD_eq, f2] at hl; exact Option.some.inj hl
        refine ⟨a, xs', kvs, _, k2, k3, rfl, ask_of hP hw hK st1 g3 g5 p1 hk, f1, fin1 k3 G1 H1 (Ext.refl st1.same) ?_⟩
        show Rep C.K G1 k3 v
        rw [← ev]
        exact f3.2.2
def tRev (X : Cx) (te : TE) (ts : TO) : TE := fun σ H Q => te σ H fun x H1 => ts σ H1 fun o H2 => o = some (-1) ∧ ∃ a xs, x = .ref a ∧ SqL X.K H2 a xs ∧ ∀ p, H2 p = none → Q (.ref p) (upd H2 p (.lst xs.reverse))
theorem Vals.rev {xs : List V} {us : List Value} (r : Vals xs us) : Vals xs.reverse us.reverse := by
  induction r with
  | nil => exact .nil
  | cons h t ih =>
    rw [List.reverse_cons, List.reverse_cons]
    exact Vals.append ih (.cons h .nil)
theorem pe_rev {te : TE} {ts : TO} {st : Expr} {p2 : Pos} (he : PE X e te) (hs : PO X (some st) ts) : PE X (.Subscript e (.Slice none none (some st) p2) pos) (tRev X te ts) := by
  refine ⟨fun pins s σ H Q I h => ?_⟩
  refine Subscript_ (thn (he.run pins s σ H _ I h) fun v s1 ⟨x, H1, I1, r1, q1⟩ => ?_)
  refine wpAny_Slice ?_
  rw [evalPart_none]
  refine wpAny_pure ?_
  refine wpAny_pure (thn (hs.run pins s1 σ H1 _ I1 q1) fun vk s2 ⟨k, H2, I2, pk, ek, a, xs, ex, hx, q2⟩ => ?_)
  subst ek ex
  obtain rfl : v = Value.ref a := r1
  have I4 : Inv X pins σ H2 { s2 with heap := s2.heap.push { cls := .type "slice", data := .fields #[.none, .none, vk] } } := I2.kept (t' := s2.toks) fun b ob q => Heap.get?_push_of_some _ q
  obtain ⟨its, r, ht, hz⟩ := I4.list hx
  have hlen := r.length
  refine tail_any (T := "list") (ops := [.ref a, .ref s2.heap.objs.size]) ht.isList.typeIs PySem.F.slot_list_getitem.lookup ?_ (by with_unfolding_all rfl)
  refine wpAny_getItem_list_slice ht.isList (Heap.IsSliceOf.new ..) .none .none pk (by simp) ?_ (by rw [List.size_toArray] <;> omega)
  rw [PySem.W.krv_pick]
  refine ⟨.ref (s2.heap.push { cls := .type "slice", data := .fields #[.none, .none, vk] }).objs.size, _, I4.laid (t' := s2.toks) (o := .lst xs.reverse) (fun b ob q => Heap.get?_push_of_some _ q) (Nat.le_refl _) ?_, rfl, q2 _ (I4.hok.fresh (Nat.le_refl _))⟩
  exact ⟨by rw [List.length_reverse]; exact hz, _, 0, Vals.rev r, Heap.get?_push_size _ rfl⟩
theorem revD_ex {r : R} {c : Nat} : revD r ≠ .ex c := by unfold revD; split <;> simp
theorem RepA.rev {K : Fr} {G : Hp} {xs : List V} {ds : List D} (h : RepA K G xs ds) : RepA K G xs.reverse ds.reverse := by
  have : ∀ {xs : List V} {ds : List D}, RepA K G xs ds → RepA K G xs.reverse ds.reverse := by
    intro xs
    induction xs with
    | nil => intro ds h; cases h; exact .nil
    | cons x xs ih =>
      intro ds h
      cases h with
      | cons h t =>
        rw [List.reverse_cons, List.reverse_cons]
        exact RepA.append (ih t) (.cons h .nil)
  exact this h
theorem snd_rev {a st : Expr} {ca : CE} {p2 : Pos} (hK : X.K = C.K) (ha : Snd F C W X a ca) (hs : Snd F C W X st (.neg (.con (.int 1)))) : Snd F C W X (.Subscript a (.Slice none none (some st) p2) pos) (.rev ca) := by
  refine Snd.of hK (PE.imp (pe_rev ha.pk (po_som hs (by simp))) fun σ H Q q => ?_) (by simp) (fun _ => rfl) trivial fun _ _ => rfl
  obtain ⟨G, ρ, st, fin⟩ := q
  simp only [ev] at fin
  refine T.bind (ok1 := okP C.K) st fin fun x ra G1 H1 e1 p1 st1 fin1 => ?_
  refine ⟨G1, ρ, st1, ?_⟩
  have em : partC (.neg (.con (.int 1))) (ev F (.neg (.con (.int 1))) ρ).toD = .ok (some (-1)) := by
    simp only [partC, ev, M.bind_ok, negD, M.toD_ok, R.toD_d, partD]
  show Fin C W okO H1 σ (partC (.neg (.con (.int 1))) (ev F (.neg (.con (.int 1))) ρ).toD) G1 H1 _
  rw [em]
  intro o G2 H2 e2 eo
  refine ⟨eo, ?_⟩
  obtain ⟨r, er, q⟩ := fin1.okE fun c => revD_ex
  unfold revD at er
  split at er
  · rename_i xs ex
    cases er
    obtain ⟨b, vs, rfl, hb, lb, rb⟩ := (p1.mono e2).lst e2.gh ex
    refine ⟨b, vs, rfl, by rw [hK]; exact hb, fun p hp => ?_⟩
    exact q (.ref p) G2 _ (e2.trans (Ext.own e2.gh hp)) ⟨p, vs.reverse, rfl, upd_same, by rw [List.length_reverse]; exact lb, rb.rev, (e1.trans e2).hh.free hp, e2.gh.free hp⟩
  · cases er
theorem snd_dlen {p p2 : Pos} (hP : X.prog = C.P) (hw : X.w = C.w) (hK : X.K = C.K) (hu : X.A.units + 64 < cLine) (hg : Gl X "len") (hm : X.mg "len" = none) (hi : X.N[i]? = some x) (hv : Vis X.env.scope x) (hd : (x == ("__debug__" : Str)) = false) (hcd : (x == ("__classdict__" : Str)) = false) :
    Snd F C W X (.Call (.Name "len" p) [.Name x p2] [] pos) (.dlen i) := by
  refine Snd.of hK (PE.imp (pe_callB (cr_lenN hu) hg hm (by decide +kernel) (pa_cons (pe_var hi hv hd hcd) pa_nil)) fun σ H Q q => ?_) (by simp) (fun _ => rfl) trivial fun _ _ => rfl
  obtain ⟨G, ρ, st, fin⟩ := q
  simp only [ev] at fin
  cases ek : dctOf ρ i with
  | no => rw [ek] at fin; exact fin.elim
  | ex c => exact absurd ek dctOf_ex
  | ok kvs =>
    rw [ek] at fin
    obtain ⟨a, xs, g1, g2, g3, g4, g5, g6, g7⟩ := st.dct ek
    refine ⟨.ref a, g1, ?_⟩
    have q := fin (.int kvs.length) G H (Ext.refl st.same) (.int _)
    exact ⟨a, xs, kvs, rfl, by rw [hP, hw]; exact g3, by rw [hK]; exact g5.mono st.same, g4, q⟩
theorem sndS_dnew {px : Pos} {pos2 : Pos} (hP : X.prog = C.P) (hw : X.w = C.w) (hN : X.N.Nodup) (hi : X.N[i]? = some x) (hx : Loc X.env.scope x) (hf : X.fn x = true ∨ X.env.scope.names.lookup x = some .local) : SndS F C W X (.Assign [.Name x px] (.Dict [] [] pos2) pos) (.dnew i) := by
  refine ⟨PS.imp (ps_set hN hi hx pe_dnewN rfl hf) fun D σ H q => ?_⟩
  obtain ⟨G, ρ, st, q⟩ := q
  simp only [exS] at q
  intro p hp
  rw [hP, hw]
  exact q _ G _ (Same.refl _) (st.newD hp)
theorem sndS_dput (hP : X.prog = C.P) (hw : X.w = C.w) (hK : X.K = C.K) (hu : X.A.units + 64 < cLine) (hi : X.N[i]? = some x) (hv : Vis X.env.scope x) (hd : (x == ("__debug__" : Str)) = false) (hcd : (x == ("__classdict__" : Str)) = false) (nc : NoComp e) (hp : PlainE it) (hit : Snd F C W X it cx) (he : Snd F C W X e ce) :
    SndS F C W X (.Assign [.Subscript (.Name x px) it spos] e pos) (.dput i cx ce) := by
  have ha : ∀ v, assign (.Subscript (.Name x px) it spos) X.env v = (do
      let ov ← holding [v] (eval (.Name x px) X.env)
      let iv ← holding [v, ov] (eval it X.env)
      standAt spos
      holding [v, ov, iv] (setItem ov iv v)
      release [v, ov, iv] []) := by
    intro v
    cases it <;> first | rfl | exact hp.elim
  refine ⟨PS.imp (ps_asg he.dat (pg_sub (pe_var hi hv hd hcd) hit.dat (set_dctN hu) ha) (sole_no nc) swapped_sub (by rfl)) fun D σ H q => ?_⟩
  obtain ⟨G, ρ, st, q⟩ := q
  simp only [exS] at q
  refine T.ctl (ok1 := okD C.K) (k := fun d => (dctOf ρ i).ctl ρ fun kvs => (ev F cx ρ).toD.ctl ρ fun kd => optC (keyT kd) fun key => if kvs.length < sizeLine then Ctl.nx (ρ.set i (.dct (putD kvs key d))) else .no) st q fun v d G1 H1 e1 o st1 _ q1 => ?_
  cases ek : dctOf ρ i with
  | no => rw [ek] at q1; exact q1.elim
  | ex c => exact absurd ek dctOf_ex
  | ok kvs =>
    rw [ek] at q1
    simp only [M.ctl_ok] at q1
    obtain ⟨a, xs, g1, g2, g3, g4, g5, g6, g7⟩ := st1.dct ek
    refine ⟨.ref a, g1, ?_⟩
    refine T.ctl (ok1 := okD C.K) (k := fun kd => optC (keyT kd) fun key => if kvs.length < sizeLine then Ctl.nx (ρ.set i (.dct (putD kvs key d))) else .no) st1 q1 fun y kd G2 H2 e2 o2 st2 _ q2 => ?_
    cases hk : keyT kd with
    | none => rw [hk] at q2; exact q2.elim
    | some k =>
      rw [hk] at q2
      simp only [optC_some] at q2
      split at q2
      · rename_i hl
        obtain ⟨b, rfl⟩ := keyT_ref o2 hk
        have len := Paired.length g5
        have f3 := e2.hh _ _ g3
        have f5 := g5.mono e2.gg
        have f6 := e2.nw _ g6 (by rw [g3]; simp)
        refine ⟨a, xs, kvs, k, b, rfl, rfl, ask_of hP hw hK st2 f3 f5 o2 hk, by omega, ?_⟩
        rw [hP, hw]
        have pl := put_len xs k (fun p => (p.1, v)) (b, v)
        exact q2 σ G2 _ (Same.refl _) (st2.updD g2 g1 f3 f6 g7 (by show (putG xs k (fun p => (p.1, v)) (b, v)).length ≤ sizeLine; omega) (dr_put f5 k o2 hk (o.mono e2.gg)))
      · exact q2.elim
theorem sndS_bad {s : Stmt} : SndS F C W X s .bad := by
  refine ⟨⟨fun pins s' σ H D I q => ?_⟩⟩
  obtain ⟨G, ρ, st, q⟩ := q
  simp only [exS] at q
  exact q.elim
end
end PF

end

section
/-! PF9: try .. except. -/
namespace PF
open PySem PySem.Spec PyProof.Rows L2
section
variable {C : Cfg} {σ : L2.St} {ρ : PF.Env} {G H : Hp}
theorem St.xa (h : St C σ ρ G H) (n : C.xa = none) (x : Option (Addr × Nat)) : St { C with xa := x } σ ρ G H :=
  ⟨h.len, h.ext, fun i o s h1 h2 => by
    cases h.slot i o s h1 h2 with
    | no => exact .no _
    | val r => exact .val r
    | own a1 a2 a3 a4 a5 => exact .own a1 a2 a3 a4 a5
    | dct a1 a2 a3 a4 a5 => exact .dct a1 a2 a3 a4 a5
    | exc e => rw [n] at e; exact absurd e (by simp),
    h.dist⟩
theorem St.unxa {x : Option (Addr × Nat)} (h : St { C with xa := x } σ ρ G H) (c : clean ρ = true) : St C σ ρ G H :=
  ⟨h.len, h.ext, fun i o s h1 h2 => by
    cases h.slot i o s h1 h2 with
    | no => exact .no _
    | val r => exact .val r
    | own a1 a2 a3 a4 a5 => exact .own a1 a2 a3 a4 a5
    | dct a1 a2 a3 a4 a5 => exact .dct a1 a2 a3 a4 a5
    | exc e =>
      exfalso
      have m := List.mem_of_getElem? h2
      have := (List.all_eq_true.mp c) _ m
      exact absurd this (by simp [Sl.isExc]),
    h.dist⟩
theorem St.setExc {a : Addr} {c : Nat} (h : St { C with xa := some (a, c) } σ ρ G H) (i : Nat) : St { C with xa := some (a, c) } (σ.set i (some (.ref a))) (ρ.set i (.exc c)) G H := by
  refine ⟨by simp [h.len], h.ext, fun j o s h1 h2 => ?_, fun j k s t b hjk h1 h2 h3 h4 h5 h6 => ?_⟩
  · by_cases hj : i = j
    · subst hj
      rw [List.getElem?_set] at h1 h2
      by_cases hi : i < σ.length
      · rw [if_pos rfl, if_pos hi] at h1
        rw [if_pos rfl, if_pos (by rw [← h.len]; exact hi)] at h2
        cases h1; cases h2
        exact .exc rfl
      · rw [if_pos rfl, if_neg hi] at h1; cases h1
    · rw [List.getElem?_set_ne hj] at h1 h2
      exact h.slot j o s h1 h2
  · have ne : ∀ {k : Nat} {s : Sl}, (ρ.set i (.exc c))[k]? = some s → s.isOwn = true → i ≠ k := fun {k s} e f z => by
      subst z
      rw [List.getElem?_set] at e
      by_cases hi : i < ρ.length
      · rw [if_pos rfl, if_pos hi] at e; cases e; cases f
      · rw [if_pos rfl, if_neg hi] at e; cases e
    have n1 := ne h1 h3
    have n2 := ne h2 h4
    rw [List.getElem?_set_ne n1] at h1 h5
    rw [List.getElem?_set_ne n2] at h2 h6
    exact h.dist j k s t b hjk h1 h2 h3 h4 h5 h6
end
theorem PSs.by {X : Cx} {st : List Stmt} {t' : TS} (i : ∀ D σ H, t' D σ H → ∃ t, PSs X st t ∧ t D σ H) : PSs X st t' := ⟨fun pins s σ H D I q => by
  obtain ⟨t, h, q⟩ := i D σ H q
  exact h.run pins s σ H D I q⟩
section
variable {F : Nat → List D → M R} {C : Cfg} {W : WX} {X : Cx} {pos : Pos} {i : Nat} {x n : Str} {T : Value} {row : List Bool} {body suite : List Stmt} {b0 : Stmt} {cbody csuite : List CS} {np p2 : Pos}
/-- the suite's reading, whatever class was raised -/
def tSuite (F : Nat → List D → M R) (C : Cfg) (row : List Bool) (cs : List CS) (a : Addr) (cls : Value) (d : Option Addr) : TS := fun D σ H => ∃ c, cls = C.cV c ∧ d = none ∧ c < row.length ∧ TSt { C with xa := some (a, c) } W0 (exB F cs) D σ H
theorem suite_run (hsu : ∀ (a : Addr) (oe : Obj) (c : Nat) (pn : List (Addr × Obj)), c < row.length → Zc (C.cV c) none oe → (∃ vs, oe.data = .fields vs) → SndB F { C with xa := some (a, c) } W0 (X.suite a ((a, oe) :: pn)) (b0 :: suite) csuite)
    (a : Addr) (oe : Obj) (cls : Value) (d : Option Addr) (pn : List (Addr × Obj)) (hz : Zc cls d oe) (hf : ∃ vs, oe.data = .fields vs) : PSs (X.suite a ((a, oe) :: pn)) (b0 :: suite) (tSuite F C row csuite a cls d) :=
  PSs.by fun D σ H ⟨c, e1, e2, l, q⟩ => by
    subst e1 e2
    exact ⟨_, (hsu a oe c pn l hz hf).run, q⟩
theorem unslot_ok {C : Cfg} {D : Ends} {G G' : Hp} {slot : Option Nat} {c : Ctl} {xa : Option (Addr × Nat)} (s : Same G G') (q : CtlOk C W D G (unslot slot c))
    {D' : Ends} (hn : ∀ σ H, D.nx (match slot with | some i => σ.set i none | none => σ) H → D'.nx σ H) (hr : D'.rt = D.rt) : CtlOk { C with xa := xa } W0 D' G' c := by
  cases c with
  | nx ρ =>
    intro σ2 G2 H2 s2 st2
    refine hn σ2 H2 ?_
    simp only [unslot] at q
    cases slot with
    | none =>
      simp only at q ⊢
      split at q
      · rename_i hc
        exact q σ2 G2 H2 (s.trans s2) (st2.unxa hc)
      · exact q.elim
    | some i =>
      simp only at q ⊢
      split at q
      · rename_i hc
        exact q _ G2 H2 (s.trans s2) ((st2.wipe1 i).unxa hc)
      · exact q.elim
  | rt r =>
    intro v G2 H2 e o
    rw [hr]
    exact q v G2 H2 e o
  | bk ρ => exact q.elim
  | ct ρ => exact q.elim
  | ex c ρ => exact q.elim
  | no => exact q.elim
theorem sndS_tryAs (hs : X.stack = X.env :: X.outer) (hf : X.env.frame = some X.env.locals) (hN : X.N.Nodup) (hi : X.N[i]? = some n) (hln : X.env.kindOf n = some .local) (hc : Names X x T) (tk : Takes X W) (hxa : C.xa = none)
    (hx : ∀ c b, row[c]? = some b → PySem.W.exmOne X.K (C.cV c) T = some b)
    (hb : ∀ (W' : WX) (pn : List (Addr × Obj)) (xe : Value → Shared → Prop), Takes (X.tr pn xe) W' → PassesOwn (model X.prog X.w) X.A X.env xe → SndB F C W' (X.tr pn xe) body cbody)
    (hsu : ∀ (a : Addr) (oe : Obj) (c : Nat) (pn : List (Addr × Obj)), c < row.length → Zc (C.cV c) none oe → (∃ vs, oe.data = .fields vs) → SndB F { C with xa := some (a, c) } W0 (X.suite a ((a, oe) :: pn)) (b0 :: suite) csuite) :
    SndS F C W X (.Try body [.ExceptHandler (some (.Name x np)) (some n) (b0 :: suite) p2] [] [] pos) (.try cbody row (some i) csuite) := by
  refine ⟨PS.imp (ps_try_as (tb := fun W' => TSt C W' (exB F cbody)) (ts := tSuite F C row csuite) hs hf hN hi hln hc tk (fun W' pn xe t p => (hb W' pn xe t p).run) (suite_run hsu)) fun D σ H q => ?_⟩
  obtain ⟨G, ρ, st, q⟩ := q
  simp only [exS] at q
  refine ⟨G, ρ, st, ?_⟩
  cases qb : exB F cbody ρ with
  | ex c ρ' =>
    rw [qb] at q
    simp only at q
    intro σ' G' H' s st'
    cases qr : row[c]? with
    | none => rw [qr] at q; exact q.elim
    | some b =>
      rw [qr] at q
      refine ⟨b, hx c b qr, fun hb a hn => ?_, fun hb => ?_⟩
      · subst hb
        refine ⟨c, rfl, rfl, (List.getElem?_eq_some_iff.mp qr).1, G', _, (st'.xa hxa _).setExc i, ?_⟩
        exact unslot_ok (slot := some i) s q (fun σ H h => h) rfl
      · subst hb
        exact q σ' G' H' s st'
  | nx ρ' => rw [qb] at q; exact q
  | bk ρ' => rw [qb] at q; exact q
  | ct ρ' => rw [qb] at q; exact q
  | rt r => rw [qb] at q; exact q
  | no => rw [qb] at q; exact q
theorem sndS_try (hs : X.stack = X.env :: X.outer) (hf : X.env.frame = some X.env.locals) (hc : Names X x T) (tk : Takes X W) (hxa : C.xa = none)
    (hx : ∀ c b, row[c]? = some b → PySem.W.exmOne X.K (C.cV c) T = some b)
    (hb : ∀ (W' : WX) (pn : List (Addr × Obj)) (xe : Value → Shared → Prop), Takes (X.tr pn xe) W' → PassesOwn (model X.prog X.w) X.A X.env xe → SndB F C W' (X.tr pn xe) body cbody)
    (hsu : ∀ (a : Addr) (oe : Obj) (c : Nat) (pn : List (Addr × Obj)), c < row.length → Zc (C.cV c) none oe → (∃ vs, oe.data = .fields vs) → SndB F { C with xa := some (a, c) } W0 (X.suite a ((a, oe) :: pn)) (b0 :: suite) csuite) :
    SndS F C W X (.Try body [.ExceptHandler (some (.Name x np)) none (b0 :: suite) p2] [] [] pos) (.try cbody row none csuite) := by
  refine ⟨PS.imp (ps_try_only (tb := fun W' => TSt C W' (exB F cbody)) (ts := tSuite F C row csuite) hs hf hc tk (fun W' pn xe t p => (hb W' pn xe t p).run) (suite_run hsu)) fun D σ H q => ?_⟩
  obtain ⟨G, ρ, st, q⟩ := q
  simp only [exS] at q
  refine ⟨G, ρ, st, ?_⟩
  cases qb : exB F cbody ρ with
  | ex c ρ' =>
    rw [qb] at q
    simp only at q
    intro σ' G' H' s st'
    cases qr : row[c]? with
    | none => rw [qr] at q; exact q.elim
    | some b =>
      rw [qr] at q
      refine ⟨b, hx c b qr, fun hb a hn => ?_, fun hb => ?_⟩
      · subst hb
        refine ⟨c, rfl, rfl, (List.getElem?_eq_some_iff.mp qr).1, G', _, st'.xa hxa _, ?_⟩
        exact unslot_ok (slot := none) s q (fun σ H h => h) rfl
      · subst hb
        exact q σ' G' H' s st'
  | nx ρ' => rw [qb] at q; exact q
  | bk ρ' => rw [qb] at q; exact q
  | ct ρ' => rw [qb] at q; exact q
  | rt r => rw [qb] at q; exact q
  | no => rw [qb] at q; exact q
end
end PF

end

section
/-! PF10: from the text's terms to the core language; each reading is right. -/
namespace PF
open PySem PySem.Spec PyProof.Rows L2
/-- the module: its defs with their numbers of parameters, constants, classes of exceptions (for each of the own ones, whether it is under this one) -/
structure MT where
  fns : List (Str × Nat)
  cons : List (Str × D)
  excs : List (Str × List Bool)
  own : Nat
structure Ctx where
  N : List Str
  sc : Scope
  fn : Str → Bool
  calm : Bool
  top : Bool
  mu : List Nat
  ds : List Str
def ixOf (x : Str) : List Str → Option Nat
  | [] => none
  | y :: r => if y = x then some 0 else (ixOf x r).map (· + 1)
theorem ixOf_get {x : Str} : ∀ {N : List Str} {i : Nat}, ixOf x N = some i → N[i]? = some x
  | [], _, h => by cases h
  | y :: r, i, h => by
    unfold ixOf at h
    split at h
    · rename_i e
      cases h
      rw [e]; rfl
    · cases q : ixOf x r with
      | none => rw [q] at h; cases h
      | some j =>
        rw [q] at h
        cases h
        show (y :: r)[j + 1]? = some x
        rw [List.getElem?_cons_succ]
        exact ixOf_get q
def isVis (sc : Scope) (x : Str) : Bool := match sc.names.lookup x with
  | some .local => true
  | some .cell => true
  | some .free => true
  | _ => false
def isGl (sc : Scope) (x : Str) : Bool := match sc.names.lookup x with
  | some .globalImplicit => true
  | _ => false
def okN (x : Str) : Bool := !(x == ("__debug__" : Str)) && !(x == ("__classdict__" : Str)) && !(decide (x = ("__name__" : Str)))
def mapO {α β : Type} (f : α → Option β) : List α → Option (List β)
  | [] => some []
  | a :: r => (f a).bind fun b => (mapO f r).bind fun bs => some (b :: bs)
theorem mapO_paired {α β : Type} {f : α → Option β} {P : α → β → Prop} (h : ∀ a b, f a = some b → P a b) : ∀ {as : List α} {bs : List β}, mapO f as = some bs → Paired P as bs
  | [], bs, e => by cases e; exact .nil
  | a :: as, bs, e => by
    simp only [mapO] at e
    obtain ⟨b, h1, e⟩ := Option.bind_eq_some_iff.mp e
    obtain ⟨bs', h2, e⟩ := Option.bind_eq_some_iff.mp e
    cases e
    exact .cons (h a b h1) (mapO_paired h h2)
theorem mapO_len {α β : Type} {f : α → Option β} : ∀ {as : List α} {bs : List β}, mapO f as = some bs → as.length = bs.length
  | [], bs, e => by cases e; rfl
  | a :: as, bs, e => by
    simp only [mapO] at e
    obtain ⟨b, h1, e⟩ := Option.bind_eq_some_iff.mp e
    obtain ⟨bs', h2, e⟩ := Option.bind_eq_some_iff.mp e
    cases e
    rw [List.length_cons, List.length_cons, mapO_len h2]
def conD : Const → Option D
  | .int i => some (.int i)
  | .str x => some (.str x)
  | .bool b => some (.bool b)
  | .none => some .none
  | _ => none
def Blt.nm : Blt → Str
  | .len => "len" | .abs => "abs" | .max2 => "max" | .min2 => "min" | .max1 => "max" | .min1 => "min" | .sum => "sum" | .int => "int" | .str => "str" | .tuple => "tuple" | .list => "list"
def Blt.ar : Blt → Nat
  | .max2 => 2 | .min2 => 2 | _ => 1
def bltTab : List Blt := [.len, .abs, .max2, .min2, .max1, .min1, .sum, .int, .str, .tuple, .list]
theorem blt_boot (b : Blt) : bootBuiltins b.nm = some b.fn := by cases b <;> decide +kernel
theorem ty_boot (t : Ty) : bootBuiltins (t.name : Str) = some (.type t.name) := by cases t <;> decide +kernel
def tyTab : List Ty := [.int, .bool, .str, .tuple, .list]
def tyOf (y : Str) : Option Ty := tyTab.find? fun t => decide ((t.name : Str) = y)
def decBlt (x : Str) (n : Nat) : Option Blt := bltTab.find? fun b => decide (b.nm = x) && decide (b.ar = n)
def bltNames : List Str := ["isinstance", "range", "enumerate", "zip", "len", "abs", "max", "min", "sum", "int", "bool", "str", "tuple", "list"]
theorem nm_mem (b : Blt) : b.nm ∈ bltNames := by cases b <;> decide +kernel
theorem ty_mem (t : Ty) : (t.name : Str) ∈ bltNames := by cases t <;> decide +kernel
def fnIx (x : Str) : List (Str × Nat) → Option (Nat × Nat)
  | [] => none
  | (y, n) :: r => if y = x then some (0, n) else (fnIx x r).map fun p => (p.1 + 1, p.2)
theorem fnIx_get {x : Str} : ∀ {l : List (Str × Nat)} {i n : Nat}, fnIx x l = some (i, n) → l[i]? = some (x, n)
  | [], _, _, h => by cases h
  | (y, m) :: r, i, n, h => by
    unfold fnIx at h
    split at h
    · rename_i e
      cases h
      rw [e]; rfl
    · cases q : fnIx x r with
      | none => rw [q] at h; cases h
      | some p =>
        obtain ⟨j, m'⟩ := p
        rw [q] at h
        cases h
        show ((y, m) :: r)[j + 1]? = some (x, m')
        rw [List.getElem?_cons_succ]
        exact fnIx_get q
def rowL (row : List Bool) : List Nat := (List.range row.length).filter fun c => row.getD c false
theorem rowL_has (row : List Bool) (c : Nat) : (rowL row).contains c = row.getD c false := by
  unfold rowL
  by_cases h : row.getD c false = true
  · rw [h]
    have hl : c < row.length := by
      rw [List.getD_eq_getElem?_getD] at h
      cases q : row[c]? with
      | none => rw [q] at h; cases h
      | some b => exact (List.getElem?_eq_some_iff.mp q).1
    have : c ∈ (List.range row.length).filter fun c => row.getD c false := List.mem_filter.mpr ⟨List.mem_range.mpr hl, h⟩
    simpa using this
  · have h' : row.getD c false = false := by simpa using h
    rw [h']
    have : c ∉ (List.range row.length).filter fun c => row.getD c false := fun hm => h (List.mem_filter.mp hm).2
    simpa using this
def ownOf (N : List Str) (scope : Scope) : List (Str × Nat) := scope.names.filterMap fun p => match p.2 with
  | .local => (ixOf p.1 N).map fun i => (p.1, i)
  | .cell => (ixOf p.1 N).map fun i => (p.1, i)
  | _ => none
def decTg : Nat → Ctx → Expr → Option Tg
  | 0, _, _ => none
  | n + 1, cx, e => match e with
    | .Name x _ => (match cx.sc.names.lookup x with
      | some .local => (ixOf x cx.N).map .name
      | some .cell => if cx.fn x = true then (ixOf x cx.N).map .name else none
      | _ => none)
    | .Tuple es _ _ => if cx.calm = true then (mapO (decTg n cx) es).map .tup else none
    | _ => none
def decIt (mt : MT) (cx : Ctx) (f : Expr → Option CE) (tg : Expr) (it : Expr) : Option (IK × CE × CE) := match it with
  | .Call (.Name g p) es [] pos =>
    if isGl cx.sc g = true ∧ okN g = true then
      if g = "range" then (match es with
        | [a] => (f a).bind fun c => some (.rng1, c, .con .none)
        | [a, b] => (f a).bind fun c => (f b).bind fun d => some (.rng2, c, d)
        | _ => none)
      else if g = "enumerate" then (match tg, es with
        | .Tuple _ _ _, [a] => (f a).bind fun c => some (.enum, c, .con .none)
        | _, _ => none)
      else if g = "zip" then (match tg, es with
        | .Tuple _ _ _, [a, b] => (f a).bind fun c => (f b).bind fun d => some (.zip, c, d)
        | _, _ => none)
      else (f (.Call (.Name g p) es [] pos)).bind fun c => some (.seq, c, .con .none)
    else none
  | it => (f it).bind fun c => some (.seq, c, .con .none)
/-- a dict's name -/
def dctIx (cx : Ctx) (e : Expr) : Option Nat := match e with
  | .Name x _ => if x ∈ cx.ds ∧ isVis cx.sc x = true ∧ okN x = true then ixOf x cx.N else none
  | _ => none
def lenIx (cx : Ctx) (x : Str) (es : List Expr) : Option Nat := match es with
  | [a] => if x = "len" then dctIx cx a else none
  | _ => none
def decCall (mt : MT) (cx : Ctx) (f : Expr → Option CE) (x : Str) (es : List Expr) : Option CE :=
  if isGl cx.sc x = true ∧ okN x = true then
    if x = "isinstance" then (match es with
      | [a, .Name y _] => if isGl cx.sc y = true ∧ okN y = true then (match tyOf y with
          | some t => (f a).bind fun c => some (.isI c t)
          | none => (match a with
            | .Name z _ => if isVis cx.sc z = true ∧ okN z = true then (ixOf z cx.N).bind fun i => (mt.excs.lookup y).bind fun row => some (.isE i (rowL row)) else none
            | _ => none))
        else none
      | _ => none)
    else if (lenIx cx x es).isSome = true then (lenIx cx x es).map .dlen
    else if cx.calm = true then (match fnIx x mt.fns with
      | some (i, n) => if es.length = n then (mapO f es).bind fun cs => some (.call i cs) else none
      | none => (match es with
        | [] => none
        | a :: r => (decBlt x (a :: r).length).bind fun b => (mapO f (a :: r)).bind fun cs => some (.blt b cs)))
    else none
  else none
def mthTab : List Mth := [.ends, .split, .join, .index]
def mthOf (x : Str) : Option Mth := mthTab.find? fun m => decide (m.nm = x)
theorem mthOf_nm {x : Str} {m : Mth} (h : mthOf x = some m) : m.nm = x := by
  have := List.find?_some h
  simpa using this
def notCall : Expr → Bool
  | .Call _ _ _ _ => false
  | _ => true
def decBool (mk : CE → CE → CE) (f : Expr → Option CE) : List Expr → Option CE
  | [] => none
  | [a] => f a
  | a :: b :: r => (f a).bind fun c => (decBool mk f (b :: r)).bind fun d => some (mk c d)
def isNone : CE → Bool
  | .con .none => true
  | _ => false
def decPart (f : Expr → Option CE) : Option Expr → Option CE
  | none => some (.con .none)
  | some e => (f e).bind fun c => if isNone c = true then none else some c
def dec (mt : MT) : Nat → Ctx → Expr → Option CE
  | 0, _, _ => none
  | n + 1, cx, e => match e with
    | .Constant c _ _ => (conD c).map .con
    | .Name x _ => if okN x = true then (if isVis cx.sc x = true then (ixOf x cx.N).map .var else if isGl cx.sc x = true then (mt.cons.lookup x).map .con else none) else none
    | .BinOp a op b _ => (dec mt n cx a).bind fun a' => (dec mt n cx b).bind fun b' => some (.bin op a' b')
    | .UnaryOp .USub a _ => (dec mt n cx a).bind fun a' => some (.neg a')
    | .UnaryOp .Not a _ => (dec mt n cx a).bind fun a' => some (.not a')
    | .BoolOp .And (a :: b :: r) _ => decBool .and (dec mt n cx) (a :: b :: r)
    | .BoolOp .Or (a :: b :: r) _ => decBool .or (dec mt n cx) (a :: b :: r)
    | .Compare a [op] [b] _ => if behindInMarks op b = false then (match dctIx cx b, op with
      | some i, .In => (dec mt n cx a).bind fun a' => some (.dhas false i a')
      | some i, .NotIn => (dec mt n cx a).bind fun a' => some (.dhas true i a')
      | _, _ => (dec mt n cx a).bind fun a' => (dec mt n cx b).bind fun b' => some (.cmp op a' b')) else none
    | .Compare a [op, op'] [b, c] _ => if behindInMarks op' c = false then (dec mt n cx a).bind fun a' => (dec mt n cx b).bind fun b' => (dec mt n cx c).bind fun c' => some (.chain op op' a' b' c') else none
    | .Compare a [op, op', op2] [b, c, d] _ => if behindInMarks op2 d = false then (dec mt n cx a).bind fun a' => (dec mt n cx b).bind fun b' => (dec mt n cx c).bind fun c' => (dec mt n cx d).bind fun d' => some (.chain3 op op' op2 a' b' c' d') else none
    | .Call (.Attribute o x apos) [a] [] cpos => if notCall o = true ∧ (apos.endLine == cpos.line) = true then (mthOf x).bind fun m => (dec mt n cx o).bind fun o' => (dec mt n cx a).bind fun a' => some (.meth m o' [a']) else none
    | .Tuple es _ _ => if es.length ≤ 1000 then (mapO (dec mt n cx) es).bind fun cs => some (.tup cs) else none
    | .Dict [] [] _ => some (.con dicD)
    | .List es _ => if es.length ≤ 1000 then (mapO (dec mt n cx) es).bind fun cs => some (.lst cs) else none
    | .Subscript a (.Slice none none (some st) _) _ => (dec mt n cx a).bind fun a' => (match dec mt n cx st with
      | some (.neg (.con (.int 1))) => some (.rev a')
      | _ => none)
    | .Subscript a (.Slice lo hi none _) _ => (dec mt n cx a).bind fun a' => (decPart (dec mt n cx) lo).bind fun l => (decPart (dec mt n cx) hi).bind fun h => some (.sl a' l h)
    | .Subscript a i _ => match dctIx cx a with
      | some j => (dec mt n cx i).bind fun i' => some (.dget j i')
      | none => (dec mt n cx a).bind fun a' => (dec mt n cx i).bind fun i' => some (.ix a' i')
    | .Call (.Name x _) es [] _ => decCall mt cx (dec mt n cx) x es
    | .ListComp elt [⟨tg, it, ifs, z⟩] scope _ =>
      if z = 0 ∧ cx.calm = true ∧ blkC cx.N cx.sc scope (ownOf cx.N scope) = true ∧ ifs.length ≤ 1 then
        (decTg n ⟨cx.N, relS scope cx.sc, fun x => scope.names.lookup x == some .cell, cx.calm, false, cx.mu, cx.ds⟩ tg).bind fun t =>
          if (tgS t).all (fun i => decide (i ∈ (ownOf cx.N scope).map (·.2))) = true then
            (decIt mt cx (dec mt n cx) tg it).bind fun k => (mapO (dec mt n ⟨cx.N, relS scope cx.sc, fun x => scope.names.lookup x == some .cell, cx.calm, false, cx.mu, cx.ds⟩) ifs).bind fun cs =>
              (dec mt n ⟨cx.N, relS scope cx.sc, fun x => scope.names.lookup x == some .cell, cx.calm, false, cx.mu, cx.ds⟩ elt).bind fun c => some (.comp c t k.1 k.2.1 k.2.2 cs ((ownOf cx.N scope).map (·.2)))
          else none
      else none
    | _ => none
/-- the module's world -/
structure Glo where
  P : Program
  w : World
  K : Fr
  mg : Str → Option Value
  base : Heap
  mt : MT
  k : Nat
  F : Nat → List D → M R
  cV : Nat → Value
structure GOk (g : Glo) : Prop where
  call : ∀ i x n, g.mt.fns[i]? = some (x, n) → ∃ f fd ps, g.mg x = some (.ref f) ∧ PySem.W.keepIn g.K (.ref f) = true ∧ Binds g.K fd ps [] ∧ FnOk g.P g.w g.K g.mg g.base (L2.CX g.P g.w) g.k f fd ps (spD g.K g.cV (g.F i))
  con : ∀ x d, g.mt.cons.lookup x = some d → ∃ u v, g.mg x = some u ∧ RelV v u ∧ ∀ G, Rep g.K G v d
  blt : ∀ x ∈ bltNames, g.mg x = none
  raise : ∀ c y row, g.mt.excs[c]? = some (y, row) → c < g.mt.own → ∃ Cc, g.mg y = some (.ref Cc) ∧ g.cV c = .ref Cc ∧ PySem.W.excIn g.K Cc He.veBase "ValueError.__new__" = true ∧ PySem.W.keepIn g.K (.ref Cc) = true ∧
    PySem.W.subIn g.K (.ref Cc) (.type "BaseException") = some true ∧ PySem.W.typeIn g.K (.ref Cc) = some (.type "type")
  cls : ∀ y row, g.mt.excs.lookup y = some row → ∃ T vT, (g.mg y = some T ∨ (g.mg y = none ∧ bootBuiltins y = some T)) ∧ RelV vT T ∧ (∀ u, RelV vT u → u = T) ∧ row.length = g.mt.own ∧
    ∀ c b, row[c]? = some b → PySem.W.exmOne g.K (g.cV c) T = some b ∧ ∃ Dd, g.cV c = .ref Dd ∧ ExcC g.K Dd ∧ PySem.W.kitOne g.K (.ref Dd) T = some b
structure XOk (g : Glo) (C : Cfg) (W : WX) (cx : Ctx) (X : Cx) : Prop where
  prog : X.prog = g.P
  w : X.w = g.w
  K : X.K = g.K
  mg : X.mg = g.mg
  base : X.base = g.base
  CK : C.K = g.K
  CV : C.cV = g.cV
  CP : C.P = g.P
  Cw : C.w = g.w
  N : X.N = cx.N
  nd : X.N.Nodup
  sc : X.env.scope = cx.sc
  fn : ∀ x, cx.fn x = true → X.fn x = true
  calm : cx.calm = true → X.calm = true
  kind : X.env.scope.kind = .function
  room : cx.calm = true → Room g.k X.A
  units : X.A.units + 64 < cLine
  tk : cx.calm = true → Takes X W
  po : PassesOwn (model X.prog X.w) X.A X.env X.xe
  xn : cx.calm = true → C.xa = none
  isE : ∀ a c, C.xa = some (a, c) → c < g.mt.own ∧ ∀ Dd, g.cV c = .ref Dd → ExcC g.K Dd → CallR X (.builtin "isinstance") (rIsE X.K Dd a)
  top : cx.top = true → X.stack = X.env :: X.outer ∧ X.env.frame = some X.env.locals
section
variable {g : Glo} {C : Cfg} {W : WX} {cx : Ctx} {X : Cx} {x y : Str}
theorem XOk.hK (h : XOk g C W cx X) : X.K = C.K := h.K.trans h.CK.symm
theorem XOk.hP (h : XOk g C W cx X) : X.prog = C.P := h.prog.trans h.CP.symm
theorem XOk.hw (h : XOk g C W cx X) : X.w = C.w := h.w.trans h.Cw.symm
theorem XOk.vis (h : XOk g C W cx X) (e : isVis cx.sc x = true) : Vis X.env.scope x := by
  rw [h.sc]
  unfold isVis at e
  split at e
  · rename_i q; exact .inl q
  · rename_i q; exact .inr (.inl q)
  · rename_i q; exact .inr (.inr q)
  · cases e
theorem XOk.gl (h : XOk g C W cx X) (e : isGl cx.sc x = true) : Gl X x := by
  show X.env.scope.names.lookup x = some .globalImplicit
  rw [h.sc]
  unfold isGl at e
  split at e
  · assumption
  · cases e
theorem okN_d (e : okN x = true) : (x == ("__debug__" : Str)) = false := by
  unfold okN at e
  simp only [Bool.and_eq_true, Bool.not_eq_true'] at e
  exact e.1.1
theorem okN_c (e : okN x = true) : (x == ("__classdict__" : Str)) = false := by
  unfold okN at e
  simp only [Bool.and_eq_true, Bool.not_eq_true'] at e
  exact e.1.2
theorem okN_n (e : okN x = true) : x ≠ "__name__" := by
  unfold okN at e
  simp only [Bool.and_eq_true, Bool.not_eq_true', decide_eq_false_iff_not] at e
  exact e.2
theorem XOk.ix (h : XOk g C W cx X) {i : Nat} (e : ixOf x cx.N = some i) : X.N[i]? = some x := by rw [h.N]; exact ixOf_get e
theorem XOk.free (h : XOk g C W cx X) (G : GOk g) (e : x ∈ bltNames) : X.mg x = none := by rw [h.mg]; exact G.blt x e
/-- in a comprehension's block -/
theorem XOk.blk (h : XOk g C W cx X) {scope : Scope} {own : List (Str × Nat)} (hc : cx.calm = true) (hb : BlkOk X.N X.env.scope scope own) (s : Shared) (H : Hp) (Cc : Addr) (cl : List (Str × Addr)) (fp : List Addr) :
    XOk g C W0 ⟨cx.N, relS scope cx.sc, fun x => scope.names.lookup x == some .cell, cx.calm, false, cx.mu, cx.ds⟩ (X.blk s H scope (compEnvC scope cl Cc X.env) fp) :=
  ⟨h.prog, h.w, h.K, h.mg, h.base, h.CK, h.CV, h.CP, h.Cw, h.N, h.nd, by rw [← h.sc]; rfl, fun x hx => hx, h.calm, by
    show (relS scope X.env.scope).kind = .function
    exact hb.kind, h.room, h.units, fun _ => takes0, PassesOwn.never, h.xn, fun a c e => (by rw [h.xn hc] at e; cases e), fun z => (by cases z)⟩
theorem decTg_ok : ∀ {n : Nat} {e : Expr} {t : Tg}, XOk g C W cx X → decTg n cx e = some t → SndG C X e t
  | 0, _, _, _, e => by cases e
  | n + 1, e, t, h, q => by
    unfold decTg at q
    split at q
    · rename_i x p
      split at q
      · rename_i k
        cases q1 : ixOf x cx.N with
        | none => rw [q1] at q; cases q
        | some i =>
          rw [q1] at q
          cases q
          exact sndG_name h.nd (h.ix q1) (.inl (by rw [h.sc]; exact k)) (.inr (by rw [h.sc]; exact k))
      · rename_i k
        split at q
        · rename_i f
          cases q1 : ixOf x cx.N with
          | none => rw [q1] at q; cases q
          | some i =>
            rw [q1] at q
            cases q
            exact sndG_name h.nd (h.ix q1) (.inr (by rw [h.sc]; exact k)) (.inl (h.fn x f))
        · cases q
      · cases q
    · rename_i es k p
      split at q
      · rename_i hc
        cases q1 : mapO (decTg n cx) es with
        | none => rw [q1] at q; cases q
        | some ts =>
          rw [q1] at q
          cases q
          exact sndG_tup h.hK (h.calm hc) (mapO_paired (P := fun e t => SndG C X e t) (fun a b hab => decTg_ok h hab) q1)
      · cases q
    · cases q
abbrev Snd' (g : Glo) (C : Cfg) (W : WX) (X : Cx) (e : Expr) (c : CE) : Prop := Snd g.F C W X e c
theorem decIt_ok {f : Expr → Option CE} {tg it : Expr} {k : IK × CE × CE} (G : GOk g) (h : XOk g C W cx X) (hf : ∀ e c, f e = some c → Snd g.F C W X e c) (q : decIt g.mt cx f tg it = some k) : SndI g.F C W X tg it k.1 k.2.1 k.2.2 := by
  unfold decIt at q
  split at q
  · rename_i gn p es pos
    split at q
    · rename_i hg
      obtain ⟨hg1, hg2⟩ := hg
      split at q
      · rename_i e
        subst e
        have hm := h.free G (x := "range") (by decide +kernel)
        split at q
        · obtain ⟨c, h1, q⟩ := Option.bind_eq_some_iff.mp q
          cases q
          exact sndI_rng1 (h.gl hg1) hm (hf _ _ h1)
        · obtain ⟨c, h1, q⟩ := Option.bind_eq_some_iff.mp q
          obtain ⟨d, h2, q⟩ := Option.bind_eq_some_iff.mp q
          cases q
          exact sndI_rng2 (h.gl hg1) hm (hf _ _ h1) (hf _ _ h2)
        · cases q
      · split at q
        · rename_i e
          subst e
          have hm := h.free G (x := "enumerate") (by decide +kernel)
          split at q
          · obtain ⟨c, h1, q⟩ := Option.bind_eq_some_iff.mp q
            cases q
            exact sndI_enum h.hK (h.gl hg1) hm (hf _ _ h1)
          · cases q
        · split at q
          · rename_i e
            subst e
            have hm := h.free G (x := "zip") (by decide +kernel)
            split at q
            · obtain ⟨c, h1, q⟩ := Option.bind_eq_some_iff.mp q
              obtain ⟨d, h2, q⟩ := Option.bind_eq_some_iff.mp q
              cases q
              exact sndI_zip h.hK (h.gl hg1) hm (hf _ _ h1) (hf _ _ h2)
            · cases q
          · obtain ⟨c, h1, q⟩ := Option.bind_eq_some_iff.mp q
            cases q
            exact sndI_seq h.hK (hf _ _ h1)
    · cases q
  · obtain ⟨c, h1, q⟩ := Option.bind_eq_some_iff.mp q
    cases q
    exact sndI_seq h.hK (hf _ _ h1)
theorem XOk.fnok (h : XOk g C W cx X) {k : Nat} {f : Addr} {fd : FuncData} {ps : List Str} {i : Nat} (q : FnOk g.P g.w g.K g.mg g.base (L2.CX g.P g.w) k f fd ps (spD g.K g.cV (g.F i))) :
    FnOk X.prog X.w X.K X.mg X.base (L2.CX X.prog X.w) k f fd ps (spD C.K C.cV (g.F i)) := by
  rw [h.prog, h.w, h.K, h.mg, h.base, h.CK, h.CV]
  exact q
theorem dctIx_ok {e : Expr} {i : Nat} (q : dctIx cx e = some i) : ∃ x p, e = .Name x p ∧ ixOf x cx.N = some i ∧ isVis cx.sc x = true ∧ okN x = true := by
  unfold dctIx at q
  split at q
  · rename_i x p
    split at q
    · rename_i hh
      exact ⟨x, p, rfl, q, hh.2.1, hh.2.2⟩
    · cases q
  · cases q
theorem decCall_ok {f : Expr → Option CE} {es : List Expr} {c : CE} {p pos : Pos} (G : GOk g) (h : XOk g C W cx X) (hf : ∀ e c, f e = some c → Snd g.F C W X e c) (q : decCall g.mt cx f x es = some c) : Snd g.F C W X (.Call (.Name x p) es [] pos) c ∧ ∀ i, c ≠ .var i := by
  unfold decCall at q
  split at q
  · rename_i hg
    obtain ⟨hg1, hg2⟩ := hg
    split at q
    · rename_i e
      subst e
      have hm := h.free G (x := "isinstance") (by decide +kernel)
      split at q
      · rename_i a y p2
        split at q
        · rename_i hy
          obtain ⟨hy1, hy2⟩ := hy
          split at q
          · rename_i t ht
            obtain ⟨c, h1, q⟩ := Option.bind_eq_some_iff.mp q
            cases q
            have ey : (t.name : Str) = y := by
              have := List.find?_some ht
              simpa using this
            subst ey
            exact ⟨snd_isI h.hK (h.gl hg1) hm (h.gl hy1) (h.free G (ty_mem t)) (ty_boot t) (okN_n hy2) (okN_d hy2) (hf _ _ h1), by simp⟩
          · split at q
            · rename_i z p3
              split at q
              · rename_i hz
                obtain ⟨hz1, hz2⟩ := hz
                obtain ⟨i, h1, q⟩ := Option.bind_eq_some_iff.mp q
                obtain ⟨row, h2, q⟩ := Option.bind_eq_some_iff.mp q
                cases q
                obtain ⟨T, vT, t1, t2, t3, t4, t5⟩ := G.cls y row h2
                have pt : PE X (.Name y p2) (tC vT) := by
                  rcases t1 with t1 | ⟨t1, t1'⟩
                  · exact pe_glob (h.gl hy1) (by rw [h.mg]; exact t1) t2 (okN_d hy2)
                  · exact pe_bltn (h.gl hy1) (by rw [h.mg]; exact t1) t1' t2 (okN_n hy2) (okN_d hy2)
                refine ⟨snd_isE (row := row) h.hK (h.gl hg1) hm pt (h.ix h1) (h.vis hz1) (okN_d hz2) (okN_c hz2) (fun a c hx => ?_) _ (fun a c hx => rowL_has row c), by simp⟩
                obtain ⟨hl, hcall⟩ := h.isE a c hx
                have hc : row[c]? = some (row.getD c false) := by
                  have hl' : c < row.length := by rw [t4]; exact hl
                  rw [List.getElem?_eq_getElem hl', List.getD_eq_getElem?_getD, List.getElem?_eq_getElem hl']
                  rfl
                obtain ⟨_, Dd, d1, d2, d3⟩ := t5 c _ hc
                refine CallR.by fun xs H Q ⟨e1, q⟩ => ⟨_, hcall Dd d1 d2, ?_⟩
                exact ⟨vT, T, _, e1, t3, by rw [h.K]; exact d3, q⟩
              · cases q
            · cases q
        · cases q
      · cases q
    · split at q
      · cases hi : lenIx cx x es with
        | none => rw [hi] at q; cases q
        | some i =>
          rw [hi] at q
          cases q
          unfold lenIx at hi
          split at hi
          · split at hi
            · rename_i e
              subst e
              obtain ⟨y, p2, rfl, d1, d2, d3⟩ := dctIx_ok hi
              exact ⟨snd_dlen h.hP h.hw h.hK h.units (h.gl hg1) (h.free G (by decide +kernel)) (h.ix d1) (h.vis d2) (okN_d d3) (okN_c d3), by simp⟩
            · cases hi
          · cases hi
      split at q
      · rename_i hc
        split at q
        · rename_i i n hfn
          split at q
          · obtain ⟨cs, h1, q⟩ := Option.bind_eq_some_iff.mp q
            cases q
            obtain ⟨fa, fd, ps, g1, g2, g3, g4⟩ := G.call i x n (fnIx_get hfn)
            exact ⟨snd_call h.hK (h.fnok g4) (h.room hc) (h.gl hg1) (by rw [h.mg]; exact g1) (by rw [h.K]; exact g2) (by rw [h.K]; exact g3) (h.tk hc) (okN_d hg2) (mapO_paired (P := fun e c => Snd g.F C W X e c) hf h1), by simp⟩
          · cases q
        · split at q
          · cases q
          · rename_i a r
            obtain ⟨b, h1, q⟩ := Option.bind_eq_some_iff.mp q
            obtain ⟨cs, h2, q⟩ := Option.bind_eq_some_iff.mp q
            cases q
            have eb : b.nm = x := by
              have := List.find?_some h1
              simp only [Bool.and_eq_true, decide_eq_true_eq] at this
              exact this.1
            subst eb
            exact ⟨snd_blt h.hK (h.calm hc) h.units (h.gl hg1) (h.free G (nm_mem b)) (blt_boot b) (okN_n hg2) (okN_d hg2) (mapO_paired (P := fun e c => Snd g.F C W X e c) hf h2), by simp⟩
      · cases q
  · cases q
theorem decBool_ok {op : BoolOp} {mk : CE → CE → CE} {f : Expr → Option CE} {pos : Pos} (hf : ∀ e c, f e = some c → Snd g.F C W X e c)
    (step : ∀ a b r ca cb, Snd g.F C W X a ca → SndW g.F C W X (.BoolOp op (b :: r) pos) cb → SndW g.F C W X (.BoolOp op (a :: b :: r) pos) (mk ca cb)) :
    ∀ {vs : List Expr} {c : CE}, decBool mk f vs = some c → SndW g.F C W X (.BoolOp op vs pos) c
  | [], _, q => by cases q
  | [a], c, q => (hf a c q).one
  | a :: b :: r, c, q => by
    simp only [decBool] at q
    obtain ⟨ca, h1, q⟩ := Option.bind_eq_some_iff.mp q
    obtain ⟨cb, h2, q⟩ := Option.bind_eq_some_iff.mp q
    cases q
    exact step a b r ca cb (hf a ca h1) (decBool_ok hf step h2)
theorem decBool_nv {mk : CE → CE → CE} {f : Expr → Option CE} {a b : Expr} {r : List Expr} {c : CE} (hm : ∀ x y i, mk x y ≠ .var i) (q : decBool mk f (a :: b :: r) = some c) : ∀ i, c ≠ .var i := by
  simp only [decBool] at q
  obtain ⟨ca, h1, q⟩ := Option.bind_eq_some_iff.mp q
  obtain ⟨cb, h2, q⟩ := Option.bind_eq_some_iff.mp q
  cases q
  exact hm _ _
theorem decPart_ok {f : Expr → Option CE} {o : Option Expr} {c : CE} (hf : ∀ e c, f e = some c → Snd g.F C W X e c) (q : decPart f o = some c) : PO X o (T C W okO fun ρ => partC c (ev g.F c ρ).toD) := by
  cases o with
  | none => cases q; exact po_non
  | some e =>
    simp only [decPart] at q
    obtain ⟨c', h1, q⟩ := Option.bind_eq_some_iff.mp q
    split at q
    · cases q
    · rename_i hn
      cases q
      exact po_som (hf _ _ h1) fun z => by subst z; exact hn rfl
theorem comp_parts {n : Nat} {elt tg it : Expr} {ifs : List Expr} {scope : Scope} {z : Int} {pos : Pos} {c : CE} (G : GOk g) (h : XOk g C W cx X) (ih : ∀ {C W cx X e c}, XOk g C W cx X → dec g.mt n cx e = some c → Snd g.F C W X e c)
    (q : dec g.mt (n + 1) cx (.ListComp elt [⟨tg, it, ifs, z⟩] scope pos) = some c) :
    ∃ ce t k ca cb cs, z = 0 ∧ c = .comp ce t k ca cb cs ((ownOf cx.N scope).map (·.2)) ∧ CompParts g.F C W X elt tg it ifs scope (ownOf cx.N scope) ce t k ca cb cs := by
  simp only [dec] at q
  split at q
  · rename_i hh
    obtain ⟨h1, h2, h3, h4⟩ := hh
    obtain ⟨t, q1, q⟩ := Option.bind_eq_some_iff.mp q
    split at q
    · rename_i ht
      obtain ⟨k, q2, q⟩ := Option.bind_eq_some_iff.mp q
      obtain ⟨cs, q3, q⟩ := Option.bind_eq_some_iff.mp q
      obtain ⟨ce, q4, q⟩ := Option.bind_eq_some_iff.mp q
      cases q
      have hb : BlkOk X.N X.env.scope scope (ownOf cx.N scope) := by
        rw [h.N, h.sc]
        exact blkOk_by h3
      refine ⟨ce, t, _, _, _, cs, h1, rfl, h.calm h2, h.nd, decIt_ok G h (fun e c he => ih h he) q2, hb, fun i hi => ?_, fun s H Cc cl fp => decTg_ok (h.blk h2 hb s H Cc cl fp) q1, h4,
        fun s H Cc cl fp => mapO_paired (P := fun e c => Snd g.F C W0 (X.blk s H scope (compEnvC scope cl Cc X.env) fp) e c) (fun a b hab => ih (h.blk h2 hb s H Cc cl fp) hab) q3, fun s H Cc cl fp => ih (h.blk h2 hb s H Cc cl fp) q4⟩
      have := List.all_eq_true.mp ht i hi
      simpa using this
    · cases q
  · cases q
theorem noCall_of {o : Expr} (h : notCall o = true) : NoCall o := by
  cases o <;> first | trivial | cases h
theorem dec_ok (G : GOk g) : ∀ {n : Nat} {C : Cfg} {W : WX} {cx : Ctx} {X : Cx} {e : Expr} {c : CE}, XOk g C W cx X → dec g.mt n cx e = some c → Snd g.F C W X e c
  | 0, _, _, _, _, _, _, _, q => by cases q
  | n + 1, C, W, cx, X, e, c, h, q => by
    have ih : ∀ {C W cx X e c}, XOk g C W cx X → dec g.mt n cx e = some c → Snd g.F C W X e c := fun h q => dec_ok G h q
    unfold dec at q
    split at q
    · -- a constant
      rename_i k j p
      cases k <;> first
        | (cases q; done)
        | (cases q; exact snd_con h.hK pe_int (fun G => .int _) (fun _ => rfl) trivial fun _ _ => rfl)
        | (cases q; exact snd_con h.hK pe_str (fun G => .str _) (fun _ => rfl) trivial fun _ _ => rfl)
        | (cases q; exact snd_con h.hK pe_bl (fun G => .bl _) (fun _ => rfl) trivial fun _ _ => rfl)
        | (cases q; exact snd_con h.hK pe_non (fun G => .non) (fun _ => rfl) trivial fun _ _ => rfl)
    · -- a name
      rename_i x p
      split at q
      · rename_i hx
        split at q
        · rename_i hv
          cases q1 : ixOf x cx.N with
          | none => rw [q1] at q; cases q
          | some i =>
            rw [q1] at q
            cases q
            exact snd_var h.hK (h.ix q1) (h.vis hv) (okN_d hx) (okN_c hx)
        · split at q
          · rename_i hg
            cases q1 : g.mt.cons.lookup x with
            | none => rw [q1] at q; cases q
            | some d =>
              rw [q1] at q
              cases q
              obtain ⟨u, v, c1, c2, c3⟩ := G.con x d q1
              exact snd_con h.hK (pe_glob (h.gl hg) (by rw [h.mg]; exact c1) c2 (okN_d hx)) (by rw [h.CK]; exact c3) (fun _ => rfl) trivial fun _ _ => rfl
          · cases q
      · cases q
    · obtain ⟨a', h1, q⟩ := Option.bind_eq_some_iff.mp q
      obtain ⟨b', h2, q⟩ := Option.bind_eq_some_iff.mp q
      cases q
      exact snd_bin h.hK (ih h h1) (ih h h2)
    · obtain ⟨a', h1, q⟩ := Option.bind_eq_some_iff.mp q
      cases q
      exact snd_neg h.hK (ih h h1)
    · obtain ⟨a', h1, q⟩ := Option.bind_eq_some_iff.mp q
      cases q
      exact snd_not h.hK (ih h h1)
    · exact (decBool_ok (fun e c he => ih h he) (fun a b r ca cb ha hb => snd_and h.hK ha hb) q).snd (decBool_nv (by simp) q)
    · exact (decBool_ok (fun e c he => ih h he) (fun a b r ca cb ha hb => snd_or h.hK ha hb) q).snd (decBool_nv (by simp) q)
    · split at q
      · rename_i hm
        split at q
        · rename_i i hi
          obtain ⟨a', h1, q⟩ := Option.bind_eq_some_iff.mp q
          cases q
          obtain ⟨x, p, rfl, d1, d2, d3⟩ := dctIx_ok hi
          exact snd_dhas rfl h.hP h.hw h.hK h.units hm (h.ix d1) (h.vis d2) (okN_d d3) (okN_c d3) (ih h h1)
        · rename_i i hi
          obtain ⟨a', h1, q⟩ := Option.bind_eq_some_iff.mp q
          cases q
          obtain ⟨x, p, rfl, d1, d2, d3⟩ := dctIx_ok hi
          exact snd_dhas rfl h.hP h.hw h.hK h.units hm (h.ix d1) (h.vis d2) (okN_d d3) (okN_c d3) (ih h h1)
        · obtain ⟨a', h1, q⟩ := Option.bind_eq_some_iff.mp q
          obtain ⟨b', h2, q⟩ := Option.bind_eq_some_iff.mp q
          cases q
          exact snd_cmp h.hK h.units hm (ih h h1) (ih h h2)
      · cases q
    · split at q
      · rename_i hm
        obtain ⟨a', h1, q⟩ := Option.bind_eq_some_iff.mp q
        obtain ⟨b', h2, q⟩ := Option.bind_eq_some_iff.mp q
        obtain ⟨c', h3, q⟩ := Option.bind_eq_some_iff.mp q
        cases q
        exact snd_chain h.hK h.units hm (ih h h1) (ih h h2) (ih h h3)
      · cases q
    · split at q
      · rename_i hm
        obtain ⟨a', h1, q⟩ := Option.bind_eq_some_iff.mp q
        obtain ⟨b', h2, q⟩ := Option.bind_eq_some_iff.mp q
        obtain ⟨c', h3, q⟩ := Option.bind_eq_some_iff.mp q
        obtain ⟨d', h4, q⟩ := Option.bind_eq_some_iff.mp q
        cases q
        exact snd_chain3 h.hK h.units hm (ih h h1) (ih h h2) (ih h h3) (ih h h4)
      · cases q
    · split at q
      · rename_i hh
        obtain ⟨m, h1, q⟩ := Option.bind_eq_some_iff.mp q
        obtain ⟨o', h2, q⟩ := Option.bind_eq_some_iff.mp q
        obtain ⟨a', h3, q⟩ := Option.bind_eq_some_iff.mp q
        cases q
        have em := mthOf_nm h1
        subst em
        exact snd_meth h.hK (noCall_of hh.1) hh.2 (ih h h2) (.cons (ih h h3) .nil)
      · cases q
    · split at q
      · rename_i hl
        obtain ⟨cs, h1, q⟩ := Option.bind_eq_some_iff.mp q
        cases q
        exact snd_tup h.hK (mapO_paired (P := fun e c => Snd g.F C W X e c) (fun e c he => ih h he) h1) (by rw [← mapO_len h1]; exact hl)
      · cases q
    · cases q
      exact snd_emp h.hK
    · split at q
      · rename_i hl
        obtain ⟨cs, h1, q⟩ := Option.bind_eq_some_iff.mp q
        cases q
        exact snd_lst h.hK (mapO_paired (P := fun e c => Snd g.F C W X e c) (fun e c he => ih h he) h1) (by rw [← mapO_len h1]; exact hl)
      · cases q
    · obtain ⟨a', h1, q⟩ := Option.bind_eq_some_iff.mp q
      split at q
      · rename_i h2
        cases q
        exact snd_rev h.hK (ih h h1) (ih h h2)
      · cases q
    · obtain ⟨a', h1, q⟩ := Option.bind_eq_some_iff.mp q
      obtain ⟨l, h2, q⟩ := Option.bind_eq_some_iff.mp q
      obtain ⟨hh, h3, q⟩ := Option.bind_eq_some_iff.mp q
      cases q
      exact snd_sl h.hK (ih h h1) (decPart_ok (fun e c he => ih h he) h2) (decPart_ok (fun e c he => ih h he) h3)
    · rename_i a i p hns0 hns
      split at q
      · rename_i j hj
        obtain ⟨i', h2, q⟩ := Option.bind_eq_some_iff.mp q
        cases q
        obtain ⟨x, p, rfl, d1, d2, d3⟩ := dctIx_ok hj
        refine snd_dget h.hP h.hw h.hK h.units (h.ix d1) (h.vis d2) (okN_d d3) (okN_c d3) ?_ (ih h h2)
        cases i with
        | Slice lo hi st p2 => cases n <;> simp [dec] at h2
        | _ => trivial
      · obtain ⟨a', h1, q⟩ := Option.bind_eq_some_iff.mp q
        obtain ⟨i', h2, q⟩ := Option.bind_eq_some_iff.mp q
        cases q
        refine snd_ix h.hK ?_ (ih h h1) (ih h h2)
        cases i with
        | Slice lo hi st p2 => cases n <;> simp [dec] at h2
        | _ => trivial
    · exact (decCall_ok G h (fun e c he => ih h he) q).1
    · rename_i elt tg it ifs z scope p
      obtain ⟨ce, t, k, ca, cb, cs, hz, e, parts⟩ := comp_parts (n := n) (pos := p) G h ih (by simp only [dec]; exact q)
      subst hz e
      exact snd_comp h.hK parts
    · cases q
end
end PF

end

section
/-! PF11: from the text's statements to the core language; defs. -/
namespace PF
open PySem PySem.Spec PyProof.Rows L2
/-! ### which names' lists are changed; which of them a value would keep -/
mutual
def escV : CE → List Nat
  | .var i => [i]
  | .con _ => []
  | .bin _ a b => escP a ++ escP b
  | .neg a => escP a
  | .cmp _ a b => escP a ++ escP b
  | .chain _ _ a b c => escP a ++ escP b ++ escP c
  | .chain3 _ _ _ a b c d => escP a ++ escP b ++ escP c ++ escP d
  | .meth _ a es => escP a ++ escVs es
  | .and a b => escV a ++ escV b
  | .or a b => escV a ++ escV b
  | .not a => escP a
  | .tup es => escVs es
  | .lst es => escVs es
  | .ix a i => escP a ++ escV i
  | .sl a l h => escP a ++ escV l ++ escV h
  | .call _ es => escVs es
  | .blt _ es => escPs es
  | .isI a _ => escP a
  | .isE _ _ => []
  | .comp e _ _ a b ifs _ => escV a ++ escV b ++ escV e ++ escPs ifs
  | .dhas _ _ e => escV e
  | .dget _ e => escV e
  | .dlen _ => []
  | .rev a => escP a
def escP : CE → List Nat
  | .var _ => []
  | .con _ => []
  | .bin _ a b => escP a ++ escP b
  | .neg a => escP a
  | .cmp _ a b => escP a ++ escP b
  | .chain _ _ a b c => escP a ++ escP b ++ escP c
  | .chain3 _ _ _ a b c d => escP a ++ escP b ++ escP c ++ escP d
  | .meth _ a es => escP a ++ escVs es
  | .and a b => escV a ++ escV b
  | .or a b => escV a ++ escV b
  | .not a => escP a
  | .tup es => escVs es
  | .lst es => escVs es
  | .ix a i => escP a ++ escV i
  | .sl a l h => escP a ++ escV l ++ escV h
  | .call _ es => escVs es
  | .blt _ es => escPs es
  | .isI a _ => escP a
  | .isE _ _ => []
  | .comp e _ _ a b ifs _ => escV a ++ escV b ++ escV e ++ escPs ifs
  | .dhas _ _ e => escV e
  | .dget _ e => escV e
  | .dlen _ => []
  | .rev a => escP a
def escVs : List CE → List Nat
  | [] => []
  | e :: es => escV e ++ escVs es
def escPs : List CE → List Nat
  | [] => []
  | e :: es => escP e ++ escPs es
end
def frzW (cx : Ctx) (is : List Nat) (s : CS) : CS := match is.filter fun i => decide (i ∈ cx.mu) with
  | [] => s
  | js => .frz js s
theorem frzW_ok {F : Nat → List D → M R} {C : Cfg} {W : WX} {X : Cx} {s : Stmt} {cs : CS} {cx : Ctx} {is : List Nat} (h : SndS F C W X s cs) : SndS F C W X s (frzW cx is cs) := by
  unfold frzW
  split
  · exact h
  · exact sndS_frz _ h
def mutsS : Nat → List Stmt → List Str
  | 0, _ => []
  | _, [] => []
  | n + 1, s :: ss => (match s with
    | .Expr (.Call (.Attribute (.Name x _) m _) _ _ _) _ => if m = "append" then [x] else []
    | .Assign [.Subscript (.Name x _) _ _] _ _ => [x]
    | .If _ a b _ => mutsS n a ++ mutsS n b
    | .While _ a _ _ => mutsS n a
    | .For _ _ a _ _ => mutsS n a
    | .Try a _ _ _ _ => mutsS n a
    | _ => []) ++ mutsS n ss
/-! ### statements -/
def isComp : Expr → Bool
  | .ListComp _ _ _ _ => true
  | .SetComp _ _ _ _ => true
  | .DictComp _ _ _ _ _ => true
  | _ => false
theorem noComp {e : Expr} (h : isComp e = false) : NoComp e := by cases e <;> first | trivial | cases h
def isTupE : Expr → Bool
  | .Tuple _ _ _ => true
  | _ => false
theorem noTup {e : Expr} (h : isTupE e = false) : NoTup e := by cases e <;> first | trivial | cases h
def isSl : Expr → Bool
  | .Slice _ _ _ _ => true
  | _ => false
theorem plainE {e : Expr} (h : isSl e = false) : PlainE e := by cases e <;> first | trivial | cases h
/-- a name that may be stored -/
def stIx (cx : Ctx) (x : Str) : Option Nat := match cx.sc.names.lookup x with
  | some .local => ixOf x cx.N
  | some .cell => if cx.fn x = true then ixOf x cx.N else none
  | _ => none
def isLoc (cx : Ctx) (x : Str) : Bool := match cx.sc.names.lookup x with
  | some .local => true
  | _ => false
def excIx (y : Str) : List (Str × List Bool) → Option Nat
  | [] => none
  | (x, _) :: r => if x = y then some 0 else (excIx y r).map (· + 1)
theorem excIx_get {y : Str} : ∀ {l : List (Str × List Bool)} {c : Nat}, excIx y l = some c → ∃ row, l[c]? = some (y, row)
  | [], _, h => by cases h
  | (x, row) :: r, c, h => by
    unfold excIx at h
    split at h
    · rename_i e
      cases h
      exact ⟨row, by rw [e]; rfl⟩
    · cases q : excIx y r with
      | none => rw [q] at h; cases h
      | some j =>
        rw [q] at h
        cases h
        obtain ⟨row', h'⟩ := excIx_get q
        exact ⟨row', by rw [List.getElem?_cons_succ]; exact h'⟩
mutual
/-- what isn't read says nothing -/
def decS (mt : MT) : Nat → Ctx → Stmt → Option CS
  | 0, _, _ => none
  | n + 1, cx, s => match decR mt n cx s with
    | some c => some c
    | none => some .bad
def decR (mt : MT) : Nat → Ctx → Stmt → Option CS
  | 0, _, _ => none
  | n + 1, cx, s => match s with
    | .Assign [.Name x px] (.Dict [] [] dp) pos => if x ∈ cx.ds then (stIx cx x).bind fun i => some (.dnew i) else none
    | .Assign [.Name x px] (.ListComp elt gs scope cp) pos =>
      (dec mt n cx (.ListComp elt gs scope cp)).bind fun c => (stIx cx x).bind fun i => some (frzW cx (escV c) (.asg i (decide (i ∈ cx.mu)) c))
    | .Assign [.Name x px] e pos => if isComp e = false then (dec mt n cx e).bind fun c => (stIx cx x).bind fun i => some (frzW cx (escV c) (.asg i (decide (i ∈ cx.mu)) c)) else none
    | .Assign [.Tuple [.Name x px, .Name y py] kt pt] (.Tuple [a, b] k2 pt2) pos =>
      if cx.calm = true ∧ isLoc cx x = true ∧ isLoc cx y = true ∧ (py.line == px.line) = true ∧ x ≠ y ∧ [a, b].all (foldedForSure 8) = false ∧ [a, b].all (constantsAlone 8) = false then
        (dec mt n cx a).bind fun ca => (dec mt n cx b).bind fun cb => (ixOf x cx.N).bind fun i => (ixOf y cx.N).bind fun j => if i ≠ j then some (frzW cx (escV ca ++ escV cb) (.par i j ca cb)) else none
      else none
    | .Assign [.Tuple es k tp] e pos => if isComp e = false ∧ isTupE e = false then (dec mt n cx e).bind fun c => (decTg n cx (.Tuple es k tp)).bind fun t => some (frzW cx (escV c) (.asgT t c)) else none
    | .Assign [.Subscript (.Name x px) it sp] e pos =>
      if isComp e = false ∧ isSl it = false ∧ isVis cx.sc x = true ∧ okN x = true then
        (dec mt n cx e).bind fun c => (dec mt n cx it).bind fun ci => (ixOf x cx.N).bind fun i => some (frzW cx (escV c ++ escV ci) (if x ∈ cx.ds then .dput i ci c else .setix i ci c))
      else none
    | .AugAssign (.Name x px) .Add e pos => (dec mt n cx e).bind fun c => (stIx cx x).bind fun i => some (frzW cx (escV c) (.aug i c))
    | .Expr (.Constant (.str y) j p2) pos => some .pass
    | .Expr (.Call (.Attribute (.Name x px) m ap) [e] [] cp) pos =>
      if m = "append" ∧ (ap.endLine == cp.line) = true ∧ isVis cx.sc x = true ∧ okN x = true then (dec mt n cx e).bind fun c => (ixOf x cx.N).bind fun i => some (frzW cx (escV c) (.app i c)) else none
    | .Expr e pos => if isComp e = false then (dec mt n cx e).bind fun c => some (frzW cx (escV c) (.expr c)) else none
    | .Return none pos => some .retN
    | .Return (some (.Name x px)) pos => (dec mt n cx (.Name x px)).bind fun c => (match c with
      | .var i => if isVis cx.sc x = true ∧ okN x = true then (ixOf x cx.N).bind fun i => some (.retv i) else none
      | c => some (.ret c))
    | .Return (some e) pos => (dec mt n cx e).bind fun c => some (frzW cx (escV c) (.ret c))
    | .If c a b pos => (dec mt n cx c).bind fun cc => (decB mt n cx a).bind fun ca => (decB mt n cx b).bind fun cb => some (frzW cx (escP cc) (.ite cc ca cb))
    | .While c a [] pos => (dec mt n cx c).bind fun cc => (decB mt n cx a).bind fun ca => some (frzW cx (escP cc) (.whl cc ca))
    | .For tg it a [] pos => if cx.calm = true then (decTg n cx tg).bind fun t => (decIt mt cx (dec mt n cx) tg it).bind fun k => (decB mt n cx a).bind fun ca => some (frzW cx (escV k.2.1 ++ escV k.2.2) (.for t k.1 k.2.1 k.2.2 ca)) else none
    | .Pass pos => some .pass
    | .Break pos => some .brk
    | .Continue pos => some .cnt
    | .Raise (some (.Call (.Name y p) [.Constant (.str m) j p2] [] p3)) none pos =>
      if cx.calm = true ∧ isGl cx.sc y = true ∧ okN y = true then (excIx y mt.excs).bind fun c => if c < mt.own then some (.raise c) else none else none
    | .Try body [.ExceptHandler (some (.Name x np)) nm (b0 :: suite) p2] [] [] pos =>
      if cx.calm = true ∧ cx.top = true ∧ isGl cx.sc x = true ∧ okN x = true then
        (mt.excs.lookup x).bind fun row => (decB mt n cx body).bind fun cb => (decB mt n ⟨cx.N, cx.sc, cx.fn, false, false, cx.mu, cx.ds⟩ (b0 :: suite)).bind fun cs => (match nm with
          | none => some (.try cb row none cs)
          | some y => if isLoc cx y = true then (ixOf y cx.N).bind fun i => some (.try cb row (some i) cs) else none)
      else none
    | _ => none
def decB (mt : MT) : Nat → Ctx → List Stmt → Option (List CS)
  | 0, _, _ => none
  | _ + 1, _, [] => some []
  | n + 1, cx, s :: ss => (decS mt n cx s).bind fun c => (decB mt n cx ss).bind fun cs => some (c :: cs)
end
section
variable {g : Glo} {C : Cfg} {W : WX} {cx : Ctx} {X : Cx} {x y : Str}
theorem XOk.st (h : XOk g C W cx X) {i : Nat} (q : stIx cx x = some i) : X.N[i]? = some x ∧ Loc X.env.scope x ∧ (X.fn x = true ∨ X.env.scope.names.lookup x = some .local) := by
  unfold stIx at q
  split at q
  · rename_i k
    exact ⟨h.ix q, .inl (by rw [h.sc]; exact k), .inr (by rw [h.sc]; exact k)⟩
  · rename_i k
    split at q
    · rename_i f
      exact ⟨h.ix q, .inr (by rw [h.sc]; exact k), .inl (h.fn x f)⟩
    · cases q
  · cases q
theorem XOk.loc (h : XOk g C W cx X) (q : isLoc cx x = true) : X.env.scope.names.lookup x = some .local := by
  rw [h.sc]
  unfold isLoc at q
  split at q
  · assumption
  · cases q
theorem comp_form {mt : MT} {n : Nat} {elt : Expr} {gs : List Comprehension} {scope : Scope} {cp : Pos} {c : CE} (q : dec mt (n + 1) cx (.ListComp elt gs scope cp) = some c) : ∃ tg it ifs z, gs = [⟨tg, it, ifs, z⟩] := by
  cases gs with
  | nil => simp [dec] at q
  | cons a r =>
    cases r with
    | nil => obtain ⟨tg, it, ifs, z⟩ := a; exact ⟨tg, it, ifs, z, rfl⟩
    | cons b r => simp [dec] at q
theorem swaps_val {elt : Expr} {gs : List Comprehension} {scope : Scope} {cp px : Pos} {l : Nat} {env : PySem.Env} : ∃ b, swapsWith (.ListComp elt gs scope cp) (some (.Name x px)) l env = pure b ∧ (b = true → env.scope.names.lookup x = some .local) := by
  refine ⟨env.blockKind == .function && env.kindOf x == some .local && px.line == cp.line && !(scope.names.any fun (n, k) => n == x && (k == .local || k == .cell)), rfl, fun h => ?_⟩
  simp only [Bool.and_eq_true, beq_iff_eq] at h
  exact h.1.1.2
/-- in an except suite -/
theorem XOk.suite (G : GOk g) (h : XOk g C W cx X) {a : Addr} {oe : Obj} {c : Nat} (pn : List (Addr × Obj)) (hc : c < g.mt.own) (hz : Zc (C.cV c) none oe) (hf : ∃ vs, oe.data = .fields vs) :
    XOk g { C with xa := some (a, c) } W0 ⟨cx.N, cx.sc, cx.fn, false, false, cx.mu, cx.ds⟩ (X.suite a ((a, oe) :: pn)) :=
  ⟨h.prog, h.w, h.K, h.mg, h.base, h.CK, h.CV, h.CP, h.Cw, h.N, h.nd, h.sc, h.fn, fun z => (by cases z), h.kind, fun z => (by cases z), h.units, fun z => (by cases z), PassesOwn.never, fun z => (by cases z),
    fun a' c' e => by
      cases e
      refine ⟨hc, fun Dd hd hE => ?_⟩
      rw [h.CV, hd] at hz
      exact call_isE (X := X) (by rw [h.K]; exact hE) hz hf,
    fun z => (by cases z)⟩
theorem XOk.tr (h : XOk g C W cx X) (hc : cx.calm = true) {W' : WX} {pn : List (Addr × Obj)} {xe : Value → Shared → Prop} (t : Takes (X.tr pn xe) W') (p : PassesOwn (model X.prog X.w) X.A X.env xe) : XOk g C W' cx (X.tr pn xe) :=
  ⟨h.prog, h.w, h.K, h.mg, h.base, h.CK, h.CV, h.CP, h.Cw, h.N, h.nd, h.sc, h.fn, h.calm, h.kind, h.room, h.units, fun _ => t, p, h.xn, fun a c e => (by rw [h.xn hc] at e; cases e), h.top⟩
theorem XOk.names (G : GOk g) (h : XOk g C W cx X) {row : List Bool} (hg : isGl cx.sc x = true) (hn : okN x = true) (q : g.mt.excs.lookup x = some row) :
    ∃ T, Names X x T ∧ row.length = g.mt.own ∧ ∀ c b, row[c]? = some b → PySem.W.exmOne X.K (C.cV c) T = some b := by
  obtain ⟨T, vT, t1, t2, t3, t4, t5⟩ := G.cls x row q
  refine ⟨T, ⟨h.gl hg, okN_d hn, ?_⟩, t4, fun c b hb => ?_⟩
  · rw [h.mg]
    rcases t1 with t1 | ⟨t1, t1'⟩
    · exact .inl t1
    · exact .inr ⟨t1, t1', okN_n hn⟩
  · rw [h.K, h.CV]
    exact (t5 c b hb).1
mutual
theorem decS_ok (G : GOk g) : ∀ {n : Nat} {C : Cfg} {W : WX} {cx : Ctx} {X : Cx} {s : Stmt} {c : CS}, XOk g C W cx X → decS g.mt n cx s = some c → SndS g.F C W X s c
  | 0, _, _, _, _, _, _, _, q => by simp [decS] at q
  | n + 1, C, W, cx, X, s, c, h, q => by
    unfold decS at q
    split at q
    · rename_i c' hc
      cases q
      exact decR_ok G h hc
    · cases q
      exact sndS_bad
theorem decR_ok (G : GOk g) : ∀ {n : Nat} {C : Cfg} {W : WX} {cx : Ctx} {X : Cx} {s : Stmt} {c : CS}, XOk g C W cx X → decR g.mt n cx s = some c → SndS g.F C W X s c
  | 0, _, _, _, _, _, _, _, q => by simp [decR] at q
  | n + 1, C, W, cx, X, s, c, h, q => by
    have ihe : ∀ {C W cx X e c}, XOk g C W cx X → dec g.mt n cx e = some c → Snd g.F C W X e c := fun h q => dec_ok G h q
    have ihb : ∀ {C W cx X ss cs}, XOk g C W cx X → decB g.mt n cx ss = some cs → SndB g.F C W X ss cs := fun h q => decB_ok G h q
    unfold decR at q
    split at q
    · -- name = {}
      split at q
      · rename_i hx
        obtain ⟨i, h2, q⟩ := Option.bind_eq_some_iff.mp q
        cases q
        obtain ⟨s1, s2, s3⟩ := h.st h2
        exact sndS_dnew h.hP h.hw h.nd s1 s2 s3
      · cases q
    · -- name = [..]
      rename_i x px elt gs scope cp pos
      obtain ⟨c, h1, q⟩ := Option.bind_eq_some_iff.mp q
      obtain ⟨i, h2, q⟩ := Option.bind_eq_some_iff.mp q
      cases q
      obtain ⟨s1, s2, s3⟩ := h.st h2
      refine frzW_ok ?_
      cases n with
      | zero => simp [dec] at h1
      | succ n =>
        obtain ⟨tg, it, ifs, z, rfl⟩ := comp_form h1
        obtain ⟨ce, t, k, ca, cb, cs, hz, e, parts⟩ := comp_parts (n := n) (pos := cp) G h (fun h q => dec_ok G h q) h1
        subst hz e
        obtain ⟨b, b1, b2⟩ := swaps_val (elt := elt) (gs := [⟨tg, it, ifs, 0⟩]) (scope := scope) (cp := cp) (px := px) (x := x) (l := pos.line) (env := X.env)
        cases b with
        | true => exact sndS_comp parts s1 (b2 rfl) b1
        | false => exact sndS_comp0 parts s1 s2 s3 b1
    · -- name = e
      split at q
      · rename_i hn
        obtain ⟨c, h1, q⟩ := Option.bind_eq_some_iff.mp q
        obtain ⟨i, h2, q⟩ := Option.bind_eq_some_iff.mp q
        cases q
        obtain ⟨s1, s2, s3⟩ := h.st h2
        exact frzW_ok (sndS_asg h.nd s1 s2 s3 (noComp hn) (ihe h h1))
      · cases q
    · -- a, b = x, y
      split at q
      · rename_i hh
        obtain ⟨h1, h2, h3, h4, h5, h6, h7⟩ := hh
        obtain ⟨ca, q1, q⟩ := Option.bind_eq_some_iff.mp q
        obtain ⟨cb, q2, q⟩ := Option.bind_eq_some_iff.mp q
        obtain ⟨i, q3, q⟩ := Option.bind_eq_some_iff.mp q
        obtain ⟨j, q4, q⟩ := Option.bind_eq_some_iff.mp q
        split at q
        · rename_i hij
          cases q
          exact frzW_ok (sndS_par (h.calm h1) h.nd (h.ix q3) (h.ix q4) hij (h.loc h2) (h.loc h3) h.kind h4 h5 h6 h7 (ihe h q1) (ihe h q2))
        · cases q
      · cases q
    · -- (..) = e
      split at q
      · rename_i hh
        obtain ⟨h1, h2⟩ := hh
        obtain ⟨c, q1, q⟩ := Option.bind_eq_some_iff.mp q
        obtain ⟨t, q2, q⟩ := Option.bind_eq_some_iff.mp q
        cases q
        exact frzW_ok (sndS_asgT (decTg_ok h q2) (noComp h1) (noTup h2) (ihe h q1))
      · cases q
    · -- x[i] = e
      split at q
      · rename_i hh
        obtain ⟨h1, h3, h4, h5⟩ := hh
        obtain ⟨c, q1, q⟩ := Option.bind_eq_some_iff.mp q
        obtain ⟨ci, q2, q⟩ := Option.bind_eq_some_iff.mp q
        obtain ⟨i, q3, q⟩ := Option.bind_eq_some_iff.mp q
        cases q
        refine frzW_ok ?_
        split
        · exact sndS_dput h.hP h.hw h.hK h.units (h.ix q3) (h.vis h4) (okN_d h5) (okN_c h5) (noComp h1) (plainE h3) (ihe h q2) (ihe h q1)
        · exact sndS_setix (h.ix q3) (h.vis h4) (okN_d h5) (okN_c h5) (noComp h1) (plainE h3) (ihe h q2) (ihe h q1)
      · cases q
    · -- x += e
      obtain ⟨c, q1, q⟩ := Option.bind_eq_some_iff.mp q
      obtain ⟨i, q2, q⟩ := Option.bind_eq_some_iff.mp q
      cases q
      obtain ⟨s1, s2, s3⟩ := h.st q2
      exact frzW_ok (sndS_aug h.nd s1 s2 s3 (ihe h q1))
    · cases q
      exact sndS_doc
    · -- x.append(e)
      split at q
      · rename_i hh
        obtain ⟨h1, h2, h3, h4⟩ := hh
        subst h1
        obtain ⟨c, q1, q⟩ := Option.bind_eq_some_iff.mp q
        obtain ⟨i, q2, q⟩ := Option.bind_eq_some_iff.mp q
        cases q
        exact frzW_ok (sndS_app h.hK (h.ix q2) (h.vis h3) (okN_d h4) (okN_c h4) h2 (ihe h q1))
      · cases q
    · -- e
      split at q
      · rename_i hn
        obtain ⟨c, q1, q⟩ := Option.bind_eq_some_iff.mp q
        cases q
        exact frzW_ok (sndS_expr (noComp hn) (ihe h q1))
      · cases q
    · cases q
      exact sndS_retN
    · -- return x
      rename_i x px pos
      obtain ⟨c, q1, q⟩ := Option.bind_eq_some_iff.mp q
      split at q
      · split at q
        · rename_i hh
          obtain ⟨h1, h2⟩ := hh
          obtain ⟨i, q2, q⟩ := Option.bind_eq_some_iff.mp q
          cases q
          exact sndS_retv (h.ix q2) (h.vis h1) (okN_d h2) (okN_c h2)
        · cases q
      · cases q
        exact sndS_ret (ihe h q1)
    · obtain ⟨c, q1, q⟩ := Option.bind_eq_some_iff.mp q
      cases q
      exact frzW_ok (sndS_ret (ihe h q1))
    · obtain ⟨cc, q1, q⟩ := Option.bind_eq_some_iff.mp q
      obtain ⟨ca, q2, q⟩ := Option.bind_eq_some_iff.mp q
      obtain ⟨cb, q3, q⟩ := Option.bind_eq_some_iff.mp q
      cases q
      exact frzW_ok (sndS_ite (ihe h q1) (ihb h q2) (ihb h q3))
    · obtain ⟨cc, q1, q⟩ := Option.bind_eq_some_iff.mp q
      obtain ⟨ca, q2, q⟩ := Option.bind_eq_some_iff.mp q
      cases q
      exact frzW_ok (sndS_whl h.po (ihe h q1) (ihb h q2))
    · split at q
      · rename_i hc
        obtain ⟨t, q1, q⟩ := Option.bind_eq_some_iff.mp q
        obtain ⟨k, q2, q⟩ := Option.bind_eq_some_iff.mp q
        obtain ⟨ca, q3, q⟩ := Option.bind_eq_some_iff.mp q
        cases q
        exact frzW_ok (sndS_for h.po (h.calm hc) (decIt_ok G h (fun e c he => ihe h he) q2) (decTg_ok h q1) (ihb h q3))
      · cases q
    · cases q; exact sndS_pass
    · cases q; exact sndS_brk
    · cases q; exact sndS_cnt
    · -- raise
      split at q
      · rename_i hh
        obtain ⟨h1, h2, h3⟩ := hh
        obtain ⟨c, q1, q⟩ := Option.bind_eq_some_iff.mp q
        split at q
        · rename_i hl
          cases q
          obtain ⟨row, hr⟩ := excIx_get q1
          obtain ⟨Cc, r1, r2, r3, r4, r5, r6⟩ := G.raise c _ row hr hl
          exact sndS_raise (h.calm h1) (h.tk h1) PySem.F.excBase_ValueError (by rw [h.K]; exact r3) (by rw [h.mg]; exact r1) (by rw [h.K]; exact r4) (raises_own (by rw [h.K]; exact r5) (by rw [h.K]; exact r6)) (h.gl h2) (okN_d h3) (by rw [h.CV]; exact r2)
        · cases q
      · cases q
    · -- try
      split at q
      · rename_i hh
        obtain ⟨h1, h2, h3, h4⟩ := hh
        obtain ⟨row, q1, q⟩ := Option.bind_eq_some_iff.mp q
        obtain ⟨cb, q2, q⟩ := Option.bind_eq_some_iff.mp q
        obtain ⟨cs, q3, q⟩ := Option.bind_eq_some_iff.mp q
        obtain ⟨T, n1, n2, n3⟩ := h.names G h3 h4 q1
        obtain ⟨t1, t2⟩ := h.top h2
        split at q
        · cases q
          exact sndS_try t1 t2 n1 (h.tk h1) (h.xn h1) n3 (fun W' pn xe t p => ihb (h.tr h1 t p) q2) (fun a oe c pn hl hz hf => ihb (h.suite G pn (by rw [← n2]; exact hl) hz hf) q3)
        · split at q
          · rename_i y hy
            obtain ⟨i, q4, q⟩ := Option.bind_eq_some_iff.mp q
            cases q
            exact sndS_tryAs t1 t2 h.nd (h.ix q4) (h.loc hy) n1 (h.tk h1) (h.xn h1) n3 (fun W' pn xe t p => ihb (h.tr h1 t p) q2) (fun a oe c pn hl hz hf => ihb (h.suite G pn (by rw [← n2]; exact hl) hz hf) q3)
          · cases q
      · cases q
    · cases q
theorem decB_ok (G : GOk g) : ∀ {n : Nat} {C : Cfg} {W : WX} {cx : Ctx} {X : Cx} {s : List Stmt} {c : List CS}, XOk g C W cx X → decB g.mt n cx s = some c → SndB g.F C W X s c
  | 0, _, _, _, _, _, _, _, q => by simp [decB] at q
  | n + 1, C, W, cx, X, [], c, h, q => by
    simp only [decB] at q
    cases q
    exact sndB_nil
  | n + 1, C, W, cx, X, s :: ss, c, h, q => by
    simp only [decB] at q
    obtain ⟨cs, q1, q⟩ := Option.bind_eq_some_iff.mp q
    obtain ⟨css, q2, q⟩ := Option.bind_eq_some_iff.mp q
    cases q
    exact sndB_cons (decS_ok G h q1) (decB_ok G h q2)
end
end
end PF

end

section
/-! PF12: defs; the module; the end. -/
namespace PF
open PySem PySem.Spec PyProof.Rows L2
/-- a def in the core language -/
structure FnC where
  name : Str
  ar : Nat
  sz : Nat
  body : List CS
def startE (sz : Nat) (ds : List D) : PF.Env := ds.map Sl.val ++ List.replicate (sz - ds.length) .no
def Ctl.fin : Ctl → M R
  | .nx _ => .ok (.d .none)
  | .rt r => .ok r
  | .ex c _ => .ex c
  | _ => .no
/-- the i-th def on data; k: how deep it may call -/
noncomputable def runF (tab : List FnC) : Nat → Nat → List D → M R
  | 0, _, _ => .no
  | k + 1, i, ds => match tab[i]? with
    | none => .no
    | some f => if ds.length = f.ar then (exB (runF tab k) f.body (startE f.sz ds)).fin else .no
theorem start_st {P : Program} {w : World} {K : Fr} {cV : Nat → Value} {G H : Hp} {vs : List V} {ds : List D} {N : List Str} (s : Same G H) (r : RepA K G vs ds) :
    St { P := P, w := w, K := K, cV := cV, G0 := G, H0 := H, xa := none } (L2.start N vs) (startE N.length ds) G H := by
  have len := r.length
  refine ⟨?_, Ext.refl s, fun i o sl h1 h2 => ?_, fun i j s t a hij h1 h2 h3 h4 h5 h6 => ?_⟩
  · simp only [L2.start, startE, List.length_append, List.length_map, List.length_replicate]
    omega
  · unfold L2.start at h1
    unfold startE at h2
    by_cases hi : i < vs.length
    · have hi2 : i < ds.length := by omega
      rw [List.getElem?_append_left (by simpa using hi), List.getElem?_map] at h1
      rw [List.getElem?_append_left (by simpa using hi2), List.getElem?_map] at h2
      cases q : vs[i]? with
      | none => rw [q] at h1; cases h1
      | some v =>
        obtain ⟨d, q2, rp⟩ := r.get q
        rw [q] at h1
        rw [q2] at h2
        cases h1
        cases h2
        exact .val rp
    · rw [List.getElem?_append_right (by simp; omega)] at h2
      rw [List.getElem?_replicate] at h2
      split at h2
      · cases h2; exact .no _
      · cases h2
  · have no : ∀ {i : Nat} {s : Sl}, (startE N.length ds)[i]? = some s → s.isOwn = true → False := fun {i s} e f => by
      have m := List.mem_of_getElem? e
      unfold startE at m
      rcases List.mem_append.mp m with m | m
      · obtain ⟨d, _, rfl⟩ := List.mem_map.mp m; cases f
      · rw [List.eq_of_mem_replicate m] at f; cases f
    exact no h1 h3
/-- where a def stands in the text -/
structure FnT where
  st : Stmt
  N : List Str
  ps : List Str
  mu : List Nat
  ds : List Str
abbrev FnT.cx (t : FnT) : Ctx := ⟨t.N, defScope t.st, fun _ => true, true, true, t.mu, t.ds⟩
structure ModT (P : Program) (w : World) (K : Fr) (mg : Str → Option Value) (mt : MT) (tab : List FnC) (fts : List FnT) (cV : Nat → Value) : Prop where
  con : ∀ (x : Str) (d : D), mt.cons.lookup x = some d → ∃ u v, mg x = some u ∧ RelV v u ∧ ∀ G, Rep K G v d
  blt : ∀ x ∈ bltNames, mg x = none
  raise : ∀ (c : Nat) (y : Str) (row : List Bool), mt.excs[c]? = some (y, row) → c < mt.own → ∃ Cc, mg y = some (.ref Cc) ∧ cV c = .ref Cc ∧ PySem.W.excIn K Cc He.veBase "ValueError.__new__" = true ∧ PySem.W.keepIn K (.ref Cc) = true ∧
    PySem.W.subIn K (.ref Cc) (.type "BaseException") = some true ∧ PySem.W.typeIn K (.ref Cc) = some (.type "type")
  cls : ∀ (y : Str) (row : List Bool), mt.excs.lookup y = some row → ∃ T vT, (mg y = some T ∨ (mg y = none ∧ bootBuiltins y = some T)) ∧ RelV vT T ∧ (∀ u, RelV vT u → u = T) ∧ row.length = mt.own ∧
    ∀ c b, row[c]? = some b → PySem.W.exmOne K (cV c) T = some b ∧ ∃ Dd, cV c = .ref Dd ∧ ExcC K Dd ∧ PySem.W.kitOne K (.ref Dd) T = some b
  fns : mt.fns = tab.map fun f => (f.name, f.ar)
  fn : ∀ (i : Nat) (fc : FnC), tab[i]? = some fc → ∃ (ft : FnT) (f : Addr) (fd : FuncData), fts[i]? = some ft ∧ mg fc.name = some (.ref f) ∧ Fun K fc.name fc.name ft.st f fd ∧ Binds K fd ft.ps [] ∧ FnScope ft.N ft.ps (defScope ft.st) ∧ ft.ps.length = fc.ar ∧ ft.N.length = fc.sz ∧
    ∃ fuel, decB mt fuel ft.cx (defBody ft.st) = some fc.body
section
variable {P : Program} {w : World} {K : Fr} {mg : Str → Option Value} {base : Heap} {mt : MT} {tab : List FnC} {fts : List FnT} {cV : Nat → Value}
noncomputable abbrev glo (P : Program) (w : World) (K : Fr) (mg : Str → Option Value) (base : Heap) (mt : MT) (tab : List FnC) (cV : Nat → Value) (k : Nat) : Glo :=
  { P := P, w := w, K := K, mg := mg, base := base, mt := mt, k := k, F := runF tab k, cV := cV }
theorem fn_level (h : ModT P w K mg mt tab fts cV) {k : Nat} (G : GOk (glo P w K mg base mt tab cV k)) {i : Nat} {fc : FnC} {ft : FnT} {f : Addr} {fd : FuncData} (hi : tab[i]? = some fc) (F : Fun K fc.name fc.name ft.st f fd) (S : FnScope ft.N ft.ps (defScope ft.st))
    (ha : ft.ps.length = fc.ar) (hz : ft.N.length = fc.sz) {fuel : Nat} (hd : decB mt fuel ft.cx (defBody ft.st) = some fc.body) :
    FnOk P w K mg base (L2.CX P w) (k + 1) f fd ft.ps (spD K cV (runF tab (k + 1) i)) := by
  have eq : ∀ ds : List D, runF tab (k + 1) i ds = if ds.length = fc.ar then (exB (runF tab k) fc.body (startE fc.sz ds)).fin else .no := fun ds => by
    simp only [runF, hi]
  refine F.okX S (fun vs H Q E hs => ?_) (fun cdv A outer s H vs Q E hr hs => ?_)
  · obtain ⟨G, ds, _, r, q⟩ := hs
    rw [eq] at q
    by_cases e : ds.length = fc.ar
    · rw [r.length, e, ha]
    · rw [if_neg e] at q; exact q.elim
  · obtain ⟨G', ds, sm, r, q⟩ := hs
    rw [eq] at q
    by_cases e : ds.length = fc.ar
    · rw [if_pos e] at q
      refine ⟨TSt { P := P, w := w, K := K, cV := cV, G0 := G', H0 := H, xa := none } (fun cls d _ H' => E cls d H') (exB (runF tab k) fc.body), ?_, ?_⟩
      · refine (decB_ok G (C := { P := P, w := w, K := K, cV := cV, G0 := G', H0 := H, xa := none }) (W := fun cls d _ H' => E cls d H') (cx := ft.cx) ?_ hd).run
        refine ⟨rfl, rfl, rfl, rfl, rfl, rfl, rfl, rfl, rfl, rfl, S.nd, rfl, fun _ _ => rfl, fun _ => rfl, S.kind, fun _ => hr, hr.units, fun _ => takes_of rfl rfl rfl rfl, passes_of rfl, fun _ => rfl, fun a c e => (by cases e), fun _ => ⟨rfl, rfl⟩⟩
      · refine ⟨G', startE fc.sz ds, by rw [← hz]; exact start_st sm r, ?_⟩
        cases qb : exB (runF tab k) fc.body (startE fc.sz ds) with
        | nx ρ => rw [qb] at q; exact fun σ' G2 H2 s2 st2 => q .non G2 H2 st2.ext .non
        | rt r => rw [qb] at q; exact q
        | ex c ρ => rw [qb] at q; exact fun σ' G2 H2 s2 st2 => q G2 H2 st2.ext
        | bk ρ => rw [qb] at q; exact q.elim
        | ct ρ => rw [qb] at q; exact q.elim
        | no => rw [qb] at q; exact q.elim
    · rw [if_neg e] at q; exact q.elim
theorem fn_all (h : ModT P w K mg mt tab fts cV) : ∀ k, GOk (glo P w K mg base mt tab cV k)
  | 0 => ⟨fun i x n hi => by
      have hi' : (tab.map fun f => (f.name, f.ar))[i]? = some (x, n) := by rw [← h.fns]; exact hi
      rw [List.getElem?_map] at hi'
      cases q : tab[i]? with
      | none => rw [q] at hi'; cases hi'
      | some fc =>
        rw [q] at hi'
        cases hi'
        obtain ⟨ft, f, fd, _, h1, h2, h3, h4, h5, h6, fuel, h7⟩ := h.fn i fc q
        refine ⟨f, fd, ft.ps, h1, h2.kp, h3, ⟨fun vs H Q E hs => ?_, fun A outer s H args us vs Q E _ _ _ _ hs => ?_⟩⟩
        · obtain ⟨_, _, _, _, q⟩ := hs; exact q.elim
        · obtain ⟨_, _, _, _, q⟩ := hs; exact q.elim, h.con, h.blt, h.raise, h.cls⟩
  | k + 1 => ⟨fun i x n hi => by
      have hi' : (tab.map fun f => (f.name, f.ar))[i]? = some (x, n) := by rw [← h.fns]; exact hi
      rw [List.getElem?_map] at hi'
      cases q : tab[i]? with
      | none => rw [q] at hi'; cases hi'
      | some fc =>
        rw [q] at hi'
        cases hi'
        obtain ⟨ft, f, fd, _, h1, h2, h3, h4, h5, h6, fuel, h7⟩ := h.fn i fc q
        exact ⟨f, fd, ft.ps, h1, h2.kp, h3, fn_level h (fn_all h k) q h2 h4 h5 h6 h7⟩, h.con, h.blt, h.raise, h.cls⟩
end
end PF

end

section
/-! PF13: the head's facts for a module of such defs. -/
namespace PF
open PySem PySem.Spec PyProof.Rows L2
def dV : D → V
  | .int i => .int i
  | .str x => .str x
  | .bool b => .bl b
  | _ => .non
def isCon : D → Bool
  | .int _ => true
  | .str _ => true
  | .bool _ => true
  | .none => true
  | _ => false
theorem dV_rep {K : Fr} {G : Hp} {d : D} (h : isCon d = true) : Rep K G (dV d) d := by
  cases d <;> first | exact .int _ | exact .str _ | exact .bl _ | exact .non | cases h
def cVK (mt : MT) (K : Fr) (c : Nat) : Value := match mt.excs[c]? with
  | some p => .ref (He.ga K p.1)
  | none => .none
/-- the class that a name stands for -/
def clsT (K : Fr) (y : Str) : Option Value := match PySem.W.nsIn K mainGlobals y with
  | some (some (.ref a)) => some (.ref a)
  | some none => bootBuiltins y
  | _ => none
def optB (a : Option Bool) : Bool := match a with
  | some true => true
  | _ => false
def eqOB (a b : Option Bool) : Bool := decide (a = b)
def excCB (K : Fr) (Dd : Addr) : Bool :=
  He.eqO (PySem.W.findIn K (.ref Dd) "__getattribute__") (some (some (.builtin "BaseException.__getattribute__"))) && (He.eqO (PySem.W.findIn K (.ref Dd) "__getattr__") (some none) && (decide (PySem.W.subIn K (.ref Dd) (.type "BaseException") = some true) &&
    (PySem.W.hasDictIn K Dd && (He.eqO (PySem.W.findIn K (.ref Dd) "__class__") (some (some (.builtin "object.__class__"))) && (He.eqO (PySem.W.specialIn K (.builtin "object.__class__") "__get__") (some (some (.builtin "getset_descriptor.__get__"))) &&
      (decide (PySem.W.takesIn K (.builtin "object.__class__") = some true) && decide (PySem.W.mroIn K Dd (.type "object") = some true)))))))
theorem excCB_ok {K : Fr} {Dd : Addr} (h : excCB K Dd = true) : ExcC K Dd := by
  obtain ⟨h1, h⟩ := He.ba h
  obtain ⟨h2, h⟩ := He.ba h
  obtain ⟨h3, h⟩ := He.ba h
  obtain ⟨h4, h⟩ := He.ba h
  obtain ⟨h5, h⟩ := He.ba h
  obtain ⟨h6, h⟩ := He.ba h
  obtain ⟨h7, h8⟩ := He.ba h
  exact ⟨He.eqO_ok h1, He.eqO_ok h2, of_decide_eq_true h3, h4, He.eqO_ok h5, He.eqO_ok h6, of_decide_eq_true h7, of_decide_eq_true h8⟩
def ownB (mt : MT) (K : Fr) (c : Nat) : Bool := match mt.excs[c]? with
  | some p => (He.Fa.exc p.1).ok K && ((He.Fa.glo p.1).ok K && excCB K (He.ga K p.1))
  | none => false
def clsB (mt : MT) (K : Fr) (p : Str × List Bool) : Bool := match clsT K p.1 with
  | some T => (match T with
    | .ref _ => true
    | .type _ => true
    | _ => false) && (decide (p.2.length = mt.own) && ((List.range mt.own).all fun c => eqOB (PySem.W.exmOne K (cVK mt K c) T) p.2[c]? && eqOB (PySem.W.kitOne K (cVK mt K c) T) p.2[c]?))
  | none => false
def conB (K : Fr) (p : Str × D) : Bool := isCon p.2 && (match PySem.W.nsIn K mainGlobals p.1 with
  | some (some u) => He.relB (dV p.2) u
  | _ => false)
/-- all that a module's world must say -/
def modB (mt : MT) (tab : List FnC) (K : Fr) : Bool :=
  (bltNames.all fun x => He.eqO (PySem.W.nsIn K mainGlobals x) (some none)) && ((mt.cons.all fun p => conB K p) && (((List.range mt.own).all fun c => ownB mt K c) && ((mt.excs.all fun p => clsB mt K p) && (tab.all fun f => (He.Fa.glo f.name).ok K))))
/-- what stands of the text alone -/
structure Stat (mt : MT) (fc : FnC) (ft : FnT) : Prop where
  scope : FnScope ft.N ft.ps (defScope ft.st)
  ar : ft.ps.length = fc.ar
  sz : ft.N.length = fc.sz
  dec : ∃ fuel, decB mt fuel ft.cx (defBody ft.st) = some fc.body
  bind : ∀ (kV doc pm : Value) (an : Option Addr) (cdv ct : Value) (us : List Value), us.length = ft.ps.length → bindArgs (PySem.W.fnOf fc.name fc.name (defArgs ft.st) (defBody ft.st) (defScope ft.st) .none kV doc pm an cdv ct) ⟨us, []⟩ = pure (ft.ps.zip us)
def dOf (fc : FnC) (ft : FnT) : He.DefD := ⟨(fc.name, none), fc.name, fc.name, defArgs ft.st, defBody ft.st, defScope ft.st, [], []⟩
def SaysM (mt : MT) (tab : List FnC) (fn : List He.DefD) (K : Fr) : Prop := (modB mt tab K && fn.all fun d => d.ok K, fn.map fun d => He.fnW K d.at_) = (true, fn.map He.DefD.val)
theorem lookup_mem {α : Type} {l : List (Str × α)} {x : Str} {d : α} (h : l.lookup x = some d) : (x, d) ∈ l := by
  induction l with
  | nil => cases h
  | cons p r ih =>
    obtain ⟨y, e⟩ := p
    rw [List.lookup_cons] at h
    cases q : x == y with
    | true =>
      rw [q] at h
      cases h
      have : x = y := by simpa using q
      rw [this]; exact List.mem_cons_self
    | false => rw [q] at h; exact List.mem_cons_of_mem _ (ih h)
theorem funD_fun {K : Fr} {x : Str} {st : Stmt} {f : Addr} {fd : FuncData} (F : FunD K x x (defArgs st) (defBody st) (defScope st) [] [] f fd) : Fun K x x st f fd := by
  obtain ⟨oc, od, dV, kV, doc, pm, an, cdv, ct, osl, e, l, c, hd, _⟩ := F.ex
  have : dV = .none := by
    rcases hd with ⟨_, h⟩ | ⟨h, _⟩
    · exact h
    · exact absurd rfl h
  subst this
  exact ⟨⟨oc, od, kV, doc, pm, an, cdv, ct, osl, e, l, c⟩, F.kp⟩
theorem paired_at {α β : Type} {R : α → β → Prop} : ∀ {as : List α} {bs : List β} {i : Nat} {a : α}, Paired R as bs → as[i]? = some a → ∃ b, bs[i]? = some b ∧ R a b
  | _, _, _, _, .nil, h => by simp at h
  | _, _, 0, _, .cons r _, h => by simp at h; subst h; exact ⟨_, rfl, r⟩
  | _, _, i + 1, a, .cons _ t, h => by
    obtain ⟨b, h1, h2⟩ := paired_at (i := i) t (by simpa using h)
    exact ⟨b, by simpa using h1, h2⟩
theorem modT_of {P : Program} {w : World} {K : Fr} {h : Heap} {mg : Str → Option Value} {mt : MT} {tab : List FnC} {fts : List FnT} (X : K.In h) (G : h.Ns mainGlobals mg) (hf : mt.fns = tab.map fun f => (f.name, f.ar)) (st : Paired (Stat mt) tab fts)
    (c : SaysM mt tab (List.zipWith dOf tab fts) K) : ModT P w K mg mt tab fts (cVK mt K) := by
  have c1 : (modB mt tab K && (List.zipWith dOf tab fts).all fun d => d.ok K) = true := congrArg (fun z : Bool × List He.FnW => z.1) c
  have c2 : (List.zipWith dOf tab fts).map (fun d => He.fnW K d.at_) = (List.zipWith dOf tab fts).map He.DefD.val := congrArg (fun z : Bool × List He.FnW => z.2) c
  obtain ⟨cm, cd⟩ := He.ba c1
  obtain ⟨m1, cm⟩ := He.ba cm
  obtain ⟨m2, cm⟩ := He.ba cm
  obtain ⟨m3, cm⟩ := He.ba cm
  obtain ⟨m4, m5⟩ := He.ba cm
  have own : ∀ c y row, mt.excs[c]? = some (y, row) → c < mt.own → (He.Fa.exc y).ok K = true ∧ mg y = some (.ref (He.ga K y)) ∧ cVK mt K c = .ref (He.ga K y) ∧ ExcC K (He.ga K y) := fun c y row hc hl => by
    have q := List.all_eq_true.mp m3 c (List.mem_range.mpr hl)
    unfold ownB at q
    rw [hc] at q
    obtain ⟨q1, q2⟩ := He.ba q
    obtain ⟨q2, q3⟩ := He.ba q2
    exact ⟨q1, He.glo_ok X G q2, by unfold cVK; rw [hc], excCB_ok q3⟩
  refine ⟨fun x d hx => ?_, fun x hx => ?_, fun c y row hc hl => ?_, fun y row hy => ?_, hf, fun i fc hi => ?_⟩
  · have q := List.all_eq_true.mp m2 _ (lookup_mem hx)
    obtain ⟨q1, q2⟩ := He.ba q
    dsimp only at q1 q2
    cases e : PySem.W.nsIn K mainGlobals x with
    | none => rw [e] at q2; cases q2
    | some o =>
      cases o with
      | none => rw [e] at q2; cases q2
      | some u =>
        rw [e] at q2
        exact ⟨u, dV d, PySem.W.mg_of X G e, He.relB_ok q2, fun _ => dV_rep q1⟩
  · have q := List.all_eq_true.mp m1 x hx
    exact PySem.W.mg_none_of X G (He.eqO_ok q)
  · obtain ⟨q1, q2, q3, q4⟩ := own c y row hc hl
    obtain ⟨e1, e2, e3, e4⟩ := He.exc_ok q1
    exact ⟨_, q2, q3, e1, e2, e3, e4⟩
  · have q := List.all_eq_true.mp m4 _ (lookup_mem hy)
    unfold clsB at q
    dsimp only at q
    cases e : clsT K y with
    | none => rw [e] at q; cases q
    | some T =>
      rw [e] at q
      obtain ⟨q0, q⟩ := He.ba q
      obtain ⟨q1, q2⟩ := He.ba q
      have hT : mg y = some T ∨ (mg y = none ∧ bootBuiltins y = some T) := by
        unfold clsT at e
        split at e
        · rename_i a ha
          cases e
          exact .inl (PySem.W.mg_of X G ha)
        · rename_i ha
          exact .inr ⟨PySem.W.mg_none_of X G ha, e⟩
        · cases e
      have hV : ∃ vT, RelV vT T ∧ ∀ u, RelV vT u → u = T := by
        cases T with
        | ref a => exact ⟨.ref a, rfl, fun u h => h⟩
        | type n => exact ⟨.ty n, rfl, fun u h => h⟩
        | _ => cases q0
      obtain ⟨vT, v1, v2⟩ := hV
      have hlen : row.length = mt.own := of_decide_eq_true q1
      refine ⟨T, vT, hT, v1, v2, hlen, fun c b hb => ?_⟩
      have hl : c < mt.own := by rw [← hlen]; exact (List.getElem?_eq_some_iff.mp hb).1
      have q3 := List.all_eq_true.mp q2 c (List.mem_range.mpr hl)
      obtain ⟨q4, q5⟩ := He.ba q3
      have q4 : PySem.W.exmOne K (cVK mt K c) T = row[c]? := of_decide_eq_true q4
      have q5 : PySem.W.kitOne K (cVK mt K c) T = row[c]? := of_decide_eq_true q5
      have q6 := List.all_eq_true.mp m3 c (List.mem_range.mpr hl)
      unfold ownB at q6
      cases hc : mt.excs[c]? with
      | none => rw [hc] at q6; cases q6
      | some p =>
        obtain ⟨y', row'⟩ := p
        obtain ⟨_, _, w3, w4⟩ := own c y' row' hc hl
        rw [w3] at q5
        exact ⟨q4.trans hb, _, w3, w4, q5.trans hb⟩
  · obtain ⟨ft, hft, S⟩ := paired_at st hi
    have hz : (List.zipWith dOf tab fts)[i]? = some (dOf fc ft) := by rw [List.getElem?_zipWith, hi, hft]
    have e2 : ((List.zipWith dOf tab fts).map fun d => He.fnW K d.at_)[i]? = ((List.zipWith dOf tab fts).map He.DefD.val)[i]? := by rw [c2]
    rw [List.getElem?_map, List.getElem?_map, hz] at e2
    obtain ⟨fd, F⟩ := He.DefD.funD (Option.some.inj e2) (List.all_eq_true.mp cd _ (List.mem_of_getElem? hz))
    have F' := funD_fun (x := fc.name) (st := ft.st) F
    have hg := List.all_eq_true.mp m5 _ (List.mem_of_getElem? hi)
    exact ⟨ft, _, fd, hft, He.glo_ok X G hg, F', F'.binds S.bind, S.scope, S.ar, S.sz, S.dec⟩
/-! ### the hook -/
abbrev AlM : Type := Bool × List He.FnW
def obsM (n : Nat) (mt : MT) (tab : List FnC) (fn : List He.DefD) (g : Addr → Option Obj) : AlM := (modB mt tab (He.frG g (He.asD g n)) && fn.all fun d => d.ok (He.frG g (He.asD g n)), fn.map fun d => He.fnW (He.frG g (He.asD g n)) d.at_)
def hookM (n : Nat) (mt : MT) (tab : List FnC) (fn : List He.DefD) : PySem.W.Hook where
  α := AlM
  obs := fun s => obsM n mt tab fn s.heap.get?
  val := fun _ => (true, fn.map He.DefD.val)
  says := fun _ h => ∃ K : PySem.W.Frag, K.In h ∧ SaysM mt tab fn K
  of := fun _ _ e => ⟨_, He.frG_in, e⟩
  keeps := fun _ _ _ ⟨K, hK, c⟩ k => ⟨K, PySem.W.Frag.In.keeps hK k, c⟩
theorem obsM_eq {n : Nat} {mt : MT} {tab : List FnC} {fn : List He.DefD} {g : Addr → Option Obj} {s : Shared} (h : ∀ a, g a = s.heap.get? a) : obsM n mt tab fn g = (hookM n mt tab fn).obs s := by
  have e : g = s.heap.get? := funext h
  rw [e] <;> rfl
/-- the law's def: what walk_ofE asks -/
theorem law_of {l : PySem.W.OpenLaw} {mt : MT} {tab : List FnC} {fts : List FnT} {k iL : Nat} {x : Str} {fc : FnC} {ft : FnT} (hf : mt.fns = tab.map fun f => (f.name, f.ar)) (st : Paired (Stat mt) tab fts) (hi : tab[iL]? = some fc) (hft : fts[iL]? = some ft) (hps : ft.ps = [x])
    (pure_ : ∀ ns : List Int, ns.length ≤ 63 → runF tab (k + 1) iL [.list (ns.map PyData.int)] = .ok (.d (.bool true)))
    (w : World) (mg : Str → Option Value) (fa : Addr) (h : Heap) (Y : ∃ K : PySem.W.Frag, K.In h ∧ SaysM mt tab (List.zipWith dOf tab fts) K) (G : h.Ns mainGlobals mg) (hmg : mg fc.name = some (.ref fa)) :
    ∃ (K : PySem.W.Frag) (fd : FuncData) (sp : Sp), K.In h ∧ (∀ (s : Shared) (u : Value), BindsTo s fd ⟨[u], []⟩ [(x, u)]) ∧
        (∀ (H : Hp) (a : Addr) (ns : List Int), ns.length ≤ 63 → Only H → SqL K H a (ns.map V.int) → sp [.ref a] H (fun v _ => v = .bl true) fun _ _ _ => False) ∧
        ∀ base : Heap, K.In base → base.Ns mainGlobals mg → FnOk l.prog w K mg base (L2.CX l.prog w) (k + 1) fa fd [x] sp := by
  obtain ⟨K, KX, c⟩ := Y
  have M := modT_of (P := l.prog) (w := w) KX G hf st c
  obtain ⟨ft', f, fd, h0, h1, h2, h3, h4, h5, h6, fuel, h7⟩ := M.fn iL fc hi
  rw [hft] at h0
  cases h0
  rw [hmg] at h1
  cases h1
  refine ⟨K, fd, spD K (cVK mt K) (runF tab (k + 1) iL), KX, fun s u => ?_, fun H a ns hl _ hS => ?_, fun base _ _ => ?_⟩
  · obtain ⟨oc, od, kV, doc, pm, an, cdv, ct, osl, rfl, _⟩ := h2.ex
    obtain ⟨ft2, e2, S⟩ := paired_at st hi
    rw [hft] at e2
    cases e2
    have := S.bind kV doc pm an cdv ct [u] (by rw [hps]; rfl)
    rw [hps] at this
    exact .of_eq this
  · refine ⟨H, [.list (ns.map PyData.int)], Same.refl _, .cons (.lst hS ?_ (RepA.of_ints ns)) .nil, ?_⟩
    · rw [List.length_map, sizeLine_eq]; omega
    · rw [pure_ ns hl]
      intro v G' H' _ o
      cases (show Rep K G' v (.bool true) from o)
      rfl
  · have := fn_level (base := base) M (fn_all M k) hi h2 h4 h5 h6 h7
    rw [hps] at this
    exact this
end PF

end

section
/-! PF14: the whole way from the pure fact to the law's row. -/
namespace PF
open PySem PySem.Spec PyProof.Rows L2
theorem cx_never {P : Program} {w : World} {H : Hp} {s s' : Shared} {e : Value} (h : L2.CX P w [] H s (fun _ _ _ => False) e s') : False := by
  unfold L2.CX at h
  obtain ⟨_, _, _, _, _, h⟩ := h
  exact h.2.2.2.2.2.2.2
theorem walk_ofM {l : PySem.W.OpenLaw} {mt : MT} {tab : List FnC} {fts : List FnT} {k iL n : Nat} {x : Str} {fc : FnC} {ft : FnT} {q : Program} {loose : List Str} {XP : (Str → Option Value) → Heap → Prop} {d : DefRec}
    (most : l.most = some 63) (nodef : d.params.defaults = []) (room : Room (k + 1) callerA) (nm : d.name = fc.name)
    (hf : mt.fns = tab.map fun f => (f.name, f.ar)) (st : Paired (Stat mt) tab fts) (hi : tab[iL]? = some fc) (hft : fts[iL]? = some ft) (hps : ft.ps = [x])
    (pure_ : ∀ ns : List Int, ns.length ≤ 63 → runF tab (k + 1) iL [.list (ns.map PyData.int)] = .ok (.d (.bool true))) :
    PySem.W.WalkO q loose XP (hookM n mt tab (List.zipWith dOf tab fts)).says l.row.toRowW d [] (fun f vs => PySem.call f vs) := by
  refine Att.attach_call most nodef ?_
  intro w s₀ s₁ mg mb fa o pm cd doc a vs ns G Y _ _ _ hm ho hin hle hge
  obtain ⟨K, fd, sp, KX, b, sat, ok⟩ := law_of (l := l) hf st hi hft hps pure_ w mg fa _ Y G.T.g (by first | (rw [← nm]; exact hm) | (rw [nm] at hm; exact hm))
  have T := G.T
  refine law_call KX T.g T.b T.builtins T.nolimit hge ho hin ?_ room ok b ?_ ?_
  · rw [sizeLine_eq]; omega
  · intro H ho2 sq
    exact sat H a ns hle ho2 sq
  · intro H e s' z
    exact cx_never z
end PF

end

section
namespace PF
open PySem PySem.Spec PyProof.Rows L2
abbrev pwBody : List Stmt := PySem.Challenge.pw_steadytanks_k12_walls_looked_at.main.body
def x_TankError : Nat := 0
def x_BadWorks : Nat := 1
def i_is_within : Nat := 0
def i_are_numbers : Nat := 1
def i_is_switch : Nat := 2
def i_is_mode : Nat := 3
def i_is_works : Nat := 4
def i_checked : Nat := 5
def i_entered : Nat := 6
def i_goes_at_once : Nat := 7
def i_joined : Nat := 8
def i_flowed : Nat := 9
def i_grown : Nat := 10
def i_walls : Nat := 11
def i_is_box : Nat := 12
def i_lies_in : Nat := 13
def i_hold : Nat := 14
def i_holds_at : Nat := 15
def i__law_cell : Nat := 16
def i__law_mix : Nat := 17
def i__law_whole : Nat := 18
def i__law_works : Nat := 19
def i__law_saw : Nat := 20
def i__law_drawn : Nat := 21
def i__law_out : Nat := 22
def i__law_lies : Nat := 23
def i__law_box : Nat := 24
def i__law_good : Nat := 25
def i__law_changed : Nat := 26
def i_law : Nat := 27
def mt : MT := ⟨([("is_within", 3), ("are_numbers", 3), ("is_switch", 3), ("is_mode", 3), ("is_works", 1), ("checked", 1), ("entered", 2), ("goes_at_once", 2), ("joined", 2), ("flowed", 2), ("grown", 2), ("walls", 1), ("is_box", 2), ("lies_in", 2), ("hold", 2), ("holds_at", 3), ("_law_cell", 2), ("_law_mix", 3), ("_law_whole", 1), ("_law_works", 2)] : List (Str × Nat)) ++ ([("_law_saw", 2), ("_law_drawn", 2), ("_law_out", 2), ("_law_lies", 2), ("_law_box", 2), ("_law_good", 2), ("_law_changed", 3), ("law", 1)] : List (Str × Nat)), [("MOST_VESSELS", (.int 4)), ("MOST_MODES", (.int 12)), ("MOST_SWITCHES", (.int 6)), ("MOST_BRIM", (.int 999)), ("MOST_RATE", (.int 99))], [("TankError", [true, true]), ("BadWorks", [false, true]), ("ValueError", [true, true])], 2⟩
def f_is_within : FnC := ⟨"is_within", 3, 3, [.ret (.and (.isI (.var 0) .int) (.and (.not (.isI (.var 0) .bool)) (.chain .LtE .LtE (.var 1) (.var 0) (.var 2))))]⟩
abbrev t_is_within : FnT := ⟨pwBody.getD 9 (.Pass ⟨0, 0, 0, 0⟩), ["thing", "low", "high"], ["thing", "low", "high"], [], []⟩
theorem s_is_within : Stat mt f_is_within t_is_within := ⟨⟨rfl, rfl, rfl, by decide +kernel, rfl, by decide +kernel, by decide +kernel⟩, rfl, rfl, ⟨140, by kernel_rfl⟩, fun _ _ _ _ _ _ us hl => match us, hl with | [_, _, _], _ => rfl⟩
def f_are_numbers : FnC := ⟨"are_numbers", 3, 4, [.ret (.and (.isI (.var 0) .tuple) (.not (.comp (.var 3) (.name 3) .seq (.var 0) (.con .none) [(.not (.call i_is_within [(.var 3), (.var 1), (.var 2)]))] [3])))]⟩
abbrev t_are_numbers : FnT := ⟨pwBody.getD 10 (.Pass ⟨0, 0, 0, 0⟩), ["thing", "low", "high", "one"], ["thing", "low", "high"], [], []⟩
theorem s_are_numbers : Stat mt f_are_numbers t_are_numbers := ⟨⟨rfl, rfl, rfl, by decide +kernel, rfl, by decide +kernel, by decide +kernel⟩, rfl, rfl, ⟨140, by kernel_rfl⟩, fun _ _ _ _ _ _ us hl => match us, hl with | [_, _, _], _ => rfl⟩
def f_is_switch : FnC := ⟨"is_switch", 3, 3, [.ite (.or (.not (.isI (.var 0) .tuple)) (.or (.cmp .NotEq (.blt .len [(.var 0)]) (.con (.int 4))) (.not (.call i_is_within [(.ix (.var 0) (.con (.int 0))), (.con (.int 0)), (.bin .Sub (.blt .len [(.var 1)]) (.con (.int 1)))])))) [.ret (.con (.bool false))] [], .ite (.or (.not (.isI (.ix (.var 0) (.con (.int 1))) .str)) (.cmp .NotIn (.ix (.var 0) (.con (.int 1))) (.tup [(.con (.str "up")), (.con (.str "down"))]))) [.ret (.con (.bool false))] [], .ret (.and (.call i_is_within [(.ix (.var 0) (.con (.int 2))), (.con (.int 0)), (.ix (.var 1) (.ix (.var 0) (.con (.int 0))))]) (.call i_is_within [(.ix (.var 0) (.con (.int 3))), (.con (.int 0)), (.bin .Sub (.var 2) (.con (.int 1)))]))]⟩
abbrev t_is_switch : FnT := ⟨pwBody.getD 11 (.Pass ⟨0, 0, 0, 0⟩), ["thing", "brims", "many"], ["thing", "brims", "many"], [], []⟩
theorem s_is_switch : Stat mt f_is_switch t_is_switch := ⟨⟨rfl, rfl, rfl, by decide +kernel, rfl, by decide +kernel, by decide +kernel⟩, rfl, rfl, ⟨140, by kernel_rfl⟩, fun _ _ _ _ _ _ us hl => match us, hl with | [_, _, _], _ => rfl⟩
def f_is_mode : FnC := ⟨"is_mode", 3, 4, [.ite (.or (.not (.isI (.var 0) .tuple)) (.or (.cmp .NotEq (.blt .len [(.var 0)]) (.con (.int 2))) (.not (.call i_are_numbers [(.ix (.var 0) (.con (.int 0))), (.bin .Sub (.con (.int 0)) (.con (.int 99))), (.con (.int 99))])))) [.ret (.con (.bool false))] [], .ite (.or (.cmp .NotEq (.blt .len [(.ix (.var 0) (.con (.int 0)))]) (.blt .len [(.var 1)])) (.or (.not (.isI (.ix (.var 0) (.con (.int 1))) .tuple)) (.cmp .Gt (.blt .len [(.ix (.var 0) (.con (.int 1)))]) (.con (.int 6))))) [.ret (.con (.bool false))] [], .ret (.not (.comp (.var 3) (.name 3) .seq (.ix (.var 0) (.con (.int 1))) (.con .none) [(.not (.call i_is_switch [(.var 3), (.var 1), (.var 2)]))] [3]))]⟩
abbrev t_is_mode : FnT := ⟨pwBody.getD 12 (.Pass ⟨0, 0, 0, 0⟩), ["thing", "brims", "many", "switch"], ["thing", "brims", "many"], [], []⟩
theorem s_is_mode : Stat mt f_is_mode t_is_mode := ⟨⟨rfl, rfl, rfl, by decide +kernel, rfl, by decide +kernel, by decide +kernel⟩, rfl, rfl, ⟨140, by kernel_rfl⟩, fun _ _ _ _ _ _ us hl => match us, hl with | [_, _, _], _ => rfl⟩
def f_is_works : FnC := ⟨"is_works", 1, 6, [.ite (.or (.not (.isI (.var 0) .tuple)) (.or (.cmp .NotEq (.blt .len [(.var 0)]) (.con (.int 3))) (.not (.call i_are_numbers [(.ix (.var 0) (.con (.int 0))), (.con (.int 1)), (.con (.int 999))])))) [.ret (.con (.bool false))] [], .asgT (.tup [(.name 1), (.name 2), (.name 3)]) (.var 0), .ite (.or (.not (.chain .LtE .LtE (.con (.int 1)) (.blt .len [(.var 1)]) (.con (.int 4)))) (.or (.not (.isI (.var 2) .tuple)) (.not (.chain .LtE .LtE (.con (.int 1)) (.blt .len [(.var 2)]) (.con (.int 12)))))) [.ret (.con (.bool false))] [], .ite (.comp (.var 4) (.name 4) .seq (.var 2) (.con .none) [(.not (.call i_is_mode [(.var 4), (.var 1), (.blt .len [(.var 2)])]))] [4]) [.ret (.con (.bool false))] [], .ite (.or (.not (.isI (.var 3) .tuple)) (.or (.cmp .NotEq (.blt .len [(.var 3)]) (.con (.int 2))) (.not (.call i_is_within [(.ix (.var 3) (.con (.int 0))), (.con (.int 0)), (.bin .Sub (.blt .len [(.var 2)]) (.con (.int 1)))])))) [.ret (.con (.bool false))] [], .ite (.or (.not (.call i_are_numbers [(.ix (.var 3) (.con (.int 1))), (.con (.int 0)), (.con (.int 999))])) (.cmp .NotEq (.blt .len [(.ix (.var 3) (.con (.int 1)))]) (.blt .len [(.var 1)]))) [.ret (.con (.bool false))] [], .ret (.not (.comp (.var 5) (.name 5) .rng1 (.blt .len [(.var 1)]) (.con .none) [(.cmp .Gt (.ix (.ix (.var 3) (.con (.int 1))) (.var 5)) (.ix (.var 1) (.var 5)))] [5]))]⟩
abbrev t_is_works : FnT := ⟨pwBody.getD 13 (.Pass ⟨0, 0, 0, 0⟩), ["thing", "brims", "modes", "begin", "mode", "at"], ["thing"], [], []⟩
theorem s_is_works : Stat mt f_is_works t_is_works := ⟨⟨rfl, rfl, rfl, by decide +kernel, rfl, by decide +kernel, by decide +kernel⟩, rfl, rfl, ⟨140, by kernel_rfl⟩, fun _ _ _ _ _ _ us hl => match us, hl with | [_], _ => rfl⟩
def f_checked : FnC := ⟨"checked", 1, 1, [.ite (.not (.call i_is_works [(.var 0)])) [.raise x_BadWorks] [], .retv 0]⟩
abbrev t_checked : FnT := ⟨pwBody.getD 14 (.Pass ⟨0, 0, 0, 0⟩), ["works"], ["works"], [], []⟩
theorem s_checked : Stat mt f_checked t_checked := ⟨⟨rfl, rfl, rfl, by decide +kernel, rfl, by decide +kernel, by decide +kernel⟩, rfl, rfl, ⟨140, by kernel_rfl⟩, fun _ _ _ _ _ _ us hl => match us, hl with | [_], _ => rfl⟩
def f_entered : FnC := ⟨"entered", 2, 8, [.asgT (.tup [(.name 2), (.name 3), (.name 4), (.name 5)]) (.var 1), .asgT (.tup [(.name 6), (.name 7)]) (.ix (.var 0) (.var 2)), .ite (.cmp .Eq (.var 3) (.con (.str "up"))) [.asg 6 false (.blt .max2 [(.var 6), (.var 4)])] [.asg 7 false (.blt .min2 [(.var 7), (.var 4)])], .ite (.cmp .Gt (.var 6) (.var 7)) [.ret (.con .none)] [], .ret (.bin .Add (.bin .Add (.sl (.var 0) (.con .none) (.var 2)) (.tup [(.tup [(.var 6), (.var 7)])])) (.sl (.var 0) (.bin .Add (.var 2) (.con (.int 1))) (.con .none)))]⟩
abbrev t_entered : FnT := ⟨pwBody.getD 16 (.Pass ⟨0, 0, 0, 0⟩), ["box", "switch", "vessel", "way", "mark", "other", "low", "high"], ["box", "switch"], [], []⟩
theorem s_entered : Stat mt f_entered t_entered := ⟨⟨rfl, rfl, rfl, by decide +kernel, rfl, by decide +kernel, by decide +kernel⟩, rfl, rfl, ⟨140, by kernel_rfl⟩, fun _ _ _ _ _ _ us hl => match us, hl with | [_, _], _ => rfl⟩
def b_goes_at_once_1 : List CS := [.asgT (.tup [(.name 6), (.name 7)]) (.ix (.var 1) (.var 2)), .ite (.or (.and (.cmp .Eq (.var 3) (.con (.str "up"))) (.cmp .GtE (.var 6) (.var 4))) (.and (.cmp .Eq (.var 3) (.con (.str "down"))) (.cmp .LtE (.var 7) (.var 4)))) [.ret (.con (.bool true))] []]
def f_goes_at_once : FnC := ⟨"goes_at_once", 2, 8, [.for (.tup [(.name 2), (.name 3), (.name 4), (.name 5)]) .seq (.ix (.var 0) (.con (.int 1))) (.con .none) b_goes_at_once_1, .ret (.con (.bool false))]⟩
abbrev t_goes_at_once : FnT := ⟨pwBody.getD 17 (.Pass ⟨0, 0, 0, 0⟩), ["mode", "box", "vessel", "way", "mark", "other", "low", "high"], ["mode", "box"], [], []⟩
theorem s_goes_at_once : Stat mt f_goes_at_once t_goes_at_once := ⟨⟨rfl, rfl, rfl, by decide +kernel, rfl, by decide +kernel, by decide +kernel⟩, rfl, rfl, ⟨140, by kernel_rfl⟩, fun _ _ _ _ _ _ us hl => match us, hl with | [_, _], _ => rfl⟩
def b_joined_1 : List CS := [.app 2 (.tup [(.blt .min2 [(.ix (.var 3) (.con (.int 0))), (.ix (.var 4) (.con (.int 0)))]), (.blt .max2 [(.ix (.var 3) (.con (.int 1))), (.ix (.var 4) (.con (.int 1)))])])]
def f_joined : FnC := ⟨"joined", 2, 5, [.ite (.cmp .Is (.var 0) (.con .none)) [.retv 1] [], .asg 2 true (.lst []), .for (.tup [(.name 3), (.name 4)]) .zip (.var 0) (.var 1) b_joined_1, .ret (.blt .tuple [(.var 2)])]⟩
abbrev t_joined : FnT := ⟨pwBody.getD 18 (.Pass ⟨0, 0, 0, 0⟩), ["one", "other", "found", "mine", "theirs"], ["one", "other"], [2], []⟩
theorem s_joined : Stat mt f_joined t_joined := ⟨⟨rfl, rfl, rfl, by decide +kernel, rfl, by decide +kernel, by decide +kernel⟩, rfl, rfl, ⟨140, by kernel_rfl⟩, fun _ _ _ _ _ _ us hl => match us, hl with | [_, _], _ => rfl⟩
def b_flowed_1 : List CS := [.asgT (.tup [(.name 5), (.name 6)]) (.ix (.var 1) (.var 3)), .asg 7 false (.comp (.var 10) (.tup [(.name 8), (.name 9), (.name 10), (.name 11)]) .seq (.ix (.var 0) (.con (.int 1))) (.con .none) [(.and (.cmp .Eq (.var 8) (.var 3)) (.cmp .Eq (.var 9) (.con (.str "up"))))] [8, 9, 10, 11]), .asg 12 false (.comp (.var 10) (.tup [(.name 8), (.name 9), (.name 10), (.name 11)]) .seq (.ix (.var 0) (.con (.int 1))) (.con .none) [(.and (.cmp .Eq (.var 8) (.var 3)) (.cmp .Eq (.var 9) (.con (.str "down"))))] [8, 9, 10, 11]), .ite (.cmp .Gt (.var 4) (.con (.int 0))) [.ite (.not (.var 7)) [.ret (.con .none)] [], .asg 6 false (.blt .max2 [(.var 6), (.blt .min1 [(.var 7)])])] [], .ite (.cmp .Lt (.var 4) (.con (.int 0))) [.ite (.not (.var 12)) [.ret (.con .none)] [], .asg 5 false (.blt .min2 [(.var 5), (.blt .max1 [(.var 12)])])] [], .setix 2 (.var 3) (.tup [(.var 5), (.var 6)])]
def f_flowed : FnC := ⟨"flowed", 2, 13, [.ite (.call i_goes_at_once [(.var 0), (.var 1)]) [.retv 1] [], .asg 2 true (.blt .list [(.var 1)]), .for (.tup [(.name 3), (.name 4)]) .enum (.ix (.var 0) (.con (.int 0))) (.con .none) b_flowed_1, .ret (.blt .tuple [(.var 2)])]⟩
abbrev t_flowed : FnT := ⟨pwBody.getD 19 (.Pass ⟨0, 0, 0, 0⟩), ["mode", "box", "found", "vessel", "rate", "low", "high", "ups", "place", "way", "mark", "other", "downs"], ["mode", "box"], [2], []⟩
theorem s_flowed : Stat mt f_flowed t_flowed := ⟨⟨rfl, rfl, rfl, by decide +kernel, rfl, by decide +kernel, by decide +kernel⟩, rfl, rfl, ⟨140, by kernel_rfl⟩, fun _ _ _ _ _ _ us hl => match us, hl with | [_, _], _ => rfl⟩
def b_grown_2 : List CS := [.asg 7 false (.call i_entered [(.var 5), (.var 6)]), .ite (.cmp .IsNot (.var 7) (.con .none)) [.setix 2 (.ix (.var 6) (.con (.int 3))) (.call i_joined [(.ix (.var 2) (.ix (.var 6) (.con (.int 3)))), (.var 7)])] []]
def b_grown_1 : List CS := [.ite (.cmp .IsNot (.ix (.var 2) (.var 3)) (.con .none)) [.asg 5 false (.call i_flowed [(.var 4), (.ix (.var 2) (.var 3))]), .ite (.cmp .Is (.var 5) (.con .none)) [.ret (.con .none)] [], .setix 2 (.var 3) (.var 5), .for (.name 6) .seq (.ix (.var 4) (.con (.int 1))) (.con .none) b_grown_2] []]
def f_grown : FnC := ⟨"grown", 2, 8, [.asg 2 true (.blt .list [(.var 1)]), .for (.tup [(.name 3), (.name 4)]) .enum (.ix (.var 0) (.con (.int 1))) (.con .none) b_grown_1, .retv 2]⟩
abbrev t_grown : FnT := ⟨pwBody.getD 20 (.Pass ⟨0, 0, 0, 0⟩), ["works", "boxes", "found", "number", "mode", "box", "switch", "part"], ["works", "boxes"], [2], []⟩
theorem s_grown : Stat mt f_grown t_grown := ⟨⟨rfl, rfl, rfl, by decide +kernel, rfl, by decide +kernel, by decide +kernel⟩, rfl, rfl, ⟨140, by kernel_rfl⟩, fun _ _ _ _ _ _ us hl => match us, hl with | [_, _], _ => rfl⟩
def b_walls_1 : List CS := [.frz [1] (.asg 4 false (.call i_grown [(.var 0), (.var 1)])), .ite (.or (.cmp .Is (.var 4) (.con .none)) (.cmp .Eq (.var 4) (.var 1))) [.retv 4] [], .asg 1 true (.var 4)]
def f_walls : FnC := ⟨"walls", 1, 5, [.expr (.call i_checked [(.var 0)]), .asg 1 true (.comp (.con .none) (.name 2) .seq (.ix (.var 0) (.con (.int 1))) (.con .none) [] [2]), .setix 1 (.ix (.ix (.var 0) (.con (.int 2))) (.con (.int 0))) (.blt .tuple [(.comp (.tup [(.var 3), (.var 3)]) (.name 3) .seq (.ix (.ix (.var 0) (.con (.int 2))) (.con (.int 1))) (.con .none) [] [3])]), .whl (.con (.bool true)) b_walls_1]⟩
abbrev t_walls : FnT := ⟨pwBody.getD 21 (.Pass ⟨0, 0, 0, 0⟩), ["works", "boxes", "mode", "level", "more"], ["works"], [1], []⟩
theorem s_walls : Stat mt f_walls t_walls := ⟨⟨rfl, rfl, rfl, by decide +kernel, rfl, by decide +kernel, by decide +kernel⟩, rfl, rfl, ⟨140, by kernel_rfl⟩, fun _ _ _ _ _ _ us hl => match us, hl with | [_], _ => rfl⟩
def b_is_box_1 : List CS := [.ite (.or (.not (.isI (.var 2) .tuple)) (.or (.cmp .NotEq (.blt .len [(.var 2)]) (.con (.int 2))) (.not (.call i_is_within [(.ix (.var 2) (.con (.int 0))), (.con (.int 0)), (.var 3)])))) [.ret (.con (.bool false))] [], .ite (.not (.call i_is_within [(.ix (.var 2) (.con (.int 1))), (.ix (.var 2) (.con (.int 0))), (.var 3)])) [.ret (.con (.bool false))] []]
def f_is_box : FnC := ⟨"is_box", 2, 4, [.ite (.or (.not (.isI (.var 1) .tuple)) (.cmp .NotEq (.blt .len [(.var 1)]) (.blt .len [(.ix (.var 0) (.con (.int 0)))]))) [.ret (.con (.bool false))] [], .for (.tup [(.name 2), (.name 3)]) .zip (.var 1) (.ix (.var 0) (.con (.int 0))) b_is_box_1, .ret (.con (.bool true))]⟩
abbrev t_is_box : FnT := ⟨pwBody.getD 22 (.Pass ⟨0, 0, 0, 0⟩), ["works", "thing", "bounds", "brim"], ["works", "thing"], [], []⟩
theorem s_is_box : Stat mt f_is_box t_is_box := ⟨⟨rfl, rfl, rfl, by decide +kernel, rfl, by decide +kernel, by decide +kernel⟩, rfl, rfl, ⟨140, by kernel_rfl⟩, fun _ _ _ _ _ _ us hl => match us, hl with | [_, _], _ => rfl⟩
def b_lies_in_1 : List CS := [.ite (.or (.cmp .Lt (.ix (.var 2) (.con (.int 0))) (.ix (.var 3) (.con (.int 0)))) (.cmp .Gt (.ix (.var 2) (.con (.int 1))) (.ix (.var 3) (.con (.int 1))))) [.ret (.con (.bool false))] []]
def f_lies_in : FnC := ⟨"lies_in", 2, 4, [.for (.tup [(.name 2), (.name 3)]) .zip (.var 0) (.var 1) b_lies_in_1, .ret (.con (.bool true))]⟩
abbrev t_lies_in : FnT := ⟨pwBody.getD 23 (.Pass ⟨0, 0, 0, 0⟩), ["one", "other", "mine", "theirs"], ["one", "other"], [], []⟩
theorem s_lies_in : Stat mt f_lies_in t_lies_in := ⟨⟨rfl, rfl, rfl, by decide +kernel, rfl, by decide +kernel, by decide +kernel⟩, rfl, rfl, ⟨140, by kernel_rfl⟩, fun _ _ _ _ _ _ us hl => match us, hl with | [_, _], _ => rfl⟩
def b_hold_1 : List CS := [.ite (.and (.cmp .IsNot (.ix (.var 1) (.var 5)) (.con .none)) (.not (.call i_holds_at [(.var 6), (.ix (.var 1) (.var 5)), (.var 1)]))) [.ret (.con (.bool false))] []]
def f_hold : FnC := ⟨"hold", 2, 7, [.expr (.call i_checked [(.var 0)]), .ite (.or (.not (.isI (.var 1) .list)) (.cmp .NotEq (.blt .len [(.var 1)]) (.blt .len [(.ix (.var 0) (.con (.int 1)))]))) [.ret (.con (.bool false))] [], .ite (.comp (.var 2) (.name 2) .seq (.var 1) (.con .none) [(.and (.cmp .IsNot (.var 2) (.con .none)) (.not (.call i_is_box [(.var 0), (.var 2)])))] [2]) [.ret (.con (.bool false))] [], .asg 3 false (.blt .tuple [(.comp (.tup [(.var 4), (.var 4)]) (.name 4) .seq (.ix (.ix (.var 0) (.con (.int 2))) (.con (.int 1))) (.con .none) [] [4])]), .ite (.or (.cmp .Is (.ix (.var 1) (.ix (.ix (.var 0) (.con (.int 2))) (.con (.int 0)))) (.con .none)) (.not (.call i_lies_in [(.var 3), (.ix (.var 1) (.ix (.ix (.var 0) (.con (.int 2))) (.con (.int 0))))]))) [.ret (.con (.bool false))] [], .for (.tup [(.name 5), (.name 6)]) .enum (.ix (.var 0) (.con (.int 1))) (.con .none) b_hold_1, .ret (.con (.bool true))]⟩
abbrev t_hold : FnT := ⟨pwBody.getD 24 (.Pass ⟨0, 0, 0, 0⟩), ["works", "thing", "box", "first", "level", "number", "mode"], ["works", "thing"], [], []⟩
theorem s_hold : Stat mt f_hold t_hold := ⟨⟨rfl, rfl, rfl, by decide +kernel, rfl, by decide +kernel, by decide +kernel⟩, rfl, rfl, ⟨140, by kernel_rfl⟩, fun _ _ _ _ _ _ us hl => match us, hl with | [_, _], _ => rfl⟩
def b_holds_at_1 : List CS := [.asg 5 false (.call i_entered [(.var 1), (.var 4)]), .ite (.and (.cmp .IsNot (.var 5) (.con .none)) (.or (.cmp .Is (.ix (.var 2) (.ix (.var 4) (.con (.int 3)))) (.con .none)) (.not (.call i_lies_in [(.var 5), (.ix (.var 2) (.ix (.var 4) (.con (.int 3))))])))) [.ret (.con (.bool false))] []]
def f_holds_at : FnC := ⟨"holds_at", 3, 6, [.asg 3 false (.call i_flowed [(.var 0), (.var 1)]), .ite (.or (.cmp .Is (.var 3) (.con .none)) (.not (.call i_lies_in [(.var 3), (.var 1)]))) [.ret (.con (.bool false))] [], .for (.name 4) .seq (.ix (.var 0) (.con (.int 1))) (.con .none) b_holds_at_1, .ret (.con (.bool true))]⟩
abbrev t_holds_at : FnT := ⟨pwBody.getD 25 (.Pass ⟨0, 0, 0, 0⟩), ["mode", "box", "thing", "more", "switch", "part"], ["mode", "box", "thing"], [], []⟩
theorem s_holds_at : Stat mt f_holds_at t_holds_at := ⟨⟨rfl, rfl, rfl, by decide +kernel, rfl, by decide +kernel, by decide +kernel⟩, rfl, rfl, ⟨140, by kernel_rfl⟩, fun _ _ _ _ _ _ us hl => match us, hl with | [_, _, _], _ => rfl⟩
def f__law_cell : FnC := ⟨"_law_cell", 2, 2, [.ite (.cmp .Lt (.var 1) (.blt .len [(.var 0)])) [.ret (.ix (.var 0) (.var 1))] [], .ret (.con (.int 0))]⟩
abbrev t__law_cell : FnT := ⟨pwBody.getD 27 (.Pass ⟨0, 0, 0, 0⟩), ["_law_script", "_law_k"], ["_law_script", "_law_k"], [], []⟩
theorem s__law_cell : Stat mt f__law_cell t__law_cell := ⟨⟨rfl, rfl, rfl, by decide +kernel, rfl, by decide +kernel, by decide +kernel⟩, rfl, rfl, ⟨140, by kernel_rfl⟩, fun _ _ _ _ _ _ us hl => match us, hl with | [_, _], _ => rfl⟩
def f__law_mix : FnC := ⟨"_law_mix", 3, 3, [.ret (.bin .Mod (.bin .Mod (.bin .Pow (.bin .Mod (.bin .Mult (.var 0) (.con (.int 48271))) (.var 1)) (.con (.int 3))) (.var 1)) (.var 2))]⟩
abbrev t__law_mix : FnT := ⟨pwBody.getD 28 (.Pass ⟨0, 0, 0, 0⟩), ["_law_cell_here", "_law_prime", "_law_many"], ["_law_cell_here", "_law_prime", "_law_many"], [], []⟩
theorem s__law_mix : Stat mt f__law_mix t__law_mix := ⟨⟨rfl, rfl, rfl, by decide +kernel, rfl, by decide +kernel, by decide +kernel⟩, rfl, rfl, ⟨140, by kernel_rfl⟩, fun _ _ _ _ _ _ us hl => match us, hl with | [_, _, _], _ => rfl⟩
def f__law_whole : FnC := ⟨"_law_whole", 1, 1, [.ret (.and (.isI (.var 0) .int) (.not (.isI (.var 0) .bool)))]⟩
abbrev t__law_whole : FnT := ⟨pwBody.getD 29 (.Pass ⟨0, 0, 0, 0⟩), ["_law_found"], ["_law_found"], [], []⟩
theorem s__law_whole : Stat mt f__law_whole t__law_whole := ⟨⟨rfl, rfl, rfl, by decide +kernel, rfl, by decide +kernel, by decide +kernel⟩, rfl, rfl, ⟨140, by kernel_rfl⟩, fun _ _ _ _ _ _ us hl => match us, hl with | [_], _ => rfl⟩
def b__law_works_2 : List CS := [.ite (.and (.cmp .Gt (.call i__law_mix [(.bin .Add (.var 9) (.bin .Mult (.con (.int 7)) (.var 6))), (.con (.int 9931)), (.con (.int 7))]) (.con (.int 0))) (.cmp .NotEq (.ix (.var 10) (.var 6)) (.con (.int 0)))) [.asg 12 false (.ix (.lst [(.con (.str "down")), (.con (.str "up"))]) (.blt .int [(.cmp .Gt (.ix (.var 10) (.var 6)) (.con (.int 0)))])), .asg 13 false (.bin .Add (.con (.int 1)) (.call i__law_mix [(.bin .Add (.var 9) (.bin .Mult (.con (.int 23)) (.var 6))), (.con (.int 9929)), (.bin .Sub (.ix (.var 5) (.var 6)) (.con (.int 1)))])), .ite (.cmp .Eq (.var 12) (.con (.str "down"))) [.asg 13 false (.bin .Sub (.bin .Sub (.ix (.var 5) (.var 6)) (.con (.int 1))) (.var 13))] [], .app 11 (.tup [(.var 6), (.var 12), (.blt .max2 [(.var 13), (.con (.int 0))]), (.call i__law_mix [(.bin .Add (.bin .Add (.var 9) (.bin .Mult (.con (.int 29)) (.var 6))) (.con (.int 1))), (.con (.int 9923)), (.var 4)])])] []]
def b__law_works_1 : List CS := [.asg 9 false (.bin .Add (.call i__law_cell [(.var 0), (.bin .Add (.bin .Add (.var 1) (.con (.int 2))) (.var 8))]) (.bin .Mult (.con (.int 61)) (.var 8))), .asg 10 false (.blt .tuple [(.comp (.bin .Sub (.call i__law_mix [(.bin .Add (.bin .Add (.var 9) (.bin .Mult (.bin .Mult (.con (.int 17)) (.var 6)) (.var 6))) (.var 6)), (.con (.int 9941)), (.con (.int 11))]) (.con (.int 5))) (.name 6) .rng1 (.var 3) (.con .none) [] [6])]), .asg 11 true (.lst []), .for (.name 6) .rng1 (.var 3) (.con .none) b__law_works_2, .ite (.cmp .Eq (.call i__law_mix [(.var 9), (.con (.int 9907)), (.con (.int 5))]) (.con (.int 1))) [.asg 6 false (.call i__law_mix [(.var 9), (.con (.int 9901)), (.var 3)]), .asg 13 false (.call i__law_mix [(.var 9), (.con (.int 9887)), (.bin .Add (.ix (.var 5) (.var 6)) (.con (.int 1)))]), .app 11 (.tup [(.var 6), (.ix (.lst [(.con (.str "up")), (.con (.str "down"))]) (.call i__law_mix [(.var 9), (.con (.int 9883)), (.con (.int 2))])), (.var 13), (.call i__law_mix [(.var 9), (.con (.int 9871)), (.var 4)])])] [], .app 7 (.tup [(.var 10), (.blt .tuple [(.var 11)])])]
def f__law_works : FnC := ⟨"_law_works", 2, 15, [.asg 2 false (.call i__law_cell [(.var 0), (.var 1)]), .asg 3 false (.bin .Add (.con (.int 1)) (.call i__law_mix [(.var 2), (.con (.int 9973)), (.con (.int 2))])), .ite (.cmp .Eq (.call i__law_mix [(.bin .Add (.call i__law_cell [(.var 0), (.con (.int 0))]) (.bin .Mult (.con (.int 7)) (.blt .len [(.var 0)]))), (.con (.int 9871)), (.con (.int 8))]) (.con (.int 3))) [.asg 3 false (.bin .Add (.con (.int 1)) (.call i__law_mix [(.var 2), (.con (.int 9973)), (.con (.int 3))]))] [], .asg 4 false (.bin .Add (.con (.int 1)) (.call i__law_mix [(.var 2), (.con (.int 9967)), (.con (.int 4))])), .asg 5 false (.blt .tuple [(.comp (.bin .Add (.con (.int 8)) (.call i__law_mix [(.bin .Add (.call i__law_cell [(.var 0), (.bin .Add (.var 1) (.con (.int 1)))]) (.bin .Mult (.con (.int 13)) (.var 6))), (.con (.int 9949)), (.con (.int 25))])) (.name 6) .rng1 (.var 3) (.con .none) [] [6])]), .asg 7 true (.lst []), .for (.name 8) .rng1 (.var 4) (.con .none) b__law_works_1, .asg 14 false (.blt .tuple [(.comp (.call i__law_mix [(.bin .Add (.bin .Add (.call i__law_cell [(.var 0), (.bin .Add (.var 1) (.con (.int 1)))]) (.bin .Mult (.con (.int 31)) (.var 6))) (.con (.int 5))), (.con (.int 9859)), (.bin .Add (.ix (.var 5) (.var 6)) (.con (.int 1)))]) (.name 6) .rng1 (.var 3) (.con .none) [] [6])]), .ret (.tup [(.var 5), (.blt .tuple [(.var 7)]), (.tup [(.call i__law_mix [(.var 2), (.con (.int 9857)), (.var 4)]), (.var 14)])])]⟩
abbrev t__law_works : FnT := ⟨pwBody.getD 30 (.Pass ⟨0, 0, 0, 0⟩), ["_law_script", "_law_at", "_law_cell_here", "_law_many", "_law_size", "_law_brims", "_law_k", "_law_modes", "_law_number", "_law_seed", "_law_rates", "_law_switches", "_law_way", "_law_mark", "_law_levels"], ["_law_script", "_law_at"], [11, 7], []⟩
theorem s__law_works : Stat mt f__law_works t__law_works := ⟨⟨rfl, rfl, rfl, by decide +kernel, rfl, by decide +kernel, by decide +kernel⟩, rfl, rfl, ⟨140, by kernel_rfl⟩, fun _ _ _ _ _ _ us hl => match us, hl with | [_, _], _ => rfl⟩
def b__law_saw_1 : List CS := [.asg 9 false (.bin .Add (.bin .Add (.var 2) (.bin .Mult (.bin .Mult (.con (.int 41)) (.var 8)) (.var 8))) (.bin .Mult (.con (.int 3)) (.var 8))), .asg 10 false (.call i__law_mix [(.var 9), (.con (.int 9839)), (.con (.int 6))]), .asg 11 false (.bin .Add (.bin .Add (.var 10) (.con (.int 2))) (.call i__law_mix [(.var 9), (.con (.int 9833)), (.con (.int 9))])), .app 6 (.tup [(.var 10), (.var 11)]), .app 4 (.bin .Add (.var 11) (.call i__law_mix [(.var 9), (.con (.int 9829)), (.con (.int 4))])), .app 7 (.tup [(.bin .Add (.con (.int 1)) (.call i__law_mix [(.var 9), (.con (.int 9817)), (.con (.int 5))])), (.bin .Sub (.bin .Sub (.con (.int 0)) (.con (.int 1))) (.call i__law_mix [(.var 9), (.con (.int 9811)), (.con (.int 5))]))]), .app 5 (.bin .Add (.var 10) (.call i__law_mix [(.var 9), (.con (.int 9803)), (.bin .Add (.bin .Sub (.var 11) (.var 10)) (.con (.int 1)))]))]
def b__law_saw_3 : List CS := [.ite (.cmp .Eq (.bin .BitAnd (.bin .RShift (.var 13) (.var 8)) (.con (.int 1))) (.con (.int 0))) [.app 14 (.tup [(.var 8), (.con (.str "up")), (.ix (.ix (.var 6) (.var 8)) (.con (.int 1))), (.bin .Add (.var 13) (.bin .LShift (.con (.int 1)) (.var 8)))])] [.app 14 (.tup [(.var 8), (.con (.str "down")), (.ix (.ix (.var 6) (.var 8)) (.con (.int 0))), (.bin .Sub (.var 13) (.bin .LShift (.con (.int 1)) (.var 8)))])]]
def b__law_saw_2 : List CS := [.asg 14 true (.lst []), .for (.name 8) .rng1 (.var 3) (.con .none) b__law_saw_3, .app 12 (.tup [(.blt .tuple [(.comp (.ix (.ix (.var 7) (.var 8)) (.bin .BitAnd (.bin .RShift (.var 13) (.var 8)) (.con (.int 1)))) (.name 8) .rng1 (.var 3) (.con .none) [] [8])]), (.blt .tuple [(.var 14)])])]
def f__law_saw : FnC := ⟨"_law_saw", 2, 15, [.asg 2 false (.call i__law_cell [(.var 0), (.var 1)]), .asg 3 false (.bin .Add (.con (.int 1)) (.call i__law_mix [(.var 2), (.con (.int 9851)), (.con (.int 2))])), .asg 4 true (.lst []), .asg 5 true (.lst []), .asg 6 true (.lst []), .asg 7 true (.lst []), .for (.name 8) .rng1 (.var 3) (.con .none) b__law_saw_1, .asg 12 true (.lst []), .for (.name 13) .rng1 (.bin .LShift (.con (.int 1)) (.var 3)) (.con .none) b__law_saw_2, .ret (.tup [(.blt .tuple [(.var 4)]), (.blt .tuple [(.var 12)]), (.tup [(.con (.int 0)), (.blt .tuple [(.var 5)])])])]⟩
abbrev t__law_saw : FnT := ⟨pwBody.getD 31 (.Pass ⟨0, 0, 0, 0⟩), ["_law_script", "_law_at", "_law_cell_here", "_law_many", "_law_brims", "_law_levels", "_law_marks", "_law_rates", "_law_k", "_law_seed", "_law_low", "_law_high", "_law_modes", "_law_number", "_law_switches"], ["_law_script", "_law_at"], [6, 4, 7, 5, 14, 12], []⟩
theorem s__law_saw : Stat mt f__law_saw t__law_saw := ⟨⟨rfl, rfl, rfl, by decide +kernel, rfl, by decide +kernel, by decide +kernel⟩, rfl, rfl, ⟨140, by kernel_rfl⟩, fun _ _ _ _ _ _ us hl => match us, hl with | [_, _], _ => rfl⟩
def f__law_drawn : FnC := ⟨"_law_drawn", 2, 2, [.ite (.cmp .Eq (.call i__law_mix [(.call i__law_cell [(.var 0), (.var 1)]), (.con (.int 9791)), (.con (.int 3))]) (.con (.int 1))) [.ret (.call i__law_saw [(.var 0), (.var 1)])] [], .ret (.call i__law_works [(.var 0), (.var 1)])]⟩
abbrev t__law_drawn : FnT := ⟨pwBody.getD 32 (.Pass ⟨0, 0, 0, 0⟩), ["_law_script", "_law_at"], ["_law_script", "_law_at"], [], []⟩
theorem s__law_drawn : Stat mt f__law_drawn t__law_drawn := ⟨⟨rfl, rfl, rfl, by decide +kernel, rfl, by decide +kernel, by decide +kernel⟩, rfl, rfl, ⟨140, by kernel_rfl⟩, fun _ _ _ _ _ _ us hl => match us, hl with | [_, _], _ => rfl⟩
def b__law_out_1 : List CS := [.ite (.or (.and (.cmp .Eq (.var 3) (.con (.str "up"))) (.cmp .GtE (.ix (.ix (.var 1) (.var 2)) (.con (.int 0))) (.var 4))) (.and (.cmp .Eq (.var 3) (.con (.str "down"))) (.cmp .LtE (.ix (.ix (.var 1) (.var 2)) (.con (.int 1))) (.var 4)))) [.retv 1] []]
def b__law_out_2 : List CS := [.asgT (.tup [(.name 8), (.name 9)]) (.ix (.var 1) (.var 2)), .ite (.cmp .NotEq (.var 7) (.con (.int 0))) [.asg 3 false (.ix (.lst [(.con (.str "down")), (.con (.str "up"))]) (.blt .int [(.cmp .Gt (.var 7) (.con (.int 0)))])), .asg 10 false (.comp (.ix (.var 11) (.con (.int 2))) (.name 11) .seq (.ix (.var 0) (.con (.int 1))) (.con .none) [(.and (.cmp .Eq (.ix (.var 11) (.con (.int 0))) (.var 2)) (.cmp .Eq (.ix (.var 11) (.con (.int 1))) (.var 3)))] [11]), .ite (.cmp .Eq (.var 10) (.lst [])) [.ret (.con .none)] [], .ite (.cmp .Eq (.var 3) (.con (.str "up"))) [.asg 9 false (.blt .max2 [(.var 9), (.blt .min1 [(.var 10)])])] [.asg 8 false (.blt .min2 [(.var 8), (.blt .max1 [(.var 10)])])]] [], .app 6 (.tup [(.var 8), (.var 9)])]
def f__law_out : FnC := ⟨"_law_out", 2, 12, [.for (.tup [(.name 2), (.name 3), (.name 4), (.name 5)]) .seq (.ix (.var 0) (.con (.int 1))) (.con .none) b__law_out_1, .asg 6 true (.lst []), .for (.tup [(.name 2), (.name 7)]) .enum (.ix (.var 0) (.con (.int 0))) (.con .none) b__law_out_2, .ret (.blt .tuple [(.var 6)])]⟩
abbrev t__law_out : FnT := ⟨pwBody.getD 33 (.Pass ⟨0, 0, 0, 0⟩), ["_law_mode", "_law_box_here", "_law_vessel", "_law_way", "_law_mark", "_law_other", "_law_found", "_law_rate", "_law_low", "_law_high", "_law_marks", "_law_switch"], ["_law_mode", "_law_box_here"], [6], []⟩
theorem s__law_out : Stat mt f__law_out t__law_out := ⟨⟨rfl, rfl, rfl, by decide +kernel, rfl, by decide +kernel, by decide +kernel⟩, rfl, rfl, ⟨140, by kernel_rfl⟩, fun _ _ _ _ _ _ us hl => match us, hl with | [_, _], _ => rfl⟩
def f__law_lies : FnC := ⟨"_law_lies", 2, 3, [.ret (.cmp .Eq (.comp (.var 2) (.name 2) .rng1 (.blt .len [(.var 0)]) (.con .none) [(.or (.cmp .Lt (.ix (.ix (.var 0) (.var 2)) (.con (.int 0))) (.ix (.ix (.var 1) (.var 2)) (.con (.int 0)))) (.cmp .Gt (.ix (.ix (.var 0) (.var 2)) (.con (.int 1))) (.ix (.ix (.var 1) (.var 2)) (.con (.int 1)))))] [2]) (.lst []))]⟩
abbrev t__law_lies : FnT := ⟨pwBody.getD 34 (.Pass ⟨0, 0, 0, 0⟩), ["_law_one", "_law_other", "_law_k"], ["_law_one", "_law_other"], [], []⟩
theorem s__law_lies : Stat mt f__law_lies t__law_lies := ⟨⟨rfl, rfl, rfl, by decide +kernel, rfl, by decide +kernel, by decide +kernel⟩, rfl, rfl, ⟨140, by kernel_rfl⟩, fun _ _ _ _ _ _ us hl => match us, hl with | [_, _], _ => rfl⟩
def b__law_box_1 : List CS := [.ite (.or (.not (.isI (.var 3) .tuple)) (.cmp .NotEq (.blt .len [(.var 3)]) (.con (.int 2)))) [.ret (.con (.bool false))] [], .ite (.or (.not (.call i__law_whole [(.ix (.var 3) (.con (.int 0)))])) (.or (.not (.call i__law_whole [(.ix (.var 3) (.con (.int 1)))])) (.not (.chain3 .LtE .LtE .LtE (.con (.int 0)) (.ix (.var 3) (.con (.int 0))) (.ix (.var 3) (.con (.int 1))) (.ix (.ix (.var 0) (.con (.int 0))) (.var 2)))))) [.ret (.con (.bool false))] []]
def f__law_box : FnC := ⟨"_law_box", 2, 4, [.ite (.or (.not (.isI (.var 1) .tuple)) (.cmp .NotEq (.blt .len [(.var 1)]) (.blt .len [(.ix (.var 0) (.con (.int 0)))]))) [.ret (.con (.bool false))] [], .for (.tup [(.name 2), (.name 3)]) .enum (.var 1) (.con .none) b__law_box_1, .ret (.con (.bool true))]⟩
abbrev t__law_box : FnT := ⟨pwBody.getD 35 (.Pass ⟨0, 0, 0, 0⟩), ["_law_works_here", "_law_box_here", "_law_k", "_law_bounds"], ["_law_works_here", "_law_box_here"], [], []⟩
theorem s__law_box : Stat mt f__law_box t__law_box := ⟨⟨rfl, rfl, rfl, by decide +kernel, rfl, by decide +kernel, by decide +kernel⟩, rfl, rfl, ⟨140, by kernel_rfl⟩, fun _ _ _ _ _ _ us hl => match us, hl with | [_, _], _ => rfl⟩
def b__law_good_2 : List CS := [.asgT (.tup [(.name 11), (.name 12)]) (.ix (.var 2) (.var 7)), .ite (.cmp .Eq (.var 8) (.con (.str "up"))) [.asg 11 false (.blt .max2 [(.var 11), (.var 9)])] [.asg 12 false (.blt .min2 [(.var 12), (.var 9)])], .ite (.cmp .LtE (.var 11) (.var 12)) [.asg 13 false (.bin .Add (.bin .Add (.sl (.var 2) (.con .none) (.var 7)) (.tup [(.tup [(.var 11), (.var 12)])])) (.sl (.var 2) (.bin .Add (.var 7) (.con (.int 1))) (.con .none))), .ite (.or (.cmp .Is (.ix (.var 1) (.var 10)) (.con .none)) (.not (.call i__law_lies [(.var 13), (.ix (.var 1) (.var 10))]))) [.ret (.con (.bool false))] []] []]
def b__law_good_1 : List CS := [.asg 2 false (.ix (.var 1) (.var 4)), .ite (.cmp .IsNot (.var 2) (.con .none)) [.asg 6 false (.call i__law_out [(.var 5), (.var 2)]), .ite (.or (.cmp .Is (.var 6) (.con .none)) (.not (.call i__law_lies [(.var 6), (.var 2)]))) [.ret (.con (.bool false))] [], .for (.tup [(.name 7), (.name 8), (.name 9), (.name 10)]) .seq (.ix (.var 5) (.con (.int 1))) (.con .none) b__law_good_2] []]
def f__law_good : FnC := ⟨"_law_good", 2, 14, [.ite (.or (.not (.isI (.var 1) .list)) (.cmp .NotEq (.blt .len [(.var 1)]) (.blt .len [(.ix (.var 0) (.con (.int 1)))]))) [.ret (.con (.bool false))] [], .ite (.comp (.var 2) (.name 2) .seq (.var 1) (.con .none) [(.and (.cmp .IsNot (.var 2) (.con .none)) (.not (.call i__law_box [(.var 0), (.var 2)])))] [2]) [.ret (.con (.bool false))] [], .ite (.cmp .Is (.ix (.var 1) (.ix (.ix (.var 0) (.con (.int 2))) (.con (.int 0)))) (.con .none)) [.ret (.con (.bool false))] [], .ite (.not (.call i__law_lies [(.comp (.tup [(.var 3), (.var 3)]) (.name 3) .seq (.ix (.ix (.var 0) (.con (.int 2))) (.con (.int 1))) (.con .none) [] [3]), (.ix (.var 1) (.ix (.ix (.var 0) (.con (.int 2))) (.con (.int 0))))])) [.ret (.con (.bool false))] [], .for (.tup [(.name 4), (.name 5)]) .enum (.ix (.var 0) (.con (.int 1))) (.con .none) b__law_good_1, .ret (.con (.bool true))]⟩
abbrev t__law_good : FnT := ⟨pwBody.getD 36 (.Pass ⟨0, 0, 0, 0⟩), ["_law_works_here", "_law_thing", "_law_box_here", "_law_level", "_law_number", "_law_mode", "_law_out_here", "_law_vessel", "_law_way", "_law_mark", "_law_other", "_law_low", "_law_high", "_law_part"], ["_law_works_here", "_law_thing"], [], []⟩
theorem s__law_good : Stat mt f__law_good t__law_good := ⟨⟨rfl, rfl, rfl, by decide +kernel, rfl, by decide +kernel, by decide +kernel⟩, rfl, rfl, ⟨140, by kernel_rfl⟩, fun _ _ _ _ _ _ us hl => match us, hl with | [_, _], _ => rfl⟩
def f__law_changed : FnC := ⟨"_law_changed", 3, 12, [.ite (.cmp .Eq (.bin .Mod (.var 2) (.con (.int 4))) (.con (.int 0))) [.retv 1] [], .asg 3 false (.bin .Mod (.bin .FloorDiv (.var 2) (.con (.int 4))) (.blt .len [(.var 1)])), .asg 4 false (.ix (.var 1) (.var 3)), .asg 5 false (.blt .tuple [(.comp (.tup [(.con (.int 0)), (.var 6)]) (.name 6) .seq (.ix (.var 0) (.con (.int 0))) (.con .none) [] [6])]), .ite (.or (.cmp .Is (.var 4) (.con .none)) (.cmp .Eq (.bin .Mod (.var 2) (.con (.int 4))) (.con (.int 1)))) [.asg 7 false (.lst [(.con .none), (.var 5), (.tup []), (.bin .Add (.var 5) (.tup [(.tup [(.con (.int 0)), (.con (.int 1))])])), (.comp (.blt .list [(.var 8)]) (.name 8) .seq (.var 5) (.con .none) [] [8])]), .asg 7 false (.bin .Add (.var 7) (.lst [(.bin .Mult (.tup [(.tup [(.con (.int 1)), (.con (.int 0))])]) (.blt .len [(.ix (.var 0) (.con (.int 0)))]))])), .ret (.bin .Add (.bin .Add (.sl (.var 1) (.con .none) (.var 3)) (.lst [(.ix (.var 7) (.bin .Mod (.bin .FloorDiv (.var 2) (.con (.int 11))) (.con (.int 6))))])) (.sl (.var 1) (.bin .Add (.var 3) (.con (.int 1))) (.con .none)))] [], .ite (.cmp .Eq (.bin .Mod (.var 2) (.con (.int 4))) (.con (.int 2))) [.asg 9 false (.bin .Mod (.bin .FloorDiv (.var 2) (.con (.int 13))) (.blt .len [(.var 4)])), .asgT (.tup [(.name 10), (.name 11)]) (.ix (.var 4) (.var 9)), .asg 8 false (.ix (.lst [(.tup [(.bin .Add (.var 10) (.con (.int 1))), (.var 11)]), (.tup [(.var 10), (.bin .Sub (.var 11) (.con (.int 1)))]), (.tup [(.bin .Sub (.var 10) (.con (.int 1))), (.var 11)]), (.tup [(.var 10), (.bin .Add (.var 11) (.con (.int 1)))]), (.tup [(.var 10), (.con (.bool true))])]) (.bin .Mod (.bin .FloorDiv (.var 2) (.con (.int 17))) (.con (.int 5)))), .ret (.bin .Add (.bin .Add (.sl (.var 1) (.con .none) (.var 3)) (.lst [(.bin .Add (.bin .Add (.sl (.var 4) (.con .none) (.var 9)) (.tup [(.var 8)])) (.sl (.var 4) (.bin .Add (.var 9) (.con (.int 1))) (.con .none)))])) (.sl (.var 1) (.bin .Add (.var 3) (.con (.int 1))) (.con .none)))] [], .ret (.ix (.lst [(.blt .tuple [(.var 1)]), (.sl (.var 1) (.con .none) (.neg (.con (.int 1)))), (.bin .Add (.var 1) (.lst [(.con .none)])), (.con .none), (.bin .Mult (.lst [(.var 5)]) (.blt .len [(.var 1)])), (.con (.dict []))]) (.bin .Mod (.bin .FloorDiv (.var 2) (.con (.int 19))) (.con (.int 6))))]⟩
abbrev t__law_changed : FnT := ⟨pwBody.getD 37 (.Pass ⟨0, 0, 0, 0⟩), ["_law_works_here", "_law_boxes", "_law_cell_here", "_law_number", "_law_box_here", "_law_whole_box", "_law_brim", "_law_some", "_law_pair", "_law_vessel", "_law_low", "_law_high"], ["_law_works_here", "_law_boxes", "_law_cell_here"], [], []⟩
theorem s__law_changed : Stat mt f__law_changed t__law_changed := ⟨⟨rfl, rfl, rfl, by decide +kernel, rfl, by decide +kernel, by decide +kernel⟩, rfl, rfl, ⟨140, by kernel_rfl⟩, fun _ _ _ _ _ _ us hl => match us, hl with | [_, _, _], _ => rfl⟩
def f_law : FnC := ⟨"law", 1, 7, [.asg 1 false (.call i__law_drawn [(.var 0), (.con (.int 2))]), .asg 2 false (.call i_walls [(.var 1)]), .ite (.cmp .Is (.var 2) (.con .none)) [.asg 2 false (.comp (.blt .tuple [(.comp (.tup [(.con (.int 0)), (.var 3)]) (.name 3) .seq (.ix (.var 1) (.con (.int 0))) (.con .none) [] [3])]) (.name 4) .seq (.ix (.var 1) (.con (.int 1))) (.con .none) [] [4])] [.ite (.not (.call i_hold [(.var 1), (.var 2)])) [.ret (.con (.bool false))] []], .asg 5 false (.call i__law_changed [(.var 1), (.var 2), (.call i__law_cell [(.var 0), (.con (.int 0))])]), .asg 6 false (.call i_hold [(.var 1), (.var 5)]), .ret (.and (.isI (.var 6) .bool) (.cmp .Eq (.var 6) (.call i__law_good [(.var 1), (.var 5)])))]⟩
abbrev t_law : FnT := ⟨pwBody.getD 38 (.Pass ⟨0, 0, 0, 0⟩), ["_law_script", "_law_works_here", "_law_boxes", "_law_brim", "_law_mode", "_law_thing", "_law_found"], ["_law_script"], [], []⟩
theorem s_law : Stat mt f_law t_law := ⟨⟨rfl, rfl, rfl, by decide +kernel, rfl, by decide +kernel, by decide +kernel⟩, rfl, rfl, ⟨140, by kernel_rfl⟩, fun _ _ _ _ _ _ us hl => match us, hl with | [_], _ => rfl⟩
def tab : List FnC := ([f_is_within, f_are_numbers, f_is_switch, f_is_mode, f_is_works, f_checked, f_entered, f_goes_at_once, f_joined, f_flowed, f_grown, f_walls, f_is_box, f_lies_in, f_hold, f_holds_at, f__law_cell, f__law_mix, f__law_whole, f__law_works] : List (FnC)) ++ ([f__law_saw, f__law_drawn, f__law_out, f__law_lies, f__law_box, f__law_good, f__law_changed, f_law] : List (FnC))
def fts : List FnT := ([t_is_within, t_are_numbers, t_is_switch, t_is_mode, t_is_works, t_checked, t_entered, t_goes_at_once, t_joined, t_flowed, t_grown, t_walls, t_is_box, t_lies_in, t_hold, t_holds_at, t__law_cell, t__law_mix, t__law_whole, t__law_works] : List (FnT)) ++ ([t__law_saw, t__law_drawn, t__law_out, t__law_lies, t__law_box, t__law_good, t__law_changed, t_law] : List (FnT))
theorem stats : Paired (Stat mt) tab fts := .cons s_is_within (.cons s_are_numbers (.cons s_is_switch (.cons s_is_mode (.cons s_is_works (.cons s_checked (.cons s_entered (.cons s_goes_at_once (.cons s_joined (.cons s_flowed (.cons s_grown (.cons s_walls (.cons s_is_box (.cons s_lies_in (.cons s_hold (.cons s_holds_at (.cons s__law_cell (.cons s__law_mix (.cons s__law_whole (.cons s__law_works (.cons s__law_saw (.cons s__law_drawn (.cons s__law_out (.cons s__law_lies (.cons s__law_box (.cons s__law_good (.cons s__law_changed (.cons s_law (.nil))))))))))))))))))))))))))))
theorem tab_is_within : tab[i_is_within]? = some f_is_within := rfl
theorem tab_are_numbers : tab[i_are_numbers]? = some f_are_numbers := rfl
theorem tab_is_switch : tab[i_is_switch]? = some f_is_switch := rfl
theorem tab_is_mode : tab[i_is_mode]? = some f_is_mode := rfl
theorem tab_is_works : tab[i_is_works]? = some f_is_works := rfl
theorem tab_checked : tab[i_checked]? = some f_checked := rfl
theorem tab_entered : tab[i_entered]? = some f_entered := rfl
theorem tab_goes_at_once : tab[i_goes_at_once]? = some f_goes_at_once := rfl
theorem tab_joined : tab[i_joined]? = some f_joined := rfl
theorem tab_flowed : tab[i_flowed]? = some f_flowed := rfl
theorem tab_grown : tab[i_grown]? = some f_grown := rfl
theorem tab_walls : tab[i_walls]? = some f_walls := rfl
theorem tab_is_box : tab[i_is_box]? = some f_is_box := rfl
theorem tab_lies_in : tab[i_lies_in]? = some f_lies_in := rfl
theorem tab_hold : tab[i_hold]? = some f_hold := rfl
theorem tab_holds_at : tab[i_holds_at]? = some f_holds_at := rfl
theorem tab__law_cell : tab[i__law_cell]? = some f__law_cell := rfl
theorem tab__law_mix : tab[i__law_mix]? = some f__law_mix := rfl
theorem tab__law_whole : tab[i__law_whole]? = some f__law_whole := rfl
theorem tab__law_works : tab[i__law_works]? = some f__law_works := rfl
theorem tab__law_saw : tab[i__law_saw]? = some f__law_saw := rfl
theorem tab__law_drawn : tab[i__law_drawn]? = some f__law_drawn := rfl
theorem tab__law_out : tab[i__law_out]? = some f__law_out := rfl
theorem tab__law_lies : tab[i__law_lies]? = some f__law_lies := rfl
theorem tab__law_box : tab[i__law_box]? = some f__law_box := rfl
theorem tab__law_good : tab[i__law_good]? = some f__law_good := rfl
theorem tab__law_changed : tab[i__law_changed]? = some f__law_changed := rfl
theorem tab_law : tab[i_law]? = some f_law := rfl
end PF
end

section
/-! P1: the evaluator's equations for simp; loops. -/
namespace PF
open PySem PySem.Spec
theorem runF_of {tab : List FnC} {k i : Nat} {ds : List D} {f : FnC} (h : tab[i]? = some f) (hl : ds.length = f.ar) : runF tab (k + 1) i ds = (exB (runF tab k) f.body (startE f.sz ds)).fin := by
  simp only [runF, h]
  rw [if_pos hl]
/-- an element, a test: as functions -/
noncomputable def evT (F : Nat → List D → M R) (e : CE) (ρ : PF.Env) : M D := (ev F e ρ).toD
noncomputable def tst (F : Nat → List D → M R) (c : CE) (ρ : PF.Env) : M Bool := (pk c ρ (ev F c ρ)).bind truthy
section
variable (F : Nat → List D → M R) (ρ : PF.Env)
@[simp] theorem evT_eq (e : CE) : evT F e ρ = (ev F e ρ).toD := rfl
@[simp] theorem tst_eq (e : CE) : tst F e ρ = (pk e ρ (ev F e ρ)).bind truthy := rfl
@[simp] theorem exB_nil : exB F [] ρ = .nx ρ := by rw [exB]
@[simp] theorem exB_cons (s : CS) (ss : List CS) : exB F (s :: ss) ρ = (exS F s ρ).seq (exB F ss) := by rw [exB]
@[simp] theorem exS_asg (i : Nat) (keep : Bool) (e : CE) : exS F (.asg i keep e) ρ = (ev F e ρ).ctl ρ fun r => .nx (ρ.set i (store keep r)) := by rw [exS]
@[simp] theorem exS_asgT (tg : Tg) (e : CE) : exS F (.asgT tg e) ρ = (ev F e ρ).toD.ctl ρ fun d => optC (setT tg d ρ) fun ρ' => .nx ρ' := by rw [exS]
@[simp] theorem exS_ret (e : CE) : exS F (.ret e) ρ = (ev F e ρ).ctl ρ fun r => .rt r := by rw [exS]
@[simp] theorem exS_retv (i : Nat) : exS F (.retv i) ρ = (getP ρ i).ctl ρ fun r => .rt r := by rw [exS]
@[simp] theorem exS_retN : exS F .retN ρ = .rt (.d .none) := by rw [exS]
@[simp] theorem exS_ite (c : CE) (a b : List CS) : exS F (.ite c a b) ρ = ((pk c ρ (ev F c ρ)).bind truthy).ctl ρ fun k => if k = true then exB F a ρ else exB F b ρ := by rw [exS]
@[simp] theorem exS_raise (c : Nat) : exS F (.raise c) ρ = .ex c ρ := by rw [exS]
@[simp] theorem exS_brk : exS F .brk ρ = .bk ρ := by rw [exS]
@[simp] theorem exS_cnt : exS F .cnt ρ = .ct ρ := by rw [exS]
@[simp] theorem exS_pass : exS F .pass ρ = .nx ρ := by rw [exS]
@[simp] theorem exS_expr (e : CE) : exS F (.expr e) ρ = (ev F e ρ).ctl ρ fun _ => .nx ρ := by rw [exS]
@[simp] theorem exS_frz (is : List Nat) (s : CS) : exS F (.frz is s) ρ = exS F s (frzE is ρ) := by rw [exS]
@[simp] theorem exS_for (tg : Tg) (k : IK) (a b : CE) (body : List CS) : exS F (.for tg k a b body) ρ = (itf F k a b ρ).ctl ρ fun ds => forD tg (exB F body) ds ρ := by rw [exS]
@[simp] theorem exS_whl (c : CE) (b : List CS) : exS F (.whl c b) ρ = whlD (tst F c) (exB F b) ρ := by rw [exS] <;> rfl
@[simp] theorem exS_app (i : Nat) (e : CE) : exS F (.app i e) ρ = (match ρ.getD i .no with
    | .own ds => (ev F e ρ).toD.ctl ρ fun d => if ds.length < sizeLine then .nx (ρ.set i (.own (ds ++ [d]))) else .no
    | _ => .no) := by rw [exS] <;> rfl
@[simp] theorem exS_par (i j : Nat) (a b : CE) : exS F (.par i j a b) ρ = ((evs F [a, b] ρ).ctl ρ fun ds => match ds with
    | [x, y] => .nx ((ρ.set i (.val x)).set j (.val y))
    | _ => .no) := by rw [exS] <;> rfl
@[simp] theorem ev_var (i : Nat) : ev F (.var i) ρ = getV ρ i := by rw [ev]
@[simp] theorem ev_con (d : D) : ev F (.con d) ρ = .ok (.d d) := by rw [ev]
@[simp] theorem ev_bin (op : Operator) (a b : CE) : ev F (.bin op a b) ρ = (pk a ρ (ev F a ρ)).bind fun x => (pk b ρ (ev F b ρ)).bind fun y => binD op x y := by rw [ev]
@[simp] theorem ev_neg (a : CE) : ev F (.neg a) ρ = (ev F a ρ).bind negD := by rw [ev]
@[simp] theorem ev_cmp (op : CmpOp) (a b : CE) : ev F (.cmp op a b) ρ = (pk a ρ (ev F a ρ)).bind fun x => (pk b ρ (ev F b ρ)).bind fun y => cmpD op x y := by rw [ev]
@[simp] theorem ev_chain (op op' : CmpOp) (a b c : CE) : ev F (.chain op op' a b c) ρ = (pk a ρ (ev F a ρ)).bind fun x => (pk b ρ (ev F b ρ)).bind fun y => (cmpD op x y).bind fun z => (truthy z).bind fun t =>
      if t = true then (pk c ρ (ev F c ρ)).bind fun w => cmpD op' y w else boolR false := by rw [ev]
@[simp] theorem ev_chain3 (op op' op2 : CmpOp) (a b c d : CE) : ev F (.chain3 op op' op2 a b c d) ρ = (pk a ρ (ev F a ρ)).bind fun x => (pk b ρ (ev F b ρ)).bind fun y => (cmpD op x y).bind fun z => (truthy z).bind fun t =>
      if t = true then (pk c ρ (ev F c ρ)).bind fun w => (cmpD op' y w).bind fun z2 => (truthy z2).bind fun t2 => if t2 = true then (pk d ρ (ev F d ρ)).bind fun v => cmpD op2 w v else boolR false else boolR false := by rw [ev]
@[simp] theorem ev_meth (m : Mth) (a : CE) (es : List CE) : ev F (.meth m a es) ρ = (pk a ρ (ev F a ρ)).bind fun x => (mTy m x).bind fun _ => (evs F es ρ).bind fun ds => mthD m x ds := by rw [ev]
@[simp] theorem ev_and (a b : CE) : ev F (.and a b) ρ = (ev F a ρ).toD.bind fun x => (truthy (.d x)).bind fun t => if t = true then ev F b ρ else .ok (.d x) := by rw [ev]
@[simp] theorem ev_or (a b : CE) : ev F (.or a b) ρ = (ev F a ρ).toD.bind fun x => (truthy (.d x)).bind fun t => if t = true then .ok (.d x) else ev F b ρ := by rw [ev]
@[simp] theorem ev_not (a : CE) : ev F (.not a) ρ = (pk a ρ (ev F a ρ)).bind fun x => (truthy x).bind fun t => boolR (!t) := by rw [ev]
@[simp] theorem ev_tup (es : List CE) : ev F (.tup es) ρ = (evs F es ρ).bind fun ds => .ok (.d (.tuple ds)) := by rw [ev]
@[simp] theorem ev_lst (es : List CE) : ev F (.lst es) ρ = (evs F es ρ).bind fun ds => .ok (.o ds) := by rw [ev]
@[simp] theorem ev_ix (a i : CE) : ev F (.ix a i) ρ = (pk a ρ (ev F a ρ)).bind fun x => (ev F i ρ).bind fun y => ixD x y := by rw [ev]
@[simp] theorem ev_sl (a lo hi : CE) : ev F (.sl a lo hi) ρ = (pk a ρ (ev F a ρ)).bind fun x => (partC lo (ev F lo ρ).toD).bind fun l => (partC hi (ev F hi ρ).toD).bind fun h => slD x l h := by rw [ev]
@[simp] theorem ev_call (f : Nat) (es : List CE) : ev F (.call f es) ρ = (evs F es ρ).bind fun ds => F f ds := by rw [ev]
@[simp] theorem ev_blt (b : Blt) (es : List CE) : ev F (.blt b es) ρ = (evp F es ρ).bind fun rs => bltD b rs := by rw [ev]
@[simp] theorem ev_isI (a : CE) (t : Ty) : ev F (.isI a t) ρ = (pk a ρ (ev F a ρ)).bind fun x => (isTy t x.toD).bind fun b => boolR b := by rw [ev]
@[simp] theorem ev_comp (elt : CE) (tg : Tg) (k : IK) (a b : CE) (ifs : List CE) (own : List Nat) : ev F (.comp elt tg k a b ifs own) ρ = (ev F a ρ).bind fun x => (ev F b ρ).bind fun y => (itD k (.d x.toD) (.d y.toD)).bind fun ds =>
      (compD tg (evc F ifs) (evT F elt) (wipeE ρ own) ds).bind fun r => .ok (.o r) := by rw [ev] <;> rfl
@[simp] theorem evs_nil : evs F [] ρ = .ok [] := by rw [evs]
@[simp] theorem evs_cons (e : CE) (es : List CE) : evs F (e :: es) ρ = (ev F e ρ).toD.bind fun d => (evs F es ρ).bind fun ds => .ok (d :: ds) := by rw [evs]
@[simp] theorem evp_nil : evp F [] ρ = .ok [] := by rw [evp]
@[simp] theorem evp_cons (e : CE) (es : List CE) : evp F (e :: es) ρ = (pk e ρ (ev F e ρ)).bind fun d => (evp F es ρ).bind fun ds => .ok (d :: ds) := by rw [evp]
@[simp] theorem evc_nil : evc F [] ρ = .ok true := by rw [evc]
@[simp] theorem evc_cons (e : CE) (es : List CE) : evc F (e :: es) ρ = (pk e ρ (ev F e ρ)).bind fun r => truthy r := by rw [evc]
@[simp] theorem pk_var (i : Nat) (m : M R) : pk (.var i) ρ m = getP ρ i := rfl
@[simp] theorem pk_con (d : D) (m : M R) : pk (.con d) ρ m = m := rfl
@[simp] theorem pk_bin (op : Operator) (a b : CE) (m : M R) : pk (.bin op a b) ρ m = m := rfl
@[simp] theorem pk_neg (a : CE) (m : M R) : pk (.neg a) ρ m = m := rfl
@[simp] theorem pk_cmp (op : CmpOp) (a b : CE) (m : M R) : pk (.cmp op a b) ρ m = m := rfl
@[simp] theorem pk_chain (op op' : CmpOp) (a b c : CE) (m : M R) : pk (.chain op op' a b c) ρ m = m := rfl
@[simp] theorem pk_chain3 (op op' op2 : CmpOp) (a b c d : CE) (m : M R) : pk (.chain3 op op' op2 a b c d) ρ m = m := rfl
@[simp] theorem pk_meth (f : Mth) (a : CE) (es : List CE) (m : M R) : pk (.meth f a es) ρ m = m := rfl
@[simp] theorem pk_and (a b : CE) (m : M R) : pk (.and a b) ρ m = m := rfl
@[simp] theorem pk_or (a b : CE) (m : M R) : pk (.or a b) ρ m = m := rfl
@[simp] theorem pk_not (a : CE) (m : M R) : pk (.not a) ρ m = m := rfl
@[simp] theorem pk_tup (a : List CE) (m : M R) : pk (.tup a) ρ m = m := rfl
@[simp] theorem pk_lst (a : List CE) (m : M R) : pk (.lst a) ρ m = m := rfl
@[simp] theorem pk_ix (a b : CE) (m : M R) : pk (.ix a b) ρ m = m := rfl
@[simp] theorem pk_sl (a b c : CE) (m : M R) : pk (.sl a b c) ρ m = m := rfl
@[simp] theorem pk_call (f : Nat) (a : List CE) (m : M R) : pk (.call f a) ρ m = m := rfl
@[simp] theorem pk_blt (f : Blt) (a : List CE) (m : M R) : pk (.blt f a) ρ m = m := rfl
@[simp] theorem pk_isI (a : CE) (t : Ty) (m : M R) : pk (.isI a t) ρ m = m := rfl
@[simp] theorem pk_isE (a : Nat) (t : List Nat) (m : M R) : pk (.isE a t) ρ m = m := rfl
@[simp] theorem pk_comp (elt : CE) (tg : Tg) (k : IK) (a b : CE) (ifs : List CE) (own : List Nat) (m : M R) : pk (.comp elt tg k a b ifs own) ρ m = m := rfl
@[simp] theorem itf_eq (k : IK) (a b : CE) : itf F k a b ρ = (ev F a ρ).bind fun x => (ev F b ρ).bind fun y => itD k (.d x.toD) (.d y.toD) := rfl
@[simp] theorem setT_name (i : Nat) (d : D) : setT (.name i) d ρ = some (ρ.set i (.val d)) := by rw [setT]
@[simp] theorem setT_tup (ts : List Tg) (ds : List D) : setT (.tup ts) (.tuple ds) ρ = setTs ts ds ρ := by rw [setT]
@[simp] theorem setTs_nil : setTs [] [] ρ = some ρ := by rw [setTs]
@[simp] theorem setTs_cons (t : Tg) (ts : List Tg) (d : D) (ds : List D) : setTs (t :: ts) (d :: ds) ρ = (setT t d ρ).bind fun ρ' => setTs ts ds ρ' := by rw [setTs]
@[simp] theorem getV_eq (i : Nat) : getV ρ i = (match ρ.getD i .no with | .val d => .ok (.d d) | _ => .no) := rfl
@[simp] theorem getP_eq (i : Nat) : getP ρ i = (match ρ.getD i .no with | .val d => .ok (.d d) | .own ds => .ok (.o ds) | _ => .no) := rfl
end
@[simp] theorem store_d (keep : Bool) (x : D) : store keep (.d x) = .val x := by cases keep <;> rfl
@[simp] theorem store_ko (x : List D) : store true (.o x) = .own x := rfl
@[simp] theorem store_no (x : List D) : store false (.o x) = .val (.list x) := rfl
@[simp] theorem wipeE_nil (ρ : PF.Env) : wipeE ρ [] = ρ := rfl
@[simp] theorem wipeE_cons (ρ : PF.Env) (v : Nat) (vs : List Nat) : wipeE ρ (v :: vs) = (wipeE ρ vs).set v .no := rfl
@[simp] theorem fin_nx (ρ : PF.Env) : (Ctl.nx ρ).fin = .ok (.d .none) := rfl
@[simp] theorem fin_rt (r : R) : (Ctl.rt r).fin = .ok r := rfl
@[simp] theorem fin_ex (c : Nat) (ρ : PF.Env) : (Ctl.ex c ρ).fin = .ex c := rfl
@[simp] theorem boolR_eq (b : Bool) : boolR b = .ok (.d (.bool b)) := rfl
@[simp] theorem truthy_b (b : Bool) : truthy (.d (.bool b)) = .ok b := rfl
@[simp] theorem truthy_i (i : Int) : truthy (.d (.int i)) = .ok (i != 0) := rfl
@[simp] theorem truthy_n : truthy (.d .none) = .ok false := rfl
@[simp] theorem truthy_l (xs : List D) : truthy (.d (.list xs)) = .ok (!xs.isEmpty) := rfl
@[simp] theorem truthy_t (xs : List D) : truthy (.d (.tuple xs)) = .ok (!xs.isEmpty) := rfl
@[simp] theorem truthy_o (xs : List D) : truthy (.o xs) = .ok (!xs.isEmpty) := rfl
/-- ifs of results -/
@[simp] theorem bind_ite {α β : Type} (c : Prop) [Decidable c] (a b : M α) (f : α → M β) : (if c then a else b).bind f = if c then a.bind f else b.bind f := by split <;> rfl
@[simp] theorem ctl_ite {α : Type} (c : Prop) [Decidable c] (a b : M α) (ρ : PF.Env) (f : α → Ctl) : (if c then a else b).ctl ρ f = if c then a.ctl ρ f else b.ctl ρ f := by split <;> rfl
@[simp] theorem seq_ite (c : Prop) [Decidable c] (a b : Ctl) (f : PF.Env → Ctl) : (if c then a else b).seq f = if c then a.seq f else b.seq f := by split <;> rfl
@[simp] theorem toD_ite (c : Prop) [Decidable c] (a b : M R) : (if c then a else b).toD = if c then a.toD else b.toD := by split <;> rfl
@[simp] theorem fin_ite (c : Prop) [Decidable c] (a b : Ctl) : (if c then a else b).fin = if c then a.fin else b.fin := by split <;> rfl
@[simp] theorem oknb_ite (c : Prop) [Decidable c] (a b : Bool) : (if c then (M.ok (R.d (.bool a))) else .ok (.d (.bool b))) = .ok (.d (.bool (if c then a else b))) := by split <;> rfl
@[simp] theorem nx_ite (c : Prop) [Decidable c] (a b : PF.Env) : (if c then Ctl.nx a else .nx b) = .nx (if c then a else b) := by split <;> rfl
@[simp] theorem env_ite (c : Prop) [Decidable c] (a b : Sl) (l m : PF.Env) : (if c then a :: l else b :: m) = (if c then a else b) :: (if c then l else m) := by split <;> rfl
@[simp] theorem val_ite (c : Prop) [Decidable c] (a b : D) : (if c then Sl.val a else .val b) = .val (if c then a else b) := by split <;> rfl
@[simp] theorem int_ite (c : Prop) [Decidable c] (a b : Int) : (if c then PyData.int a else .int b) = .int (if c then a else b) := by split <;> rfl
@[simp] theorem okint_ite (c : Prop) [Decidable c] (a b : Int) : (if c then M.ok (R.d (.int a)) else .ok (R.d (.int b))) = .ok (R.d (.int (if c then a else b))) := by split <;> rfl
/-- a comprehension over coded things -/
theorem compD_map {α : Type} {tg : Tg} {t : PF.Env → M Bool} {e : PF.Env → M D} {ρ : PF.Env} (enc : α → D) (p : α → Bool) (f : α → D) :
    ∀ (xs : List α), (∀ x ∈ xs, ∃ ρ', setT tg (enc x) ρ = some ρ' ∧ t ρ' = .ok (p x) ∧ (p x = true → e ρ' = .ok (f x))) → compD tg t e ρ (xs.map enc) = .ok ((xs.filter p).map f)
  | [], _ => rfl
  | x :: xs, h => by
    obtain ⟨ρ', h1, h2, h3⟩ := h x (by simp)
    have ih := compD_map enc p f xs fun y hy => h y (by simp [hy])
    simp only [List.map_cons, compD, h1, M.opt_some, M.bind_ok, h2, M.noex_ok, ih]
    cases q : p x with
    | true => simp [h3 q, q]
    | false => simp [q]
theorem compD_map1 {α : Type} {tg : Tg} {t : PF.Env → M Bool} {e : PF.Env → M D} {ρ : PF.Env} (enc : α → D) (f : α → D) (xs : List α) (h : ∀ x ∈ xs, ∃ ρ', setT tg (enc x) ρ = some ρ' ∧ t ρ' = .ok true ∧ e ρ' = .ok (f x)) :
    compD tg t e ρ (xs.map enc) = .ok (xs.map f) := by
  have := compD_map (t := t) (e := e) (ρ := ρ) (tg := tg) enc (fun _ => true) f xs fun x hx => by
    obtain ⟨ρ', h1, h2, h3⟩ := h x hx
    exact ⟨ρ', h1, h2, fun _ => h3⟩
  rw [this, List.filter_eq_self.2 fun _ _ => rfl]
/-- a for over coded things that goes its way: an invariant of what is done -/
theorem forD_inv' {α : Type} {tg : Tg} {b : PF.Env → Ctl} (enc : α → D) (I : List α → PF.Env → Prop) (all : List α)
    (go : ∀ done x rest ρ, all = done ++ x :: rest → I done ρ → ∃ ρ1 ρ2, setT tg (enc x) ρ = some ρ1 ∧ (b ρ1 = .nx ρ2 ∨ b ρ1 = .ct ρ2) ∧ I (done ++ [x]) ρ2) :
    ∀ (xs done : List α) (ρ : PF.Env), all = done ++ xs → I done ρ → ∃ ρ', forD tg b (xs.map enc) ρ = .nx ρ' ∧ I all ρ'
  | [], done, ρ, e, h => ⟨ρ, rfl, by rw [e]; simpa using h⟩
  | x :: xs, done, ρ, e, h => by
    obtain ⟨ρ1, ρ2, h1, h2, h3⟩ := go done x xs ρ e h
    obtain ⟨ρ', h4, h5⟩ := forD_inv' enc I all go xs (done ++ [x]) ρ2 (by rw [e]; simp) h3
    refine ⟨ρ', ?_, h5⟩
    simp only [List.map_cons, forD, h1, optC_some]
    rcases h2 with h2 | h2 <;> simp [h2, h4]
theorem forD_inv {α : Type} {tg : Tg} {b : PF.Env → Ctl} (enc : α → D) (I : List α → PF.Env → Prop) (xs : List α) (ρ : PF.Env) (h0 : I [] ρ)
    (go : ∀ done x rest ρ, xs = done ++ x :: rest → I done ρ → ∃ ρ1 ρ2, setT tg (enc x) ρ = some ρ1 ∧ (b ρ1 = .nx ρ2 ∨ b ρ1 = .ct ρ2) ∧ I (done ++ [x]) ρ2) :
    ∃ ρ', forD tg b (xs.map enc) ρ = .nx ρ' ∧ I xs ρ' := forD_inv' enc I xs go xs [] ρ rfl h0
theorem range_at {n : Nat} {done rest : List Nat} {x : Nat} (h : List.range n = done ++ x :: rest) : done.length = x ∧ x < n := by
  have h1 : (List.range n)[done.length]? = some x := by rw [h]; simp
  have h2 := List.getElem?_eq_some_iff.mp h1
  obtain ⟨l, e⟩ := h2
  simp at l e
  omega
end PF

end

section
/-! P2: works in types; is_works. -/
namespace PF
open PySem PySem.Spec
structure Sw where
  v : Int
  up : Bool
  mark : Int
  to : Int
structure Md where
  rates : List Int
  sws : List Sw
structure Wk where
  brims : List Int
  modes : List Md
  at_ : Int
  levels : List Int
def encI (xs : List Int) : D := .tuple (xs.map .int)
def wayD (b : Bool) : D := .str (if b = true then "up" else "down")
def encS (s : Sw) : D := .tuple [.int s.v, wayD s.up, .int s.mark, .int s.to]
def encM (m : Md) : D := .tuple [encI m.rates, .tuple (m.sws.map encS)]
def encW (w : Wk) : D := .tuple [encI w.brims, .tuple (w.modes.map encM), .tuple [.int w.at_, encI w.levels]]
@[simp] theorem atI_map {α : Type} (f : α → D) (xs : List α) (i : Int) : L2.atI (xs.map f) i = (L2.atI xs i).map f := by
  unfold L2.atI
  rw [List.length_map]
  cases L2.ixN xs.length i <;> simp
theorem atI_pos {α : Type} {xs : List α} {i : Int} {d : α} (h : 0 ≤ i) (h2 : i < xs.length) : L2.atI xs i = some (xs.getD i.toNat d) := by
  unfold L2.atI L2.ixN
  rw [if_pos h, if_pos h2]
  have : i.toNat < xs.length := by omega
  simp [List.getD_eq_getElem?_getD, List.getElem?_eq_getElem this]
@[simp] theorem atI_0 {α : Type} (a : α) (xs : List α) : L2.atI (a :: xs) 0 = some a := by
  unfold L2.atI L2.ixN
  simp <;> omega
theorem atI_nat' {α : Type} (xs : List α) (n : Nat) : L2.atI xs (n : Int) = xs[n]? := by
  unfold L2.atI L2.ixN
  rw [if_pos (by omega)]
  split
  · simp
  · rename_i h
    have : xs.length ≤ n := by omega
    simp [List.getElem?_eq_none this]
@[simp] theorem atI_1 {α : Type} (a b : α) (xs : List α) : L2.atI (a :: b :: xs) 1 = some b := atI_nat' (a :: b :: xs) 1
@[simp] theorem atI_2 {α : Type} (a b c : α) (xs : List α) : L2.atI (a :: b :: c :: xs) 2 = some c := atI_nat' (a :: b :: c :: xs) 2
@[simp] theorem atI_3 {α : Type} (a b c d : α) (xs : List α) : L2.atI (a :: b :: c :: d :: xs) 3 = some d := atI_nat' (a :: b :: c :: d :: xs) 3
@[simp] theorem ixD_t (xs : List D) (i : Int) : ixD (.d (.tuple xs)) (.d (.int i)) = (M.opt (L2.atI xs i)).bind fun d => .ok (.d d) := rfl
@[simp] theorem ixD_l (xs : List D) (i : Int) : ixD (.d (.list xs)) (.d (.int i)) = (M.opt (L2.atI xs i)).bind fun d => .ok (.d d) := rfl
@[simp] theorem ixD_o (xs : List D) (i : Int) : ixD (.o xs) (.d (.int i)) = (M.opt (L2.atI xs i)).bind fun d => .ok (.d d) := rfl
@[simp] theorem len_t (xs : List D) : bltD .len [.d (.tuple xs)] = .ok (.d (.int xs.length)) := rfl
@[simp] theorem len_l (xs : List D) : bltD .len [.d (.list xs)] = .ok (.d (.int xs.length)) := rfl
@[simp] theorem len_o (xs : List D) : bltD .len [.o xs] = .ok (.d (.int xs.length)) := rfl
@[simp] theorem tuple_o (xs : List D) : bltD .tuple [.o xs] = .ok (.d (.tuple xs)) := rfl
@[simp] theorem tuple_l (xs : List D) : bltD .tuple [.d (.list xs)] = .ok (.d (.tuple xs)) := rfl
@[simp] theorem add_i (i j : Int) : binD .Add (.d (.int i)) (.d (.int j)) = .ok (.d (.int (i + j))) := rfl
@[simp] theorem sub_i (i j : Int) : binD .Sub (.d (.int i)) (.d (.int j)) = .ok (.d (.int (i - j))) := rfl
theorem shaped_i (i : Int) : SeqAt.shaped (.int i) = true := rfl
@[simp] theorem eq_i (i j : Int) : cmpD .Eq (.d (.int i)) (.d (.int j)) = .ok (.d (.bool (decide (i = j)))) := by
  show M.chk (SeqAt.shaped (.int i) = true ∧ SeqAt.shaped (.int j) = true) (boolR (i == j)) = _
  rw [M.chk_pos ⟨rfl, rfl⟩, boolR_eq]
  rfl
@[simp] theorem ne_i (i j : Int) : cmpD .NotEq (.d (.int i)) (.d (.int j)) = .ok (.d (.bool (!decide (i = j)))) := by
  show M.chk (SeqAt.shaped (.int i) = true ∧ SeqAt.shaped (.int j) = true) (boolR (!(i == j))) = _
  rw [M.chk_pos ⟨rfl, rfl⟩, boolR_eq]
  rfl
@[simp] theorem lt_i (i j : Int) : cmpD .Lt (.d (.int i)) (.d (.int j)) = .ok (.d (.bool (decide (i < j)))) := rfl
@[simp] theorem le_i (i j : Int) : cmpD .LtE (.d (.int i)) (.d (.int j)) = .ok (.d (.bool (decide (i ≤ j)))) := rfl
@[simp] theorem gt_i (i j : Int) : cmpD .Gt (.d (.int i)) (.d (.int j)) = .ok (.d (.bool (decide (j < i)))) := rfl
@[simp] theorem ge_i (i j : Int) : cmpD .GtE (.d (.int i)) (.d (.int j)) = .ok (.d (.bool (decide (j ≤ i)))) := rfl
@[simp] theorem isTy_tt (xs : List D) : isTy .tuple (.tuple xs) = .ok true := rfl
@[simp] theorem isTy_ss (x : Str) : isTy .str (.str x) = .ok true := rfl
@[simp] theorem isTy_ii (x : Int) : isTy .int (.int x) = .ok true := rfl
@[simp] theorem isTy_bi (x : Int) : isTy .bool (.int x) = .ok false := rfl
@[simp] theorem seqD_t (xs : List D) : seqD (.d (.tuple xs)) = .ok xs := rfl
@[simp] theorem seqD_l (xs : List D) : seqD (.d (.list xs)) = .ok xs := rfl
@[simp] theorem itD_seq (a b : R) : itD .seq a b = (match seqD a with
    | .ok xs => .ok xs
    | .ex c => .ex c
    | .no => charsD a) := rfl
@[simp] theorem itD_enum (a b : R) : itD .enum a b = (seqD a).bind fun xs => .ok (enumD xs) := rfl
@[simp] theorem encI_ty (xs : List Int) : isTy .tuple (encI xs) = .ok true := rfl
@[simp] theorem encI_len (xs : List Int) : bltD .len [.d (encI xs)] = .ok (.d (.int xs.length)) := by
  show M.ok (R.d (PyData.int ((xs.map PyData.int).length : Nat))) = _
  rw [List.length_map]
@[simp] theorem encI_ix (xs : List Int) (i : Int) : ixD (.d (encI xs)) (.d (.int i)) = (M.opt (L2.atI xs i)).bind fun x => .ok (.d (.int x)) := by
  show (M.opt (L2.atI (xs.map PyData.int) i)).bind _ = _
  rw [atI_map]
  cases L2.atI xs i <;> rfl
@[simp] theorem encI_seq (xs : List Int) : seqD (.d (encI xs)) = .ok (xs.map .int) := rfl
@[simp] theorem encS_ty (s : Sw) : isTy .tuple (encS s) = .ok true := rfl
@[simp] theorem encS_len (s : Sw) : bltD .len [.d (encS s)] = .ok (.d (.int 4)) := rfl
@[simp] theorem encS_0 (s : Sw) : ixD (.d (encS s)) (.d (.int 0)) = .ok (.d (.int s.v)) := rfl
@[simp] theorem encS_1 (s : Sw) : ixD (.d (encS s)) (.d (.int 1)) = .ok (.d (wayD s.up)) := rfl
@[simp] theorem encS_2 (s : Sw) : ixD (.d (encS s)) (.d (.int 2)) = .ok (.d (.int s.mark)) := rfl
@[simp] theorem encS_3 (s : Sw) : ixD (.d (encS s)) (.d (.int 3)) = .ok (.d (.int s.to)) := rfl
@[simp] theorem encS_set (s : Sw) (ts : List Tg) (ρ : PF.Env) : setT (.tup ts) (encS s) ρ = setTs ts [.int s.v, wayD s.up, .int s.mark, .int s.to] ρ := setT_tup ρ _ _
@[simp] theorem encM_ty (m : Md) : isTy .tuple (encM m) = .ok true := rfl
@[simp] theorem encM_len (m : Md) : bltD .len [.d (encM m)] = .ok (.d (.int 2)) := rfl
@[simp] theorem encM_0 (m : Md) : ixD (.d (encM m)) (.d (.int 0)) = .ok (.d (encI m.rates)) := rfl
@[simp] theorem encM_1 (m : Md) : ixD (.d (encM m)) (.d (.int 1)) = .ok (.d (.tuple (m.sws.map encS))) := rfl
@[simp] theorem encM_set (m : Md) (ts : List Tg) (ρ : PF.Env) : setT (.tup ts) (encM m) ρ = setTs ts [encI m.rates, .tuple (m.sws.map encS)] ρ := setT_tup ρ _ _
@[simp] theorem encW_ty (w : Wk) : isTy .tuple (encW w) = .ok true := rfl
@[simp] theorem encW_len (w : Wk) : bltD .len [.d (encW w)] = .ok (.d (.int 3)) := rfl
@[simp] theorem encW_0 (w : Wk) : ixD (.d (encW w)) (.d (.int 0)) = .ok (.d (encI w.brims)) := rfl
@[simp] theorem encW_1 (w : Wk) : ixD (.d (encW w)) (.d (.int 1)) = .ok (.d (.tuple (w.modes.map encM))) := rfl
@[simp] theorem encW_2 (w : Wk) : ixD (.d (encW w)) (.d (.int 2)) = .ok (.d (.tuple [.int w.at_, encI w.levels])) := rfl
@[simp] theorem encW_set (w : Wk) (ts : List Tg) (ρ : PF.Env) : setT (.tup ts) (encW w) ρ = setTs ts [encI w.brims, .tuple (w.modes.map encM), .tuple [.int w.at_, encI w.levels]] ρ := setT_tup ρ _ _
@[simp] theorem wayD_str (b : Bool) : isTy .str (wayD b) = .ok true := rfl
@[simp] theorem is_within_ok {k : Nat} (x a b : Int) : runF tab (k + 1) i_is_within [.int x, .int a, .int b] = .ok (.d (.bool (decide (a ≤ x ∧ x ≤ b)))) := by
  rw [runF_of tab_is_within rfl]
  simp [f_is_within, startE]
theorem filt_all {α : Type} (xs : List α) (p : α → Bool) (f : α → D) : ((xs.filter fun x => !p x).map f).isEmpty = xs.all p := by
  induction xs with
  | nil => rfl
  | cons x r ih =>
    cases q : p x <;> simp [q] at *
    exact ih
@[simp] theorem are_numbers_ok {k : Nat} (xs : List Int) (a b : Int) : runF tab (k + 2) i_are_numbers [encI xs, .int a, .int b] = .ok (.d (.bool (decide (∀ x ∈ xs, a ≤ x ∧ x ≤ b)))) := by
  rw [runF_of tab_are_numbers rfl]
  simp [f_are_numbers, startE]
  rw [compD_map (fun x => .int x) (fun x => !decide (a ≤ x ∧ x ≤ b)) (fun x => .int x) xs]
  · simp only [M.bind_ok, truthy_o, filt_all, M.ctl_ok, Ctl.seq_rt, fin_rt, Bool.not_not]
    congr 3
    simp [List.all_eq]
  · intro x hx
    simp [is_within_ok]
@[simp] theorem up_way : PyData.str ("up" : Str) = wayD true := rfl
@[simp] theorem down_way : PyData.str ("down" : Str) = wayD false := rfl
@[simp] theorem eq_way (a b : Bool) : cmpD .Eq (.d (wayD a)) (.d (wayD b)) = .ok (.d (.bool (a == b))) := by
  cases a <;> cases b <;> exact (M.chk_pos ⟨by decide +kernel, by decide +kernel⟩).trans (by rw [boolR_eq]; congr 3)
@[simp] theorem ix_way (a b c : Bool) : ixD (.o [wayD a, wayD b]) (.d (.int (if c = true then 1 else 0))) = .ok (.d (wayD (if c = true then b else a))) := by cases c <;> rfl
@[simp] theorem wayD_in (b : Bool) : cmpD .NotIn (.d (wayD b)) (.d (.tuple [wayD true, wayD false])) = .ok (.d (.bool false)) := by
  cases b
  · exact (M.chk_pos ⟨rfl, rfl⟩).trans rfl
  · exact (M.chk_pos ⟨rfl, rfl⟩).trans rfl
def okS (brims : List Int) (many : Int) (s : Sw) : Prop := (0 ≤ s.v ∧ s.v ≤ brims.length - 1) ∧ (0 ≤ s.mark ∧ s.mark ≤ brims.getD s.v.toNat 0) ∧ (0 ≤ s.to ∧ s.to ≤ many - 1)
instance (brims : List Int) (many : Int) (s : Sw) : Decidable (okS brims many s) := by unfold okS; exact inferInstance
def okM (brims : List Int) (many : Int) (m : Md) : Prop := (∀ r ∈ m.rates, -99 ≤ r ∧ r ≤ 99) ∧ m.rates.length = brims.length ∧ m.sws.length ≤ 6 ∧ ∀ s ∈ m.sws, okS brims many s
instance (brims : List Int) (many : Int) (m : Md) : Decidable (okM brims many m) := by unfold okM; exact inferInstance
def okW (w : Wk) : Prop := (∀ b ∈ w.brims, 1 ≤ b ∧ b ≤ 999) ∧ (1 ≤ w.brims.length ∧ w.brims.length ≤ 4) ∧ (1 ≤ w.modes.length ∧ w.modes.length ≤ 12) ∧ (∀ m ∈ w.modes, okM w.brims w.modes.length m) ∧ (0 ≤ w.at_ ∧ w.at_ ≤ w.modes.length - 1) ∧
  (∀ l ∈ w.levels, 0 ≤ l ∧ l ≤ 999) ∧ w.levels.length = w.brims.length ∧ ∀ i ∈ List.range w.brims.length, w.levels.getD i 0 ≤ w.brims.getD i 0
instance (w : Wk) : Decidable (okW w) := by unfold okW; exact inferInstance
theorem beq_of_iff {a b : Bool} (h : a = true ↔ b = true) : a = b := Bool.eq_iff_iff.mpr h
theorem okb {a b : Bool} (h : a = true ↔ b = true) : (M.ok (R.d (.bool a)) : M R) = .ok (.d (.bool b)) := by rw [beq_of_iff h]
@[simp] theorem is_switch_ok {k : Nat} (s : Sw) (brims : List Int) (many : Int) : runF tab (k + 2) i_is_switch [encS s, encI brims, .int many] = .ok (.d (.bool (decide (okS brims many s)))) := by
  rw [runF_of tab_is_switch rfl]
  by_cases h : 0 ≤ s.v ∧ s.v ≤ brims.length - 1
  · have e := atI_pos (d := (0 : Int)) (xs := brims) h.1 (by omega)
    simp [f_is_switch, startE, h, e, okS]
    grind
  · simp [f_is_switch, startE, h, okS]
@[simp] theorem is_mode_ok {k : Nat} (m : Md) (brims : List Int) (many : Int) : runF tab (k + 3) i_is_mode [encM m, encI brims, .int many] = .ok (.d (.bool (decide (okM brims many m)))) := by
  rw [runF_of tab_is_mode rfl]
  simp [f_is_mode, startE, okM]
  rw [compD_map encS (fun s => !decide (okS brims many s)) encS]
  · simp only [M.bind_ok, truthy_o, filt_all, M.ctl_ok, Ctl.seq_rt, fin_rt, Bool.not_not]
    simp
    grind
  · intro x hx
    simp
theorem all_range {n : Nat} {p : Nat → Prop} [DecidablePred p] : ((List.range n).all fun i => decide (p i)) = true ↔ ∀ i, i < n → p i := by simp
theorem sizeLine_big : (1000000 : Nat) ≤ sizeLine := by rw [sizeLine_eq]; omega
theorem rngD_nat {n : Nat} (h : n ≤ 1000000) : rngD 0 (n : Int) = .ok ((List.range n).map fun (i : Nat) => PyData.int (i : Int)) := by
  unfold rngD
  have := sizeLine_big
  rw [M.chk_pos (by simp; omega)]
  simp
@[simp] theorem itD_rng1 (j : Int) (b : R) : itD .rng1 (.d (.int j)) b = rngD 0 j := by
  have e : ∀ x : M (List D), x = rngD 0 j → itD .rng1 (.d (.int j)) b = x := fun x h => h ▸ rfl
  exact e _ rfl
@[simp] theorem is_works_ok {k : Nat} (w : Wk) : runF tab (k + 4) i_is_works [encW w] = .ok (.d (.bool (decide (okW w)))) := by
  rw [runF_of tab_is_works rfl]
  by_cases h : w.brims.length ≤ 4
  · simp [f_is_works, startE]
    rw [compD_map encM (fun s => !decide (okM w.brims w.modes.length s)) encM]
    · simp only [M.bind_ok, truthy_o, filt_all, M.ctl_ok, Ctl.seq_rt, fin_rt, Bool.not_not]
      by_cases h2 : w.levels.length = w.brims.length
      · simp [rngD_nat (show w.brims.length ≤ 1000000 by omega)]
        rw [compD_map (fun (i : Nat) => PyData.int (i : Int)) (fun i => !decide (w.levels.getD i 0 ≤ w.brims.getD i 0)) (fun (i : Nat) => PyData.int (i : Int))]
        · simp only [M.bind_ok, truthy_o, filt_all, M.ctl_ok, Ctl.seq_rt, fin_rt, Bool.not_not]
          simp
          apply beq_of_iff
          simp [okW, h2]
          grind
        · intro i hi
          have hi : i < w.brims.length := by simpa using hi
          have hi2 : i < w.levels.length := by omega
          simp [atI_nat', hi, hi2]
          grind
      · have h3 : ¬ okW w := fun z => h2 z.2.2.2.2.2.2.1
        have h4 : ¬ ((w.levels.length : Int) = w.brims.length) := by omega
        simp [h4, h3]
    · intro x hx
      simp
  · have h3 : ¬ okW w := fun z => h z.2.1.2
    have h4 : ¬ ((w.brims.length : Int) ≤ 4) := by omega
    simp [f_is_works, startE, h4, h3]
theorem checked_ok {k : Nat} (w : Wk) : runF tab (k + 5) i_checked [encW w] = if okW w then .ok (.d (encW w)) else .ex x_BadWorks := by
  rw [runF_of tab_checked rfl]
  simp [f_checked, startE]
end PF

end

section
/-! P3: the law's drawing of works. -/
namespace PF
open PySem PySem.Spec
theorem binD_mul (i j : Int) : binD .Mult (.d (.int i)) (.d (.int j)) = M.chk (CMulA i j) (.ok (.d (.int (i * j)))) := rfl
theorem binD_mod (i j : Int) : binD .Mod (.d (.int i)) (.d (.int j)) = M.chk (0 < j) (.ok (.d (.int (i % j)))) := rfl
theorem binD_div (i j : Int) : binD .FloorDiv (.d (.int i)) (.d (.int j)) = M.chk (CDivM i j) (.ok (.d (.int (i.fdiv j)))) := rfl
theorem binD_pow (i j : Int) : binD .Pow (.d (.int i)) (.d (.int j)) = M.chk (L2.CPow i j) (.ok (.d (.int (i ^ j.toNat)))) := rfl
@[simp] theorem mul_r {i j : Int} (h1 : -18446744073709551616 < j) (h2 : j < 18446744073709551616) : binD .Mult (.d (.int i)) (.d (.int j)) = .ok (.d (.int (i * j))) := by
  rw [binD_mul, M.chk_pos (.inl (.inr ⟨by omega, by omega⟩))]
@[simp] theorem mul_l {i j : Int} (h1 : -18446744073709551616 < i) (h2 : i < 18446744073709551616) : binD .Mult (.d (.int i)) (.d (.int j)) = .ok (.d (.int (i * j))) := by
  rw [binD_mul, M.chk_pos (.inl (.inl ⟨by omega, by omega⟩))]
@[simp] theorem mod_r {i j : Int} (h : 0 < j) : binD .Mod (.d (.int i)) (.d (.int j)) = .ok (.d (.int (i % j))) := by
  rw [binD_mod, M.chk_pos h]
theorem div_r {i j : Int} (h : 0 < j) (h2 : j < 18446744073709551616) : binD .FloorDiv (.d (.int i)) (.d (.int j)) = .ok (.d (.int (i / j))) := by
  have l : j.natAbs.log2 < 64 := (Nat.log2_lt (by omega)).2 (by omega)
  rw [binD_div, M.chk_pos ⟨by omega, by omega⟩, Int.fdiv_eq_ediv_of_nonneg i (by omega)]
theorem pow_3 {i : Int} (h1 : 0 ≤ i) (h2 : i < 18446744073709551616) : binD .Pow (.d (.int i)) (.d (.int 3)) = .ok (.d (.int (i ^ 3))) := by
  rw [binD_pow, M.chk_pos ⟨by omega, by omega, by omega⟩]
  rfl
def cellI (ns : List Int) (k : Int) : Int := ns.getD k.toNat 0
abbrev encN (ns : List Int) : D := .list (ns.map .int)
theorem cell_ok {k : Nat} (ns : List Int) (i : Int) (h : 0 ≤ i) : runF tab (k + 1) i__law_cell [encN ns, .int i] = .ok (.d (.int (cellI ns i))) := by
  rw [runF_of tab__law_cell rfl]
  by_cases h2 : i < ns.length
  · have e := atI_pos (d := (0 : Int)) h h2
    simp [f__law_cell, startE, h2, e, cellI]
  · have e : cellI ns i = 0 := by
      unfold cellI
      rw [List.getD_eq_getElem?_getD, List.getElem?_eq_none (by omega)]
      rfl
    simp [f__law_cell, startE, h2, e]
@[simp] theorem max2_i (i j : Int) : bltD .max2 [.d (.int i), .d (.int j)] = .ok (.d (.int (max i j))) := by
  show M.ok (R.d (PyData.int (if j > i then j else i))) = _
  rw [show (if j > i then j else i) = max i j from by omega]
@[simp] theorem int_b (b : Bool) : bltD .int [.d (.bool b)] = .ok (.d (.int (if b = true then 1 else 0))) := rfl
theorem getD_mem {α : Type} {xs : List α} {i : Nat} {d : α} (h : i < xs.length) : xs.getD i d ∈ xs := by
  rw [List.getD_eq_getElem?_getD, List.getElem?_eq_getElem h]
  simp
/-- a switch of the first kind is drawn -/
@[simp] theorem shr_i (i j : Int) (h : 0 ≤ j) : binD .RShift (.d (.int i)) (.d (.int j)) = .ok (.d (.int (i / 2 ^ j.toNat))) := by
  show M.chk (0 ≤ j) (M.ok (R.d (PyData.int (i / 2 ^ j.toNat)))) = _
  rw [M.chk_pos h]
@[simp] theorem shl_1 (j : Int) (h : 0 ≤ j) (h2 : j ≤ 1000000) : binD .LShift (.d (.int 1)) (.d (.int j)) = .ok (.d (.int (2 ^ j.toNat))) := by
  show M.chk (L2.CPow 1 j) (M.ok (R.d (PyData.int (1 * 2 ^ j.toNat)))) = _
  rw [M.chk_pos ⟨h, h2, by decide⟩, Int.one_mul]
@[simp] theorem and_i (i j : Int) : binD .BitAnd (.d (.int i)) (.d (.int j)) = .ok (.d (.int (Builtin.bitAnd i j))) := rfl
@[simp] theorem and_0 : Builtin.bitAnd 0 1 = 0 := by decide +kernel
@[simp] theorem and_1 : Builtin.bitAnd 1 1 = 1 := by decide +kernel
@[simp] theorem and_2 : Builtin.bitAnd 2 1 = 0 := by decide +kernel
@[simp] theorem and_3 : Builtin.bitAnd 3 1 = 1 := by decide +kernel
theorem rng1_1 : rngD 0 1 = .ok [.int 0] := rngD_nat (n := 1) (by omega)
theorem rng1_2 : rngD 0 2 = .ok [.int 0, .int 1] := rngD_nat (n := 2) (by omega)
theorem rng1_4 : rngD 0 4 = .ok [.int 0, .int 1, .int 2, .int 3] := rngD_nat (n := 4) (by omega)
theorem forD_nil (tg : Tg) (b : PF.Env → Ctl) (ρ : PF.Env) : forD tg b [] ρ = .nx ρ := rfl
theorem forD_cons (tg : Tg) (b : PF.Env → Ctl) (d : D) (ds : List D) (ρ : PF.Env) : forD tg b (d :: ds) ρ = optC (setT tg d ρ) fun ρ1 => match b ρ1 with
    | .nx ρ2 => forD tg b ds ρ2
    | .ct ρ2 => forD tg b ds ρ2
    | .bk ρ2 => .nx ρ2
    | c => c := rfl
theorem compD_nil (tg : Tg) (t : PF.Env → M Bool) (e : PF.Env → M D) (ρ : PF.Env) : compD tg t e ρ [] = .ok [] := rfl
theorem compD_cons (tg : Tg) (t : PF.Env → M Bool) (e : PF.Env → M D) (ρ : PF.Env) (d : D) (ds : List D) : compD tg t e ρ (d :: ds) = (M.opt (setT tg d ρ)).bind fun ρ' => (M.noex (t ρ')).bind fun b =>
    if b = true then (M.noex (e ρ')).bind fun y => (compD tg t e ρ ds).bind fun r => .ok (y :: r) else compD tg t e ρ ds := rfl
@[simp] theorem fold_encI {α : Type} (g : α → Int) (l : List α) : PyData.tuple (l.map fun a => PyData.int (g a)) = encI (l.map g) := by simp [encI]
end PF

end

section
/-! P3: the law's drawing of works. -/
namespace PF
open PySem PySem.Spec
def mixI (c p m : Int) : Int := (c * 48271 % p) ^ 3 % p % m
theorem mixI_lo (c p : Int) {m : Int} (h : 0 < m) : 0 ≤ mixI c p m := Int.emod_nonneg _ (by omega)
theorem mixI_hi (c p : Int) {m : Int} (h : 0 < m) : mixI c p m < m := Int.emod_lt_of_pos _ h
theorem mix_ok {k : Nat} (c p m : Int) (hp : 0 < p) (hp2 : p < 1000000) (hm : 0 < m) : runF tab (k + 1) i__law_mix [.int c, .int p, .int m] = .ok (.d (.int (mixI c p m))) := by
  rw [runF_of tab__law_mix rfl]
  have a1 : 0 ≤ c * 48271 % p := Int.emod_nonneg _ (by omega)
  have a2 : c * 48271 % p < p := Int.emod_lt_of_pos _ hp
  simp [f__law_mix, startE, hp, hm, pow_3 a1 (by omega), mixI]
theorem works_2 {k : Nat} {a0 a1 a2 a7 a8 s12 s13 s14 : Sl} {many size seed : Int} {brims rates : List Int} (hb : brims.length = many) (hr : rates.length = many) (hb2 : ∀ b ∈ brims, 2 ≤ b) (hs : 0 < size) (sws : List Sw) (ok : ∀ s ∈ sws, okS brims size s) (len : sws.length ≤ 1000)
    (i : Nat) (hi : (i : Int) < many) : ∃ sws' : List Sw, (∀ s ∈ sws', okS brims size s) ∧ sws'.length ≤ sws.length + 1 ∧ ∃ s12' s13' : Sl, exB (runF tab (k + 1)) b__law_works_2 [a0, a1, a2, .val (.int many), .val (.int size), .val (encI brims), .val (.int i), a7, a8, .val (.int seed), .val (encI rates), .own (sws.map encS), s12, s13, s14] =
      .nx [a0, a1, a2, .val (.int many), .val (.int size), .val (encI brims), .val (.int i), a7, a8, .val (.int seed), .val (encI rates), .own (sws'.map encS), s12', s13', s14] := by
  have e1 := atI_pos (d := (0 : Int)) (xs := brims) (i := i) (by omega) (by omega)
  have e2 := atI_pos (d := (0 : Int)) (xs := rates) (i := i) (by omega) (by omega)
  have sl := sizeLine_big
  have lt : sws.length < sizeLine := by omega
  have b2 := hb2 _ (getD_mem (d := 0) (show i < brims.length by omega))
  have d1 := mixI_lo (seed + 23 * i) 9929 (m := brims.getD i 0 - 1) (by omega)
  have d2 := mixI_hi (seed + 23 * i) 9929 (m := brims.getD i 0 - 1) (by omega)
  have d3 := mixI_lo (seed + 29 * i + 1) 9923 hs
  have d4 := mixI_hi (seed + 29 * i + 1) 9923 hs
  have b3 : 1 < brims[i]?.getD 0 := by rw [← List.getD_eq_getElem?_getD]; omega
  by_cases h1 : mixI (seed + 7 * i) 9931 7 > 0
  · by_cases h2 : rates.getD i 0 = 0
    · refine ⟨sws, ok, by omega, s12, s13, ?_⟩
      simp at e1 e2 h2
      simp [b__law_works_2, e1, e2, mix_ok, h1, h2]
    · by_cases h3 : 0 < rates.getD i 0
      · refine ⟨sws ++ [⟨i, true, max (1 + mixI (seed + 23 * i) 9929 (brims.getD i 0 - 1)) 0, mixI (seed + 29 * i + 1) 9923 size⟩], ?_, by simp, .val (wayD true), .val (.int (1 + mixI (seed + 23 * i) 9929 (brims.getD i 0 - 1))), ?_⟩
        · intro s hs'
          rcases List.mem_append.mp hs' with q | q
          · exact ok s q
          · cases List.mem_singleton.mp q
            exact ⟨⟨by simp, by simp; omega⟩, ⟨by dsimp only; omega, by simp at *; omega⟩, d3, by simp; omega⟩
        · simp at e1 e2 h2 h3
          simp [b__law_works_2, e1, e2, mix_ok, h1, h2, h3, b3, hs, lt]
          rfl
      · refine ⟨sws ++ [⟨i, false, max (brims.getD i 0 - 1 - (1 + mixI (seed + 23 * i) 9929 (brims.getD i 0 - 1))) 0, mixI (seed + 29 * i + 1) 9923 size⟩], ?_, by simp, .val (wayD false), .val (.int (brims.getD i 0 - 1 - (1 + mixI (seed + 23 * i) 9929 (brims.getD i 0 - 1)))), ?_⟩
        · intro s hs'
          rcases List.mem_append.mp hs' with q | q
          · exact ok s q
          · cases List.mem_singleton.mp q
            exact ⟨⟨by simp, by simp; omega⟩, ⟨by dsimp only; omega, by simp at *; omega⟩, d3, by simp; omega⟩
        · simp at e1 e2 h2 h3
          have h4 : ¬ 0 < rates[i]?.getD 0 := by omega
          simp [b__law_works_2, e1, e2, mix_ok, h1, h2, h4, b3, hs, lt]
          rfl
  · refine ⟨sws, ok, by omega, s12, s13, ?_⟩
    simp [b__law_works_2, mix_ok, h1]
def ratesI (seed : Int) (n : Nat) : List Int := (List.range n).map fun (i : Nat) => mixI (seed + 17 * (i : Int) * i + i) 9941 11 - 5
theorem rates_len (seed : Int) (n : Nat) : (ratesI seed n).length = n := by simp [ratesI]
theorem rates_mem {seed : Int} {n : Nat} {r : Int} (h : r ∈ ratesI seed n) : -5 ≤ r ∧ r ≤ 5 := by
  simp only [ratesI, List.mem_map] at h
  obtain ⟨i, _, rfl⟩ := h
  have := mixI_lo (seed + 17 * (i : Int) * i + i) 9941 (m := 11) (by omega)
  have := mixI_hi (seed + 17 * (i : Int) * i + i) 9941 (m := 11) (by omega)
  omega
/-- what is drawn of a mode -/
def drM (brims : List Int) (size : Int) (m : Md) : Prop := okM brims size m ∧ (∀ r ∈ m.rates, -5 ≤ r ∧ r ≤ 5) ∧ m.sws.length ≤ 4
theorem works_1 {k n z : Nat} {ns : List Int} {at_ : Int} {a2 s6 s9 s10 s11 s12 s13 s14 : Sl} {brims : List Int} (hat : 0 ≤ at_) (hb : brims.length = n) (hb2 : ∀ b ∈ brims, 2 ≤ b) (hn : 0 < n) (hn2 : n ≤ 3) (hz : 0 < z) (ms : List Md) (ok : ∀ m ∈ ms, drM brims z m) (len : ms.length ≤ 1000) (i : Nat) :
    ∃ m : Md, drM brims z m ∧ ∃ s6' s9' s10' s11' s12' s13' : Sl, exB (runF tab (k + 1)) b__law_works_1 [.val (encN ns), .val (.int at_), a2, .val (.int n), .val (.int z), .val (encI brims), s6, .own (ms.map encM), .val (.int i), s9, s10, s11, s12, s13, s14] =
      .nx [.val (encN ns), .val (.int at_), a2, .val (.int n), .val (.int z), .val (encI brims), s6', .own ((ms ++ [m]).map encM), .val (.int i), s9', s10', s11', s12', s13', s14] := by
  have sl := sizeLine_big
  have lt : ms.length < sizeLine := by omega
  obtain ⟨seed, hseed⟩ : ∃ x, x = cellI ns (at_ + 2 + i) + 61 * i := ⟨_, rfl⟩
  have rl : (ratesI seed n).length = n := rates_len seed n
  have rm : ∀ r ∈ ratesI seed n, -5 ≤ r ∧ r ≤ 5 := fun r hr => rates_mem hr
  obtain ⟨ρ1, e1, sws, J1, J2, t6, t12, t13, J3⟩ := forD_inv (tg := .name 6) (b := exB (runF tab (k + 1)) b__law_works_2) (fun (i : Nat) => PyData.int (i : Int))
    (fun done ρ => ∃ sws : List Sw, (∀ s ∈ sws, okS brims z s) ∧ sws.length ≤ done.length ∧ ∃ t6 t12 t13 : Sl, ρ = [.val (encN ns), .val (.int at_), a2, .val (.int n), .val (.int z), .val (encI brims), t6, .own (ms.map encM), .val (.int i), .val (.int seed), .val (encI (ratesI seed n)), .own (sws.map encS), t12, t13, s14])
    (List.range n) [.val (encN ns), .val (.int at_), a2, .val (.int n), .val (.int z), .val (encI brims), s6, .own (ms.map encM), .val (.int i), .val (.int seed), .val (encI (ratesI seed n)), .own [], s12, s13, s14]
    ⟨[], by simp, by simp, s6, s12, s13, rfl⟩
    (by
      intro done x rest ρ hx ⟨sws, q1, q2, t6, t12, t13, q3⟩
      subst q3
      obtain ⟨dl, hx⟩ := range_at hx
      obtain ⟨sws', w1, w2, u12, u13, w3⟩ := works_2 (k := k) (a0 := .val (encN ns)) (a1 := .val (.int at_)) (a2 := a2) (a7 := .own (ms.map encM)) (a8 := .val (.int i)) (s12 := t12) (s13 := t13) (s14 := s14) (many := n) (size := z) (seed := seed) (brims := brims) (rates := ratesI seed n) (by omega) (by omega) hb2 (by omega) sws q1 (by omega) x (by omega)
      exact ⟨_, _, by simp, .inl w3, sws', w1, by simp; omega, _, u12, u13, rfl⟩)
  subst J3
  have J2 : sws.length ≤ 3 := by simp at J2; omega
  simp [b__law_works_1, cell_ok ns (at_ + 2 + i) (by omega), rngD_nat (show n ≤ 1000000 by omega), ← hseed]
  rw [compD_map1 (fun (i : Nat) => PyData.int (i : Int)) (fun (i : Nat) => .int (mixI (seed + 17 * (i : Int) * i + i) 9941 11 - 5))]
  · simp only [M.bind_ok, tuple_o, fold_encI, M.ctl_ok, store_d, Ctl.seq_nx, evp_cons]
    have er : List.map (fun (a : Nat) => mixI (seed + 17 * (a : Int) * a + a) 9941 11 - 5) (List.range n) = ratesI seed n := rfl
    rw [er]
    simp [rngD_nat (show n ≤ 1000000 by omega)]
    rw [e1]
    by_cases h : mixI seed 9907 5 = 1
    · obtain ⟨v, hv⟩ : ∃ v, v = mixI seed 9901 n := ⟨_, rfl⟩
      have v1 := mixI_lo seed 9901 (m := n) (by omega)
      have v2 := mixI_hi seed 9901 (m := n) (by omega)
      rw [← hv] at v1 v2
      have ev := atI_pos (d := (0 : Int)) (xs := brims) (i := v) (by omega) (by omega)
      have b2 := hb2 _ (getD_mem (d := 0) (show v.toNat < brims.length by omega))
      have b3 : 0 < brims[v.toNat]?.getD 0 + 1 := by rw [← List.getD_eq_getElem?_getD]; omega
      have w1 := mixI_lo seed 9887 b3
      have w2 := mixI_hi seed 9887 b3
      have u1 := mixI_lo seed 9883 (m := 2) (by omega)
      have u2 := mixI_hi seed 9883 (m := 2) (by omega)
      have x1 := mixI_lo seed 9871 (m := z) (by omega)
      have x2 := mixI_hi seed 9871 (m := z) (by omega)
      have lt2 : sws.length < sizeLine := by omega
      have way : ∃ up, ixD (.o [wayD true, wayD false]) (.d (.int (mixI seed 9883 2))) = .ok (.d (wayD up)) := by
        rcases (show mixI seed 9883 2 = 0 ∨ mixI seed 9883 2 = 1 by omega) with q | q
        · exact ⟨true, by rw [q]; rfl⟩
        · exact ⟨false, by rw [q]; rfl⟩
      obtain ⟨up, way⟩ := way
      refine ⟨⟨ratesI seed n, sws ++ [⟨v, up, mixI seed 9887 (brims[v.toNat]?.getD 0 + 1), mixI seed 9871 z⟩]⟩, ⟨⟨?_, by simp [rl, hb], by simp; omega, ?_⟩, rm, by simp; omega⟩, ?_⟩
      · intro r hr
        have := rm r hr
        omega
      · intro s hs'
        rcases List.mem_append.mp hs' with q | q
        · exact J1 s q
        · cases List.mem_singleton.mp q
          exact ⟨⟨v1, by simp; omega⟩, ⟨w1, by simp; omega⟩, x1, by simp; omega⟩
      · simp [mix_ok, h, hn, ← hv, ev, b3, hz, way, lt, lt2]
        simp [encM, encS]
    · refine ⟨⟨ratesI seed n, sws⟩, ⟨⟨?_, by simp [rl, hb], by simp; omega, J1⟩, rm, by simp; omega⟩, ?_⟩
      · intro r hr
        have := rm r hr
        omega
      · simp [mix_ok, h, lt]
        rfl
  · intro x hx
    have : (x : Int) < 3 := by simp at hx; omega
    simp [mix_ok, show (x : Int) < 18446744073709551616 by omega, show -18446744073709551616 < (x : Int) by omega]
structure Drawn (w : Wk) : Prop where
  brims : ∀ b ∈ w.brims, 2 ≤ b ∧ b ≤ 32
  few : 1 ≤ w.brims.length ∧ w.brims.length ≤ 3
  size : 1 ≤ w.modes.length ∧ w.modes.length ≤ 4
  modes : ∀ m ∈ w.modes, drM w.brims w.modes.length m
  at_ : 0 ≤ w.at_ ∧ w.at_ < w.modes.length
  many : w.levels.length = w.brims.length
  levels : ∀ i, i < w.brims.length → 0 ≤ w.levels.getD i 0 ∧ w.levels.getD i 0 ≤ w.brims.getD i 0
theorem works_ok {k : Nat} (ns : List Int) (at_ : Int) (hat : 0 ≤ at_) : ∃ w, Drawn w ∧ runF tab (k + 2) i__law_works [encN ns, .int at_] = .ok (.d (encW w)) := by
  rw [runF_of tab__law_works rfl]
  have sl := sizeLine_big
  obtain ⟨c, hc⟩ : ∃ c, c = cellI ns at_ := ⟨_, rfl⟩
  obtain ⟨n, hn, hn1, hn2⟩ : ∃ n : Nat, (n : Int) = (if mixI (cellI ns 0 + 7 * ns.length) 9871 8 = 3 then 1 + mixI c 9973 3 else 1 + mixI c 9973 2) ∧ 0 < n ∧ n ≤ 3 := by
    have a1 := mixI_lo c 9973 (m := 3) (by omega)
    have a2 := mixI_hi c 9973 (m := 3) (by omega)
    have a3 := mixI_lo c 9973 (m := 2) (by omega)
    have a4 := mixI_hi c 9973 (m := 2) (by omega)
    split
    · exact ⟨(1 + mixI c 9973 3).toNat, by omega, by omega, by omega⟩
    · exact ⟨(1 + mixI c 9973 2).toNat, by omega, by omega, by omega⟩
  obtain ⟨z, hz, hz1, hz2⟩ : ∃ z : Nat, (z : Int) = 1 + mixI c 9967 4 ∧ 0 < z ∧ z ≤ 4 := by
    have a1 := mixI_lo c 9967 (m := 4) (by omega)
    have a2 := mixI_hi c 9967 (m := 4) (by omega)
    exact ⟨(1 + mixI c 9967 4).toNat, by omega, by omega, by omega⟩
  obtain ⟨c1, hc1⟩ : ∃ c1, c1 = cellI ns (at_ + 1) := ⟨_, rfl⟩
  obtain ⟨brims, hbr⟩ : ∃ b : List Int, b = (List.range n).map fun (i : Nat) => 8 + mixI (c1 + 13 * (i : Int)) 9949 25 := ⟨_, rfl⟩
  have bl : brims.length = n := by rw [hbr]; simp
  have bm : ∀ b ∈ brims, 8 ≤ b ∧ b ≤ 32 := by
    intro b hb
    rw [hbr] at hb
    obtain ⟨i, _, rfl⟩ := List.mem_map.mp hb
    have a1 := mixI_lo (c1 + 13 * (i : Int)) 9949 (m := 25) (by omega)
    have a2 := mixI_hi (c1 + 13 * (i : Int)) 9949 (m := 25) (by omega)
    omega
  obtain ⟨ρ1, e1, ms, J1, J2, t6, t9, t10, t11, t12, t13, J3⟩ := forD_inv (tg := .name 8) (b := exB (runF tab (k + 1)) b__law_works_1) (fun (i : Nat) => PyData.int (i : Int))
    (fun done ρ => ∃ ms : List Md, (∀ m ∈ ms, drM brims z m) ∧ ms.length = done.length ∧ ∃ t6 t8 t9 t10 t11 t12 t13 : Sl, ρ = [.val (encN ns), .val (.int at_), .val (.int c), .val (.int n), .val (.int z), .val (encI brims), t6, .own (ms.map encM), t8, t9, t10, t11, t12, t13, .no])
    (List.range z) [.val (encN ns), .val (.int at_), .val (.int c), .val (.int n), .val (.int z), .val (encI brims), .no, .own [], .no, .no, .no, .no, .no, .no, .no]
    ⟨[], by simp, by simp, _, _, _, _, _, _, _, rfl⟩
    (by
      intro done x rest ρ hx ⟨ms, q1, q2, t6, t8, t9, t10, t11, t12, t13, q3⟩
      subst q3
      obtain ⟨dl, hx⟩ := range_at hx
      obtain ⟨m, w1, u6, u9, u10, u11, u12, u13, w3⟩ := works_1 (k := k) (a2 := .val (.int c)) (s6 := t6) (s9 := t9) (s10 := t10) (s11 := t11) (s12 := t12) (s13 := t13) (s14 := .no) (ns := ns) hat bl (fun b hb => by have := bm b hb; omega) hn1 hn2 hz1 ms q1 (by omega) x
      refine ⟨_, _, by simp, .inl w3, ms ++ [m], ?_, by simp; omega, _, _, _, _, _, _, _, rfl⟩
      intro m' hm'
      rcases List.mem_append.mp hm' with q | q
      · exact q1 m' q
      · cases List.mem_singleton.mp q
        exact w1)
  obtain ⟨t13', J3⟩ := J3
  subst J3
  have J2 : ms.length = z := by simpa using J2
  have lv : ∀ i, i < n → L2.atI brims (i : Int) = some (brims.getD i 0) := fun i hi => by
    have := atI_pos (d := (0 : Int)) (xs := brims) (i := i) (by omega) (by omega)
    simpa using this
  have bp : ∀ i, i < n → 0 < brims.getD i 0 + 1 := fun i hi => by
    have := bm _ (getD_mem (d := 0) (show i < brims.length by omega))
    omega
  have m1 := mixI_lo c 9857 (m := z) (by omega)
  have m2 := mixI_hi c 9857 (m := z) (by omega)
  refine ⟨⟨brims, ms, mixI c 9857 z, (List.range n).map fun (i : Nat) => mixI (c1 + 31 * (i : Int) + 5) 9859 (brims.getD i 0 + 1)⟩, ⟨fun b hb => by have := bm b hb; omega, by dsimp only; omega, by dsimp only; omega, ?_, by dsimp only; omega, by simp [bl], ?_⟩, ?_⟩
  · dsimp only
    rw [J2]
    exact J1
  · intro i hi
    have hi : i < n := by dsimp only at hi; omega
    have a1 := mixI_lo (c1 + 31 * (i : Int) + 5) 9859 (bp i hi)
    have a2 := mixI_hi (c1 + 31 * (i : Int) + 5) 9859 (bp i hi)
    simp [hi] at a1 a2 ⊢
    omega
  simp [f__law_works, startE, cell_ok, hat, ← hc, mix_ok, ← hn, ← hz, rngD_nat (show n ≤ 1000000 by omega)]
  rw [compD_map1 (fun (i : Nat) => PyData.int (i : Int)) (fun (i : Nat) => .int (8 + mixI (c1 + 13 * (i : Int)) 9949 25))]
  · simp only [M.bind_ok, tuple_o, fold_encI, M.ctl_ok, store_d, Ctl.seq_nx, evp_cons]
    rw [← hbr]
    simp [rngD_nat (show z ≤ 1000000 by omega)]
    rw [e1]
    simp [rngD_nat (show n ≤ 1000000 by omega)]
    rw [compD_map1 (fun (i : Nat) => PyData.int (i : Int)) (fun (i : Nat) => .int (mixI (c1 + 31 * (i : Int) + 5) 9859 (brims.getD i 0 + 1)))]
    · simp [mix_ok, hz1, encW]
    · intro x hx
      have hx : x < n := by simpa using hx
      have h1 := lv x hx
      have h2 := bp x hx
      simp at h1 h2
      simp [mix_ok, cell_ok ns (at_ + 1) (by omega), ← hc1, h1, h2, show (x : Int) < 18446744073709551616 by omega, show -18446744073709551616 < (x : Int) by omega]
  · intro x hx
    have : (x : Int) < 3 := by simp at hx; omega
    simp [mix_ok, cell_ok ns (at_ + 1) (by omega), ← hc1, show (x : Int) < 18446744073709551616 by omega, show -18446744073709551616 < (x : Int) by omega]
theorem Drawn.ok {w : Wk} (h : Drawn w) : okW w := by
  refine ⟨fun b hb => ?_, by have := h.few; omega, by have := h.size; omega, fun m hm => (h.modes m hm).1, by have := h.at_; omega, fun l hl => ?_, h.many, fun i hi => ?_⟩
  · have := h.brims b hb; omega
  · obtain ⟨i, hi, rfl⟩ := List.getElem_of_mem hl
    have hi' : i < w.brims.length := by rw [← h.many]; exact hi
    have := h.levels i hi'
    have b := h.brims _ (getD_mem (d := 0) hi')
    rw [List.getD_eq_getElem?_getD, List.getElem?_eq_getElem hi] at this
    simp at this b
    omega
  · exact (h.levels i (by simpa using hi)).2
end PF

end

section
/-! P3: the law's drawing of works. -/
namespace PF
open PySem PySem.Spec
def sawLow (x : Int) : Int := mixI x 9839 6
def sawHigh (x : Int) : Int := sawLow x + 2 + mixI x 9833 9
def sawBrim (x : Int) : Int := sawHigh x + mixI x 9829 4
def sawUp (x : Int) : Int := 1 + mixI x 9817 5
def sawDn (x : Int) : Int := -1 - mixI x 9811 5
def sawLev (x : Int) : Int := sawLow x + mixI x 9803 (sawHigh x - sawLow x + 1)
structure SawF (lo hi br up dn lv : Int) : Prop where
  f1 : 0 ≤ lo ∧ lo ≤ 5
  f2 : lo + 2 ≤ hi ∧ hi ≤ lo + 10
  f3 : hi ≤ br ∧ br ≤ hi + 3
  f4 : 1 ≤ up ∧ up ≤ 5
  f5 : -5 ≤ dn ∧ dn ≤ -1
  f6 : lo ≤ lv ∧ lv ≤ hi
theorem saw_f (x : Int) : SawF (sawLow x) (sawHigh x) (sawBrim x) (sawUp x) (sawDn x) (sawLev x) := by
  have a1 := mixI_lo x 9839 (m := 6) (by omega)
  have a2 := mixI_hi x 9839 (m := 6) (by omega)
  have b1 := mixI_lo x 9833 (m := 9) (by omega)
  have b2 := mixI_hi x 9833 (m := 9) (by omega)
  have c1 := mixI_lo x 9829 (m := 4) (by omega)
  have c2 := mixI_hi x 9829 (m := 4) (by omega)
  have d1 := mixI_lo x 9817 (m := 5) (by omega)
  have d2 := mixI_hi x 9817 (m := 5) (by omega)
  have e1 := mixI_lo x 9811 (m := 5) (by omega)
  have e2 := mixI_hi x 9811 (m := 5) (by omega)
  have p : 0 < sawHigh x - sawLow x + 1 := by unfold sawHigh; omega
  have f1 := mixI_lo x 9803 p
  have f2 := mixI_hi x 9803 p
  refine ⟨?_, ?_, ?_, ?_, ?_, ?_⟩
  · unfold sawLow; omega
  · unfold sawHigh; omega
  · unfold sawBrim; omega
  · unfold sawUp; omega
  · unfold sawDn; omega
  · unfold sawLev; omega
def saw1 (lo hi br up dn lv : Int) : Wk := ⟨[br], [⟨[up], [⟨0, true, hi, 1⟩]⟩, ⟨[dn], [⟨0, false, lo, 0⟩]⟩], 0, [lv]⟩
def saw2 (lo hi br up dn lv lo' hi' br' up' dn' lv' : Int) : Wk := ⟨[br, br'], [⟨[up, up'], [⟨0, true, hi, 1⟩, ⟨1, true, hi', 2⟩]⟩, ⟨[dn, up'], [⟨0, false, lo, 0⟩, ⟨1, true, hi', 3⟩]⟩,
  ⟨[up, dn'], [⟨0, true, hi, 3⟩, ⟨1, false, lo', 0⟩]⟩, ⟨[dn, dn'], [⟨0, false, lo, 2⟩, ⟨1, false, lo', 1⟩]⟩], 0, [lv, lv']⟩
theorem saw1_dr {lo hi br up dn lv : Int} (h : SawF lo hi br up dn lv) : Drawn (saw1 lo hi br up dn lv) := by
  obtain ⟨h1, h2, h3, h4, h5, h6⟩ := h
  constructor <;> simp [saw1, drM, okM, okS] <;> omega
theorem saw2_dr {lo hi br up dn lv lo' hi' br' up' dn' lv' : Int} (h : SawF lo hi br up dn lv) (h' : SawF lo' hi' br' up' dn' lv') : Drawn (saw2 lo hi br up dn lv lo' hi' br' up' dn' lv') := by
  obtain ⟨h1, h2, h3, h4, h5, h6⟩ := h
  obtain ⟨g1, g2, g3, g4, g5, g6⟩ := h'
  constructor
  case levels =>
    intro i hi
    simp [saw2] at hi ⊢
    rcases (show i = 0 ∨ i = 1 by omega) with q | q <;> subst q <;> simp <;> omega
  all_goals simp [saw2, drM, okM, okS] <;> omega
def sawW (c : Int) : Wk := if mixI c 9851 2 = 0 then saw1 (sawLow c) (sawHigh c) (sawBrim c) (sawUp c) (sawDn c) (sawLev c) else
  saw2 (sawLow c) (sawHigh c) (sawBrim c) (sawUp c) (sawDn c) (sawLev c) (sawLow (c + 41 + 3)) (sawHigh (c + 41 + 3)) (sawBrim (c + 41 + 3)) (sawUp (c + 41 + 3)) (sawDn (c + 41 + 3)) (sawLev (c + 41 + 3))
theorem saw_ok {k : Nat} (ns : List Int) (at_ : Int) (hat : 0 ≤ at_) : runF tab (k + 2) i__law_saw [encN ns, .int at_] = .ok (.d (encW (sawW (cellI ns at_)))) := by
  rw [runF_of tab__law_saw rfl]
  have sl := sizeLine_big
  obtain ⟨c, hc⟩ : ∃ c, c = cellI ns at_ := ⟨_, rfl⟩
  have a1 := mixI_lo c 9851 (m := 2) (by omega)
  have a2 := mixI_hi c 9851 (m := 2) (by omega)
  have hi : ∀ x : Int, 0 < mixI x 9839 6 + 2 + mixI x 9833 9 - mixI x 9839 6 + 1 := fun x => by
    have := mixI_lo x 9833 (m := 9) (by omega)
    omega
  have l0 : 0 < sizeLine := by omega
  have l1 : 1 < sizeLine := by omega
  have l2 : 2 < sizeLine := by omega
  have l3 : 3 < sizeLine := by omega
  rcases (show mixI c 9851 2 = 0 ∨ mixI c 9851 2 = 1 by omega) with q | q
  · simp [f__law_saw, b__law_saw_1, b__law_saw_2, b__law_saw_3, startE, cell_ok, hat, ← hc, mix_ok, q, rng1_1, rng1_2, rng1_4, forD_nil, forD_cons, compD_nil, compD_cons, hi, l0, l1, l2, l3]
    simp [sawW, q, saw1, encW, encM, encS, encI, sawLow, sawHigh, sawBrim, sawUp, sawDn, sawLev]
  · simp [f__law_saw, b__law_saw_1, b__law_saw_2, b__law_saw_3, startE, cell_ok, hat, ← hc, mix_ok, q, rng1_1, rng1_2, rng1_4, forD_nil, forD_cons, compD_nil, compD_cons, hi, l0, l1, l2, l3]
    simp [sawW, q, saw2, encW, encM, encS, encI, sawLow, sawHigh, sawBrim, sawUp, sawDn, sawLev]
theorem sawW_dr (c : Int) : Drawn (sawW c) := by
  unfold sawW
  split
  · exact saw1_dr (saw_f c)
  · exact saw2_dr (saw_f c) (saw_f _)
theorem drawn_ok {k : Nat} (ns : List Int) (at_ : Int) (hat : 0 ≤ at_) : ∃ w, Drawn w ∧ runF tab (k + 3) i__law_drawn [encN ns, .int at_] = .ok (.d (encW w)) := by
  rw [runF_of tab__law_drawn rfl]
  obtain ⟨w, hw, e⟩ := works_ok (k := k) ns at_ hat
  by_cases h : mixI (cellI ns at_) 9791 3 = 1
  · exact ⟨sawW (cellI ns at_), sawW_dr _, by simp [f__law_drawn, startE, cell_ok, hat, mix_ok, h, saw_ok ns at_ hat]⟩
  · exact ⟨w, hw, by simp [f__law_drawn, startE, cell_ok, hat, mix_ok, h, e]⟩
end PF

end

section
/-! P4: what may be compared; slices; more. -/
namespace PF
open PySem PySem.Spec PyProof.Rows L2
/-- data of little depth whose texts are ways: may be compared -/
theorem canLayAll_map {α : Type} (f : α → D) (xs : List α) (h : ∀ x ∈ xs, (f x).canLay0 = true) : PyData.canLayAll0 (xs.map f) = true := by
  induction xs with
  | nil => rfl
  | cons x r ih =>
    show ((f x).canLay0 && PyData.canLayAll0 (r.map f)) = true
    rw [h x (by simp), ih fun y hy => h y (by simp [hy])]
    rfl
theorem depthAll_le {α : Type} (f : α → D) (xs : List α) (n : Nat) (h : ∀ x ∈ xs, (f x).depth ≤ n) : PyData.depthAll (xs.map f) ≤ n := by
  induction xs with
  | nil => exact Nat.zero_le _
  | cons x r ih =>
    show max (f x).depth (PyData.depthAll (r.map f)) ≤ n
    have := h x (by simp)
    have := ih fun y hy => h y (by simp [hy])
    omega
/-- n: a bound of the depth -/
def Lay (n : Nat) (d : D) : Prop := d.canLay0 = true ∧ d.depth ≤ n
theorem Lay.shaped {n : Nat} {d : D} (h : Lay n d) (l : n ≤ 64) : SeqAt.shaped d = true := by
  unfold SeqAt.shaped
  rw [h.1, decide_eq_true (Nat.le_trans h.2 l)]
  rfl
theorem Lay.eqv {n : Nat} {d : D} (h : Lay n d) : PyData.eqv d d = true := PySem.SeqAt.eqv_refl d h.1
theorem Lay.mono {n m : Nat} {d : D} (h : Lay n d) (l : n ≤ m) : Lay m d := ⟨h.1, Nat.le_trans h.2 l⟩
theorem lay_i (i : Int) : Lay 0 (.int i) := ⟨rfl, Nat.le_refl _⟩
theorem lay_b (i : Bool) : Lay 0 (.bool i) := ⟨rfl, Nat.le_refl _⟩
theorem lay_way (b : Bool) : Lay 0 (wayD b) := by cases b <;> exact ⟨by decide +kernel, Nat.le_refl _⟩
theorem lay_tm {α : Type} {n : Nat} (f : α → D) (xs : List α) (h : ∀ x ∈ xs, Lay n (f x)) : Lay (n + 1) (.tuple (xs.map f)) :=
  ⟨canLayAll_map f xs fun x hx => (h x hx).1, Nat.succ_le_succ (depthAll_le f xs n fun x hx => (h x hx).2)⟩
theorem lay_lm {α : Type} {n : Nat} (f : α → D) (xs : List α) (h : ∀ x ∈ xs, Lay n (f x)) : Lay (n + 1) (.list (xs.map f)) :=
  ⟨canLayAll_map f xs fun x hx => (h x hx).1, Nat.succ_le_succ (depthAll_le f xs n fun x hx => (h x hx).2)⟩
theorem lay_t {n : Nat} (xs : List D) (h : ∀ x ∈ xs, Lay n x) : Lay (n + 1) (.tuple xs) := by
  have := lay_tm (fun d => d) xs h
  rwa [List.map_id'] at this
theorem lay_l {n : Nat} (xs : List D) (h : ∀ x ∈ xs, Lay n x) : Lay (n + 1) (.list xs) := by
  have := lay_lm (fun d => d) xs h
  rwa [List.map_id'] at this
theorem lay_I (xs : List Int) : Lay 1 (encI xs) := lay_tm _ xs fun x _ => lay_i x
theorem lay_S (s : Sw) : Lay 1 (encS s) := lay_t _ fun x hx => by
  simp at hx
  rcases hx with rfl | rfl | rfl | rfl
  · exact lay_i _
  · exact lay_way _
  · exact lay_i _
  · exact lay_i _
theorem lay_M (m : Md) : Lay 3 (encM m) := lay_t _ fun x hx => by
  simp at hx
  rcases hx with rfl | rfl
  · exact (lay_I _).mono (by omega)
  · exact lay_tm _ _ fun s _ => lay_S s
theorem lay_W (w : Wk) : Lay 5 (encW w) := lay_t _ fun x hx => by
  simp at hx
  rcases hx with rfl | rfl | rfl
  · exact (lay_I _).mono (by omega)
  · exact lay_tm _ _ fun s _ => lay_M s
  · refine Lay.mono (n := 2) (lay_t _ fun x hx => ?_) (by omega)
    simp at hx
    rcases hx with rfl | rfl
    · exact (lay_i _).mono (by omega)
    · exact lay_I _
theorem eq_lay {a b : R} {n m : Nat} (ha : Lay n a.toD) (hb : Lay m b.toD) (hn : n ≤ 64) (hm : m ≤ 64) : cmpD .Eq a b = .ok (.d (.bool (PyData.eqv a.toD b.toD))) := by
  show M.chk _ _ = _
  rw [M.chk_pos ⟨ha.shaped hn, hb.shaped hm⟩, boolR_eq]
theorem ne_lay {a b : R} {n m : Nat} (ha : Lay n a.toD) (hb : Lay m b.toD) (hn : n ≤ 64) (hm : m ≤ 64) : cmpD .NotEq a b = .ok (.d (.bool (!PyData.eqv a.toD b.toD))) := by
  show M.chk _ _ = _
  rw [M.chk_pos ⟨ha.shaped hn, hb.shaped hm⟩, boolR_eq]
theorem same_lay {a b : R} {n : Nat} (ha : Lay n a.toD) (e : a.toD = b.toD) (hn : n ≤ 64) : cmpD .Eq a b = .ok (.d (.bool true)) := by
  rw [eq_lay ha (e ▸ ha) hn hn, ← e, ha.eqv]
theorem notne_lay {a b : R} {n : Nat} (ha : Lay n a.toD) (e : a.toD = b.toD) (hn : n ≤ 64) : cmpD .NotEq a b = .ok (.d (.bool false)) := by
  rw [ne_lay ha (e ▸ ha) hn hn, ← e, ha.eqv]
  rfl
section
variable (F : Nat → List D → M R) (ρ : PF.Env)
@[simp] theorem exS_try (body : List CS) (row : List Bool) (slot : Option Nat) (suite : List CS) : exS F (.try body row slot suite) ρ = (match exB F body ρ with
    | .ex c ρ' => match row[c]? with
      | some true => unslot slot (exB F suite (match slot with
        | some i => ρ'.set i (.exc c)
        | none => ρ'))
      | some false => .ex c ρ'
      | none => .no
    | r => r) := by rw [exS] <;> rfl
@[simp] theorem ev_isE (i : Nat) (cs : List Nat) : ev F (.isE i cs) ρ = (match ρ.getD i .no with
    | .exc e => boolR (cs.contains e)
    | _ => .no) := by rw [ev] <;> rfl
end
@[simp] theorem unslot_rt (slot : Option Nat) (r : R) : unslot slot (.rt r) = .rt r := rfl
theorem exB_append (F : Nat → List D → M R) : ∀ (a b : List CS) (ρ : PF.Env), exB F (a ++ b) ρ = (exB F a ρ).seq (exB F b)
  | [], b, ρ => by simp
  | s :: a, b, ρ => by
    rw [List.cons_append, exB_cons, exB_cons]
    cases exS F s ρ <;> simp [exB_append F a b]
@[simp] theorem sl_enc (xs : List Int) (l h : Option Int) : slD (.d (encI xs)) l h = .ok (.d (.tuple (cutD (xs.map .int) l h))) := rfl
@[simp] theorem sl_t (xs : List D) (l h : Option Int) : slD (.d (.tuple xs)) l h = .ok (.d (.tuple (cutD xs l h))) := rfl
@[simp] theorem sl_W (w : Wk) (l h : Option Int) : slD (.d (encW w)) l h = .ok (.d (.tuple (cutD [encI w.brims, .tuple (w.modes.map encM), .tuple [.int w.at_, encI w.levels]] l h))) := rfl
@[simp] theorem cut_1 (x : D) (xs : List D) : cutD (x :: xs) (some 1) none = xs := by
  unfold cutD HT.sIx
  simp
@[simp] theorem partC_none (m : M D) : partC (.con .none) m = .ok none := rfl
@[simp] theorem partC_int (i : Int) (m : M D) : partC (.con (.int i)) m = m.bind partD := rfl
@[simp] theorem partD_int (i : Int) : partD (.int i) = .ok (some i) := rfl
theorem add_tt (xs ys : List D) : binD .Add (.d (.tuple xs)) (.d (.tuple ys)) = M.chk (xs.length + ys.length ≤ sizeLine) (.ok (.d (.tuple (xs ++ ys)))) := rfl
@[simp] theorem add_t1 (x : D) (ys : List D) (h : ys.length ≤ 1000) : binD .Add (.d (.tuple [x])) (.d (.tuple ys)) = .ok (.d (.tuple (x :: ys))) := by
  have := sizeLine_big
  rw [add_tt, M.chk_pos (by simp; omega)]
  rfl
def absI (i : Int) : Int := if i < 0 then -i else i
@[simp] theorem abs_i (i : Int) : bltD .abs [.d (.int i)] = .ok (.d (.int (absI i))) := rfl
theorem intsD_ints (xs : List Int) : intsD (xs.map PyData.int) = some xs := by
  induction xs with
  | nil => rfl
  | cons x r ih => simp [intsD, ih]
theorem max1_o (x : Int) (xs : List Int) : bltD .max1 [.o ((x :: xs).map PyData.int)] = .ok (.d (.int (xs.foldl max x))) := by
  show (M.opt (intsD ((x :: xs).map PyData.int))).bind maxI = _
  rw [intsD_ints]
  rfl
theorem max1_t (x : Int) (xs : List Int) : bltD .max1 [.d (encI (x :: xs))] = .ok (.d (.int (xs.foldl max x))) := by
  show (M.opt (intsD ((x :: xs).map PyData.int))).bind maxI = _
  rw [intsD_ints]
  rfl
theorem add_ll (xs ys : List D) (h : xs.length + ys.length ≤ 1000000) : binD .Add (.o xs) (.o ys) = .ok (.o (xs ++ ys)) := by
  show M.chk (xs.length + ys.length ≤ sizeLine) (M.ok (R.o (xs ++ ys))) = _
  have := sizeLine_big
  rw [M.chk_pos (by omega)]
theorem tt_eq : cmpD .Eq (.o [.bool true, .bool true]) (.o [.bool true, .bool true]) = .ok (.d (.bool true)) :=
  same_lay (n := 1) (lay_l _ fun x hx => by simp at hx; subst hx; exact lay_b _) rfl (by omega)
@[simp] theorem frzE_nil (ρ : PF.Env) : frzE [] ρ = ρ := rfl
@[simp] theorem frzE_cons (i : Nat) (is : List Nat) (ρ : PF.Env) : frzE (i :: is) ρ = frzE is (frz1 i ρ) := rfl
@[simp] theorem frz1_eq (i : Nat) (ρ : PF.Env) : frz1 i ρ = (match ρ.getD i .no with
  | .own ds => ρ.set i (.val (.list ds))
  | _ => ρ) := rfl
@[simp] theorem negD_i (i : Int) : negD (.d (.int i)) = .ok (.d (.int (-i))) := rfl
theorem add_tt' (xs ys : List D) (h : xs.length + ys.length ≤ 1000000) : binD .Add (.d (.tuple xs)) (.d (.tuple ys)) = .ok (.d (.tuple (xs ++ ys))) := by
  have := sizeLine_big
  rw [add_tt, M.chk_pos (by omega)]
/-! ### == of data without truth values is sameness -/
mutual
def plain : D → Bool
  | .none => true
  | .int _ => true
  | .str _ => true
  | .list xs => plains xs
  | .tuple xs => plains xs
  | _ => false
def plains : List D → Bool
  | [] => true
  | x :: xs => plain x && plains xs
end
mutual
theorem eqv_same : ∀ (x y : D), plain x = true → plain y = true → PyData.eqv x y = true → x = y
  | .none, .none, _, _, _ => rfl
  | .int i, .int j, _, _, e => by simp only [PyData.eqv, beq_iff_eq] at e; rw [e]
  | .str i, .str j, _, _, e => by simp only [PyData.eqv, beq_iff_eq] at e; rw [e]
  | .list xs, .list ys, px, py, e => by
    simp only [PyData.eqv] at e
    simp only [plain] at px py
    rw [eqvs_same xs ys px py e]
  | .tuple xs, .tuple ys, px, py, e => by
    simp only [PyData.eqv] at e
    simp only [plain] at px py
    rw [eqvs_same xs ys px py e]
  | .bool _, _, px, _, _ => by simp [plain] at px
  | _, .bool _, _, py, _ => by simp [plain] at py
  | .dict _, _, px, _, _ => by simp [plain] at px
  | _, .dict _, _, py, _ => by simp [plain] at py
  | .none, .int _, _, _, e => by simp [PyData.eqv] at e
  | .none, .str _, _, _, e => by simp [PyData.eqv] at e
  | .none, .list _, _, _, e => by simp [PyData.eqv] at e
  | .none, .tuple _, _, _, e => by simp [PyData.eqv] at e
  | .int _, .none, _, _, e => by simp [PyData.eqv] at e
  | .int _, .str _, _, _, e => by simp [PyData.eqv] at e
  | .int _, .list _, _, _, e => by simp [PyData.eqv] at e
  | .int _, .tuple _, _, _, e => by simp [PyData.eqv] at e
  | .str _, .none, _, _, e => by simp [PyData.eqv] at e
  | .str _, .int _, _, _, e => by simp [PyData.eqv] at e
  | .str _, .list _, _, _, e => by simp [PyData.eqv] at e
  | .str _, .tuple _, _, _, e => by simp [PyData.eqv] at e
  | .list _, .none, _, _, e => by simp [PyData.eqv] at e
  | .list _, .int _, _, _, e => by simp [PyData.eqv] at e
  | .list _, .str _, _, _, e => by simp [PyData.eqv] at e
  | .list _, .tuple _, _, _, e => by simp [PyData.eqv] at e
  | .tuple _, .none, _, _, e => by simp [PyData.eqv] at e
  | .tuple _, .int _, _, _, e => by simp [PyData.eqv] at e
  | .tuple _, .str _, _, _, e => by simp [PyData.eqv] at e
  | .tuple _, .list _, _, _, e => by simp [PyData.eqv] at e
theorem eqvs_same : ∀ (xs ys : List D), plains xs = true → plains ys = true → PyData.eqvAll xs ys = true → xs = ys
  | [], [], _, _, _ => rfl
  | x :: xs, y :: ys, px, py, e => by
    simp only [PyData.eqvAll, Bool.and_eq_true] at e
    simp only [plains, Bool.and_eq_true] at px py
    rw [eqv_same x y px.1 py.1 e.1, eqvs_same xs ys px.2 py.2 e.2]
  | [], _ :: _, _, _, e => by simp [PyData.eqvAll] at e
  | _ :: _, [], _, _, e => by simp [PyData.eqvAll] at e
end
theorem plains_map {α : Type} (f : α → D) (xs : List α) (h : ∀ x ∈ xs, plain (f x) = true) : plains (xs.map f) = true := by
  induction xs with
  | nil => rfl
  | cons x r ih =>
    show (plain (f x) && plains (r.map f)) = true
    rw [h x (by simp), ih fun y hy => h y (by simp [hy])]
    rfl
theorem plain_i (i : Int) : plain (.int i) = true := rfl
theorem plain_s (s : Str) : plain (.str s) = true := rfl
theorem plain_n : plain .none = true := rfl
theorem plain_tm {α : Type} (f : α → D) (xs : List α) (h : ∀ x ∈ xs, plain (f x) = true) : plain (.tuple (xs.map f)) = true := plains_map f xs h
theorem plain_lm {α : Type} (f : α → D) (xs : List α) (h : ∀ x ∈ xs, plain (f x) = true) : plain (.list (xs.map f)) = true := plains_map f xs h
theorem plain_t (xs : List D) (h : ∀ x ∈ xs, plain x = true) : plain (.tuple xs) = true := by
  have := plain_tm (fun d => d) xs h
  rwa [List.map_id'] at this
theorem plain_l (xs : List D) (h : ∀ x ∈ xs, plain x = true) : plain (.list xs) = true := by
  have := plain_lm (fun d => d) xs h
  rwa [List.map_id'] at this
/-- == of what is laid and plain -/
theorem eq_plain {a b : R} {n m : Nat} (ha : Lay n a.toD) (hb : Lay m b.toD) (hn : n ≤ 64) (hm : m ≤ 64) (pa : plain a.toD = true) (pb : plain b.toD = true) : cmpD .Eq a b = .ok (.d (.bool (@decide (a.toD = b.toD) (Classical.propDecidable _)))) := by
  rw [eq_lay ha hb hn hm]
  congr 3
  by_cases h : a.toD = b.toD
  · rw [h, hb.eqv]; simp
  · cases q : PyData.eqv a.toD b.toD with
    | true => exact absurd (eqv_same _ _ pa pb q) h
    | false => simp [h]
theorem ne_plain {a b : R} {n m : Nat} (ha : Lay n a.toD) (hb : Lay m b.toD) (hn : n ≤ 64) (hm : m ≤ 64) (pa : plain a.toD = true) (pb : plain b.toD = true) : cmpD .NotEq a b = .ok (.d (.bool (!@decide (a.toD = b.toD) (Classical.propDecidable _)))) := by
  have h := eq_plain ha hb hn hm pa pb
  rw [eq_lay ha hb hn hm] at h
  rw [ne_lay ha hb hn hm]
  injection h with h
  injection h with h
  injection h with h
  rw [h]
def isNoneD : D → Bool
  | .none => true
  | _ => false
@[simp] theorem is_none (d : D) : cmpD .Is (.d d) (.d .none) = .ok (.d (.bool (isNoneD d))) := rfl
@[simp] theorem isn_n : isNoneD .none = true := rfl
@[simp] theorem isn_i (i : Int) : isNoneD (.int i) = false := rfl
@[simp] theorem isn_t (xs : List D) : isNoneD (.tuple xs) = false := rfl
theorem cut_last (xs : List D) (x : D) : cutD (xs ++ [x]) none (some (-1)) = xs := by
  have e : HT.sIx (xs ++ [x]).length (xs ++ [x]).length (some (-1)) = xs.length := by
    show (if (-1 : Int) < 0 then ((-1 : Int) + ((xs ++ [x]).length : Int)).toNat else min (-1 : Int).toNat (xs ++ [x]).length) = xs.length
    rw [if_pos (by omega), List.length_append, List.length_singleton]
    omega
  unfold cutD
  rw [e]
  simp [HT.sIx]
@[simp] theorem partC_neg (c : CE) (m : M D) : partC (.neg c) m = m.bind partD := rfl
@[simp] theorem sl_l (xs : List D) (l h : Option Int) : slD (.d (.list xs)) l h = .ok (.o (cutD xs l h)) := rfl
@[simp] theorem itD_zip (a b : R) : itD .zip a b = (seqD a).bind fun xs => (seqD b).bind fun ys => .ok ((xs.zip ys).map fun p => .tuple [p.1, p.2]) := rfl
@[simp] theorem partC_var (i : Nat) (m : M D) : partC (.var i) m = m.bind partD := rfl
@[simp] theorem partC_bin (op : Operator) (a b : CE) (m : M D) : partC (.bin op a b) m = m.bind partD := rfl
@[simp] theorem partC_ix (a b : CE) (m : M D) : partC (.ix a b) m = m.bind partD := rfl
theorem enumD_map {α : Type} (f : α → D) (xs : List α) : enumD (xs.map f) = xs.zipIdx.map fun p => PyData.tuple [.int p.2, f p.1] := by
  unfold enumD
  rw [List.zipIdx_map, List.map_map]
  rfl
section
variable (F : Nat → List D → M R) (ρ : PF.Env)
@[simp] theorem exS_setix (i : Nat) (ix e : CE) : exS F (.setix i ix e) ρ = (ev F e ρ).toD.ctl ρ fun d => (match ρ.getD i .no with
    | .own ds => (ev F ix ρ).ctl ρ fun k => (match k with
      | .d (.int k) => optC (L2.ixN ds.length k) fun j => .nx (ρ.set i (.own (ds.set j d)))
      | _ => .no)
    | _ => .no) := by rw [exS] <;> rfl
@[simp] theorem exS_aug (i : Nat) (e : CE) : exS F (.aug i e) ρ = (match ρ.getD i .no with
    | .val (.int n) => (ev F e ρ).ctl ρ fun r => (match r with
      | .d (.int m) => .nx (ρ.set i (.val (.int (n + m))))
      | _ => .no)
    | _ => .no) := by rw [exS] <;> rfl
@[simp] theorem exS_dnew (i : Nat) : exS F (.dnew i) ρ = .nx (ρ.set i (.dct [])) := by rw [exS]
@[simp] theorem exS_dput (i : Nat) (k e : CE) : exS F (.dput i k e) ρ = (ev F e ρ).toD.ctl ρ fun d => (dctOf ρ i).ctl ρ fun kvs => (ev F k ρ).toD.ctl ρ fun kd => optC (keyT kd) fun key => if kvs.length < sizeLine then .nx (ρ.set i (.dct (putD kvs key d))) else .no := by rw [exS]
@[simp] theorem exS_bad : exS F .bad ρ = .no := by rw [exS]
@[simp] theorem ev_dhas (neg : Bool) (i : Nat) (e : CE) : ev F (.dhas neg i e) ρ = (ev F e ρ).toD.bind fun d => (dctOf ρ i).bind fun kvs => (M.opt (keyT d)).bind fun k => boolR ((lookD kvs k).isSome != neg) := by rw [ev]
@[simp] theorem ev_dget (i : Nat) (e : CE) : ev F (.dget i e) ρ = (dctOf ρ i).bind fun kvs => (ev F e ρ).toD.bind fun d => (M.opt (keyT d)).bind fun k => (M.opt (lookD kvs k)).bind fun v => .ok (.d v) := by rw [ev]
@[simp] theorem ev_dlen (i : Nat) : ev F (.dlen i) ρ = (dctOf ρ i).bind fun kvs => .ok (.d (.int kvs.length)) := by rw [ev]
@[simp] theorem ev_rev (a : CE) : ev F (.rev a) ρ = (pk a ρ (ev F a ρ)).bind revD := by rw [ev]
@[simp] theorem pk_rev (a : CE) (m : M R) : pk (.rev a) ρ m = m := rfl
@[simp] theorem pk_dhas (neg : Bool) (i : Nat) (e : CE) (m : M R) : pk (.dhas neg i e) ρ m = m := rfl
@[simp] theorem pk_dget (i : Nat) (e : CE) (m : M R) : pk (.dget i e) ρ m = m := rfl
@[simp] theorem pk_dlen (i : Nat) (m : M R) : pk (.dlen i) ρ m = m := rfl
@[simp] theorem dctOf_eq (i : Nat) : dctOf ρ i = (match ρ.getD i .no with | .dct kvs => .ok kvs | _ => .no) := rfl
end
@[simp] theorem is_notnone (d : D) : cmpD .IsNot (.d d) (.d .none) = .ok (.d (.bool (!isNoneD d))) := by cases d <;> rfl
@[simp] theorem min2_i (i j : Int) : bltD .min2 [.d (.int i), .d (.int j)] = .ok (.d (.int (min i j))) := by
  show M.ok (R.d (PyData.int (if j < i then j else i))) = _
  rw [show (if j < i then j else i) = min i j from by omega]
end PF

end

section
/-! P30: boxes. -/
namespace PF
open PySem PySem.Spec PyProof.Rows L2
abbrev Bx := List (Int × Int)
def encPr (p : Int × Int) : D := .tuple [.int p.1, .int p.2]
def encBx (b : Bx) : D := .tuple (b.map encPr)
def encOB : Option Bx → D
  | none => .none
  | some b => encBx b
abbrev BSt := List (Option Bx)
def bxAt (b : Bx) (v : Int) : Int × Int := b.getD v.toNat (0, 0)
/-- a box lies in another one -/
def LeB (b c : Bx) : Prop := b.length = c.length ∧ ∀ i, i < b.length → (c.getD i (0, 0)).1 ≤ (b.getD i (0, 0)).1 ∧ (b.getD i (0, 0)).2 ≤ (c.getD i (0, 0)).2
theorem LeB.refl (b : Bx) : LeB b b := ⟨rfl, fun i _ => ⟨Int.le_refl _, Int.le_refl _⟩⟩
theorem LeB.trans {a b c : Bx} (h : LeB a b) (g : LeB b c) : LeB a c := ⟨h.1.trans g.1, fun i hi => by
  have h1 := h.2 i hi
  have h2 := g.2 i (by rw [← h.1]; exact hi)
  omega⟩
theorem LeB.antisymm {a b : Bx} (h : LeB a b) (g : LeB b a) : a = b := by
  apply List.ext_getElem h.1
  intro i h1 h2
  have e1 := h.2 i h1
  have e2 := g.2 i h2
  simp only [List.getD_eq_getElem?_getD, List.getElem?_eq_getElem h1, List.getElem?_eq_getElem h2, Option.getD_some] at e1 e2
  exact Prod.ext (by omega) (by omega)
/-! ### functions on boxes -/
def atOnce1 (b : Bx) (s : Sw) : Bool := if s.up = true then decide (s.mark ≤ (bxAt b s.v).1) else decide ((bxAt b s.v).2 ≤ s.mark)
def atOnce (md : Md) (b : Bx) : Bool := md.sws.any (atOnce1 b)
def marksOf (md : Md) (i : Nat) (up : Bool) : List Int := (md.sws.filter fun s => decide (s.v = (i : Int)) && (s.up == up)).map (·.mark)
def maxL : List Int → Int
  | [] => 0
  | x :: r => r.foldl max x
def minL : List Int → Int
  | [] => 0
  | x :: r => r.foldl min x
/-- one vessel's bounds, grown; none: nothing stops it -/
def flow1 (md : Md) (b : Bx) (p : Int × Nat) : Option (Int × Int) :=
  if 0 < p.1 then (if (marksOf md p.2 true).isEmpty = true then none else some ((b.getD p.2 (0, 0)).1, max (b.getD p.2 (0, 0)).2 (minL (marksOf md p.2 true))))
  else if p.1 < 0 then (if (marksOf md p.2 false).isEmpty = true then none else some (min (b.getD p.2 (0, 0)).1 (maxL (marksOf md p.2 false)), (b.getD p.2 (0, 0)).2))
  else some (b.getD p.2 (0, 0))
def optAll {α β : Type} (f : α → Option β) : List α → Option (List β)
  | [] => some []
  | a :: r => (f a).bind fun b => (optAll f r).map fun bs => b :: bs
def flowB (md : Md) (b : Bx) : Option Bx := if atOnce md b = true then some b else optAll (flow1 md b) md.rates.zipIdx
def partLo (b : Bx) (s : Sw) : Int := if s.up = true then max (bxAt b s.v).1 s.mark else (bxAt b s.v).1
def partHi (b : Bx) (s : Sw) : Int := if s.up = true then (bxAt b s.v).2 else min (bxAt b s.v).2 s.mark
def partB (b : Bx) (s : Sw) : Option Bx := if partHi b s < partLo b s then none else some (b.set s.v.toNat (partLo b s, partHi b s))
def joinB (b c : Bx) : Bx := (b.zip c).map fun p => (min p.1.1 p.2.1, max p.1.2 p.2.2)
def joinO : Option Bx → Option Bx → Option Bx
  | none, c => c
  | b, none => b
  | some b, some c => some (joinB b c)
/-! ### what is so of them -/
theorem joinB_len {b c : Bx} (h : b.length = c.length) : (joinB b c).length = b.length := by
  unfold joinB
  rw [List.length_map, List.length_zip]
  omega
theorem joinB_at {b c : Bx} {i : Nat} (h1 : i < b.length) (h2 : i < c.length) : (joinB b c).getD i (0, 0) = (min (b.getD i (0, 0)).1 (c.getD i (0, 0)).1, max (b.getD i (0, 0)).2 (c.getD i (0, 0)).2) := by
  unfold joinB
  have hz : i < (b.zip c).length := by rw [List.length_zip]; omega
  rw [List.getD_eq_getElem?_getD, List.getElem?_map, List.getElem?_eq_getElem hz, List.getElem_zip]
  simp [h1, h2]
theorem joinB_left {b c : Bx} (h : b.length = c.length) : LeB b (joinB b c) := ⟨(joinB_len h).symm, fun i hi => by
  rw [joinB_at hi (by omega)]
  dsimp only
  omega⟩
theorem joinB_right {b c : Bx} (h : b.length = c.length) : LeB c (joinB b c) := ⟨by rw [joinB_len h, h], fun i hi => by
  rw [joinB_at (by omega) hi]
  dsimp only
  omega⟩
theorem joinB_le {b c d : Bx} (h1 : LeB b d) (h2 : LeB c d) : LeB (joinB b c) d := by
  have e : b.length = c.length := h1.1.trans h2.1.symm
  refine ⟨(joinB_len e).trans h1.1, fun i hi => ?_⟩
  rw [joinB_len e] at hi
  have a1 := h1.2 i hi
  have a2 := h2.2 i (by omega)
  rw [joinB_at hi (by omega)]
  dsimp only
  omega
theorem atOnce_mono {md : Md} {b c : Bx} {n : Nat} (hn : b.length = n) (ok : ∀ s ∈ md.sws, 0 ≤ s.v ∧ s.v < n) (h : LeB b c) (e : atOnce md c = true) : atOnce md b = true := by
  unfold atOnce at e ⊢
  obtain ⟨s, hs, e⟩ := List.any_eq_true.mp e
  refine List.any_eq_true.mpr ⟨s, hs, ?_⟩
  have o := ok s hs
  have := h.2 s.v.toNat (by omega)
  unfold atOnce1 bxAt at e ⊢
  cases hu : s.up with
  | true =>
    rw [if_pos hu] at e
    rw [if_pos rfl]
    have := of_decide_eq_true e
    exact decide_eq_true (by omega)
  | false =>
    rw [if_neg (by rw [hu]; simp)] at e
    rw [if_neg (by simp)]
    have := of_decide_eq_true e
    exact decide_eq_true (by omega)
theorem optAll_some {α β : Type} {f : α → Option β} : ∀ {xs : List α} {ys : List β}, optAll f xs = some ys → ys.length = xs.length ∧ ∀ (i : Nat) (x : α), xs[i]? = some x → ∃ y, f x = some y ∧ ys[i]? = some y
  | [], ys, h => by cases h; exact ⟨rfl, fun i x e => by simp at e⟩
  | a :: r, ys, h => by
    simp only [optAll] at h
    cases q : f a with
    | none => rw [q] at h; cases h
    | some b =>
      rw [q] at h
      simp only [Option.bind_some] at h
      cases q2 : optAll f r with
      | none => rw [q2] at h; cases h
      | some bs =>
        rw [q2] at h
        cases h
        obtain ⟨h1, h2⟩ := optAll_some q2
        refine ⟨by simp [h1], fun i x e => ?_⟩
        cases i with
        | zero => simp at e; subst e; exact ⟨b, q, by simp⟩
        | succ i => simp at e; obtain ⟨y, y1, y2⟩ := h2 i x e; exact ⟨y, y1, by simpa using y2⟩
theorem optAll_none {α β : Type} {f : α → Option β} : ∀ {xs : List α}, optAll f xs = none → ∃ x ∈ xs, f x = none
  | [], h => by cases h
  | a :: r, h => by
    simp only [optAll] at h
    cases q : f a with
    | none => exact ⟨a, by simp, q⟩
    | some b =>
      rw [q] at h
      simp only [Option.bind_some] at h
      cases q2 : optAll f r with
      | none => obtain ⟨x, hx, e⟩ := optAll_none q2; exact ⟨x, by simp [hx], e⟩
      | some bs => rw [q2] at h; cases h
theorem optAll_all {α β : Type} {f : α → Option β} : ∀ {xs : List α}, (∀ x ∈ xs, f x ≠ none) → ∃ ys, optAll f xs = some ys := fun {xs} h => by
  cases q : optAll f xs with
  | none => obtain ⟨x, hx, e⟩ := optAll_none q; exact absurd e (h x hx)
  | some ys => exact ⟨ys, rfl⟩
/-- whether a vessel is stopped does not hang on the box -/
theorem flow1_some {md : Md} {b c : Bx} {p : Int × Nat} (h : flow1 md c p ≠ none) : flow1 md b p ≠ none := by
  unfold flow1 at h ⊢
  by_cases c1 : 0 < p.1
  · rw [if_pos c1] at h ⊢
    by_cases c2 : (marksOf md p.2 true).isEmpty = true
    · rw [if_pos c2] at h; exact absurd rfl h
    · rw [if_neg c2]; simp
  · rw [if_neg c1] at h ⊢
    by_cases c3 : p.1 < 0
    · rw [if_pos c3] at h ⊢
      by_cases c2 : (marksOf md p.2 false).isEmpty = true
      · rw [if_pos c2] at h; exact absurd rfl h
      · rw [if_neg c2]; simp
    · rw [if_neg c3]; simp
theorem flow1_le {md : Md} {b c : Bx} {p : Int × Nat} {x y : Int × Int} (hb : p.2 < b.length) (h : LeB b c) (hx : flow1 md b p = some x) (hy : flow1 md c p = some y) : y.1 ≤ x.1 ∧ x.2 ≤ y.2 := by
  have l := h.2 p.2 hb
  unfold flow1 at hx hy
  by_cases c1 : 0 < p.1
  · rw [if_pos c1] at hx hy
    by_cases c2 : (marksOf md p.2 true).isEmpty = true
    · rw [if_pos c2] at hx; cases hx
    · rw [if_neg c2] at hx hy
      cases hx; cases hy
      dsimp only
      omega
  · rw [if_neg c1] at hx hy
    by_cases c3 : p.1 < 0
    · rw [if_pos c3] at hx hy
      by_cases c2 : (marksOf md p.2 false).isEmpty = true
      · rw [if_pos c2] at hx; cases hx
      · rw [if_neg c2] at hx hy
        cases hx; cases hy
        dsimp only
        omega
    · rw [if_neg c3] at hx hy
      cases hx; cases hy
      exact l
theorem flow1_ge {md : Md} {b : Bx} {p : Int × Nat} {x : Int × Int} (hx : flow1 md b p = some x) : x.1 ≤ (b.getD p.2 (0, 0)).1 ∧ (b.getD p.2 (0, 0)).2 ≤ x.2 := by
  unfold flow1 at hx
  by_cases c1 : 0 < p.1
  · rw [if_pos c1] at hx
    by_cases c2 : (marksOf md p.2 true).isEmpty = true
    · rw [if_pos c2] at hx; cases hx
    · rw [if_neg c2] at hx
      cases hx
      dsimp only
      omega
  · rw [if_neg c1] at hx
    by_cases c3 : p.1 < 0
    · rw [if_pos c3] at hx
      by_cases c2 : (marksOf md p.2 false).isEmpty = true
      · rw [if_pos c2] at hx; cases hx
      · rw [if_neg c2] at hx
        cases hx
        dsimp only
        omega
    · rw [if_neg c3] at hx
      cases hx
      omega
/-- a mode over n vessels -/
structure MdN (n : Nat) (md : Md) : Prop where
  rates : md.rates.length = n
  sws : ∀ s ∈ md.sws, 0 ≤ s.v ∧ s.v < n
theorem zip_at {rs : List Int} {i : Nat} (h : i < rs.length) : rs.zipIdx[i]? = some (rs.getD i 0, i) := by
  rw [List.getElem?_zipIdx, List.getElem?_eq_getElem h, List.getD_eq_getElem?_getD, List.getElem?_eq_getElem h]
  simp
theorem flowB_at {n : Nat} {md : Md} {b x : Bx} (om : MdN n md) (h1 : atOnce md b = false) (h2 : flowB md b = some x) : x.length = n ∧ ∀ i, i < n → flow1 md b (md.rates.getD i 0, i) = some (x.getD i (0, 0)) := by
  unfold flowB at h2
  rw [if_neg (by rw [h1]; simp)] at h2
  obtain ⟨e1, e2⟩ := optAll_some h2
  have l : x.length = n := by rw [e1, List.length_zipIdx]; exact om.rates
  refine ⟨l, fun i hi => ?_⟩
  obtain ⟨y, y1, y2⟩ := e2 i _ (zip_at (by rw [om.rates]; exact hi))
  rw [y1, List.getD_eq_getElem?_getD, y2]
  rfl
/-- flowing out is monotone, and where the greater one is stopped so is the lesser -/
theorem flowB_mono {n : Nat} {md : Md} {b c x : Bx} (om : MdN n md) (hb : b.length = n) (h : LeB b c) (hc : flowB md c = some x) : ∃ y, flowB md b = some y ∧ LeB b y ∧ LeB y x := by
  have hcl : c.length = n := by rw [← h.1]; exact hb
  cases q : atOnce md b with
  | true =>
    refine ⟨b, by unfold flowB; rw [if_pos q], LeB.refl _, h.trans ?_⟩
    cases q2 : atOnce md c with
    | true => unfold flowB at hc; rw [if_pos q2] at hc; cases hc; exact LeB.refl _
    | false =>
      obtain ⟨l, e⟩ := flowB_at om q2 hc
      exact ⟨by omega, fun i hi => flow1_ge (e i (by omega))⟩
  | false =>
    have q2 : atOnce md c = false := by
      cases z : atOnce md c with
      | false => rfl
      | true => rw [atOnce_mono hb om.sws h z] at q; cases q
    obtain ⟨l, e⟩ := flowB_at om q2 hc
    obtain ⟨y, hy⟩ : ∃ y, flowB md b = some y := by
      unfold flowB
      rw [if_neg (by rw [q]; simp)]
      refine optAll_all fun p hp => flow1_some (c := c) ?_
      obtain ⟨r, i⟩ := p
      have hz := List.mem_zipIdx hp
      have hr := om.rates
      have := e i (by omega)
      have er : md.rates.getD i 0 = r := by
        rw [List.getD_eq_getElem?_getD, List.getElem?_eq_getElem (by omega)]
        simpa using hz.2.2.symm
      rw [er] at this
      rw [this]
      simp
    obtain ⟨l', e'⟩ := flowB_at om q hy
    exact ⟨y, hy, ⟨by omega, fun i hi => flow1_ge (e' i (by omega))⟩, ⟨by omega, fun i hi => flow1_le (by show i < b.length; omega) h (e' i (by omega)) (e i (by omega))⟩⟩
theorem flowB_ge {n : Nat} {md : Md} {b x : Bx} (om : MdN n md) (hb : b.length = n) (h : flowB md b = some x) : LeB b x := by
  obtain ⟨y, h1, h2, _⟩ := flowB_mono om hb (LeB.refl b) h
  rw [h] at h1
  cases h1
  exact h2
theorem set_at {b : Bx} {j i : Nat} {p : Int × Int} (hi : i < b.length) : (b.set j p).getD i (0, 0) = if i = j then p else b.getD i (0, 0) := by
  rw [List.getD_eq_getElem?_getD, List.getElem?_set]
  by_cases c : j = i
  · subst c; rw [if_pos rfl, if_pos hi, if_pos rfl]; rfl
  · rw [if_neg c, if_neg (fun z => c z.symm), List.getD_eq_getElem?_getD]
theorem partLo_le {b c : Bx} {s : Sw} (h : (bxAt c s.v).1 ≤ (bxAt b s.v).1) : partLo c s ≤ partLo b s := by
  unfold partLo
  cases s.up <;> simp <;> omega
theorem partHi_le {b c : Bx} {s : Sw} (h : (bxAt b s.v).2 ≤ (bxAt c s.v).2) : partHi b s ≤ partHi c s := by
  unfold partHi
  cases s.up <;> simp <;> omega
theorem partLo_ge (b : Bx) (s : Sw) : (bxAt b s.v).1 ≤ partLo b s := by
  unfold partLo
  cases s.up <;> simp <;> omega
theorem partHi_ge (b : Bx) (s : Sw) : partHi b s ≤ (bxAt b s.v).2 := by
  unfold partHi
  cases s.up <;> simp <;> omega
theorem partB_mono {n : Nat} {b c p : Bx} {s : Sw} (hb : b.length = n) (hv : 0 ≤ s.v ∧ s.v < n) (h : LeB b c) (hp : partB b s = some p) : ∃ q, partB c s = some q ∧ LeB p q := by
  have hcl : c.length = n := by rw [← h.1]; exact hb
  have l := h.2 s.v.toNat (by omega)
  have l1 := partLo_le (b := b) (c := c) (s := s) l.1
  have l2 := partHi_le (b := b) (c := c) (s := s) l.2
  unfold partB at hp ⊢
  split at hp
  · cases hp
  · rename_i c1
    cases hp
    rw [if_neg (by omega)]
    refine ⟨_, rfl, ⟨by simp [h.1], fun i hi => ?_⟩⟩
    simp only [List.length_set] at hi
    rw [set_at (by omega), set_at hi]
    by_cases c2 : i = s.v.toNat
    · rw [if_pos c2, if_pos c2]
      exact ⟨l1, l2⟩
    · rw [if_neg c2, if_neg c2]
      exact h.2 i hi
theorem partB_le {n : Nat} {b p : Bx} {s : Sw} (hb : b.length = n) (hv : 0 ≤ s.v ∧ s.v < n) (hp : partB b s = some p) : LeB p b := by
  have l1 := partLo_ge b s
  have l2 := partHi_ge b s
  unfold partB at hp
  split at hp
  · cases hp
  · cases hp
    refine ⟨by simp, fun i hi => ?_⟩
    simp only [List.length_set] at hi
    rw [set_at hi]
    by_cases c2 : i = s.v.toNat
    · rw [if_pos c2, c2]
      exact ⟨l1, l2⟩
    · rw [if_neg c2]
      omega
end PF

end

section
/-! P31: boxes for each mode; closed ones. -/
namespace PF
open PySem PySem.Spec PyProof.Rows L2
def LeO : Option Bx → Option Bx → Prop
  | none, _ => True
  | some b, some c => LeB b c
  | some _, none => False
theorem LeO.refl : ∀ o : Option Bx, LeO o o
  | none => trivial
  | some b => LeB.refl b
theorem LeO.trans : ∀ {a b c : Option Bx}, LeO a b → LeO b c → LeO a c
  | none, _, _, _, _ => trivial
  | some a, some b, some c, h, g => LeB.trans h g
  | some a, some b, none, _, g => g.elim
  | some a, none, _, h, _ => h.elim
theorem LeO.antisymm : ∀ {a b : Option Bx}, LeO a b → LeO b a → a = b
  | none, none, _, _ => rfl
  | none, some b, _, g => g.elim
  | some a, none, h, _ => h.elim
  | some a, some b, h, g => by rw [LeB.antisymm h g]
abbrev stAt (st : BSt) (i : Nat) : Option Bx := st.getD i none
def LeS (s t : BSt) : Prop := s.length = t.length ∧ ∀ i, LeO (stAt s i) (stAt t i)
theorem LeS.refl (s : BSt) : LeS s s := ⟨rfl, fun i => LeO.refl _⟩
theorem LeS.trans {a b c : BSt} (h : LeS a b) (g : LeS b c) : LeS a c := ⟨h.1.trans g.1, fun i => (h.2 i).trans (g.2 i)⟩
theorem LeS.antisymm {a b : BSt} (h : LeS a b) (g : LeS b a) : a = b := by
  apply List.ext_getElem h.1
  intro i h1 h2
  have := LeO.antisymm (h.2 i) (g.2 i)
  simpa [stAt, List.getD_eq_getElem?_getD, List.getElem?_eq_getElem h1, List.getElem?_eq_getElem h2] using this
/-- all boxes are over n vessels -/
def Wide (n : Nat) (st : BSt) : Prop := ∀ i b, stAt st i = some b → b.length = n
theorem stAt_set (st : BSt) (j : Nat) (o : Option Bx) (i : Nat) : stAt (st.set j o) i = if i = j ∧ j < st.length then o else stAt st i := by
  unfold stAt
  rw [List.getD_eq_getElem?_getD, List.getElem?_set]
  by_cases c : j = i
  · subst c
    by_cases d : j < st.length
    · rw [if_pos rfl, if_pos d, if_pos ⟨rfl, d⟩]; rfl
    · rw [if_pos rfl, if_neg d, if_neg (fun z => d z.2), List.getD_eq_getElem?_getD, List.getElem?_eq_none (by omega)]
  · rw [if_neg c, if_neg (fun z => c z.1.symm), List.getD_eq_getElem?_getD]
theorem Wide.set {n : Nat} {st : BSt} (h : Wide n st) {j : Nat} {o : Option Bx} (ho : ∀ b, o = some b → b.length = n) : Wide n (st.set j o) := by
  intro i b e
  rw [stAt_set] at e
  split at e
  · exact ho b e
  · exact h i b e
theorem LeS.setL {s t : BSt} (h : LeS s t) {j : Nat} {o : Option Bx} (ho : LeO o (stAt t j)) : LeS (s.set j o) t := ⟨by rw [List.length_set]; exact h.1, fun i => by
  rw [stAt_set]
  split
  · rename_i c; rw [c.1]; exact ho
  · exact h.2 i⟩
theorem LeS.setR {s t : BSt} (h : LeS s t) {j : Nat} {o : Option Bx} (ho : LeO (stAt s j) o) : LeS s (t.set j o) := ⟨by rw [List.length_set]; exact h.1, fun i => by
  rw [stAt_set]
  split
  · rename_i c; rw [c.1]; exact ho
  · exact h.2 i⟩
theorem joinO_left {n : Nat} : ∀ {o p : Option Bx}, (∀ b, o = some b → b.length = n) → (∀ b, p = some b → b.length = n) → LeO o (joinO o p)
  | none, _, _, _ => trivial
  | some b, none, _, _ => LeB.refl b
  | some b, some c, h, g => joinB_left ((h b rfl).trans (g c rfl).symm)
theorem joinO_right {n : Nat} : ∀ {o p : Option Bx}, (∀ b, o = some b → b.length = n) → (∀ b, p = some b → b.length = n) → LeO p (joinO o p)
  | none, p, _, _ => by cases p <;> exact LeO.refl _
  | some b, none, _, _ => trivial
  | some b, some c, h, g => joinB_right ((h b rfl).trans (g c rfl).symm)
theorem joinO_le : ∀ {o p q : Option Bx}, LeO o q → LeO p q → LeO (joinO o p) q
  | none, p, q, _, g => by cases p <;> exact g
  | some b, none, q, h, _ => h
  | some b, some c, some d, h, g => joinB_le h g
  | some b, some c, none, h, _ => h.elim
theorem joinO_len {n : Nat} : ∀ {o p : Option Bx}, (∀ b, o = some b → b.length = n) → (∀ b, p = some b → b.length = n) → ∀ b, joinO o p = some b → b.length = n
  | none, p, _, g, b, e => by cases p <;> exact g b e
  | some b, none, h, _, c, e => h c e
  | some b, some c, h, g, d, e => by
    cases e
    rw [joinB_len ((h b rfl).trans (g c rfl).symm)]
    exact h b rfl
/-- works' modes over n vessels, with z modes -/
structure MdsN (n : Nat) (mds : List Md) : Prop where
  md : ∀ m ∈ mds, MdN n m
  to : ∀ m ∈ mds, ∀ s ∈ m.sws, 0 ≤ s.to ∧ s.to < mds.length
/-- a mode's box that flows out into itself, and whose switches lead into boxes -/
def ClosedAt (C : BSt) (md : Md) (b : Bx) : Prop := (∃ b', flowB md b = some b' ∧ LeB b' b) ∧ ∀ s ∈ md.sws, ∀ p, partB b s = some p → LeO (some p) (stAt C s.to.toNat)
def Closed (mds : List Md) (C : BSt) : Prop := ∀ i md b, mds[i]? = some md → stAt C i = some b → ClosedAt C md b
/-! ### the program's round -/
def enter1 (b : Bx) (st : BSt) (s : Sw) : BSt := match partB b s with
  | none => st
  | some p => st.set s.to.toNat (joinO (stAt st s.to.toNat) (some p))
def grow1 (st : BSt) (p : Md × Nat) : Option BSt := match stAt st p.2 with
  | none => some st
  | some b => (flowB p.1 b).map fun b' => p.1.sws.foldl (enter1 b') (st.set p.2 (some b'))
def growL : BSt → List (Md × Nat) → Option BSt
  | st, [] => some st
  | st, p :: ps => (grow1 st p).bind fun st' => growL st' ps
section
variable {n : Nat} {mds : List Md} {C st : BSt} {md : Md} {b : Bx}
theorem enter1_ok {s : Sw} (hb : b.length = n) (hv : 0 ≤ s.v ∧ s.v < n) (wd : Wide n st) : Wide n (enter1 b st s) ∧ LeS st (enter1 b st s) := by
  unfold enter1
  cases q : partB b s with
  | none => exact ⟨wd, LeS.refl _⟩
  | some p =>
    have pl : p.length = n := by rw [(partB_le hb hv q).1]; exact hb
    have p1 : ∀ x, some p = some x → x.length = n := fun x e => by cases e; exact pl
    exact ⟨wd.set (joinO_len (wd _) p1), (LeS.refl st).setR (joinO_left (wd _) p1)⟩
theorem enter1_le {s : Sw} {c : Bx} (hb : b.length = n) (hv : 0 ≤ s.v ∧ s.v < n) (l : LeS st C) (h : LeB b c) (hc : ∀ p, partB c s = some p → LeO (some p) (stAt C s.to.toNat)) : LeS (enter1 b st s) C := by
  unfold enter1
  cases q : partB b s with
  | none => exact l
  | some p =>
    obtain ⟨p', q1, q2⟩ := partB_mono hb hv h q
    exact l.setL (joinO_le (l.2 _) (LeO.trans (show LeO (some p) (some p') from q2) (hc p' q1)))
theorem enters_ok (hb : b.length = n) : ∀ (ss : List Sw) {st : BSt}, (∀ s ∈ ss, 0 ≤ s.v ∧ s.v < n) → Wide n st → Wide n (ss.foldl (enter1 b) st) ∧ LeS st (ss.foldl (enter1 b) st)
  | [], st, _, wd => ⟨wd, LeS.refl _⟩
  | s :: ss, st, h, wd => by
    obtain ⟨w1, l1⟩ := enter1_ok (st := st) hb (h s (by simp)) wd
    obtain ⟨w2, l2⟩ := enters_ok hb ss (fun s hs => h s (by simp [hs])) w1
    exact ⟨w2, l1.trans l2⟩
theorem enters_le {c : Bx} (hb : b.length = n) (h : LeB b c) : ∀ (ss : List Sw) {st : BSt}, (∀ s ∈ ss, 0 ≤ s.v ∧ s.v < n) → (∀ s ∈ ss, ∀ p, partB c s = some p → LeO (some p) (stAt C s.to.toNat)) → LeS st C → LeS (ss.foldl (enter1 b) st) C
  | [], st, _, _, l => l
  | s :: ss, st, hv, hc, l => enters_le hb h ss (fun s hs => hv s (by simp [hs])) (fun s hs => hc s (by simp [hs])) (enter1_le hb (hv s (by simp)) l h (hc s (by simp)))
theorem grow1_ok {i : Nat} {st' : BSt} (om : MdN n md) (wd : Wide n st) (h : grow1 st (md, i) = some st') : Wide n st' ∧ LeS st st' := by
  unfold grow1 at h
  cases q : stAt st i with
  | none => rw [q] at h; cases h; exact ⟨wd, LeS.refl _⟩
  | some b =>
    rw [q] at h
    simp only at h
    cases q2 : flowB md b with
    | none => rw [q2] at h; cases h
    | some b' =>
      rw [q2] at h
      cases h
      have hb := wd i b q
      have ge := flowB_ge om hb q2
      have hb' : b'.length = n := by rw [← ge.1]; exact hb
      have w1 : Wide n (st.set i (some b')) := wd.set fun x e => by cases e; exact hb'
      have l1 : LeS st (st.set i (some b')) := (LeS.refl st).setR (by rw [q]; exact ge)
      obtain ⟨w2, l2⟩ := enters_ok hb' md.sws om.sws w1
      exact ⟨w2, l1.trans l2⟩
theorem grow1_le {i : Nat} (om : MdN n md) (wd : Wide n st) (l : LeS st C) (hc : ∀ c, stAt C i = some c → ClosedAt C md c) : ∃ st', grow1 st (md, i) = some st' ∧ LeS st' C := by
  unfold grow1
  cases q : stAt st i with
  | none => exact ⟨st, rfl, l⟩
  | some b =>
    have li := l.2 i
    rw [q] at li
    cases q2 : stAt C i with
    | none => rw [q2] at li; exact li.elim
    | some c =>
      rw [q2] at li
      obtain ⟨⟨c', f1, f2⟩, f3⟩ := hc c q2
      have hb := wd i b q
      obtain ⟨b', g1, g2, g3⟩ := flowB_mono om hb li f1
      have bc : LeB b' c := g3.trans f2
      have hb' : b'.length = n := by rw [← g2.1]; exact hb
      refine ⟨_, by simp only [g1]; rfl, ?_⟩
      exact enters_le hb' bc md.sws om.sws f3 (l.setL (by rw [q2]; exact bc))
theorem growL_ok : ∀ (ps : List (Md × Nat)) {st st' : BSt}, (∀ p ∈ ps, MdN n p.1) → Wide n st → growL st ps = some st' → Wide n st' ∧ LeS st st'
  | [], st, st', _, wd, h => by cases h; exact ⟨wd, LeS.refl _⟩
  | p :: ps, st, st', om, wd, h => by
    simp only [growL] at h
    obtain ⟨s1, h1, h2⟩ := Option.bind_eq_some_iff.mp h
    obtain ⟨w1, l1⟩ := grow1_ok (om p (by simp)) wd h1
    obtain ⟨w2, l2⟩ := growL_ok ps (fun p hp => om p (by simp [hp])) w1 h2
    exact ⟨w2, l1.trans l2⟩
theorem growL_le : ∀ (ps : List (Md × Nat)) {st : BSt}, (∀ p ∈ ps, MdN n p.1) → Wide n st → LeS st C → (∀ p ∈ ps, ∀ c, stAt C p.2 = some c → ClosedAt C p.1 c) → ∃ st', growL st ps = some st' ∧ LeS st' C
  | [], st, _, _, l, _ => ⟨st, rfl, l⟩
  | p :: ps, st, om, wd, l, hc => by
    obtain ⟨s1, h1, l1⟩ := grow1_le (om p (by simp)) wd l (hc p (by simp))
    obtain ⟨w1, _⟩ := grow1_ok (om p (by simp)) wd h1
    obtain ⟨s2, h2, l2⟩ := growL_le ps (fun p hp => om p (by simp [hp])) w1 l1 (fun p hp => hc p (by simp [hp]))
    exact ⟨s2, by simp only [growL, h1, Option.bind_some, h2], l2⟩
/-- a round that changes nothing: each mode is closed -/
theorem grow1_fix {i : Nat} (om : MdN n md) (wd : Wide n st) (hi : i < st.length) (h : grow1 st (md, i) = some st) {b : Bx} (q : stAt st i = some b) (hto : ∀ s ∈ md.sws, s.to.toNat < st.length) : ClosedAt st md b := by
  unfold grow1 at h
  rw [q] at h
  simp only at h
  cases q2 : flowB md b with
  | none => rw [q2] at h; cases h
  | some b' =>
    rw [q2] at h
    simp only [Option.map_some, Option.some.injEq] at h
    have hb := wd i b q
    have ge := flowB_ge om hb q2
    have hb' : b'.length = n := by rw [← ge.1]; exact hb
    have w1 : Wide n (st.set i (some b')) := wd.set fun x e => by cases e; exact hb'
    obtain ⟨w2, l2⟩ := enters_ok hb' md.sws om.sws w1
    rw [h] at l2
    have li := l2.2 i
    rw [stAt_set, if_pos ⟨rfl, hi⟩, q] at li
    have le : LeB b' b := li
    have eb : b' = b := le.antisymm ge
    subst eb
    have es : st.set i (some b') = st := by
      apply List.ext_getElem (by simp)
      intro j h1 h2
      rw [List.getElem_set]
      split
      · rename_i c
        subst c
        simpa [stAt, List.getD_eq_getElem?_getD, List.getElem?_eq_getElem h2] using q.symm
      · rfl
    rw [es] at h
    refine ⟨⟨b', q2, LeB.refl _⟩, ?_⟩
    -- each entry stays below
    have ent : ∀ (ss : List Sw) (t : BSt), (∀ s ∈ ss, 0 ≤ s.v ∧ s.v < n) → (∀ s ∈ ss, s.to.toNat < t.length) → Wide n t → ∀ s ∈ ss, ∀ p, partB b' s = some p → LeO (some p) (stAt (ss.foldl (enter1 b') t) s.to.toNat) := by
      intro ss
      induction ss with
      | nil => intro t _ _ _ s hs; cases hs
      | cons s0 ss ih =>
        intro t hv ht wt s hs p hp
        obtain ⟨w3, l3⟩ := enter1_ok (st := t) hb' (hv s0 (by simp)) wt
        rcases List.mem_cons.mp hs with e | hs
        · subst e
          obtain ⟨_, l4⟩ := enters_ok hb' ss (fun s hs => hv s (by simp [hs])) w3
          refine LeO.trans ?_ (l4.2 _)
          unfold enter1
          rw [hp]
          simp only
          rw [stAt_set, if_pos ⟨rfl, ht s (by simp)⟩]
          refine joinO_right (n := n) (wt _) fun x e => ?_
          cases e
          rw [(partB_le hb' (hv s (by simp)) hp).1]
          exact hb'
        · exact ih _ (fun s hs => hv s (by simp [hs])) (fun s hs => by rw [← l3.1]; exact ht s (by simp [hs])) w3 s hs p hp
    intro s hs p hp
    have := ent md.sws st om.sws hto wd s hs p hp
    rw [h] at this
    exact this
theorem growL_fix : ∀ (ps : List (Md × Nat)) {st : BSt}, (∀ p ∈ ps, MdN n p.1) → Wide n st → growL st ps = some st → ∀ p ∈ ps, grow1 st p = some st
  | [], st, _, _, _, p, hp => by cases hp
  | p :: ps, st, om, wd, h, p', hp => by
    simp only [growL] at h
    obtain ⟨s1, h1, h2⟩ := Option.bind_eq_some_iff.mp h
    obtain ⟨w1, l1⟩ := grow1_ok (om p (by simp)) wd h1
    obtain ⟨w2, l2⟩ := growL_ok ps (fun p hp => om p (by simp [hp])) w1 h2
    have e : s1 = st := l2.antisymm l1
    subst e
    rcases List.mem_cons.mp hp with z | hp
    · subst z; exact h1
    · exact growL_fix ps (fun p hp => om p (by simp [hp])) wd h2 p' hp
theorem zip_mem {mds : List Md} {p : Md × Nat} (h : p ∈ mds.zipIdx) : mds[p.2]? = some p.1 := List.mem_zipIdx_iff_getElem?.mp h
theorem grow_closed (om : MdsN n mds) (wd : Wide n st) (hl : st.length = mds.length) (h : growL st mds.zipIdx = some st) : Closed mds st := by
  intro i md b hm hb
  have hmem : (md, i) ∈ mds.zipIdx := List.mem_zipIdx_iff_getElem?.mpr hm
  have mm : md ∈ mds := List.mem_of_getElem? hm
  have hi := (List.getElem?_eq_some_iff.mp hm).1
  have g := growL_fix mds.zipIdx (fun p hp => om.md p.1 (List.mem_of_getElem? (zip_mem hp))) wd h _ hmem
  exact grow1_fix (om.md md mm) wd (by omega) g hb fun s hs => by have := om.to md mm s hs; omega
theorem grow_le (om : MdsN n mds) (wd : Wide n st) (l : LeS st C) (hc : Closed mds C) : ∃ st', growL st mds.zipIdx = some st' ∧ LeS st' C :=
  growL_le mds.zipIdx (fun p hp => om.md p.1 (List.mem_of_getElem? (zip_mem hp))) wd l fun p hp c e => hc p.2 p.1 c (zip_mem hp) e
theorem grow_ok {st' : BSt} (om : MdsN n mds) (wd : Wide n st) (h : growL st mds.zipIdx = some st') : Wide n st' ∧ LeS st st' :=
  growL_ok mds.zipIdx (fun p hp => om.md p.1 (List.mem_of_getElem? (zip_mem hp))) wd h
end
end PF

end

section
/-! P32: the program's walls. -/
namespace PF
open PySem PySem.Spec PyProof.Rows L2
@[simp] theorem encPr_0 (p : Int × Int) : ixD (.d (encPr p)) (.d (.int 0)) = .ok (.d (.int p.1)) := rfl
@[simp] theorem encPr_1 (p : Int × Int) : ixD (.d (encPr p)) (.d (.int 1)) = .ok (.d (.int p.2)) := rfl
@[simp] theorem encPr_set (p : Int × Int) (ts : List Tg) (ρ : PF.Env) : setT (.tup ts) (encPr p) ρ = setTs ts [.int p.1, .int p.2] ρ := setT_tup ρ _ _
@[simp] theorem encBx_ix (b : Bx) (i : Int) : ixD (.d (encBx b)) (.d (.int i)) = (M.opt (L2.atI b i)).bind fun x => .ok (.d (encPr x)) := by
  show (M.opt (L2.atI (b.map encPr) i)).bind _ = _
  rw [atI_map]
  cases L2.atI b i <;> rfl
@[simp] theorem encBx_seq (b : Bx) : seqD (.d (encBx b)) = .ok (b.map encPr) := rfl
@[simp] theorem encBx_sl (b : Bx) (l h : Option Int) : slD (.d (encBx b)) l h = .ok (.d (.tuple (cutD (b.map encPr) l h))) := rfl
@[simp] theorem encBx_list (b : Bx) : bltD .list [.d (encBx b)] = .ok (.o (b.map encPr)) := rfl
@[simp] theorem isn_b (b : Bx) : isNoneD (encBx b) = false := rfl

def isNoneO : Option Bx → Bool
  | none => true
  | some _ => false
@[simp] theorem isn_ob (o : Option Bx) : isNoneD (encOB o) = isNoneO o := by cases o <;> rfl
theorem bx_at {b : Bx} {v : Int} (h : 0 ≤ v ∧ v < b.length) : L2.atI b v = some (bxAt b v) := atI_pos (d := ((0, 0) : Int × Int)) h.1 h.2
theorem cut_take (xs : List D) {v : Int} (h : 0 ≤ v) (h2 : v ≤ xs.length) : cutD xs none (some v) = xs.take v.toNat := by
  unfold cutD HT.sIx
  have e : min v.toNat xs.length = v.toNat := by omega
  simp [show ¬ v < 0 by omega, e]
theorem cut_drop (xs : List D) {v : Int} (h : 0 ≤ v) (h2 : v ≤ xs.length) : cutD xs (some v) none = xs.drop v.toNat := by
  unfold cutD HT.sIx
  have e : min v.toNat xs.length = v.toNat := by omega
  simp [show ¬ v < 0 by omega, e]
  rw [List.take_of_length_le (by simp)]
theorem set_cut {α : Type} (xs : List α) {j : Nat} (h : j < xs.length) (a : α) : xs.take j ++ [a] ++ xs.drop (j + 1) = xs.set j a := by
  rw [List.set_eq_take_append_cons_drop, if_pos h]
  simp
theorem max1_l (xs : List Int) (h : xs ≠ []) : bltD .max1 [.d (.list (xs.map PyData.int))] = .ok (.d (.int (maxL xs))) := by
  cases xs with
  | nil => exact absurd rfl h
  | cons x r =>
    show (M.opt (intsD ((x :: r).map PyData.int))).bind maxI = _
    rw [intsD_ints]
    rfl
theorem min1_l (xs : List Int) (h : xs ≠ []) : bltD .min1 [.d (.list (xs.map PyData.int))] = .ok (.d (.int (minL xs))) := by
  cases xs with
  | nil => exact absurd rfl h
  | cons x r =>
    show (M.opt (intsD ((x :: r).map PyData.int))).bind minI = _
    rw [intsD_ints]
    rfl
section
variable {n : Nat}
theorem entered_ok {k : Nat} (b : Bx) (s : Sw) (hv : 0 ≤ s.v ∧ s.v < b.length) (hl : b.length ≤ 1000) : runF tab (k + 1) i_entered [encBx b, encS s] = .ok (.d (encOB (partB b s))) := by
  rw [runF_of tab_entered rfl]
  have e := bx_at hv
  have c1 := cut_take (b.map encPr) hv.1 (by rw [List.length_map]; omega)
  have c2 := cut_drop (b.map encPr) (v := s.v + 1) (by omega) (by rw [List.length_map]; omega)
  have j : s.v.toNat < (b.map encPr).length := by rw [List.length_map]; omega
  have t1 : (s.v + 1).toNat = s.v.toNat + 1 := by omega
  rw [t1] at c2
  have fin : ∀ p : Int × Int, ((b.map encPr).take s.v.toNat ++ [PyData.tuple [.int p.1, .int p.2]]) ++ (b.map encPr).drop (s.v.toNat + 1) = (b.set s.v.toNat p).map encPr := fun p => by
    have := set_cut (b.map encPr) j (encPr p)
    rw [List.map_set]
    exact this
  have a1 : ∀ p : D, binD .Add (.d (.tuple ((b.map encPr).take s.v.toNat))) (.d (.tuple [p])) = .ok (.d (.tuple ((b.map encPr).take s.v.toNat ++ [p]))) := fun p => add_tt' _ _ (by simp; omega)
  have a2 : ∀ p : D, binD .Add (.d (.tuple ((b.map encPr).take s.v.toNat ++ [p]))) (.d (.tuple ((b.map encPr).drop (s.v.toNat + 1)))) = .ok (.d (.tuple (((b.map encPr).take s.v.toNat ++ [p]) ++ (b.map encPr).drop (s.v.toNat + 1)))) := fun p => add_tt' _ _ (by simp; omega)
  have tk : (encBx b) = .tuple (b.map encPr) := rfl
  unfold partB partLo partHi
  cases hu : s.up with
  | true =>
    obtain ⟨z0, hM⟩ : ∃ z0, z0 = max (bxAt b s.v).1 s.mark := ⟨_, rfl⟩
    simp only [if_true, ← hM]
    by_cases c : (bxAt b s.v).2 < z0
    · rw [if_pos c]
      simp [f_entered, startE, e, hu, ← hM, c, encOB]
    · rw [if_neg c]
      have f := fin (z0, (bxAt b s.v).2)
      simp [f_entered, startE, e, hu, ← hM, c]
      simp [c1, c2, a1, a2, encOB, tk] at f ⊢
      unfold encBx
      rw [List.map_set]
      rw [f]
  | false =>
    obtain ⟨z0, hM⟩ : ∃ z0, z0 = min (bxAt b s.v).2 s.mark := ⟨_, rfl⟩
    simp only [Bool.false_eq_true, if_false, ← hM]
    by_cases c : z0 < (bxAt b s.v).1
    · rw [if_pos c]
      simp [f_entered, startE, e, hu, ← hM, c, encOB]
    · rw [if_neg c]
      have f := fin ((bxAt b s.v).1, z0)
      simp [f_entered, startE, e, hu, ← hM, c]
      simp [c1, c2, a1, a2, encOB, tk] at f ⊢
      unfold encBx
      rw [List.map_set]
      rw [f]
/-- a for that may give back something: the list's turns, then what stands behind -/
theorem once_loop {k : Nat} (b : Bx) (a0 : Sl) : ∀ (ss : List Sw) (s2 s3 s4 s5 s6 s7 : Sl), (∀ s ∈ ss, 0 ≤ s.v ∧ s.v < b.length) →
    (forD (.tup [.name 2, .name 3, .name 4, .name 5]) (exB (runF tab k) b_goes_at_once_1) (ss.map encS) [a0, .val (encBx b), s2, s3, s4, s5, s6, s7]).seq (exB (runF tab k) [.ret (.con (.bool false))]) = .rt (.d (.bool (ss.any (atOnce1 b))))
  | [], s2, s3, s4, s5, s6, s7, _ => by simp [forD_nil]
  | s :: ss, s2, s3, s4, s5, s6, s7, h => by
    have ih := once_loop (k := k) b a0 ss (.val (.int s.v)) (.val (wayD s.up)) (.val (.int s.mark)) (.val (.int s.to)) (.val (.int (bxAt b s.v).1)) (.val (.int (bxAt b s.v).2)) fun s hs => h s (by simp [hs])
    have e := bx_at (h s (by simp))
    rw [List.map_cons, forD_cons]
    simp only [encS_set, setTs_cons, setT_name, Option.bind_some, setTs_nil, optC_some]
    simp only [List.set_cons_succ, List.set_cons_zero]
    cases c : atOnce1 b s with
    | true =>
      have st : exB (runF tab k) b_goes_at_once_1 [a0, .val (encBx b), .val (.int s.v), .val (wayD s.up), .val (.int s.mark), .val (.int s.to), s6, s7] = .rt (.d (.bool true)) := by
        unfold atOnce1 at c
        cases hu : s.up with
        | true => rw [if_pos hu] at c; simp at c; simp [b_goes_at_once_1, e, c]
        | false => rw [if_neg (by rw [hu]; simp)] at c; simp at c; simp [b_goes_at_once_1, e, c]
      rw [st]
      simp [c]
    | false =>
      have st : exB (runF tab k) b_goes_at_once_1 [a0, .val (encBx b), .val (.int s.v), .val (wayD s.up), .val (.int s.mark), .val (.int s.to), s6, s7] = .nx [a0, .val (encBx b), .val (.int s.v), .val (wayD s.up), .val (.int s.mark), .val (.int s.to), .val (.int (bxAt b s.v).1), .val (.int (bxAt b s.v).2)] := by
        unfold atOnce1 at c
        cases hu : s.up with
        | true => rw [if_pos hu] at c; have c' := of_decide_eq_false c; simp [b_goes_at_once_1, e, c']
        | false => rw [if_neg (by rw [hu]; simp)] at c; have c' := of_decide_eq_false c; simp [b_goes_at_once_1, e, c']
      rw [st]
      simp only [ih]
      simp [c]
theorem once_ok {k : Nat} (md : Md) (b : Bx) (h : ∀ s ∈ md.sws, 0 ≤ s.v ∧ s.v < b.length) : runF tab (k + 1) i_goes_at_once [encM md, encBx b] = .ok (.d (.bool (atOnce md b))) := by
  rw [runF_of tab_goes_at_once rfl]
  have e := once_loop (k := k) b (.val (encM md)) md.sws .no .no .no .no .no .no h
  simp [f_goes_at_once, startE]
  rw [e]
  simp [atOnce]
theorem joined_ok {k : Nat} (o : Option Bx) (c : Bx) (h : ∀ b, o = some b → b.length = c.length) (hl : c.length ≤ 1000) : runF tab (k + 1) i_joined [encOB o, encBx c] = .ok (.d (encOB (joinO o (some c)))) := by
  rw [runF_of tab_joined rfl]
  cases o with
  | none => simp [f_joined, startE, isNoneO, encOB, joinO]
  | some b =>
    have hb := h b rfl
    have sl := sizeLine_big
    have zz : (((b.map encPr).zip (c.map encPr)).map fun p => PyData.tuple [p.1, p.2]) = (b.zip c).map fun p => PyData.tuple [encPr p.1, encPr p.2] := by
      rw [List.zip_map, List.map_map]
      rfl
    obtain ⟨ρ, e, s3, s4, J⟩ := forD_inv (tg := .tup [.name 3, .name 4]) (b := exB (runF tab k) b_joined_1) (fun p : (Int × Int) × (Int × Int) => PyData.tuple [encPr p.1, encPr p.2])
      (fun done ρ => ∃ s3 s4 : Sl, ρ = [.val (encBx b), .val (encBx c), .own ((done.map fun p => (min p.1.1 p.2.1, max p.1.2 p.2.2)).map encPr), s3, s4])
      (b.zip c) [.val (encBx b), .val (encBx c), .own [], .no, .no] ⟨_, _, rfl⟩ (by
        intro done p rest ρ hd ⟨s3, s4, q⟩
        subst q
        have dl : done.length ≤ 1000 := by
          have := congrArg List.length hd
          rw [List.length_zip] at this
          simp at this
          omega
        have lt : done.length < sizeLine := by omega
        exact ⟨[.val (encBx b), .val (encBx c), .own ((done.map fun p => (min p.1.1 p.2.1, max p.1.2 p.2.2)).map encPr), .val (encPr p.1), .val (encPr p.2)], [.val (encBx b), .val (encBx c), .own (((done ++ [p]).map fun p => (min p.1.1 p.2.1, max p.1.2 p.2.2)).map encPr), .val (encPr p.1), .val (encPr p.2)], by simp, .inl (by simp [b_joined_1, lt]; simp [encPr]), _, _, rfl⟩)
    subst J
    simp [f_joined, startE, encOB, zz]
    rw [e]
    simp [joinB, encBx, joinO, encOB]
theorem marks_comp {k : Nat} (md : Md) (i : Nat) (up : Bool) (a0 a1 a2 a4 a5 a6 a7 a12 : Sl) :
    ∀ ρ : PF.Env, ρ = [a0, a1, a2, .val (.int i), a4, a5, a6, a7, .no, .no, .no, .no, a12] → compD (.tup [.name 8, .name 9, .name 10, .name 11]) (evc (runF tab k) [.and (.cmp .Eq (.var 8) (.var 3)) (.cmp .Eq (.var 9) (.con (wayD up)))]) (evT (runF tab k) (.var 10)) ρ (md.sws.map encS) = .ok ((marksOf md i up).map PyData.int) := by
  intro ρ hρ
  subst hρ
  have := compD_map (tg := .tup [.name 8, .name 9, .name 10, .name 11]) (t := evc (runF tab k) [.and (.cmp .Eq (.var 8) (.var 3)) (.cmp .Eq (.var 9) (.con (wayD up)))]) (e := evT (runF tab k) (.var 10)) (ρ := [a0, a1, a2, .val (.int i), a4, a5, a6, a7, .no, .no, .no, .no, a12]) encS (fun s => decide (s.v = (i : Int)) && (s.up == up)) (fun s => PyData.int s.mark) md.sws (by
    intro s hs
    refine ⟨[a0, a1, a2, .val (.int i), a4, a5, a6, a7, .val (.int s.v), .val (wayD s.up), .val (.int s.mark), .val (.int s.to), a12], by simp, ?_, by simp⟩
    by_cases c : s.v = (i : Int)
    · simp [c]
    · simp [c])
  rw [this]
  unfold marksOf
  rw [List.map_map]
  rfl
theorem lt_big {n : Nat} (h : n ≤ 1000000) : n < sizeLine := by
  have := sizeLine_big
  rw [sizeLine_eq]
  omega
theorem ixN_nat {n i : Nat} (h : i < n) : L2.ixN n (i : Int) = some i := by
  unfold L2.ixN
  rw [if_pos (by omega), if_pos (by omega)]
  simp
theorem flow_turn {k : Nat} (md : Md) (b : Bx) (r : Int) (i : Nat) (hi : i < b.length) (found : List D) (hf : found.length = b.length) (s5 s6 s7 s8 s9 s10 s11 s12 : Sl) :
    match flow1 md b (r, i) with
    | none => exB (runF tab k) b_flowed_1 [.val (encM md), .val (encBx b), .own found, .val (.int i), .val (.int r), s5, s6, s7, s8, s9, s10, s11, s12] = .rt (.d .none)
    | some p => ∃ t5 t6 t7 t12 : Sl, exB (runF tab k) b_flowed_1 [.val (encM md), .val (encBx b), .own found, .val (.int i), .val (.int r), s5, s6, s7, s8, s9, s10, s11, s12] =
        .nx [.val (encM md), .val (encBx b), .own (found.set i (encPr p)), .val (.int i), .val (.int r), t5, t6, t7, s8, s9, s10, s11, t12] := by
  have e : L2.atI b (i : Int) = some (b.getD i (0, 0)) := by
    rw [atI_nat', List.getD_eq_getElem?_getD, List.getElem?_eq_getElem hi]
    simp
  have ix : L2.ixN found.length (i : Int) = some i := ixN_nat (by omega)
  obtain ⟨p, hp⟩ : ∃ p, p = b.getD i (0, 0) := ⟨_, rfl⟩
  rw [← hp] at e
  obtain ⟨U, hU⟩ : ∃ U, U = marksOf md i true := ⟨_, rfl⟩
  obtain ⟨V, hV⟩ : ∃ V, V = marksOf md i false := ⟨_, rfl⟩
  have cu := fun a0 a1 a2 a4 a5 a6 a7 a12 ρ h => marks_comp (k := k) md i true a0 a1 a2 a4 a5 a6 a7 a12 ρ h
  have cd := fun a0 a1 a2 a4 a5 a6 a7 a12 ρ h => marks_comp (k := k) md i false a0 a1 a2 a4 a5 a6 a7 a12 ρ h
  rw [← hU] at cu
  rw [← hV] at cd
  have f : flow1 md b (r, i) = if 0 < r then (if U.isEmpty = true then none else some (p.1, max p.2 (minL U))) else if r < 0 then (if V.isEmpty = true then none else some (min p.1 (maxL V), p.2)) else some p := by
    unfold flow1
    rw [← hU, ← hV, ← hp]
  rw [f]
  obtain ⟨env, henv⟩ : ∃ env : Int → Int → PF.Env, env = fun lo hi => [.val (encM md), .val (encBx b), .own found, .val (.int i), .val (.int r), .val (.int lo), .val (.int hi), .val (.list (U.map .int)), s8, s9, s10, s11, .val (.list (V.map .int))] := ⟨_, rfl⟩
  have st0 : exS (runF tab k) (b_flowed_1.getD 0 .pass) [.val (encM md), .val (encBx b), .own found, .val (.int i), .val (.int r), s5, s6, s7, s8, s9, s10, s11, s12] = .nx [.val (encM md), .val (encBx b), .own found, .val (.int i), .val (.int r), .val (.int p.1), .val (.int p.2), s7, s8, s9, s10, s11, s12] := by
    simp [b_flowed_1, e]
  have st1 : exS (runF tab k) (b_flowed_1.getD 1 .pass) [.val (encM md), .val (encBx b), .own found, .val (.int i), .val (.int r), .val (.int p.1), .val (.int p.2), s7, s8, s9, s10, s11, s12] = .nx [.val (encM md), .val (encBx b), .own found, .val (.int i), .val (.int r), .val (.int p.1), .val (.int p.2), .val (.list (U.map .int)), s8, s9, s10, s11, s12] := by
    simp [b_flowed_1]
    rw [cu _ _ _ _ _ _ _ _ _ rfl]
    simp
  have st2 : exS (runF tab k) (b_flowed_1.getD 2 .pass) [.val (encM md), .val (encBx b), .own found, .val (.int i), .val (.int r), .val (.int p.1), .val (.int p.2), .val (.list (U.map .int)), s8, s9, s10, s11, s12] = .nx (env p.1 p.2) := by
    rw [henv]
    simp [b_flowed_1]
    rw [cd _ _ _ _ _ _ _ _ _ rfl]
    simp
  have split : b_flowed_1 = [b_flowed_1.getD 0 .pass, b_flowed_1.getD 1 .pass, b_flowed_1.getD 2 .pass, b_flowed_1.getD 3 .pass, b_flowed_1.getD 4 .pass, b_flowed_1.getD 5 .pass] := rfl
  have st5 : ∀ lo hi, exS (runF tab k) (b_flowed_1.getD 5 .pass) (env lo hi) = .nx [.val (encM md), .val (encBx b), .own (found.set i (encPr (lo, hi))), .val (.int i), .val (.int r), .val (.int lo), .val (.int hi), .val (.list (U.map .int)), s8, s9, s10, s11, .val (.list (V.map .int))] := by
    intro lo hi
    rw [henv]
    simp [b_flowed_1, ix]
    simp [encPr]
  have st3n : ¬ 0 < r → ∀ lo hi, exS (runF tab k) (b_flowed_1.getD 3 .pass) (env lo hi) = .nx (env lo hi) := by
    intro c lo hi
    rw [henv]
    simp [b_flowed_1, c]
  have st4n : ¬ r < 0 → ∀ lo hi, exS (runF tab k) (b_flowed_1.getD 4 .pass) (env lo hi) = .nx (env lo hi) := by
    intro c lo hi
    rw [henv]
    simp [b_flowed_1, c]
  by_cases c : 0 < r
  · have c2 : ¬ r < 0 := by omega
    rw [if_pos c]
    by_cases u : U = []
    · have st3 : exS (runF tab k) (b_flowed_1.getD 3 .pass) (env p.1 p.2) = .rt (.d .none) := by
        rw [henv]
        simp [b_flowed_1, c, u]
      rw [if_pos (by rw [u]; rfl)]
      simp only
      rw [split]
      simp only [exB_cons, st0, st1, st2, st3, Ctl.seq_nx, Ctl.seq_rt]
    · have mi := min1_l U u
      have ue : U.isEmpty = false := by cases U with | nil => exact absurd rfl u | cons _ _ => rfl
      have st3 : exS (runF tab k) (b_flowed_1.getD 3 .pass) (env p.1 p.2) = .nx (env p.1 (max p.2 (minL U))) := by
        rw [henv]
        simp [b_flowed_1, c, mi, ue, u]
      rw [if_neg (by rw [ue]; simp)]
      simp only
      refine ⟨.val (.int p.1), .val (.int (max p.2 (minL U))), .val (.list (U.map .int)), .val (.list (V.map .int)), ?_⟩
      rw [split]
      simp only [exB_cons, st0, st1, st2, st3, st4n c2, st5, Ctl.seq_nx, exB_nil]
  · rw [if_neg c]
    by_cases c2 : r < 0
    · rw [if_pos c2]
      by_cases u : V = []
      · have st4 : exS (runF tab k) (b_flowed_1.getD 4 .pass) (env p.1 p.2) = .rt (.d .none) := by
          rw [henv]
          simp [b_flowed_1, c2, u]
        rw [if_pos (by rw [u]; rfl)]
        simp only
        rw [split]
        simp only [exB_cons, st0, st1, st2, st3n c, st4, Ctl.seq_nx, Ctl.seq_rt]
      · have mi := max1_l V u
        have ue : V.isEmpty = false := by cases V with | nil => exact absurd rfl u | cons _ _ => rfl
        have st4 : exS (runF tab k) (b_flowed_1.getD 4 .pass) (env p.1 p.2) = .nx (env (min p.1 (maxL V)) p.2) := by
          rw [henv]
          simp [b_flowed_1, c2, mi, ue, u]
        rw [if_neg (by rw [ue]; simp)]
        simp only
        refine ⟨.val (.int (min p.1 (maxL V))), .val (.int p.2), .val (.list (U.map .int)), .val (.list (V.map .int)), ?_⟩
        rw [split]
        simp only [exB_cons, st0, st1, st2, st3n c, st4, st5, Ctl.seq_nx, exB_nil]
    · rw [if_neg c2]
      simp only
      refine ⟨.val (.int p.1), .val (.int p.2), .val (.list (U.map .int)), .val (.list (V.map .int)), ?_⟩
      rw [split]
      simp only [exB_cons, st0, st1, st2, st3n c, st4n c2, st5, Ctl.seq_nx, exB_nil]
theorem flow_loop {k : Nat} (md : Md) (b : Bx) : ∀ (rs : List Int) (i : Nat) (pre : Bx) (s3 s4 s5 s6 s7 s8 s9 s10 s11 s12 : Sl), pre.length = i → i + rs.length = b.length →
    (forD (.tup [.name 3, .name 4]) (exB (runF tab k) b_flowed_1) ((rs.zipIdx i).map fun p => PyData.tuple [.int p.2, .int p.1]) [.val (encM md), .val (encBx b), .own ((pre ++ b.drop i).map encPr), s3, s4, s5, s6, s7, s8, s9, s10, s11, s12]).seq (exB (runF tab k) [.ret (.blt .tuple [.var 2])]) =
      .rt (.d (encOB ((optAll (flow1 md b) (rs.zipIdx i)).map (pre ++ ·))))
  | [], i, pre, s3, s4, s5, s6, s7, s8, s9, s10, s11, s12, h1, h2 => by
    have : b.drop i = [] := List.drop_eq_nil_of_le (by simp at h2; omega)
    simp [forD_nil, optAll, encOB, encBx, this]
  | r :: rs, i, pre, s3, s4, s5, s6, s7, s8, s9, s10, s11, s12, h1, h2 => by
    simp only [List.length_cons] at h2
    have hi : i < b.length := by omega
    have fl : ((pre ++ b.drop i).map encPr).length = b.length := by simp; omega
    have t := flow_turn (k := k) md b r i hi ((pre ++ b.drop i).map encPr) fl s5 s6 s7 s8 s9 s10 s11 s12
    rw [List.zipIdx_cons, List.map_cons, forD_cons]
    simp only [setT_tup, setTs_cons, setT_name, Option.bind_some, setTs_nil, optC_some, List.set_cons_succ, List.set_cons_zero]
    cases q : flow1 md b (r, i) with
    | none =>
      rw [q] at t
      simp only at t
      rw [t]
      simp [optAll, q, encOB]
    | some p =>
      rw [q] at t
      simp only at t
      obtain ⟨t5, t6, t7, t12, t⟩ := t
      rw [t]
      have es : ((pre ++ b.drop i).map encPr).set i (encPr p) = ((pre ++ [p]) ++ b.drop (i + 1)).map encPr := by
        rw [← List.map_set, List.set_append_right _ _ (by omega), h1, Nat.sub_self, List.drop_eq_getElem_cons hi, List.set_cons_zero, List.append_assoc]
        rfl
      have ih := flow_loop (k := k) md b rs (i + 1) (pre ++ [p]) (.val (.int i)) (.val (.int r)) t5 t6 t7 s8 s9 s10 s11 t12 (by simp; omega) (by omega)
      rw [es]
      simp only
      rw [ih]
      simp only [optAll, q, Option.bind_some, Option.map_map]
      congr 4
      funext ys
      simp
theorem flowed_ok {k : Nat} (md : Md) (b : Bx) (om : MdN b.length md) : runF tab (k + 2) i_flowed [encM md, encBx b] = .ok (.d (encOB (flowB md b))) := by
  rw [runF_of tab_flowed rfl]
  have on := once_ok (k := k) md b om.sws
  cases c : atOnce md b with
  | true =>
    rw [c] at on
    simp [f_flowed, startE, on, flowB, c, encOB]
  | false =>
    rw [c] at on
    have e := flow_loop (k := k + 1) md b md.rates 0 [] .no .no .no .no .no .no .no .no .no .no rfl (by have := om.rates; omega)
    simp only [List.nil_append, List.drop_zero] at e
    simp [f_flowed, startE, on, enumD_map]
    rw [e]
    simp [flowB, c]
def encSt (st : BSt) : D := .list (st.map encOB)
theorem st_ix {st : BSt} {i : Nat} (h : i < st.length) : L2.atI st (i : Int) = some (stAt st i) := by
  unfold stAt
  rw [atI_nat', List.getD_eq_getElem?_getD, List.getElem?_eq_getElem h]
  simp
theorem st_ixI {st : BSt} {i : Int} (h0 : 0 ≤ i) (h : i < st.length) : L2.atI st i = some (stAt st i.toNat) := atI_pos (d := (none : Option Bx)) h0 h
theorem ixN_int {n : Nat} {i : Int} (h0 : 0 ≤ i) (h : i < n) : L2.ixN n i = some i.toNat := by
  unfold L2.ixN
  rw [if_pos h0, if_pos (by omega)]
theorem enter_turn {k n : Nat} (b : Bx) (hb : b.length = n) (hn : n ≤ 1000) (s : Sw) (hv : 0 ≤ s.v ∧ s.v < n) (st : BSt) (ht : 0 ≤ s.to ∧ s.to < st.length) (wd : Wide n st) (a0 a1 a3 a4 s7 : Sl) :
    ∃ t7 : Sl, exB (runF tab (k + 2)) b_grown_2 [a0, a1, .own (st.map encOB), a3, a4, .val (encBx b), .val (encS s), s7] = .nx [a0, a1, .own ((enter1 b st s).map encOB), a3, a4, .val (encBx b), .val (encS s), t7] := by
  have en := entered_ok (k := k + 1) b s (by rw [hb]; exact hv) (by omega)
  unfold enter1
  cases q : partB b s with
  | none =>
    rw [q] at en
    exact ⟨.val .none, by simp [b_grown_2, en, encOB]⟩
  | some p =>
    rw [q] at en
    have pl : p.length = n := by rw [(partB_le hb hv q).1]; exact hb
    have jo := joined_ok (k := k + 1) (stAt st s.to.toNat) p (fun b h => by rw [wd _ b h, pl]) (by omega)
    have ix := st_ixI ht.1 ht.2
    have ixn : L2.ixN (st.map encOB).length s.to = some s.to.toNat := ixN_int ht.1 (by rw [List.length_map]; exact ht.2)
    rw [List.length_map] at ixn
    refine ⟨.val (encBx p), ?_⟩
    have ee : encOB (some p) = encBx p := rfl
    rw [ee] at en
    obtain ⟨o, ho⟩ : ∃ o, o = stAt st s.to.toNat := ⟨_, rfl⟩
    rw [← ho] at ix jo ⊢
    simp only
    rw [List.map_set]
    simp [b_grown_2, en, ix, ixn, jo]
theorem grow_turn {k n : Nat} {mds : List Md} (om : MdsN n mds) (hn : n ≤ 1000) (md : Md) (i : Nat) (hm : mds[i]? = some md) (st : BSt) (hl : st.length = mds.length) (wd : Wide n st) (a0 a1 s5 s6 s7 : Sl) :
    match grow1 st (md, i) with
    | none => exB (runF tab (k + 2)) b_grown_1 [a0, a1, .own (st.map encOB), .val (.int i), .val (encM md), s5, s6, s7] = .rt (.d .none)
    | some st' => ∃ t5 t6 t7 : Sl, exB (runF tab (k + 2)) b_grown_1 [a0, a1, .own (st.map encOB), .val (.int i), .val (encM md), s5, s6, s7] = .nx [a0, a1, .own (st'.map encOB), .val (.int i), .val (encM md), t5, t6, t7] := by
  have hi := (List.getElem?_eq_some_iff.mp hm).1
  have mm : md ∈ mds := List.mem_of_getElem? hm
  have ix := st_ix (st := st) (i := i) (by omega)
  have ixn : L2.ixN st.length (i : Int) = some i := ixN_nat (by omega)
  unfold grow1
  simp only
  cases q : stAt st i with
  | none =>
    rw [q] at ix
    simp only
    refine ⟨s5, s6, s7, ?_⟩
    simp [b_grown_1, ix, isNoneO]
  | some b =>
    rw [q] at ix
    simp only
    have hb := wd i b q
    have fl := flowed_ok (k := k) md b (by rw [hb]; exact om.md md mm)
    have ee : encOB (some b) = encBx b := rfl
    cases q2 : flowB md b with
    | none =>
      rw [q2] at fl
      simp only [Option.map_none]
      simp [b_grown_1, ix, isNoneO, ee, fl]
    | some b' =>
      rw [q2] at fl
      simp only [Option.map_some]
      have hb' : b'.length = n := by rw [← (flowB_ge (om.md md mm) hb q2).1]; exact hb
      have w1 : Wide n (st.set i (some b')) := wd.set fun x e => by cases e; exact hb'
      obtain ⟨ρ, e, t6, t7, J⟩ := forD_inv (tg := .name 6) (b := exB (runF tab (k + 2)) b_grown_2) encS
        (fun done ρ => ∃ t6 t7 : Sl, ρ = [a0, a1, .own ((done.foldl (enter1 b') (st.set i (some b'))).map encOB), .val (.int i), .val (encM md), .val (encBx b'), t6, t7])
        md.sws [a0, a1, .own ((st.set i (some b')).map encOB), .val (.int i), .val (encM md), .val (encBx b'), s6, s7] ⟨_, _, rfl⟩ (by
          intro done s rest ρ hd ⟨t6, t7, q⟩
          subst q
          have sm : s ∈ md.sws := by rw [hd]; simp
          obtain ⟨w2, l2⟩ := enters_ok (b := b') hb' done (st := st.set i (some b')) (fun s hs => (om.md md mm).sws s (by rw [hd]; simp [hs])) w1
          have to := om.to md mm s sm
          obtain ⟨u7, g⟩ := enter_turn (k := k) b' hb' hn s ((om.md md mm).sws s sm) (done.foldl (enter1 b') (st.set i (some b'))) (by rw [← l2.1, List.length_set]; omega) w2 a0 a1 (.val (.int i)) (.val (encM md)) t7
          refine ⟨_, _, by simp, .inl g, .val (encS s), u7, ?_⟩
          rw [List.foldl_append]
          rfl)
      subst J
      have ee' : encOB (some b') = encBx b' := rfl
      refine ⟨.val (encBx b'), t6, t7, ?_⟩
      rw [List.map_set, ee'] at e
      simp [b_grown_1, ix, isNoneO, ee, fl, ee', ixn]
      rw [e]
      simp
theorem grow_loop {k n : Nat} {mds : List Md} (om : MdsN n mds) (hn : n ≤ 1000) (a0 a1 : Sl) : ∀ (ps : List (Md × Nat)) (st : BSt) (s3 s4 s5 s6 s7 : Sl), (∀ p ∈ ps, mds[p.2]? = some p.1) → st.length = mds.length → Wide n st →
    (forD (.tup [.name 3, .name 4]) (exB (runF tab (k + 2)) b_grown_1) (ps.map fun p => PyData.tuple [.int p.2, encM p.1]) [a0, a1, .own (st.map encOB), s3, s4, s5, s6, s7]).seq (exB (runF tab (k + 2)) [.retv 2]) =
      .rt (match growL st ps with | none => .d .none | some st' => .o (st'.map encOB))
  | [], st, s3, s4, s5, s6, s7, _, _, _ => by simp [forD_nil, growL]
  | (md, i) :: ps, st, s3, s4, s5, s6, s7, h, hl, wd => by
    have hm := h (md, i) (by simp)
    have t := grow_turn (k := k) om hn md i hm st hl wd a0 a1 s5 s6 s7
    rw [List.map_cons, forD_cons]
    simp only [setT_tup, setTs_cons, setT_name, Option.bind_some, setTs_nil, optC_some, List.set_cons_succ, List.set_cons_zero]
    simp only [growL]
    cases q : grow1 st (md, i) with
    | none =>
      rw [q] at t
      simp only at t
      rw [t]
      simp
    | some st' =>
      rw [q] at t
      simp only at t
      obtain ⟨t5, t6, t7, t⟩ := t
      rw [t]
      obtain ⟨w1, l1⟩ := grow1_ok (om.md md (List.mem_of_getElem? hm)) wd q
      have ih := grow_loop (k := k) om hn a0 a1 ps st' (.val (.int i)) (.val (encM md)) t5 t6 t7 (fun p hp => h p (by simp [hp])) (by rw [← l1.1]; exact hl) w1
      simp only [ih, Option.bind_some]
theorem grown_ok {k n : Nat} {w : Wk} (om : MdsN n w.modes) (hn : n ≤ 1000) (st : BSt) (hl : st.length = w.modes.length) (wd : Wide n st) :
    runF tab (k + 3) i_grown [encW w, encSt st] = .ok (match growL st w.modes.zipIdx with | none => .d .none | some st' => .o (st'.map encOB)) := by
  rw [runF_of tab_grown rfl]
  have e := grow_loop (k := k) om hn (.val (encW w)) (.val (encSt st)) w.modes.zipIdx st .no .no .no .no .no (fun p hp => zip_mem hp) hl wd
  have ls : bltD .list [.d (encSt st)] = .ok (.o (st.map encOB)) := rfl
  simp [f_grown, startE, ls, enumD_map]
  rw [e]
  simp
end
end PF

end

section
/-! P33: how far boxes can grow. -/
namespace PF
open PySem PySem.Spec PyProof.Rows L2
def wid : Bx → Nat
  | [] => 0
  | p :: r => (p.2 - p.1).toNat + wid r
def mu : BSt → Nat
  | [] => 0
  | none :: r => mu r
  | some b :: r => 1 + wid b + mu r
def NeB (b : Bx) : Prop := ∀ i, i < b.length → (b.getD i (0, 0)).1 ≤ (b.getD i (0, 0)).2
def NeS (st : BSt) : Prop := ∀ i b, stAt st i = some b → NeB b
theorem LeB.tail {p q : Int × Int} {b c : Bx} (h : LeB (p :: b) (q :: c)) : (q.1 ≤ p.1 ∧ p.2 ≤ q.2) ∧ LeB b c := by
  refine ⟨by simpa using h.2 0 (by simp), by simpa using h.1, fun i hi => ?_⟩
  have := h.2 (i + 1) (by simpa using hi)
  simpa using this
theorem NeB.tail {p : Int × Int} {b : Bx} (h : NeB (p :: b)) : p.1 ≤ p.2 ∧ NeB b := by
  refine ⟨by simpa using h 0 (by simp), fun i hi => ?_⟩
  have := h (i + 1) (by simpa using hi)
  simpa using this
theorem wid_mono : ∀ {b c : Bx}, LeB b c → wid b ≤ wid c
  | [], [], _ => Nat.le_refl _
  | [], _ :: _, h => by have := h.1; simp at this
  | _ :: _, [], h => by have := h.1; simp at this
  | p :: b, q :: c, h => by
    obtain ⟨h1, h2⟩ := h.tail
    have := wid_mono h2
    unfold wid
    omega
theorem wid_lt : ∀ {b c : Bx}, LeB b c → NeB b → b ≠ c → wid b < wid c
  | [], [], _, _, n => absurd rfl n
  | [], _ :: _, h, _, _ => by have := h.1; simp at this
  | _ :: _, [], h, _, _ => by have := h.1; simp at this
  | p :: b, q :: c, h, ne, n => by
    obtain ⟨h1, h2⟩ := h.tail
    obtain ⟨n1, n2⟩ := ne.tail
    have m := wid_mono h2
    unfold wid
    by_cases e : p = q
    · have : b ≠ c := fun z => n (by rw [e, z])
      have := wid_lt h2 n2 this
      subst e
      omega
    · have : ¬ (p.1 = q.1 ∧ p.2 = q.2) := fun z => e (Prod.ext z.1 z.2)
      omega
theorem LeS.tail {o p : Option Bx} {s t : BSt} (h : LeS (o :: s) (p :: t)) : LeO o p ∧ LeS s t := by
  refine ⟨by simpa [stAt] using h.2 0, by simpa using h.1, fun i => ?_⟩
  have := h.2 (i + 1)
  simpa [stAt] using this
theorem NeS.tail {o : Option Bx} {s : BSt} (h : NeS (o :: s)) : (∀ b, o = some b → NeB b) ∧ NeS s := by
  refine ⟨fun b e => h 0 b (by simpa [stAt] using e), fun i b e => h (i + 1) b (by simpa [stAt] using e)⟩
theorem mu_mono : ∀ {s t : BSt}, LeS s t → mu s ≤ mu t
  | [], [], _ => Nat.le_refl _
  | [], _ :: _, h => by have := h.1; simp at this
  | _ :: _, [], h => by have := h.1; simp at this
  | o :: s, p :: t, h => by
    obtain ⟨h1, h2⟩ := h.tail
    have m := mu_mono h2
    cases o with
    | none => cases p with
      | none => exact m
      | some c => simp only [mu]; omega
    | some b => cases p with
      | none => exact h1.elim
      | some c => have := wid_mono (show LeB b c from h1); simp only [mu]; omega
theorem mu_lt : ∀ {s t : BSt}, LeS s t → NeS s → s ≠ t → mu s < mu t
  | [], [], _, _, n => absurd rfl n
  | [], _ :: _, h, _, _ => by have := h.1; simp at this
  | _ :: _, [], h, _, _ => by have := h.1; simp at this
  | o :: s, p :: t, h, ne, n => by
    obtain ⟨h1, h2⟩ := h.tail
    obtain ⟨n1, n2⟩ := ne.tail
    have m := mu_mono h2
    by_cases e : o = p
    · have st : s ≠ t := fun z => n (by rw [e, z])
      have := mu_lt h2 n2 st
      subst e
      cases o <;> simp only [mu] <;> omega
    · cases o with
      | none => cases p with
        | none => exact absurd rfl e
        | some c => simp only [mu]; omega
      | some b => cases p with
        | none => exact h1.elim
        | some c =>
          have := wid_lt (show LeB b c from h1) (n1 b rfl) (fun z => e (by rw [z]))
          simp only [mu]
          omega
theorem mu_bound {f : Bx} : ∀ {s : BSt}, (∀ i b, stAt s i = some b → LeB b f) → mu s ≤ s.length * (1 + wid f)
  | [], _ => by simp [mu]
  | o :: s, h => by
    have ih := mu_bound (f := f) (s := s) (fun i b e => h (i + 1) b (by simpa [stAt] using e))
    rw [List.length_cons, Nat.succ_mul]
    cases o with
    | none => simp only [mu]; omega
    | some b =>
      have := wid_mono (h 0 b (by simp [stAt]))
      simp only [mu]
      omega
/-! ### boxes within the brims, not empty -/
def fullB (br : List Int) : Bx := br.map fun x => (0, x)
def GoodB (br : List Int) (b : Bx) : Prop := LeB b (fullB br) ∧ NeB b
def GoodS (br : List Int) (st : BSt) : Prop := ∀ i b, stAt st i = some b → GoodB br b
theorem fullB_len (br : List Int) : (fullB br).length = br.length := by simp [fullB]
theorem fullB_at {br : List Int} {i : Nat} (h : i < br.length) : (fullB br).getD i (0, 0) = (0, br.getD i 0) := by
  unfold fullB
  simp [h]
theorem GoodB.len {br : List Int} {b : Bx} (h : GoodB br b) : b.length = br.length := by rw [h.1.1, fullB_len]
theorem GoodS.wide {br : List Int} {st : BSt} (h : GoodS br st) : Wide br.length st := fun i b e => (h i b e).len
theorem GoodS.set {br : List Int} {st : BSt} (h : GoodS br st) {j : Nat} {o : Option Bx} (ho : ∀ b, o = some b → GoodB br b) : GoodS br (st.set j o) := by
  intro i b e
  rw [stAt_set] at e
  split at e
  · exact ho b e
  · exact h i b e
theorem maxL_mem {xs : List Int} (h : xs ≠ []) : maxL xs ∈ xs := by
  cases xs with
  | nil => exact absurd rfl h
  | cons x r =>
    rcases (foldl_max r x).1 with e | e
    · show r.foldl max x ∈ x :: r; rw [e]; simp
    · exact List.mem_cons_of_mem _ e
theorem minL_mem {xs : List Int} (h : xs ≠ []) : minL xs ∈ xs := by
  cases xs with
  | nil => exact absurd rfl h
  | cons x r =>
    rcases (foldl_min r x).1 with e | e
    · show r.foldl min x ∈ x :: r; rw [e]; simp
    · exact List.mem_cons_of_mem _ e
theorem isEmpty_ne {xs : List Int} (h : ¬ xs.isEmpty = true) : xs ≠ [] := fun z => h (by rw [z]; rfl)
theorem marks_in {br : List Int} {many : Int} {md : Md} (om : okM br many md) {i : Nat} {up : Bool} {x : Int} (h : x ∈ marksOf md i up) : 0 ≤ x ∧ x ≤ br.getD i 0 := by
  unfold marksOf at h
  obtain ⟨s, hs, rfl⟩ := List.mem_map.mp h
  obtain ⟨h1, h2⟩ := List.mem_filter.mp hs
  have os := om.2.2.2 s h1
  simp only [Bool.and_eq_true, decide_eq_true_eq] at h2
  have e : s.v.toNat = i := by omega
  have := os.2.1
  rw [e] at this
  exact this
theorem okM.mdN {br : List Int} {many : Int} {md : Md} (om : okM br many md) : MdN br.length md := ⟨om.2.1, fun s hs => by have := (om.2.2.2 s hs).1; omega⟩
theorem flow_good {br : List Int} {many : Int} {md : Md} {b x : Bx} (om : okM br many md) (h : GoodB br b) (e : flowB md b = some x) : GoodB br x := by
  have bl := h.len
  have mn := om.mdN
  cases q : atOnce md b with
  | true => unfold flowB at e; rw [if_pos q] at e; cases e; exact h
  | false =>
    obtain ⟨l, f⟩ := flowB_at mn q e
    have at_ : ∀ i, i < br.length → 0 ≤ (x.getD i (0, 0)).1 ∧ (x.getD i (0, 0)).2 ≤ br.getD i 0 ∧ (x.getD i (0, 0)).1 ≤ (x.getD i (0, 0)).2 := by
      intro i hi
      have fi := f i hi
      have b1 := h.1.2 i (by omega)
      have b2 := h.2 i (by omega)
      rw [fullB_at hi] at b1
      simp only at b1
      unfold flow1 at fi
      dsimp only at fi
      split at fi
      · split at fi
        · cases fi
        · rename_i c
          have := marks_in om (minL_mem (isEmpty_ne c))
          injection fi with fi
          rw [← fi]
          simp only
          omega
      · split at fi
        · split at fi
          · cases fi
          · rename_i c
            have := marks_in om (maxL_mem (isEmpty_ne c))
            injection fi with fi
            rw [← fi]
            simp only
            omega
        · injection fi with fi
          rw [← fi]
          omega
    refine ⟨⟨by rw [l, fullB_len], fun i hi => ?_⟩, fun i hi => (at_ i (by omega)).2.2⟩
    have hi' : i < br.length := by omega
    rw [fullB_at hi']
    have := at_ i hi'
    exact ⟨this.1, this.2.1⟩
theorem part_good {br : List Int} {b p : Bx} {s : Sw} (hv : 0 ≤ s.v ∧ s.v < br.length) (h : GoodB br b) (e : partB b s = some p) : GoodB br p := by
  have bl := h.len
  refine ⟨(partB_le (n := br.length) bl hv e).trans h.1, ?_⟩
  unfold partB at e
  split at e
  · cases e
  · rename_i c
    cases e
    intro i hi
    simp only [List.length_set] at hi
    rw [set_at hi]
    split
    · simp only; omega
    · exact h.2 i hi
theorem join_good {br : List Int} {b c : Bx} (h : GoodB br b) (g : GoodB br c) : GoodB br (joinB b c) := by
  have e : b.length = c.length := by rw [h.len, g.len]
  refine ⟨joinB_le h.1 g.1, fun i hi => ?_⟩
  rw [joinB_len e] at hi
  rw [joinB_at hi (by omega)]
  have := h.2 i hi
  simp only
  omega
theorem joinO_good {br : List Int} : ∀ {o p : Option Bx}, (∀ b, o = some b → GoodB br b) → (∀ b, p = some b → GoodB br b) → ∀ b, joinO o p = some b → GoodB br b
  | none, p, _, g, b, e => by cases p <;> exact g b e
  | some b, none, h, _, c, e => h c e
  | some b, some c, h, g, d, e => by cases e; exact join_good (h b rfl) (g c rfl)
theorem enter_good {br : List Int} {b : Bx} {st : BSt} {s : Sw} (hv : 0 ≤ s.v ∧ s.v < br.length) (h : GoodB br b) (g : GoodS br st) : GoodS br (enter1 b st s) := by
  unfold enter1
  cases q : partB b s with
  | none => exact g
  | some p => exact g.set (joinO_good (g _) fun x e => by cases e; exact part_good hv h q)
theorem enters_good {br : List Int} {b : Bx} (h : GoodB br b) : ∀ (ss : List Sw) {st : BSt}, (∀ s ∈ ss, 0 ≤ s.v ∧ s.v < br.length) → GoodS br st → GoodS br (ss.foldl (enter1 b) st)
  | [], _, _, g => g
  | s :: ss, _, hv, g => enters_good h ss (fun s hs => hv s (by simp [hs])) (enter_good (hv s (by simp)) h g)
theorem grow1_good {br : List Int} {many : Int} {md : Md} {st st' : BSt} {i : Nat} (om : okM br many md) (g : GoodS br st) (e : grow1 st (md, i) = some st') : GoodS br st' := by
  unfold grow1 at e
  cases q : stAt st i with
  | none => rw [q] at e; cases e; exact g
  | some b =>
    rw [q] at e
    simp only at e
    cases q2 : flowB md b with
    | none => rw [q2] at e; cases e
    | some b' =>
      rw [q2] at e
      cases e
      have gb := flow_good om (g i b q) q2
      exact enters_good gb md.sws om.mdN.sws (g.set fun x z => by cases z; exact gb)
theorem growL_good {br : List Int} {many : Int} : ∀ (ps : List (Md × Nat)) {st st' : BSt}, (∀ p ∈ ps, okM br many p.1) → GoodS br st → growL st ps = some st' → GoodS br st'
  | [], st, st', _, g, e => by cases e; exact g
  | p :: ps, st, st', om, g, e => by
    simp only [growL] at e
    obtain ⟨s1, h1, h2⟩ := Option.bind_eq_some_iff.mp e
    exact growL_good ps (fun p hp => om p (by simp [hp])) (grow1_good (om p (by simp)) g h1) h2
theorem okW.mdsN {w : Wk} (hw : okW w) : MdsN w.brims.length w.modes := ⟨fun m hm => (hw.2.2.2.1 m hm).mdN, fun m hm s hs => by have := ((hw.2.2.2.1 m hm).2.2.2 s hs).2.2; omega⟩
/-- the boxes that walls begin with -/
def st0 (w : Wk) : BSt := (List.replicate w.modes.length none).set w.at_.toNat (some (w.levels.map fun l => (l, l)))
theorem st0_len (w : Wk) : (st0 w).length = w.modes.length := by simp [st0]
theorem st0_at (w : Wk) (i : Nat) : stAt (st0 w) i = if i = w.at_.toNat ∧ w.at_.toNat < w.modes.length then some (w.levels.map fun l => (l, l)) else none := by
  unfold st0
  rw [stAt_set, List.length_replicate]
  split
  · rfl
  · unfold stAt
    rw [List.getD_eq_getElem?_getD, List.getElem?_replicate]
    split <;> rfl
theorem lev_at {ls : List Int} {i : Nat} (h : i < ls.length) : (ls.map fun l => (l, l)).getD i (0, 0) = (ls.getD i 0, ls.getD i 0) := by simp [h]
theorem st0_good {w : Wk} (hw : okW w) : GoodS w.brims (st0 w) := by
  intro i b e
  rw [st0_at] at e
  split at e
  · cases e
    have l7 := hw.2.2.2.2.2.2.1
    refine ⟨⟨by simp [fullB, l7], fun i hi => ?_⟩, fun i hi => ?_⟩
    · simp only [List.length_map] at hi
      rw [lev_at hi, fullB_at (by omega)]
      have h1 := hw.2.2.2.2.2.1 _ (getD_mem (d := 0) hi)
      have h2 := hw.2.2.2.2.2.2.2 i (by simp; omega)
      exact ⟨h1.1, h2⟩
    · simp only [List.length_map] at hi
      rw [lev_at hi]
      exact Int.le_refl _
  · cases e
end PF

end

section
/-! P34: the program's walls are the least closed boxes. -/
namespace PF
open PySem PySem.Spec PyProof.Rows L2
theorem lay_Pr (p : Int × Int) : Lay 1 (encPr p) := lay_t _ fun y hy => by
  simp at hy
  rcases hy with rfl | rfl
  · exact lay_i _
  · exact lay_i _
theorem lay_n : Lay 0 .none := ⟨rfl, Nat.le_refl _⟩
theorem lay_Bx (b : Bx) : Lay 2 (encBx b) := lay_tm _ b fun x _ => lay_Pr x
theorem lay_OB (o : Option Bx) : Lay 2 (encOB o) := by
  cases o with
  | none => exact lay_n.mono (by omega)
  | some b => exact lay_Bx b
theorem lay_St (st : BSt) : Lay 3 (encSt st) := lay_lm _ st fun x _ => lay_OB x
theorem plain_Pr (p : Int × Int) : plain (encPr p) = true := rfl
theorem plain_Bx (b : Bx) : plain (encBx b) = true := plain_tm _ b fun x _ => plain_Pr x
theorem plain_OB (o : Option Bx) : plain (encOB o) = true := by
  cases o with
  | none => rfl
  | some b => exact plain_Bx b
theorem plain_St (st : BSt) : plain (encSt st) = true := plain_lm _ st fun x _ => plain_OB x
theorem map_inj {α β : Type} {f : α → β} (hf : ∀ x y, f x = f y → x = y) : ∀ {xs ys : List α}, xs.map f = ys.map f → xs = ys
  | [], [], _ => rfl
  | [], _ :: _, h => by simp at h
  | _ :: _, [], h => by simp at h
  | x :: xs, y :: ys, h => by
    simp only [List.map_cons, List.cons.injEq] at h
    rw [hf x y h.1, map_inj hf h.2]
theorem encPr_inj {p q : Int × Int} (h : encPr p = encPr q) : p = q := by
  unfold encPr at h
  injection h with h
  injection h with h1 h2
  injection h2 with h2 _
  injection h1 with h1
  injection h2 with h2
  exact Prod.ext h1 h2
theorem encBx_inj {b c : Bx} (h : encBx b = encBx c) : b = c := by
  unfold encBx at h
  injection h with h
  exact map_inj (fun _ _ => encPr_inj) h
theorem encOB_inj {o p : Option Bx} (h : encOB o = encOB p) : o = p := by
  cases o with
  | none => cases p with
    | none => rfl
    | some c => cases h
  | some b => cases p with
    | none => cases h
    | some c => rw [encBx_inj h]
theorem encSt_inj {s t : BSt} (h : encSt s = encSt t) : s = t := by
  unfold encSt at h
  injection h with h
  exact map_inj (fun _ _ => encOB_inj) h
theorem eq_St {a b : R} {s t : BSt} (ha : a.toD = encSt s) (hb : b.toD = encSt t) : cmpD .Eq a b = .ok (.d (.bool (@decide (s = t) (Classical.propDecidable _)))) := by
  rw [eq_plain (n := 3) (m := 3) (by rw [ha]; exact lay_St s) (by rw [hb]; exact lay_St t) (by omega) (by omega) (by rw [ha]; exact plain_St s) (by rw [hb]; exact plain_St t)]
  congr 3
  rw [ha, hb]
  by_cases h : s = t
  · subst h; simp
  · have : ¬ encSt s = encSt t := fun z => h (encSt_inj z)
    simp [h, this]
def encRes : Option BSt → D
  | none => .none
  | some st => encSt st
/-- what walls are: the least closed boxes over st, or none, where there are none -/
def WRes (w : Wk) (st : BSt) : Option BSt → Prop
  | none => ∀ C, Closed w.modes C → LeS st C → False
  | some B => Closed w.modes B ∧ LeS st B ∧ GoodS w.brims B ∧ B.length = w.modes.length ∧ ∀ C, Closed w.modes C → LeS st C → LeS B C
theorem walls_loop {k : Nat} {w : Wk} (hw : okW w) (a2 : Sl) : ∀ (N : Nat) (st : BSt) (s1 s3 s4 : Sl), (s1 = .own (st.map encOB) ∨ s1 = .val (encSt st)) → st.length = w.modes.length → GoodS w.brims st → w.modes.length * (1 + wid (fullB w.brims)) < mu st + N →
    ∃ r, whlD (tst (runF tab (k + 3)) (.con (.bool true))) (exB (runF tab (k + 3)) b_walls_1) [.val (encW w), s1, a2, s3, s4] = .rt (.d (encRes r)) ∧ WRes w st r
  | 0, st, s1, s3, s4, h1, hl, g, hN => by
    have := mu_bound (f := fullB w.brims) (s := st) (fun i b e => (g i b e).1)
    rw [hl] at this
    omega
  | N + 1, st, s1, s3, s4, h1, hl, g, hN => by
    have om := hw.mdsN
    have b4 := hw.2.1.2
    rw [whlD_step]
    have tt : tst (runF tab (k + 3)) (.con (.bool true)) [.val (encW w), s1, a2, s3, s4] = .ok true := by simp
    rw [tt]
    simp only [M.ctl_ok, if_pos]
    have gr := grown_ok (k := k) (w := w) om (by omega) st hl g.wide
    have fz : exS (runF tab (k + 3)) (b_walls_1.getD 0 .pass) [.val (encW w), s1, a2, s3, s4] = exS (runF tab (k + 3)) (b_walls_1.getD 0 .pass) [.val (encW w), .val (encSt st), a2, s3, s4] := by
      rcases h1 with h1 | h1
      · subst h1
        simp [b_walls_1]
        rfl
      · rw [h1]
    have spl : b_walls_1 = [b_walls_1.getD 0 .pass, b_walls_1.getD 1 .pass, b_walls_1.getD 2 .pass] := rfl
    cases q : growL st w.modes.zipIdx with
    | none =>
      rw [q] at gr
      refine ⟨none, ?_, fun C hC hle => ?_⟩
      · have st1 : exS (runF tab (k + 3)) (b_walls_1.getD 0 .pass) [.val (encW w), .val (encSt st), a2, s3, s4] = .nx [.val (encW w), .val (encSt st), a2, s3, .val .none] := by
          simp [b_walls_1, gr]
        have st2 : exS (runF tab (k + 3)) (b_walls_1.getD 1 .pass) [.val (encW w), .val (encSt st), a2, s3, .val .none] = .rt (.d .none) := by
          simp [b_walls_1]
        rw [spl]
        simp only [exB_cons, fz, st1, st2, Ctl.seq_nx, Ctl.seq_rt, encRes]
      · obtain ⟨s', e, _⟩ := grow_le om g.wide hle hC
        rw [q] at e
        cases e
    | some st' =>
      rw [q] at gr
      obtain ⟨w1, l1⟩ := grow_ok om g.wide q
      have g1 : GoodS w.brims st' := growL_good w.modes.zipIdx (fun p hp => hw.2.2.2.1 p.1 (List.mem_of_getElem? (zip_mem hp))) g q
      have st1 : exS (runF tab (k + 3)) (b_walls_1.getD 0 .pass) [.val (encW w), .val (encSt st), a2, s3, s4] = .nx [.val (encW w), .val (encSt st), a2, s3, .val (encSt st')] := by
        simp [b_walls_1, gr]
        rfl
      have cmp := eq_St (a := .d (encSt st')) (b := .d (encSt st)) rfl rfl
      have isn : isNoneD (encSt st') = false := rfl
      by_cases c : st' = st
      · subst c
        refine ⟨some st', ?_, grow_closed om g.wide hl q, LeS.refl _, g1, hl, fun C hC hle => hle⟩
        have st2 : exS (runF tab (k + 3)) (b_walls_1.getD 1 .pass) [.val (encW w), .val (encSt st'), a2, s3, .val (encSt st')] = .rt (.d (encSt st')) := by
          simp [b_walls_1, isn, cmp]
        rw [spl]
        simp only [exB_cons, fz, st1, st2, Ctl.seq_nx, Ctl.seq_rt, encRes]
      · have lt := mu_lt l1 (fun i b e => (g i b e).2) (fun z => c z.symm)
        obtain ⟨r, e, wr⟩ := walls_loop (k := k) hw a2 N st' (.val (encSt st')) s3 (.val (encSt st')) (.inr rfl) (by rw [← l1.1]; exact hl) g1 (by omega)
        refine ⟨r, ?_, ?_⟩
        · have st2 : exS (runF tab (k + 3)) (b_walls_1.getD 1 .pass) [.val (encW w), .val (encSt st), a2, s3, .val (encSt st')] = .nx [.val (encW w), .val (encSt st), a2, s3, .val (encSt st')] := by
            simp [b_walls_1, isn, cmp, c]
          have st3 : exS (runF tab (k + 3)) (b_walls_1.getD 2 .pass) [.val (encW w), .val (encSt st), a2, s3, .val (encSt st')] = .nx [.val (encW w), .val (encSt st'), a2, s3, .val (encSt st')] := by
            simp [b_walls_1]
          have all : exB (runF tab (k + 3)) b_walls_1 [.val (encW w), s1, a2, s3, s4] = .nx [.val (encW w), .val (encSt st'), a2, s3, .val (encSt st')] := by
            rw [spl]
            simp only [exB_cons, fz, st1, st2, st3, Ctl.seq_nx, exB_nil]
          rw [all]
          exact e
        · cases r with
          | none =>
            intro C hC hle
            obtain ⟨s', e', le'⟩ := grow_le om g.wide hle hC
            rw [q] at e'
            cases e'
            exact wr C hC le'
          | some B =>
            obtain ⟨a, b, c', d, f⟩ := wr
            refine ⟨a, l1.trans b, c', d, fun C hC hle => ?_⟩
            obtain ⟨s', e', le'⟩ := grow_le om g.wide hle hC
            rw [q] at e'
            cases e'
            exact f C hC le'
theorem walls_ok {k : Nat} {w : Wk} (hw : okW w) : ∃ r, runF tab (k + 6) i_walls [encW w] = .ok (.d (encRes r)) ∧ WRes w (st0 w) r := by
  have at1 := hw.2.2.2.2.1
  have z12 := hw.2.2.1.2
  obtain ⟨r, e, wr⟩ := walls_loop (k := k + 2) hw .no (w.modes.length * (1 + wid (fullB w.brims)) + 1) (st0 w) (.own ((st0 w).map encOB)) .no .no (.inl rfl) (st0_len w) (st0_good hw) (by omega)
  refine ⟨r, ?_, wr⟩
  rw [runF_of tab_walls rfl]
  have ck : runF tab (k + 5) i_checked [encW w] = .ok (.d (encW w)) := by rw [checked_ok, if_pos hw]
  have ixn : L2.ixN w.modes.length w.at_ = some w.at_.toNat := ixN_int at1.1 (by omega)
  simp [f_walls, startE, ck]
  rw [compD_map1 encM (fun _ => PyData.none)]
  · simp
    rw [compD_map1 PyData.int (fun l => encPr (l, l))]
    · simp [ixn]
      have es : (w.modes.map fun _ => PyData.none).set w.at_.toNat (.tuple (w.levels.map fun l => encPr (l, l))) = (st0 w).map encOB := by
        unfold st0
        rw [List.map_set, List.map_replicate, List.map_const']
        simp [encOB, encBx]
        rfl
      rw [es, e]
      simp
    · intro x hx
      simp [encPr]
  · intro x hx
    simp
end PF

end

section
/-! P11e: an empty list; slices of own lists. -/
namespace PF
open PySem PySem.Spec PyProof.Rows L2
theorem eq_nil (xs : List Int) : cmpD .Eq (.d (.list (xs.map PyData.int))) (.o []) = .ok (.d (.bool xs.isEmpty)) := by
  rw [eq_lay (a := .d (.list (xs.map PyData.int))) (b := .o []) (lay_lm _ xs fun x _ => lay_i x) (lay_l (n := 0) [] (by simp)) (by omega) (by omega)]
  cases xs <;> simp [PyData.eqv, PyData.eqvAll]
@[simp] theorem sl_o (xs : List D) (l h : Option Int) : slD (.o xs) l h = .ok (.o (cutD xs l h)) := rfl
end PF

end

section
/-! P41: whether walls hold. -/
namespace PF
open PySem PySem.Spec PyProof.Rows L2
def liesB : Bx → Bx → Bool
  | p :: b, q :: c => decide (q.1 ≤ p.1 ∧ p.2 ≤ q.2) && liesB b c
  | _, _ => true
theorem liesB_iff : ∀ {b c : Bx}, b.length = c.length → (liesB b c = true ↔ LeB b c)
  | [], [], _ => by simp [liesB, LeB]
  | p :: b, q :: c, h => by
    have ih := liesB_iff (b := b) (c := c) (by simpa using h)
    unfold liesB
    rw [Bool.and_eq_true, decide_eq_true_eq, ih]
    constructor
    · intro ⟨a, l⟩
      refine ⟨h, fun i hi => ?_⟩
      cases i with
      | zero => exact a
      | succ i => exact l.2 i (by simpa using hi)
    · intro l
      exact ⟨l.2 0 (by simp), LeB.tail l |>.2⟩
  | [], _ :: _, h => by cases h
  | _ :: _, [], h => by cases h
theorem lies_loop {k : Nat} (a0 a1 : Sl) : ∀ (b c : Bx) (s2 s3 : Sl), b.length = c.length →
    (forD (.tup [.name 2, .name 3]) (exB (runF tab k) b_lies_in_1) (((b.map encPr).zip (c.map encPr)).map fun p => PyData.tuple [p.1, p.2]) [a0, a1, s2, s3]).seq (exB (runF tab k) [.ret (.con (.bool true))]) = .rt (.d (.bool (liesB b c)))
  | [], [], s2, s3, _ => by simp [forD_nil, liesB]
  | p :: b, q :: c, s2, s3, h => by
    have ih := lies_loop (k := k) a0 a1 b c (.val (encPr p)) (.val (encPr q)) (by simpa using h)
    simp only [List.map_cons, List.zip_cons_cons]
    rw [forD_cons]
    simp only [setT_tup, setTs_cons, setT_name, Option.bind_some, setTs_nil, optC_some, List.set_cons_succ, List.set_cons_zero]
    by_cases c1 : q.1 ≤ p.1 ∧ p.2 ≤ q.2
    · have st : exB (runF tab k) b_lies_in_1 [a0, a1, .val (encPr p), .val (encPr q)] = .nx [a0, a1, .val (encPr p), .val (encPr q)] := by
        have n1 : ¬ p.1 < q.1 := by omega
        have n2 : ¬ q.2 < p.2 := by omega
        simp [b_lies_in_1, n1, n2]
      rw [st]
      simp only [ih]
      simp [liesB, c1]
    · have st : exB (runF tab k) b_lies_in_1 [a0, a1, .val (encPr p), .val (encPr q)] = .rt (.d (.bool false)) := by
        by_cases n1 : p.1 < q.1
        · simp [b_lies_in_1, n1]
        · have n2 : q.2 < p.2 := by omega
          simp [b_lies_in_1, n1, n2]
      rw [st]
      have z : liesB (p :: b) (q :: c) = false := by
        unfold liesB
        rw [decide_eq_false c1]
        rfl
      simp [z]
  | [], _ :: _, _, _, h => by cases h
  | _ :: _, [], _, _, h => by cases h
theorem lies_in_ok {k : Nat} (b c : Bx) (h : b.length = c.length) : runF tab (k + 1) i_lies_in [encBx b, encBx c] = .ok (.d (.bool (liesB b c))) := by
  rw [runF_of tab_lies_in rfl]
  have e := lies_loop (k := k) (.val (encBx b)) (.val (encBx c)) b c .no .no h
  simp [f_lies_in, startE]
  rw [e]
  simp
/-- one switch's part lies in the box of the mode that it names -/
def partIn (st : BSt) (b : Bx) (s : Sw) : Bool := match partB b s with
  | none => true
  | some p => match stAt st s.to.toNat with
    | none => false
    | some c => liesB p c
def closedB (st : BSt) (md : Md) (b : Bx) : Bool := match flowB md b with
  | none => false
  | some b' => liesB b' b && md.sws.all (partIn st b)
theorem holds_loop {k n : Nat} (st : BSt) (a0 a3 : Sl) (b : Bx) (hb : b.length = n) (hn : n ≤ 1000) (wd : Wide n st) : ∀ (ss : List Sw) (s4 s5 : Sl), (∀ s ∈ ss, (0 ≤ s.v ∧ s.v < n) ∧ (0 ≤ s.to ∧ s.to < st.length)) →
    (forD (.name 4) (exB (runF tab (k + 1)) b_holds_at_1) (ss.map encS) [a0, .val (encBx b), .val (encSt st), a3, s4, s5]).seq (exB (runF tab (k + 1)) [.ret (.con (.bool true))]) = .rt (.d (.bool (ss.all (partIn st b))))
  | [], s4, s5, _ => by simp [forD_nil]
  | s :: ss, s4, s5, h => by
    obtain ⟨hv, ht⟩ := h s (by simp)
    have en := entered_ok (k := k) b s (by rw [hb]; exact hv) (by omega)
    have ix := st_ixI (st := st) ht.1 (by exact_mod_cast ht.2)
    have isx : ixD (.d (encSt st)) (.d (.int s.to)) = .ok (.d (encOB (stAt st s.to.toNat))) := by
      show (M.opt (L2.atI (st.map encOB) s.to)).bind _ = _
      rw [atI_map, ix]
      rfl
    rw [List.map_cons, forD_cons]
    simp only [setT_name, optC_some, List.set_cons_succ, List.set_cons_zero]
    cases hp : partB b s with
    | none =>
      have ih := holds_loop (k := k) st a0 a3 b hb hn wd ss (.val (encS s)) (.val .none) fun s hs => h s (by simp [hs])
      rw [hp] at en
      have en : runF tab (k + 1) i_entered [encBx b, encS s] = .ok (.d .none) := en
      have st' : exB (runF tab (k + 1)) b_holds_at_1 [a0, .val (encBx b), .val (encSt st), a3, .val (encS s), s5] = .nx [a0, .val (encBx b), .val (encSt st), a3, .val (encS s), .val .none] := by
        simp [b_holds_at_1, en]
      rw [st']
      simp only [ih]
      have pe : partIn st b s = true := by unfold partIn; rw [hp]
      simp [pe]
    | some p =>
      have lp : p.length = n := by rw [← hb]; exact (partB_le hb hv hp).1
      rw [hp] at en
      have en : runF tab (k + 1) i_entered [encBx b, encS s] = .ok (.d (encBx p)) := en
      cases hc : stAt st s.to.toNat with
      | none =>
        rw [hc] at isx
        have isx : ixD (.d (encSt st)) (.d (.int s.to)) = .ok (.d .none) := isx
        have st' : exB (runF tab (k + 1)) b_holds_at_1 [a0, .val (encBx b), .val (encSt st), a3, .val (encS s), s5] = .rt (.d (.bool false)) := by
          simp [b_holds_at_1, en, isx]
        rw [st']
        have pe : partIn st b s = false := by unfold partIn; rw [hp]; simp only [hc]
        simp [pe]
      | some c =>
        have lc : c.length = n := wd _ _ hc
        rw [hc] at isx
        have isx : ixD (.d (encSt st)) (.d (.int s.to)) = .ok (.d (encBx c)) := isx
        have li := lies_in_ok (k := k) p c (by omega)
        cases q : liesB p c with
        | true =>
          have ih := holds_loop (k := k) st a0 a3 b hb hn wd ss (.val (encS s)) (.val (encBx p)) fun s hs => h s (by simp [hs])
          rw [q] at li
          have st' : exB (runF tab (k + 1)) b_holds_at_1 [a0, .val (encBx b), .val (encSt st), a3, .val (encS s), s5] = .nx [a0, .val (encBx b), .val (encSt st), a3, .val (encS s), .val (encBx p)] := by
            simp [b_holds_at_1, en, isx, li]
          rw [st']
          simp only [ih]
          have pe : partIn st b s = true := by unfold partIn; rw [hp]; simp only [hc, q]
          simp [pe]
        | false =>
          rw [q] at li
          have st' : exB (runF tab (k + 1)) b_holds_at_1 [a0, .val (encBx b), .val (encSt st), a3, .val (encS s), s5] = .rt (.d (.bool false)) := by
            simp [b_holds_at_1, en, isx, li]
          rw [st']
          have pe : partIn st b s = false := by unfold partIn; rw [hp]; simp only [hc, q]
          simp [pe]
theorem holds_at_ok {k n : Nat} (st : BSt) (md : Md) (b : Bx) (hb : b.length = n) (hn : n ≤ 1000) (wd : Wide n st) (om : MdN n md) (to : ∀ s ∈ md.sws, 0 ≤ s.to ∧ s.to < st.length) : runF tab (k + 3) i_holds_at [encM md, encBx b, encSt st] = .ok (.d (.bool (closedB st md b))) := by
  rw [runF_of tab_holds_at rfl]
  have fl := flowed_ok (k := k) md b (by rw [hb]; exact om)
  cases hf : flowB md b with
  | none =>
    rw [hf] at fl
    have fl : runF tab (k + 2) i_flowed [encM md, encBx b] = .ok (.d .none) := fl
    simp [f_holds_at, startE, fl, closedB, hf]
  | some x =>
    rw [hf] at fl
    have fl : runF tab (k + 2) i_flowed [encM md, encBx b] = .ok (.d (encBx x)) := fl
    have lx := (flowB_ge om hb hf).1
    have li := lies_in_ok (k := k + 1) x b (by omega)
    cases q : liesB x b with
    | false =>
      rw [q] at li
      simp [f_holds_at, startE, fl, li, closedB, hf, q]
    | true =>
      rw [q] at li
      have e := holds_loop (k := k + 1) st (.val (encM md)) (.val (encBx x)) b hb hn wd md.sws .no .no fun s hs => ⟨om.sws s hs, to s hs⟩
      simp [f_holds_at, startE, fl, li]
      rw [e]
      simp [closedB, hf, q]
theorem box_loop {k : Nat} (a0 a1 : Sl) : ∀ (b : Bx) (br : List Int) (s2 s3 : Sl), GoodB br b →
    (forD (.tup [.name 2, .name 3]) (exB (runF tab (k + 1)) b_is_box_1) (((b.map encPr).zip (br.map PyData.int)).map fun p => PyData.tuple [p.1, p.2]) [a0, a1, s2, s3]).seq (exB (runF tab (k + 1)) [.ret (.con (.bool true))]) = .rt (.d (.bool true))
  | [], [], s2, s3, _ => by simp [forD_nil]
  | p :: b, q :: br, s2, s3, h => by
    obtain ⟨l, n⟩ := h
    have l' : LeB (p :: b) ((0, q) :: fullB br) := l
    obtain ⟨⟨l1, l2⟩, l3⟩ := LeB.tail l'
    obtain ⟨n1, n2⟩ := NeB.tail n
    have ih := box_loop (k := k) a0 a1 b br (.val (encPr p)) (.val (.int q)) ⟨l3, n2⟩
    have w1 := is_within_ok (k := k) p.1 0 q
    have w2 := is_within_ok (k := k) p.2 p.1 q
    have c1 : 0 ≤ p.1 ∧ p.1 ≤ q := by simp only at l1 l2; omega
    have c2 : p.1 ≤ p.2 ∧ p.2 ≤ q := by simp only at l1 l2; omega
    have ty : isTy .tuple (encPr p) = .ok true := rfl
    have ln : bltD .len [.d (encPr p)] = .ok (.d (.int 2)) := rfl
    simp only [List.map_cons, List.zip_cons_cons]
    rw [forD_cons]
    simp only [setT_tup, setTs_cons, setT_name, Option.bind_some, setTs_nil, optC_some, List.set_cons_succ, List.set_cons_zero]
    have st : exB (runF tab (k + 1)) b_is_box_1 [a0, a1, .val (encPr p), .val (.int q)] = .nx [a0, a1, .val (encPr p), .val (.int q)] := by
      simp [b_is_box_1, ty, ln, c1, c2]
    rw [st]
    simp only [ih]
  | [], _ :: _, _, _, h => by have := h.1.1; simp [fullB] at this
  | _ :: _, [], _, _, h => by have := h.1.1; simp [fullB] at this
theorem is_box_ok {k : Nat} {w : Wk} {b : Bx} (h : GoodB w.brims b) : runF tab (k + 2) i_is_box [encW w, encBx b] = .ok (.d (.bool true)) := by
  rw [runF_of tab_is_box rfl]
  have e := box_loop (k := k) (.val (encW w)) (.val (encBx b)) b w.brims .no .no h
  have ty : isTy .tuple (encBx b) = .ok true := rfl
  have ln : bltD .len [.d (encBx b)] = .ok (.d (.int b.length)) := by
    show M.ok (R.d (.int ((b.map encPr).length : Nat))) = _
    rw [List.length_map]
  have hl := h.len
  simp [f_is_box, startE, ty, ln, hl]
  rw [e]
  simp
def modeIn (st : BSt) (p : Md × Nat) : Bool := match stAt st p.2 with
  | none => true
  | some b => closedB st p.1 b
def beginIn (w : Wk) (st : BSt) : Bool := match stAt st w.at_.toNat with
  | none => false
  | some c => liesB (w.levels.map fun l => (l, l)) c
def holdB (w : Wk) (st : BSt) : Bool := beginIn w st && w.modes.zipIdx.all (modeIn st)
theorem hold_loop {k : Nat} {w : Wk} (hw : okW w) (st : BSt) (hl : st.length = w.modes.length) (g : GoodS w.brims st) (a2 a3 a4 : Sl) : ∀ (ps : List (Md × Nat)) (s5 s6 : Sl), (∀ p ∈ ps, w.modes[p.2]? = some p.1) →
    (forD (.tup [.name 5, .name 6]) (exB (runF tab (k + 3)) b_hold_1) (ps.map fun p => PyData.tuple [.int p.2, encM p.1]) [.val (encW w), .val (encSt st), a2, a3, a4, s5, s6]).seq (exB (runF tab (k + 3)) [.ret (.con (.bool true))]) = .rt (.d (.bool (ps.all (modeIn st))))
  | [], s5, s6, _ => by simp [forD_nil]
  | p :: ps, s5, s6, h => by
    have hp := h p (by simp)
    have pl := (List.getElem?_eq_some_iff.mp hp).1
    have ih := hold_loop (k := k) hw st hl g a2 a3 a4 ps (.val (.int p.2)) (.val (encM p.1)) fun q hq => h q (by simp [hq])
    have om := hw.2.2.2.1 p.1 (List.mem_of_getElem? hp)
    have ix := st_ix (st := st) (i := p.2) (by omega)
    have isx : ixD (.d (encSt st)) (.d (.int p.2)) = .ok (.d (encOB (stAt st p.2))) := by
      show (M.opt (L2.atI (st.map encOB) (p.2 : Int))).bind _ = _
      rw [atI_map, ix]
      rfl
    rw [List.map_cons, forD_cons]
    simp only [setT_tup, setTs_cons, setT_name, Option.bind_some, setTs_nil, optC_some, List.set_cons_succ, List.set_cons_zero]
    cases hc : stAt st p.2 with
    | none =>
      rw [hc] at isx
      have isx : ixD (.d (encSt st)) (.d (.int p.2)) = .ok (.d .none) := isx
      have st' : exB (runF tab (k + 3)) b_hold_1 [.val (encW w), .val (encSt st), a2, a3, a4, .val (.int p.2), .val (encM p.1)] = .nx [.val (encW w), .val (encSt st), a2, a3, a4, .val (.int p.2), .val (encM p.1)] := by
        simp [b_hold_1, isx]
      rw [st']
      simp only [ih]
      have pe : modeIn st p = true := by unfold modeIn; simp only [hc]
      simp [pe]
    | some b =>
      rw [hc] at isx
      have isx : ixD (.d (encSt st)) (.d (.int p.2)) = .ok (.d (encBx b)) := isx
      have gb := g _ _ hc
      have b4 := hw.2.1
      have ha := holds_at_ok (k := k) st p.1 b gb.len (by omega) g.wide om.mdN (fun s hs => by have := (om.2.2.2 s hs).2.2; omega)
      cases q : closedB st p.1 b with
      | true =>
        rw [q] at ha
        have st' : exB (runF tab (k + 3)) b_hold_1 [.val (encW w), .val (encSt st), a2, a3, a4, .val (.int p.2), .val (encM p.1)] = .nx [.val (encW w), .val (encSt st), a2, a3, a4, .val (.int p.2), .val (encM p.1)] := by
          simp [b_hold_1, isx, ha]
        rw [st']
        simp only [ih]
        have pe : modeIn st p = true := by unfold modeIn; simp only [hc, q]
        simp [pe]
      | false =>
        rw [q] at ha
        have st' : exB (runF tab (k + 3)) b_hold_1 [.val (encW w), .val (encSt st), a2, a3, a4, .val (.int p.2), .val (encM p.1)] = .rt (.d (.bool false)) := by
          simp [b_hold_1, isx, ha]
        rw [st']
        have pe : modeIn st p = false := by unfold modeIn; simp only [hc, q]
        simp [pe]
theorem hold_ok {k : Nat} {w : Wk} (hw : okW w) (st : BSt) (hl : st.length = w.modes.length) (g : GoodS w.brims st) : runF tab (k + 6) i_hold [encW w, encSt st] = .ok (.d (.bool (holdB w st))) := by
  rw [runF_of tab_hold rfl]
  have ck := checked_ok (k := k) w
  rw [if_pos hw] at ck
  have ty : isTy .list (encSt st) = .ok true := rfl
  have ln : bltD .len [.d (encSt st)] = .ok (.d (.int st.length)) := by
    show M.ok (R.d (.int ((st.map encOB).length : Nat))) = _
    rw [List.length_map]
  have sq : seqD (.d (encSt st)) = .ok (st.map encOB) := rfl
  have a5 := hw.2.2.2.2.1
  have ix := st_ixI (st := st) (i := w.at_) (by omega) (by omega)
  have isx : ixD (.d (encSt st)) (.d (.int w.at_)) = .ok (.d (encOB (stAt st w.at_.toNat))) := by
    show (M.opt (L2.atI (st.map encOB) w.at_)).bind _ = _
    rw [atI_map, ix]
    rfl
  obtain ⟨o, ho⟩ : ∃ o, o = stAt st w.at_.toNat := ⟨_, rfl⟩
  rw [← ho] at isx
  have e := hold_loop (k := k + 2) hw st hl g .no (.val (encBx (w.levels.map fun l => (l, l)))) .no w.modes.zipIdx .no .no (fun p hp => List.mem_zipIdx_iff_getElem?.mp hp)
  simp [f_hold, startE, ck, ty, ln, hl, sq]
  rw [compD_map encOB (fun _ => false) encOB]
  · have fz : ∀ l : BSt, l.filter (fun _ => false) = [] := fun l => List.filter_eq_nil_iff.mpr (by simp)
    rw [fz]
    simp
    rw [compD_map1 PyData.int (fun l => encPr (l, l))]
    · have eb : PyData.tuple (w.levels.map fun l => encPr (l, l)) = encBx (w.levels.map fun l => (l, l)) := by
        unfold encBx
        rw [List.map_map]
        rfl
      simp [eb, isx]
      cases o with
      | none =>
        have hc := ho.symm
        have pe : beginIn w st = false := by unfold beginIn; simp only [hc]
        simp [encOB, isNoneO, holdB, pe]
      | some c =>
        have hc := ho.symm
        have lc := (g _ _ hc).len
        have ll := hw.2.2.2.2.2.2.1
        have li := lies_in_ok (k := k + 4) (w.levels.map fun l => (l, l)) c (by rw [List.length_map]; omega)
        cases q : liesB (w.levels.map fun l => (l, l)) c with
        | false =>
          rw [q] at li
          have pe : beginIn w st = false := by unfold beginIn; simp only [hc, q]
          simp [encOB, isNoneO, li, holdB, pe]
        | true =>
          rw [q] at li
          have im : ixD (.d (encW w)) (.d (.int 1)) = .ok (.d (.tuple (w.modes.map encM))) := encW_1 w
          simp [encOB, isNoneO, li, im, enumD_map]
          rw [e]
          have pe : beginIn w st = true := by unfold beginIn; simp only [hc, q]
          simp [holdB, pe]
    · intro x hx
      exact ⟨_, setT_name _ _ _, by simp, by simp; rfl⟩
  · intro o ho
    refine ⟨_, setT_name _ _ _, ?_, by simp⟩
    cases o with
    | none => simp [encOB, isNoneO]
    | some b =>
      obtain ⟨i, hi⟩ := List.getElem?_of_mem ho
      have gb : GoodB w.brims b := g i b (by unfold stAt; rw [List.getD_eq_getElem?_getD, hi]; rfl)
      have bx := is_box_ok (k := k + 3) gb
      simp [encOB, isNoneO, bx]
/-- walls that hold are closed -/
theorem closedB_iff {n : Nat} {st : BSt} {md : Md} {b : Bx} (hb : b.length = n) (wd : Wide n st) (om : MdN n md) : closedB st md b = true ↔ ClosedAt st md b := by
  have pin : ∀ s ∈ md.sws, (partIn st b s = true ↔ ∀ p, partB b s = some p → LeO (some p) (stAt st s.to.toNat)) := by
    intro s hs
    unfold partIn
    cases hp : partB b s with
    | none => simp
    | some p =>
      have lp : p.length = n := by rw [← hb]; exact (partB_le hb (om.sws s hs) hp).1
      cases hc : stAt st s.to.toNat with
      | none => simp [LeO]
      | some c =>
        have lc : c.length = n := wd _ _ hc
        simp only
        rw [liesB_iff (by omega)]
        constructor
        · intro h p' e
          cases e
          exact h
        · intro h
          exact h p rfl
  unfold closedB ClosedAt
  cases hf : flowB md b with
  | none => simp
  | some x =>
    have lx := (flowB_ge om hb hf).1
    simp only [Bool.and_eq_true, List.all_eq_true]
    rw [liesB_iff (by omega)]
    constructor
    · intro ⟨h1, h2⟩
      exact ⟨⟨x, rfl, h1⟩, fun s hs => (pin s hs).mp (h2 s hs)⟩
    · intro ⟨⟨y, e, h1⟩, h2⟩
      cases e
      exact ⟨h1, fun s hs => (pin s hs).mpr (h2 s hs)⟩
theorem holdB_iff {w : Wk} (hw : okW w) {st : BSt} (hl : st.length = w.modes.length) (g : GoodS w.brims st) : holdB w st = true ↔ (Closed w.modes st ∧ LeS (st0 w) st) := by
  have a5 := hw.2.2.2.2.1
  have s0 : ∀ i, stAt (st0 w) i = if i = w.at_.toNat then some (w.levels.map fun l => (l, l)) else none := fun i => by
    rw [st0_at]
    by_cases c : i = w.at_.toNat
    · rw [if_pos ⟨c, by omega⟩, if_pos c]
    · rw [if_neg (fun z => c z.1), if_neg c]
  unfold holdB
  rw [Bool.and_eq_true, List.all_eq_true]
  constructor
  · intro ⟨h1, h2⟩
    refine ⟨fun i md b hm hb => ?_, by rw [st0_len, hl], fun i => ?_⟩
    · have om := hw.2.2.2.1 md (List.mem_of_getElem? hm)
      have := h2 (md, i) (List.mem_zipIdx_iff_getElem?.mpr hm)
      unfold modeIn at this
      simp only [hb] at this
      exact (closedB_iff (g _ _ hb).len g.wide om.mdN).mp this
    · rw [s0]
      by_cases c : i = w.at_.toNat
      · rw [if_pos c, c]
        unfold beginIn at h1
        cases hc : stAt st w.at_.toNat with
        | none => rw [hc] at h1; cases h1
        | some x =>
          rw [hc] at h1
          have lc := (g _ _ hc).len
          have ll := hw.2.2.2.2.2.2.1
          exact (liesB_iff (by rw [List.length_map]; omega)).mp h1
      · rw [if_neg c]
        trivial
  · intro ⟨h1, h2⟩
    refine ⟨?_, fun p hp => ?_⟩
    · have := h2.2 w.at_.toNat
      rw [s0, if_pos rfl] at this
      unfold beginIn
      cases hc : stAt st w.at_.toNat with
      | none => rw [hc] at this; exact this.elim
      | some x =>
        rw [hc] at this
        have lc := (g _ _ hc).len
        have ll := hw.2.2.2.2.2.2.1
        exact (liesB_iff (by rw [List.length_map]; omega)).mpr this
    · have hm := List.mem_zipIdx_iff_getElem?.mp hp
      unfold modeIn
      cases hb : stAt st p.2 with
      | none => rfl
      | some b =>
        have om := hw.2.2.2.1 p.1 (List.mem_of_getElem? hm)
        exact (closedB_iff (g _ _ hb).len g.wide om.mdN).mpr (h1 _ _ _ hm hb)
end PF

end

section
/-! P43: the law's _law_out (from L11). -/
namespace PF
open PySem PySem.Spec PyProof.Rows L2
theorem lonce_loop {k : Nat} (b : Bx) (a0 : Sl) (rest : List CS) : ∀ (ss : List Sw) (s2 s3 s4 s5 s6 s7 s8 s9 s10 s11 : Sl), (∀ s ∈ ss, 0 ≤ s.v ∧ s.v < b.length) → ss.any (atOnce1 b) = true →
    (forD (.tup [.name 2, .name 3, .name 4, .name 5]) (exB (runF tab k) b__law_out_1) (ss.map encS) [a0, .val (encBx b), s2, s3, s4, s5, s6, s7, s8, s9, s10, s11]).seq (exB (runF tab k) rest) = .rt (.d (encBx b))
  | [], s2, s3, s4, s5, s6, s7, s8, s9, s10, s11, _, h => by simp at h
  | s :: ss, s2, s3, s4, s5, s6, s7, s8, s9, s10, s11, h, hn => by
    have e := bx_at (h s (by simp))
    rw [List.map_cons, forD_cons]
    simp only [encS_set, setTs_cons, setT_name, Option.bind_some, setTs_nil, optC_some]
    simp only [List.set_cons_succ, List.set_cons_zero]
    cases c : atOnce1 b s with
    | true =>
      have st : exB (runF tab k) b__law_out_1 [a0, .val (encBx b), .val (.int s.v), .val (wayD s.up), .val (.int s.mark), .val (.int s.to), s6, s7, s8, s9, s10, s11] = .rt (.d (encBx b)) := by
        unfold atOnce1 at c
        cases hu : s.up with
        | true => rw [if_pos hu] at c; simp at c; simp [b__law_out_1, e, c]
        | false => rw [if_neg (by rw [hu]; simp)] at c; simp at c; simp [b__law_out_1, e, c]
      rw [st]
      simp
    | false =>
      have st : exB (runF tab k) b__law_out_1 [a0, .val (encBx b), .val (.int s.v), .val (wayD s.up), .val (.int s.mark), .val (.int s.to), s6, s7, s8, s9, s10, s11] = .nx [a0, .val (encBx b), .val (.int s.v), .val (wayD s.up), .val (.int s.mark), .val (.int s.to), s6, s7, s8, s9, s10, s11] := by
        unfold atOnce1 at c
        cases hu : s.up with
        | true => rw [if_pos hu] at c; have c' := of_decide_eq_false c; simp [b__law_out_1, e, c']
        | false => rw [if_neg (by rw [hu]; simp)] at c; have c' := of_decide_eq_false c; simp [b__law_out_1, e, c']
      rw [st]
      simp only
      rw [lonce_loop b a0 rest ss _ _ _ _ _ _ _ _ _ _ (fun s hs => h s (by simp [hs])) (by simpa [c] using hn)]
theorem lonce_no {k : Nat} (b : Bx) (a0 : Sl) : ∀ (ss : List Sw) (s2 s3 s4 s5 s6 s7 s8 s9 s10 s11 : Sl), (∀ s ∈ ss, 0 ≤ s.v ∧ s.v < b.length) → ss.any (atOnce1 b) = false →
    ∃ t2 t3 t4 t5 : Sl, forD (.tup [.name 2, .name 3, .name 4, .name 5]) (exB (runF tab k) b__law_out_1) (ss.map encS) [a0, .val (encBx b), s2, s3, s4, s5, s6, s7, s8, s9, s10, s11] = .nx [a0, .val (encBx b), t2, t3, t4, t5, s6, s7, s8, s9, s10, s11]
  | [], s2, s3, s4, s5, s6, s7, s8, s9, s10, s11, _, h => ⟨_, _, _, _, rfl⟩
  | s :: ss, s2, s3, s4, s5, s6, s7, s8, s9, s10, s11, h, hn => by
    have e := bx_at (h s (by simp))
    rw [List.any_cons, Bool.or_eq_false_iff] at hn
    obtain ⟨c, hn⟩ := hn
    rw [List.map_cons, forD_cons]
    simp only [encS_set, setTs_cons, setT_name, Option.bind_some, setTs_nil, optC_some]
    simp only [List.set_cons_succ, List.set_cons_zero]
    have st : exB (runF tab k) b__law_out_1 [a0, .val (encBx b), .val (.int s.v), .val (wayD s.up), .val (.int s.mark), .val (.int s.to), s6, s7, s8, s9, s10, s11] = .nx [a0, .val (encBx b), .val (.int s.v), .val (wayD s.up), .val (.int s.mark), .val (.int s.to), s6, s7, s8, s9, s10, s11] := by
      unfold atOnce1 at c
      cases hu : s.up with
      | true => rw [if_pos hu] at c; have c' := of_decide_eq_false c; simp [b__law_out_1, e, c']
      | false => rw [if_neg (by rw [hu]; simp)] at c; have c' := of_decide_eq_false c; simp [b__law_out_1, e, c']
    rw [st]
    simp only
    exact lonce_no b a0 ss _ _ _ _ _ _ _ _ _ _ (fun s hs => h s (by simp [hs])) hn
theorem lmarks_comp {k : Nat} (md : Md) (i : Nat) (up : Bool) (a0 a1 a4 a5 a6 a7 a8 a9 a10 : Sl) :
    ∀ ρ : PF.Env, ρ = [a0, a1, .val (.int i), .val (wayD up), a4, a5, a6, a7, a8, a9, a10, .no] → compD (.name 11) (evc (runF tab k) [.and (.cmp .Eq (.ix (.var 11) (.con (.int 0))) (.var 2)) (.cmp .Eq (.ix (.var 11) (.con (.int 1))) (.var 3))]) (evT (runF tab k) (.ix (.var 11) (.con (.int 2)))) ρ (md.sws.map encS) = .ok ((marksOf md i up).map PyData.int) := by
  intro ρ hρ
  subst hρ
  have := compD_map (tg := .name 11) (t := evc (runF tab k) [.and (.cmp .Eq (.ix (.var 11) (.con (.int 0))) (.var 2)) (.cmp .Eq (.ix (.var 11) (.con (.int 1))) (.var 3))]) (e := evT (runF tab k) (.ix (.var 11) (.con (.int 2)))) (ρ := [a0, a1, .val (.int i), .val (wayD up), a4, a5, a6, a7, a8, a9, a10, .no]) encS (fun s => decide (s.v = (i : Int)) && (s.up == up)) (fun s => PyData.int s.mark) md.sws (by
    intro s hs
    refine ⟨[a0, a1, .val (.int i), .val (wayD up), a4, a5, a6, a7, a8, a9, a10, .val (encS s)], by simp, ?_, by simp⟩
    by_cases c : s.v = (i : Int)
    · simp [c]
    · simp [c])
  rw [this]
  unfold marksOf
  rw [List.map_map]
  rfl
theorem lout_turn {k : Nat} (md : Md) (b : Bx) (r : Int) (i : Nat) (hi : i < b.length) (found : List D) (hf : found.length ≤ 1000) (s3 s4 s5 s8 s9 s10 s11 : Sl) :
    match flow1 md b (r, i) with
    | none => exB (runF tab k) b__law_out_2 [.val (encM md), .val (encBx b), .val (.int i), s3, s4, s5, .own found, .val (.int r), s8, s9, s10, s11] = .rt (.d .none)
    | some p => ∃ t3 t8 t9 t10 : Sl, exB (runF tab k) b__law_out_2 [.val (encM md), .val (encBx b), .val (.int i), s3, s4, s5, .own found, .val (.int r), s8, s9, s10, s11] =
        .nx [.val (encM md), .val (encBx b), .val (.int i), t3, s4, s5, .own (found ++ [encPr p]), .val (.int r), t8, t9, t10, s11] := by
  have e : L2.atI b (i : Int) = some (b.getD i (0, 0)) := by
    rw [atI_nat', List.getD_eq_getElem?_getD, List.getElem?_eq_getElem hi]
    simp
  have lt : found.length < sizeLine := lt_big (by omega)
  obtain ⟨p, hp⟩ : ∃ p, p = b.getD i (0, 0) := ⟨_, rfl⟩
  rw [← hp] at e
  obtain ⟨U, hU⟩ : ∃ U, U = marksOf md i true := ⟨_, rfl⟩
  obtain ⟨V, hV⟩ : ∃ V, V = marksOf md i false := ⟨_, rfl⟩
  have cu := fun a0 a1 a4 a5 a6 a7 a8 a9 a10 ρ h => lmarks_comp (k := k) md i true a0 a1 a4 a5 a6 a7 a8 a9 a10 ρ h
  have cd := fun a0 a1 a4 a5 a6 a7 a8 a9 a10 ρ h => lmarks_comp (k := k) md i false a0 a1 a4 a5 a6 a7 a8 a9 a10 ρ h
  rw [← hU] at cu
  rw [← hV] at cd
  have f : flow1 md b (r, i) = if 0 < r then (if U.isEmpty = true then none else some (p.1, max p.2 (minL U))) else if r < 0 then (if V.isEmpty = true then none else some (min p.1 (maxL V), p.2)) else some p := by
    unfold flow1
    rw [← hU, ← hV, ← hp]
  rw [f]
  have way : ∀ c : Bool, ixD (.o [wayD false, wayD true]) (.d (.int (if c = true then 1 else 0))) = .ok (.d (wayD c)) := fun c => by cases c <;> rfl
  have uu : cmpD .Eq (.d (wayD true)) (.d (wayD true)) = .ok (.d (.bool true)) := eq_way _ _
  have du : cmpD .Eq (.d (wayD false)) (.d (wayD true)) = .ok (.d (.bool false)) := eq_way _ _
  obtain ⟨env, henv⟩ : ∃ env : Sl → Int → Int → Sl → PF.Env, env = fun t3 lo hi t => [.val (encM md), .val (encBx b), .val (.int i), t3, s4, s5, .own found, .val (.int r), .val (.int lo), .val (.int hi), t, s11] := ⟨_, rfl⟩
  have st0 : exS (runF tab k) (b__law_out_2.getD 0 .pass) [.val (encM md), .val (encBx b), .val (.int i), s3, s4, s5, .own found, .val (.int r), s8, s9, s10, s11] = .nx (env s3 p.1 p.2 s10) := by
    rw [henv]
    simp [b__law_out_2, e]
  have split : b__law_out_2 = [b__law_out_2.getD 0 .pass, b__law_out_2.getD 1 .pass, b__law_out_2.getD 2 .pass] := rfl
  have st2 : ∀ t3 lo hi t, exS (runF tab k) (b__law_out_2.getD 2 .pass) (env t3 lo hi t) = .nx [.val (encM md), .val (encBx b), .val (.int i), t3, s4, s5, .own (found ++ [encPr (lo, hi)]), .val (.int r), .val (.int lo), .val (.int hi), t, s11] := by
    intro t3 lo hi t
    rw [henv]
    simp [b__law_out_2, lt]
    simp [encPr]
  have st1n : r = 0 → ∀ t3 lo hi t, exS (runF tab k) (b__law_out_2.getD 1 .pass) (env t3 lo hi t) = .nx (env t3 lo hi t) := by
    intro c t3 lo hi t
    rw [henv]
    simp [b__law_out_2, c]
  by_cases c : 0 < r
  · have c0 : ¬ r = 0 := by omega
    rw [if_pos c]
    have en := eq_nil U
    have wy := way (decide (0 < r))
    rw [decide_eq_true c] at wy
    by_cases u : U = []
    · have st1 : exS (runF tab k) (b__law_out_2.getD 1 .pass) (env s3 p.1 p.2 s10) = .rt (.d .none) := by
        rw [henv]
        simp at wy
        simp [b__law_out_2, c0, c, wy]
        rw [cu _ _ _ _ _ _ _ _ _ _ rfl]
        rw [u] at en ⊢
        simp at en
        simp [en]
      rw [if_pos (by rw [u]; rfl)]
      simp only
      rw [split]
      simp only [exB_cons, st0, st1, Ctl.seq_nx, Ctl.seq_rt]
    · have mi := min1_l U u
      have ue : U.isEmpty = false := by cases U with | nil => exact absurd rfl u | cons _ _ => rfl
      rw [ue] at en
      have st1 : exS (runF tab k) (b__law_out_2.getD 1 .pass) (env s3 p.1 p.2 s10) = .nx (env (.val (wayD true)) p.1 (max p.2 (minL U)) (.val (.list (U.map .int)))) := by
        rw [henv]
        simp at wy
        simp [b__law_out_2, c0, c, wy]
        rw [cu _ _ _ _ _ _ _ _ _ _ rfl]
        simp [en, mi, uu]
      rw [if_neg (by rw [ue]; simp)]
      simp only
      refine ⟨.val (wayD true), .val (.int p.1), .val (.int (max p.2 (minL U))), .val (.list (U.map .int)), ?_⟩
      rw [split]
      simp only [exB_cons, st0, st1, st2, Ctl.seq_nx, exB_nil]
  · rw [if_neg c]
    by_cases c2 : r < 0
    · rw [if_pos c2]
      have c0 : ¬ r = 0 := by omega
      have en := eq_nil V
      have wy := way (decide (0 < r))
      rw [decide_eq_false c] at wy
      by_cases u : V = []
      · have st1 : exS (runF tab k) (b__law_out_2.getD 1 .pass) (env s3 p.1 p.2 s10) = .rt (.d .none) := by
          rw [henv]
          simp at wy
          simp [b__law_out_2, c0, c, wy]
          rw [cd _ _ _ _ _ _ _ _ _ _ rfl]
          rw [u] at en ⊢
          simp at en
          simp [en]
        rw [if_pos (by rw [u]; rfl)]
        simp only
        rw [split]
        simp only [exB_cons, st0, st1, Ctl.seq_nx, Ctl.seq_rt]
      · have mi := max1_l V u
        have ue : V.isEmpty = false := by cases V with | nil => exact absurd rfl u | cons _ _ => rfl
        rw [ue] at en
        have st1 : exS (runF tab k) (b__law_out_2.getD 1 .pass) (env s3 p.1 p.2 s10) = .nx (env (.val (wayD false)) (min p.1 (maxL V)) p.2 (.val (.list (V.map .int)))) := by
          rw [henv]
          simp at wy
          simp [b__law_out_2, c0, c, wy]
          rw [cd _ _ _ _ _ _ _ _ _ _ rfl]
          simp [en, mi, du]
        rw [if_neg (by rw [ue]; simp)]
        simp only
        refine ⟨.val (wayD false), .val (.int (min p.1 (maxL V))), .val (.int p.2), .val (.list (V.map .int)), ?_⟩
        rw [split]
        simp only [exB_cons, st0, st1, st2, Ctl.seq_nx, exB_nil]
    · rw [if_neg c2]
      simp only
      refine ⟨s3, .val (.int p.1), .val (.int p.2), s10, ?_⟩
      rw [split]
      simp only [exB_cons, st0, st1n (by omega), st2, Ctl.seq_nx, exB_nil]
theorem lout_loop {k : Nat} (md : Md) (b : Bx) (hb : b.length ≤ 1000) : ∀ (rs : List Int) (i : Nat) (pre : Bx) (s2 s3 s4 s5 s7 s8 s9 s10 s11 : Sl), pre.length = i → i + rs.length = b.length →
    (forD (.tup [.name 2, .name 7]) (exB (runF tab k) b__law_out_2) ((rs.zipIdx i).map fun p => PyData.tuple [.int p.2, .int p.1]) [.val (encM md), .val (encBx b), s2, s3, s4, s5, .own (pre.map encPr), s7, s8, s9, s10, s11]).seq (exB (runF tab k) [.ret (.blt .tuple [.var 6])]) =
      .rt (.d (encOB ((optAll (flow1 md b) (rs.zipIdx i)).map (pre ++ ·))))
  | [], i, pre, s2, s3, s4, s5, s7, s8, s9, s10, s11, h1, h2 => by simp [forD_nil, optAll, encOB, encBx]
  | r :: rs, i, pre, s2, s3, s4, s5, s7, s8, s9, s10, s11, h1, h2 => by
    simp only [List.length_cons] at h2
    have hi : i < b.length := by omega
    have t := lout_turn (k := k) md b r i hi (pre.map encPr) (by rw [List.length_map]; omega) s3 s4 s5 s8 s9 s10 s11
    rw [List.zipIdx_cons, List.map_cons, forD_cons]
    simp only [setT_tup, setTs_cons, setT_name, Option.bind_some, setTs_nil, optC_some, List.set_cons_succ, List.set_cons_zero]
    cases q : flow1 md b (r, i) with
    | none =>
      rw [q] at t
      simp only at t
      rw [t]
      simp [optAll, q, encOB]
    | some p =>
      rw [q] at t
      simp only at t
      obtain ⟨t3, t8, t9, t10, t⟩ := t
      rw [t]
      have es : pre.map encPr ++ [encPr p] = (pre ++ [p]).map encPr := by simp
      have ih := lout_loop (k := k) md b hb rs (i + 1) (pre ++ [p]) (.val (.int i)) t3 s4 s5 (.val (.int r)) t8 t9 t10 s11 (by simp; omega) (by omega)
      rw [es]
      simp only
      rw [ih]
      simp only [optAll, q, Option.bind_some, Option.map_map]
      congr 4
      funext ys
      simp
theorem lout_ok {k : Nat} (md : Md) (b : Bx) (om : MdN b.length md) (hb : b.length ≤ 1000) : runF tab (k + 1) i__law_out [encM md, encBx b] = .ok (.d (encOB (flowB md b))) := by
  rw [runF_of tab__law_out rfl]
  cases c : atOnce md b with
  | true =>
    have e := lonce_loop (k := k) b (.val (encM md)) [.asg 6 true (.lst []), .for (.tup [(.name 2), (.name 7)]) .enum (.ix (.var 0) (.con (.int 0))) (.con .none) b__law_out_2, .ret (.blt .tuple [(.var 6)])] md.sws .no .no .no .no .no .no .no .no .no .no om.sws c
    simp only [f__law_out, startE]
    simp [-exB_cons]
    rw [exB_cons]
    simp [-exB_cons]
    rw [e]
    simp [flowB, c, encOB]
  | false =>
    obtain ⟨t2, t3, t4, t5, e1⟩ := lonce_no (k := k) b (.val (encM md)) md.sws .no .no .no .no .no .no .no .no .no .no om.sws c
    have e := lout_loop (k := k) md b hb md.rates 0 [] t2 t3 t4 t5 .no .no .no .no .no rfl (by have := om.rates; omega)
    simp only [List.map_nil, List.nil_append] at e
    simp [f__law_out, startE]
    rw [e1]
    simp [enumD_map]
    rw [e]
    simp [flowB, c]
end PF

end

section
/-! P44: the law's look at walls is hold's. -/
namespace PF
open PySem PySem.Spec PyProof.Rows L2
theorem bx_get {b : Bx} {i : Nat} (h : i < b.length) : L2.atI (b.map encPr) (i : Int) = some (encPr (b.getD i (0, 0))) := by
  rw [atI_map, atI_pos (d := ((0 : Int), (0 : Int))) (by omega) (by omega)]
  rfl
theorem liesB_all {b c : Bx} (h : b.length = c.length) : ((List.range b.length).filter fun i => decide ((b.getD i (0, 0)).1 < (c.getD i (0, 0)).1) || decide ((c.getD i (0, 0)).2 < (b.getD i (0, 0)).2)).isEmpty = liesB b c := by
  rw [Bool.eq_iff_iff, liesB_iff h, List.isEmpty_iff, List.filter_eq_nil_iff]
  unfold LeB
  constructor
  · intro g
    refine ⟨h, fun i hi => ?_⟩
    have := g i (List.mem_range.mpr hi)
    simp [-List.getD_eq_getElem?_getD] at this
    omega
  · intro g i hi
    have := g.2 i (List.mem_range.mp hi)
    simp [-List.getD_eq_getElem?_getD]
    omega
theorem llies_gen {k : Nat} (x : D) (b c : Bx) (h : b.length = c.length) (b9 : b.length ≤ 1000) (hx : x = .list (b.map encPr) ∨ x = .tuple (b.map encPr)) : runF tab (k + 1) i__law_lies [x, encBx c] = .ok (.d (.bool (liesB b c))) := by
  rw [runF_of tab__law_lies rfl]
  have ix : ∀ i : Nat, i < b.length → ixD (.d x) (.d (.int i)) = .ok (.d (encPr (b.getD i (0, 0)))) := fun i hi => by
    have e := bx_get hi
    rcases hx with rfl | rfl
    · show (M.opt (L2.atI (b.map encPr) (i : Int))).bind _ = _
      rw [e]; rfl
    · show (M.opt (L2.atI (b.map encPr) (i : Int))).bind _ = _
      rw [e]; rfl
  have iy : ∀ i : Nat, i < b.length → ixD (.d (encBx c)) (.d (.int i)) = .ok (.d (encPr (c.getD i (0, 0)))) := fun i hi => by
    have e := bx_get (b := c) (i := i) (by omega)
    show (M.opt (L2.atI (c.map encPr) (i : Int))).bind _ = _
    rw [e]; rfl
  have ln : bltD .len [.d x] = .ok (.d (.int b.length)) := by
    rcases hx with rfl | rfl
    · show M.ok (R.d (.int ((b.map encPr).length : Nat))) = _
      rw [List.length_map]
    · show M.ok (R.d (.int ((b.map encPr).length : Nat))) = _
      rw [List.length_map]
  have rg : rngD 0 (b.length : Int) = .ok ((List.range b.length).map fun (i : Nat) => PyData.int (i : Int)) := rngD_nat (by omega)
  simp [f__law_lies, startE, ln, rg]
  rw [compD_map (fun (i : Nat) => PyData.int (i : Int)) (fun i => decide ((b.getD i (0, 0)).1 < (c.getD i (0, 0)).1) || decide ((c.getD i (0, 0)).2 < (b.getD i (0, 0)).2)) (fun (i : Nat) => PyData.int (i : Int))]
  · obtain ⟨L, hL⟩ : ∃ L, L = (List.range b.length).filter fun i => decide ((b.getD i (0, 0)).1 < (c.getD i (0, 0)).1) || decide ((c.getD i (0, 0)).2 < (b.getD i (0, 0)).2) := ⟨_, rfl⟩
    have el := liesB_all h
    rw [← hL] at el ⊢
    have en : cmpD .Eq (.o (L.map fun (i : Nat) => PyData.int (i : Int))) (.o []) = .ok (.d (.bool L.isEmpty)) := by
      have := eq_nil (L.map fun (i : Nat) => (i : Int))
      rw [List.map_map] at this
      have z : (L.map fun (i : Nat) => (i : Int)).isEmpty = L.isEmpty := by cases L <;> rfl
      rw [z] at this
      exact this
    simp [en, el]
  · intro i hi
    have hi := List.mem_range.mp hi
    refine ⟨_, setT_name _ _ _, ?_, by simp⟩
    have e1 := ix i hi
    have e2 := iy i hi
    obtain ⟨p, hp⟩ : ∃ p, p = b.getD i (0, 0) := ⟨_, rfl⟩
    obtain ⟨q, hq⟩ : ∃ q, q = c.getD i (0, 0) := ⟨_, rfl⟩
    rw [← hp] at e1 ⊢
    rw [← hq] at e2 ⊢
    by_cases c1 : p.1 < q.1
    · simp [e1, e2, c1]
    · simp [e1, e2, c1]
theorem llies_ok {k : Nat} (b c : Bx) (h : b.length = c.length) (b9 : b.length ≤ 1000) : runF tab (k + 1) i__law_lies [encBx b, encBx c] = .ok (.d (.bool (liesB b c))) := llies_gen _ b c h b9 (.inr rfl)
theorem lwhole_i {k : Nat} (i : Int) : runF tab (k + 1) i__law_whole [.int i] = .ok (.d (.bool true)) := by
  rw [runF_of tab__law_whole rfl]
  simp [f__law_whole, startE, isTy]
theorem lwhole_b {k : Nat} (i : Bool) : runF tab (k + 1) i__law_whole [.bool i] = .ok (.d (.bool false)) := by
  rw [runF_of tab__law_whole rfl]
  simp [f__law_whole, startE, isTy]
/-! ### a box -/
theorem br_get {w : Wk} {i : Nat} (h : i < w.brims.length) : ixD (.d (encI w.brims)) (.d (.int i)) = .ok (.d (.int (w.brims.getD i 0))) := by
  rw [encI_ix, atI_pos (d := (0 : Int)) (by omega) (by omega)]
  rfl
theorem lbox_turn {k : Nat} {w : Wk} {p : Int × Int} {i : Nat} (hi : i < w.brims.length) (a1 : Sl) (s2 s3 : Sl) (h : 0 ≤ p.1 ∧ p.1 ≤ p.2 ∧ p.2 ≤ w.brims.getD i 0) :
    exB (runF tab (k + 1)) b__law_box_1 [.val (encW w), a1, .val (.int i), .val (encPr p)] = .nx [.val (encW w), a1, .val (.int i), .val (encPr p)] := by
  obtain ⟨h1, h2, h3⟩ := h
  have ty : isTy .tuple (encPr p) = .ok true := rfl
  have ln : bltD .len [.d (encPr p)] = .ok (.d (.int 2)) := rfl
  have bi := br_get hi
  obtain ⟨z, hz⟩ : ∃ z, z = w.brims.getD i 0 := ⟨_, rfl⟩
  rw [← hz] at bi h3
  simp [b__law_box_1, ty, ln, lwhole_i, h1, h2, bi, h3]
theorem lbox_run {k : Nat} {w : Wk} (a1 : Sl) : ∀ (b : Bx) (j : Nat) (s2 s3 : Sl), (∀ i, i < b.length → j + i < w.brims.length ∧ 0 ≤ (b.getD i (0, 0)).1 ∧ (b.getD i (0, 0)).1 ≤ (b.getD i (0, 0)).2 ∧ (b.getD i (0, 0)).2 ≤ w.brims.getD (j + i) 0) →
    ∃ t2 t3 : Sl, forD (.tup [.name 2, .name 3]) (exB (runF tab (k + 1)) b__law_box_1) ((b.zipIdx j).map fun p => PyData.tuple [.int p.2, encPr p.1]) [.val (encW w), a1, s2, s3] = .nx [.val (encW w), a1, t2, t3]
  | [], j, s2, s3, _ => ⟨s2, s3, rfl⟩
  | p :: b, j, s2, s3, h => by
    obtain ⟨t2, t3, ih⟩ := lbox_run (k := k) (w := w) a1 b (j + 1) (.val (.int j)) (.val (encPr p)) fun i hi => by
      have := h (i + 1) (by simpa using hi)
      rw [show j + (i + 1) = j + 1 + i by omega] at this
      exact this
    have h0 := h 0 (by simp)
    have st := lbox_turn (k := k) (w := w) (p := p) (i := j) h0.1 a1 s2 s3 h0.2
    refine ⟨t2, t3, ?_⟩
    rw [List.zipIdx_cons, List.map_cons, forD_cons]
    simp only [setT_tup, setTs_cons, setT_name, Option.bind_some, setTs_nil, optC_some, List.set_cons_succ, List.set_cons_zero]
    rw [st]
    exact ih
theorem good_at {br : List Int} {b : Bx} (g : GoodB br b) : ∀ i, i < b.length → i < br.length ∧ 0 ≤ (b.getD i (0, 0)).1 ∧ (b.getD i (0, 0)).1 ≤ (b.getD i (0, 0)).2 ∧ (b.getD i (0, 0)).2 ≤ br.getD i 0 := fun i hi => by
  have gl := g.len
  have l := g.1.2 i hi
  rw [fullB_at (by omega)] at l
  exact ⟨by omega, l.1, g.2 i hi, l.2⟩
theorem bx_len (b : Bx) : bltD .len [.d (encBx b)] = .ok (.d (.int b.length)) := by
  show M.ok (R.d (.int ((b.map encPr).length : Nat))) = _
  rw [List.length_map]
theorem lbox_ok {k : Nat} {w : Wk} {b : Bx} (g : GoodB w.brims b) : runF tab (k + 2) i__law_box [encW w, encBx b] = .ok (.d (.bool true)) := by
  rw [runF_of tab__law_box rfl]
  have ty : isTy .tuple (encBx b) = .ok true := rfl
  have ln := bx_len b
  have hl := g.len
  have ga := good_at g
  obtain ⟨t2, t3, e⟩ := lbox_run (k := k) (w := w) (.val (encBx b)) b 0 .no .no fun i hi => by rw [Nat.zero_add]; exact ga i hi
  simp [f__law_box, startE, ty, ln, hl, enumD_map]
  rw [e]
  simp
/-! ### the law's hold -/
theorem st_at {st : BSt} {i : Int} (h0 : 0 ≤ i) (h : i < st.length) : ixD (.d (encSt st)) (.d (.int i)) = .ok (.d (encOB (stAt st i.toNat))) := by
  have ix := st_ixI (st := st) (i := i) h0 h
  show (M.opt (L2.atI (st.map encOB) i)).bind _ = _
  rw [atI_map, ix]
  rfl
theorem lgood_2 {k n : Nat} (st : BSt) (a0 a3 a4 a5 a6 : Sl) (b : Bx) (hb : b.length = n) (hn : n ≤ 1000) (wd : Wide n st) : ∀ (ss : List Sw) (s7 s8 s9 s10 s11 s12 s13 : Sl), (∀ s ∈ ss, (0 ≤ s.v ∧ s.v < n) ∧ (0 ≤ s.to ∧ s.to < st.length)) →
    (ss.all (partIn st b) = true ∧ ∃ t7 t8 t9 t10 t11 t12 t13 : Sl, forD (.tup [.name 7, .name 8, .name 9, .name 10]) (exB (runF tab (k + 1)) b__law_good_2) (ss.map encS) [a0, .val (encSt st), .val (encBx b), a3, a4, a5, a6, s7, s8, s9, s10, s11, s12, s13] = .nx [a0, .val (encSt st), .val (encBx b), a3, a4, a5, a6, t7, t8, t9, t10, t11, t12, t13]) ∨
    (ss.all (partIn st b) = false ∧ forD (.tup [.name 7, .name 8, .name 9, .name 10]) (exB (runF tab (k + 1)) b__law_good_2) (ss.map encS) [a0, .val (encSt st), .val (encBx b), a3, a4, a5, a6, s7, s8, s9, s10, s11, s12, s13] = .rt (.d (.bool false)))
  | [], s7, s8, s9, s10, s11, s12, s13, _ => .inl ⟨rfl, s7, s8, s9, s10, s11, s12, s13, rfl⟩
  | s :: ss, s7, s8, s9, s10, s11, s12, s13, h => by
    obtain ⟨hv, ht⟩ := h s (by simp)
    have isx := st_at (st := st) ht.1 (by exact_mod_cast ht.2)
    have sx : ∀ ts ρ, setT (.tup ts) (encS s) ρ = setTs ts [.int s.v, wayD s.up, .int s.mark, .int s.to] ρ := fun ts ρ => setT_tup ρ _ _
    have vx : ixD (.d (encBx b)) (.d (.int s.v)) = .ok (.d (encPr (bxAt b s.v))) := by
      rw [encBx_ix, bx_at (by omega)]
      rfl
    obtain ⟨lo, hlo⟩ : ∃ lo, lo = partLo b s := ⟨_, rfl⟩
    obtain ⟨hi, hhi⟩ : ∃ hi, hi = partHi b s := ⟨_, rfl⟩
    obtain ⟨p, hp⟩ : ∃ p, p = bxAt b s.v := ⟨_, rfl⟩
    rw [← hp] at vx
    -- what the body does up to the comparison of the bounds
    have head : ∀ (c : CS) , exB (runF tab (k + 1)) (b__law_good_2.take 2 ++ [c]) [a0, .val (encSt st), .val (encBx b), a3, a4, a5, a6, .val (.int s.v), .val (wayD s.up), .val (.int s.mark), .val (.int s.to), s11, s12, s13] = exB (runF tab (k + 1)) [c] [a0, .val (encSt st), .val (encBx b), a3, a4, a5, a6, .val (.int s.v), .val (wayD s.up), .val (.int s.mark), .val (.int s.to), .val (.int lo), .val (.int hi), s13] := by
      intro c
      have up_eq : cmpD .Eq (.d (wayD s.up)) (.d (wayD true)) = .ok (.d (.bool (s.up == true))) := eq_way _ _
      rw [exB_append]
      cases hu : s.up with
      | true =>
        rw [hu] at up_eq
        have e1 : lo = max p.1 s.mark := by rw [hlo]; unfold partLo; rw [if_pos hu, hp]
        have e2 : hi = p.2 := by rw [hhi]; unfold partHi; rw [if_pos hu, hp]
        have : exB (runF tab (k + 1)) (b__law_good_2.take 2) [a0, .val (encSt st), .val (encBx b), a3, a4, a5, a6, .val (.int s.v), .val (wayD true), .val (.int s.mark), .val (.int s.to), s11, s12, s13] = .nx [a0, .val (encSt st), .val (encBx b), a3, a4, a5, a6, .val (.int s.v), .val (wayD true), .val (.int s.mark), .val (.int s.to), .val (.int lo), .val (.int hi), s13] := by
          simp [b__law_good_2, vx, up_eq, e1, e2]
        rw [this, Ctl.seq_nx]
      | false =>
        rw [hu] at up_eq
        have nu : ¬ s.up = true := by rw [hu]; simp
        have e1 : lo = p.1 := by rw [hlo]; unfold partLo; rw [if_neg nu, hp]
        have e2 : hi = min p.2 s.mark := by rw [hhi]; unfold partHi; rw [if_neg nu, hp]
        have : exB (runF tab (k + 1)) (b__law_good_2.take 2) [a0, .val (encSt st), .val (encBx b), a3, a4, a5, a6, .val (.int s.v), .val (wayD false), .val (.int s.mark), .val (.int s.to), s11, s12, s13] = .nx [a0, .val (encSt st), .val (encBx b), a3, a4, a5, a6, .val (.int s.v), .val (wayD false), .val (.int s.mark), .val (.int s.to), .val (.int lo), .val (.int hi), s13] := by
          simp [b__law_good_2, vx, up_eq, e1, e2]
        rw [this, Ctl.seq_nx]
    rw [List.map_cons, forD_cons, sx]
    simp only [setTs_cons, setT_name, Option.bind_some, setTs_nil, optC_some, List.set_cons_succ, List.set_cons_zero]
    have sp : exB (runF tab (k + 1)) b__law_good_2 = exB (runF tab (k + 1)) (b__law_good_2.take 2 ++ [b__law_good_2.getD 2 .pass]) := rfl
    rw [sp, head]
    by_cases c : hi < lo
    · have pn : partB b s = none := by unfold partB; rw [← hlo, ← hhi, if_pos c]
      have pe : partIn st b s = true := by unfold partIn; rw [pn]
      have c' : ¬ lo ≤ hi := by omega
      have one : exB (runF tab (k + 1)) [b__law_good_2.getD 2 .pass] [a0, .val (encSt st), .val (encBx b), a3, a4, a5, a6, .val (.int s.v), .val (wayD s.up), .val (.int s.mark), .val (.int s.to), .val (.int lo), .val (.int hi), s13] = .nx [a0, .val (encSt st), .val (encBx b), a3, a4, a5, a6, .val (.int s.v), .val (wayD s.up), .val (.int s.mark), .val (.int s.to), .val (.int lo), .val (.int hi), s13] := by
        simp [b__law_good_2, c']
      rw [one]
      simp only [List.all_cons, pe, Bool.true_and]
      exact lgood_2 st a0 a3 a4 a5 a6 b hb hn wd ss _ _ _ _ _ _ _ fun s hs => h s (by simp [hs])
    · have pn : partB b s = some (b.set s.v.toNat (lo, hi)) := by unfold partB; rw [← hlo, ← hhi, if_neg c]
      have c' : lo ≤ hi := by omega
      obtain ⟨q, hq⟩ : ∃ q, q = b.set s.v.toNat (lo, hi) := ⟨_, rfl⟩
      have ql : q.length = n := by rw [hq, List.length_set]; exact hb
      have j : s.v.toNat < (b.map encPr).length := by rw [List.length_map]; omega
      have t1 : (s.v + 1).toNat = s.v.toNat + 1 := by omega
      have s1 : slD (.d (encBx b)) none (some s.v) = .ok (.d (.tuple ((b.map encPr).take s.v.toNat))) := by
        rw [encBx_sl, cut_take (b.map encPr) hv.1 (by rw [List.length_map]; omega)]
      have s2 : slD (.d (encBx b)) (some (s.v + 1)) none = .ok (.d (.tuple ((b.map encPr).drop (s.v.toNat + 1)))) := by
        rw [encBx_sl, cut_drop (b.map encPr) (v := s.v + 1) (by omega) (by rw [List.length_map]; omega), t1]
      have a1 : ∀ p : D, binD .Add (.d (.tuple ((b.map encPr).take s.v.toNat))) (.d (.tuple [p])) = .ok (.d (.tuple ((b.map encPr).take s.v.toNat ++ [p]))) := fun p => add_tt' _ _ (by simp; omega)
      have a2 : binD .Add (.d (.tuple ((b.map encPr).take s.v.toNat ++ [encPr (lo, hi)]))) (.d (.tuple ((b.map encPr).drop (s.v.toNat + 1)))) = .ok (.d (encBx q)) := by
        rw [add_tt' _ _ (by simp; omega), set_cut (b.map encPr) j (encPr (lo, hi)), ← List.map_set, ← hq]
        rfl
      have ep : PyData.tuple [.int lo, .int hi] = encPr (lo, hi) := rfl
      have key : ∀ o, stAt st s.to.toNat = o → exB (runF tab (k + 1)) [b__law_good_2.getD 2 .pass] [a0, .val (encSt st), .val (encBx b), a3, a4, a5, a6, .val (.int s.v), .val (wayD s.up), .val (.int s.mark), .val (.int s.to), .val (.int lo), .val (.int hi), s13] =
          if partIn st b s = true then .nx [a0, .val (encSt st), .val (encBx b), a3, a4, a5, a6, .val (.int s.v), .val (wayD s.up), .val (.int s.mark), .val (.int s.to), .val (.int lo), .val (.int hi), .val (encBx q)] else .rt (.d (.bool false)) := by
        intro o ho
        rw [ho] at isx
        cases o with
        | none =>
          have isx : ixD (.d (encSt st)) (.d (.int s.to)) = .ok (.d .none) := isx
          have pe : partIn st b s = false := by unfold partIn; rw [pn]; simp only [ho]
          simp [b__law_good_2, c', s1, s2, ep, a1, a2, isx, pe]
        | some x =>
          have isx : ixD (.d (encSt st)) (.d (.int s.to)) = .ok (.d (encBx x)) := isx
          have lx : x.length = n := wd _ _ ho
          have li := llies_ok (k := k) q x (by omega) (by omega)
          have pe : partIn st b s = liesB q x := by unfold partIn; rw [pn, ← hq]; simp only [ho]
          rw [pe]
          cases z : liesB q x with
          | true =>
            rw [z] at li
            simp [b__law_good_2, c', s1, s2, ep, a1, a2, isx, li]
          | false =>
            rw [z] at li
            simp [b__law_good_2, c', s1, s2, ep, a1, a2, isx, li]
      rw [key _ rfl]
      cases pe : partIn st b s with
      | true =>
        simp only [List.all_cons, pe, Bool.true_and, if_true]
        exact lgood_2 st a0 a3 a4 a5 a6 b hb hn wd ss _ _ _ _ _ _ _ fun s hs => h s (by simp [hs])
      | false => exact .inr ⟨by simp [pe], by simp⟩
theorem lgood_1 {k : Nat} {w : Wk} (hw : okW w) (st : BSt) (hl : st.length = w.modes.length) (g : GoodS w.brims st) (a3 : Sl) : ∀ (ps : List (Md × Nat)) (s2 s4 s5 s6 s7 s8 s9 s10 s11 s12 s13 : Sl), (∀ p ∈ ps, w.modes[p.2]? = some p.1) →
    (forD (.tup [.name 4, .name 5]) (exB (runF tab (k + 1)) b__law_good_1) (ps.map fun p => PyData.tuple [.int p.2, encM p.1]) [.val (encW w), .val (encSt st), s2, a3, s4, s5, s6, s7, s8, s9, s10, s11, s12, s13]).seq (exB (runF tab (k + 1)) [.ret (.con (.bool true))]) = .rt (.d (.bool (ps.all (modeIn st))))
  | [], s2, s4, s5, s6, s7, s8, s9, s10, s11, s12, s13, _ => by simp [forD_nil]
  | p :: ps, s2, s4, s5, s6, s7, s8, s9, s10, s11, s12, s13, h => by
    have hp := h p (by simp)
    have pl := (List.getElem?_eq_some_iff.mp hp).1
    have om := hw.2.2.2.1 p.1 (List.mem_of_getElem? hp)
    have isx := st_at (st := st) (i := (p.2 : Int)) (by omega) (by omega)
    rw [Int.toNat_natCast] at isx
    have rest := fun t2 t6 t7 t8 t9 t10 t11 t12 t13 => lgood_1 (k := k) hw st hl g a3 ps t2 (.val (.int p.2)) (.val (encM p.1)) t6 t7 t8 t9 t10 t11 t12 t13 fun q hq => h q (by simp [hq])
    rw [List.map_cons, forD_cons]
    simp only [setT_tup, setTs_cons, setT_name, Option.bind_some, setTs_nil, optC_some, List.set_cons_succ, List.set_cons_zero]
    cases hc : stAt st p.2 with
    | none =>
      rw [hc] at isx
      have isx : ixD (.d (encSt st)) (.d (.int p.2)) = .ok (.d .none) := isx
      have st' : exB (runF tab (k + 1)) b__law_good_1 [.val (encW w), .val (encSt st), s2, a3, .val (.int p.2), .val (encM p.1), s6, s7, s8, s9, s10, s11, s12, s13] = .nx [.val (encW w), .val (encSt st), .val .none, a3, .val (.int p.2), .val (encM p.1), s6, s7, s8, s9, s10, s11, s12, s13] := by
        simp [b__law_good_1, isx]
      rw [st']
      simp only [rest]
      have pe : modeIn st p = true := by unfold modeIn; simp only [hc]
      simp [pe]
    | some b =>
      rw [hc] at isx
      have isx : ixD (.d (encSt st)) (.d (.int p.2)) = .ok (.d (encBx b)) := isx
      have gb := g _ _ hc
      have b4 := hw.2.1
      have lo := lout_ok (k := k) p.1 b (by rw [gb.len]; exact om.mdN) (by rw [gb.len]; omega)
      have pm : modeIn st p = closedB st p.1 b := by unfold modeIn; simp only [hc]
      cases hf : flowB p.1 b with
      | none =>
        rw [hf] at lo
        have lo : runF tab (k + 1) i__law_out [encM p.1, encBx b] = .ok (.d .none) := lo
        have st' : exB (runF tab (k + 1)) b__law_good_1 [.val (encW w), .val (encSt st), s2, a3, .val (.int p.2), .val (encM p.1), s6, s7, s8, s9, s10, s11, s12, s13] = .rt (.d (.bool false)) := by
          simp [b__law_good_1, isx, lo]
        rw [st']
        have pe : closedB st p.1 b = false := by unfold closedB; rw [hf]
        simp [pm, pe]
      | some x =>
        rw [hf] at lo
        have lo : runF tab (k + 1) i__law_out [encM p.1, encBx b] = .ok (.d (encBx x)) := lo
        have lx := (flowB_ge om.mdN gb.len hf).1
        have li := llies_ok (k := k) x b (by omega) (by rw [← lx, gb.len]; omega)
        cases q : liesB x b with
        | false =>
          rw [q] at li
          have st' : exB (runF tab (k + 1)) b__law_good_1 [.val (encW w), .val (encSt st), s2, a3, .val (.int p.2), .val (encM p.1), s6, s7, s8, s9, s10, s11, s12, s13] = .rt (.d (.bool false)) := by
            simp [b__law_good_1, isx, lo, li]
          rw [st']
          have pe : closedB st p.1 b = false := by unfold closedB; rw [hf]; simp [q]
          simp [pm, pe]
        | true =>
          rw [q] at li
          have sm : ixD (.d (encM p.1)) (.d (.int 1)) = .ok (.d (.tuple (p.1.sws.map encS))) := rfl
          have pe : closedB st p.1 b = p.1.sws.all (partIn st b) := by unfold closedB; rw [hf]; simp [q]
          rcases lgood_2 (k := k) st (.val (encW w)) a3 (.val (.int p.2)) (.val (encM p.1)) (.val (encBx x)) b gb.len (by omega) g.wide p.1.sws s7 s8 s9 s10 s11 s12 s13 (fun s hs => by
            have := om.2.2.2 s hs
            exact ⟨by have := this.1; omega, by have := this.2.2; omega⟩) with ⟨al, t7, t8, t9, t10, t11, t12, t13, e⟩ | ⟨al, e⟩
          · have st' : exB (runF tab (k + 1)) b__law_good_1 [.val (encW w), .val (encSt st), s2, a3, .val (.int p.2), .val (encM p.1), s6, s7, s8, s9, s10, s11, s12, s13] = .nx [.val (encW w), .val (encSt st), .val (encBx b), a3, .val (.int p.2), .val (encM p.1), .val (encBx x), t7, t8, t9, t10, t11, t12, t13] := by
              simp [b__law_good_1, isx, lo, li, sm]
              rw [e]
              simp
            rw [st']
            simp only [rest]
            simp [pm, pe, al]
          · have st' : exB (runF tab (k + 1)) b__law_good_1 [.val (encW w), .val (encSt st), s2, a3, .val (.int p.2), .val (encM p.1), s6, s7, s8, s9, s10, s11, s12, s13] = .rt (.d (.bool false)) := by
              simp [b__law_good_1, isx, lo, li, sm]
              rw [e]
              simp
            rw [st']
            simp [pm, pe, al]
theorem st_len (st : BSt) : bltD .len [.d (encSt st)] = .ok (.d (.int st.length)) := by
  show M.ok (R.d (.int ((st.map encOB).length : Nat))) = _
  rw [List.length_map]
theorem lgood_ok {k : Nat} {w : Wk} (hw : okW w) (st : BSt) (hl : st.length = w.modes.length) (g : GoodS w.brims st) : runF tab (k + 4) i__law_good [encW w, encSt st] = .ok (.d (.bool (holdB w st))) := by
  rw [runF_of tab__law_good rfl]
  have ty : isTy .list (encSt st) = .ok true := rfl
  have ln := st_len st
  have sq : seqD (.d (encSt st)) = .ok (st.map encOB) := rfl
  have a5 := hw.2.2.2.2.1
  have b4 := hw.2.1
  have isx := st_at (st := st) (i := w.at_) (by omega) (by omega)
  obtain ⟨o, ho⟩ : ∃ o, o = stAt st w.at_.toNat := ⟨_, rfl⟩
  rw [← ho] at isx
  have im : ixD (.d (encW w)) (.d (.int 1)) = .ok (.d (.tuple (w.modes.map encM))) := encW_1 w
  have two : exB (runF tab (k + 3)) (f__law_good.body.take 2) (startE f__law_good.sz [encW w, encSt st]) = .nx [.val (encW w), .val (encSt st), .no, .no, .no, .no, .no, .no, .no, .no, .no, .no, .no, .no] := by
    simp [f__law_good, startE, ty, ln, hl, sq]
    rw [compD_map encOB (fun _ => false) encOB]
    · have fz : ∀ l : BSt, l.filter (fun _ => false) = [] := fun l => List.filter_eq_nil_iff.mpr (by simp)
      rw [fz]
      simp
    · intro o ho
      refine ⟨_, setT_name _ _ _, ?_, by simp⟩
      cases o with
      | none => simp [encOB, isNoneO]
      | some b =>
        obtain ⟨i, hi⟩ := List.getElem?_of_mem ho
        have gb : GoodB w.brims b := g i b (by unfold stAt; rw [List.getD_eq_getElem?_getD, hi]; rfl)
        have bx := lbox_ok (k := k + 1) gb
        simp [encOB, isNoneO, bx]
  have sp : f__law_good.body = f__law_good.body.take 2 ++ f__law_good.body.drop 2 := (List.take_append_drop 2 _).symm
  rw [sp, exB_append, two, Ctl.seq_nx]
  cases o with
  | none =>
    have isx : ixD (.d (encSt st)) (.d (.int w.at_)) = .ok (.d .none) := isx
    have pe : beginIn w st = false := by unfold beginIn; simp only [ho.symm]
    simp [f__law_good, isx, holdB, pe]
  | some c =>
    have isx : ixD (.d (encSt st)) (.d (.int w.at_)) = .ok (.d (encBx c)) := isx
    have lc := (g _ _ ho.symm).len
    have ll := hw.2.2.2.2.2.2.1
    have li := llies_gen (k := k + 2) (.list ((w.levels.map fun l => (l, l)).map encPr)) (w.levels.map fun l => (l, l)) c (by rw [List.length_map]; omega) (by rw [List.length_map]; omega) (.inl rfl)
    have em : (w.levels.map fun l => (l, l)).map encPr = w.levels.map fun l => encPr (l, l) := by rw [List.map_map]; rfl
    rw [em] at li
    have pb : beginIn w st = liesB (w.levels.map fun l => (l, l)) c := by unfold beginIn; simp only [ho.symm]
    have cm : ∀ ρ : PF.Env, 3 < ρ.length → compD (.name 3) (evc (runF tab (k + 3)) []) (evT (runF tab (k + 3)) (.tup [.var 3, .var 3])) ρ (w.levels.map PyData.int) = .ok (w.levels.map fun l => encPr (l, l)) := fun ρ hρ =>
      compD_map1 PyData.int (fun l => encPr (l, l)) w.levels fun x hx => ⟨_, setT_name _ _ _, by simp, by simp [hρ]; rfl⟩
    have e := lgood_1 (k := k + 2) hw st hl g .no w.modes.zipIdx .no .no .no .no .no .no .no .no .no .no .no (fun p hp => List.mem_zipIdx_iff_getElem?.mp hp)
    cases q : liesB (w.levels.map fun l => (l, l)) c with
    | false =>
      rw [q] at li pb
      simp [f__law_good, isx]
      rw [cm _ (by simp)]
      simp [li, isx, holdB, pb]
    | true =>
      rw [q] at li pb
      simp [f__law_good, isx]
      rw [cm _ (by simp)]
      simp [li, isx, im, enumD_map]
      rw [e]
      simp [holdB, pb]
end PF

end

section
/-! L12: law k12. -/
namespace PF
open PySem PySem.Spec PyProof.Rows L2
def depth : Nat := 12
/-- the law and the program answer alike -/
def Same (w : Wk) (T : D) : Prop := ∃ b : Bool, runF tab 12 i_hold [encW w, T] = .ok (.d (.bool b)) ∧ runF tab 12 i__law_good [encW w, T] = .ok (.d (.bool b))
theorem same_typed {w : Wk} (hw : okW w) {st : BSt} (hl : st.length = w.modes.length) (g : GoodS w.brims st) : Same w (encSt st) :=
  ⟨holdB w st, hold_ok (k := 6) hw st hl g, lgood_ok (k := 8) hw st hl g⟩
theorem hold_not {w : Wk} (hw : okW w) {T : D} (h : isTy .list T = .ok false) : Same w T := by
  have ck := checked_ok (k := 6) w
  rw [if_pos hw] at ck
  refine ⟨false, ?_, ?_⟩
  · show runF tab (11 + 1) i_hold [encW w, T] = _
    rw [runF_of tab_hold rfl]
    simp [f_hold, startE, ck, h]
  · show runF tab (11 + 1) i__law_good [encW w, T] = _
    rw [runF_of tab__law_good rfl]
    simp [f__law_good, startE, h]
theorem hold_len {w : Wk} (hw : okW w) {ds : List D} (h : ds.length ≠ w.modes.length) : Same w (.list ds) := by
  have ck := checked_ok (k := 6) w
  rw [if_pos hw] at ck
  have ty : isTy .list (.list ds) = .ok true := rfl
  have ln : bltD .len [.d (.list ds)] = .ok (.d (.int ds.length)) := rfl
  have ne : ¬ (ds.length : Int) = w.modes.length := by omega
  refine ⟨false, ?_, ?_⟩
  · show runF tab (11 + 1) i_hold [encW w, .list ds] = _
    rw [runF_of tab_hold rfl]
    simp [f_hold, startE, ck, ty, ln, ne]
  · show runF tab (11 + 1) i__law_good [encW w, .list ds] = _
    rw [runF_of tab__law_good rfl]
    simp [f__law_good, startE, ty, ln, ne]
/-- no box at all, in both eyes -/
structure BadD (w : Wk) (d : D) : Prop where
  nn : isNoneD d = false
  p : runF tab 11 i_is_box [encW w, d] = .ok (.d (.bool false))
  l : runF tab 11 i__law_box [encW w, d] = .ok (.d (.bool false))
inductive Ent where
  | good (o : Option Bx)
  | bad (d : D)
def encE : Ent → D
  | .good o => encOB o
  | .bad d => d
def entB : Ent → Bool
  | .good _ => false
  | .bad _ => true
theorem hold_bad {w : Wk} (hw : okW w) (es : List Ent) (hl : es.length = w.modes.length) (hg : ∀ b, Ent.good (some b) ∈ es → GoodB w.brims b) (hb : ∀ d, Ent.bad d ∈ es → BadD w d) {d : D} (hd : Ent.bad d ∈ es) : Same w (.list (es.map encE)) := by
  have ck := checked_ok (k := 6) w
  rw [if_pos hw] at ck
  have ty : isTy .list (.list (es.map encE)) = .ok true := rfl
  have ln : bltD .len [.d (.list (es.map encE))] = .ok (.d (.int es.length)) := by
    show M.ok (R.d (.int ((es.map encE).length : Nat))) = _
    rw [List.length_map]
  have sq : seqD (.d (.list (es.map encE))) = .ok (es.map encE) := rfl
  obtain ⟨x, r, hx⟩ : ∃ x r, (es.filter entB).map encE = x :: r := by
    have m : Ent.bad d ∈ es.filter entB := List.mem_filter.mpr ⟨hd, rfl⟩
    cases q : es.filter entB with
    | nil => rw [q] at m; cases m
    | cons a r => exact ⟨_, _, rfl⟩
  refine ⟨false, ?_, ?_⟩
  · show runF tab (11 + 1) i_hold [encW w, .list (es.map encE)] = _
    rw [runF_of tab_hold rfl]
    simp [f_hold, startE, ck, ty, ln, hl, sq]
    rw [compD_map encE entB encE]
    · rw [hx]
      simp
    · intro e he
      refine ⟨_, setT_name _ _ _, ?_, by simp⟩
      cases e with
      | good o =>
        cases o with
        | none => simp [encE, encOB, entB]
        | some b =>
          have bx := is_box_ok (k := 9) (hg b he)
          have nn : isNoneD (encBx b) = false := rfl
          simp [encE, encOB, entB, bx]
      | bad d =>
        have bd := hb d he
        simp [encE, entB, bd.nn, bd.p]
  · show runF tab (11 + 1) i__law_good [encW w, .list (es.map encE)] = _
    rw [runF_of tab__law_good rfl]
    simp [f__law_good, startE, ty, ln, hl, sq]
    rw [compD_map encE entB encE]
    · rw [hx]
      simp
    · intro e he
      refine ⟨_, setT_name _ _ _, ?_, by simp⟩
      cases e with
      | good o =>
        cases o with
        | none => simp [encE, encOB, entB]
        | some b =>
          have bx := lbox_ok (k := 9) (hg b he)
          simp [encE, encOB, entB, bx]
      | bad d =>
        have bd := hb d he
        simp [encE, entB, bd.nn, bd.l]
/-- walls with one box set anew -/
theorem same_set {w : Wk} (hw : okW w) {st : BSt} (hl : st.length = w.modes.length) (g : GoodS w.brims st) {j : Nat} (hj : j < st.length) {d : D} (h : (∃ o, d = encOB o ∧ ∀ b, o = some b → GoodB w.brims b) ∨ BadD w d) : Same w (.list ((st.map encOB).set j d)) := by
  rcases h with ⟨o, rfl, ho⟩ | bd
  · have e : PyData.list ((st.map encOB).set j (encOB o)) = encSt (st.set j o) := by
      unfold encSt
      rw [List.map_set]
    rw [e]
    exact same_typed hw (by rw [List.length_set]; exact hl) (g.set ho)
  · have e : (st.map encOB).set j d = ((st.map Ent.good).set j (Ent.bad d)).map encE := by
      rw [List.map_set, List.map_map]
      rfl
    rw [e]
    refine hold_bad hw _ (by simp [hl]) (fun b hb => ?_) (fun x hx => ?_) (d := d) ?_
    · rcases List.mem_or_eq_of_mem_set hb with m | m
      · obtain ⟨o, ho, e⟩ := List.mem_map.mp m
        cases e
        obtain ⟨i, hi⟩ := List.getElem?_of_mem ho
        exact g i b (by unfold stAt; rw [List.getD_eq_getElem?_getD, hi]; rfl)
      · cases m
    · rcases List.mem_or_eq_of_mem_set hx with m | m
      · obtain ⟨o, ho, e⟩ := List.mem_map.mp m
        cases e
      · cases m
        exact bd
    · exact List.mem_set (by simpa using hj) _
/-! ### what no box is -/
theorem bad_len {w : Wk} {ds : List D} (h : ds.length ≠ w.brims.length) : BadD w (.tuple ds) := by
  have ty : isTy .tuple (.tuple ds) = .ok true := rfl
  have ln : bltD .len [.d (.tuple ds)] = .ok (.d (.int ds.length)) := rfl
  have ne : ¬ (ds.length : Int) = w.brims.length := by omega
  refine ⟨rfl, ?_, ?_⟩
  · show runF tab (10 + 1) i_is_box [encW w, .tuple ds] = _
    rw [runF_of tab_is_box rfl]
    simp [f_is_box, startE, ty, ln, ne]
  · show runF tab (10 + 1) i__law_box [encW w, .tuple ds] = _
    rw [runF_of tab__law_box rfl]
    simp [f__law_box, startE, ty, ln, ne]
theorem bad_list {w : Wk} (ds : List D) : BadD w (.list ds) := by
  have ty : isTy .tuple (.list ds) = .ok false := rfl
  refine ⟨rfl, ?_, ?_⟩
  · show runF tab (10 + 1) i_is_box [encW w, .list ds] = _
    rw [runF_of tab_is_box rfl]
    simp [f_is_box, startE, ty]
  · show runF tab (10 + 1) i__law_box [encW w, .list ds] = _
    rw [runF_of tab__law_box rfl]
    simp [f__law_box, startE, ty]
/-- a pair that is no pair of bounds for the brim -/
inductive BadP (br : Int) : D → Prop
  | i {x y : Int} : ¬ (0 ≤ x ∧ x ≤ y ∧ y ≤ br) → BadP br (.tuple [.int x, .int y])
  | b {x : Int} {t : Bool} : BadP br (.tuple [.int x, .bool t])
theorem badP_p {w : Wk} {q : Int} {d : D} (h : BadP q d) (a0 a1 : Sl) : exB (runF tab 10) b_is_box_1 [a0, a1, .val d, .val (.int q)] = .rt (.d (.bool false)) := by
  cases h with
  | @i x y h =>
    have ty : isTy .tuple (.tuple [.int x, .int y]) = .ok true := rfl
    have ln : bltD .len [.d (.tuple [.int x, .int y])] = .ok (.d (.int 2)) := rfl
    have i0 : ixD (.d (.tuple [.int x, .int y])) (.d (.int 0)) = .ok (.d (.int x)) := rfl
    have i1 : ixD (.d (.tuple [.int x, .int y])) (.d (.int 1)) = .ok (.d (.int y)) := rfl
    have w1 := is_within_ok (k := 9) x 0 q
    have w2 := is_within_ok (k := 9) y x q
    by_cases c : 0 ≤ x ∧ x ≤ q
    · have c2 : ¬ (x ≤ y ∧ y ≤ q) := fun z => h ⟨c.1, z.1, z.2⟩
      simp [b_is_box_1, ty, ln, i0, i1, w1, w2, c, c2]
    · simp [b_is_box_1, ty, ln, i0, i1, w1, w2, c]
  | @b x t =>
    have ty : isTy .tuple (.tuple [.int x, .bool t]) = .ok true := rfl
    have ln : bltD .len [.d (.tuple [.int x, .bool t])] = .ok (.d (.int 2)) := rfl
    have i0 : ixD (.d (.tuple [.int x, .bool t])) (.d (.int 0)) = .ok (.d (.int x)) := rfl
    have i1 : ixD (.d (.tuple [.int x, .bool t])) (.d (.int 1)) = .ok (.d (.bool t)) := rfl
    have w1 := is_within_ok (k := 9) x 0 q
    have w2 : runF tab 10 i_is_within [.bool t, .int x, .int q] = .ok (.d (.bool false)) := by
      show runF tab (9 + 1) i_is_within _ = _
      rw [runF_of tab_is_within rfl]
      simp [f_is_within, startE, isTy]
    by_cases c : 0 ≤ x ∧ x ≤ q
    · simp [b_is_box_1, ty, ln, i0, i1, w1, w2, c]
    · simp [b_is_box_1, ty, ln, i0, i1, w1, w2, c]
theorem badP_l {w : Wk} {i : Nat} (hi : i < w.brims.length) {d : D} (h : BadP (w.brims.getD i 0) d) (a1 : Sl) : exB (runF tab 10) b__law_box_1 [.val (encW w), a1, .val (.int i), .val d] = .rt (.d (.bool false)) := by
  have bi := br_get hi
  obtain ⟨q, hq⟩ : ∃ q, q = w.brims.getD i 0 := ⟨_, rfl⟩
  rw [← hq] at bi h
  have lw : ∀ i : Int, runF tab 10 i__law_whole [.int i] = _ := fun i => lwhole_i (k := 9) i
  have lb : ∀ i : Bool, runF tab 10 i__law_whole [.bool i] = _ := fun i => lwhole_b (k := 9) i
  cases h with
  | @i x y h =>
    have ty : isTy .tuple (.tuple [.int x, .int y]) = .ok true := rfl
    have ln : bltD .len [.d (.tuple [.int x, .int y])] = .ok (.d (.int 2)) := rfl
    have i0 : ixD (.d (.tuple [.int x, .int y])) (.d (.int 0)) = .ok (.d (.int x)) := rfl
    have i1 : ixD (.d (.tuple [.int x, .int y])) (.d (.int 1)) = .ok (.d (.int y)) := rfl
    by_cases c : 0 ≤ x
    · by_cases c2 : x ≤ y
      · have c3 : ¬ y ≤ q := fun z => h ⟨c, c2, z⟩
        simp [b__law_box_1, ty, ln, i0, i1, lw, bi, c, c2, c3]
      · simp [b__law_box_1, ty, ln, i0, i1, lw, bi, c, c2]
    · simp [b__law_box_1, ty, ln, i0, i1, lw, bi, c]
  | @b x t =>
    have ty : isTy .tuple (.tuple [.int x, .bool t]) = .ok true := rfl
    have ln : bltD .len [.d (.tuple [.int x, .bool t])] = .ok (.d (.int 2)) := rfl
    have i0 : ixD (.d (.tuple [.int x, .bool t])) (.d (.int 0)) = .ok (.d (.int x)) := rfl
    have i1 : ixD (.d (.tuple [.int x, .bool t])) (.d (.int 1)) = .ok (.d (.bool t)) := rfl
    simp [b__law_box_1, ty, ln, i0, i1, lw, lb, bi]
theorem bad_p_loop {d : D} (post : List D) (a0 a1 : Sl) : ∀ (b : Bx) (br : List Int) (q : Int) (brs : List Int) (s2 s3 : Sl), GoodB br b → BadP q d →
    forD (.tup [.name 2, .name 3]) (exB (runF tab 10) b_is_box_1) (((b.map encPr ++ d :: post).zip ((br ++ q :: brs).map PyData.int)).map fun p => PyData.tuple [p.1, p.2]) [a0, a1, s2, s3] = .rt (.d (.bool false))
  | [], [], q, brs, s2, s3, _, bp => by
    have st := badP_p (w := ⟨[], [], 0, []⟩) bp a0 a1
    simp only [List.map_nil, List.nil_append, List.map_cons, List.zip_cons_cons]
    rw [forD_cons]
    simp only [setT_tup, setTs_cons, setT_name, Option.bind_some, setTs_nil, optC_some, List.set_cons_succ, List.set_cons_zero]
    rw [st]
  | p :: b, x :: br, q, brs, s2, s3, h, bp => by
    obtain ⟨l, n⟩ := h
    have l' : LeB (p :: b) ((0, x) :: fullB br) := l
    obtain ⟨⟨l1, l2⟩, l3⟩ := LeB.tail l'
    obtain ⟨n1, n2⟩ := NeB.tail n
    have ih := bad_p_loop (d := d) post a0 a1 b br q brs (.val (encPr p)) (.val (.int x)) ⟨l3, n2⟩ bp
    have c1 : 0 ≤ p.1 ∧ p.1 ≤ x := by simp only at l1 l2; omega
    have c2 : p.1 ≤ p.2 ∧ p.2 ≤ x := by simp only at l1 l2; omega
    have ty : isTy .tuple (encPr p) = .ok true := rfl
    have ln : bltD .len [.d (encPr p)] = .ok (.d (.int 2)) := rfl
    simp only [List.map_cons, List.cons_append, List.zip_cons_cons]
    rw [forD_cons]
    simp only [setT_tup, setTs_cons, setT_name, Option.bind_some, setTs_nil, optC_some, List.set_cons_succ, List.set_cons_zero]
    have w1 := is_within_ok (k := 9) p.1 0 x
    have w2 := is_within_ok (k := 9) p.2 p.1 x
    have st : exB (runF tab 10) b_is_box_1 [a0, a1, .val (encPr p), .val (.int x)] = .nx [a0, a1, .val (encPr p), .val (.int x)] := by
      simp [b_is_box_1, ty, ln, c1, c2, w1, w2]
    rw [st]
    exact ih
  | [], _ :: _, _, _, _, _, h, _ => by have := h.1.1; simp [fullB] at this
  | _ :: _, [], _, _, _, _, h, _ => by have := h.1.1; simp [fullB] at this
theorem bad_l_loop {w : Wk} {d : D} (post : List D) (a1 : Sl) : ∀ (b : Bx) (j : Nat) (s2 s3 : Sl), (∀ i, i < b.length → j + i < w.brims.length ∧ 0 ≤ (b.getD i (0, 0)).1 ∧ (b.getD i (0, 0)).1 ≤ (b.getD i (0, 0)).2 ∧ (b.getD i (0, 0)).2 ≤ w.brims.getD (j + i) 0) → j + b.length < w.brims.length → BadP (w.brims.getD (j + b.length) 0) d →
    forD (.tup [.name 2, .name 3]) (exB (runF tab 10) b__law_box_1) (((b.map encPr ++ d :: post).zipIdx j).map fun p => PyData.tuple [.int p.2, p.1]) [.val (encW w), a1, s2, s3] = .rt (.d (.bool false))
  | [], j, s2, s3, _, hj, bp => by
    have st := badP_l (w := w) (i := j) (by simpa using hj) bp a1
    simp only [List.map_nil, List.nil_append]
    rw [List.zipIdx_cons, List.map_cons, forD_cons]
    simp only [setT_tup, setTs_cons, setT_name, Option.bind_some, setTs_nil, optC_some, List.set_cons_succ, List.set_cons_zero]
    rw [st]
  | p :: b, j, s2, s3, h, hj, bp => by
    have ih := bad_l_loop (w := w) (d := d) post a1 b (j + 1) (.val (.int j)) (.val (encPr p)) (fun i hi => by
      have := h (i + 1) (by simpa using hi)
      rw [show j + (i + 1) = j + 1 + i by omega] at this
      exact this) (by simp at hj; omega) (by
      have e : j + 1 + b.length = j + (p :: b).length := by simp; omega
      rw [e]
      exact bp)
    have h0 := h 0 (by simp)
    have st := lbox_turn (k := 9) (w := w) (p := p) (i := j) h0.1 a1 s2 s3 h0.2
    simp only [List.map_cons, List.cons_append]
    rw [List.zipIdx_cons, List.map_cons, forD_cons]
    simp only [setT_tup, setTs_cons, setT_name, Option.bind_some, setTs_nil, optC_some, List.set_cons_succ, List.set_cons_zero]
    rw [st]
    exact ih
theorem bad_pair {w : Wk} {pre : Bx} {d : D} {post : List D} (hl : pre.length + 1 + post.length = w.brims.length) (g : GoodB (w.brims.take pre.length) pre) (bp : BadP (w.brims.getD pre.length 0) d) : BadD w (.tuple (pre.map encPr ++ d :: post)) := by
  have ty : isTy .tuple (.tuple (pre.map encPr ++ d :: post)) = .ok true := rfl
  have ll : (pre.map encPr ++ d :: post).length = w.brims.length := by simp; omega
  have ln : bltD .len [.d (.tuple (pre.map encPr ++ d :: post))] = .ok (.d (.int w.brims.length)) := by
    show M.ok (R.d (.int ((pre.map encPr ++ d :: post).length : Nat))) = _
    rw [ll]
  have sq : seqD (.d (.tuple (pre.map encPr ++ d :: post))) = .ok (pre.map encPr ++ d :: post) := rfl
  have eb : w.brims = w.brims.take pre.length ++ w.brims.getD pre.length 0 :: w.brims.drop (pre.length + 1) := by
    conv => lhs; rw [← List.take_append_drop pre.length w.brims]
    rw [List.drop_eq_getElem_cons (by omega), List.getD_eq_getElem?_getD, List.getElem?_eq_getElem (by omega)]
    rfl
  refine ⟨rfl, ?_, ?_⟩
  · show runF tab (10 + 1) i_is_box [encW w, .tuple (pre.map encPr ++ d :: post)] = _
    rw [runF_of tab_is_box rfl]
    have e := bad_p_loop (d := d) post (.val (encW w)) (.val (.tuple (pre.map encPr ++ d :: post))) pre (w.brims.take pre.length) (w.brims.getD pre.length 0) (w.brims.drop (pre.length + 1)) .no .no g bp
    rw [← eb] at e
    simp only [f_is_box, startE]
    simp [ty, ln, sq]
    rw [e]
    simp
  · show runF tab (10 + 1) i__law_box [encW w, .tuple (pre.map encPr ++ d :: post)] = _
    rw [runF_of tab__law_box rfl]
    have ga := good_at g
    have e := bad_l_loop (w := w) (d := d) post (.val (.tuple (pre.map encPr ++ d :: post))) pre 0 .no .no (fun i hi => by
      obtain ⟨g1, g2, g3, g4⟩ := ga i hi
      have e : (w.brims.take pre.length).getD i 0 = w.brims.getD i 0 := by
        rw [List.getD_eq_getElem?_getD, List.getElem?_take, if_pos hi, List.getD_eq_getElem?_getD]
      rw [e] at g4
      rw [Nat.zero_add]
      exact ⟨by omega, g2, g3, g4⟩) (by omega) (by rw [Nat.zero_add]; exact bp)
    have en : enumD (pre.map encPr ++ d :: post) = ((pre.map encPr ++ d :: post).zipIdx 0).map fun p => PyData.tuple [.int p.2, p.1] := by
      have := enumD_map (fun d : D => d) (pre.map encPr ++ d :: post)
      rw [List.map_id'] at this
      exact this
    simp only [f__law_box, startE]
    simp [ty, ln, sq, en]
    rw [e]
    simp
/-! ### the law -/
theorem pair_cut {b : Bx} {v : Nat} (hv : v < b.length) (p : D) : (b.map encPr).set v p = (b.take v).map encPr ++ p :: (b.drop (v + 1)).map encPr := by
  have := set_cut (b.map encPr) (j := v) (by rw [List.length_map]; exact hv) p
  rw [← this, List.map_take, List.map_drop]
  simp
theorem take_good {br : List Int} {b : Bx} (g : GoodB br b) (v : Nat) (hv : v ≤ b.length) : GoodB (br.take v) (b.take v) := by
  have gl := g.len
  have ga := good_at g
  have at_ : ∀ i, i < v → (b.take v).getD i (0, 0) = b.getD i (0, 0) := fun i hi => by
    rw [List.getD_eq_getElem?_getD, List.getElem?_take, if_pos hi, List.getD_eq_getElem?_getD]
  refine ⟨⟨by rw [fullB_len, List.length_take, List.length_take]; omega, fun i hi => ?_⟩, fun i hi => ?_⟩
  · rw [List.length_take] at hi
    have := ga i (by omega)
    rw [fullB_at (by rw [List.length_take]; omega), at_ i (by omega), List.getD_eq_getElem?_getD, List.getElem?_take, if_pos (by omega), ← List.getD_eq_getElem?_getD]
    exact ⟨this.2.1, this.2.2.2⟩
  · rw [List.length_take] at hi
    rw [at_ i (by omega)]
    exact (ga i (by omega)).2.2.1
theorem set_pair {w : Wk} {b : Bx} (g : GoodB w.brims b) {v : Nat} (hv : v < b.length) (x y : Int) : (∃ o, PyData.tuple ((b.map encPr).set v (encPr (x, y))) = encOB o ∧ ∀ c, o = some c → GoodB w.brims c) ∨ BadD w (.tuple ((b.map encPr).set v (encPr (x, y)))) := by
  have gl := g.len
  have ga := good_at g
  by_cases h : 0 ≤ x ∧ x ≤ y ∧ y ≤ w.brims.getD v 0
  · refine .inl ⟨some (b.set v (x, y)), by rw [← List.map_set]; rfl, fun c hc => ?_⟩
    cases hc
    refine ⟨⟨by rw [List.length_set, fullB_len]; exact gl, fun i hi => ?_⟩, fun i hi => ?_⟩
    · rw [List.length_set] at hi
      rw [fullB_at (by omega), set_at hi]
      split
      · rename_i e
        subst e
        exact ⟨h.1, h.2.2⟩
      · have := ga i hi
        exact ⟨this.2.1, this.2.2.2⟩
    · rw [List.length_set] at hi
      rw [set_at hi]
      split
      · exact h.2.1
      · exact (ga i hi).2.2.1
  · refine .inr ?_
    rw [pair_cut hv]
    have lt : (b.take v).length = v := by rw [List.length_take]; omega
    exact bad_pair (pre := b.take v) (by rw [lt]; simp; omega) (by rw [lt]; exact take_good g v (by omega)) (by rw [lt]; exact .i h)
theorem set_bool {w : Wk} {b : Bx} (g : GoodB w.brims b) {v : Nat} (hv : v < b.length) (x : Int) (t : Bool) : BadD w (.tuple ((b.map encPr).set v (.tuple [.int x, .bool t]))) := by
  have gl := g.len
  rw [pair_cut hv]
  have lt : (b.take v).length = v := by rw [List.length_take]; omega
  exact bad_pair (pre := b.take v) (by rw [lt]; simp; omega) (by rw [lt]; exact take_good g v (by omega)) (by rw [lt]; exact .b)
theorem full_goodB {w : Wk} (hw : okW w) : GoodB w.brims (fullB w.brims) := by
  refine ⟨LeB.refl _, fun j hj => ?_⟩
  rw [fullB_len] at hj
  rw [fullB_at hj]
  have := hw.1 (w.brims.getD j 0) (getD_mem hj)
  simp only
  omega
/-- what is set anew is cut and joined -/
theorem cut_set {xs : List D} {j : Int} (h0 : 0 ≤ j) (h : j < xs.length) (h9 : xs.length ≤ 1000) (d : D) :
    slD (.d (.list xs)) none (some j) = .ok (.o (xs.take j.toNat)) ∧ slD (.d (.list xs)) (some (j + 1)) none = .ok (.o (xs.drop (j.toNat + 1))) ∧
    binD .Add (.o (xs.take j.toNat)) (.o [d]) = .ok (.o (xs.take j.toNat ++ [d])) ∧ binD .Add (.o (xs.take j.toNat ++ [d])) (.o (xs.drop (j.toNat + 1))) = .ok (.o (xs.set j.toNat d)) := by
  have t1 : (j + 1).toNat = j.toNat + 1 := by omega
  refine ⟨?_, ?_, add_ll _ _ (by simp; omega), ?_⟩
  · show M.ok (R.o (cutD xs none (some j))) = _
    rw [cut_take xs h0 (by omega)]
  · show M.ok (R.o (cutD xs (some (j + 1)) none)) = _
    rw [cut_drop xs (v := j + 1) (by omega) (by omega), t1]
  · rw [add_ll _ _ (by simp; omega), set_cut xs (by omega) d]
theorem cut_setT {xs : List D} {j : Int} (h0 : 0 ≤ j) (h : j < xs.length) (h9 : xs.length ≤ 1000) (d : D) :
    slD (.d (.tuple xs)) none (some j) = .ok (.d (.tuple (xs.take j.toNat))) ∧ slD (.d (.tuple xs)) (some (j + 1)) none = .ok (.d (.tuple (xs.drop (j.toNat + 1)))) ∧
    binD .Add (.d (.tuple (xs.take j.toNat))) (.d (.tuple [d])) = .ok (.d (.tuple (xs.take j.toNat ++ [d]))) ∧ binD .Add (.d (.tuple (xs.take j.toNat ++ [d]))) (.d (.tuple (xs.drop (j.toNat + 1)))) = .ok (.d (.tuple (xs.set j.toNat d))) := by
  have t1 : (j + 1).toNat = j.toNat + 1 := by omega
  refine ⟨?_, ?_, add_tt' _ _ (by simp; omega), ?_⟩
  · show M.ok (R.d (.tuple (cutD xs none (some j)))) = _
    rw [cut_take xs h0 (by omega)]
  · show M.ok (R.d (.tuple (cutD xs (some (j + 1)) none))) = _
    rw [cut_drop xs (v := j + 1) (by omega) (by omega), t1]
  · rw [add_tt' _ _ (by simp; omega), set_cut xs (by omega) d]
theorem pick6 {d0 d1 d2 d3 d4 d5 : D} {i : Int} (h : 0 ≤ i ∧ i < 6) : ∃ d, ixD (.d (.list [d0, d1, d2, d3, d4, d5])) (.d (.int i)) = .ok (.d d) ∧ (d = d0 ∨ d = d1 ∨ d = d2 ∨ d = d3 ∨ d = d4 ∨ d = d5) := by
  have : i = 0 ∨ i = 1 ∨ i = 2 ∨ i = 3 ∨ i = 4 ∨ i = 5 := by omega
  rcases this with rfl | rfl | rfl | rfl | rfl | rfl
  · exact ⟨d0, rfl, by simp⟩
  · exact ⟨d1, rfl, by simp⟩
  · exact ⟨d2, rfl, by simp⟩
  · exact ⟨d3, rfl, by simp⟩
  · exact ⟨d4, rfl, by simp⟩
  · exact ⟨d5, rfl, by simp⟩
theorem pick5 {d0 d1 d2 d3 d4 : D} {i : Int} (h : 0 ≤ i ∧ i < 5) : ∃ d, ixD (.o [d0, d1, d2, d3, d4]) (.d (.int i)) = .ok (.d d) ∧ (d = d0 ∨ d = d1 ∨ d = d2 ∨ d = d3 ∨ d = d4) := by
  have : i = 0 ∨ i = 1 ∨ i = 2 ∨ i = 3 ∨ i = 4 := by omega
  rcases this with rfl | rfl | rfl | rfl | rfl
  · exact ⟨d0, rfl, by simp⟩
  · exact ⟨d1, rfl, by simp⟩
  · exact ⟨d2, rfl, by simp⟩
  · exact ⟨d3, rfl, by simp⟩
  · exact ⟨d4, rfl, by simp⟩
theorem rep_flat {α : Type} (n : Nat) (d : α) : (List.replicate n [d]).flatten = List.replicate n d := by
  induction n with
  | zero => rfl
  | succ n ih => rw [List.replicate_succ, List.flatten_cons, ih]; rfl
theorem bad_10 {w : Wk} (hw : okW w) : BadD w (.tuple (List.replicate w.brims.length (.tuple [.int 1, .int 0]))) := by
  have b4 := hw.2.1
  obtain ⟨m, hm⟩ : ∃ m, w.brims.length = m + 1 := ⟨w.brims.length - 1, by omega⟩
  have := bad_pair (w := w) (pre := []) (d := .tuple [.int 1, .int 0]) (post := List.replicate m (.tuple [.int 1, .int 0])) (by simp; omega) ⟨⟨by simp [fullB], fun i hi => by simp at hi⟩, fun i hi => by simp at hi⟩ (.i (by omega))
  rw [hm, List.replicate_succ]
  exact this
theorem changed_ok {w : Wk} (hw : okW w) {st : BSt} (hl : st.length = w.modes.length) (g : GoodS w.brims st) (c : Int) : ∃ r : R, runF tab 12 i__law_changed [encW w, encSt st, .int c] = .ok r ∧ Same w r.toD := by
  have b4 := hw.2.1
  have m12 := hw.2.2.1
  have m4 : binD .Mod (.d (.int c)) (.d (.int 4)) = .ok (.d (.int (c % 4))) := mod_r (by omega)
  have im : runF tab 12 i__law_changed [encW w, encSt st, .int c] = (exB (runF tab 11) f__law_changed.body (startE f__law_changed.sz [encW w, encSt st, .int c])).fin := by
    show runF tab (11 + 1) i__law_changed _ = _
    rw [runF_of tab__law_changed rfl]
  rw [im]
  have sp : f__law_changed.body = f__law_changed.body.take 1 ++ ((f__law_changed.body.drop 1).take 3 ++ ((f__law_changed.body.drop 4).take 1 ++ ((f__law_changed.body.drop 5).take 1 ++ f__law_changed.body.drop 6))) := rfl
  rw [sp, exB_append]
  by_cases c0 : c % 4 = 0
  · refine ⟨.d (encSt st), ?_, same_typed hw hl g⟩
    have : exB (runF tab 11) (f__law_changed.body.take 1) (startE f__law_changed.sz [encW w, encSt st, .int c]) = .rt (.d (encSt st)) := by
      simp [f__law_changed, startE, m4, c0]
    rw [this]
    rfl
  have h0 : exB (runF tab 11) (f__law_changed.body.take 1) (startE f__law_changed.sz [encW w, encSt st, .int c]) = .nx [.val (encW w), .val (encSt st), .val (.int c), .no, .no, .no, .no, .no, .no, .no, .no, .no] := by
    simp [f__law_changed, startE, m4, c0]
  rw [h0, Ctl.seq_nx, exB_append]
  obtain ⟨j, hj⟩ : ∃ j, j = c / 4 % (st.length : Int) := ⟨_, rfl⟩
  have j0 : 0 ≤ j := by rw [hj]; exact Int.emod_nonneg _ (by omega)
  have j1 : j < st.length := by rw [hj]; exact Int.emod_lt_of_pos _ (by omega)
  have d4 : binD .FloorDiv (.d (.int c)) (.d (.int 4)) = .ok (.d (.int (c / 4))) := div_r (by omega) (by omega)
  have ml : binD .Mod (.d (.int (c / 4))) (.d (.int st.length)) = .ok (.d (.int j)) := by rw [hj]; exact mod_r (by omega)
  have ls := st_len st
  have ix := st_at (st := st) j0 (by omega)
  obtain ⟨o, ho⟩ : ∃ o, o = stAt st j.toNat := ⟨_, rfl⟩
  rw [← ho] at ix
  have h1 : exB (runF tab 11) ((f__law_changed.body.drop 1).take 3) [.val (encW w), .val (encSt st), .val (.int c), .no, .no, .no, .no, .no, .no, .no, .no, .no] = .nx [.val (encW w), .val (encSt st), .val (.int c), .val (.int j), .val (encOB o), .val (encBx (fullB w.brims)), .no, .no, .no, .no, .no, .no] := by
    simp [f__law_changed, d4, ls, ml, ix]
    rw [compD_map1 PyData.int (fun x => encPr (0, x))]
    · have : (w.brims.map fun x => encPr (0, x)) = (fullB w.brims).map encPr := by
        unfold fullB
        rw [List.map_map]
        rfl
      rw [this]
      simp
      rfl
    · intro x hx
      exact ⟨_, setT_name _ _ _, by simp, by simp; rfl⟩
  rw [h1, Ctl.seq_nx, exB_append]
  have xl : (st.map encOB).length = st.length := List.length_map ..
  have cs := fun d => cut_set (xs := st.map encOB) (j := j) j0 (by rw [xl]; exact j1) (by rw [xl]; omega) d
  have jn : j.toNat < st.length := by omega
  have fl := fullB_len w.brims
  by_cases c1 : isNoneO o = true ∨ c % 4 = 1
  · -- one box for another
    obtain ⟨x, ex, px⟩ := pick6 (d0 := .none) (d1 := encBx (fullB w.brims)) (d2 := .tuple []) (d3 := .tuple ((fullB w.brims).map encPr ++ [.tuple [.int 0, .int 1]])) (d4 := .list ((fullB w.brims).map fun p => PyData.list [.int p.1, .int p.2])) (d5 := .tuple (List.replicate w.brims.length (.tuple [.int 1, .int 0]))) (i := c / 11 % 6) (by omega)
    have bx : (∃ o, x = encOB o ∧ ∀ b, o = some b → GoodB w.brims b) ∨ BadD w x := by
      rcases px with rfl | rfl | rfl | rfl | rfl | rfl
      · exact .inl ⟨none, rfl, fun b hb => by cases hb⟩
      · exact .inl ⟨some (fullB w.brims), rfl, fun b hb => by cases hb; exact full_goodB hw⟩
      · exact .inr (bad_len (by simp; omega))
      · exact .inr (bad_len (by simp [fl]))
      · exact .inr (bad_list _)
      · exact .inr (bad_10 hw)
    refine ⟨.o ((st.map encOB).set j.toNat x), ?_, same_set hw hl g jn bx⟩
    obtain ⟨s1, s2, a1, a2⟩ := cs x
    have d11 : binD .FloorDiv (.d (.int c)) (.d (.int 11)) = .ok (.d (.int (c / 11))) := div_r (by omega) (by omega)
    have m6 : binD .Mod (.d (.int (c / 11))) (.d (.int 6)) = .ok (.d (.int (c / 11 % 6))) := mod_r (by omega)
    have ad : binD .Add (.d (encBx (fullB w.brims))) (.d (.tuple [.tuple [.int 0, .int 1]])) = .ok (.d (.tuple ((fullB w.brims).map encPr ++ [.tuple [.int 0, .int 1]]))) := add_tt' _ _ (by simp [fl]; omega)
    have rp : binD .Mult (.d (.tuple [.tuple [.int 1, .int 0]])) (.d (.int w.brims.length)) = .ok (.d (.tuple (List.replicate w.brims.length (.tuple [.int 1, .int 0])))) := by
      show M.chk _ _ = _
      rw [M.chk_pos ⟨by omega, by omega, by simp⟩, Int.toNat_natCast, rep_flat]
    have lb : bltD .len [.d (encI w.brims)] = .ok (.d (.int w.brims.length)) := by
      show M.ok (R.d (.int ((w.brims.map PyData.int).length : Nat))) = _
      rw [List.length_map]
    have sq : seqD (.d (encBx (fullB w.brims))) = .ok ((fullB w.brims).map encPr) := rfl
    have lp : ∀ p : Int × Int, bltD .list [.d (encPr p)] = .ok (.o [.int p.1, .int p.2]) := fun _ => rfl
    have al : ∀ (a b c d e f : D), binD .Add (.d (.list [a, b, c, d, e])) (.o [f]) = .ok (.o [a, b, c, d, e, f]) := fun a b c d e f => add_ll [a, b, c, d, e] [f] (by simp)
    have cond : (isNoneD (encOB o) || decide (c % 4 = 1)) = true := by
      rw [isn_ob]
      rcases c1 with h | h
      · simp [h]
      · simp [h]
    have s1' : slD (.d (encSt st)) none (some j) = .ok (.o ((st.map encOB).take j.toNat)) := s1
    have s2' : slD (.d (encSt st)) (some (j + 1)) none = .ok (.o ((st.map encOB).drop (j.toNat + 1))) := s2
    have cp : ∀ ρ : PF.Env, 8 < ρ.length → compD (.name 8) (evc (runF tab 11) []) (evT (runF tab 11) (.blt .list [.var 8])) ρ ((fullB w.brims).map encPr) = .ok ((fullB w.brims).map fun p => PyData.list [.int p.1, .int p.2]) := fun ρ hρ =>
      compD_map1 encPr _ _ fun x hx => ⟨_, setT_name _ _ _, by simp, by simp [hρ, lp]⟩
    have h2 : exB (runF tab 11) ((f__law_changed.body.drop 4).take 1) [.val (encW w), .val (encSt st), .val (.int c), .val (.int j), .val (encOB o), .val (encBx (fullB w.brims)), .no, .no, .no, .no, .no, .no] = .rt (.o ((st.map encOB).set j.toNat x)) := by
      cases hn : isNoneO o with
      | true =>
        simp [f__law_changed, hn, ad, sq]
        rw [cp _ (by simp)]
        simp [lb, rp, al, d11, m6, ex, s1', s2', a1, a2]
      | false =>
        have c1' : c % 4 = 1 := by
          rcases c1 with h | h
          · rw [hn] at h; cases h
          · exact h
        simp [f__law_changed, hn, ad, sq, m4, c1']
        rw [cp _ (by simp)]
        simp [lb, rp, al, d11, m6, ex, s1', s2', a1, a2]
    rw [h2]
    rfl
  have n1 : isNoneO o = false := by
    cases q : isNoneO o with
    | false => rfl
    | true => exact absurd (.inl q) c1
  have n2 : ¬ c % 4 = 1 := fun z => c1 (.inr z)
  have h2 : exB (runF tab 11) ((f__law_changed.body.drop 4).take 1) [.val (encW w), .val (encSt st), .val (.int c), .val (.int j), .val (encOB o), .val (encBx (fullB w.brims)), .no, .no, .no, .no, .no, .no] = .nx [.val (encW w), .val (encSt st), .val (.int c), .val (.int j), .val (encOB o), .val (encBx (fullB w.brims)), .no, .no, .no, .no, .no, .no] := by
    simp [f__law_changed, n1, m4, n2]
  rw [h2, Ctl.seq_nx, exB_append]
  cases o with
  | none => cases n1
  | some b =>
  have gb := g _ _ ho.symm
  have gl := gb.len
  by_cases c2 : c % 4 = 2
  · -- one pair of bounds for another
    have bl := bx_len b
    obtain ⟨v, hv⟩ : ∃ v, v = c / 13 % (b.length : Int) := ⟨_, rfl⟩
    have v0 : 0 ≤ v := by rw [hv]; exact Int.emod_nonneg _ (by omega)
    have v1 : v < b.length := by rw [hv]; exact Int.emod_lt_of_pos _ (by omega)
    have d13 : binD .FloorDiv (.d (.int c)) (.d (.int 13)) = .ok (.d (.int (c / 13))) := div_r (by omega) (by omega)
    have mv : binD .Mod (.d (.int (c / 13))) (.d (.int b.length)) = .ok (.d (.int v)) := by rw [hv]; exact mod_r (by omega)
    have d17 : binD .FloorDiv (.d (.int c)) (.d (.int 17)) = .ok (.d (.int (c / 17))) := div_r (by omega) (by omega)
    have m5 : binD .Mod (.d (.int (c / 17))) (.d (.int 5)) = .ok (.d (.int (c / 17 % 5))) := mod_r (by omega)
    have vx : ixD (.d (encBx b)) (.d (.int v)) = .ok (.d (encPr (bxAt b v))) := by
      rw [encBx_ix, bx_at ⟨v0, v1⟩]
      rfl
    obtain ⟨p, hp⟩ : ∃ p, p = bxAt b v := ⟨_, rfl⟩
    rw [← hp] at vx
    obtain ⟨x, ex, px⟩ := pick5 (d0 := .tuple [.int (p.1 + 1), .int p.2]) (d1 := .tuple [.int p.1, .int (p.2 - 1)]) (d2 := .tuple [.int (p.1 - 1), .int p.2]) (d3 := .tuple [.int p.1, .int (p.2 + 1)]) (d4 := .tuple [.int p.1, .bool true]) (i := c / 17 % 5) (by omega)
    have vn : v.toNat < b.length := by omega
    have bx : (∃ o, PyData.tuple ((b.map encPr).set v.toNat x) = encOB o ∧ ∀ b, o = some b → GoodB w.brims b) ∨ BadD w (.tuple ((b.map encPr).set v.toNat x)) := by
      rcases px with rfl | rfl | rfl | rfl | rfl
      · exact set_pair gb vn (p.1 + 1) p.2
      · exact set_pair gb vn p.1 (p.2 - 1)
      · exact set_pair gb vn (p.1 - 1) p.2
      · exact set_pair gb vn p.1 (p.2 + 1)
      · exact .inr (set_bool gb vn _ _)
    obtain ⟨y, hy⟩ : ∃ y, y = PyData.tuple ((b.map encPr).set v.toNat x) := ⟨_, rfl⟩
    rw [← hy] at bx
    refine ⟨.o ((st.map encOB).set j.toNat y), ?_, same_set hw hl g jn bx⟩
    obtain ⟨s1, s2, a1, a2⟩ := cs y
    have s1' : slD (.d (encSt st)) none (some j) = .ok (.o ((st.map encOB).take j.toNat)) := s1
    have s2' : slD (.d (encSt st)) (some (j + 1)) none = .ok (.o ((st.map encOB).drop (j.toNat + 1))) := s2
    obtain ⟨t1, t2, b1, b2⟩ := cut_setT (xs := b.map encPr) (j := v) v0 (by rw [List.length_map]; exact v1) (by rw [List.length_map]; omega) x
    have t1' : slD (.d (encBx b)) none (some v) = .ok (.d (.tuple ((b.map encPr).take v.toNat))) := t1
    have t2' : slD (.d (encBx b)) (some (v + 1)) none = .ok (.d (.tuple ((b.map encPr).drop (v.toNat + 1)))) := t2
    rw [← hy] at b2
    have h3 : exB (runF tab 11) ((f__law_changed.body.drop 5).take 1) [.val (encW w), .val (encSt st), .val (.int c), .val (.int j), .val (encOB (some b)), .val (encBx (fullB w.brims)), .no, .no, .no, .no, .no, .no] = .rt (.o ((st.map encOB).set j.toNat y)) := by
      simp [f__law_changed, encOB, m4, c2, bl, d13, mv, vx, d17, m5, ex, t1', t2', b1, b2, s1', s2', a1, a2]
    rw [h3]
    rfl
  · have h3 : exB (runF tab 11) ((f__law_changed.body.drop 5).take 1) [.val (encW w), .val (encSt st), .val (.int c), .val (.int j), .val (encOB (some b)), .val (encBx (fullB w.brims)), .no, .no, .no, .no, .no, .no] = .nx [.val (encW w), .val (encSt st), .val (.int c), .val (.int j), .val (encOB (some b)), .val (encBx (fullB w.brims)), .no, .no, .no, .no, .no, .no] := by
      simp [f__law_changed, m4, c2]
    rw [h3, Ctl.seq_nx]
    have d19 : binD .FloorDiv (.d (.int c)) (.d (.int 19)) = .ok (.d (.int (c / 19))) := div_r (by omega) (by omega)
    have m6 : binD .Mod (.d (.int (c / 19))) (.d (.int 6)) = .ok (.d (.int (c / 19 % 6))) := mod_r (by omega)
    obtain ⟨x, ex, px⟩ := pick6 (d0 := .tuple (st.map encOB)) (d1 := .list (cutD (st.map encOB) none (some (-1)))) (d2 := .list (st.map encOB ++ [.none])) (d3 := .none) (d4 := .list (List.replicate st.length (encBx (fullB w.brims)))) (d5 := .dict []) (i := c / 19 % 6) (by omega)
    have tt : bltD .tuple [.d (encSt st)] = .ok (.d (.tuple (st.map encOB))) := rfl
    have s1 : slD (.d (encSt st)) none (some (-1)) = .ok (.o (cutD (st.map encOB) none (some (-1)))) := rfl
    have a1 : binD .Add (.d (encSt st)) (.o [.none]) = .ok (.o (st.map encOB ++ [.none])) := add_ll (st.map encOB) [.none] (by simp; omega)
    have rp : binD .Mult (.o [encBx (fullB w.brims)]) (.d (.int st.length)) = .ok (.o (List.replicate st.length (encBx (fullB w.brims)))) := by
      show M.chk _ _ = _
      rw [M.chk_pos ⟨by omega, by omega, by simp⟩, Int.toNat_natCast, rep_flat]
    have ex' : ixD (.o [.tuple (st.map encOB), .list (cutD (st.map encOB) none (some (-1))), .list (st.map encOB ++ [.none]), .none, .list (List.replicate st.length (encBx (fullB w.brims))), .dict []]) (.d (.int (c / 19 % 6))) = .ok (.d x) := ex
    refine ⟨.d x, ?_, ?_⟩
    · simp [f__law_changed, tt, s1, a1, ls, rp, d19, m6, ex']
    · rcases px with rfl | rfl | rfl | rfl | rfl | rfl
      · exact hold_not hw rfl
      · refine hold_len hw ?_
        obtain ⟨pre, z, hz⟩ : ∃ pre z, st = pre ++ [z] := ⟨st.dropLast, st.getLast (fun z => by rw [z] at hl; simp at hl; omega), (List.dropLast_concat_getLast _).symm⟩
        rw [hz, List.map_append, List.map_cons, List.map_nil, cut_last, List.length_map]
        have := hl
        rw [hz] at this
        simp at this
        omega
      · refine hold_len hw ?_
        simp
        omega
      · exact hold_not hw rfl
      · have e : PyData.list (List.replicate st.length (encBx (fullB w.brims))) = encSt (List.replicate st.length (some (fullB w.brims))) := by
          unfold encSt
          rw [List.map_replicate]
          rfl
        show Same w (.list (List.replicate st.length (encBx (fullB w.brims))))
        rw [e]
        refine same_typed hw (by simp [hl]) fun i b h => ?_
        unfold stAt at h
        rw [List.getD_eq_getElem?_getD, List.getElem?_replicate] at h
        split at h
        · simp at h
          rw [← h]
          exact full_goodB hw
        · simp at h
      · exact hold_not hw rfl
theorem full_st {w : Wk} (hw : okW w) : GoodS w.brims (List.replicate w.modes.length (some (fullB w.brims))) := by
  intro i b h
  unfold stAt at h
  rw [List.getD_eq_getElem?_getD, List.getElem?_replicate] at h
  split at h
  · simp at h
    rw [← h]
    exact full_goodB hw
  · simp at h
theorem law_tail {w : Wk} (hw : okW w) {st : BSt} (hl : st.length = w.modes.length) (g : GoodS w.brims st) (ns : List Int) : (exB (runF tab 12) (f_law.body.drop 3) [.val (encN ns), .val (encW w), .val (encSt st), .no, .no, .no, .no]) = .rt (.d (.bool true)) := by
  obtain ⟨c, hc⟩ : ∃ c, c = cellI ns 0 := ⟨_, rfl⟩
  have ce : runF tab 12 i__law_cell [encN ns, .int 0] = .ok (.d (.int c)) := by rw [hc]; exact cell_ok ns 0 (by omega)
  obtain ⟨r, er, b, h1, h2⟩ := changed_ok hw hl g c
  obtain ⟨T, hT⟩ : ∃ T, T = r.toD := ⟨_, rfl⟩
  rw [← hT] at h1 h2
  have sr : store false r = .val T := by rw [hT]; cases r <;> rfl
  have ty : isTy .bool (.bool b) = .ok true := rfl
  have eq : cmpD .Eq (.d (.bool b)) (.d (.bool b)) = .ok (.d (.bool true)) := by
    rw [eq_lay (a := .d (.bool b)) (b := .d (.bool b)) (n := 0) (m := 0) (lay_b b) (lay_b b) (by omega) (by omega)]
    cases b <;> rfl
  simp [f_law, ce, er, sr, h1, ty, h2, eq]
theorem law_pure (ns : List Int) (_ : ns.length ≤ 63) : runF tab (depth + 1) i_law [.list (ns.map PyData.int)] = .ok (.d (.bool true)) := by
  show runF tab (12 + 1) i_law [encN ns] = _
  rw [runF_of tab_law rfl]
  obtain ⟨w, dr, e1⟩ := drawn_ok (k := 9) ns 2 (by omega)
  have e1 : runF tab 12 i__law_drawn [encN ns, .int 2] = _ := e1
  have hw := dr.ok
  obtain ⟨r, wa, W⟩ := walls_ok (k := 6) hw
  have wa : runF tab 12 i_walls [encW w] = .ok (.d (encRes r)) := wa
  have im : ixD (.d (encW w)) (.d (.int 1)) = .ok (.d (.tuple (w.modes.map encM))) := encW_1 w
  have sp : f_law.body = f_law.body.take 3 ++ f_law.body.drop 3 := (List.take_append_drop 3 _).symm
  rw [sp, exB_append]
  cases r with
  | none =>
    have wa : runF tab 12 i_walls [encW w] = .ok (.d .none) := wa
    have three : exB (runF tab 12) (f_law.body.take 3) (startE f_law.sz [encN ns]) = .nx [.val (encN ns), .val (encW w), .val (encSt (List.replicate w.modes.length (some (fullB w.brims)))), .no, .no, .no, .no] := by
      simp [f_law, startE, e1, wa, im]
      rw [compD_map1 encM (fun _ => encBx (fullB w.brims))]
      · have : (w.modes.map fun _ => encBx (fullB w.brims)) = (List.replicate w.modes.length (some (fullB w.brims))).map encOB := by
          rw [List.map_const', List.map_replicate]
          rfl
        rw [this]
        simp
        unfold encSt
        rw [List.map_replicate]
      · intro m hm
        refine ⟨_, setT_name _ _ _, by simp, ?_⟩
        simp
        rw [compD_map1 PyData.int (fun x => encPr (0, x))]
        · have : (w.brims.map fun x => encPr (0, x)) = (fullB w.brims).map encPr := by
            unfold fullB
            rw [List.map_map]
            rfl
          rw [this]
          simp
          rfl
        · intro x hx
          exact ⟨_, setT_name _ _ _, by simp, by simp; rfl⟩
    rw [three, Ctl.seq_nx, law_tail hw (by simp) (full_st hw) ns]
    rfl
  | some B =>
    have wa : runF tab 12 i_walls [encW w] = .ok (.d (encSt B)) := wa
    obtain ⟨W1, W2, W3, W4, _⟩ := W
    have ho := hold_ok (k := 6) hw B W4 W3
    rw [(holdB_iff hw W4 W3).mpr ⟨W1, W2⟩] at ho
    have ho : runF tab 12 i_hold [encW w, encSt B] = .ok (.d (.bool true)) := ho
    have nn : isNoneD (encSt B) = false := rfl
    have three : exB (runF tab 12) (f_law.body.take 3) (startE f_law.sz [encN ns]) = .nx [.val (encN ns), .val (encW w), .val (encSt B), .no, .no, .no, .no] := by
      simp [f_law, startE, e1, wa, nn, ho]
    rw [three, Ctl.seq_nx, law_tail hw W4 W3 ns]
    rfl
end PF

end

section
namespace PF
open PySem PySem.Spec PyProof.Rows L2
abbrev theRow : PySem.W.OpenRow := PySem.W.OpenLaw.row PySem.Challenge.rw_steadytanks_k12_walls_looked_at
abbrev fnD : List He.DefD := List.zipWith dOf tab fts
abbrev hk : PySem.W.Hook := hookM 4 mt tab fnD
def ob (s : PySem.W.SharedT) : AlM := obsM 4 mt tab fnD (HandSHeadRun.getT s)
theorem ob_eq (s : PySem.W.SharedT) : ob s = hk.obs s.abs := obsM_eq (HandSHeadRun.getT_eq s)
def looseN : List PySem.Str := (["TankError", "BadWorks", "MOST_VESSELS", "MOST_MODES", "MOST_SWITCHES", "MOST_BRIM", "MOST_RATE", "is_within", "are_numbers", "is_switch", "is_mode", "is_works", "checked", "entered", "goes_at_once", "joined", "flowed", "grown", "walls", "is_box"] : List PySem.Str) ++ (["lies_in", "hold", "holds_at", "_law_cell", "_law_mix", "_law_whole", "_law_works", "_law_saw", "_law_drawn", "_law_out", "_law_lies", "_law_box", "_law_good", "_law_changed"] : List PySem.Str)
theorem head_run (w : World) : HandSHeadRun.RunEq theRow (PySem.W.view theRow.prog [38]) hk ob 6000 looseN w := by
  intro os
  kernel_rfl
end PF
end
open PySem PySem.W PySem.Calls PyProof.Rows in
theorem PySem.Challenge.cw_steadytanks_k12_walls_looked_at_holds : PySem.Challenge.rw_steadytanks_k12_walls_looked_at.Holds := by
  w_on; o_law
  refine HandSHeadRun.head_any (r := OpenLaw.row PySem.Challenge.rw_steadytanks_k12_walls_looked_at) (q := view (OpenLaw.row PySem.Challenge.rw_steadytanks_k12_walls_looked_at).prog [38])
    (H := PF.hk) (ob := PF.ob) (M := 6000) (loose := PF.looseN)
    (d := HandSHeadRun.topDef (OpenLaw.row PySem.Challenge.rw_steadytanks_k12_walls_looked_at).prog 38) (kwd := []) PF.ob_eq
    (by kernel_rfl) (fun s => by kernel_rfl) PF.head_run (by kernel_rfl) (by kernel_rfl) (by kernel_rfl) (by rfl)
    (by first | assumption | decide +kernel) (by decide +kernel) ⟨rfl, rfl, rfl, rfl, rfl, by decide +kernel⟩ ?hw ?hc
  case hw => w_witness2
  case hc =>
    exact PF.walk_ofM (k := PF.depth) (iL := PF.i_law) rfl (by kernel_rfl) ⟨rfl, by decide, by decide⟩
      (by kernel_rfl) rfl PF.stats PF.tab_law (ft := PF.t_law) rfl rfl PF.law_pure
