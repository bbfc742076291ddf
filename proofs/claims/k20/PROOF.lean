import PyProof.Rows.All
import Wide.All
import OpenK.AllK
import Wide.FinOn
import HandS.ForMost
import HandS.Exc
import HandS.ExcOwn
import HandS.TryOnly
import HandS.WordsExc
import HandS.IsInst
import HandS.ExcIs
import HandS.Zip
import HandS.Walk
import HandS.TupAny
import HandS.TupMul
import HandS.Flow
import HandS.Wide
import KE.KDictKeyed
import HandS.Text
import HandS.List
import KE.DatumOrd
import KE.GoesNew
import KE.KRevSl
import HandS.HeadHook2
import HandS.HeadEnd
import HandS.Head0
import HandS.Head1
import HandS.Head2
import PySem.Challenge.RW_steadytanks_k20_whole_faster_and_greater
set_option Elab.async false
set_option autoImplicit false
set_option linter.all false
set_option maxRecDepth 100000
set_option maxHeartbeats 0
section
/-! PF1: data, the heap's extension, slots, the core language and what it evaluates to. -/
namespace PF
noncomputable section
open PySem PySem.Spec PyProof.Rows L2
abbrev D := PyData
abbrev Fr := PySem.W.Frag

/-! ### what a value represents -/
/-- an empty dict, as data (no comparison takes it) -/
abbrev dicD : D := .dict []
mutual
inductive Rep (K : Fr) (G : Hp) : V → D → Prop
  | non : Rep K G .non .none
  | bl (b : Bool) : Rep K G (.bl b) (.bool b)
  | int (i : Int) : Rep K G (.int i) (.int i)
  | str (x : Str) : Rep K G (.str x) (.str x)
  | lst {a : Addr} {xs : List V} {ds : List D} : SqL K G a xs → xs.length ≤ sizeLine → RepA K G xs ds → Rep K G (.ref a) (.list ds)
  | tup {a : Addr} {xs : List V} {ds : List D} : SqT K G a xs → xs.length ≤ sizeLine → RepA K G xs ds → Rep K G (.ref a) (.tuple ds)
  | emp {a : Addr} : G a = some (.dK []) → Rep K G (.ref a) dicD
inductive RepA (K : Fr) (G : Hp) : List V → List D → Prop
  | nil : RepA K G [] []
  | cons {v : V} {vs : List V} {d : D} {ds : List D} : Rep K G v d → RepA K G vs ds → RepA K G (v :: vs) (d :: ds)
end
theorem sqT_same {K : Fr} {H H' : Hp} {a : Addr} {xs : List V} (e : Same H H') (h : SqT K H a xs) : SqT K H' a xs := by
  rcases h with (h | ⟨o, h⟩) | h
  · exact .inl (.inl (e _ _ h))
  · exact .inl (.inr ⟨o, e _ _ h⟩)
  · exact .inr h
mutual
theorem Rep.mono {K : Fr} {G G' : Hp} (s : Same G G') : ∀ {v : V} {d : D}, Rep K G v d → Rep K G' v d
  | _, _, .non => .non
  | _, _, .bl b => .bl b
  | _, _, .int i => .int i
  | _, _, .str x => .str x
  | _, _, .lst h l a => .lst (s.seq h) l (RepA.mono s a)
  | _, _, .tup h l a => .tup (sqT_same s h) l (RepA.mono s a)
  | _, _, .emp h => .emp (s _ _ h)
theorem RepA.mono {K : Fr} {G G' : Hp} (s : Same G G') : ∀ {vs : List V} {ds : List D}, RepA K G vs ds → RepA K G' vs ds
  | _, _, .nil => .nil
  | _, _, .cons h t => .cons (Rep.mono s h) (RepA.mono s t)
end
mutual
theorem Rep.dp {K : Fr} {G : Hp} : ∀ {v : V} {d : D}, d.canLay0 = true → Rep K G v d → Dp K G v d
  | _, _, _, .non => .non
  | _, _, _, .bl b => .bl b
  | _, _, _, .int i => .int i
  | _, _, _, .str x => .str x
  | _, _, c, .lst h l a => .lst h (RepA.dp c a)
  | _, _, c, .tup h l a => .tup h (RepA.dp c a)
  | _, _, c, .emp h => by exact absurd c (by decide +kernel)
theorem RepA.dp {K : Fr} {G : Hp} : ∀ {vs : List V} {ds : List D}, PyData.canLayAll0 ds = true → RepA K G vs ds → DpAll K G vs ds
  | _, _, _, .nil => .nil
  | _, _, c, .cons h t => .cons (Rep.dp (Bool.and_eq_true_iff.mp c).1 h) (RepA.dp (Bool.and_eq_true_iff.mp c).2 t)
end
section
variable {K : Fr} {G : Hp}
theorem RepA.length : ∀ {vs : List V} {ds : List D}, RepA K G vs ds → vs.length = ds.length
  | _, _, .nil => rfl
  | _, _, .cons _ t => by simp only [List.length_cons, RepA.length t]
theorem RepA.get : ∀ {vs : List V} {ds : List D} {i : Nat} {v : V}, RepA K G vs ds → vs[i]? = some v → ∃ d, ds[i]? = some d ∧ Rep K G v d
  | _, _, _, _, .nil, e => by simp at e
  | _, _, 0, _, .cons r _, e => by simp at e; subst e; exact ⟨_, rfl, r⟩
  | _, _, i + 1, v, .cons _ t, e => by
    obtain ⟨d, h1, h2⟩ := RepA.get (i := i) (v := v) t (by simpa using e)
    exact ⟨d, by simpa using h1, h2⟩
theorem RepA.get' : ∀ {vs : List V} {ds : List D} {i : Nat} {d : D}, RepA K G vs ds → ds[i]? = some d → ∃ v, vs[i]? = some v ∧ Rep K G v d
  | _, _, _, _, .nil, e => by simp at e
  | _, _, 0, _, .cons r _, e => by simp at e; subst e; exact ⟨_, rfl, r⟩
  | _, _, i + 1, d, .cons _ t, e => by
    obtain ⟨v, h1, h2⟩ := RepA.get' (i := i) (d := d) t (by simpa using e)
    exact ⟨v, by simpa using h1, h2⟩
theorem RepA.append : ∀ {xs ys : List V} {ds es : List D}, RepA K G xs ds → RepA K G ys es → RepA K G (xs ++ ys) (ds ++ es)
  | _, _, _, _, .nil, h => h
  | _, _, _, _, .cons r t, h => .cons r (RepA.append t h)
theorem RepA.take : ∀ {xs : List V} {ds : List D} (n : Nat), RepA K G xs ds → RepA K G (xs.take n) (ds.take n)
  | _, _, 0, _ => .nil
  | _, _, _ + 1, .nil => .nil
  | _, _, n + 1, .cons r t => .cons r (RepA.take n t)
theorem RepA.drop : ∀ {xs : List V} {ds : List D} (n : Nat), RepA K G xs ds → RepA K G (xs.drop n) (ds.drop n)
  | _, _, 0, r => r
  | _, _, _ + 1, .nil => .nil
  | _, _, n + 1, .cons _ t => RepA.drop n t
theorem RepA.set : ∀ {xs : List V} {ds : List D} {v : V} {d : D} (j : Nat), RepA K G xs ds → Rep K G v d → RepA K G (xs.set j v) (ds.set j d)
  | _, _, _, _, _, .nil, _ => .nil
  | _, _, _, _, 0, .cons _ t, h => .cons h t
  | _, _, _, _, j + 1, .cons r t, h => .cons r (RepA.set j t h)
theorem RepA.flat : ∀ {xs : List V} {ds : List D} (k : Nat), RepA K G xs ds → RepA K G (List.replicate k xs).flatten (List.replicate k ds).flatten
  | _, _, 0, _ => .nil
  | _, _, k + 1, h => by
    rw [List.replicate_succ, List.replicate_succ, List.flatten_cons, List.flatten_cons]
    exact h.append (RepA.flat k h)
theorem RepA.inj1 {v : V} {ds : List D} (h : RepA K G [v] ds) : ∃ d, ds = [d] ∧ Rep K G v d := by
  cases h with
  | cons r t => cases t; exact ⟨_, rfl, r⟩
theorem RepA.ints : ∀ {xs : List V} {ns : List Int}, RepA K G xs (ns.map PyData.int) → xs = ns.map V.int
  | _, [], h => by cases h; rfl
  | _, n :: r, h => by
    cases h with
    | cons h1 h2 => cases h1; rw [RepA.ints h2]; rfl
theorem RepA.of_ints : ∀ (ns : List Int), RepA K G (ns.map V.int) (ns.map PyData.int)
  | [] => .nil
  | n :: r => .cons (.int n) (RepA.of_ints r)
end

/-! ### how heaps grow -/
/-- H the tracked heap, G its frozen part: what stood stands, and what was not frozen before is not frozen now -/
structure Ext (G H G' H' : Hp) : Prop where
  hh : Same H H'
  gg : Same G G'
  gh : Same G' H'
  nw : ∀ a, G a = none → H a ≠ none → G' a = none
theorem Ext.refl {G H : Hp} (s : Same G H) : Ext G H G H := ⟨Same.refl _, Same.refl _, s, fun _ h _ => h⟩
theorem Ext.trans {G H G1 H1 G2 H2 : Hp} (a : Ext G H G1 H1) (b : Ext G1 H1 G2 H2) : Ext G H G2 H2 :=
  ⟨a.hh.trans b.hh, a.gg.trans b.gg, b.gh, fun c h1 h2 => b.nw c (a.nw c h1 h2) fun e => by
    cases q : H c with
    | none => exact h2 q
    | some o => rw [a.hh c o q] at e; cases e⟩
theorem same_upd {H : Hp} {p : Addr} {o : HO} (h : H p = none) : Same H (upd H p o) := fun b x e => by
  rw [upd_ne (ne_of_none e h)]
  exact e
theorem same_upd2 {G H : Hp} {p : Addr} {o : HO} (s : Same G H) : Same (upd G p o) (upd H p o) := fun b x e => by
  by_cases hb : b = p
  · subst hb; rw [upd_same] at e ⊢; exact e
  · rw [upd_ne hb] at e ⊢; exact s b x e
theorem same_upd3 {G H : Hp} {p : Addr} {o : HO} (s : Same G H) (h : H p = some o) : Same (upd G p o) H := fun b x e => by
  by_cases hb : b = p
  · subst hb; rw [upd_same] at e; cases e; exact h
  · rw [upd_ne hb] at e; exact s b x e
/-- a new frozen object -/
theorem Ext.new {G H : Hp} {p : Addr} {o : HO} (s : Same G H) (h : H p = none) : Ext G H (upd G p o) (upd H p o) := by
  have hg : G p = none := s.free h
  refine ⟨same_upd h, same_upd hg, same_upd2 s, fun a h1 h2 => ?_⟩
  have ne : a ≠ p := fun e => by subst e; exact h2 h
  rw [upd_ne ne]; exact h1
/-- a new object that is not frozen -/
theorem Ext.own {G H : Hp} {p : Addr} {o : HO} (s : Same G H) (h : H p = none) : Ext G H G (upd H p o) :=
  ⟨same_upd h, Same.refl _, s.trans (same_upd h), fun _ h1 _ => h1⟩
/-- what was new since is frozen -/
theorem Ext.frz {G H G' H' : Hp} {p : Addr} {o : HO} (e : Ext G H G' H') (h : H p = none) (hg : G' p = none) (h' : H' p = some o) : Ext G H (upd G' p o) H' :=
  ⟨e.hh, e.gg.trans (same_upd hg), same_upd3 e.gh h', fun a h1 h2 => by
    have ne : a ≠ p := fun e => by subst e; exact h2 h
    rw [upd_ne ne]; exact e.nw a h1 h2⟩

/-! ### results -/
/-- data, or a list that nobody else knows -/
inductive R where
  | d (x : D)
  | o (xs : List D)
/-- a value, an exception of the class no. c, or nothing said -/
inductive M (α : Type) where
  | ok (a : α)
  | ex (c : Nat)
  | no
namespace M
@[inline] def bind {α β : Type} (m : M α) (f : α → M β) : M β := match m with
  | .ok a => f a
  | .ex c => .ex c
  | .no => .no
def map {α β : Type} (f : α → β) (m : M α) : M β := m.bind fun a => .ok (f a)
@[simp] theorem bind_ok {α β : Type} (a : α) (f : α → M β) : (M.ok a).bind f = f a := rfl
@[simp] theorem bind_ex {α β : Type} (c : Nat) (f : α → M β) : (M.ex c : M α).bind f = .ex c := rfl
@[simp] theorem bind_no {α β : Type} (f : α → M β) : (M.no : M α).bind f = .no := rfl
theorem bind_assoc {α β γ : Type} (m : M α) (f : α → M β) (g : β → M γ) : (m.bind f).bind g = m.bind fun a => (f a).bind g := by cases m <;> rfl
def opt {α : Type} : Option α → M α
  | some a => .ok a
  | none => .no
@[simp] theorem opt_some {α : Type} (a : α) : opt (some a) = .ok a := rfl
@[simp] theorem opt_none {α : Type} : opt (none : Option α) = .no := rfl
/-- no exception comes out of it -/
def noex {α : Type} : M α → M α
  | .ex _ => .no
  | m => m
@[simp] theorem noex_ok {α : Type} (a : α) : noex (M.ok a) = .ok a := rfl
@[simp] theorem noex_no {α : Type} : noex (M.no : M α) = .no := rfl
@[simp] theorem noex_ex {α : Type} (c : Nat) : noex (M.ex c : M α) = .no := rfl
/-- guarded -/
def chk {α : Type} (c : Prop) (m : M α) : M α := @ite _ c (Classical.propDecidable c) m .no
theorem chk_pos {α : Type} {c : Prop} {m : M α} (h : c) : chk c m = m := if_pos h
theorem chk_ok {α : Type} {c : Prop} {m : M α} {a : α} (h : chk c m = .ok a) : c ∧ m = .ok a := by
  unfold chk at h; split at h
  · exact ⟨by assumption, h⟩
  · cases h
end M
def R.toD : R → D
  | .d x => x
  | .o xs => .list xs
/-- data alone -/
def M.toD (m : M R) : M D := m.bind fun r => .ok r.toD
@[simp] theorem M.toD_ok (r : R) : (M.ok r).toD = .ok r.toD := rfl
@[simp] theorem M.toD_ex (c : Nat) : (M.ex c : M R).toD = .ex c := rfl
@[simp] theorem M.toD_no : (M.no : M R).toD = .no := rfl
@[simp] theorem R.toD_d (x : D) : (R.d x).toD = x := rfl
@[simp] theorem R.toD_o (x : List D) : (R.o x).toD = .list x := rfl

/-! ### slots -/
inductive Sl where
  | no
  | val (d : D)
  | own (ds : List D)
  | exc (c : Nat)
  | dct (kvs : List (NestedKey × D))
abbrev Env := List Sl
def getV (ρ : PF.Env) (i : Nat) : M R := match ρ.getD i .no with
  | .val d => .ok (.d d)
  | _ => .no
def getP (ρ : PF.Env) (i : Nat) : M R := match ρ.getD i .no with
  | .val d => .ok (.d d)
  | .own ds => .ok (.o ds)
  | _ => .no

/-! ### keys of dicts: tuples -/
mutual
def keyD : D → Option NestedKey
  | .none => some .none
  | .bool b => some (.num (if b = true then 1 else 0))
  | .int i => some (.num i)
  | .str x => some (.text x)
  | .tuple xs => (keysD xs).map .tup
  | _ => none
def keysD : List D → Option (List NestedKey)
  | [] => some []
  | d :: ds => (keyD d).bind fun k => (keysD ds).map fun ks => k :: ks
end
def keyT (d : D) : Option NestedKey := match d with
  | .tuple xs => (keyD (.tuple xs)).bind fun k => if k.depth ≤ 8 then some k else none
  | _ => none
def lookD (kvs : List (NestedKey × D)) (k : NestedKey) : Option D := (kvs.find? fun kv => decide (kv.1 = k)).map (·.2)
/-- in its place, or at the end -/
def putD (kvs : List (NestedKey × D)) (k : NestedKey) (v : D) : List (NestedKey × D) :=
  if (kvs.any fun kv => decide (kv.1 = k)) = true then kvs.map (fun kv => if kv.1 = k then (kv.1, v) else kv) else kvs ++ [(k, v)]

/-! ### operations on data -/
def CDivM (_ j : Int) : Prop := j ≠ 0 ∧ j.natAbs.log2 < 9000
def CMulA (i j : Int) : Prop := CMul i j ∨ CMulW i j
instance (i j : Int) : Decidable (CMul i j) := by unfold CMul; exact inferInstance
instance (i j : Int) : Decidable (CMulW i j) := by unfold CMulW; exact inferInstance
instance (i j : Int) : Decidable (CMulA i j) := by unfold CMulA; exact inferInstance
instance (i j : Int) : Decidable (CDivW i j) := by unfold CDivW; exact inferInstance
instance (i j : Int) : Decidable (CPow i j) := by unfold CPow; exact inferInstance
def binI (op : Operator) (i j : Int) : M R := match op with
  | .Add => .ok (.d (.int (i + j)))
  | .Sub => .ok (.d (.int (i - j)))
  | .Mult => M.chk (CMulA i j) (.ok (.d (.int (i * j))))
  | .FloorDiv => M.chk (CDivM i j) (.ok (.d (.int (i.fdiv j))))
  | .Mod => M.chk (0 < j) (.ok (.d (.int (i % j))))
  | .Pow => M.chk (CPow i j) (.ok (.d (.int (i ^ j.toNat))))
  | .LShift => M.chk (CPow i j) (.ok (.d (.int (i * 2 ^ j.toNat))))
  | .RShift => M.chk (0 ≤ j) (.ok (.d (.int (i / 2 ^ j.toNat))))
  | .BitAnd => .ok (.d (.int (Builtin.bitAnd i j)))
  | _ => .no
def binD (op : Operator) (a b : R) : M R := match a.toD, b.toD with
  | .int i, .int j => binI op i j
  | .tuple xs, .tuple ys => match op with
    | .Add => M.chk (xs.length + ys.length ≤ sizeLine) (.ok (.d (.tuple (xs ++ ys))))
    | _ => .no
  | .list xs, .list ys => match op with
    | .Add => M.chk (xs.length + ys.length ≤ sizeLine) (.ok (.o (xs ++ ys)))
    | _ => .no
  | .str x, .str y => match op with
    | .Add => M.chk (x.length + y.length ≤ sizeLine) (.ok (.d (.str (x ++ y))))
    | _ => .no
  | .tuple xs, .int k => match op with
    | .Mult => M.chk (-1000 ≤ k ∧ k ≤ 1000 ∧ xs.length ≤ 1000) (.ok (.d (.tuple (List.replicate k.toNat xs).flatten)))
    | _ => .no
  | .list xs, .int k => match op with
    | .Mult => match a with
      | .o ys => M.chk (-1000 ≤ k ∧ k ≤ 1000 ∧ ys.length ≤ 1000) (.ok (.o (List.replicate k.toNat ys).flatten))
      | _ => .no
    | _ => .no
  | _, _ => .no
def negD : R → M R
  | .d (.int i) => .ok (.d (.int (-i)))
  | _ => .no
def flatD : D → Bool
  | .none => true
  | .bool _ => true
  | .int _ => true
  | .str _ => true
  | _ => false
/-- == of flat data -/
def inD (x : D) (xs : List D) : Bool := xs.any fun y => PyData.eqv y x
def boolR (b : Bool) : M R := .ok (.d (.bool b))
/-- one sign in a text -/
def signD (neg : Bool) (a : R) (z : Str) : M R := match a.toD with
  | .str x => match x.cps.toList with
    | [c] => boolR (if neg then !decide (c ∈ z.cps.toList) else decide (c ∈ z.cps.toList))
    | _ => .no
  | _ => .no
def cmpD (op : CmpOp) (a b : R) : M R := match op with
  | .Eq => M.chk (SeqAt.shaped a.toD = true ∧ SeqAt.shaped b.toD = true) (boolR (PyData.eqv a.toD b.toD))
  | .NotEq => M.chk (SeqAt.shaped a.toD = true ∧ SeqAt.shaped b.toD = true) (boolR (!PyData.eqv a.toD b.toD))
  | .Lt => match a.toD, b.toD with
    | .int i, .int j => boolR (decide (i < j))
    | _, _ => .no
  | .LtE => match a.toD, b.toD with
    | .int i, .int j => boolR (decide (i ≤ j))
    | _, _ => .no
  | .Gt => match a.toD, b.toD with
    | .int i, .int j => boolR (decide (j < i))
    | _, _ => .no
  | .GtE => match a.toD, b.toD with
    | .int i, .int j => boolR (decide (j ≤ i))
    | _, _ => .no
  | .In => match b.toD with
    | .list ys => M.chk (flatD a.toD = true ∧ ys.all flatD = true) (boolR (inD a.toD ys))
    | .tuple ys => M.chk (flatD a.toD = true ∧ ys.all flatD = true) (boolR (inD a.toD ys))
    | .str z => signD false a z
    | _ => .no
  | .NotIn => match b.toD with
    | .list ys => M.chk (flatD a.toD = true ∧ ys.all flatD = true) (boolR (!inD a.toD ys))
    | .tuple ys => M.chk (flatD a.toD = true ∧ ys.all flatD = true) (boolR (!inD a.toD ys))
    | .str z => signD true a z
    | _ => .no
  | .Is => match b.toD with
    | .none => boolR (match a.toD with | .none => true | _ => false)
    | _ => .no
  | .IsNot => match b.toD with
    | .none => boolR (match a.toD with | .none => false | _ => true)
    | _ => .no
def truthy : R → M Bool
  | .d .none => .ok false
  | .d (.bool b) => .ok b
  | .d (.int i) => .ok (i != 0)
  | .d (.str x) => M.chk (x.length ≤ sizeLine) (.ok ((x.length : Int) != 0))
  | .d (.list xs) => .ok (!xs.isEmpty)
  | .d (.tuple xs) => .ok (!xs.isEmpty)
  | .o xs => .ok (!xs.isEmpty)
  | _ => .no
def ixD (a i : R) : M R := match a.toD, i.toD with
  | .list xs, .int k => (M.opt (atI xs k)).bind fun d => .ok (.d d)
  | .tuple xs, .int k => (M.opt (atI xs k)).bind fun d => .ok (.d d)
  | .str z, .int k => M.chk (z.length ≤ sizeLine) ((M.opt (atI z.cps.toList k)).bind fun c => .ok (.d (.str ⟨#[c]⟩)))
  | _, _ => .no
def partD : D → M (Option Int)
  | .int i => .ok (some i)
  | _ => .no
def cutD (xs : List D) (lo hi : Option Int) : List D := (xs.drop (HT.sIx xs.length 0 lo)).take (HT.sIx xs.length xs.length hi - HT.sIx xs.length 0 lo)
def slD (a : R) (lo hi : Option Int) : M R := match a.toD with
  | .list xs => .ok (.o (cutD xs lo hi))
  | .tuple xs => .ok (.d (.tuple (cutD xs lo hi)))
  | .str z => M.chk (z.length ≤ sizeLine) (.ok (.d (.str (cutS z lo hi))))
  | _ => .no
/-- xs[::-1] -/
def revD (a : R) : M R := match a.toD with
  | .list xs => .ok (.o xs.reverse)
  | _ => .no
inductive Blt where
  | len | abs | max2 | min2 | max1 | min1 | sum | int | str | tuple | list
def intsD : List D → Option (List Int)
  | [] => some []
  | .int i :: r => (intsD r).map (i :: ·)
  | _ :: _ => none
def maxI : List Int → M R
  | [] => .no
  | x :: r => .ok (.d (.int (r.foldl max x)))
def minI : List Int → M R
  | [] => .no
  | x :: r => .ok (.d (.int (r.foldl min x)))
def bltD (b : Blt) (rs : List R) : M R := match b, rs with
  | .len, [r] => match r.toD with
    | .list xs => .ok (.d (.int xs.length))
    | .tuple xs => .ok (.d (.int xs.length))
    | .str x => M.chk (x.length ≤ sizeLine) (.ok (.d (.int x.length)))
    | _ => .no
  | .abs, [r] => match r.toD with
    | .int i => .ok (.d (.int (if i < 0 then -i else i)))
    | _ => .no
  | .max2, [r, s] => match r.toD, s.toD with
    | .int i, .int j => .ok (.d (.int (if j > i then j else i)))
    | _, _ => .no
  | .min2, [r, s] => match r.toD, s.toD with
    | .int i, .int j => .ok (.d (.int (if j < i then j else i)))
    | _, _ => .no
  | .max1, [r] => match r.toD with
    | .list xs => (M.opt (intsD xs)).bind maxI
    | .tuple xs => (M.opt (intsD xs)).bind maxI
    | _ => .no
  | .min1, [r] => match r.toD with
    | .list xs => (M.opt (intsD xs)).bind minI
    | .tuple xs => (M.opt (intsD xs)).bind minI
    | _ => .no
  | .sum, [r] => match r.toD with
    | .list xs => (M.opt (intsD xs)).bind fun ns => .ok (.d (.int ns.sum))
    | _ => .no
  | .int, [r] => match r.toD with
    | .int i => .ok (.d (.int i))
    | .bool b => .ok (.d (.int (if b then 1 else 0)))
    | .str x => M.chk (x.length ≤ 640) ((M.opt (PySem.intText? x)).bind fun n => .ok (.d (.int n)))
    | _ => .no
  | .str, [r] => match r.toD with
    | .int i => M.chk (i.natAbs.log2 < 1920) (.ok (.d (.str (toString i))))
    | _ => .no
  | .tuple, [r] => match r.toD with
    | .list xs => .ok (.d (.tuple xs))
    | .tuple xs => .ok (.d (.tuple xs))
    | _ => .no
  | .list, [r] => match r.toD with
    | .list xs => .ok (.o xs)
    | .tuple xs => .ok (.o xs)
    | _ => .no
  | _, _ => .no
/-- methods -/
inductive Mth where
  | ends | split | join | index
def strsD : List D → Option (List Str)
  | [] => some []
  | .str i :: r => (strsD r).map (i :: ·)
  | _ :: _ => none
/-- the receiver's kind -/
def mTy (m : Mth) (r : R) : M Unit := match m with
  | .index => match r.toD with
    | .list _ => .ok ()
    | _ => .no
  | _ => match r.toD with
    | .str _ => .ok ()
    | _ => .no
def mthD (m : Mth) (r : R) (ds : List D) : M R := match m, ds with
  | .ends, [.str b] => match r.toD with
    | .str a => boolR (Txt.endswith a b)
    | _ => .no
  | .split, [.str b] => match r.toD with
    | .str a => M.chk ((b.length == 0) = false ∧ a.length + 2 ≤ sizeLine ∧ (Txt.split a b).length ≤ sizeLine) (.ok (.o ((Txt.split a b).map PyData.str)))
    | _ => .no
  | .join, [.list xs] => match r.toD with
    | .str a => (M.opt (strsD xs)).bind fun ys => M.chk ((ys.map (·.length)).sum + ys.length * a.length ≤ 16777216) (.ok (.d (.str (Txt.join a ys))))
    | _ => .no
  | .index, [d] => match r.toD with
    | .list xs => M.chk (flatD d = true ∧ xs.all flatD = true) ((M.opt (xs.findIdx? fun z => PyData.eqv z d)).bind fun j => .ok (.d (.int (j : Nat))))
    | _ => .no
  | _, _ => .no
/-- isinstance with a built-in class -/
inductive Ty where
  | int | bool | str | tuple | list
def Ty.name : Ty → String
  | .int => "int" | .bool => "bool" | .str => "str" | .tuple => "tuple" | .list => "list"
def isTy (t : Ty) : D → M Bool
  | .none => .ok false
  | .bool _ => .ok (match t with | .int => true | .bool => true | _ => false)
  | .int _ => .ok (match t with | .int => true | _ => false)
  | .str _ => .ok (match t with | .str => true | _ => false)
  | .list _ => .ok (match t with | .list => true | _ => false)
  | .tuple _ => .ok (match t with | .tuple => true | _ => false)
  | .dict _ => .ok false

/-! ### the core language -/
inductive Tg where
  | name (i : Nat)
  | tup (ts : List Tg)
/-- what is walked: a list or tuple, range(a), range(a, b), enumerate(a), zip(a, b) -/
inductive IK where
  | seq | rng1 | rng2 | enum | zip
inductive CE where
  | var (i : Nat)
  | con (d : D)
  | bin (op : Operator) (a b : CE)
  | neg (a : CE)
  | cmp (op : CmpOp) (a b : CE)
  | chain (op op' : CmpOp) (a b c : CE)
  | chain3 (op op' op2 : CmpOp) (a b c d : CE)
  | meth (m : Mth) (a : CE) (es : List CE)
  | and (a b : CE)
  | or (a b : CE)
  | not (a : CE)
  | tup (es : List CE)
  | lst (es : List CE)
  | ix (a i : CE)
  | sl (a lo hi : CE)
  | call (f : Nat) (es : List CE)
  | blt (b : Blt) (es : List CE)
  | isI (a : CE) (t : Ty)
  | isE (i : Nat) (cs : List Nat)
  | comp (elt : CE) (tg : Tg) (k : IK) (a b : CE) (ifs : List CE) (own : List Nat)
  | dhas (neg : Bool) (i : Nat) (e : CE)
  | dget (i : Nat) (e : CE)
  | dlen (i : Nat)
  | rev (a : CE)
/-- a part of a slice: the constant None stands for one left out -/
def partC (c : CE) (m : M D) : M (Option Int) := match c with
  | .con .none => .ok none
  | _ => m.bind partD
/-- an own list's name as it stands, else the value -/
def pk (c : CE) (ρ : PF.Env) (m : M R) : M R := match c with
  | .var i => getP ρ i
  | _ => m
mutual
def setT : Tg → D → PF.Env → Option PF.Env
  | .name i, d, ρ => some (ρ.set i (.val d))
  | .tup ts, .tuple ds, ρ => setTs ts ds ρ
  | .tup _, _, _ => none
def setTs : List Tg → List D → PF.Env → Option PF.Env
  | [], [], ρ => some ρ
  | t :: ts, d :: ds, ρ => (setT t d ρ).bind fun ρ' => setTs ts ds ρ'
  | _, _, _ => none
end
def wipeE (ρ : PF.Env) : List Nat → PF.Env
  | [] => ρ
  | v :: vs => (wipeE ρ vs).set v .no
def seqD : R → M (List D)
  | .d (.list xs) => .ok xs
  | .d (.tuple xs) => .ok xs
  | _ => .no
def rngD (i j : Int) : M (List D) := M.chk (-(2 ^ 62) ≤ i ∧ i < 2 ^ 62 ∧ -(2 ^ 62) ≤ j ∧ j < 2 ^ 62 ∧ (j - i).toNat ≤ sizeLine) (.ok ((List.range (j - i).toNat).map fun (n : Nat) => PyData.int (i + (n : Int))))
def enumD (xs : List D) : List D := xs.zipIdx.map fun p => .tuple [.int p.2, p.1]
/-- a text's signs -/
def charsD : R → M (List D)
  | .d (.str z) => M.chk (z.length ≤ sizeLine) (.ok (z.cps.toList.map fun c => PyData.str ⟨#[c]⟩))
  | _ => .no
def itD (k : IK) (a b : R) : M (List D) := match k with
  | .seq => match seqD a with
    | .ok xs => .ok xs
    | .ex c => .ex c
    | .no => charsD a
  | .rng1 => match a with
    | .d (.int j) => rngD 0 j
    | _ => .no
  | .rng2 => match a, b with
    | .d (.int i), .d (.int j) => rngD i j
    | _, _ => .no
  | .enum => (seqD a).bind fun xs => .ok (enumD xs)
  | .zip => (seqD a).bind fun xs => (seqD b).bind fun ys => .ok ((xs.zip ys).map fun p => .tuple [p.1, p.2])
/-- a comprehension's turns -/
def compD (tg : Tg) (t : PF.Env → M Bool) (e : PF.Env → M D) (ρ : PF.Env) : List D → M (List D)
  | [] => .ok []
  | d :: ds => (M.opt (setT tg d ρ)).bind fun ρ' => (M.noex (t ρ')).bind fun b =>
    if b = true then (M.noex (e ρ')).bind fun y => (compD tg t e ρ ds).bind fun r => .ok (y :: r) else compD tg t e ρ ds
/-- the dict at a slot -/
def dctOf (ρ : PF.Env) (i : Nat) : M (List (NestedKey × D)) := match ρ.getD i .no with
  | .dct kvs => .ok kvs
  | _ => .no
mutual
def ev (F : Nat → List D → M R) : CE → PF.Env → M R
  | .var i, ρ => getV ρ i
  | .con d, _ => .ok (.d d)
  | .bin op a b, ρ => (pk a ρ (ev F a ρ)).bind fun x => (pk b ρ (ev F b ρ)).bind fun y => binD op x y
  | .neg a, ρ => (ev F a ρ).bind negD
  | .cmp op a b, ρ => (pk a ρ (ev F a ρ)).bind fun x => (pk b ρ (ev F b ρ)).bind fun y => cmpD op x y
  | .chain op op' a b c, ρ => (pk a ρ (ev F a ρ)).bind fun x => (pk b ρ (ev F b ρ)).bind fun y => (cmpD op x y).bind fun z => (truthy z).bind fun t =>
      if t = true then (pk c ρ (ev F c ρ)).bind fun w => cmpD op' y w else boolR false
  | .chain3 op op' op2 a b c d, ρ => (pk a ρ (ev F a ρ)).bind fun x => (pk b ρ (ev F b ρ)).bind fun y => (cmpD op x y).bind fun z => (truthy z).bind fun t =>
      if t = true then (pk c ρ (ev F c ρ)).bind fun w => (cmpD op' y w).bind fun z2 => (truthy z2).bind fun t2 => if t2 = true then (pk d ρ (ev F d ρ)).bind fun v => cmpD op2 w v else boolR false else boolR false
  | .meth m a es, ρ => (pk a ρ (ev F a ρ)).bind fun x => (mTy m x).bind fun _ => (evs F es ρ).bind fun ds => mthD m x ds
  | .and a b, ρ => (ev F a ρ).toD.bind fun x => (truthy (.d x)).bind fun t => if t = true then ev F b ρ else .ok (.d x)
  | .or a b, ρ => (ev F a ρ).toD.bind fun x => (truthy (.d x)).bind fun t => if t = true then .ok (.d x) else ev F b ρ
  | .not a, ρ => (pk a ρ (ev F a ρ)).bind fun x => (truthy x).bind fun t => boolR (!t)
  | .tup es, ρ => (evs F es ρ).bind fun ds => .ok (.d (.tuple ds))
  | .lst es, ρ => (evs F es ρ).bind fun ds => .ok (.o ds)
  | .ix a i, ρ => (pk a ρ (ev F a ρ)).bind fun x => (ev F i ρ).bind fun y => ixD x y
  | .sl a lo hi, ρ => (pk a ρ (ev F a ρ)).bind fun x => (partC lo (ev F lo ρ).toD).bind fun l => (partC hi (ev F hi ρ).toD).bind fun h => slD x l h
  | .call f es, ρ => (evs F es ρ).bind fun ds => F f ds
  | .blt b es, ρ => (evp F es ρ).bind fun rs => bltD b rs
  | .isI a t, ρ => (pk a ρ (ev F a ρ)).bind fun x => (isTy t x.toD).bind fun b => boolR b
  | .isE i cs, ρ => match ρ.getD i .no with
    | .exc e => boolR (cs.contains e)
    | _ => .no
  | .comp elt tg k a b ifs own, ρ => (ev F a ρ).bind fun x => (ev F b ρ).bind fun y => (itD k (.d x.toD) (.d y.toD)).bind fun ds =>
      (compD tg (evc F ifs) (fun ρ' => (ev F elt ρ').toD) (wipeE ρ own) ds).bind fun r => .ok (.o r)
  | .dhas neg i e, ρ => (ev F e ρ).toD.bind fun d => (dctOf ρ i).bind fun kvs => (M.opt (keyT d)).bind fun k => boolR ((lookD kvs k).isSome != neg)
  | .dget i e, ρ => (dctOf ρ i).bind fun kvs => (ev F e ρ).toD.bind fun d => (M.opt (keyT d)).bind fun k => (M.opt (lookD kvs k)).bind fun v => .ok (.d v)
  | .dlen i, ρ => (dctOf ρ i).bind fun kvs => .ok (.d (.int kvs.length))
  | .rev a, ρ => (pk a ρ (ev F a ρ)).bind revD
/-- arguments, as data -/
def evs (F : Nat → List D → M R) : List CE → PF.Env → M (List D)
  | [], _ => .ok []
  | e :: es, ρ => (ev F e ρ).toD.bind fun d => (evs F es ρ).bind fun ds => .ok (d :: ds)
/-- arguments of what keeps none of them -/
def evp (F : Nat → List D → M R) : List CE → PF.Env → M (List R)
  | [], _ => .ok []
  | e :: es, ρ => (pk e ρ (ev F e ρ)).bind fun d => (evp F es ρ).bind fun ds => .ok (d :: ds)
/-- a comprehension's tests (none or one) -/
def evc (F : Nat → List D → M R) : List CE → PF.Env → M Bool
  | [], _ => .ok true
  | e :: _, ρ => (pk e ρ (ev F e ρ)).bind fun r => truthy r
end
end
end PF

end

section
/-! PF2: operations on values keep what they say on data. -/
namespace PF
open PySem PySem.Spec PyProof.Rows L2

/-- what a value is that is looked at: data, or a list that stands -/
def Pk (K : Fr) (G H : Hp) (v : V) : R → Prop
  | .d x => Rep K G v x
  | .o ds => ∃ a xs, v = .ref a ∧ H a = some (.lst xs) ∧ xs.length ≤ sizeLine ∧ RepA K G xs ds
/-- a result: data, or a list that is new since Hb and not frozen -/
def VOk (K : Fr) (G H Hb : Hp) (v : V) : R → Prop
  | .d x => Rep K G v x
  | .o ds => ∃ a xs, v = .ref a ∧ H a = some (.lst xs) ∧ xs.length ≤ sizeLine ∧ RepA K G xs ds ∧ Hb a = none ∧ G a = none
section
variable {K : Fr} {G H G' H' Hb : Hp} {v : V} {r : R}
theorem VOk.pk (h : VOk K G H Hb v r) : Pk K G H v r := by
  cases r with
  | d x => exact h
  | o ds => obtain ⟨a, xs, e, h1, h2, h3, _, _⟩ := h; exact ⟨a, xs, e, h1, h2, h3⟩
theorem VOk.back {Hb' : Hp} (h : VOk K G H Hb v r) (s : Same Hb' Hb) : VOk K G H Hb' v r := by
  cases r with
  | d x => exact h
  | o ds => obtain ⟨a, xs, e, h1, h2, h3, h4, h5⟩ := h; exact ⟨a, xs, e, h1, h2, h3, s.free h4, h5⟩
theorem Pk.mono (h : Pk K G H v r) (e : Ext G H G' H') : Pk K G' H' v r := by
  cases r with
  | d x => exact Rep.mono e.gg h
  | o ds => obtain ⟨a, xs, q, h1, h2, h3⟩ := h; exact ⟨a, xs, q, e.hh _ _ h1, h2, h3.mono e.gg⟩
theorem Pk.dp (c : SeqAt.shaped r.toD = true) (s : Same G H) (h : Pk K G H v r) : Dp K H v r.toD := by
  have c := SeqAt.canLay_of_shaped c
  cases r with
  | d x => exact (Rep.mono s h).dp c
  | o ds => obtain ⟨a, xs, q, h1, h2, h3⟩ := h; subst q; exact .lst (.inl (.inl h1)) ((h3.mono s).dp c)
theorem Pk.int {i : Int} (h : Pk K G H v r) (e : r.toD = .int i) : v = .int i := by
  cases r with
  | d x => simp only [R.toD] at e; subst e; cases (show Rep K G v _ from h); rfl
  | o ds => cases e
theorem Pk.bool {b : Bool} (h : Pk K G H v r) (e : r.toD = .bool b) : v = .bl b := by
  cases r with
  | d x => simp only [R.toD] at e; subst e; cases (show Rep K G v _ from h); rfl
  | o ds => cases e
theorem Pk.str {b : Str} (h : Pk K G H v r) (e : r.toD = .str b) : v = .str b := by
  cases r with
  | d x => simp only [R.toD] at e; subst e; cases (show Rep K G v _ from h); rfl
  | o ds => cases e
theorem Pk.non (h : Pk K G H v r) (e : r.toD = .none) : v = .non := by
  cases r with
  | d x => simp only [R.toD] at e; subst e; cases (show Rep K G v _ from h); rfl
  | o ds => cases e
theorem Pk.tup {ds : List D} (s : Same G H) (h : Pk K G H v r) (e : r.toD = .tuple ds) : ∃ a xs, v = .ref a ∧ SqT K G a xs ∧ SqT K H a xs ∧ xs.length ≤ sizeLine ∧ RepA K G xs ds := by
  cases r with
  | d x => simp only [R.toD] at e; subst e; cases (show Rep K G v _ from h) with | tup h1 h2 h3 => exact ⟨_, _, rfl, h1, sqT_same s h1, h2, h3⟩
  | o ds => cases e
theorem Pk.lst {ds : List D} (s : Same G H) (h : Pk K G H v r) (e : r.toD = .list ds) : ∃ a xs, v = .ref a ∧ SqL K H a xs ∧ xs.length ≤ sizeLine ∧ RepA K G xs ds := by
  cases r with
  | d x => simp only [R.toD] at e; subst e; cases (show Rep K G v _ from h) with | lst h1 h2 h3 => exact ⟨_, _, rfl, s.seq h1, h2, h3⟩
  | o ds => obtain ⟨a, xs, q, h1, h2, h3⟩ := h; cases e; exact ⟨_, _, q, .inl (.inl h1), h2, h3⟩
theorem Rep.pk {x : D} (h : Rep K G v x) : Pk K G H v (.d x) := h
end
/-- what an operation on values asks, told on data -/
def r2 (K : Fr) (g : R → R → M R) : R2 := fun x y H Q => ∃ G r1 r2 r, Same G H ∧ Pk K G H x r1 ∧ Pk K G H y r2 ∧ g r1 r2 = .ok r ∧ ∀ v G' H', Ext G H G' H' → VOk K G' H' H v r → Q v H'
section
variable {X : Cx}
/-- list + list -/
def rCatR (K : Fr) : R2 := fun x y H Q => ∃ l b xs zs, x = .ref l ∧ y = .ref b ∧ SqL K H l xs ∧ SqL K H b zs ∧ xs.length + zs.length ≤ sizeLine ∧ ∀ p, H p = none → Q (.ref p) (upd H p (.lst (xs ++ zs)))
theorem op_catR : OpR X (binaryOp .Add) (rCatR X.K) := by
  intro pins s σ H x y v u Q I rx ry h
  obtain ⟨l, b, xs, zs, rfl, rfl, hH, hB, hz, q⟩ := h
  cases rx
  cases ry
  obtain ⟨its, r, pl, _⟩ := I.list hH
  obtain ⟨its2, r2, pl2, _⟩ := I.list hB
  have hl := r.length
  have hl2 := r2.length
  obtain ⟨⟨cls, dd, data, sl⟩, ho, hc, n, hd⟩ := pl.isList
  obtain ⟨⟨cls2, dd2, data2, sl2⟩, ho2, hc2, n2, hd2⟩ := pl2.isList
  simp only at hc hd hc2 hd2
  subst hc hd hc2 hd2
  refine concat_meets ⟨_, ho, rfl⟩ ⟨_, ho2, rfl⟩ noFill_list_add seq_list_add PySem.F.slot_list_add PySem.F.entry_list_add (PySem.F.args_list_add_2 _ _) (list_addW l b its.toArray its2.toArray n n2 dd dd2 sl sl2 (by simp; omega)) ⟨ho, ho2, ?_⟩
  have ea : its.toArray ++ its2.toArray = (its ++ its2).toArray := by simp
  rw [ea]
  exact ⟨.ref _, _, I.lnew (t' := s.toks) (r.append r2) (by rw [List.length_append]; omega), rfl, q _ I.fresh⟩
theorem OpR.of {f : Value → Value → Sem Value} {r r' : R2} (h : OpR X f r) (i : ∀ x y H Q, r' x y H Q → r x y H Q) : OpR X f r' :=
  fun pins s σ H x y v u Q I rx ry hr => h pins s σ H x y v u Q I rx ry (i _ _ _ _ hr)
/-- by the ways: each way has its rule -/
theorem OpR.by {f : Value → Value → Sem Value} {r' : R2} (i : ∀ x y H Q, r' x y H Q → ∃ r, OpR X f r ∧ r x y H Q) : OpR X f r' :=
  fun pins s σ H x y v u Q I rx ry hr => by
    obtain ⟨r, h, q⟩ := i _ _ _ _ hr
    exact h pins s σ H x y v u Q I rx ry q
theorem fin_d {K : Fr} {G H : Hp} {Q : VK} {d : D} {v : V} (s : Same G H) (q : ∀ v G' H', Ext G H G' H' → VOk K G' H' H v (.d d) → Q v H') (h : Rep K G v d) : Q v H := q v G H (Ext.refl s) h
theorem fin_tup {K : Fr} {G H : Hp} {Q : VK} {ds : List D} {xs : List V} (s : Same G H) (q : ∀ v G' H', Ext G H G' H' → VOk K G' H' H v (.d (.tuple ds)) → Q v H') (h : RepA K G xs ds) (l : xs.length ≤ sizeLine) (p : Addr) (hp : H p = none) :
    Q (.ref p) (upd H p (.tup xs)) :=
  q _ _ _ (Ext.new s hp) (.tup (.inl (.inl upd_same)) l (h.mono (same_upd (s.free hp))))
theorem fin_own {K : Fr} {G H : Hp} {Q : VK} {ds : List D} {xs : List V} (s : Same G H) (q : ∀ v G' H', Ext G H G' H' → VOk K G' H' H v (.o ds) → Q v H') (h : RepA K G xs ds) (l : xs.length ≤ sizeLine) (p : Addr) (hp : H p = none) :
    Q (.ref p) (upd H p (.lst xs)) :=
  q _ _ _ (Ext.own s hp) ⟨p, xs, rfl, upd_same, l, h, hp, s.free hp⟩
/-- // by a divisor other than 0 of less than 9000 bits -/
theorem op_fdivM : OpR X (binaryOp .FloorDiv) (rI CDivM fun i j => .int (i.fdiv j)) := opI fun _ _ _ _ _ _ _ hc q => floordiv_int hc.1 q (.inl (PyProof.noPylong_of_log2 hc.2))
theorem opI_of {op : Operator} {i j : Int} {r : R} (e : binI op i j = .ok r) : ∃ k, r = .d (.int k) ∧ ∀ H (Q : VK), Q (.int k) H → ∃ r', OpR X (binaryOp op) r' ∧ r' (.int i) (.int j) H Q := by
  cases op with
  | Add => cases e; exact ⟨_, rfl, fun H Q q => ⟨_, op_add, _, _, rfl, rfl, q⟩⟩
  | Sub => cases e; exact ⟨_, rfl, fun H Q q => ⟨_, op_sub, _, _, rfl, rfl, q⟩⟩
  | Mult =>
    obtain ⟨c, e⟩ := M.chk_ok e
    cases e
    refine ⟨_, rfl, fun H Q q => ?_⟩
    rcases c with c | c
    · exact ⟨_, op_mul, _, _, rfl, rfl, c, q⟩
    · exact ⟨_, op_mulW, _, _, rfl, rfl, c, q⟩
  | FloorDiv =>
    obtain ⟨c, e⟩ := M.chk_ok e
    cases e
    exact ⟨_, rfl, fun H Q q => ⟨_, op_fdivM, _, _, rfl, rfl, c, q⟩⟩
  | Mod =>
    obtain ⟨c, e⟩ := M.chk_ok e
    cases e
    exact ⟨_, rfl, fun H Q q => ⟨_, op_mod, _, _, rfl, rfl, c, q⟩⟩
  | Pow =>
    obtain ⟨c, e⟩ := M.chk_ok e
    cases e
    exact ⟨_, rfl, fun H Q q => ⟨_, op_pow, _, _, rfl, rfl, c, q⟩⟩
  | LShift =>
    obtain ⟨c, e⟩ := M.chk_ok e
    cases e
    exact ⟨_, rfl, fun H Q q => ⟨_, op_shl, _, _, rfl, rfl, c, q⟩⟩
  | RShift =>
    obtain ⟨c, e⟩ := M.chk_ok e
    cases e
    exact ⟨_, rfl, fun H Q q => ⟨_, op_shr, _, _, rfl, rfl, c, q⟩⟩
  | BitAnd => cases e; exact ⟨_, rfl, fun H Q q => ⟨_, op_and, _, _, rfl, rfl, q⟩⟩
  | _ => cases e
theorem tuple_mul_same (l : Addr) (items : Array Value) (n : Nat) (dd : Option Addr) (sl : Array (Option Value)) (x : Int) (u : Tok) (c0 : (decide (x < -(2 ^ 63)) || decide (x ≥ 2 ^ 63)) = false) (c1 : (items.isEmpty || x == 1) = true) :
    Meets (Builtin.«tuple.__mul__» ⟨[.ref l, .int x u], []⟩) (fun _ R s => s.heap.get? l = some { cls := .type "tuple", dict := dd, data := .seq items n, slots := sl } ∧ R (.ok (.ret (Value.ref l))) s) :=
  .of_wp fun prog w A R s h => by
    obtain ⟨hp, g, d, tk, os⟩ := s
    obtain ⟨hl, h⟩ := h
    have f1 := AutoSeq1.idx_int
    wp_walk using wpAny_loadPart' hl
    repeat (first
      | (refine wpAny_ite_false (decide_eq_false (by rw [c0]; exact Bool.false_ne_true)) ?_; wp_walk using wpAny_loadPart' hl)
      | (refine wpAny_ite_true (decide_eq_true (by rw [c1])) ?_; wp_walk using wpAny_loadPart' hl))
    exact ⟨_, rfl, h⟩
theorem tuple_mul_none (l : Addr) (items : Array Value) (n : Nat) (dd : Option Addr) (sl : Array (Option Value)) (x : Int) (u : Tok) (c0 : (decide (x < -(2 ^ 63)) || decide (x ≥ 2 ^ 63)) = false) (c1 : (items.isEmpty || x == 1) = false) (c2 : (decide (x ≤ 0) || items.isEmpty) = true) :
    Meets (Builtin.«tuple.__mul__» ⟨[.ref l, .int x u], []⟩) (fun _ R s => s.heap.get? l = some { cls := .type "tuple", dict := dd, data := .seq items n, slots := sl } ∧
      R (.ok (.ret (Value.ref s.heap.objs.size))) { s with heap := s.heap.push { cls := Value.type "tuple", data := Data.seq #[] }, toks := s.toks }) :=
  .of_wp fun prog w A R s h => by
    obtain ⟨hp, g, d, tk, os⟩ := s
    obtain ⟨hl, h⟩ := h
    have f1 := AutoSeq1.idx_int
    wp_walk using wpAny_loadPart' hl
    repeat (first
      | (refine wpAny_ite_false (decide_eq_false (by rw [c0]; exact Bool.false_ne_true)) ?_; wp_walk using wpAny_loadPart' hl)
      | (refine wpAny_ite_false (decide_eq_false (by rw [c1]; exact Bool.false_ne_true)) ?_; wp_walk using wpAny_loadPart' hl)
      | (refine wpAny_ite_true (decide_eq_true (by rw [c2])) ?_; wp_walk using wpAny_loadPart' hl))
    exact ⟨_, rfl, h⟩
/-- tuple * int, any number of times -/
def rRepA (K : Fr) : R2 := fun x y H Q => ∃ l k xs, x = .ref l ∧ y = .int k ∧ SqT K H l xs ∧ -1000 ≤ k ∧ k ≤ 1000 ∧ xs.length ≤ 1000 ∧ (xs = [] ∨ k = 1 → Q (.ref l) H) ∧ (xs ≠ [] → k ≠ 1 → ∀ p, H p = none → Q (.ref p) (upd H p (.tup (List.replicate k.toNat xs).flatten)))
theorem op_repA {X : Cx} : OpR X (binaryOp .Mult) (rRepA X.K) := by
  intro pins s σ H x y v u Q I rx ry h
  obtain ⟨l, k, xs, rfl, rfl, hT, h0, h1, hz, q1, q2⟩ := h
  by_cases big : xs ≠ [] ∧ 2 ≤ k
  · exact op_repT pins s σ H _ _ v u Q I rx ry ⟨l, k, xs, rfl, rfl, hT, big.1, big.2, h1, hz, q2 big.1 (by omega)⟩
  cases rx
  obtain ⟨t, rfl⟩ := ry
  obtain ⟨its, r, ⟨⟨cls, dd, data, sl⟩, ho, hc, n, hd⟩, hs⟩ := I.tuple hT
  simp only at hc hd
  subst hc hd
  have hle : its.length = xs.length := r.length.symm
  have c0 : (decide (k < -(2 ^ 63)) || decide (k ≥ 2 ^ 63)) = false := by
    rw [decide_eq_false (by omega), decide_eq_false (by omega)] <;> rfl
  have emp : its.toArray.isEmpty = true ↔ xs = [] := by
    constructor
    · intro e
      cases its with
      | nil => exact List.eq_nil_of_length_eq_zero (by simpa using hle.symm)
      | cons a b => simp at e
    · intro e
      subst e
      have : its = [] := List.eq_nil_of_length_eq_zero (by simpa using hle)
      rw [this]
      rfl
  by_cases c : xs = [] ∨ k = 1
  · have c1 : (its.toArray.isEmpty || k == 1) = true := by
      rw [Bool.or_eq_true]
      rcases c with c | c
      · exact .inl (emp.mpr c)
      · exact .inr (beq_iff_eq.mpr c)
    refine wpAny_binaryOp_repeat_ref (T := "tuple") (U := "int") (by decide) ⟨_, ho, rfl⟩ (fun s' => typeIs_int s' k t) noFill_tuple_mul F.fills_int_mul F.slot_int_rmul repeat_tuple F.slot_int_index.lookup
      (call_meets F.slot_int_rmul (typeIs_int s k t) F.entry_int_rmul (F.args_int_rmul_2 _ _) (int_rmul_tuple k t l its.toArray n dd sl)
        ⟨ho, rfl, ⟨_, ho, rfl⟩, call_meets F.slot_tuple_mul ⟨_, ho, rfl⟩ F.entry_tuple_mul (F.args_tuple_mul_2 _ _) (tuple_mul_same l its.toArray n dd sl k t c0 c1) ⟨ho, ?_⟩⟩)
    exact ⟨.ref l, H, I, rfl, q1 c⟩
  · have ne : xs ≠ [] := fun e => c (.inl e)
    have k0 : k ≤ 0 := by
      rcases (show k < 2 ∨ 2 ≤ k by omega) with z | z
      · have : k ≠ 1 := fun e => c (.inr e)
        omega
      · exact absurd ⟨ne, z⟩ big
    have e0 : its.toArray.isEmpty = false := by
      cases z : its.toArray.isEmpty with
      | false => rfl
      | true => exact absurd (emp.mp z) ne
    have c1 : (its.toArray.isEmpty || k == 1) = false := by
      rw [e0, Bool.false_or]
      exact beq_eq_false_iff_ne.mpr (by omega)
    have c2 : (decide (k ≤ 0) || its.toArray.isEmpty) = true := by
      rw [decide_eq_true k0]
      rfl
    have kz : k.toNat = 0 := by omega
    refine wpAny_binaryOp_repeat_ref (T := "tuple") (U := "int") (by decide) ⟨_, ho, rfl⟩ (fun s' => typeIs_int s' k t) noFill_tuple_mul F.fills_int_mul F.slot_int_rmul repeat_tuple F.slot_int_index.lookup
      (call_meets F.slot_int_rmul (typeIs_int s k t) F.entry_int_rmul (F.args_int_rmul_2 _ _) (int_rmul_tuple k t l its.toArray n dd sl)
        ⟨ho, rfl, ⟨_, ho, rfl⟩, call_meets F.slot_tuple_mul ⟨_, ho, rfl⟩ F.entry_tuple_mul (F.args_tuple_mul_2 _ _) (tuple_mul_none l its.toArray n dd sl k t c0 c1 c2) ⟨ho, ?_⟩⟩)
    have q := q2 ne (by omega)
    rw [kz] at q
    refine ⟨.ref s.heap.objs.size, _, I.laid (t' := s.toks) (o := .tup []) (fun b ob q => Heap.get?_push_of_some _ q) (Nat.le_refl _) ?_, rfl, q _ (I.hok.fresh (Nat.le_refl _))⟩
    exact ⟨Nat.zero_le _, [], .nil, IsTup.new _ _⟩
theorem op_bin {op : Operator} : OpR X (binaryOp op) (r2 X.K (binD op)) := by
  refine OpR.by fun x y H Q h => ?_
  obtain ⟨G, r1, r2, r, s, p1, p2, e, q⟩ := h
  unfold binD at e
  split at e
  · rename_i i j e1 e2
    have z1 := p1.int e1
    have z2 := p2.int e2
    subst z1 z2
    obtain ⟨k, rfl, o⟩ := opI_of (X := X) e
    exact o H Q (fin_d s q (.int k))
  · rename_i xs ys e1 e2
    obtain ⟨a, vs, rfl, hga, ha, la, ra⟩ := p1.tup s e1
    obtain ⟨b, ws, rfl, hgb, hb, lb, rb⟩ := p2.tup s e2
    cases op with
    | Add =>
      obtain ⟨c, e⟩ := M.chk_ok e
      cases e
      have l1 := ra.length
      have l2 := rb.length
      refine ⟨_, op_catA, a, b, vs, ws, rfl, rfl, ha, hb, by omega, fun z => ?_, fun _ z => ?_, fun _ _ p hp => fin_tup s q (ra.append rb) (by rw [List.length_append]; omega) p hp⟩
      · subst z; cases ra; exact fin_d s q (.tup hgb lb rb)
      · subst z; cases rb; exact fin_d s q (by rw [List.append_nil]; exact .tup hga la ra)
    | _ => cases e
  · rename_i xs ys e1 e2
    obtain ⟨a, vs, rfl, ha, la, ra⟩ := p1.lst s e1
    obtain ⟨b, ws, rfl, hb, lb, rb⟩ := p2.lst s e2
    cases op with
    | Add =>
      obtain ⟨c, e⟩ := M.chk_ok e
      cases e
      have l1 := ra.length
      have l2 := rb.length
      exact ⟨_, op_catR, a, b, vs, ws, rfl, rfl, ha, hb, by omega, fun p hp => fin_own s q (ra.append rb) (by rw [List.length_append]; omega) p hp⟩
    | _ => cases e
  · rename_i a b e1 e2
    have z1 := p1.str e1
    have z2 := p2.str e2
    subst z1 z2
    cases op with
    | Add =>
      obtain ⟨c, e⟩ := M.chk_ok e
      cases e
      exact ⟨_, op_add_str, _, _, rfl, rfl, c, fin_d s q (.str _)⟩
    | _ => cases e
  · rename_i xs k e1 e2
    obtain ⟨a, vs, rfl, hga, ha, la, ra⟩ := p1.tup s e1
    have z2 := p2.int e2
    subst z2
    cases op with
    | Mult =>
      obtain ⟨⟨c1, c2, c3⟩, e⟩ := M.chk_ok e
      cases e
      have l1 := ra.length
      refine ⟨_, op_repA, a, k, vs, rfl, rfl, ha, c1, c2, by omega, fun z => ?_, fun _ _ p hp => fin_tup s q (ra.flat k.toNat) ?_ p hp⟩
      · have ex : (List.replicate k.toNat xs).flatten = xs := by
          rcases z with z | z
          · have : xs = [] := by subst z; cases ra; rfl
            rw [this]
            simp
          · rw [z]
            simp
        rw [ex] at q
        exact fin_d s q (.tup hga la ra)
      · rw [List.length_flatten, List.map_replicate, List.sum_replicate_nat, sizeLine_eq]
        have h1 : k.toNat ≤ 1000 := by omega
        have h2 : vs.length ≤ 1000 := by omega
        exact Nat.le_trans (Nat.mul_le_mul h1 h2) (by decide)
    | _ => cases e
  · rename_i xs k e1 e2
    cases op with
    | Mult =>
      cases r1 with
      | d x => cases e
      | o ds =>
        cases e1
        obtain ⟨⟨c1, c2, c3⟩, e⟩ := M.chk_ok e
        cases e
        obtain ⟨a, vs, rfl, h1, h2, h3⟩ := p1
        have z2 := p2.int e2
        subst z2
        have l1 := h3.length
        have sz : vs.length * k.toNat ≤ sizeLine := by
          rw [sizeLine_eq]
          have h1 : k.toNat ≤ 1000 := by omega
          have h2 : vs.length ≤ 1000 := by omega
          exact Nat.le_trans (Nat.mul_le_mul h2 h1) (by decide)
        refine ⟨_, op_rep, a, k, vs, rfl, rfl, h1, by omega, by omega, sz, fun p hp => fin_own s q (h3.flat k.toNat) ?_ p hp⟩
        rw [List.length_flatten, List.map_replicate, List.sum_replicate_nat, Nat.mul_comm]
        exact sz
    | _ => cases e
  · cases e
/-- a one-place operation -/
def r1 (K : Fr) (g : R → M R) : V → Hp → VK → Prop := fun x H Q => ∃ G r1 r, Same G H ∧ Pk K G H x r1 ∧ g r1 = .ok r ∧ ∀ v G' H', Ext G H G' H' → VOk K G' H' H v r → Q v H'
theorem un_negD : UnR X (unaryOp .USub) (r1 X.K negD) := by
  intro pins s σ H x v Q I rx h
  obtain ⟨G, r1, r, sm, p1, e, q⟩ := h
  unfold negD at e
  split at e
  · rename_i i
    cases e
    have z := p1.int (i := i) rfl
    subst z
    exact un_neg pins s σ H _ v Q I rx ⟨i, rfl, fin_d sm q (.int _)⟩
  · cases e
theorem isNone_iff {K : Fr} {G H : Hp} {v : V} {r : R} (h : Pk K G H v r) : decide (v = .non) = (match r.toD with | .none => true | _ => false) := by
  cases r with
  | d x =>
    cases (show Rep K G v x from h) <;> simp [R.toD]
  | o ds => obtain ⟨a, xs, e, _⟩ := h; subst e; simp [R.toD]
theorem flat_of {K : Fr} {G : Hp} {v : V} {d : D} (h : Rep K G v d) : flatV v = flatD d := by
  cases h <;> rfl
theorem eqV_of {K : Fr} {G : Hp} {v w : V} {d e : D} (h : Rep K G v d) (h' : Rep K G w e) (f : flatD d = true) (f' : flatD e = true) : eqV v w = PyData.eqv d e := by
  cases h <;> first
    | (cases f; done)
    | (cases h' <;> first
        | (cases f'; done)
        | (simp only [eqV, PyData.eqv]; done))
theorem all_flat {K : Fr} {G : Hp} : ∀ {vs : List V} {ds : List D}, RepA K G vs ds → vs.all flatV = ds.all flatD
  | _, _, .nil => rfl
  | _, _, .cons h t => by rw [List.all_cons, List.all_cons, flat_of h, all_flat t]
theorem in_of {K : Fr} {G : Hp} {x : V} {d : D} (hx : Rep K G x d) (fx : flatD d = true) : ∀ {vs : List V} {ds : List D}, RepA K G vs ds → ds.all flatD = true → inV x vs = inD d ds
  | _, _, .nil, _ => rfl
  | _, _, .cons h t, f => by
    rw [List.all_cons, Bool.and_eq_true] at f
    have ih := in_of hx fx t f.2
    unfold inV inD at ih ⊢
    rw [List.any_cons, List.any_cons, ih, eqV_of h hx f.1 fx]
theorem flat_rep {K : Fr} {G H : Hp} {v : V} {r : R} (h : Pk K G H v r) (f : flatD r.toD = true) : Rep K G v r.toD := by
  cases r with
  | d x => exact h
  | o ds => cases f
theorem op_cmp {op : CmpOp} (hu : X.A.units + 64 < cLine) : OpR X (compareOp op) (r2 X.K (cmpD op)) := by
  refine OpR.by fun x y H Q h => ?_
  obtain ⟨G, r1, r2, r, s, p1, p2, e, q⟩ := h
  have intsH : ∀ {g : Int → Int → Bool} {op' : CmpOp}, OpR X (compareOp op') (rI0 fun i j => .bl (g i j)) → (match r1.toD, r2.toD with
      | .int i, .int j => boolR (g i j)
      | _, _ => .no) = M.ok r → ∃ r, OpR X (compareOp op') r ∧ r x y H Q := fun {g op'} ho e => by
    split at e
    · rename_i i j e1 e2
      have z1 := p1.int e1
      have z2 := p2.int e2
      subst z1 z2
      cases e
      exact ⟨_, ho, i, j, rfl, rfl, fin_d s q (.bl _)⟩
    · cases e
  have insH : ∀ (neg : Bool) {op' : CmpOp}, OpR X (compareOp op') (rIn X.K neg) → OpR X (compareOp op') (fun x y H Q => ∃ (c : Nat) (z : Str), x = .str ⟨#[c]⟩ ∧ y = .str z ∧ Q (.bl (if neg then !decide (c ∈ z.cps.toList) else decide (c ∈ z.cps.toList))) H) → (match r2.toD with
      | .list ys => M.chk (flatD r1.toD = true ∧ ys.all flatD = true) (boolR (if neg then !inD r1.toD ys else inD r1.toD ys))
      | .tuple ys => M.chk (flatD r1.toD = true ∧ ys.all flatD = true) (boolR (if neg then !inD r1.toD ys else inD r1.toD ys))
      | .str z => signD neg r1 z
      | _ => .no) = M.ok r → ∃ r, OpR X (compareOp op') r ∧ r x y H Q := fun neg {op'} ho hs e => by
    split at e
    · rename_i ys e2
      obtain ⟨⟨c1, c2⟩, e⟩ := M.chk_ok e
      cases e
      obtain ⟨b, ws, rfl, hb, lb, rb⟩ := p2.lst s e2
      have hx := flat_rep p1 c1
      refine ⟨_, ho, b, ws, rfl, .inl hb, by rw [flat_of hx]; exact c1, by rw [all_flat rb]; exact c2, ?_⟩
      rw [in_of hx c1 rb c2]
      exact fin_d s q (.bl _)
    · rename_i ys e2
      obtain ⟨⟨c1, c2⟩, e⟩ := M.chk_ok e
      cases e
      obtain ⟨b, ws, rfl, _, hb, lb, rb⟩ := p2.tup s e2
      have hx := flat_rep p1 c1
      refine ⟨_, ho, b, ws, rfl, .inr hb, by rw [flat_of hx]; exact c1, by rw [all_flat rb]; exact c2, ?_⟩
      rw [in_of hx c1 rb c2]
      exact fin_d s q (.bl _)
    · rename_i z e2
      have z2 := p2.str e2
      subst z2
      unfold signD at e
      split at e
      · rename_i x' e1
        split at e
        · rename_i ch ec
          have z1 := p1.str e1
          subst z1
          have ex : x' = ⟨#[ch]⟩ := by
            cases x' with
            | mk cps =>
              congr 1
              exact Array.toList_inj.mp ec
          subst ex
          cases e
          exact ⟨_, hs, ch, z, rfl, rfl, fin_d s q (.bl _)⟩
        · cases e
      · cases e
    · cases e
  cases op with
  | Eq =>
    obtain ⟨⟨c1, c2⟩, e⟩ := M.chk_ok e
    cases e
    exact ⟨_, op_eqD hu, _, _, p1.dp c1 s, p2.dp c2 s, c1, c2, fin_d s q (.bl _)⟩
  | NotEq =>
    obtain ⟨⟨c1, c2⟩, e⟩ := M.chk_ok e
    cases e
    exact ⟨_, op_neD hu, _, _, p1.dp c1 s, p2.dp c2 s, c1, c2, fin_d s q (.bl _)⟩
  | Lt => exact intsH op_lt e
  | LtE => exact intsH op_le e
  | Gt => exact intsH op_gt e
  | GtE => exact intsH op_ge e
  | In => exact insH false op_in_seq op_in_sign e
  | NotIn => exact insH true op_notIn_seq op_notIn_sign e
  | Is =>
    simp only [cmpD] at e
    split at e
    · rename_i e2
      have z2 := p2.non e2
      subst z2
      cases e
      refine ⟨_, op_isN, rfl, ?_⟩
      rw [isNone_iff p1]
      exact fin_d s q (.bl _)
    · cases e
  | IsNot =>
    simp only [cmpD] at e
    split at e
    · rename_i e2
      have z2 := p2.non e2
      subst z2
      cases e
      refine ⟨_, op_notN, rfl, ?_⟩
      rw [isNone_iff p1]
      refine fin_d s q ?_
      have : (!(match r1.toD with | .none => true | _ => false)) = (match r1.toD with | .none => false | _ => true) := by split <;> rfl
      rw [this]
      exact .bl _
    · cases e
theorem tru_of {K : Fr} {G H : Hp} {v : V} {r : R} {b : Bool} (s : Same G H) (h : Pk K G H v r) (e : truthy r = .ok b) : TruV K v H b := by
  cases r with
  | o ds =>
    cases e
    obtain ⟨a, xs, q, h1, h2, h3⟩ := h
    subst q
    refine .inl ⟨xs, .inl (.inl h1), ?_⟩
    cases h3 <;> rfl
  | d x =>
    cases (show Rep K G v x from h) with
    | non => cases e; rfl
    | bl c => cases e; rfl
    | int i => cases e; rfl
    | str y =>
      obtain ⟨c, e⟩ := M.chk_ok (show M.chk (y.length ≤ sizeLine) (.ok ((y.length : Int) != 0)) = .ok b from e)
      cases e
      exact ⟨c, rfl⟩
    | lst h1 h2 h3 =>
      cases e
      refine .inl ⟨_, s.seq h1, ?_⟩
      cases h3 <;> rfl
    | tup h1 h2 h3 =>
      cases e
      refine .inr (.inl ⟨_, sqT_same s h1, ?_⟩)
      cases h3 <;> rfl
    | emp h1 => cases e
/-! ### subscripts, slices -/
theorem atI_rep {K : Fr} {G : Hp} {vs : List V} {ds : List D} {k : Int} {d : D} (h : RepA K G vs ds) (e : atI ds k = some d) : ∃ v, atI vs k = some v ∧ Rep K G v d := by
  unfold atI at e ⊢
  rw [h.length]
  cases q : ixN ds.length k with
  | none => rw [q] at e; cases e
  | some j =>
    rw [q] at e
    obtain ⟨v, h1, h2⟩ := h.get' (i := j) e
    exact ⟨v, h1, h2⟩
theorem IxR.by {r' : R2} (i : ∀ x y H Q, r' x y H Q → ∃ r, IxR X r ∧ r x y H Q) : IxR X r' :=
  fun value slice pins s σ H x y v u Q I rx ry hr hs => by
    obtain ⟨r, h, q⟩ := i _ _ _ _ hr
    exact h value slice pins s σ H x y v u Q I rx ry q hs
theorem ix_D : IxR X (r2 X.K ixD) := by
  refine IxR.by fun x y H Q h => ?_
  obtain ⟨G, r1, r2, r, s, p1, p2, e, q⟩ := h
  unfold ixD at e
  split at e
  · rename_i xs k e1 e2
    have z2 := p2.int e2
    subst z2
    obtain ⟨a, vs, rfl, ha, la, ra⟩ := p1.lst s e1
    cases g : atI xs k with
    | none => rw [g] at e; cases e
    | some d =>
      rw [g] at e
      cases e
      obtain ⟨v, h1, h2⟩ := atI_rep ra g
      exact ⟨_, ix_list, a, vs, k, v, rfl, rfl, ha, h1, fin_d s q h2⟩
  · rename_i xs k e1 e2
    have z2 := p2.int e2
    subst z2
    obtain ⟨a, vs, rfl, _, ha, la, ra⟩ := p1.tup s e1
    cases g : atI xs k with
    | none => rw [g] at e; cases e
    | some d =>
      rw [g] at e
      cases e
      obtain ⟨v, h1, h2⟩ := atI_rep ra g
      exact ⟨_, ix_tup, a, vs, k, v, rfl, rfl, ha, h1, fin_d s q h2⟩
  · rename_i z k e1 e2
    have z1 := p1.str e1
    have z2 := p2.int e2
    subst z1 z2
    obtain ⟨c, e⟩ := M.chk_ok e
    cases g : atI z.cps.toList k with
    | none => rw [g] at e; cases e
    | some ch =>
      rw [g] at e
      cases e
      exact ⟨_, ix_str, z, k, ch, rfl, rfl, c, g, fin_d s q (.str _)⟩
  · cases e
theorem cut_rep {K : Fr} {G : Hp} {vs : List V} {ds : List D} {lo hi : Option Int} (h : RepA K G vs ds) : RepA K G (cutV vs lo hi) (cutD ds lo hi) := by
  unfold cutV cutD
  rw [h.length]
  exact (h.drop _).take _
def r3 (K : Fr) : V → Option Int → Option Int → Hp → VK → Prop := fun x lo hi H Q => ∃ G r1 r, Same G H ∧ Pk K G H x r1 ∧ slD r1 lo hi = .ok r ∧ ∀ v G' H', Ext G H G' H' → VOk K G' H' H v r → Q v H'
theorem sl_D : SlR X (r3 X.K) := by
  intro pins s σ H x v vl vu lo hi sl Q I rx hs pl pu h
  obtain ⟨G, r1, r, sm, p1, e, q⟩ := h
  unfold slD at e
  split at e
  · rename_i xs e1
    cases e
    obtain ⟨a, vs, rfl, ha, la, ra⟩ := p1.lst sm e1
    exact sl_list pins s σ H _ v vl vu lo hi sl Q I rx hs pl pu ⟨a, vs, rfl, ha, fun p hp => fin_own sm q (cut_rep ra) (Nat.le_trans (cutV_length _ _ _) la) p hp⟩
  · rename_i xs e1
    cases e
    obtain ⟨a, vs, rfl, hga, ha, la, ra⟩ := p1.tup sm e1
    refine sl_tupA pins s σ H _ v vl vu lo hi sl Q I rx hs pl pu ⟨a, vs, rfl, ha, fun ⟨z1, z2⟩ => fin_d sm q ?_, fun _ p hp => fin_tup sm q (cut_rep ra) (Nat.le_trans (cutV_length _ _ _) la) p hp⟩
    have l1 := ra.length
    have : cutD xs lo hi = xs := by
      unfold cutD
      rw [← l1, z1, z2, List.drop_zero, Nat.sub_zero, l1, List.take_length]
    rw [this]
    exact .tup hga la ra
  · rename_i z e1
    have z1 := p1.str e1
    subst z1
    obtain ⟨c, e⟩ := M.chk_ok e
    cases e
    exact sl_str pins s σ H _ v vl vu lo hi sl Q I rx hs pl pu ⟨z, rfl, c, fin_d sm q (.str _)⟩
  · cases e
/-! ### built-in functions -/
abbrev PkA (K : Fr) (G H : Hp) : List V → List R → Prop := Paired (Pk K G H)
def rB (K : Fr) (g : List R → M R) : List V → Hp → VK → Prop := fun xs H Q => ∃ G rs r, Same G H ∧ PkA K G H xs rs ∧ g rs = .ok r ∧ ∀ v G' H', Ext G H G' H' → VOk K G' H' H v r → Q v H'
theorem CallR.by {f : Value} {r' : List V → Hp → VK → Prop} (i : ∀ xs H Q, r' xs H Q → ∃ r, CallR X f r ∧ r xs H Q) : CallR X f r' :=
  fun pins s σ H xs us Q I rv hr => by
    obtain ⟨r, h, q⟩ := i _ _ _ hr
    exact h pins s σ H xs us Q I rv q
def Blt.fn : Blt → Value
  | .len => .builtin "len" | .abs => .builtin "abs" | .max2 => .builtin "max" | .min2 => .builtin "min" | .max1 => .builtin "max" | .min1 => .builtin "min" | .sum => .builtin "sum"
  | .int => .type "int" | .str => .type "str" | .tuple => .type "tuple" | .list => .type "list"
theorem intsD_map : ∀ {ds : List D} {ns : List Int}, intsD ds = some ns → ds = ns.map PyData.int
  | [], ns, h => by cases h; rfl
  | d :: r, ns, h => by
    cases d with
    | int i =>
      simp only [intsD] at h
      cases q : intsD r with
      | none => rw [q] at h; cases h
      | some ms =>
        rw [q] at h
        cases h
        rw [intsD_map q]
        rfl
    | _ => cases h
theorem foldl_max : ∀ (r : List Int) (x : Int), (r.foldl max x = x ∨ r.foldl max x ∈ r) ∧ x ≤ r.foldl max x ∧ ∀ y ∈ r, y ≤ r.foldl max x
  | [], x => ⟨.inl rfl, Int.le_refl _, fun _ h => by cases h⟩
  | a :: r, x => by
    obtain ⟨h1, h2, h3⟩ := foldl_max r (max x a)
    rw [List.foldl_cons]
    refine ⟨?_, by omega, fun y hy => ?_⟩
    · rcases h1 with h1 | h1
      · rw [h1]
        rcases (show max x a = x ∨ max x a = a by omega) with q | q
        · exact .inl q
        · rw [q]; exact .inr List.mem_cons_self
      · exact .inr (List.mem_cons_of_mem _ h1)
    · rcases List.mem_cons.mp hy with rfl | hy
      · omega
      · exact h3 y hy
theorem foldl_min : ∀ (r : List Int) (x : Int), (r.foldl min x = x ∨ r.foldl min x ∈ r) ∧ r.foldl min x ≤ x ∧ ∀ y ∈ r, r.foldl min x ≤ y
  | [], x => ⟨.inl rfl, Int.le_refl _, fun _ h => by cases h⟩
  | a :: r, x => by
    obtain ⟨h1, h2, h3⟩ := foldl_min r (min x a)
    rw [List.foldl_cons]
    refine ⟨?_, by omega, fun y hy => ?_⟩
    · rcases h1 with h1 | h1
      · rw [h1]
        rcases (show min x a = x ∨ min x a = a by omega) with q | q
        · exact .inl q
        · rw [q]; exact .inr List.mem_cons_self
      · exact .inr (List.mem_cons_of_mem _ h1)
    · rcases List.mem_cons.mp hy with rfl | hy
      · omega
      · exact h3 y hy
theorem max_is {x m : Int} {r : List Int} (h : m ∈ x :: r) (b : ∀ y ∈ x :: r, y ≤ m) : m = r.foldl max x := by
  obtain ⟨h1, h2, h3⟩ := foldl_max r x
  have u : r.foldl max x ≤ m := by
    rcases h1 with h1 | h1
    · rw [h1]; exact b x List.mem_cons_self
    · exact b _ (List.mem_cons_of_mem _ h1)
  have l : m ≤ r.foldl max x := by
    rcases List.mem_cons.mp h with rfl | h
    · exact h2
    · exact h3 m h
  omega
theorem min_is {x m : Int} {r : List Int} (h : m ∈ x :: r) (b : ∀ y ∈ x :: r, m ≤ y) : m = r.foldl min x := by
  obtain ⟨h1, h2, h3⟩ := foldl_min r x
  have u : m ≤ r.foldl min x := by
    rcases h1 with h1 | h1
    · rw [h1]; exact b x List.mem_cons_self
    · exact b _ (List.mem_cons_of_mem _ h1)
  have l : r.foldl min x ≤ m := by
    rcases List.mem_cons.mp h with rfl | h
    · exact h2
    · exact h3 m h
  omega
theorem PkA.one {K : Fr} {G H : Hp} {xs : List V} {r : R} (h : PkA K G H xs [r]) : ∃ x, xs = [x] ∧ Pk K G H x r := by
  cases h with
  | cons h t => cases t; exact ⟨_, rfl, h⟩
theorem PkA.two {K : Fr} {G H : Hp} {xs : List V} {r s : R} (h : PkA K G H xs [r, s]) : ∃ x y, xs = [x, y] ∧ Pk K G H x r ∧ Pk K G H y s := by
  cases h with
  | cons h t =>
    cases t with
    | cons h' t' => cases t'; exact ⟨_, _, rfl, h, h'⟩
section
variable {X : Cx}
/-- max(t), min(t) of a tuple of ints -/
def rMaxT (K : Fr) : List V → Hp → VK → Prop := fun vs H Q => ∃ (a : Addr) (n : Int) (ns : List Int), vs = [V.ref a] ∧ SqT K H a ((n :: ns).map V.int) ∧ Q (.int (ns.foldl max n)) H
def rMinT (K : Fr) : List V → Hp → VK → Prop := fun vs H Q => ∃ (a : Addr) (n : Int) (ns : List Int), vs = [V.ref a] ∧ SqT K H a ((n :: ns).map V.int) ∧ Q (.int (ns.foldl min n)) H
theorem maxOf_int : ∀ (ns : List Int) (n : Int), PySem.W.maxOf n ns = ns.foldl max n
  | [], _ => rfl
  | m :: r, n => by
    have e : PySem.W.maxOf n (m :: r) = PySem.W.maxOf (if decide (n < m) = true then m else n) r := rfl
    have h : (if decide (n < m) = true then m else n) = max n m := by
      by_cases z : n < m
      · rw [if_pos (by simpa using z)]; omega
      · rw [if_neg (by simpa using z)]; omega
    rw [e, h, List.foldl_cons]
    exact maxOf_int r _
theorem minOf_int : ∀ (ns : List Int) (n : Int), PySem.W.minOf n ns = ns.foldl min n
  | [], _ => rfl
  | m :: r, n => by
    have e : PySem.W.minOf n (m :: r) = PySem.W.minOf (if decide (m < n) = true then m else n) r := rfl
    have h : (if decide (m < n) = true then m else n) = min n m := by
      by_cases z : m < n
      · rw [if_pos (by simpa using z)]; omega
      · rw [if_neg (by simpa using z)]; omega
    rw [e, h, List.foldl_cons]
    exact minOf_int r _
theorem holds_int_inv {h : Heap} {v : Value} {n : Int} (H : PySem.W.Holds h v n) : ∃ t, v = .int n t := by
  have q : PySem.W.HoldAll h [v] [n] := PySem.W.HoldAll.cons H PySem.W.HoldAll.nil
  have z := q.toInts
  cases z with
  | cons n t _ => exact ⟨_, rfl⟩
theorem cr_maxT (hc : X.calm = true) (hu : X.A.units + 64 < cLine) : CallR X (.builtin "max") (rMaxT X.K) := by
  intro pins s σ H vs us Q I r h
  obtain ⟨a, n, ns, rfl, hs, q⟩ := h
  obtain ⟨its, rv, hl, _⟩ := I.tuple hs
  rw [Vals.ref1 r]
  refine PySem.W.max_tuple_datum (α := Int) (I.ok.hd hc) hl (PySem.W.HoldAll.of_ints rv.ints) (by show X.A.units + 1 + 0 < cLine; omega) fun i v h' tk hi hv hk => ?_
  obtain ⟨t, rfl⟩ := holds_int_inv hv
  rw [maxOf_int]
  exact ⟨.int _, H, I.kept hk, ⟨_, rfl⟩, q⟩
theorem cr_minT (hc : X.calm = true) (hu : X.A.units + 64 < cLine) : CallR X (.builtin "min") (rMinT X.K) := by
  intro pins s σ H vs us Q I r h
  obtain ⟨a, n, ns, rfl, hs, q⟩ := h
  obtain ⟨its, rv, hl, _⟩ := I.tuple hs
  rw [Vals.ref1 r]
  refine PySem.W.min_tuple_datum (α := Int) (I.ok.hd hc) hl (PySem.W.HoldAll.of_ints rv.ints) (by show X.A.units + 1 + 0 < cLine; omega) fun i v h' tk hi hv hk => ?_
  obtain ⟨t, rfl⟩ := holds_int_inv hv
  rw [minOf_int]
  exact ⟨.int _, H, I.kept hk, ⟨_, rfl⟩, q⟩
end
theorem cr_blt {b : Blt} (hc : X.calm = true) (hu : X.A.units + 64 < cLine) : CallR X b.fn (rB X.K (bltD b)) := by
  refine CallR.by fun xs H Q h => ?_
  obtain ⟨G, rs, r, s, p, e, q⟩ := h
  unfold bltD at e
  split at e
  · -- len
    obtain ⟨x, rfl, p1⟩ := PkA.one p
    split at e
    · rename_i e1
      cases e
      obtain ⟨a, vs, rfl, ha, la, ra⟩ := p1.lst s e1
      refine ⟨_, call_len_seq, a, vs, rfl, .inl ha, ?_⟩
      rw [ra.length]
      exact fin_d s q (.int _)
    · rename_i e1
      cases e
      obtain ⟨a, vs, rfl, _, ha, la, ra⟩ := p1.tup s e1
      refine ⟨_, call_len_seq, a, vs, rfl, .inr ha, ?_⟩
      rw [ra.length]
      exact fin_d s q (.int _)
    · rename_i e1
      obtain ⟨c, e⟩ := M.chk_ok e
      cases e
      have z := p1.str e1
      subst z
      exact ⟨_, call_len_str, _, rfl, c, fin_d s q (.int _)⟩
    · cases e
  · -- abs
    obtain ⟨x, rfl, p1⟩ := PkA.one p
    split at e
    · rename_i e1
      cases e
      have z := p1.int e1
      subst z
      exact ⟨_, call_abs, _, rfl, fin_d s q (.int _)⟩
    · cases e
  · -- max2
    obtain ⟨x, y, rfl, p1, p2⟩ := PkA.two p
    split at e
    · rename_i e1 e2
      cases e
      have z := p1.int e1
      have z' := p2.int e2
      subst z z'
      exact ⟨_, call_max2 hc, _, _, rfl, fin_d s q (.int _)⟩
    · cases e
  · -- min2
    obtain ⟨x, y, rfl, p1, p2⟩ := PkA.two p
    split at e
    · rename_i e1 e2
      cases e
      have z := p1.int e1
      have z' := p2.int e2
      subst z z'
      exact ⟨_, call_min2 hc, _, _, rfl, fin_d s q (.int _)⟩
    · cases e
  · -- max1
    obtain ⟨x, rfl, p1⟩ := PkA.one p
    split at e
    · rename_i ds e1
      obtain ⟨a, vs, rfl, ha, la, ra⟩ := p1.lst s e1
      cases g : intsD ds with
      | none => rw [g] at e; cases e
      | some ns =>
        rw [g] at e
        have z := intsD_map g
        subst z
        have z := ra.ints
        subst z
        cases ns with
        | nil => cases e
        | cons n ns =>
          cases e
          exact ⟨_, cr_max hc, a, n :: ns, rfl, ha, by simp, fun m h1 h2 => by rw [max_is h1 h2]; exact fin_d s q (.int _)⟩
    · rename_i ds e1
      obtain ⟨a, vs, rfl, _, ha, la, ra⟩ := p1.tup s e1
      cases g : intsD ds with
      | none => rw [g] at e; cases e
      | some ns =>
        rw [g] at e
        have z := intsD_map g
        subst z
        have z := ra.ints
        subst z
        cases ns with
        | nil => cases e
        | cons n ns =>
          cases e
          exact ⟨_, cr_maxT hc hu, a, n, ns, rfl, ha, fin_d s q (.int _)⟩
    · cases e
  · -- min1
    obtain ⟨x, rfl, p1⟩ := PkA.one p
    split at e
    · rename_i ds e1
      obtain ⟨a, vs, rfl, ha, la, ra⟩ := p1.lst s e1
      cases g : intsD ds with
      | none => rw [g] at e; cases e
      | some ns =>
        rw [g] at e
        have z := intsD_map g
        subst z
        have z := ra.ints
        subst z
        cases ns with
        | nil => cases e
        | cons n ns =>
          cases e
          exact ⟨_, cr_min hc, a, n :: ns, rfl, ha, by simp, fun m h1 h2 => by rw [min_is h1 h2]; exact fin_d s q (.int _)⟩
    · rename_i ds e1
      obtain ⟨a, vs, rfl, _, ha, la, ra⟩ := p1.tup s e1
      cases g : intsD ds with
      | none => rw [g] at e; cases e
      | some ns =>
        rw [g] at e
        have z := intsD_map g
        subst z
        have z := ra.ints
        subst z
        cases ns with
        | nil => cases e
        | cons n ns =>
          cases e
          exact ⟨_, cr_minT hc hu, a, n, ns, rfl, ha, fin_d s q (.int _)⟩
    · cases e
  · -- sum
    obtain ⟨x, rfl, p1⟩ := PkA.one p
    split at e
    · rename_i ds e1
      obtain ⟨a, vs, rfl, ha, la, ra⟩ := p1.lst s e1
      cases g : intsD ds with
      | none => rw [g] at e; cases e
      | some ns =>
        rw [g] at e
        have z := intsD_map g
        subst z
        have z := ra.ints
        subst z
        cases e
        exact ⟨_, cr_sum hc, a, ns, rfl, ha, fin_d s q (.int _)⟩
    · cases e
  · -- int
    obtain ⟨x, rfl, p1⟩ := PkA.one p
    split at e
    · rename_i e1
      cases e
      have z := p1.int e1
      subst z
      exact ⟨_, call_int1, .inl ⟨_, rfl, fin_d s q (.int _)⟩⟩
    · rename_i e1
      cases e
      have z := p1.bool e1
      subst z
      exact ⟨_, call_int1, .inr ⟨_, rfl, fin_d s q (.int _)⟩⟩
    · rename_i e1
      obtain ⟨c, e⟩ := M.chk_ok e
      have z := p1.str e1
      subst z
      cases g : PySem.intText? _ with
      | none => rw [g] at e; cases e
      | some n =>
        rw [g] at e
        cases e
        exact ⟨_, call_int_str, _, n, rfl, g, c, fin_d s q (.int _)⟩
    · cases e
  · -- str
    obtain ⟨x, rfl, p1⟩ := PkA.one p
    split at e
    · rename_i e1
      obtain ⟨c, e⟩ := M.chk_ok e
      cases e
      have z := p1.int e1
      subst z
      exact ⟨_, call_str_int, _, rfl, c, fin_d s q (.str _)⟩
    · cases e
  · -- tuple
    obtain ⟨x, rfl, p1⟩ := PkA.one p
    split at e
    · rename_i e1
      cases e
      obtain ⟨a, vs, rfl, ha, la, ra⟩ := p1.lst s e1
      exact ⟨_, call_tuple_of, a, vs, rfl, .inl ⟨ha, fun l hl => fin_tup s q ra la l hl⟩⟩
    · rename_i e1
      cases e
      obtain ⟨a, vs, rfl, hga, ha, la, ra⟩ := p1.tup s e1
      exact ⟨_, call_tuple_of, a, vs, rfl, .inr ⟨ha, fin_d s q (.tup hga la ra)⟩⟩
    · cases e
  · -- list
    obtain ⟨x, rfl, p1⟩ := PkA.one p
    split at e
    · rename_i e1
      cases e
      obtain ⟨a, vs, rfl, ha, la, ra⟩ := p1.lst s e1
      exact ⟨_, call_list_of, a, vs, rfl, .inl ha, fun l hl => fin_own s q ra la l hl⟩
    · rename_i e1
      cases e
      obtain ⟨a, vs, rfl, hga, ha, la, ra⟩ := p1.tup s e1
      exact ⟨_, call_list_of, a, vs, rfl, .inr ha, fun l hl => fin_own s q ra la l hl⟩
    · cases e
  · cases e
/-! ### isinstance with a built-in class -/
/-! ### methods -/
def Mth.ty : Mth → String
  | .index => "list"
  | _ => "str"
def Mth.nm : Mth → Str
  | .ends => "endswith"
  | .split => "split"
  | .join => "join"
  | .index => "index"
def Mth.id : Mth → String
  | .ends => "str.endswith"
  | .split => "str.split"
  | .join => "str.join"
  | .index => "list.index"
def rM (K : Fr) (m : Mth) : V → List V → Hp → VK → Prop := fun x ys H Q => ∃ G r1 ds r, Same G H ∧ Pk K G H x r1 ∧ RepA K G ys ds ∧ mthD m r1 ds = .ok r ∧ ∀ v G' H', Ext G H G' H' → VOk K G' H' H v r → Q v H'
theorem MtR.by {id : String} {r' : V → List V → Hp → VK → Prop} (i : ∀ x xs H Q, r' x xs H Q → ∃ r, MtR X id r ∧ r x xs H Q) : MtR X id r' := by
  intro pins s σ H x xs v us Q I rx rxs h
  obtain ⟨r, hr, q⟩ := i _ _ _ _ h
  exact hr pins s σ H x xs v us Q I rx rxs q
theorem strsD_map : ∀ {ds : List D} {ys : List Str}, strsD ds = some ys → ds = ys.map PyData.str
  | [], ys, h => by cases h; rfl
  | d :: ds, ys, h => by
    cases d <;> first | (cases h; done) | skip
    rename_i x
    unfold strsD at h
    cases g : strsD ds with
    | none => rw [g] at h; cases h
    | some zs =>
      rw [g] at h
      cases h
      rw [strsD_map g]
      rfl
theorem RepA.strs {K : Fr} {G : Hp} : ∀ {vs : List V} {ys : List Str}, RepA K G vs (ys.map PyData.str) → vs = ys.map V.str
  | [], [], _ => rfl
  | _, [], h => by cases h; rfl
  | _, y :: ys, h => by
    cases h with
    | cons h t =>
      cases h
      rw [RepA.strs t]
      rfl
theorem RepA.of_strs {K : Fr} {G : Hp} : ∀ ys : List Str, RepA K G (ys.map V.str) (ys.map PyData.str)
  | [] => .nil
  | y :: ys => .cons (.str y) (RepA.of_strs ys)
theorem RepA.one {K : Fr} {G : Hp} {vs : List V} {d : D} (h : RepA K G vs [d]) : ∃ v, vs = [v] ∧ Rep K G v d := by
  cases h with
  | cons h t => cases t; exact ⟨_, rfl, h⟩
theorem mt_D {m : Mth} : MtR X m.id (rM X.K m) := by
  refine MtR.by fun x ys H Q h => ?_
  obtain ⟨G, r1, ds, r, s, p1, pa, e, q⟩ := h
  unfold mthD at e
  split at e
  · -- endswith
    obtain ⟨y, rfl, p2⟩ := pa.one
    cases p2
    split at e
    · rename_i a e1
      have z := p1.str e1
      subst z
      cases e
      exact ⟨_, mt_endswith, _, _, rfl, rfl, fin_d s q (.bl _)⟩
    · cases e
  · -- split
    obtain ⟨y, rfl, p2⟩ := pa.one
    cases p2
    split at e
    · rename_i a e1
      have z := p1.str e1
      subst z
      obtain ⟨⟨c1, c2, c3⟩, e⟩ := M.chk_ok e
      cases e
      exact ⟨_, mt_split, _, _, rfl, rfl, c1, c2, fun p hp => fin_own s q (RepA.of_strs _) (by rw [List.length_map]; exact c3) p hp⟩
    · cases e
  · -- join
    obtain ⟨y, rfl, p2⟩ := pa.one
    split at e
    · rename_i a e1
      have z := p1.str e1
      subst z
      cases g : strsD _ with
      | none => rw [g] at e; cases e
      | some zs =>
        rw [g] at e
        obtain ⟨c, e⟩ := M.chk_ok e
        cases e
        have z := strsD_map g
        subst z
        cases p2 with
        | lst h1 h2 h3 =>
          have z := h3.strs
          subst z
          exact ⟨_, mt_join, _, _, zs, rfl, rfl, .inl (s.seq h1), c, fin_d s q (.str _)⟩
    · cases e
  · -- index
    obtain ⟨y, rfl, p2⟩ := pa.one
    split at e
    · rename_i xs e1
      obtain ⟨⟨c1, c2⟩, e⟩ := M.chk_ok e
      obtain ⟨a, vs, rfl, ha, la, ra⟩ := p1.lst s e1
      cases g : xs.findIdx? _ with
      | none => rw [g] at e; cases e
      | some j =>
        rw [g] at e
        cases e
        obtain ⟨jl, j1, j2⟩ := List.findIdx?_eq_some_iff_getElem.mp g
        have gd : xs[j]? = some xs[j] := List.getElem?_eq_getElem jl
        obtain ⟨z, hz, rz⟩ := ra.get' gd
        have fl : ∀ d ∈ xs, flatD d = true := fun d hd => List.all_eq_true.mp c2 d hd
        refine ⟨_, mt_index, a, vs, y, j, z, rfl, rfl, ha, by rw [flat_of p2]; exact c1, by rw [all_flat ra]; exact c2, hz, by rw [eqV_of rz p2 (fl _ (List.getElem_mem jl)) c1]; exact j1, fun m z' hm hz' => ?_, fin_d s q (.int _)⟩
        obtain ⟨d', hd', rd'⟩ := ra.get hz'
        have ml : m < xs.length := by omega
        have ed : d' = xs[m] := by
          rw [List.getElem?_eq_getElem ml] at hd'
          exact (Option.some.inj hd').symm
        rw [eqV_of rd' p2 (fl _ (by rw [ed]; exact List.getElem_mem ml)) c1, ed]
        have := j2 m hm
        simpa using this
    · cases e
  · cases e
theorem mthD_ex {m : Mth} {r : R} {ds : List D} {c : Nat} : mthD m r ds ≠ .ex c := by
  intro h
  unfold mthD at h
  split at h
  · split at h <;> cases h
  · split at h
    · simp only [M.chk] at h; split at h <;> cases h
    · cases h
  · split at h
    · rename_i xs _ _ _
      cases g : strsD xs with
      | none => rw [g] at h; cases h
      | some zs => rw [g] at h; simp only [M.opt_some, M.bind_ok, M.chk] at h; split at h <;> cases h
    · cases h
  · split at h
    · rename_i d _ xs _
      simp only [M.chk] at h
      split at h
      · cases g : (xs.findIdx? fun z => PyData.eqv z d) with
        | none => rw [g] at h; cases h
        | some j => rw [g] at h; cases h
      · cases h
    · cases h
  · cases h
theorem kit_table : (∀ t : Ty, kitB "NoneType" t.name = some false) ∧ (∀ t : Ty, kitB "bool" t.name = some (match t with | .int => true | .bool => true | _ => false)) ∧ (∀ t : Ty, kitB "int" t.name = some (match t with | .int => true | _ => false)) ∧
    (∀ t : Ty, kitB "str" t.name = some (match t with | .str => true | _ => false)) ∧ (∀ t : Ty, kitB "list" t.name = some (match t with | .list => true | _ => false)) ∧ (∀ t : Ty, kitB "tuple" t.name = some (match t with | .tuple => true | _ => false)) ∧ (∀ t : Ty, kitB "dict" t.name = some false) := by
  refine ⟨?_, ?_, ?_, ?_, ?_, ?_, ?_⟩ <;> intro t <;> cases t <;> decide +kernel
def rIsT (K : Fr) (t : Ty) : List V → Hp → VK → Prop := fun xs H Q => ∃ G x r b, Same G H ∧ xs = [x, .ty t.name] ∧ Pk K G H x r ∧ isTy t r.toD = .ok b ∧ Q (.bl b) H
theorem cr_isT {t : Ty} : CallR X (.builtin "isinstance") (rIsT X.K t) := by
  refine CallR.by fun xs H Q h => ?_
  obtain ⟨G, x, r, b, s, rfl, p, e, q⟩ := h
  obtain ⟨t1, t2, t3, t4, t5, t6, t7⟩ := kit_table
  have go : ∀ {x : V} {n : String} {b : Bool}, TyX X.K H x (.type n) → kitB n t.name = some b → Q (.bl b) H → ∃ r, CallR X (.builtin "isinstance") r ∧ r [x, .ty t.name] H Q := fun {x n b} hx hk q =>
    ⟨_, call_isi, x, .ty t.name, _, _, b, rfl, .ty _, hx, kit_ty hk, q⟩
  cases r with
  | o ds =>
    obtain ⟨a, xs, z, h1, h2, h3⟩ := p
    subst z
    cases e
    exact go (.base (.lst h1)) (t5 t) q
  | d y =>
    cases (show Rep X.K G x y from p) with
    | non => cases e; exact go (.base .non) (t1 t) q
    | bl c => cases e; exact go (.base (.bl c)) (t2 t) q
    | int i => cases e; exact go (.base (.int i)) (t3 t) q
    | str z => cases e; exact go (.base (.str z)) (t4 t) q
    | lst h1 h2 h3 =>
      cases e
      rcases s.seq h1 with (h1 | ⟨o, h1⟩) | ⟨o, its, n, h1, h2, _⟩
      · exact go (.base (.lst h1)) (t5 t) q
      · exact go (.base (.frz h1)) (t5 t) q
      · exact go (.kList h1 h2) (t5 t) q
    | tup h1 h2 h3 =>
      cases e
      rcases sqT_same s h1 with (h1 | ⟨o, h1⟩) | ⟨o, its, n, h1, h2, _⟩
      · exact go (.base (.tup h1)) (t6 t) q
      · exact go (.fTuple h1) (t6 t) q
      · exact go (.kTuple h1 h2) (t6 t) q
    | emp h1 =>
      cases e
      exact go (.base (.dK (s _ _ h1))) (t7 t) q
end
end PF

end

section
/-! PF3: slots and what stands at them; readings told on data. -/
namespace PF
open PySem PySem.Spec PyProof.Rows L2

/-! ### dicts whose keys are tuples, raw -/
/-- a dict's entries: keys, where their tuples stand, values -/
abbrev DRaw := List (NestedKey × Addr × V)
abbrev DVals : DRaw → List (NestedKey × Addr × Value) → Prop := Paired fun p q => p.1 = q.1 ∧ p.2.1 = q.2.1 ∧ RelV p.2.2 q.2.2
def dctP (P : Program) (w : World) (a : Addr) (xs : DRaw) (h : Heap) : Prop :=
  (a == sysModules) = false ∧ ∃ ys, DVals xs ys ∧ ∃ o es ep, h.get? a = some o ∧ o.ExactDict ∧ o.data = .dict es ep ∧ es.toList = ys.map (entryOfKey (nestedKind P w)) ∧ (ys.map (·.1)).Nodup
def DctO (P : Program) (w : World) (a : Addr) (xs : DRaw) : HO := .ext (dctP P w a xs)
/-- its keys and values, as data -/
abbrev DRep (K : Fr) (G : Hp) : DRaw → List (NestedKey × D) → Prop := Paired fun p q => p.1 = q.1 ∧ (∃ d, Rep K G (.ref p.2.1) d ∧ keyT d = some p.1) ∧ Rep K G p.2.2 q.2
theorem DRep.mono {K : Fr} {G G' : Hp} {xs : DRaw} {kvs : List (NestedKey × D)} (s : Same G G') (h : DRep K G xs kvs) : DRep K G' xs kvs :=
  Paired.mapP h fun _ _ ⟨e, ⟨d, r, q⟩, v⟩ => ⟨e, ⟨d, r.mono s, q⟩, v.mono s⟩
/-- K the written part; cV the raised classes; G0, H0 the heaps at the def's entry; xa what an except suite handles -/
structure Cfg where
  P : Program
  w : World
  K : Fr
  cV : Nat → Value
  G0 : Hp
  H0 : Hp
  xa : Option (Addr × Nat)
inductive SlOk (C : Cfg) (G H : Hp) : Option V → Sl → Prop
  | no (o : Option V) : SlOk C G H o .no
  | val {v : V} {d : D} : Rep C.K G v d → SlOk C G H (some v) (.val d)
  | own {a : Addr} {xs : List V} {ds : List D} : H a = some (.lst xs) → xs.length ≤ sizeLine → RepA C.K G xs ds → G a = none → C.H0 a = none → SlOk C G H (some (.ref a)) (.own ds)
  | exc {a : Addr} {c : Nat} : C.xa = some (a, c) → SlOk C G H (some (.ref a)) (.exc c)
  | dct {a : Addr} {xs : DRaw} {kvs : List (NestedKey × D)} : H a = some (DctO C.P C.w a xs) → xs.length ≤ sizeLine → DRep C.K G xs kvs → G a = none → C.H0 a = none → SlOk C G H (some (.ref a)) (.dct kvs)
def Sl.isOwn : Sl → Bool
  | .own _ => true
  | .dct _ => true
  | _ => false
structure St (C : Cfg) (σ : L2.St) (ρ : PF.Env) (G H : Hp) : Prop where
  len : σ.length = ρ.length
  ext : Ext C.G0 C.H0 G H
  slot : ∀ (i : Nat) (o : Option V) (s : Sl), σ[i]? = some o → ρ[i]? = some s → SlOk C G H o s
  dist : ∀ (i j : Nat) (s t : Sl) (a : Addr), i ≠ j → ρ[i]? = some s → ρ[j]? = some t → s.isOwn = true → t.isOwn = true → σ[i]? = some (some (.ref a)) → σ[j]? = some (some (.ref a)) → False
section
variable {C : Cfg} {G H G' H' : Hp} {σ : L2.St} {ρ : PF.Env}
theorem SlOk.mono {o : Option V} {s : Sl} (h : SlOk C G H o s) (e : Ext G H G' H') : SlOk C G' H' o s := by
  cases h with
  | no => exact .no _
  | val h => exact .val (h.mono e.gg)
  | own h1 h2 h3 h4 h5 => exact .own (e.hh _ _ h1) h2 (h3.mono e.gg) (e.nw _ h4 (by rw [h1]; simp)) h5
  | exc h => exact .exc h
  | dct h1 h2 h3 h4 h5 => exact .dct (e.hh _ _ h1) h2 (h3.mono e.gg) (e.nw _ h4 (by rw [h1]; simp)) h5
theorem St.mono (h : St C σ ρ G H) (e : Ext G H G' H') : St C σ ρ G' H' := ⟨h.len, h.ext.trans e, fun i o s h1 h2 => (h.slot i o s h1 h2).mono e, h.dist⟩
theorem St.same (h : St C σ ρ G H) : Same G H := h.ext.gh
theorem St.at (h : St C σ ρ G H) {i : Nat} {s : Sl} (e : ρ.getD i .no = s) (ne : s ≠ .no) : ∃ o, σ[i]? = some o ∧ ρ[i]? = some s ∧ SlOk C G H o s := by
  rw [List.getD_eq_getElem?_getD] at e
  cases q : ρ[i]? with
  | none => rw [q] at e; exact absurd e.symm ne
  | some t =>
    rw [q] at e
    have e' : t = s := e
    subst e'
    have hi : i < σ.length := by rw [h.len]; exact (List.getElem?_eq_some_iff.mp q).1
    exact ⟨σ[i], List.getElem?_eq_getElem hi, rfl, h.slot i _ _ (List.getElem?_eq_getElem hi) q⟩
/-- a name's value -/
theorem St.getV (h : St C σ ρ G H) {i : Nat} {r : R} (e : PF.getV ρ i = .ok r) : ∃ v, σ[i]? = some (some v) ∧ ∀ Hb, VOk C.K G H Hb v r := by
  unfold PF.getV at e
  split at e
  · rename_i d e1
    cases e
    obtain ⟨o, h1, _, h2⟩ := h.at e1 (by simp)
    cases h2 with
    | val h2 => exact ⟨_, h1, fun _ => h2⟩
  · cases e
theorem St.getP (h : St C σ ρ G H) {i : Nat} {r : R} (e : PF.getP ρ i = .ok r) : ∃ v, σ[i]? = some (some v) ∧ Pk C.K G H v r := by
  unfold PF.getP at e
  split at e
  · rename_i d e1
    cases e
    obtain ⟨o, h1, _, h2⟩ := h.at e1 (by simp)
    cases h2 with
    | val h2 => exact ⟨_, h1, h2⟩
  · rename_i d e1
    cases e
    obtain ⟨o, h1, _, h2⟩ := h.at e1 (by simp)
    cases h2 with
    | own a1 a2 a3 a4 a5 => exact ⟨_, h1, _, _, rfl, a1, a2, a3⟩
  · cases e
theorem noEx_getV {i : Nat} {c : Nat} : PF.getV ρ i ≠ .ex c := by unfold PF.getV; split <;> simp
theorem noEx_getP {i : Nat} {c : Nat} : PF.getP ρ i ≠ .ex c := by unfold PF.getP; split <;> simp
/-- a slot takes a value -/
theorem St.set (h : St C σ ρ G H) {i : Nat} {v : V} {d : D} (r : Rep C.K G v d) : St C (σ.set i (some v)) (ρ.set i (.val d)) G H := by
  refine ⟨by simp [h.len], h.ext, fun j o s h1 h2 => ?_, fun j k s t a hjk h1 h2 h3 h4 h5 h6 => ?_⟩
  · by_cases hj : i = j
    · subst hj
      rw [List.getElem?_set] at h1 h2
      by_cases hi : i < σ.length
      · rw [if_pos rfl, if_pos hi] at h1
        rw [if_pos rfl, if_pos (by rw [← h.len]; exact hi)] at h2
        cases h1; cases h2
        exact .val r
      · rw [if_pos rfl, if_neg hi] at h1; cases h1
    · rw [List.getElem?_set_ne hj] at h1 h2
      exact h.slot j o s h1 h2
  · have ne : ∀ {k s}, (ρ.set i (.val d))[k]? = some s → s.isOwn = true → i ≠ k := fun {k s} e f z => by
      subst z
      rw [List.getElem?_set] at e
      by_cases hi : i < ρ.length
      · rw [if_pos rfl, if_pos hi] at e; cases e; cases f
      · rw [if_pos rfl, if_neg hi] at e; cases e
    have n1 := ne h1 h3
    have n2 := ne h2 h4
    rw [List.getElem?_set_ne n1] at h1 h5
    rw [List.getElem?_set_ne n2] at h2 h6
    exact h.dist j k s t a hjk h1 h2 h3 h4 h5 h6
/-- a slot takes a new list -/
theorem St.setOwn {Hb : Hp} (h : St C σ ρ G H) (hb : St C σ ρ G' Hb) {i : Nat} {v : V} {ds : List D} (r : VOk C.K G H Hb v (.o ds)) (sm : Same Hb H) : St C (σ.set i (some v)) (ρ.set i (.own ds)) G H := by
  obtain ⟨a, xs, rfl, r1, r2, r3, r4, r5⟩ := r
  have new : ∀ (j : Nat) (t : Sl), ρ[j]? = some t → t.isOwn = true → σ[j]? = some (some (.ref a)) → False := fun j t h1 h2 h3 => by
    have q := hb.slot j _ _ h3 h1
    cases q with
    | own a1 _ _ _ _ => rw [r4] at a1; cases a1
    | dct a1 _ _ _ _ => rw [r4] at a1; cases a1
    | _ => cases h2
  refine ⟨by simp [h.len], h.ext, fun j o s h1 h2 => ?_, fun j k s t b hjk h1 h2 h3 h4 h5 h6 => ?_⟩
  · by_cases hj : i = j
    · subst hj
      rw [List.getElem?_set] at h1 h2
      by_cases hi : i < σ.length
      · rw [if_pos rfl, if_pos hi] at h1
        rw [if_pos rfl, if_pos (by rw [← h.len]; exact hi)] at h2
        cases h1; cases h2
        exact .own r1 r2 r3 r5 (hb.ext.hh.free r4)
      · rw [if_pos rfl, if_neg hi] at h1; cases h1
    · rw [List.getElem?_set_ne hj] at h1 h2
      exact h.slot j o s h1 h2
  · have old : ∀ {k s b}, (ρ.set i (.own ds))[k]? = some s → s.isOwn = true → (σ.set i (some (.ref a)))[k]? = some (some (.ref b)) → (k = i ∧ b = a) ∨ (k ≠ i ∧ ρ[k]? = some s ∧ σ[k]? = some (some (.ref b))) := fun {k s b} e f g => by
      by_cases z : k = i
      · subst z
        rw [List.getElem?_set] at g
        by_cases hi : k < σ.length
        · rw [if_pos rfl, if_pos hi] at g; cases g; exact .inl ⟨rfl, rfl⟩
        · rw [if_pos rfl, if_neg hi] at g; cases g
      · rw [List.getElem?_set_ne (Ne.symm z)] at e g
        exact .inr ⟨z, e, g⟩
    rcases old h1 h3 h5 with ⟨e1, e2⟩ | ⟨e1, e2, e3⟩
    · rcases old h2 h4 h6 with ⟨f1, f2⟩ | ⟨f1, f2, f3⟩
      · exact hjk (e1.trans f1.symm)
      · subst e2; exact new _ _ f2 h4 f3
    · rcases old h2 h4 h6 with ⟨f1, f2⟩ | ⟨f1, f2, f3⟩
      · subst f2; exact new _ _ e2 h3 e3
      · exact h.dist j k s t b hjk e2 f2 h3 h4 e3 f3
theorem St.wipe1 (h : St C σ ρ G H) (i : Nat) : St C (σ.set i none) (ρ.set i .no) G H := by
  refine ⟨by simp [h.len], h.ext, fun j o s h1 h2 => ?_, fun j k s t a hjk h1 h2 h3 h4 h5 h6 => ?_⟩
  · by_cases hj : i = j
    · subst hj
      rw [List.getElem?_set] at h2
      by_cases hi : i < ρ.length
      · rw [if_pos rfl, if_pos hi] at h2; cases h2; exact .no _
      · rw [if_pos rfl, if_neg hi] at h2; cases h2
    · rw [List.getElem?_set_ne hj] at h1 h2
      exact h.slot j o s h1 h2
  · have ne : ∀ {k s}, (ρ.set i .no)[k]? = some s → s.isOwn = true → i ≠ k := fun {k s} e f z => by
      subst z
      rw [List.getElem?_set] at e
      by_cases hi : i < ρ.length
      · rw [if_pos rfl, if_pos hi] at e; cases e; cases f
      · rw [if_pos rfl, if_neg hi] at e; cases e
    have n1 := ne h1 h3
    have n2 := ne h2 h4
    rw [List.getElem?_set_ne n1] at h1 h5
    rw [List.getElem?_set_ne n2] at h2 h6
    exact h.dist j k s t a hjk h1 h2 h3 h4 h5 h6
theorem St.wipe (h : St C σ ρ G H) : ∀ vs : List Nat, St C (L2.wipe σ vs) (wipeE ρ vs) G H
  | [] => h
  | v :: vs => by
    unfold L2.wipe wipeE
    exact (St.wipe h vs).wipe1 v
end

/-! ### readings -/
section
variable {α β γ δ : Type}
/-- what follows of a result -/
def Fin (C : Cfg) (W : WX) (ok : Hp → Hp → Hp → β → α → Prop) (Hb : Hp) (σ : L2.St) (m : M α) (G H : Hp) (Q : β → Hp → Prop) : Prop := match m with
  | .no => False
  | .ex c => ∀ G' H', Ext G H G' H' → W (C.cV c) none σ H'
  | .ok a => ∀ b G' H', Ext G H G' H' → ok G' H' Hb b a → Q b H'
/-- f of the slots -/
def T (C : Cfg) (W : WX) (ok : Hp → Hp → Hp → β → α → Prop) (f : PF.Env → M α) : L2.St → Hp → (β → Hp → Prop) → Prop := fun σ H Q => ∃ G ρ, St C σ ρ G H ∧ Fin C W ok H σ (f ρ) G H Q
variable {C : Cfg} {W : WX} {ok1 : Hp → Hp → Hp → β → α → Prop} {ok2 : Hp → Hp → Hp → δ → γ → Prop} {σ : L2.St} {ρ : PF.Env} {G H Hb : Hp}
theorem Fin.bind {m : M α} {g : α → M γ} {Q : δ → Hp → Prop} {R : β → Hp → Prop} (h : Fin C W ok2 Hb σ (m.bind g) G H Q)
    (k : ∀ b a G1 H1, Ext G H G1 H1 → ok1 G1 H1 H b a → Fin C W ok2 Hb σ (g a) G1 H1 Q → R b H1) : Fin C W ok1 H σ m G H R := by
  cases m with
  | no => exact h
  | ex c => exact h
  | ok a =>
    intro b G1 H1 e o
    refine k b a G1 H1 e o ?_
    cases q : g a with
    | no => rw [M.bind_ok, q] at h; exact h
    | ex c => rw [M.bind_ok, q] at h; intro G2 H2 e2; exact h G2 H2 (e.trans e2)
    | ok c => rw [M.bind_ok, q] at h; intro d G2 H2 e2 o2; exact h d G2 H2 (e.trans e2) o2
theorem T.bind {f : PF.Env → M α} {g : α → M γ} {Q : δ → Hp → Prop} {R : β → Hp → Prop} (st : St C σ ρ G H) (h : Fin C W ok2 Hb σ ((f ρ).bind g) G H Q)
    (k : ∀ b a G1 H1, Ext G H G1 H1 → ok1 G1 H1 H b a → St C σ ρ G1 H1 → Fin C W ok2 Hb σ (g a) G1 H1 Q → R b H1) : T C W ok1 f σ H R :=
  ⟨G, ρ, st, h.bind fun b a G1 H1 e o fin => k b a G1 H1 e o (st.mono e) fin⟩
end
abbrev okR (K : Fr) : Hp → Hp → Hp → V → R → Prop := fun G H Hb v r => VOk K G H Hb v r
abbrev okP (K : Fr) : Hp → Hp → Hp → V → R → Prop := fun G H _ v r => Pk K G H v r
abbrev okD (K : Fr) : Hp → Hp → Hp → V → D → Prop := fun G _ _ v d => Rep K G v d
abbrev okB : Hp → Hp → Hp → Bool → Bool → Prop := fun _ _ _ b a => b = a
abbrev okA (K : Fr) : Hp → Hp → Hp → List V → List D → Prop := fun G _ _ vs ds => RepA K G vs ds
abbrev okPA (K : Fr) : Hp → Hp → Hp → List V → List R → Prop := fun G H _ vs rs => PkA K G H vs rs
section
variable {C : Cfg} {W : WX} {σ : L2.St} {ρ : PF.Env} {G H Hb : Hp}
/-- a result is frozen as it comes -/
theorem frz_res {K : Fr} {G H G1 H1 : Hp} {v : V} {r : R} (e : Ext G H G1 H1) (o : VOk K G1 H1 H v r) : ∃ G2, Ext G H G2 H1 ∧ Same G1 G2 ∧ Rep K G2 v r.toD := by
  cases r with
  | d x => exact ⟨G1, e, Same.refl _, o⟩
  | o ds =>
    obtain ⟨a, xs, rfl, h1, h2, h3, h4, h5⟩ := o
    exact ⟨upd G1 a (.lst xs), e.frz h4 h5 h1, same_upd h5, .lst (.inl (.inl upd_same)) h2 (h3.mono (same_upd h5))⟩
theorem T.toD {f : PF.Env → M R} {Q : VK} (h : T C W (okD C.K) (fun ρ => (f ρ).toD) σ H Q) : T C W (okR C.K) f σ H Q := by
  obtain ⟨G, ρ, st, fin⟩ := h
  replace fin : Fin C W (okD C.K) H σ ((f ρ).toD) G H Q := fin
  refine ⟨G, ρ, st, ?_⟩
  cases q : f ρ with
  | no => rw [q] at fin; exact fin
  | ex c => rw [q] at fin; exact fin
  | ok r =>
    rw [q] at fin
    intro v G1 H1 e o
    obtain ⟨G2, e2, _, rp⟩ := frz_res e o
    exact fin v G2 H1 e2 rp
theorem T.toP {f : PF.Env → M R} {Q : VK} (h : T C W (okP C.K) f σ H Q) : T C W (okR C.K) f σ H Q := by
  obtain ⟨G, ρ, st, fin⟩ := h
  refine ⟨G, ρ, st, ?_⟩
  cases q : f ρ with
  | no => rw [q] at fin; exact fin
  | ex c => rw [q] at fin; exact fin
  | ok r => rw [q] at fin; exact fun v G1 H1 e o => fin v G1 H1 e o.pk
/-- the end: a value that is there -/
theorem Fin.here {α β : Type} {ok : Hp → Hp → Hp → β → α → Prop} {m : M α} {Q : β → Hp → Prop} {a : α} (h : Fin C W ok Hb σ m G H Q) (e : m = .ok a) (s : Same G H) {b : β} (o : ok G H Hb b a) : Q b H := by
  subst e
  exact h b G H (Ext.refl s) o
end
section
variable {X : Cx} {e a b : Expr}
theorem PE.imp {t t' : TE} (h : PE X e t) (i : ∀ σ H Q, t' σ H Q → t σ H Q) : PE X e t' := ⟨fun pins s σ H Q I q => h.run pins s σ H Q I (i σ H Q q)⟩
theorem PT.imp {t t' : TT} (h : PT X e t) (i : ∀ σ H Q, t' σ H Q → t σ H Q) : PT X e t' := ⟨fun pins s σ H Q I q => h.run pins s σ H Q I (i σ H Q q)⟩
theorem PW.imp {t t' : TT} (h : PW X e t) (i : ∀ σ H Q, t' σ H Q → t σ H Q) : PW X e t' := ⟨fun wh pins s σ H Q I q => h.run wh pins s σ H Q I (i σ H Q q)⟩
theorem PA.imp {es : List Expr} {t t' : TA} (h : PA X es t) (i : ∀ σ H Q, t' σ H Q → t σ H Q) : PA X es t' := ⟨fun pos pins s σ H Q I q => h.run pos pins s σ H Q I (i σ H Q q)⟩
theorem PS.imp {st : Stmt} {t t' : TS} (h : PS X st t) (i : ∀ D σ H, t' D σ H → t D σ H) : PS X st t' := ⟨fun pins s σ H D I q => h.run pins s σ H D I (i D σ H q)⟩
theorem PSs.imp {st : List Stmt} {t t' : TS} (h : PSs X st t) (i : ∀ D σ H, t' D σ H → t D σ H) : PSs X st t' := ⟨fun pins s σ H D I q => h.run pins s σ H D I (i D σ H q)⟩
theorem PG.imp {tg : Expr} {t t' : TG} (h : PG X tg t) (i : ∀ v σ H Q, t' v σ H Q → t v σ H Q) : PG X tg t' := ⟨fun pins s σ H v u Q I r q => h.run pins s σ H v u Q I r (i v σ H Q q)⟩
theorem PGs.imp {tg : List Expr} {t t' : TGs} (h : PGs X tg t) (i : ∀ v σ H Q, t' v σ H Q → t v σ H Q) : PGs X tg t' := ⟨fun pins s σ H v u Q I r q => h.run pins s σ H v u Q I r (i v σ H Q q)⟩
theorem PI.imp {tg it : Expr} {t t' : TI} (h : PI X tg it t) (i : ∀ σ H R, t' σ H R → t σ H R) : PI X tg it t' := ⟨fun pins s σ H R I q => h.run pins s σ H R I (i σ H R q)⟩
theorem PTs.imp {es : List Expr} {t t' : TT} (h : PTs X es t) (i : ∀ σ H Q, t' σ H Q → t σ H Q) : PTs X es t' := ⟨fun pins s σ H Q I q => h.run pins s σ H Q I (i σ H Q q)⟩
/-- by the ways of a reading -/
theorem PE.by {t' : TE} (i : ∀ σ H Q, t' σ H Q → ∃ t, PE X e t ∧ t σ H Q) : PE X e t' := ⟨fun pins s σ H Q I q => by
  obtain ⟨t, h, q⟩ := i σ H Q q
  exact h.run pins s σ H Q I q⟩
end
/-! ### operations raise nothing of themselves -/
theorem binI_ex {op : Operator} {i j : Int} {c : Nat} : binI op i j ≠ .ex c := by
  cases op <;> simp only [binI, M.chk] <;> (try split) <;> simp
theorem binD_ex {op : Operator} {a b : R} {c : Nat} : binD op a b ≠ .ex c := by
  unfold binD
  split
  · exact binI_ex
  all_goals (first | (cases op <;> simp only [M.chk] <;> (try split) <;> simp; done) | (cases op <;> cases a <;> simp only [M.chk] <;> (try split) <;> simp; done) | simp)
theorem negD_ex {a : R} {c : Nat} : negD a ≠ .ex c := by unfold negD; split <;> simp
theorem signD_ex {neg : Bool} {a : R} {z : Str} {c : Nat} : signD neg a z ≠ .ex c := by
  unfold signD boolR
  repeat' split
  all_goals simp
theorem cmpD_ex {op : CmpOp} {a b : R} {c : Nat} : cmpD op a b ≠ .ex c := by
  cases op <;> simp only [cmpD, M.chk, boolR] <;> (repeat' split) <;> first | exact signD_ex | simp
theorem truthy_ex {a : R} {c : Nat} : truthy a ≠ .ex c := by
  unfold truthy M.chk
  repeat' split
  all_goals simp
theorem opt_ex {α : Type} {o : Option α} {c : Nat} : M.opt o ≠ .ex c := by cases o <;> simp [M.opt]
theorem ixD_ex {a b : R} {c : Nat} : ixD a b ≠ .ex c := by
  unfold ixD
  split
  · rename_i xs k _ _
    cases atI xs k <;> simp [M.opt]
  · rename_i xs k _ _
    cases atI xs k <;> simp [M.opt]
  · rename_i z k _ _
    simp only [M.chk]
    split
    · cases atI z.cps.toList k <;> simp [M.opt]
    · simp
  · simp
theorem slD_ex {a : R} {l h : Option Int} {c : Nat} : slD a l h ≠ .ex c := by
  unfold slD
  split
  · simp
  · simp
  · simp only [M.chk]; split <;> simp
  · simp
theorem partD_ex {d : D} {c : Nat} : partD d ≠ .ex c := by unfold partD; split <;> simp
theorem isTy_ex {t : Ty} {d : D} {c : Nat} : isTy t d ≠ .ex c := by unfold isTy; split <;> simp
theorem maxI_ex {l : List Int} {c : Nat} : maxI l ≠ .ex c := by cases l <;> simp [maxI]
theorem minI_ex {l : List Int} {c : Nat} : minI l ≠ .ex c := by cases l <;> simp [minI]
theorem bltD_ex {b : Blt} {rs : List R} {c : Nat} : bltD b rs ≠ .ex c := by
  unfold bltD
  repeat' split
  all_goals first
    | (simp; done)
    | (simp only [M.chk]; split <;> simp; done)
    | skip
  all_goals first
    | (rename_i x _; simp only [M.chk]; split <;> first | (cases PySem.intText? x <;> simp [M.opt]; done) | simp)
    | skip
  all_goals (rename_i xs _; cases intsD xs <;> first | (simp [M.opt]; done) | (simp only [M.opt, M.bind_ok]; first | exact maxI_ex | exact minI_ex | simp))
theorem okOf {α : Type} {m : M α} (h1 : m ≠ .no) (h2 : ∀ c, m ≠ .ex c) : ∃ a, m = .ok a := by
  cases m with
  | ok a => exact ⟨a, rfl⟩
  | ex c => exact absurd rfl (h2 c)
  | no => exact absurd rfl h1
section
variable {α β : Type} {C : Cfg} {W : WX} {ok : Hp → Hp → Hp → β → α → Prop} {σ : L2.St} {G H Hb : Hp} {m : M α} {Q : β → Hp → Prop}
theorem Fin.okE (h : Fin C W ok Hb σ m G H Q) (ne : ∀ c, m ≠ .ex c) : ∃ a, m = .ok a ∧ ∀ b G' H', Ext G H G' H' → ok G' H' Hb b a → Q b H' := by
  cases m with
  | no => exact h.elim
  | ex c => exact absurd rfl (ne c)
  | ok a => exact ⟨a, rfl, h⟩
end
end PF

end

section
/-! PFit: enumerate and zip of lists and tuples in any mix, as walks. -/
namespace PySem
open Sem (wp)
set_option maxHeartbeats 1000000 in
theorem meets_enumerate_newB1 {v : Value} {o : Obj} {H : Heap → Prop} (B : Begins v o H) :
    Meets (Builtin.«enumerate.__new__» ⟨[.type "enumerate", v], []⟩) (fun _ R s => H s.heap ∧
      R (.ok (.ret (.ref (s.heap.push o).objs.size))) { s with heap := (s.heap.push o).push { cls := .type "enumerate", data := .fields #[.none, .bool false, .ref s.heap.objs.size, rawInt 0, .none, .none] } }) :=
  .of_wp fun prog w A R s h => by
    obtain ⟨hp, g, d, tk, os⟩ := s; obtain ⟨h1, h⟩ := h
    have hsub := sub_enumerate
    have q1 : ∀ {A' : Around} {E : Value → Shared → Prop} {Q : Value → Shared → Prop}, Q (.ref hp.objs.size) ⟨hp.push o, g, d, tk, os⟩ → wpAny (model prog w) A' (pyIter v) Q E ⟨hp, g, d, tk, os⟩ :=
      fun q => B.iter prog w _ _ ⟨hp, g, d, tk, os⟩ _ h1 q
    wp_walk using q1
    refine wpAny_stack_any fun st => wpAny_pure ?_
    split
    · rename_i c _ _ _ _ _
      cases (c == Value.type "enumerate")
      · wp_walk using q1
        exact ⟨_, rfl, h⟩
      · wp_walk using q1
        exact ⟨_, rfl, h⟩
    · wp_walk using q1
      exact ⟨_, rfl, h⟩
theorem enum_begins1 {prog : Program} {w : World} {A : Around} {E : Value → Shared → Prop} {s : Shared} {v : Value} {o : Obj} {H : Heap → Prop} {Q : Value → Shared → Prop} (B : Begins v o H) (h1 : H s.heap)
    (h : ∀ h', IsEnum h' (s.heap.objs.size + 1) s.heap.objs.size 0 .none → h'.get? s.heap.objs.size = some o → h'.objs.size = s.heap.objs.size + 2 →
      (∀ b o, s.heap.get? b = some o → h'.get? b = some o) → Q (.ref (s.heap.objs.size + 1)) { s with heap := h' }) :
    wpAny (model prog w) A (call (.type "enumerate") [v]) Q E s := by
  refine callType_new F.called_enumerate (by decide) (F.typeCall_enumerate_1 _) (F.newCall_enumerate_1 _) (fun obj => F.args_object_init_2 obj _) F.entry_enumerate_new
    (meets_enumerate_newB1 B) ⟨h1, ?_⟩
  have hz : (s.heap.push o).objs.size = s.heap.objs.size + 1 := Heap.size_push ..
  show _ ∧ _
  rw [hz]
  have he : IsEnum ((s.heap.push o).push { cls := .type "enumerate", data := .fields #[.none, .bool false, .ref s.heap.objs.size, rawInt 0, .none, .none] }) (s.heap.objs.size + 1) s.heap.objs.size 0 .none := by
    have := Heap.get?_push_size (s.heap.push o) (o := { cls := .type "enumerate", data := .fields #[.none, .bool false, .ref s.heap.objs.size, rawInt 0, .none, .none] }) rfl
    rw [hz] at this; exact this
  refine ⟨⟨_, he, rfl⟩, h _ he (Heap.get?_push_of_some _ (Heap.get?_push_size _ B.free)) (by rw [Heap.size_push, hz]) fun b o x => Heap.get?_push_of_some _ (Heap.get?_push_of_some _ x)⟩
end PySem
namespace PF
open PySem PySem.Spec PyProof.Rows L2

/-- a list (false) or a tuple (true) that is read -/
def Sq (K : Fr) (tp : Bool) (H : Hp) (a : Addr) (xs : List V) : Prop := if tp then SqT K H a xs else SqL K H a xs
def HSq (tp : Bool) (h : Heap) (a : Addr) (its : Array Value) : Prop := if tp then h.IsTuple a its else h.IsList a its
def ISq (tp : Bool) (h : Heap) (it a : Addr) (i : Nat) : Prop := if tp then h.IsTupleIter it a i else h.IsListIter it a i
def iterO (tp : Bool) (a : Addr) : Obj := { cls := .type (if tp then "tuple_iterator" else "list_iterator"), data := .fields #[.ref a, .int 0 0] }
section
variable {X : Cx} {pins : List (Addr × Obj)} {σ : L2.St} {H : Hp} {s : Shared} {a : Addr} {xs ys : List V} {tp : Bool}
theorem Sq.read (I : Inv X pins σ H s) (h : Sq X.K tp H a xs) : ∃ its : List Value, Vals xs its ∧ HSq tp s.heap a its.toArray ∧ xs.length ≤ sizeLine := by
  cases tp with
  | true =>
    obtain ⟨its, r, p, z⟩ := I.tuple (show SqT X.K H a xs from h)
    exact ⟨its, r, p, z⟩
  | false =>
    obtain ⟨its, r, p, z⟩ := I.list (show SqL X.K H a xs from h)
    exact ⟨its, r, p.isList, z⟩
theorem Sq.inj (I : Inv X pins σ H s) (h : Sq X.K tp H a xs) (h' : Sq X.K tp H a ys) : xs = ys := by
  cases tp with
  | true => exact I.tuple_inj (show SqT X.K H a xs from h) (show SqT X.K H a ys from h')
  | false => exact I.list_inj (show SqL X.K H a xs from h) (show SqL X.K H a ys from h')
theorem sq_begins (tp : Bool) (a : Addr) (its : Array Value) : Begins (.ref a) (iterO tp a) fun h => HSq tp h a its := by
  cases tp with
  | true => exact begins_tuple a its
  | false => exact begins_list a its
theorem sq_draws {prog : Program} {w : World} {A : Around} (hh : A.handled = none) (tp : Bool) (it a : Addr) (hne : a ≠ it) (items : Array Value) :
    Draws prog w A it [it, a] items.size (fun i v => items[i]? = some v) (fun i h => ISq tp h it a i ∧ HSq tp h a items) := by
  cases tp with
  | true => exact Draws.tuple hh it a hne items
  | false => exact Draws.list hh it a hne items
theorem ISq.obj {h : Heap} {it : Addr} {i : Nat} (x : ISq tp h it a i) : ∃ o, h.get? it = some o ∧ ∀ v, o.data ≠ .cell v := by
  cases tp with
  | true => obtain ⟨o, e, c, d⟩ := (show h.IsTupleIter it a i from x); exact ⟨o, e, fun v z => by rw [d] at z; cases z⟩
  | false => obtain ⟨o, e, c, d⟩ := (show h.IsListIter it a i from x); exact ⟨o, e, fun v z => by rw [d] at z; cases z⟩
theorem ISq.at {h h' : Heap} {it : Addr} {i : Nat} (x : ISq tp h it a i) (k : ∀ o, h.get? it = some o → h'.get? it = some o) : ISq tp h' it a i := by
  cases tp with
  | true => exact (show h.IsTupleIter it a i from x).at k
  | false => exact (show h.IsListIter it a i from x).at k
theorem ISq.zero {h : Heap} {it : Addr} (e : h.get? it = some (iterO tp a)) : ISq tp h it a 0 := by
  cases tp with
  | true => exact ⟨_, e, rfl, rfl⟩
  | false => exact ⟨_, e, rfl, rfl⟩
end
/-- a walk of the layer, of the library's walk of new tuples -/
theorem turn_goes {P : Program} {w : World} {K : Fr} {tg : Expr} {J : It} {fp : List Addr} {e : Addr} {tn : Nat → Heap → Prop} (mem : e ∈ fp) (obj : ∀ i h, tn i h → ∀ b ∈ fp, ∃ o, h.get? b = some o ∧ ∀ v, o.data ≠ .cell v)
    (keep : ∀ i h h', tn i h → (∀ b ∈ fp, ∀ o, h.get? b = some o → h'.get? b = some o) → tn i h')
    (self : ∀ (A : Around) (i : Nat) (s : Shared) (Q : Value → Shared → Prop) (E : Value → Shared → Prop), tn i s.heap → Q (.ref e) s → wpAny (model P w) A (pyIter (.ref e)) Q E s)
    (go : ∀ (X : Cx), X.prog = P → X.w = w → X.K = K → X.A.handled = none → ∀ (i : Nat) (pins : List (Addr × Obj)) (s : Shared) (σ : L2.St) (H : Hp), Inv X pins σ H s → (∀ b ∈ fp, FpOk X pins H b) → tn i s.heap → J.go i H →
      ∃ fp' wr n Y St, GoesN P w X.A tg e fp' wr n Y St ∧ (∀ b ∈ wr, b ∈ fp) ∧ i < n ∧ St i s.heap ∧ (∀ h', St (i + 1) h' → tn (i + 1) h') ∧
        ∀ v h', Y i s.heap v h' → ∃ T xs vals, v = .ref T ∧ s.heap.objs.size ≤ T ∧ h'.IsTuple T (List.toArray vals) ∧ Vals xs vals ∧ xs.length ≤ sizeLine ∧ J.yld i H (.ref T) (upd H T (.tup xs)))
    (stop : ∀ (X : Cx), X.prog = P → X.w = w → X.K = K → X.A.handled = none → ∀ (i : Nat) (pins : List (Addr × Obj)) (s : Shared) (σ : L2.St) (H : Hp), Inv X pins σ H s → (∀ b ∈ fp, FpOk X pins H b) → tn i s.heap → J.stop i H →
      ∃ fp' wr Y St, GoesN P w X.A tg e fp' wr i Y St ∧ (∀ b ∈ wr, b ∈ fp) ∧ St i s.heap) : Turn P w K tg J fp e tn where
  mem := mem
  obj := obj
  keep := keep
  self := self
  item := by
    intro X hP hw hK hc i pins s σ H E I hf st hg
    obtain ⟨fp', wr, n, Y, S, W, hwr, hi, hs, hn, hy⟩ := go X hP hw hK (I.ok.hd hc) i pins s σ H I hf st hg
    refine wpAny_mono (W.goes i s (fun v s2 => ∃ x H', Inv X pins σ H' s2 ∧ RelV x v ∧ J.yld i H x H' ∧ tn (i + 1) s2.heap ∧ ∀ b ∈ fp, H' b = none) E hi hs fun v h' tk hY hs' hk htk => ?_) (fun r s1 h1 => h1) fun _ _ h => h
    obtain ⟨T, xs, vals, rfl, hT, ht, hv, hl, yl⟩ := hy v h' hY
    have new : ObjOk X.prog X.w (upd H T (.tup xs)) h' T (.tup xs) := ⟨hl, vals, hv, ht⟩
    have kk : ∀ b o, b ∉ fp → s.heap.get? b = some o → h'.get? b = some o := fun b o hb q => hk b o (fun z => hb (hwr b z)) q
    have I1 : Inv X pins σ (upd H T (.tup xs)) { s with heap := h', toks := tk } := I.turnedNew (ch := fp) kk hf hT new
    refine ⟨.ref T, _, I1, rfl, yl, hn h' hs', fun b hb => ?_⟩
    obtain ⟨o, q, _⟩ := obj i _ st b hb
    rw [upd_ne (Nat.ne_of_lt (Nat.lt_of_lt_of_le (Heap.lt_size q) hT))]
    exact (hf b hb).1
  done := by
    intro X hP hw hK hc i pins s σ H E I hf st hg
    obtain ⟨fp', wr, Y, S, W, hwr, hs⟩ := stop X hP hw hK (I.ok.hd hc) i pins s σ H I hf st hg
    refine W.stops s (fun s1 => Inv X pins σ H s1) E hs fun h' tk hk htk => ?_
    exact I.turnedL (t' := tk) (ch := fp) (fun b o hb q => hk b o (fun z => hb (hwr b z)) q) hf
/-! ### enumerate -/
def ItE (K : Fr) (tp : Bool) (a : Addr) : It :=
  ⟨fun i H => ∃ (xs : List V) (x : V), Sq K tp H a xs ∧ xs[i]? = some x, fun i H v H' => ∃ T x, v = .ref T ∧ H T = none ∧ H' = upd H T (.tup [.int (i : Nat), x]) ∧ ∀ xs, Sq K tp H a xs → xs[i]? = some x, fun i H => ∃ xs : List V, Sq K tp H a xs ∧ xs.length = i⟩
theorem hsq_data {tp : Bool} {h : Heap} {a : Addr} {its : Array Value} (p : HSq tp h a its) : ∃ o n, h.get? a = some o ∧ o.data = .seq its n := by
  cases tp with
  | true => obtain ⟨o, e, _, n, d⟩ := (show h.IsTuple a its from p); exact ⟨o, n, e, d⟩
  | false => obtain ⟨o, e, _, n, d⟩ := (show h.IsList a its from p); exact ⟨o, n, e, d⟩
theorem isq_data {tp : Bool} {h : Heap} {it a : Addr} {i : Nat} (p : ISq tp h it a i) : ∃ o vs, h.get? it = some o ∧ o.data = .fields vs := by
  cases tp with
  | true => obtain ⟨o, e, _, d⟩ := (show h.IsTupleIter it a i from p); exact ⟨o, _, e, d⟩
  | false => obtain ⟨o, e, _, d⟩ := (show h.IsListIter it a i from p); exact ⟨o, _, e, d⟩
theorem sq_ne {tp : Bool} {h : Heap} {a b : Addr} {its : Array Value} {o : Obj} {vs : Array Value} (p : HSq tp h a its) (e : h.get? b = some o) (d : o.data = .fields vs) : a ≠ b := fun z => by
  subst z
  obtain ⟨o', n, e', d'⟩ := hsq_data p
  rw [e] at e'
  cases e'
  rw [d] at d'
  cases d'
theorem turn_enumQ {P : Program} {w : World} {K : Fr} {elts : List Expr} {kk : Nat} {tpos : Pos} (tp : Bool) (a e it : Addr) (hei : e ≠ it) :
    Turn P w K (.Tuple elts kk tpos) (ItE K tp a) [e, it] e (fun i h => (∃ old, IsEnum h e it ((i : Nat) : Int) old) ∧ ISq tp h it a i) := by
  refine turn_goes (by simp) (fun i h st b hb => ?_) (fun i h h' st k => ?_) (fun A i s Q E st h => ?_) (fun X hP hw hK hh i pins s σ H I hf st hg => ?_) (fun X hP hw hK hh i pins s σ H I hf st hg => ?_)
  · obtain ⟨⟨old, he⟩, hi⟩ := st
    have e' : b = e ∨ b = it := by simpa using hb
    rcases e' with z | z
    · rw [z]; exact ⟨_, he, fun v q => nomatch q⟩
    · rw [z]; exact hi.obj
  · obtain ⟨⟨old, he⟩, hi⟩ := st
    exact ⟨⟨old, k e (by simp) _ he⟩, hi.at fun o q => k it (by simp) o q⟩
  · obtain ⟨⟨old, he⟩, hi⟩ := st
    exact wpAny_pyIter_enum he h
  · subst hP hw
    obtain ⟨⟨old, he⟩, hi⟩ := st
    subst hK
    obtain ⟨xs, x, hq, hx⟩ := hg
    obtain ⟨its, rv, p, hz⟩ := hq.read I
    have hl := rv.length
    obtain ⟨_, _, hi1, hi2⟩ := isq_data hi
    have hne : a ≠ it := sq_ne p hi1 hi2
    have hae : a ≠ e := sq_ne p he rfl
    have D := sq_draws (prog := X.prog) (w := X.w) (A := X.A.in1) hh tp it a hne its.toArray
    have W := GoesN.enumFrom (elts := elts) (x1 := kk) (pos := tpos) 0 D e hei (by simp; exact ⟨hei, Ne.symm hae⟩) (by simp)
    have hil : i < its.length := by rw [← hl]; exact (List.getElem?_eq_some_iff.mp hx).1
    refine ⟨_, _, _, _, _, W, fun b hb => hb, by simpa using hil, ⟨⟨old, by simpa using he⟩, hi, p⟩, fun h' ⟨⟨o2, h1⟩, h2, _⟩ => ⟨⟨o2, by simpa using h1⟩, h2⟩, fun v h' hY => ?_⟩
    obtain ⟨T, t, u, rfl, hT, hu, hIs⟩ := hY
    obtain ⟨u', hu', ru⟩ := rv.get hx
    have eu : u = u' := by
      have hu2 : its[i]? = some u := by simpa using hu
      rw [hu'] at hu2; exact (Option.some.inj hu2).symm
    subst eu
    refine ⟨T, [.int (i : Nat), x], [.int (0 + (i : Int)) t, u], rfl, hT, hIs, .cons ⟨t, by simp⟩ (.cons ru .nil), by show 2 ≤ sizeLine; decide, T, x, rfl, I.hok.fresh hT, rfl, fun ys hy => by rw [hy.inj I hq]; exact hx⟩
  · subst hP hw
    obtain ⟨⟨old, he⟩, hi⟩ := st
    subst hK
    obtain ⟨xs, hq, hx⟩ := hg
    obtain ⟨its, rv, p, hz⟩ := hq.read I
    have hl := rv.length
    obtain ⟨_, _, hi1, hi2⟩ := isq_data hi
    have hne : a ≠ it := sq_ne p hi1 hi2
    have hae : a ≠ e := sq_ne p he rfl
    have D := sq_draws (prog := X.prog) (w := X.w) (A := X.A.in1) hh tp it a hne its.toArray
    have W := GoesN.enumFrom (elts := elts) (x1 := kk) (pos := tpos) 0 D e hei (by simp; exact ⟨hei, Ne.symm hae⟩) (by simp)
    have en : its.toArray.size = i := by simp; omega
    rw [en] at W
    exact ⟨_, _, _, _, W, fun b hb => hb, ⟨⟨old, by simpa using he⟩, hi, p⟩⟩
def iEnumQ (K : Fr) (ta : TA) : TI := fun σ H R => ta σ H fun vs H1 => ∃ tp a xs, vs = [.ref a] ∧ Sq K tp H1 a xs ∧ R (ItE K tp a) H1
theorem pi_enumQ {X : Cx} {e : Expr} {ta : TA} {p pos tpos : Pos} {elts : List Expr} {kk : Nat} (hg : Gl X "enumerate") (hm : X.mg "enumerate" = none) (ha : PA X [e] ta) (hs : starEach [e] X.env = [(false, eval e X.env)]) :
    PI X (.Tuple elts kk tpos) (.Call (.Name "enumerate" p) [e] [] pos) (iEnumQ X.K ta) := by
  refine ⟨fun pins s σ H R I h => ?_⟩
  refine Call_ (ld_blt I hg hm boot_enumerate (PyProof.Rows.callWith_type1 (thn (ha.run pos pins s σ H _ I h) fun us s1 ⟨vs, H1, I1, r1, q1⟩ => ?_) hs rfl))
  obtain ⟨tp, a, xs, ex, hq, q⟩ := q1
  subst ex
  cases r1 with
  | cons r rr =>
    cases rr
    cases r
    obtain ⟨its, rv, p', hz⟩ := hq.read I1
    refine enum_begins1 (sq_begins tp a its.toArray) p' fun h' he hit hsz hk => wpAny_pyIter_enum he ?_
    have I2 : Inv X pins σ H1 { s1 with heap := h' } := I1.kept (t' := s1.toks) hk
    refine ⟨s1.heap.objs.size + 1, [s1.heap.objs.size + 1, s1.heap.objs.size], _, _, H1, rfl, I2, turn_enumQ tp a (s1.heap.objs.size + 1) s1.heap.objs.size (Nat.succ_ne_self _), ⟨⟨.none, he⟩, ISq.zero hit⟩, fun b hb => ?_, q⟩
    have e' : b = s1.heap.objs.size + 1 ∨ b = s1.heap.objs.size := by simpa using hb
    have hle : s1.heap.objs.size ≤ b := by
      rcases e' with z | z
      · rw [z]; exact Nat.le_add_right _ _
      · rw [z]; exact Nat.le_refl _
    exact I1.fpOk hle (I1.hok.fresh hle)
/-! ### zip -/
def ItZ (K : Fr) (tp tp' : Bool) (a b : Addr) : It :=
  ⟨fun i H => ∃ (xs ys : List V) (x y : V), Sq K tp H a xs ∧ Sq K tp' H b ys ∧ xs[i]? = some x ∧ ys[i]? = some y,
    fun i H v H' => ∃ T x y, v = .ref T ∧ H T = none ∧ H' = upd H T (.tup [x, y]) ∧ (∀ xs, Sq K tp H a xs → xs[i]? = some x) ∧ ∀ ys, Sq K tp' H b ys → ys[i]? = some y,
    fun i H => ∃ xs ys : List V, Sq K tp H a xs ∧ Sq K tp' H b ys ∧ min xs.length ys.length = i⟩
theorem turn_zipQ {P : Program} {w : World} {K : Fr} {elts : List Expr} {kk : Nat} {tpos : Pos} (tp tp' : Bool) (a b N : Addr) (ha : a < N) (hb : b < N) :
    Turn P w K (.Tuple elts kk tpos) (ItZ K tp tp' a b) [N + 4, N + 2, N + 3, N, N + 1] (N + 4)
      (fun i h => IsZip h (N + 4) (N + 2) (N + 3) .none ∧ IsTupOf2 h (N + 2) (.ref N) (.ref (N + 1)) ∧ (∃ a1 a2, IsTupOf2 h (N + 3) a1 a2) ∧ ISq tp h N a i ∧ ISq tp' h (N + 1) b i) := by
  have S : ZipSep2 (N + 4) (N + 2) (N + 3) N (N + 1) [N, a] [N + 1, b] := zip_sep2 (N := N) (fp1 := [a]) (fp2 := [b]) (by simp; exact ha) (by simp; exact hb)
  refine turn_goes (by simp) (fun i h st c hc => ?_) (fun i h h' st k => ?_) (fun A i s Q E st h => ?_) (fun X hP hw hK hh i pins s σ H I hf st hg => ?_) (fun X hP hw hK hh i pins s σ H I hf st hg => ?_)
  · obtain ⟨hz, hTI, ⟨x, y, hTO⟩, h1, h2⟩ := st
    have e' : c = N + 4 ∨ c = N + 2 ∨ c = N + 3 ∨ c = N ∨ c = N + 1 := by simpa using hc
    rcases e' with q | q | q | q | q
    · rw [q]; exact ⟨_, hz, fun v q => nomatch q⟩
    · rw [q]; exact ⟨_, hTI, fun v q => nomatch q⟩
    · rw [q]; exact ⟨_, hTO, fun v q => nomatch q⟩
    · rw [q]; exact h1.obj
    · rw [q]; exact h2.obj
  · obtain ⟨hz, hTI, ⟨x, y, hTO⟩, h1, h2⟩ := st
    exact ⟨k (N + 4) (by simp) _ hz, k (N + 2) (by simp) _ hTI, ⟨x, y, k (N + 3) (by simp) _ hTO⟩, h1.at fun o q => k N (by simp) o q, h2.at fun o q => k (N + 1) (by simp) o q⟩
  · obtain ⟨hz, _⟩ := st
    exact wpAny_pyIter_zip hz h
  · subst hP hw
    obtain ⟨hz, hTI, hTO, h1, h2⟩ := st
    subst hK
    obtain ⟨xs, ys, x, y, hqx, hqy, hx, hy⟩ := hg
    obtain ⟨its, rv, p, _⟩ := hqx.read I
    obtain ⟨its2, rv2, p2, _⟩ := hqy.read I
    have hl := rv.length
    have hl2 := rv2.length
    have D1 := sq_draws (prog := X.prog) (w := X.w) (A := X.A.in1) hh tp N a (Nat.ne_of_lt ha) its.toArray
    have D2 := sq_draws (prog := X.prog) (w := X.w) (A := X.A.in1) hh tp' (N + 1) b (Nat.ne_of_lt (Nat.lt_succ_of_lt hb)) its2.toArray
    have W := GoesN.zip2 (elts := elts) (x1 := kk) (pos := tpos) S D1 D2
    have hi1 : i < its.length := by rw [← hl]; exact (List.getElem?_eq_some_iff.mp hx).1
    have hi2 : i < its2.length := by rw [← hl2]; exact (List.getElem?_eq_some_iff.mp hy).1
    refine ⟨_, _, _, _, _, W, fun b hb => ?_, by simp; omega, ⟨hz, hTI, hTO, ⟨h1, p⟩, ⟨h2, p2⟩⟩, fun h' ⟨g1, g2, g3, ⟨g4, _⟩, ⟨g5, _⟩⟩ => ⟨g1, g2, g3, g4, g5⟩, fun v h' hY => ?_⟩
    · simp at hb ⊢; rcases hb with q | q | q | q <;> simp [q]
    obtain ⟨T, u, u2, rfl, hT, hu, hu2, hIs⟩ := hY
    obtain ⟨w1, hw1, ru⟩ := rv.get hx
    obtain ⟨w2, hw2, ru2⟩ := rv2.get hy
    have e1 : u = w1 := by
      have q : its[i]? = some u := by simpa using hu
      rw [hw1] at q; exact (Option.some.inj q).symm
    have e2 : u2 = w2 := by
      have q : its2[i]? = some u2 := by simpa using hu2
      rw [hw2] at q; exact (Option.some.inj q).symm
    subst e1 e2
    exact ⟨T, [x, y], [u, u2], rfl, hT, hIs, .cons ru (.cons ru2 .nil), by show 2 ≤ sizeLine; decide, T, x, y, rfl, I.hok.fresh hT, rfl, fun zs hz' => by rw [hz'.inj I hqx]; exact hx, fun zs hz' => by rw [hz'.inj I hqy]; exact hy⟩
  · subst hP hw
    obtain ⟨hz, hTI, hTO, h1, h2⟩ := st
    subst hK
    obtain ⟨xs, ys, hqx, hqy, hm⟩ := hg
    obtain ⟨its, rv, p, _⟩ := hqx.read I
    obtain ⟨its2, rv2, p2, _⟩ := hqy.read I
    have hl := rv.length
    have hl2 := rv2.length
    have D1 := sq_draws (prog := X.prog) (w := X.w) (A := X.A.in1) hh tp N a (Nat.ne_of_lt ha) its.toArray
    have D2 := sq_draws (prog := X.prog) (w := X.w) (A := X.A.in1) hh tp' (N + 1) b (Nat.ne_of_lt (Nat.lt_succ_of_lt hb)) its2.toArray
    have W := GoesN.zip2 (elts := elts) (x1 := kk) (pos := tpos) S D1 D2
    have en : min its.toArray.size its2.toArray.size = i := by simp; omega
    rw [en] at W
    refine ⟨_, _, _, _, W, fun b hb => ?_, ⟨hz, hTI, hTO, ⟨h1, p⟩, ⟨h2, p2⟩⟩⟩
    simp at hb ⊢; rcases hb with q | q | q | q <;> simp [q]
def iZipQ (K : Fr) (ta : TA) : TI := fun σ H R => ta σ H fun vs H1 => ∃ tp tp' a b xs ys, vs = [.ref a, .ref b] ∧ Sq K tp H1 a xs ∧ Sq K tp' H1 b ys ∧ R (ItZ K tp tp' a b) H1
theorem Sq.lt {X : Cx} {pins : List (Addr × Obj)} {σ : L2.St} {H : Hp} {s : Shared} {a : Addr} {xs : List V} {tp : Bool} (I : Inv X pins σ H s) (h : Sq X.K tp H a xs) : a < s.heap.objs.size := by
  obtain ⟨its, _, p, _⟩ := h.read I
  obtain ⟨o, n, e, _⟩ := hsq_data p
  exact Heap.lt_size e
theorem pi_zipQ {X : Cx} {e e2 : Expr} {ta : TA} {p pos tpos : Pos} {elts : List Expr} {kk : Nat} (hg : Gl X "zip") (hm : X.mg "zip" = none) (ha : PA X [e, e2] ta)
    (hs : starEach [e, e2] X.env = [(false, eval e X.env), (false, eval e2 X.env)]) (hs2 : starEach [e2] X.env = [(false, eval e2 X.env)]) :
    PI X (.Tuple elts kk tpos) (.Call (.Name "zip" p) [e, e2] [] pos) (iZipQ X.K ta) := by
  refine ⟨fun pins s σ H R I h => ?_⟩
  refine Call_ (ld_blt I hg hm (show bootBuiltins "zip" = some (Value.type "zip") by decide +kernel) (PyProof.Rows.callWith_type1 (thn (ha.run pos pins s σ H _ I h) fun us s1 ⟨vs, H1, I1, r1, q1⟩ => ?_) (by rw [hs, hs2]) (by rw [hs2]; rfl)))
  obtain ⟨tp, tp', a, b, xs, ys, ex, hqx, hqy, q⟩ := q1
  subst ex
  cases r1 with
  | cons r rr =>
    cases rr with
    | cons r' rr =>
      cases rr
      cases r
      cases r'
      obtain ⟨its, rv, p1, _⟩ := hqx.read I1
      obtain ⟨its2, rv2, p2, _⟩ := hqy.read I1
      refine zip_begins2 (sq_begins tp a its.toArray) (sq_begins tp' b its2.toArray) p1 p2 fun h' hz hTI hTO g1 g2 hsz hk => wpAny_pyIter_zip hz ?_
      have I2 : Inv X pins σ H1 { s1 with heap := h' } := I1.kept (t' := s1.toks) hk
      refine ⟨s1.heap.objs.size + 4, [s1.heap.objs.size + 4, s1.heap.objs.size + 2, s1.heap.objs.size + 3, s1.heap.objs.size, s1.heap.objs.size + 1], _, _, H1, rfl, I2,
        turn_zipQ tp tp' a b s1.heap.objs.size (hqx.lt I1) (hqy.lt I1), ⟨hz, hTI, ⟨_, _, hTO⟩, ISq.zero g1, ISq.zero g2⟩, fun c hc => ?_, q⟩
      have e' : c = s1.heap.objs.size + 4 ∨ c = s1.heap.objs.size + 2 ∨ c = s1.heap.objs.size + 3 ∨ c = s1.heap.objs.size ∨ c = s1.heap.objs.size + 1 := by simpa using hc
      have hle : s1.heap.objs.size ≤ c := by
        rcases e' with z | z | z | z | z <;> rw [z] <;> first | exact Nat.le_refl _ | exact Nat.le_add_right _ _
      exact I1.fpOk hle (I1.hok.fresh hle)
end PF

end

section
/-! PF4: expressions, construct by construct. -/
namespace PF
open PySem PySem.Spec PyProof.Rows L2

/-- plain as an argument: no star -/
def NoStar : Expr → Prop
  | .Starred _ _ => False
  | _ => True
theorem star1 {e : Expr} {es : List Expr} {env : PySem.Env} (h : NoStar e) : starEach (e :: es) env = (false, eval e env) :: starEach es env := by
  cases e <;> first | rfl | exact h.elim
theorem star_none {env : PySem.Env} {pos : Pos} : ∀ {es : List Expr}, (∀ e ∈ es, NoStar e) → (backTo pos (starEach es env)).any (·.1) = false
  | [], _ => rfl
  | e :: es, h => by
    rw [star1 (h e (by simp))]
    have ih := star_none (env := env) (pos := pos) (es := es) fun x hx => h x (by simp [hx])
    unfold backTo at ih ⊢
    rw [List.map_cons, List.any_cons, ih]
    rfl
/-- what e is told to be: a value, a value that is looked at, a test -/
structure Snd (F : Nat → List D → M R) (C : Cfg) (W : WX) (X : Cx) (e : Expr) (c : CE) : Prop where
  val : PE X e (T C W (okR C.K) (ev F c))
  pk : PE X e (T C W (okP C.K) fun ρ => PF.pk c ρ (ev F c ρ))
  tst : PT X e (T C W okB fun ρ => (PF.pk c ρ (ev F c ρ)).bind truthy)
  ns : NoStar e
  nset : ∀ env x, foldedSetIterable e env x = pure x
section
variable {F : Nat → List D → M R} {C : Cfg} {W : WX} {X : Cx} {e a b c : Expr} {ce ca cb cc : CE} {pos : Pos}
theorem Snd.dat (h : Snd F C W X e ce) : PE X e (T C W (okD C.K) fun ρ => (ev F ce ρ).toD) := PE.imp h.val fun _ _ _ q => T.toD q
/-- a test by the value's truth -/
theorem tst_of (hK : X.K = C.K) (h : PE X e (T C W (okP C.K) fun ρ => pk ce ρ (ev F ce ρ))) (he : ∀ whole, isTrue e X.env whole = (do let v ← whole; standAt e.pos; holding [v] (PySem.truthy v))) :
    PT X e (T C W okB fun ρ => (pk ce ρ (ev F ce ρ)).bind PF.truthy) := by
  refine PT.imp (pt_truth h he) fun σ H Q q => ?_
  obtain ⟨G, ρ, st, fin⟩ := q
  refine T.bind (ok1 := okP C.K) st fin fun x r G1 H1 e1 p1 st1 fin1 => ?_
  obtain ⟨k, ek, q⟩ := fin1.okE fun c => truthy_ex
  refine ⟨k, ?_, q k G1 H1 (Ext.refl st1.same) rfl⟩
  rw [hK]
  exact tru_of st1.same p1 ek
theorem pk_id {c : CE} {ρ : PF.Env} {m : M R} (h : ∀ i, c ≠ .var i) : pk c ρ m = m := by
  cases c <;> first | rfl | exact absurd rfl (h _)
theorem Snd.of (hK : X.K = C.K) (h : PE X e (T C W (okR C.K) (ev F ce))) (nv : ∀ i, ce ≠ .var i) (he : ∀ whole, isTrue e X.env whole = (do let v ← whole; standAt e.pos; holding [v] (PySem.truthy v))) (ns : NoStar e)
    (nset : ∀ env x, foldedSetIterable e env x = pure x) : Snd F C W X e ce := by
  have p : PE X e (T C W (okP C.K) fun ρ => PF.pk ce ρ (ev F ce ρ)) := by
    refine PE.imp h fun σ H Q q => T.toP ?_
    have : (fun ρ => PF.pk ce ρ (ev F ce ρ)) = ev F ce := by funext ρ; exact pk_id nv
    rw [this] at q
    exact q
  exact ⟨h, p, tst_of hK p he, ns, nset⟩
/-! ### names, constants -/
theorem snd_var {i : Nat} {x : Str} (hK : X.K = C.K) (hN : X.N[i]? = some x) (hv : Vis X.env.scope x) (hd : (x == ("__debug__" : Str)) = false) (hcd : (x == ("__classdict__" : Str)) = false) : Snd F C W X (.Name x pos) (.var i) := by
  have p : PE X (.Name x pos) (T C W (okP C.K) fun ρ => PF.pk (.var i) ρ (ev F (.var i) ρ)) := PE.imp (pe_var hN hv hd hcd) fun σ H Q q => by
    obtain ⟨G, ρ, st, fin⟩ := q
    replace fin : Fin C W (okP C.K) H σ (getP ρ i) G H Q := fin
    obtain ⟨r, er, q⟩ := fin.okE fun c => noEx_getP
    obtain ⟨v, h1, h2⟩ := st.getP er
    exact ⟨v, h1, q v G H (Ext.refl st.same) h2⟩
  refine ⟨PE.imp (pe_var hN hv hd hcd) fun σ H Q q => ?_, p, tst_of hK p fun _ => rfl, trivial, fun _ _ => rfl⟩
  obtain ⟨G, ρ, st, fin⟩ := q
  replace fin : Fin C W (okR C.K) H σ (getV ρ i) G H Q := by simpa only [ev] using fin
  obtain ⟨r, er, q⟩ := fin.okE fun c => noEx_getV
  obtain ⟨v, h1, h2⟩ := st.getV er
  exact ⟨v, h1, q v G H (Ext.refl st.same) (h2 H)⟩
theorem snd_con {v : V} {d : D} (hK : X.K = C.K) (h : PE X e (tC v)) (hr : ∀ G, Rep C.K G v d) (he : ∀ whole, isTrue e X.env whole = (do let v ← whole; standAt e.pos; holding [v] (PySem.truthy v))) (ns : NoStar e)
    (nset : ∀ env x, foldedSetIterable e env x = pure x) : Snd F C W X e (.con d) := by
  refine Snd.of hK (PE.imp h fun σ H Q q => ?_) (by simp) he ns nset
  obtain ⟨G, ρ, st, fin⟩ := q
  simp only [ev] at fin
  exact fin v G H (Ext.refl st.same) (hr G)
/-- {}: an empty dict that nobody writes to -/
theorem snd_emp (hK : X.K = C.K) : Snd F C W X (.Dict [] [] pos) (.con dicD) := by
  refine Snd.of hK (PE.imp pe_dnewK fun σ H Q q p hp => ?_) (by simp) (fun _ => rfl) trivial fun _ _ => rfl
  obtain ⟨G, ρ, st, fin⟩ := q
  simp only [ev] at fin
  exact fin (.ref p) _ _ (Ext.new st.same hp) (show Rep C.K _ (.ref p) dicD from .emp L2.upd_same)
/-! ### operators -/
theorem snd_bin {op : Operator} (hK : X.K = C.K) (ha : Snd F C W X a ca) (hb : Snd F C W X b cb) : Snd F C W X (.BinOp a op b pos) (.bin op ca cb) := by
  have ob : OpR X (binaryOp op) (r2 C.K (binD op)) := hK ▸ op_bin
  refine Snd.of hK (PE.imp (pe_op ob ha.pk hb.pk) fun σ H Q q => ?_) (by simp) (fun _ => rfl) trivial fun _ _ => rfl
  obtain ⟨G, ρ, st, fin⟩ := q
  simp only [ev] at fin
  refine T.bind (ok1 := okP C.K) st fin fun x ra G1 H1 e1 p1 st1 fin1 => ?_
  refine T.bind (ok1 := okP C.K) st1 fin1 fun y rb G2 H2 e2 p2 st2 fin2 => ?_
  obtain ⟨r, er, q⟩ := fin2.okE fun c => binD_ex
  exact ⟨G2, ra, rb, r, st2.same, p1.mono e2, p2, er, fun v G' H' e o => q v G' H' e (o.back (e1.trans e2).hh)⟩
theorem snd_neg (hK : X.K = C.K) (ha : Snd F C W X a ca) : Snd F C W X (.UnaryOp .USub a pos) (.neg ca) := by
  have ob : UnR X (unaryOp .USub) (r1 C.K negD) := hK ▸ un_negD
  refine Snd.of hK (PE.imp (pe_un ob ha.val) fun σ H Q q => ?_) (by simp) (fun _ => rfl) trivial fun _ _ => rfl
  obtain ⟨G, ρ, st, fin⟩ := q
  simp only [ev] at fin
  refine T.bind (ok1 := okR C.K) st fin fun x ra G1 H1 e1 p1 st1 fin1 => ?_
  obtain ⟨r, er, q⟩ := fin1.okE fun c => negD_ex
  exact ⟨G1, ra, r, st1.same, p1.pk, er, fun v G' H' e o => q v G' H' e (o.back e1.hh)⟩
/-- the parts of a comparison -/
theorem cmp_parts {op : CmpOp} {σ : L2.St} {H : Hp} {Q : VK} (q : T C W (okR C.K) (ev F (.cmp op ca cb)) σ H Q) :
    tOp (r2 C.K (cmpD op)) (T C W (okP C.K) fun ρ => pk ca ρ (ev F ca ρ)) (T C W (okP C.K) fun ρ => pk cb ρ (ev F cb ρ)) σ H Q := by
  obtain ⟨G, ρ, st, fin⟩ := q
  simp only [ev] at fin
  refine T.bind (ok1 := okP C.K) st fin fun x ra G1 H1 e1 p1 st1 fin1 => ?_
  refine T.bind (ok1 := okP C.K) st1 fin1 fun y rb G2 H2 e2 p2 st2 fin2 => ?_
  obtain ⟨r, er, q⟩ := fin2.okE fun c => cmpD_ex
  exact ⟨G2, ra, rb, r, st2.same, p1.mono e2, p2, er, fun v G' H' e o => q v G' H' e (o.back (e1.trans e2).hh)⟩
theorem signD_bool {neg : Bool} {x r : R} {z : Str} (h : signD neg x z = .ok r) : ∃ b, r = .d (.bool b) := by
  unfold signD boolR at h
  repeat' split at h
  all_goals first | (cases h; exact ⟨_, rfl⟩) | cases h
theorem cmpD_bool {op : CmpOp} {x y r : R} (h : cmpD op x y = .ok r) : ∃ b, r = .d (.bool b) := by
  cases op <;> simp only [cmpD, M.chk, boolR] at h <;> (repeat' split at h) <;> first | exact signD_bool h | (cases h; exact ⟨_, rfl⟩) | cases h
/-- a test of a bool's value -/
theorem tst_bool {ok1 : Hp → Hp → Hp → V → R → Prop} {f : PF.Env → M R} {σ : L2.St} {H : Hp} {Q : Bool → Hp → Prop} (hb : ∀ ρ r, f ρ = .ok r → ∃ b, r = .d (.bool b)) (q : T C W okB (fun ρ => (f ρ).bind truthy) σ H Q) :
    T C W (okR C.K) f σ H fun x H1 => ∃ k, x = .bl k ∧ Q k H1 := by
  obtain ⟨G, ρ, st, fin⟩ := q
  refine ⟨G, ρ, st, ?_⟩
  cases q : f ρ with
  | no => simp only [q] at fin; exact fin
  | ex c => simp only [q] at fin; exact fin
  | ok r =>
    obtain ⟨b, rfl⟩ := hb ρ r q
    simp only [q] at fin
    intro v G1 H1 e o
    cases (show Rep C.K G1 v (.bool b) from o)
    exact ⟨b, rfl, fin b G1 H1 e rfl⟩
theorem bind_bool {f : M R} {g : R → M R} {r : R} (hg : ∀ x r, g x = .ok r → ∃ b, r = .d (.bool b)) (h : f.bind g = .ok r) : ∃ b, r = .d (.bool b) := by
  cases f with
  | ok x => exact hg x r h
  | ex c => cases h
  | no => cases h
theorem snd_cmp {op : CmpOp} (hK : X.K = C.K) (hu : X.A.units + 64 < cLine) (hm : behindInMarks op b = false) (ha : Snd F C W X a ca) (hb : Snd F C W X b cb) : Snd F C W X (.Compare a [op] [b] pos) (.cmp op ca cb) := by
  have ob : OpR X (compareOp op) (r2 C.K (cmpD op)) := hK ▸ op_cmp hu
  have h1 : PE X (.Compare a [op] [b] pos) (T C W (okR C.K) (ev F (.cmp op ca cb))) := PE.imp (pe_cmpR ob ha.pk hb.pk hm) fun σ H Q q => cmp_parts q
  refine ⟨h1, PE.imp h1 fun σ H Q q => T.toP q, PT.imp (pt_cmpR ob ha.pk hb.pk hm) fun σ H Q q => ?_, trivial, fun _ _ => rfl⟩
  have q' : T C W (okR C.K) (ev F (.cmp op ca cb)) σ H fun x H1 => ∃ k, x = .bl k ∧ Q k H1 := tst_bool (ok1 := okR C.K) (fun ρ r h => by
    simp only [ev] at h
    exact bind_bool (fun x r h => bind_bool (fun y r h => cmpD_bool h) h) h) q
  exact cmp_parts q'
theorem last2 {op op' : CmpOp} (h : behindInMarks op' c = false) : lastMarks [op, op'] [b, c] = false := h
theorem chain_parts {op op' : CmpOp} {σ : L2.St} {H : Hp} {Q : VK} (q : T C W (okR C.K) (ev F (.chain op op' ca cb cc)) σ H Q) :
    tChain (r2 C.K (cmpD op)) (r2 C.K (cmpD op')) (T C W (okP C.K) fun ρ => pk ca ρ (ev F ca ρ)) (T C W (okP C.K) fun ρ => pk cb ρ (ev F cb ρ)) (T C W (okP C.K) fun ρ => pk cc ρ (ev F cc ρ)) σ H Q := by
  obtain ⟨G, ρ, st, fin⟩ := q
  simp only [ev] at fin
  refine T.bind (ok1 := okP C.K) st fin fun x ra G1 H1 e1 p1 st1 fin1 => ?_
  refine T.bind (ok1 := okP C.K) st1 fin1 fun y rb G2 H2 e2 p2 st2 fin2 => ?_
  cases er : cmpD op ra rb with
  | no => rw [er] at fin2; exact fin2.elim
  | ex c => exact absurd er cmpD_ex
  | ok r =>
    rw [er] at fin2
    obtain ⟨k, rfl⟩ := cmpD_bool er
    refine ⟨G2, ra, rb, _, st2.same, p1.mono e2, p2, er, fun v G' H' e o => ?_⟩
    cases (show Rep C.K G' v (.bool k) from o)
    refine ⟨k, rfl, ?_⟩
    simp only [M.bind_ok, truthy] at fin2
    cases k with
    | false =>
      rw [if_neg Bool.false_ne_true]
      rw [if_neg Bool.false_ne_true] at fin2
      exact fin2 _ G' H' e (.bl false)
    | true =>
      rw [if_pos rfl]
      rw [if_pos rfl] at fin2
      have st3 := st2.mono e
      have fin3 : Fin C W (okR C.K) H σ ((pk cc ρ (ev F cc ρ)).bind fun w => cmpD op' rb w) G' H' Q := by
        revert fin2
        cases (pk cc ρ (ev F cc ρ)).bind fun w => cmpD op' rb w with
        | no => exact id
        | ex c => exact fun f G3 H3 e3 => f G3 H3 (e.trans e3)
        | ok r => exact fun f d G3 H3 e3 o3 => f d G3 H3 (e.trans e3) o3
      refine T.bind (ok1 := okP C.K) st3 fin3 fun z rc G4 H4 e4 p4 st4 fin4 => ?_
      obtain ⟨r, er, q⟩ := fin4.okE fun c => cmpD_ex
      exact ⟨G4, rb, rc, r, st4.same, (p2.mono e).mono e4, p4, er, fun v G' H' e' o => q v G' H' e' (o.back (((e1.trans e2).trans e).trans e4).hh)⟩
theorem chain_bool {op op' : CmpOp} {ρ : PF.Env} {r : R} (h : ev F (.chain op op' ca cb cc) ρ = .ok r) : ∃ b, r = .d (.bool b) := by
  simp only [ev] at h
  refine bind_bool (fun x r h => bind_bool (fun y r h => bind_bool (fun z r h => ?_) h) h) h
  cases q : truthy z with
  | ok t =>
    simp only [q, M.bind_ok] at h
    split at h
    · exact bind_bool (fun y r h => cmpD_bool h) h
    · cases h; exact ⟨_, rfl⟩
  | ex c => simp [q] at h
  | no => simp [q] at h
theorem snd_chain {op op' : CmpOp} (hK : X.K = C.K) (hu : X.A.units + 64 < cLine) (hm : behindInMarks op' c = false) (ha : Snd F C W X a ca) (hb : Snd F C W X b cb) (hc : Snd F C W X c cc) :
    Snd F C W X (.Compare a [op, op'] [b, c] pos) (.chain op op' ca cb cc) := by
  have ob : OpR X (compareOp op) (r2 C.K (cmpD op)) := hK ▸ op_cmp hu
  have ob' : OpR X (compareOp op') (r2 C.K (cmpD op')) := hK ▸ op_cmp hu
  have h1 : PE X (.Compare a [op, op'] [b, c] pos) (T C W (okR C.K) (ev F (.chain op op' ca cb cc))) := PE.imp (pe_chain ob ob' ha.pk hb.pk hc.pk (last2 hm)) fun σ H Q q => chain_parts q
  refine ⟨h1, PE.imp h1 fun σ H Q q => T.toP q, PT.imp (pt_chain ob ob' ha.pk hb.pk hc.pk (last2 hm)) fun σ H Q q => ?_, trivial, fun _ _ => rfl⟩
  exact chain_parts (tst_bool (ok1 := okR C.K) (fun ρ r h => chain_bool h) q)
/-! three comparisons in a row -/
def tChain3 (r r' r2 : R2) (ta tb tc td : TE) : TE := fun σ H Q => ta σ H fun x H1 => tb σ H1 fun y H2 => r x y H2 fun z H3 => ∃ k, z = .bl k ∧
  (if k = true then tc σ H3 fun w' H4 => r' y w' H4 fun z2 H5 => ∃ k2, z2 = .bl k2 ∧ (if k2 = true then td σ H5 fun u' H6 => r2 w' u' H6 Q else Q (.bl false) H5) else Q (.bl false) H3)
theorem pe_chain3 {op op' op2 : CmpOp} {d : Expr} {r r' r2 : R2} {ta tb tc td : TE} (ho : OpR X (compareOp op) r) (ho' : OpR X (compareOp op') r') (ho2 : OpR X (compareOp op2) r2) (ha : PE X a ta) (hb : PE X b tb) (hc : PE X c tc) (hd : PE X d td)
    (hm : lastMarks [op, op', op2] [b, c, d] = false) : PE X (.Compare a [op, op', op2] [b, c, d] pos) (tChain3 r r' r2 ta tb tc td) := by
  refine ⟨fun pins s σ H Q I h => ?_⟩
  refine Compare_chain (thn (ha.run pins s σ H _ I h) fun v s1 ⟨x, H1, I1, r1, q1⟩ => chain_link (thn (hb.run pins s1 σ H1 _ I1 q1) fun u s2 ⟨y, H2, I2, rr2, q2⟩ =>
    thn (ho pins s2 σ H2 x y v u _ I2 r1 rr2 q2) fun d s3 ⟨z, H3, I3, r3, k, e, q3⟩ => ?_)) hm
  subst e
  cases r3
  refine wpAny_truthy_bool ?_
  cases k with
  | false => exact ite_ff ⟨.bl false, H3, I3, rfl, q3⟩
  | true =>
    refine ite_tt (chain_link (thn (hc.run pins s3 σ H3 _ I3 q3) fun w' s4 ⟨z', H4, I4, r4, q4⟩ => thn (ho' pins s4 σ H4 y z' u w' _ I4 rr2 r4 q4) fun d' s5 ⟨z2, H5, I5, r5, k2, e2, q5⟩ => ?_))
    subst e2
    cases r5
    refine wpAny_truthy_bool ?_
    cases k2 with
    | false => exact ite_ff ⟨.bl false, H5, I5, rfl, q5⟩
    | true => exact ite_tt (chain_last (thn (hd.run pins s5 σ H5 _ I5 q5) fun u' s6 ⟨z6, H6, I6, r6, q6⟩ => ho2 pins s6 σ H6 z' z6 w' u' Q I6 r4 r6 q6))
theorem pt_chain3 {op op' op2 : CmpOp} {d : Expr} {r r' r2 : R2} {ta tb tc td : TE} (ho : OpR X (compareOp op) r) (ho' : OpR X (compareOp op') r') (ho2 : OpR X (compareOp op2) r2) (ha : PE X a ta) (hb : PE X b tb) (hc : PE X c tc) (hd : PE X d td)
    (hm : lastMarks [op, op', op2] [b, c, d] = false) : PT X (.Compare a [op, op', op2] [b, c, d] pos) (tTest (tChain3 r r' r2 ta tb tc td)) := by
  refine ⟨fun pins s σ H Q I h => ?_⟩
  refine isTrue_chain (thn (ha.run pins s σ H _ I h) fun v s1 ⟨x, H1, I1, r1, q1⟩ => test_link (thn (hb.run pins s1 σ H1 _ I1 q1) fun u s2 ⟨y, H2, I2, rr2, q2⟩ =>
    thn (ho pins s2 σ H2 x y v u _ I2 r1 rr2 q2) fun d s3 ⟨z, H3, I3, r3, k, e, q3⟩ => ?_)) hm
  subst e
  cases r3
  refine wpAny_truthy_bool ?_
  cases k with
  | false =>
    obtain ⟨k', e', q'⟩ := q3
    cases e'
    exact ite_ff ⟨H3, I3, q'⟩
  | true =>
    refine ite_tt (test_link (thn (hc.run pins s3 σ H3 _ I3 q3) fun w' s4 ⟨z', H4, I4, r4, q4⟩ => thn (ho' pins s4 σ H4 y z' u w' _ I4 rr2 r4 q4) fun d' s5 ⟨z2, H5, I5, r5, k2, e2, q5⟩ => ?_))
    subst e2
    cases r5
    refine wpAny_truthy_bool ?_
    cases k2 with
    | false =>
      obtain ⟨k', e', q'⟩ := q5
      cases e'
      exact ite_ff ⟨H5, I5, q'⟩
    | true =>
      refine ite_tt (test_last (thn (hd.run pins s5 σ H5 _ I5 q5) fun u' s6 ⟨z6, H6, I6, r6, q6⟩ => thn (ho2 pins s6 σ H6 z' z6 w' u' _ I6 r4 r6 q6) fun d2 s7 ⟨z7, H7, I7, r7, k3, e3, q7⟩ => ?_))
      subst e3
      cases r7
      exact wpAny_truthy_bool ⟨H7, I7, q7⟩
theorem chain3_parts {op op' op2 : CmpOp} {cd : CE} {σ : L2.St} {H : Hp} {Q : VK} (q : T C W (okR C.K) (ev F (.chain3 op op' op2 ca cb cc cd)) σ H Q) :
    tChain3 (r2 C.K (cmpD op)) (r2 C.K (cmpD op')) (r2 C.K (cmpD op2)) (T C W (okP C.K) fun ρ => pk ca ρ (ev F ca ρ)) (T C W (okP C.K) fun ρ => pk cb ρ (ev F cb ρ)) (T C W (okP C.K) fun ρ => pk cc ρ (ev F cc ρ)) (T C W (okP C.K) fun ρ => pk cd ρ (ev F cd ρ)) σ H Q := by
  obtain ⟨G, ρ, st, fin⟩ := q
  simp only [ev] at fin
  refine T.bind (ok1 := okP C.K) st fin fun x ra G1 H1 e1 p1 st1 fin1 => ?_
  refine T.bind (ok1 := okP C.K) st1 fin1 fun y rb G2 H2 e2 p2 st2 fin2 => ?_
  cases er : cmpD op ra rb with
  | no => rw [er] at fin2; exact fin2.elim
  | ex c => exact absurd er cmpD_ex
  | ok r =>
    rw [er] at fin2
    obtain ⟨k, rfl⟩ := cmpD_bool er
    refine ⟨G2, ra, rb, _, st2.same, p1.mono e2, p2, er, fun v G' H' e o => ?_⟩
    cases (show Rep C.K G' v (.bool k) from o)
    refine ⟨k, rfl, ?_⟩
    simp only [M.bind_ok, show ∀ b, truthy (.d (.bool b)) = .ok b from fun _ => rfl] at fin2
    cases k with
    | false =>
      rw [if_neg Bool.false_ne_true]
      rw [if_neg Bool.false_ne_true] at fin2
      exact fin2 _ G' H' e (.bl false)
    | true =>
      rw [if_pos rfl]
      rw [if_pos rfl] at fin2
      have st3 := st2.mono e
      have fin3 : Fin C W (okR C.K) H σ ((PF.pk cc ρ (ev F cc ρ)).bind fun w => (cmpD op' rb w).bind fun z2 => (truthy z2).bind fun t2 => if t2 = true then (PF.pk cd ρ (ev F cd ρ)).bind fun v => cmpD op2 w v else boolR false) G' H' Q := by
        revert fin2
        cases (PF.pk cc ρ (ev F cc ρ)).bind fun w => (cmpD op' rb w).bind fun z2 => (truthy z2).bind fun t2 => if t2 = true then (PF.pk cd ρ (ev F cd ρ)).bind fun v => cmpD op2 w v else boolR false with
        | no => exact id
        | ex c => exact fun f G3 H3 e3 => f G3 H3 (e.trans e3)
        | ok r => exact fun f d G3 H3 e3 o3 => f d G3 H3 (e.trans e3) o3
      refine T.bind (ok1 := okP C.K) st3 fin3 fun z rc G4 H4 e4 p4 st4 fin4 => ?_
      cases er' : cmpD op' rb rc with
      | no => rw [er'] at fin4; exact fin4.elim
      | ex c => exact absurd er' cmpD_ex
      | ok r =>
        rw [er'] at fin4
        obtain ⟨k2, rfl⟩ := cmpD_bool er'
        refine ⟨G4, rb, rc, _, st4.same, (p2.mono e).mono e4, p4, er', fun v G5 H5 e5 o => ?_⟩
        cases (show Rep C.K G5 v (.bool k2) from o)
        refine ⟨k2, rfl, ?_⟩
        simp only [M.bind_ok, show ∀ b, truthy (.d (.bool b)) = .ok b from fun _ => rfl] at fin4
        cases k2 with
        | false =>
          rw [if_neg Bool.false_ne_true]
          rw [if_neg Bool.false_ne_true] at fin4
          exact fin4 _ G5 H5 e5 (.bl false)
        | true =>
          rw [if_pos rfl]
          rw [if_pos rfl] at fin4
          have st5 := st4.mono e5
          have fin5 : Fin C W (okR C.K) H σ ((PF.pk cd ρ (ev F cd ρ)).bind fun v => cmpD op2 rc v) G5 H5 Q := by
            revert fin4
            cases (PF.pk cd ρ (ev F cd ρ)).bind fun v => cmpD op2 rc v with
            | no => exact id
            | ex c => exact fun f G6 H6 e6 => f G6 H6 (e5.trans e6)
            | ok r => exact fun f d G6 H6 e6 o6 => f d G6 H6 (e5.trans e6) o6
          refine T.bind (ok1 := okP C.K) st5 fin5 fun u rd G6 H6 e6 p6 st6 fin6 => ?_
          obtain ⟨r, er, q⟩ := fin6.okE fun c => cmpD_ex
          exact ⟨G6, rc, rd, r, st6.same, (p4.mono e5).mono e6, p6, er, fun v G' H' e' o => q v G' H' e' (o.back (((((e1.trans e2).trans e).trans e4).trans e5).trans e6).hh)⟩
theorem chain3_bool {op op' op2 : CmpOp} {cd : CE} {ρ : PF.Env} {r : R} (h : ev F (.chain3 op op' op2 ca cb cc cd) ρ = .ok r) : ∃ b, r = .d (.bool b) := by
  simp only [ev] at h
  refine bind_bool (fun x r h => bind_bool (fun y r h => bind_bool (fun z r h => ?_) h) h) h
  cases q : truthy z with
  | ok t =>
    simp only [q, M.bind_ok] at h
    split at h
    · refine bind_bool (fun y r h => bind_bool (fun z2 r h => ?_) h) h
      cases q2 : truthy z2 with
      | ok t2 =>
        simp only [q2, M.bind_ok] at h
        split at h
        · exact bind_bool (fun y r h => cmpD_bool h) h
        · cases h; exact ⟨_, rfl⟩
      | ex c => simp [q2] at h
      | no => simp [q2] at h
    · cases h; exact ⟨_, rfl⟩
  | ex c => simp [q] at h
  | no => simp [q] at h
theorem snd_chain3 {op op' op2 : CmpOp} {d : Expr} {cd : CE} (hK : X.K = C.K) (hu : X.A.units + 64 < cLine) (hm : behindInMarks op2 d = false) (ha : Snd F C W X a ca) (hb : Snd F C W X b cb) (hc : Snd F C W X c cc) (hd : Snd F C W X d cd) :
    Snd F C W X (.Compare a [op, op', op2] [b, c, d] pos) (.chain3 op op' op2 ca cb cc cd) := by
  have ob : OpR X (compareOp op) (r2 C.K (cmpD op)) := hK ▸ op_cmp hu
  have ob' : OpR X (compareOp op') (r2 C.K (cmpD op')) := hK ▸ op_cmp hu
  have ob2 : OpR X (compareOp op2) (r2 C.K (cmpD op2)) := hK ▸ op_cmp hu
  have h1 : PE X (.Compare a [op, op', op2] [b, c, d] pos) (T C W (okR C.K) (ev F (.chain3 op op' op2 ca cb cc cd))) := PE.imp (pe_chain3 ob ob' ob2 ha.pk hb.pk hc.pk hd.pk hm) fun σ H Q q => chain3_parts q
  refine ⟨h1, PE.imp h1 fun σ H Q q => T.toP q, PT.imp (pt_chain3 ob ob' ob2 ha.pk hb.pk hc.pk hd.pk hm) fun σ H Q q => ?_, trivial, fun _ _ => rfl⟩
  exact chain3_parts (tst_bool (ok1 := okR C.K) (fun ρ r h => chain3_bool h) q)
/-! ### and, or, not -/
structure SndW (F : Nat → List D → M R) (C : Cfg) (W : WX) (X : Cx) (e : Expr) (c : CE) : Prop where
  val : PE X e (T C W (okR C.K) (ev F c))
  tst : PW X e (T C W okB fun ρ => (pk c ρ (ev F c ρ)).bind truthy)
theorem Snd.one {op : BoolOp} (ha : Snd F C W X a ca) : SndW F C W X (.BoolOp op [a] pos) ca := by
  refine ⟨pe_one ha.val, ?_⟩
  cases op with
  | And => exact pw_and1 ha.tst
  | Or => exact pw_or1 ha.tst
theorem SndW.snd {op : BoolOp} {vs : List Expr} (nv : ∀ i, ce ≠ .var i) (h : SndW F C W X (.BoolOp op vs pos) ce) : Snd F C W X (.BoolOp op vs pos) ce :=
  ⟨h.val, PE.imp h.val fun σ H Q q => T.toP (by
    have : (fun ρ => PF.pk ce ρ (ev F ce ρ)) = ev F ce := by funext ρ; exact pk_id nv
    rw [this] at q
    exact q), h.tst.pt, trivial, fun _ _ => rfl⟩
theorem truthy_pk {ρ : PF.Env} {m : M R} {k : M R → M Bool} (hn : k .no = .no) (h : ∀ r, m = .ok r → pk ca ρ m = .ok r) : True := trivial
/-- what is a value is the same to look at -/
theorem pk_ok {ρ : PF.Env} {r : R} (h : ev F ca ρ = .ok r) : pk ca ρ (ev F ca ρ) = .ok r := by
  rw [h]
  cases ca with
  | var i =>
    simp only [ev] at h
    show getP ρ i = .ok r
    unfold getV at h
    unfold getP
    split at h
    · rename_i d e
      simp only [e]
      exact h
    · cases h
  | _ => rfl
theorem pk_ex {ρ : PF.Env} {c : Nat} (h : ev F ca ρ = .ex c) : pk ca ρ (ev F ca ρ) = .ex c := by
  rw [h]
  cases ca with
  | var i =>
    simp only [ev] at h
    exact absurd h noEx_getV
  | _ => rfl
theorem snd_and (hK : X.K = C.K) {rest : List Expr} (ha : Snd F C W X a ca) (hb : SndW F C W X (.BoolOp .And (b :: rest) pos) cb) : SndW F C W X (.BoolOp .And (a :: b :: rest) pos) (.and ca cb) := by
  refine ⟨PE.imp (pe_andT ha.dat hb.val) fun σ H Q q => ?_, PW.imp (pw_and ha.tst hb.tst) fun σ H Q q => ?_⟩
  · obtain ⟨G, ρ, st, fin⟩ := q
    simp only [ev] at fin
    refine T.bind (ok1 := okD C.K) st fin fun x d G1 H1 e1 p1 st1 fin1 => ?_
    cases ek : truthy (.d d) with
    | no => rw [ek] at fin1; exact fin1.elim
    | ex c => exact absurd ek truthy_ex
    | ok k =>
      rw [ek] at fin1
      refine ⟨k, by rw [hK]; exact tru_of (r := .d d) st1.same p1 ek, ?_⟩
      simp only [M.bind_ok] at fin1
      cases k with
      | true =>
        rw [if_pos rfl] at fin1 ⊢
        refine ⟨G1, ρ, st1, ?_⟩
        revert fin1
        cases ev F cb ρ with
        | no => exact id
        | ex c => exact id
        | ok r => exact fun f v G2 H2 e2 o => f v G2 H2 e2 (o.back e1.hh)
      | false =>
        rw [if_neg Bool.false_ne_true] at fin1 ⊢
        exact fin1 x G1 H1 (Ext.refl st1.same) p1
  · obtain ⟨G, ρ, st, fin⟩ := q
    replace fin : Fin C W okB H σ ((ev F (.and ca cb) ρ).bind truthy) G H Q := fin
    simp only [ev] at fin
    refine ⟨G, ρ, st, ?_⟩
    cases ea : ev F ca ρ with
    | no => rw [ea] at fin; exact fin.elim
    | ex c =>
      rw [ea] at fin
      show Fin C W okB H σ ((pk ca ρ (ev F ca ρ)).bind truthy) G H _
      rw [pk_ex ea]
      exact fin
    | ok r =>
      rw [ea] at fin
      show Fin C W okB H σ ((pk ca ρ (ev F ca ρ)).bind truthy) G H _
      rw [pk_ok ea]
      simp only [M.toD_ok, M.bind_ok] at fin
      have et : truthy r = truthy (.d r.toD) := by cases r <;> rfl
      show Fin C W okB H σ (truthy r) G H _
      rw [et]
      cases ek : truthy (.d r.toD) with
      | no => rw [ek] at fin; exact fin.elim
      | ex c => exact absurd ek truthy_ex
      | ok k =>
        rw [ek] at fin
        intro b' G1 H1 e1 o
        cases o
        simp only [M.bind_ok] at fin
        cases k with
        | true =>
          rw [if_pos rfl] at fin ⊢
          refine ⟨G1, ρ, st.mono e1, ?_⟩
          show Fin C W okB H1 σ ((pk cb ρ (ev F cb ρ)).bind truthy) G1 H1 Q
          cases eb : ev F cb ρ with
          | no => rw [eb] at fin; exact fin.elim
          | ex c => rw [eb] at fin; rw [← eb, pk_ex eb]; exact fun G2 H2 e2 => fin G2 H2 (e1.trans e2)
          | ok r =>
            rw [eb] at fin
            rw [← eb, pk_ok eb]
            simp only [M.bind_ok] at fin ⊢
            revert fin
            cases truthy r with
            | no => exact id
            | ex c => exact fun f G2 H2 e2 => f G2 H2 (e1.trans e2)
            | ok r => exact fun f v G2 H2 e2 o => f v G2 H2 (e1.trans e2) o
        | false =>
          rw [if_neg Bool.false_ne_true] at fin ⊢
          simp only [M.bind_ok, ek] at fin
          exact fin false G1 H1 e1 rfl
theorem snd_or (hK : X.K = C.K) {rest : List Expr} (ha : Snd F C W X a ca) (hb : SndW F C W X (.BoolOp .Or (b :: rest) pos) cb) : SndW F C W X (.BoolOp .Or (a :: b :: rest) pos) (.or ca cb) := by
  refine ⟨PE.imp (pe_orT ha.dat hb.val) fun σ H Q q => ?_, PW.imp (pw_or ha.tst hb.tst) fun σ H Q q => ?_⟩
  · obtain ⟨G, ρ, st, fin⟩ := q
    simp only [ev] at fin
    refine T.bind (ok1 := okD C.K) st fin fun x d G1 H1 e1 p1 st1 fin1 => ?_
    cases ek : truthy (.d d) with
    | no => rw [ek] at fin1; exact fin1.elim
    | ex c => exact absurd ek truthy_ex
    | ok k =>
      rw [ek] at fin1
      refine ⟨k, by rw [hK]; exact tru_of (r := .d d) st1.same p1 ek, ?_⟩
      simp only [M.bind_ok] at fin1
      cases k with
      | false =>
        rw [if_neg Bool.false_ne_true] at fin1 ⊢
        refine ⟨G1, ρ, st1, ?_⟩
        revert fin1
        cases ev F cb ρ with
        | no => exact id
        | ex c => exact id
        | ok r => exact fun f v G2 H2 e2 o => f v G2 H2 e2 (o.back e1.hh)
      | true =>
        rw [if_pos rfl] at fin1 ⊢
        exact fin1 x G1 H1 (Ext.refl st1.same) p1
  · obtain ⟨G, ρ, st, fin⟩ := q
    replace fin : Fin C W okB H σ ((ev F (.or ca cb) ρ).bind truthy) G H Q := fin
    simp only [ev] at fin
    refine ⟨G, ρ, st, ?_⟩
    cases ea : ev F ca ρ with
    | no => rw [ea] at fin; exact fin.elim
    | ex c =>
      rw [ea] at fin
      show Fin C W okB H σ ((pk ca ρ (ev F ca ρ)).bind truthy) G H _
      rw [pk_ex ea]
      exact fin
    | ok r =>
      rw [ea] at fin
      show Fin C W okB H σ ((pk ca ρ (ev F ca ρ)).bind truthy) G H _
      rw [pk_ok ea]
      simp only [M.toD_ok, M.bind_ok] at fin
      have et : truthy r = truthy (.d r.toD) := by cases r <;> rfl
      show Fin C W okB H σ (truthy r) G H _
      rw [et]
      cases ek : truthy (.d r.toD) with
      | no => rw [ek] at fin; exact fin.elim
      | ex c => exact absurd ek truthy_ex
      | ok k =>
        rw [ek] at fin
        intro b' G1 H1 e1 o
        cases o
        simp only [M.bind_ok] at fin
        cases k with
        | false =>
          rw [if_neg Bool.false_ne_true] at fin ⊢
          refine ⟨G1, ρ, st.mono e1, ?_⟩
          show Fin C W okB H1 σ ((pk cb ρ (ev F cb ρ)).bind truthy) G1 H1 Q
          cases eb : ev F cb ρ with
          | no => rw [eb] at fin; exact fin.elim
          | ex c => rw [eb] at fin; rw [← eb, pk_ex eb]; exact fun G2 H2 e2 => fin G2 H2 (e1.trans e2)
          | ok r =>
            rw [eb] at fin
            rw [← eb, pk_ok eb]
            simp only [M.bind_ok] at fin ⊢
            revert fin
            cases truthy r with
            | no => exact id
            | ex c => exact fun f G2 H2 e2 => f G2 H2 (e1.trans e2)
            | ok r => exact fun f v G2 H2 e2 o => f v G2 H2 (e1.trans e2) o
        | true =>
          rw [if_pos rfl] at fin ⊢
          simp only [M.bind_ok, ek] at fin
          exact fin true G1 H1 e1 rfl
theorem snd_not (hK : X.K = C.K) (ha : Snd F C W X a ca) : Snd F C W X (.UnaryOp .Not a pos) (.not ca) := by
  have parts : ∀ {σ : L2.St} {H : Hp} {Q : VK}, T C W (okR C.K) (ev F (.not ca)) σ H Q → T C W (okP C.K) (fun ρ => pk ca ρ (ev F ca ρ)) σ H fun x H1 => ∃ k, TruV X.K x H1 k ∧ Q (.bl (!k)) H1 := fun {σ H Q} q => by
    obtain ⟨G, ρ, st, fin⟩ := q
    simp only [ev] at fin
    refine T.bind (ok1 := okP C.K) st fin fun x r G1 H1 e1 p1 st1 fin1 => ?_
    cases ek : truthy r with
    | no => rw [ek] at fin1; exact fin1.elim
    | ex c => exact absurd ek truthy_ex
    | ok k =>
      rw [ek] at fin1
      exact ⟨k, by rw [hK]; exact tru_of st1.same p1 ek, fin1 _ G1 H1 (Ext.refl st1.same) (.bl _)⟩
  have h1 : PE X (.UnaryOp .Not a pos) (T C W (okR C.K) (ev F (.not ca))) := PE.imp (pe_notT ha.pk) fun σ H Q q => parts q
  refine ⟨h1, PE.imp h1 fun σ H Q q => T.toP q, PT.imp (pt_not ha.tst) fun σ H Q q => ?_, trivial, fun _ _ => rfl⟩
  obtain ⟨G, ρ, st, fin⟩ := q
  replace fin : Fin C W okB H σ ((ev F (.not ca) ρ).bind truthy) G H Q := fin
  simp only [ev] at fin
  refine ⟨G, ρ, st, ?_⟩
  show Fin C W okB H σ ((pk ca ρ (ev F ca ρ)).bind truthy) G H _
  cases ea : pk ca ρ (ev F ca ρ) with
  | no => rw [ea] at fin; exact fin.elim
  | ex c => rw [ea] at fin; exact fin
  | ok r =>
    rw [ea] at fin
    simp only [M.bind_ok] at fin ⊢
    cases ek : truthy r with
    | no => rw [ek] at fin; exact fin.elim
    | ex c => exact absurd ek truthy_ex
    | ok k =>
      rw [ek] at fin
      intro b' G1 H1 e1 o
      cases o
      exact fin (!k) G1 H1 e1 rfl
/-! ### displays, arguments -/
theorem pa_evs {es : List Expr} {cs : List CE} (h : Paired (fun e c => Snd F C W X e c) es cs) : PA X es (T C W (okA C.K) (evs F cs)) := by
  induction h with
  | nil => exact PA.imp pa_nil fun σ H Q ⟨G, ρ, st, fin⟩ => by simp only [evs] at fin; exact fin [] G H (Ext.refl st.same) .nil
  | cons h t ih =>
    refine PA.imp (pa_cons h.dat ih (star1 h.ns)) fun σ H Q ⟨G, ρ, st, fin⟩ => ?_
    simp only [evs] at fin
    refine T.bind (ok1 := okD C.K) st fin fun x d G1 H1 e1 p1 st1 fin1 => ?_
    refine T.bind (ok1 := okA C.K) st1 fin1 fun xs ds G2 H2 e2 p2 st2 fin2 => ?_
    exact fin2 _ G2 H2 (Ext.refl st2.same) (.cons (p1.mono e2.gg) p2)
theorem pa_evp {es : List Expr} {cs : List CE} (h : Paired (fun e c => Snd F C W X e c) es cs) : PA X es (T C W (okPA C.K) (evp F cs)) := by
  induction h with
  | nil => exact PA.imp pa_nil fun σ H Q ⟨G, ρ, st, fin⟩ => by simp only [evp] at fin; exact fin [] G H (Ext.refl st.same) .nil
  | cons h t ih =>
    refine PA.imp (pa_cons h.pk ih (star1 h.ns)) fun σ H Q ⟨G, ρ, st, fin⟩ => ?_
    simp only [evp] at fin
    refine T.bind (ok1 := okP C.K) st fin fun x d G1 H1 e1 p1 st1 fin1 => ?_
    refine T.bind (ok1 := okPA C.K) st1 fin1 fun xs ds G2 H2 e2 p2 st2 fin2 => ?_
    exact fin2 _ G2 H2 (Ext.refl st2.same) (.cons (p1.mono e2) p2)
theorem paired_ns {es : List Expr} {cs : List CE} (h : Paired (fun e c => Snd F C W X e c) es cs) : ∀ e ∈ es, NoStar e := by
  induction h with
  | nil => exact fun e he => by cases he
  | cons h t ih =>
    intro e he
    rcases List.mem_cons.mp he with rfl | he
    · exact h.ns
    · exact ih e he
theorem evs_len {ρ : PF.Env} : ∀ {cs : List CE} {ds : List D}, evs F cs ρ = .ok ds → ds.length = cs.length
  | [], ds, q => by simp only [evs] at q; cases q; rfl
  | c :: cs, ds, q => by
    simp only [evs] at q
    cases q1 : (ev F c ρ).toD with
    | no => rw [q1] at q; cases q
    | ex c => rw [q1] at q; cases q
    | ok d =>
      rw [q1] at q
      cases q2 : evs F cs ρ with
      | no => rw [q2] at q; cases q
      | ex c => rw [q2] at q; cases q
      | ok ds' =>
        rw [q2] at q
        cases q
        rw [List.length_cons, List.length_cons, evs_len q2]
theorem snd_tup {es : List Expr} {cs : List CE} {k : Nat} (hK : X.K = C.K) (h : Paired (fun e c => Snd F C W X e c) es cs) (hl : cs.length ≤ 1000) : Snd F C W X (.Tuple es k pos) (.tup cs) := by
  refine Snd.of hK (PE.imp (pe_tup (pa_evs h)) fun σ H Q ⟨G, ρ, st, fin⟩ => ?_) (by simp) (fun _ => rfl) trivial fun _ _ => rfl
  simp only [ev] at fin
  refine ⟨G, ρ, st, ?_⟩
  cases q : evs F cs ρ with
  | no => rw [q] at fin; exact fin.elim
  | ex c => rw [q] at fin; exact fin
  | ok ds =>
    rw [q] at fin
    intro xs G1 H1 e1 p1
    have l1 : xs.length ≤ sizeLine := by rw [p1.length, evs_len q]; exact Nat.le_of_lt (small1000 hl)
    exact ⟨l1, fun p hp => fin _ _ _ (e1.trans (Ext.new e1.gh hp)) (.tup (.inl (.inl upd_same)) l1 (p1.mono (same_upd (e1.gh.free hp))))⟩
theorem snd_lst {es : List Expr} {cs : List CE} (hK : X.K = C.K) (h : Paired (fun e c => Snd F C W X e c) es cs) (hl : cs.length ≤ 1000) : Snd F C W X (.List es pos) (.lst cs) := by
  refine Snd.of hK (PE.imp (pe_lst (pa_evs h)) fun σ H Q ⟨G, ρ, st, fin⟩ => ?_) (by simp) (fun _ => rfl) trivial fun _ _ => rfl
  simp only [ev] at fin
  refine ⟨G, ρ, st, ?_⟩
  cases q : evs F cs ρ with
  | no => rw [q] at fin; exact fin.elim
  | ex c => rw [q] at fin; exact fin
  | ok ds =>
    rw [q] at fin
    intro xs G1 H1 e1 p1
    have l1 : xs.length ≤ sizeLine := by rw [p1.length, evs_len q]; exact Nat.le_of_lt (small1000 hl)
    exact ⟨l1, fun p hp => fin _ _ _ (e1.trans (Ext.own e1.gh hp)) ⟨p, xs, rfl, upd_same, l1, p1, e1.hh.free hp, e1.gh.free hp⟩⟩
/-! ### subscripts, slices -/
def PlainE : Expr → Prop
  | .Slice _ _ _ _ => False
  | _ => True
theorem plain_ix {b : Expr} (h : PlainE b) : PlainIx b := by
  intro o i
  cases b <;> first | rfl | exact h.elim
theorem snd_ix (hK : X.K = C.K) (hp : PlainE b) (ha : Snd F C W X a ca) (hb : Snd F C W X b cb) : Snd F C W X (.Subscript a b pos) (.ix ca cb) := by
  have ob : IxR X (r2 C.K ixD) := hK ▸ ix_D
  refine Snd.of hK (PE.imp (pe_ix ob ha.pk hb.val (plain_ix hp)) fun σ H Q q => ?_) (by simp) (fun _ => rfl) trivial fun _ _ => rfl
  obtain ⟨G, ρ, st, fin⟩ := q
  simp only [ev] at fin
  refine T.bind (ok1 := okP C.K) st fin fun x ra G1 H1 e1 p1 st1 fin1 => ?_
  refine T.bind (ok1 := okR C.K) st1 fin1 fun y rb G2 H2 e2 p2 st2 fin2 => ?_
  obtain ⟨r, er, q⟩ := fin2.okE fun c => ixD_ex
  exact ⟨G2, ra, rb, r, st2.same, p1.mono e2, p2.pk, er, fun v G' H' e o => q v G' H' e (o.back (e1.trans e2).hh)⟩
abbrev okO : Hp → Hp → Hp → Option Int → Option Int → Prop := fun _ _ _ b a => b = a
theorem po_non : PO X none (T C W okO fun ρ => partC (.con .none) (ev F (.con .none) ρ).toD) := by
  refine ⟨fun pins s σ H Q I q => po_none.run pins s σ H Q I ?_⟩
  obtain ⟨G, ρ, st, fin⟩ := q
  exact fin none G H (Ext.refl st.same) rfl
theorem po_som (h : Snd F C W X e ce) (nn : ce ≠ .con .none) : PO X (some e) (T C W okO fun ρ => partC ce (ev F ce ρ).toD) := by
  refine ⟨fun pins s σ H Q I q => (po_some h.dat).run pins s σ H Q I ?_⟩
  obtain ⟨G, ρ, st, fin⟩ := q
  replace fin : Fin C W okO H σ ((ev F ce ρ).toD.bind partD) G H Q := by
    have : partC ce (ev F ce ρ).toD = (ev F ce ρ).toD.bind partD := by
      unfold partC
      split
      · exact absurd rfl nn
      · rfl
    rw [← this]
    exact fin
  refine T.bind (ok1 := okD C.K) st fin fun x d G1 H1 e1 p1 st1 fin1 => ?_
  obtain ⟨o, eo, q⟩ := fin1.okE fun c => partD_ex
  unfold partD at eo
  split at eo
  · cases eo
    cases (show Rep C.K G1 x (.int _) from p1)
    exact ⟨_, rfl, q _ G1 H1 (Ext.refl st1.same) rfl⟩
  · cases eo
theorem snd_sl {lo hi : Option Expr} {cl ch : CE} {p2 : Pos} (hK : X.K = C.K) (ha : Snd F C W X a ca) (hl : PO X lo (T C W okO fun ρ => partC cl (ev F cl ρ).toD)) (hh : PO X hi (T C W okO fun ρ => partC ch (ev F ch ρ).toD)) :
    Snd F C W X (.Subscript a (.Slice lo hi none p2) pos) (.sl ca cl ch) := by
  have ob : SlR X (r3 C.K) := hK ▸ sl_D
  refine Snd.of hK (PE.imp (pe_slice ob ha.pk hl hh) fun σ H Q q => ?_) (by simp) (fun _ => rfl) trivial fun _ _ => rfl
  obtain ⟨G, ρ, st, fin⟩ := q
  simp only [ev] at fin
  refine T.bind (ok1 := okP C.K) st fin fun x ra G1 H1 e1 p1 st1 fin1 => ?_
  refine T.bind (ok1 := okO) st1 fin1 fun l l' G2 H2 e2 p2 st2 fin2 => ?_
  refine T.bind (ok1 := okO) st2 fin2 fun u u' G3 H3 e3 p3 st3 fin3 => ?_
  cases p2
  cases p3
  obtain ⟨r, er, q⟩ := fin3.okE fun c => slD_ex
  exact ⟨G3, ra, r, st3.same, (p1.mono e2).mono e3, er, fun v G' H' e o => q v G' H' e (o.back ((e1.trans e2).trans e3).hh)⟩
/-! ### calls -/
/-- a def's promise: F on the data of its arguments -/
def spD (K : Fr) (cV : Nat → Value) (f : List D → M R) : Sp := fun vs H Q E => ∃ G ds, Same G H ∧ RepA K G vs ds ∧ match f ds with
  | .no => False
  | .ex c => ∀ G' H', Ext G H G' H' → E (cV c) none H'
  | .ok r => ∀ v G' H', Ext G H G' H' → VOk K G' H' H v r → Q v H'
theorem snd_call {i k : Nat} {x : Str} {f : Addr} {fd : FuncData} {ps : List Str} {es : List Expr} {cs : List CE} {p : Pos} (hK : X.K = C.K) (hF : FnOk X.prog X.w X.K X.mg X.base (L2.CX X.prog X.w) k f fd ps (spD C.K C.cV (F i)))
    (hr : Room k X.A) (hg : Gl X x) (hm : X.mg x = some (.ref f)) (hk : PySem.W.keepIn X.K (.ref f) = true) (hb : Binds X.K fd ps []) (tk : Takes X W) (hdb : (x == ("__debug__" : Str)) = false)
    (h : Paired (fun e c => Snd F C W X e c) es cs) : Snd F C W X (.Call (.Name x p) es [] pos) (.call i cs) := by
  have main : ∀ {σ : L2.St} {H : Hp} {Q : VK}, T C W (okR C.K) (ev F (.call i cs)) σ H Q → tCallS (spD C.K C.cV (F i)) (WE W) (T C W (okA C.K) (evs F cs)) σ H Q := fun {σ H Q} q => by
    obtain ⟨G, ρ, st, fin⟩ := q
    simp only [ev] at fin
    refine T.bind (ok1 := okA C.K) st fin fun xs ds G1 H1 e1 p1 st1 fin1 => ?_
    refine ⟨G1, ds, st1.same, p1, ?_⟩
    revert fin1
    cases F i ds with
    | no => exact id
    | ex c => exact id
    | ok r => exact fun q v G2 H2 e2 o => q v G2 H2 e2 (o.back e1.hh)
  refine Snd.of hK ?_ (by simp) (fun _ => rfl) trivial fun _ _ => rfl
  cases h with
  | nil =>
    refine ⟨fun pins s σ H Q I q => ?_⟩
    have q' := main q
    obtain ⟨G, ρ, st, fin⟩ := q'
    replace fin : Fin C W (okA C.K) H σ (evs F [] ρ) G H _ := fin
    simp only [evs] at fin
    have q2 := fin [] G H (Ext.refl st.same) .nil
    refine wpAny_Call_Name_kw (ld_glob I hg hm ?_ hdb)
    exact PySem.W.callWith_K0 I.kIn hk (run_fnS (us := []) (E := WE W) hF hr hb (passAt tk σ) I .nil q2)
  | cons h t =>
    refine PE.imp (pe_callS hF hr hg hm hk hb (fun σ => passAt tk σ) (pa_evs (.cons h t)) hdb (star1 h.ns) (star_none (paired_ns t))) fun σ H Q q => main q
theorem snd_blt {bl : Blt} {es : List Expr} {cs : List CE} {x : Str} {p : Pos} (hK : X.K = C.K) (hc : X.calm = true) (hu : X.A.units + 64 < cLine) (hg : Gl X x) (hm : X.mg x = none) (hv : bootBuiltins x = some bl.fn) (hn : x ≠ "__name__") (hdb : (x == ("__debug__" : Str)) = false)
    (h : Paired (fun e c => Snd F C W X e c) (a :: es) cs) : Snd F C W X (.Call (.Name x p) (a :: es) [] pos) (.blt bl cs) := by
  have ob : CallR X bl.fn (rB C.K (bltD bl)) := hK ▸ cr_blt hc hu
  have main : ∀ {σ : L2.St} {H : Hp} {Q : VK}, T C W (okR C.K) (ev F (.blt bl cs)) σ H Q → tCB (rB C.K (bltD bl)) (T C W (okPA C.K) (evp F cs)) σ H Q := fun {σ H Q} q => by
    obtain ⟨G, ρ, st, fin⟩ := q
    simp only [ev] at fin
    refine T.bind (ok1 := okPA C.K) st fin fun xs rs G1 H1 e1 p1 st1 fin1 => ?_
    obtain ⟨r, er, q⟩ := fin1.okE fun c => bltD_ex
    exact ⟨G1, rs, r, st1.same, p1, er, fun v G' H' e o => q v G' H' e (o.back e1.hh)⟩
  refine Snd.of hK ?_ (by simp) (fun _ => rfl) trivial fun _ _ => rfl
  have hs := star1 (es := es) (env := X.env) (paired_ns h a (by simp))
  have hp := star_none (env := X.env) (pos := pos) (es := es) fun e he => paired_ns h e (by simp [he])
  have pa := pa_evp h
  revert hv ob main
  cases bl <;> intro hv ob main <;> first
    | exact PE.imp (pe_callB ob hg hm hv pa hn hdb hs hp) fun σ H Q q => main q
    | exact PE.imp (pe_callTy ob hg hm hv pa hn hdb hs hp) fun σ H Q q => main q
/-! ### methods -/
def NoCall : Expr → Prop
  | .Call _ _ _ _ => False
  | _ => True
theorem base_of {o : Expr} {name : Str} {env : PySem.Env} {whole : Sem Value} (h : NoCall o) : attributeBase o name env whole = whole := by
  cases o <;> first | rfl | exact h.elim
theorem mth_plain (m : Mth) : PlainAttrs m.ty := by cases m <;> first | exact F.plainAttrs_str | exact F.plainAttrs_list
theorem mth_slot (m : Mth) : Slot m.ty m.nm m.id := by cases m <;> first | exact F.slot_str_endswith | exact F.slot_str_split | exact F.slot_str_join | exact F.slot_list_index
theorem mth_type (m : Mth) : typeOf (.builtin m.id) = pure (.type "method_descriptor") := by cases m <;> rfl
theorem mth_tyV {K : Fr} {G H : Hp} {m : Mth} {x : V} {r : R} (s : Same G H) (p : Pk K G H x r) (e : mTy m r = .ok ()) : tyV K m.ty x H := by
  have st : (match r.toD with
    | .str _ => M.ok ()
    | _ => M.no) = M.ok () → tyV K "str" x H := fun e => by
    split at e
    · rename_i a e1
      have z := p.str e1
      subst z
      exact rfl
    · cases e
  cases m with
  | index =>
    unfold mTy at e
    simp only at e
    split at e
    · rename_i xs e1
      obtain ⟨a, vs, rfl, ha, la, ra⟩ := p.lst s e1
      exact .inl ⟨rfl, _, ha⟩
    · cases e
  | _ => exact st e
theorem mTy_ex {m : Mth} {r : R} {c : Nat} : mTy m r ≠ .ex c := by
  intro h
  unfold mTy at h
  split at h <;> split at h <;> cases h
theorem snd_meth {m : Mth} {o : Expr} {co : CE} {cs : List CE} {apos cpos : Pos} (hK : X.K = C.K) (hc : NoCall o) (hl : (apos.endLine == cpos.line) = true) (ho : Snd F C W X o co) (h : Paired (fun e c => Snd F C W X e c) [a] cs) :
    Snd F C W X (.Call (.Attribute o m.nm apos) [a] [] cpos) (.meth m co cs) := by
  have hs := star1 (es := []) (env := X.env) (paired_ns h a (by simp))
  have ob : MtR X m.id (rM C.K m) := hK ▸ mt_D
  have few : ((backTo cpos (starEach [a] X.env)).all (fun x => !x.1) && (backToKw cpos (keywordEach [] X.env)).all (fun x => x.1.isSome) && decide (([a] : List Expr).length + ([] : List Keyword).length + (if ([] : List Keyword).isEmpty then 0 else 1) < 30)) = true := by
    rw [hs]
    rfl
  refine Snd.of hK (PE.imp (pe_bm (mth_plain m) (mth_slot m) (mth_type m) ob ho.pk (pa_evs h) (base_of hc) few hl hs (by rfl)) fun σ H Q q => ?_) (by simp) (fun _ => rfl) trivial fun _ _ => rfl
  obtain ⟨G, ρ, st, fin⟩ := q
  simp only [ev] at fin
  refine T.bind (ok1 := okP C.K) st fin fun x ra G1 H1 e1 p1 st1 fin1 => ?_
  cases et : mTy m ra with
  | no => rw [et] at fin1; exact fin1.elim
  | ex c => exact absurd et mTy_ex
  | ok u =>
    rw [et] at fin1
    simp only [M.bind_ok] at fin1
    refine ⟨by rw [hK]; exact mth_tyV st1.same p1 et, ?_⟩
    refine T.bind (ok1 := okA C.K) st1 fin1 fun xs ds G2 H2 e2 p2 st2 fin2 => ?_
    obtain ⟨r, er, q⟩ := fin2.okE fun c => mthD_ex
    exact ⟨G2, ra, ds, r, st2.same, p1.mono e2, p2, er, fun v G' H' e o => q v G' H' e (o.back (e1.trans e2).hh)⟩
/-! ### isinstance -/
theorem snd_isI {t : Ty} {y : Str} {p p2 : Pos} (hK : X.K = C.K) (hg : Gl X "isinstance") (hm : X.mg "isinstance" = none) (hgt : Gl X y) (hmt : X.mg y = none) (hvt : bootBuiltins y = some (.type t.name)) (hn : y ≠ "__name__") (hdb : (y == ("__debug__" : Str)) = false)
    (ha : Snd F C W X a ca) : Snd F C W X (.Call (.Name "isinstance" p) [a, .Name y p2] [] pos) (.isI ca t) := by
  have ob : CallR X (.builtin "isinstance") (rIsT C.K t) := hK ▸ cr_isT
  have pt : PE X (.Name y p2) (tC (.ty t.name)) := pe_bltn hgt hmt hvt rfl hn hdb
  have pa : PA X [a, .Name y p2] _ := pa_cons ha.pk (pa_cons pt pa_nil (by rfl)) (star1 ha.ns)
  refine Snd.of hK (PE.imp (pe_callB ob hg hm (by decide +kernel) pa (by decide) (by decide) (star1 ha.ns) (by rfl)) fun σ H Q q => ?_) (by simp) (fun _ => rfl) trivial fun _ _ => rfl
  obtain ⟨G, ρ, st, fin⟩ := q
  simp only [ev] at fin
  refine T.bind (ok1 := okP C.K) st fin fun v r G1 H1 e1 p1 st1 fin1 => ?_
  cases eb : isTy t r.toD with
  | no => rw [eb] at fin1; exact fin1.elim
  | ex c => exact absurd eb isTy_ex
  | ok b =>
    rw [eb] at fin1
    exact ⟨G1, v, r, b, st1.same, rfl, p1, eb, fin1 _ G1 H1 (Ext.refl st1.same) (.bl b)⟩
/-- isinstance of what an except suite handles -/
theorem snd_isE {i : Nat} {row : List Bool} {x y : Str} {vT : V} {p p1 p2 : Pos} (hK : X.K = C.K) (hg : Gl X "isinstance") (hm : X.mg "isinstance" = none) (ht : PE X (.Name y p2) (tC vT)) (hN : X.N[i]? = some x) (hv : Vis X.env.scope x) (hd : (x == ("__debug__" : Str)) = false) (hcd : (x == ("__classdict__" : Str)) = false)
    (hx : ∀ a c, C.xa = some (a, c) → CallR X (.builtin "isinstance") (fun xs H Q => xs = [.ref a, vT] ∧ Q (.bl (row.getD c false)) H)) (cs : List Nat) (hcs : ∀ a c, C.xa = some (a, c) → cs.contains c = row.getD c false) :
    Snd F C W X (.Call (.Name "isinstance" p) [.Name x p1, .Name y p2] [] pos) (.isE i cs) := by
  refine Snd.of hK (PE.by fun σ H Q q => ?_) (by simp) (fun _ => rfl) trivial fun _ _ => rfl
  obtain ⟨G, ρ, st, fin⟩ := q
  simp only [ev] at fin
  split at fin
  · rename_i e he
    obtain ⟨o, h1, h2, h3⟩ := st.at he (by simp)
    cases h3 with
    | exc hxa =>
      rename_i a
      have pa : PA X [.Name x p1, .Name y p2] _ := pa_cons (pe_var hN hv hd hcd) (pa_cons ht pa_nil (by rfl)) (by rfl)
      refine ⟨_, pe_callB (hx a e hxa) hg hm (by decide +kernel) pa (by decide) (by decide) (by rfl) (by rfl), ?_⟩
      refine ⟨.ref a, h1, rfl, ?_⟩
      rw [← hcs a e hxa]
      exact fin _ G H (Ext.refl st.same) (.bl _)
  · exact fin.elim
end
end PF

end

section
/-! PF5: targets, walks, comprehensions. -/
namespace PF
open PySem PySem.Spec PyProof.Rows L2

/-! ### targets -/
mutual
def tgS : Tg → List Nat
  | .name i => [i]
  | .tup ts => tgsS ts
def tgsS : List Tg → List Nat
  | [] => []
  | t :: ts => tgS t ++ tgsS ts
end
/-- the slots of vs are the only ones that differ -/
def Sim (vs : List Nat) (σ σ' : L2.St) : Prop := ∀ ws : List Nat, (∀ i ∈ vs, i ∈ ws) → wipe σ' ws = wipe σ ws
theorem wipe_set {σ : L2.St} {i : Nat} {x : Option V} : ∀ {ws : List Nat}, i ∈ ws → wipe (σ.set i x) ws = wipe σ ws
  | w :: ws, h => by
    have comm : ∀ (σ : L2.St) (ws : List Nat), wipe (σ.set i x) ws = wipe σ ws ∨ wipe (σ.set i x) ws = (wipe σ ws).set i x := by
      intro σ ws
      induction ws with
      | nil => exact .inr rfl
      | cons w ws ih =>
        unfold wipe
        by_cases hw : w = i
        · subst hw
          rcases ih with ih | ih
          · rw [ih]; exact .inl rfl
          · rw [ih, List.set_set]; exact .inl rfl
        · rcases ih with ih | ih
          · rw [ih]; exact .inl rfl
          · rw [ih, List.set_comm _ _ (Ne.symm hw)]; exact .inr rfl
    by_cases hw : w = i
    · subst hw
      unfold wipe
      rcases comm σ ws with q | q
      · rw [q]
      · rw [q, List.set_set]
    · have : i ∈ ws := by simpa [Ne.symm hw] using h
      unfold wipe
      rw [wipe_set this]
theorem wipe_none {σ : L2.St} : ∀ {ws : List Nat}, ∀ i ∈ ws, ∀ o, (wipe σ ws)[i]? = some o → o = none
  | w :: ws, i, h, o, e => by
    unfold wipe at e
    by_cases hw : w = i
    · subst hw
      rw [List.getElem?_set] at e
      by_cases hl : w < (wipe σ ws).length
      · rw [if_pos rfl, if_pos hl] at e; cases e; rfl
      · rw [if_pos rfl, if_neg hl] at e; cases e
    · rw [List.getElem?_set_ne hw] at e
      have hm : i ∈ ws := by simpa [Ne.symm hw] using h
      exact wipe_none i hm o e
theorem wipe_id {σ : L2.St} : ∀ {ws : List Nat}, (∀ i ∈ ws, ∀ o, σ[i]? = some o → o = none) → wipe σ ws = σ
  | [], _ => rfl
  | w :: ws, h => by
    unfold wipe
    rw [wipe_id fun i hi => h i (by simp [hi])]
    apply List.ext_getElem?
    intro j
    rw [List.getElem?_set]
    split
    · rename_i e
      subst e
      cases q : σ[w]? with
      | none =>
        have : ¬ w < σ.length := fun hl => by rw [List.getElem?_eq_getElem hl] at q; cases q
        rw [if_neg this]
      | some o =>
        have hl := (List.getElem?_eq_some_iff.mp q).1
        rw [if_pos hl, h w (by simp) o q]
    · rfl
theorem wipe_wipe {σ : L2.St} {ws : List Nat} : wipe (wipe σ ws) ws = wipe σ ws := wipe_id fun i hi o e => wipe_none i hi o e
/-- a target takes data -/
def GT (C : Cfg) (tg : Tg) : TG := fun v σ H Q => ∃ G ρ d ρ', St C σ ρ G H ∧ Rep C.K G v d ∧ setT tg d ρ = some ρ' ∧ ∀ σ', St C σ' ρ' G H → Sim (tgS tg) σ σ' → Q σ' H
def GTs (C : Cfg) (ts : List Tg) : TGs := fun vs σ H Q => ∃ G ρ ds ρ', St C σ ρ G H ∧ RepA C.K G vs ds ∧ setTs ts ds ρ = some ρ' ∧ ∀ σ', St C σ' ρ' G H → Sim (tgsS ts) σ σ' → Q σ' H
structure SndG (C : Cfg) (X : Cx) (e : Expr) (t : Tg) : Prop where
  run : PG X e (GT C t)
  ns : NoStar e
section
variable {C : Cfg} {X : Cx} {e : Expr} {t : Tg} {pos : Pos}
theorem assign1 {e : Expr} {es : List Expr} {env : PySem.Env} (h : NoStar e) : assignEach (e :: es) env = (false, assign e env) :: assignEach es env := by
  cases e <;> first | rfl | exact h.elim
theorem assign_len {env : PySem.Env} : ∀ {es : List Expr}, (∀ e ∈ es, NoStar e) → (assignEach es env).length = es.length
  | [], _ => rfl
  | e :: es, h => by rw [assign1 (h e (by simp)), List.length_cons, List.length_cons, assign_len fun x hx => h x (by simp [hx])]
theorem assign_idx {env : PySem.Env} : ∀ {es : List Expr}, (∀ e ∈ es, NoStar e) → (assignEach es env).findIdx? (·.1) = none
  | [], _ => rfl
  | e :: es, h => by
    rw [assign1 (h e (by simp)), List.findIdx?_cons]
    show (if false = true then _ else _) = none
    rw [if_neg Bool.false_ne_true, assign_idx fun x hx => h x (by simp [hx])]
    rfl
theorem sndG_name {i : Nat} {x : Str} (hN : X.N.Nodup) (hi : X.N[i]? = some x) (hx : Loc X.env.scope x) (hf : X.fn x = true ∨ X.env.scope.names.lookup x = some .local) : SndG C X (.Name x pos) (.name i) := by
  refine ⟨PG.imp (pg_name hN hi hx hf) fun v σ H Q q => ?_, trivial⟩
  obtain ⟨G, ρ, d, ρ', st, r, e, q⟩ := q
  cases e
  exact q _ (st.set r) fun ws h => wipe_set (h i (by simp [tgS]))
theorem pgs_of {es : List Expr} {ts : List Tg} (h : Paired (fun e t => SndG C X e t) es ts) : PGs X es (GTs C ts) := by
  induction h with
  | nil =>
    refine PGs.imp pgs_nil fun vs σ H Q q => ?_
    obtain ⟨G, ρ, ds, ρ', st, r, e, q⟩ := q
    cases ds with
    | nil =>
      cases r
      cases e
      exact ⟨rfl, q σ st fun _ _ => rfl⟩
    | cons d ds => cases e
  | cons h t ih =>
    refine PGs.imp (pgs_cons h.run ih (by rw [assign1 h.ns]; rfl)) fun vs σ H Q q => ?_
    obtain ⟨G, ρ, ds, ρ', st, r, e, q⟩ := q
    cases ds with
    | nil => cases e
    | cons d ds =>
      cases r with
      | cons r rr =>
        have e' := e
        simp only [setTs] at e'
        cases q1 : setT _ d ρ with
        | none => rw [q1] at e'; cases e'
        | some ρ1 =>
          rw [q1] at e'
          refine ⟨_, _, rfl, G, ρ, d, ρ1, st, r, q1, fun σ1 st1 s1 => ?_⟩
          refine ⟨G, ρ1, ds, ρ', st1, rr, e', fun σ2 st2 s2 => q σ2 st2 fun ws hw => ?_⟩
          rw [s2 ws fun i hi => hw i (by simp only [tgsS]; exact List.mem_append_right _ hi), s1 ws fun i hi => hw i (by simp only [tgsS]; exact List.mem_append_left _ hi)]
theorem pairedG_ns {es : List Expr} {ts : List Tg} (h : Paired (fun e t => SndG C X e t) es ts) : ∀ e ∈ es, NoStar e := by
  induction h with
  | nil => exact fun e he => by cases he
  | cons h t ih =>
    intro e he
    rcases List.mem_cons.mp he with rfl | he
    · exact h.ns
    · exact ih e he
theorem setTs_len : ∀ {ts : List Tg} {ds : List D} {ρ ρ' : PF.Env}, setTs ts ds ρ = some ρ' → ds.length = ts.length
  | [], [], _, _, _ => rfl
  | [], _ :: _, _, _, e => by simp only [setTs] at e; cases e
  | _ :: _, [], _, _, e => by simp only [setTs] at e; cases e
  | t :: ts, d :: ds, ρ, ρ', e => by
    simp only [setTs] at e
    cases q : setT t d ρ with
    | none => rw [q] at e; cases e
    | some ρ1 => rw [q] at e; rw [List.length_cons, List.length_cons, setTs_len e]
theorem sndG_tup {es : List Expr} {ts : List Tg} {k : Nat} (hK : X.K = C.K) (hc : X.calm = true) (h : Paired (fun e t => SndG C X e t) es ts) : SndG C X (.Tuple es k pos) (.tup ts) := by
  have ns := pairedG_ns h
  refine ⟨PG.imp (pg_tup (n := es.length) hc (pgs_of h) (assign_len ns) (assign_idx ns)) fun v σ H Q q => ?_, trivial⟩
  obtain ⟨G, ρ, d, ρ', st, r, e, q⟩ := q
  cases d with
  | tuple ds =>
    have e' : setTs ts ds ρ = some ρ' := by simpa only [setT] using e
    cases r with
    | tup h1 h2 h3 =>
      refine ⟨_, _, rfl, by rw [hK]; exact sqT_same st.same h1, ?_, G, ρ, ds, ρ', st, h3, e', fun σ' st' s' => q σ' st' fun ws hw => s' ws fun i hi => hw i (by simpa only [tgS] using hi)⟩
      rw [h3.length, setTs_len e', Paired.length h]
  | _ => simp only [setT] at e; cases e
end
/-! ### walks -/
structure WalkD (K : Fr) (G : Hp) (J : It) (ds : List D) : Prop where
  few : ds.length ≤ sizeLine
  goes : ∀ i H, i < ds.length → Same G H → J.go i H
  stops : ∀ H, Same G H → J.stop ds.length H
  yields : ∀ i G1 H1 x H', i < ds.length → Same G G1 → Same G1 H1 → J.yld i H1 x H' → ∃ G2 d, Ext G1 H1 G2 H' ∧ ds[i]? = some d ∧ Rep K G2 x d
section
variable {K : Fr} {G : Hp} {a b : Addr} {xs ys : List V} {ds es : List D}
theorem walkD_lst (h : SqL K G a xs) (l : xs.length ≤ sizeLine) (r : RepA K G xs ds) : WalkD K G (Itl K a) ds := by
  have len := r.length
  refine ⟨by omega, fun i H hi s => ?_, fun H s => ⟨xs, s.seq h, by omega⟩, fun i G1 H1 x H' hi s s1 y => ?_⟩
  · have hx : i < xs.length := by omega
    exact ⟨xs, xs[i], s.seq h, List.getElem?_eq_getElem hx⟩
  · obtain ⟨e, y⟩ := y
    subst e
    obtain ⟨d, hd, rd⟩ := r.get (y xs (s1.seq (s.seq h)))
    exact ⟨G1, d, Ext.refl s1, hd, rd.mono s⟩
theorem walkD_tup (h : SqT K G a xs) (l : xs.length ≤ sizeLine) (r : RepA K G xs ds) : WalkD K G (Itt K a) ds := by
  have len := r.length
  refine ⟨by omega, fun i H hi s => ?_, fun H s => ⟨xs, sqT_same s h, by omega⟩, fun i G1 H1 x H' hi s s1 y => ?_⟩
  · have hx : i < xs.length := by omega
    exact ⟨xs, xs[i], sqT_same s h, List.getElem?_eq_getElem hx⟩
  · obtain ⟨e, y⟩ := y
    subst e
    obtain ⟨d, hd, rd⟩ := r.get (y xs (sqT_same s1 (sqT_same s h)))
    exact ⟨G1, d, Ext.refl s1, hd, rd.mono s⟩
theorem walkD_str {z : Str} (h : z.length ≤ sizeLine) : WalkD K G (Its z) (z.cps.toList.map fun c => PyData.str ⟨#[c]⟩) := by
  have len : (z.cps.toList.map fun c => PyData.str ⟨#[c]⟩).length = z.cps.size := by rw [List.length_map]; simp
  refine ⟨by rw [len]; exact h, fun i H hi s => by rw [len] at hi; exact hi, fun H s => by show z.cps.size ≤ _; rw [len]; exact Nat.le_refl _, fun i G1 H1 x H' hi s s1 y => ?_⟩
  obtain ⟨e, c, hc, rfl⟩ := y
  subst e
  refine ⟨G1, .str ⟨#[c]⟩, Ext.refl s1, ?_, .str _⟩
  rw [List.getElem?_map]
  have : z.cps.toList[i]? = some c := by simpa using hc
  rw [this]
  rfl
theorem walkD_rng {lo : Int} {n : Nat} (hn : n ≤ sizeLine) : WalkD K G (Itr lo n) ((List.range n).map fun (i : Nat) => PyData.int (lo + (i : Int))) := by
  refine ⟨by simpa using hn, fun i H hi s => (show i < n by simpa using hi), fun H s => by simp [Itr], fun i G1 H1 x H' hi s s1 y => ?_⟩
  obtain ⟨e, y⟩ := y
  subst e y
  have hi' : i < n := by simpa using hi
  exact ⟨G1, _, Ext.refl s1, by rw [List.getElem?_map, List.getElem?_range hi']; rfl, .int _⟩
theorem sq_same {tp : Bool} {H H' : Hp} (s : Same H H') (h : Sq K tp H a xs) : Sq K tp H' a xs := by
  cases tp with
  | true => exact sqT_same s (show SqT K H a xs from h)
  | false => exact s.seq (show SqL K H a xs from h)
theorem pair_new {G1 H1 : Hp} {T : Addr} {x y : V} {d e : D} (s1 : Same G1 H1) (hT : H1 T = none) (hx : Rep K G1 x d) (hy : Rep K G1 y e) :
    Ext G1 H1 (upd G1 T (.tup [x, y])) (upd H1 T (.tup [x, y])) ∧ Rep K (upd G1 T (.tup [x, y])) (.ref T) (.tuple [d, e]) :=
  have u := same_upd (o := .tup [x, y]) (s1.free hT)
  ⟨Ext.new s1 hT, (.tup (.inl (.inl upd_same)) (by show 2 ≤ sizeLine; decide) (.cons (hx.mono u) (.cons (hy.mono u) .nil)))⟩
theorem walkD_enum {tp : Bool} (h : Sq K tp G a xs) (l : xs.length ≤ sizeLine) (r : RepA K G xs ds) : WalkD K G (ItE K tp a) (enumD ds) := by
  have len := r.length
  have el : (enumD ds).length = ds.length := by simp [enumD]
  refine ⟨by omega, fun i H hi s => ?_, fun H s => ⟨xs, sq_same s h, by omega⟩, fun i G1 H1 x H' hi s s1 y => ?_⟩
  · have hx : i < xs.length := by omega
    exact ⟨xs, xs[i], sq_same s h, List.getElem?_eq_getElem hx⟩
  · obtain ⟨T, x, rfl, hT, rfl, y⟩ := y
    obtain ⟨d, hd, rd⟩ := r.get (y xs (sq_same s1 (sq_same s h)))
    obtain ⟨e, rp⟩ := pair_new s1 hT (.int (i : Nat)) (rd.mono s)
    refine ⟨_, _, e, ?_, rp⟩
    simp [enumD, List.getElem?_map, List.getElem?_zipIdx, hd]
theorem walkD_zip {tp tp' : Bool} (h : Sq K tp G a xs) (h' : Sq K tp' G b ys) (l : xs.length ≤ sizeLine) (r : RepA K G xs ds) (r' : RepA K G ys es) : WalkD K G (ItZ K tp tp' a b) ((ds.zip es).map fun p => PyData.tuple [p.1, p.2]) := by
  have len := r.length
  have len' := r'.length
  have el : ((ds.zip es).map fun p => PyData.tuple [p.1, p.2]).length = min ds.length es.length := by simp
  refine ⟨by omega, fun i H hi s => ?_, fun H s => ⟨xs, ys, sq_same s h, sq_same s h', by omega⟩, fun i G1 H1 x H' hi s s1 y => ?_⟩
  · have hx : i < xs.length := by omega
    have hy : i < ys.length := by omega
    exact ⟨xs, ys, xs[i], ys[i], sq_same s h, sq_same s h', List.getElem?_eq_getElem hx, List.getElem?_eq_getElem hy⟩
  · obtain ⟨T, x, y, rfl, hT, rfl, y1, y2⟩ := y
    obtain ⟨d, hd, rd⟩ := r.get (y1 xs (sq_same s1 (sq_same s h)))
    obtain ⟨d', hd', rd'⟩ := r'.get (y2 ys (sq_same s1 (sq_same s h')))
    obtain ⟨e, rp⟩ := pair_new s1 hT (rd.mono s) (rd'.mono s)
    refine ⟨_, _, e, ?_, rp⟩
    have q : (ds.zip es)[i]? = some (d, d') := List.getElem?_zip_eq_some.mpr ⟨hd, hd'⟩
    rw [List.getElem?_map, q]
    rfl
end
/-- what is walked, told on data -/
def TIt (C : Cfg) (W : WX) (f : PF.Env → M (List D)) : TI := fun σ H R => ∃ G ρ, St C σ ρ G H ∧ match f ρ with
  | .no => False
  | .ex c => ∀ G' H', Ext G H G' H' → W (C.cV c) none σ H'
  | .ok ds => ∀ J G' H', Ext G H G' H' → WalkD C.K G' J ds → R J H'
noncomputable def itf (F : Nat → List D → M R) (k : IK) (ca cb : CE) (ρ : PF.Env) : M (List D) := (ev F ca ρ).bind fun x => (ev F cb ρ).bind fun y => itD k (.d x.toD) (.d y.toD)
structure SndI (F : Nat → List D → M R) (C : Cfg) (W : WX) (X : Cx) (tg e : Expr) (k : IK) (ca cb : CE) : Prop where
  run : PI X tg e (TIt C W (itf F k ca cb))
  nset : ∀ env x, foldedSetIterable e env x = pure x
section
variable {F : Nat → List D → M R} {C : Cfg} {W : WX} {X : Cx} {tg e a b c : Expr} {ce ca cb cc : CE} {pos : Pos}
theorem PI.by {t' : TI} (i : ∀ σ H R, t' σ H R → ∃ t, PI X tg e t ∧ t σ H R) : PI X tg e t' := ⟨fun pins s σ H R I q => by
  obtain ⟨t, h, q⟩ := i σ H R q
  exact h.run pins s σ H R I q⟩
theorem sndI_seq (hK : X.K = C.K) (h : Snd F C W X e ca) : SndI F C W X tg e .seq ca (.con .none) := by
  refine ⟨PI.by fun σ H R q => ?_, h.nset⟩
  obtain ⟨G, ρ, st, q⟩ := q
  simp only [itf, ev, M.bind_ok] at q
  cases q1 : ev F ca ρ with
  | no => rw [q1] at q; exact q.elim
  | ex c =>
    rw [q1] at q
    refine ⟨_, pi_list h.dat, G, ρ, st, ?_⟩
    show Fin C W (okD C.K) H σ (ev F ca ρ).toD G H _
    rw [q1]
    exact q
  | ok r =>
    rw [q1] at q
    simp only [M.bind_ok, itD, seqD] at q
    have dat : ∀ {R' : V → Hp → Prop}, (∀ v G' H', Ext G H G' H' → Rep C.K G' v r.toD → R' v H') → T C W (okD C.K) (fun ρ => (ev F ca ρ).toD) σ H R' := fun k => by
      refine ⟨G, ρ, st, ?_⟩
      show Fin C W (okD C.K) H σ (ev F ca ρ).toD G H _
      rw [q1]
      exact k
    cases hd : r.toD with
    | list xs =>
      rw [hd] at q
      refine ⟨_, pi_list h.dat, dat fun v G' H' e r => ?_⟩
      rw [hd] at r
      cases r with
      | lst h1 h2 h3 => exact ⟨_, rfl, ⟨_, by rw [hK]; exact e.gh.seq h1⟩, by rw [hK]; exact q _ G' H' e (walkD_lst h1 h2 h3)⟩
    | tuple xs =>
      rw [hd] at q
      refine ⟨_, pi_tup h.dat, dat fun v G' H' e r => ?_⟩
      rw [hd] at r
      cases r with
      | tup h1 h2 h3 => exact ⟨_, rfl, ⟨_, by rw [hK]; exact sqT_same e.gh h1⟩, by rw [hK]; exact q _ G' H' e (walkD_tup h1 h2 h3)⟩
    | str z =>
      rw [hd] at q
      by_cases hl : z.length ≤ sizeLine
      · simp only [charsD, M.chk_pos hl] at q
        refine ⟨_, pi_str h.dat, dat fun v G' H' e r => ?_⟩
        rw [hd] at r
        cases r
        exact ⟨z, rfl, q _ G' H' e (walkD_str hl)⟩
      · have hn : ∀ m : M (List D), M.chk (z.length ≤ sizeLine) m = .no := fun m => if_neg hl
        simp only [charsD, hn] at q
    | _ => rw [hd] at q; exact q.elim
/-- one argument, as data -/
theorem arg1 (ha : Snd F C W X a ca) : PA X [a] (tCons (T C W (okD C.K) fun ρ => (ev F ca ρ).toD) tNil) := pa_cons ha.dat pa_nil (star1 ha.ns)
theorem arg2 (ha : Snd F C W X a ca) (hb : Snd F C W X b cb) : PA X [a, b] (tCons (T C W (okD C.K) fun ρ => (ev F ca ρ).toD) (tCons (T C W (okD C.K) fun ρ => (ev F cb ρ).toD) tNil)) := pa_cons ha.dat (pa_cons hb.dat pa_nil (star1 hb.ns)) (star1 ha.ns)
theorem it1 {k : IK} {σ : L2.St} {H : Hp} {R : It → Hp → Prop} {R' : V → Hp → Prop} (q : TIt C W (itf F k ca (.con .none)) σ H R)
    (go : ∀ G v G' H' d, Ext G H G' H' → Rep C.K G' v d → (∀ ds, itD k (.d d) (.d .none) = .ok ds → ∀ J G2 H2, Ext G' H' G2 H2 → WalkD C.K G2 J ds → R J H2) → (∃ ds, itD k (.d d) (.d .none) = .ok ds) → R' v H')
    (ne : ∀ d c, itD k (.d d) (.d .none) ≠ .ex c) : T C W (okD C.K) (fun ρ => (ev F ca ρ).toD) σ H R' := by
  obtain ⟨G, ρ, st, q⟩ := q
  simp only [itf, ev, M.bind_ok] at q
  refine ⟨G, ρ, st, ?_⟩
  show Fin C W (okD C.K) H σ (ev F ca ρ).toD G H _
  cases q1 : ev F ca ρ with
  | no => rw [q1] at q; exact q.elim
  | ex c => rw [q1] at q; exact q
  | ok r =>
    rw [q1] at q
    simp only [M.bind_ok, PF.R.toD_d] at q
    intro v G' H' e rp
    cases q2 : itD k (.d r.toD) (.d .none) with
    | no => rw [q2] at q; exact q.elim
    | ex c => exact absurd q2 (ne _ _)
    | ok ds =>
      rw [q2] at q
      exact go G v G' H' _ e rp (fun ds' e' J G2 H2 e2 w => by rw [q2] at e'; cases e'; exact q J G2 H2 (e.trans e2) w) ⟨ds, q2⟩
theorem it2 {k : IK} {σ : L2.St} {H : Hp} {R : It → Hp → Prop} {R' : V → V → Hp → Prop} (q : TIt C W (itf F k ca cb) σ H R)
    (go : ∀ v w G' H' d d', Same G' H' → Rep C.K G' v d → Rep C.K G' w d' → (∀ ds, itD k (.d d) (.d d') = .ok ds → ∀ J G2 H2, Ext G' H' G2 H2 → WalkD C.K G2 J ds → R J H2) → (∃ ds, itD k (.d d) (.d d') = .ok ds) → R' v w H')
    (ne : ∀ d d' c, itD k (.d d) (.d d') ≠ .ex c) : T C W (okD C.K) (fun ρ => (ev F ca ρ).toD) σ H fun v H1 => T C W (okD C.K) (fun ρ => (ev F cb ρ).toD) σ H1 fun w H2 => R' v w H2 := by
  obtain ⟨G, ρ, st, q⟩ := q
  simp only [itf] at q
  refine ⟨G, ρ, st, ?_⟩
  show Fin C W (okD C.K) H σ (ev F ca ρ).toD G H _
  cases q1 : ev F ca ρ with
  | no => rw [q1] at q; exact q.elim
  | ex c => rw [q1] at q; exact q
  | ok r =>
    rw [q1] at q
    simp only [M.bind_ok] at q
    intro v G' H' e rp
    refine ⟨G', ρ, st.mono e, ?_⟩
    show Fin C W (okD C.K) H' σ (ev F cb ρ).toD G' H' _
    cases q3 : ev F cb ρ with
    | no => rw [q3] at q; exact q.elim
    | ex c => rw [q3] at q; exact fun G2 H2 e2 => q G2 H2 (e.trans e2)
    | ok r' =>
      rw [q3] at q
      simp only [M.bind_ok] at q
      intro w G2 H2 e2 rp2
      cases q2 : itD k (.d r.toD) (.d r'.toD) with
      | no => rw [q2] at q; exact q.elim
      | ex c => exact absurd q2 (ne _ _ _)
      | ok ds =>
        rw [q2] at q
        exact go v w G2 H2 _ _ e2.gh (rp.mono e2.gg) rp2 (fun ds' e' J G3 H3 e3 w => by rw [q2] at e'; cases e'; exact q J G3 H3 ((e.trans e2).trans e3) w) ⟨ds, q2⟩
theorem rngD_ex {i j : Int} {c : Nat} : rngD i j ≠ .ex c := by unfold rngD M.chk; split <;> simp
theorem seqD_ex {r : R} {c : Nat} : seqD r ≠ .ex c := by unfold seqD; split <;> simp
theorem itD_ex {k : IK} {x y : R} {c : Nat} : itD k x y ≠ .ex c := by
  cases k <;> simp only [itD]
  · cases q : seqD x with
    | ok a => simp
    | ex c => exact absurd q seqD_ex
    | no =>
      simp only [charsD]
      split
      · simp only [M.chk]; split <;> simp
      · simp
  · split
    · exact rngD_ex
    · simp
  · split
    · exact rngD_ex
    · simp
  · cases q : seqD x with
    | ok a => simp
    | ex c => exact absurd q seqD_ex
    | no => simp
  · cases q : seqD x with
    | ok a =>
      cases q2 : seqD y with
      | ok a => simp
      | ex c => exact absurd q2 seqD_ex
      | no => simp
    | ex c => exact absurd q seqD_ex
    | no => simp
theorem sndI_rng1 {p : Pos} (hg : Gl X "range") (hm : X.mg "range" = none) (ha : Snd F C W X a ca) : SndI F C W X tg (.Call (.Name "range" p) [a] [] pos) .rng1 ca (.con .none) := by
  refine ⟨PI.imp (pi_range1 hg hm (arg1 ha) (by rw [star1 ha.ns]; rfl)) fun σ H R q => ?_, fun _ _ => rfl⟩
  refine it1 q (fun G v G' H' d e rp k ⟨ds, hd⟩ => ?_) fun _ _ => itD_ex
  simp only [itD] at hd k
  split at hd
  · rename_i j he
    cases he
    cases rp
    have k' := k ds hd
    obtain ⟨⟨c1, c2, c3, c4, c5⟩, hd⟩ := M.chk_ok hd
    cases hd
    refine ⟨j, rfl, c3, c4, k' _ G' H' (Ext.refl e.gh) ?_⟩
    have e1 : (j - 0).toNat = j.toNat := by simp
    rw [e1]
    exact walkD_rng (by rw [e1] at c5; exact c5)
  · cases hd
theorem sndI_rng2 {p : Pos} (hg : Gl X "range") (hm : X.mg "range" = none) (ha : Snd F C W X a ca) (hb : Snd F C W X b cb) : SndI F C W X tg (.Call (.Name "range" p) [a, b] [] pos) .rng2 ca cb := by
  refine ⟨PI.imp (pi_range2 hg hm (arg2 ha hb) (by rw [star1 ha.ns, star1 hb.ns]; rfl) (by rw [star1 hb.ns]; rfl)) fun σ H R q => ?_, fun _ _ => rfl⟩
  refine it2 (R' := fun v w H2 => ∃ i j : Int, [v, w] = [.int i, .int j] ∧ _ ∧ R (Itr i (j - i).toNat) H2) q (fun v w G' H' d d' e rp rp' k ⟨ds, hd⟩ => ?_) fun _ _ _ => itD_ex
  simp only [itD] at hd k
  split at hd
  · rename_i i j he he'
    cases he
    cases he'
    cases rp
    cases rp'
    have k' := k ds hd
    obtain ⟨⟨c1, c2, c3, c4, c5⟩, hd⟩ := M.chk_ok hd
    cases hd
    exact ⟨i, j, rfl, ⟨c1, c2, c3, c4⟩, k' _ G' H' (Ext.refl e) (walkD_rng c5)⟩
  · cases hd
theorem seq_sq {K : Fr} {G : Hp} {v : V} {d : D} {ds : List D} (h : Rep K G v d) (e : seqD (.d d) = .ok ds) : ∃ tp a xs, v = .ref a ∧ Sq K tp G a xs ∧ xs.length ≤ sizeLine ∧ RepA K G xs ds := by
  cases h with
  | lst h1 h2 h3 => cases e; exact ⟨false, _, _, rfl, h1, h2, h3⟩
  | tup h1 h2 h3 => cases e; exact ⟨true, _, _, rfl, h1, h2, h3⟩
  | _ => cases e
theorem sndI_enum {p tpos : Pos} {elts : List Expr} {kk : Nat} (hK : X.K = C.K) (hg : Gl X "enumerate") (hm : X.mg "enumerate" = none) (ha : Snd F C W X a ca) : SndI F C W X (.Tuple elts kk tpos) (.Call (.Name "enumerate" p) [a] [] pos) .enum ca (.con .none) := by
  refine ⟨PI.imp (pi_enumQ hg hm (arg1 ha) (by rw [star1 ha.ns]; rfl)) fun σ H R q => ?_, fun _ _ => rfl⟩
  refine it1 q (fun G v G' H' d e rp k ⟨ds, hd⟩ => ?_) fun _ _ => itD_ex
  simp only [itD] at hd k
  cases q1 : seqD (.d d) with
  | no => rw [q1] at hd; cases hd
  | ex c => rw [q1] at hd; cases hd
  | ok es =>
    obtain ⟨tp, a, xs, rfl, h1, h2, h3⟩ := seq_sq rp q1
    rw [hK]
    exact ⟨tp, a, xs, rfl, sq_same e.gh h1, k _ (by rw [q1]; rfl) _ G' H' (Ext.refl e.gh) (walkD_enum h1 h2 h3)⟩
theorem sndI_zip {p tpos : Pos} {elts : List Expr} {kk : Nat} (hK : X.K = C.K) (hg : Gl X "zip") (hm : X.mg "zip" = none) (ha : Snd F C W X a ca) (hb : Snd F C W X b cb) : SndI F C W X (.Tuple elts kk tpos) (.Call (.Name "zip" p) [a, b] [] pos) .zip ca cb := by
  refine ⟨PI.imp (pi_zipQ hg hm (arg2 ha hb) (by rw [star1 ha.ns, star1 hb.ns]; rfl) (by rw [star1 hb.ns]; rfl)) fun σ H R q => ?_, fun _ _ => rfl⟩
  refine it2 (R' := fun v w H2 => ∃ tp tp' a b xs ys, [v, w] = [.ref a, .ref b] ∧ Sq X.K tp H2 a xs ∧ Sq X.K tp' H2 b ys ∧ R (ItZ X.K tp tp' a b) H2) q (fun v w G' H' d d' e rp rp' k ⟨ds, hd⟩ => ?_) fun _ _ _ => itD_ex
  simp only [itD] at hd k
  cases q1 : seqD (.d d) with
  | no => rw [q1] at hd; cases hd
  | ex c => rw [q1] at hd; cases hd
  | ok es =>
    cases q2 : seqD (.d d') with
    | no => rw [q1, q2] at hd; cases hd
    | ex c => rw [q1, q2] at hd; cases hd
    | ok es' =>
      obtain ⟨tp, a, xs, rfl, h1, h2, h3⟩ := seq_sq rp q1
      obtain ⟨tp', b, ys, rfl, h1', h2', h3'⟩ := seq_sq rp' q2
      rw [hK]
      exact ⟨tp, tp', a, b, xs, ys, rfl, sq_same e h1, sq_same e h1', k _ (by rw [q1, q2]; rfl) _ G' H' (Ext.refl e) (walkD_zip h1 h1' h2 h3 h3')⟩
end
end PF

end

section
/-! PF6: list comprehensions. -/
namespace PF
open PySem PySem.Spec PyProof.Rows L2
/-- in a block nothing may be raised -/
abbrev W0 : WX := fun _ _ _ _ => False
theorem M.noex_ok_iff {α : Type} {m : M α} {a : α} (h : M.noex m = .ok a) : m = .ok a := by
  cases m with
  | ok b => exact h
  | ex c => cases h
  | no => cases h
theorem M.bind_ok_iff {α β : Type} {m : M α} {f : α → M β} {b : β} (h : m.bind f = .ok b) : ∃ a, m = .ok a ∧ f a = .ok b := by
  cases m with
  | ok a => exact ⟨a, rfl, h⟩
  | ex c => cases h
  | no => cases h
theorem M.opt_ok_iff {α : Type} {m : Option α} {a : α} (h : M.opt m = .ok a) : m = some a := by
  cases m with
  | some b => cases h; rfl
  | none => cases h
theorem M.bind_ex_iff {α β : Type} {m : M α} {f : α → M β} {c : Nat} (h : m.bind f = .ex c) : m = .ex c ∨ ∃ a, m = .ok a ∧ f a = .ex c := by
  cases m with
  | ok a => exact .inr ⟨a, rfl, h⟩
  | ex c => cases h; exact .inl rfl
  | no => cases h
theorem noex_ex {α : Type} {m : M α} {c : Nat} : M.noex m ≠ .ex c := by cases m <;> simp
theorem compD_ex {tg : Tg} {t : PF.Env → M Bool} {e : PF.Env → M D} {ρ : PF.Env} {c : Nat} : ∀ {ds : List D}, compD tg t e ρ ds ≠ .ex c
  | [] => by simp [compD]
  | d :: ds => by
    intro h
    simp only [compD] at h
    rcases M.bind_ex_iff h with h | ⟨ρ', _, h⟩
    · exact opt_ex h
    rcases M.bind_ex_iff h with h | ⟨b, _, h⟩
    · exact noex_ex h
    split at h
    · rcases M.bind_ex_iff h with h | ⟨y, _, h⟩
      · exact noex_ex h
      rcases M.bind_ex_iff h with h | ⟨r, _, h⟩
      · exact compD_ex h
      · cases h
    · exact compD_ex h
section
variable {F : Nat → List D → M R} {C : Cfg} {W : WX} {X : Cx} {tg it elt : Expr} {ca cb ce : CE} {k : IK} {tgc : Tg} {ifs : List Expr} {cifs : List CE} {pos : Pos} {scope : Scope} {own : List (Str × Nat)}
/-- the list at D so far, over the base G1, H1 -/
structure LcAt (C : Cfg) (σ : L2.St) (ρ : PF.Env) (G1 H1 : Hp) (Dd : Addr) (ds rfin : List D) (rest : List D → M (List D)) (i : Nat) (Hi : Hp) : Prop where
  ex : ∃ Gi xs rs r', Ext G1 H1 Gi Hi ∧ Gi Dd = none ∧ Hi Dd = some (.lst xs) ∧ xs.length ≤ i ∧ RepA C.K Gi xs rs ∧ rest (ds.drop i) = .ok r' ∧ rfin = rs ++ r'
theorem comp_reading {σ : L2.St} {H : Hp} {Q : VK} (hs : ∀ i ∈ tgS tgc, i ∈ own.map (·.2)) (q : T C W (okR C.K) (ev F (.comp ce tgc k ca cb cifs (own.map (·.2)))) σ H Q) :
    tLc (TIt C W (itf F k ca cb)) (GT C tgc) (T C W0 okB (evc F cifs)) (T C W0 (okD C.K) fun ρ => (ev F ce ρ).toD) (own.map (·.2)) σ H Q := by
  obtain ⟨G, ρ, st, fin⟩ := q
  have hev : ev F (.comp ce tgc k ca cb cifs (own.map (·.2))) ρ = (itf F k ca cb ρ).bind fun ds => (compD tgc (evc F cifs) (fun ρ' => (ev F ce ρ').toD) (wipeE ρ (own.map (·.2))) ds).bind fun r => .ok (.o r) := by
    simp only [ev, itf, M.bind_assoc]
  rw [hev] at fin
  refine ⟨G, ρ, st, ?_⟩
  cases q1 : itf F k ca cb ρ with
  | no => rw [q1] at fin; exact fin.elim
  | ex c => rw [q1] at fin; exact fin
  | ok ds =>
    rw [q1] at fin
    simp only [M.bind_ok] at fin
    intro J G1 H1 e1 wd Dd hD
    generalize hrest : compD tgc (evc F cifs) (fun ρ' => (ev F ce ρ').toD) (wipeE ρ (own.map (·.2))) = rest at fin
    cases q2 : rest ds with
    | no => rw [q2] at fin; exact fin.elim
    | ex c => rw [← hrest] at q2; exact absurd q2 compD_ex
    | ok rfin =>
      rw [q2] at fin
      simp only [M.bind_ok] at fin
      have walk : Walk J ds.length (fun H => Same G1 H) (fun i H x H' => ∀ G2, Same G1 G2 → Same G2 H → ∃ G3 d, Ext G2 H G3 H' ∧ ds[i]? = some d ∧ Rep C.K G3 x d) :=
        ⟨fun i H hi s => wd.goes i H hi s, fun H s => wd.stops H s, fun i H x H' hi s y G2 s1 s2 => wd.yields i G2 H x H' hi s1 s2 y⟩
      refine lc_it walk (LcAt C σ ρ G1 H1 Dd ds rfin rest) ?_ ?_ ?_ ?_
      · refine ⟨G1, [], [], rfin, Ext.own e1.gh hD, e1.gh.free hD, upd_same, Nat.le_refl _, .nil, by simpa using q2, rfl⟩
      · rintro i Hi _ ⟨Gi, xs, rs, r', x1, _⟩
        exact x1.gg.trans x1.gh
      · rintro i x Hi H' hi ⟨Gi, xs, rs, r', x1, x2, x3, x4, x5, x6, x7⟩ y
        obtain ⟨G3, d, x8, x9, x10⟩ := y Gi x1.gg x1.gh
        have hdrop : ds.drop i = d :: ds.drop (i + 1) := by
          have hl : i < ds.length := hi
          rw [List.drop_eq_getElem_cons hl]
          have : ds[i] = d := by
            rw [List.getElem?_eq_getElem hl] at x9
            exact Option.some.inj x9
          rw [this]
        rw [hdrop, ← hrest] at x6
        simp only [compD] at x6
        obtain ⟨ρ', y1, x6⟩ := M.bind_ok_iff x6
        obtain ⟨b, y2, x6⟩ := M.bind_ok_iff x6
        have y1 := M.opt_ok_iff y1
        have y2 := M.noex_ok_iff y2
        have stw : St C (wipe σ (own.map (·.2))) (wipeE ρ (own.map (·.2))) G3 H' := (st.wipe _).mono ((e1.trans x1).trans x8)
        refine ⟨G3, _, d, ρ', stw, x10, y1, fun σ' st' sim => ⟨?_, ?_⟩⟩
        · rw [sim _ hs, wipe_wipe]
        refine ⟨G3, ρ', st', ?_⟩
        rw [y2]
        intro b' G4 H4 e4 o
        cases o
        have hD4 : H4 Dd = some (.lst xs) := e4.hh _ _ (x8.hh _ _ x3)
        have hG4 : G4 Dd = none := e4.nw _ (x8.nw _ x2 (by rw [x3]; simp)) (by rw [x8.hh _ _ x3]; simp)
        cases b with
        | false =>
          rw [if_neg Bool.false_ne_true] at x6 ⊢
          rw [hrest] at x6
          exact ⟨G4, xs, rs, r', (x1.trans x8).trans e4, hG4, hD4, by omega, x5.mono (x8.gg.trans e4.gg), x6, x7⟩
        | true =>
          rw [if_pos rfl] at x6 ⊢
          obtain ⟨yd, y3, x6⟩ := M.bind_ok_iff x6
          obtain ⟨r2, y4, x6⟩ := M.bind_ok_iff x6
          have y3 := M.noex_ok_iff y3
          cases x6
          refine ⟨G4, ρ', st'.mono e4, ?_⟩
          show Fin C W0 (okD C.K) H4 σ' (ev F ce ρ').toD G4 H4 _
          rw [y3]
          intro yv G5 H5 e5 rp
          have hD5 : H5 Dd = some (.lst xs) := e5.hh _ _ hD4
          have hG5 : G5 Dd = none := e5.nw _ hG4 (by rw [hD4]; simp)
          have e15 : Ext G1 H1 G5 H5 := ((x1.trans x8).trans e4).trans e5
          have few := wd.few
          refine ⟨xs, hD5, by omega, G5, xs ++ [yv], rs ++ [yd], r2, ⟨?_, e15.gg, ?_, e15.nw⟩, hG5, upd_same, by rw [List.length_append]; simp; omega, ?_, by rw [← hrest]; exact y4, by rw [x7]; simp⟩
          · intro c o hc
            rw [upd_ne (ne_of_none hc hD)]
            exact e15.hh c o hc
          · intro c o hc
            rw [upd_ne (ne_of_none hc hG5)]
            exact e15.gh c o hc
          · exact (x5.mono ((x8.gg.trans e4.gg).trans e5.gg)).append (.cons rp .nil)
      · rintro Hi ⟨Gi, xs, rs, r', x1, x2, x3, x4, x5, x6, x7⟩
        have few := wd.few
        have : r' = [] := by
          rw [← hrest] at x6
          simp only [List.drop_length, compD] at x6
          cases x6; rfl
        subst this
        rw [List.append_nil] at x7
        subst x7
        exact fin (.ref Dd) Gi Hi (e1.trans x1) ⟨Dd, xs, rfl, x3, by omega, x5, e1.hh.free hD, x2⟩
/-- the parts of a comprehension -/
structure CompParts (F : Nat → List D → M R) (C : Cfg) (W : WX) (X : Cx) (elt tg it : Expr) (ifs : List Expr) (scope : Scope) (own : List (Str × Nat)) (ce : CE) (tgc : Tg) (k : IK) (ca cb : CE) (cifs : List CE) : Prop where
  calm : X.calm = true
  nd : X.N.Nodup
  it : SndI F C W X tg it k ca cb
  blk : BlkOk X.N X.env.scope scope own
  own : ∀ i ∈ tgS tgc, i ∈ own.map (·.2)
  tg : ∀ (s : Shared) (H : Hp) (Cc : Addr) (cl : List (Str × Addr)) (fp : List Addr), SndG C (X.blk s H scope (compEnvC scope cl Cc X.env) fp) tg tgc
  few : ifs.length ≤ 1
  ifs : ∀ (s : Shared) (H : Hp) (Cc : Addr) (cl : List (Str × Addr)) (fp : List Addr), Paired (fun e c => Snd F C W0 (X.blk s H scope (compEnvC scope cl Cc X.env) fp) e c) ifs cifs
  elt : ∀ (s : Shared) (H : Hp) (Cc : Addr) (cl : List (Str × Addr)) (fp : List Addr), Snd F C W0 (X.blk s H scope (compEnvC scope cl Cc X.env) fp) elt ce
theorem pts_of {Y : Cx} (h : Paired (fun e c => Snd F C W0 Y e c) ifs cifs) (few : ifs.length ≤ 1) : PTs Y ifs (T C W0 okB (evc F cifs)) := by
  cases h with
  | nil =>
    refine PTs.imp pts_nil fun σ H Q ⟨G, ρ, st, fin⟩ => ?_
    simp only [evc] at fin
    exact fin true G H (Ext.refl st.same) rfl
  | cons h t =>
    cases t with
    | nil =>
      refine PTs.imp (pts_one h.tst) fun σ H Q ⟨G, ρ, st, fin⟩ => ⟨G, ρ, st, ?_⟩
      simp only [evc] at fin
      exact fin
    | cons _ _ => simp at few
theorem pe_comp (h : CompParts F C W X elt tg it ifs scope own ce tgc k ca cb cifs) : PE X (.ListComp elt [⟨tg, it, ifs, 0⟩] scope pos) (T C W (okR C.K) (ev F (.comp ce tgc k ca cb cifs (own.map (·.2))))) :=
  PE.imp (pe_lc h.calm h.nd h.it.run h.blk (fun s H Cc cl fp => (h.tg s H Cc cl fp).run) (fun s H Cc cl fp => pts_of (h.ifs s H Cc cl fp) h.few) (fun s H Cc cl fp => (h.elt s H Cc cl fp).dat) (fun x => h.it.nset X.env x)) fun σ H Q q => comp_reading h.own q
theorem snd_comp (hK : X.K = C.K) (h : CompParts F C W X elt tg it ifs scope own ce tgc k ca cb cifs) : Snd F C W X (.ListComp elt [⟨tg, it, ifs, 0⟩] scope pos) (.comp ce tgc k ca cb cifs (own.map (·.2))) :=
  Snd.of hK (pe_comp h) (by simp) (fun _ => rfl) trivial fun _ _ => rfl
/-- name = [..] whose value goes to the name within the comprehension -/
theorem ps_comp {i : Nat} {y : Str} {py spos : Pos} (h : CompParts F C W X elt tg it ifs scope own ce tgc k ca cb cifs) (hy : X.N[i]? = some y) (hyl : X.env.scope.names.lookup y = some .local)
    (hsw : swapsWith (.ListComp elt [⟨tg, it, ifs, 0⟩] scope pos) (some (.Name y py)) spos.line X.env = pure true) :
    PS X (.Assign [.Name y py] (.ListComp elt [⟨tg, it, ifs, 0⟩] scope pos) spos) (tAsg (T C W (okR C.K) (ev F (.comp ce tgc k ca cb cifs (own.map (·.2))))) (gName i)) :=
  PS.imp (ps_setLc h.calm h.nd hy hyl hsw h.it.run h.blk (fun s H Cc cl fp => (h.tg s H Cc cl fp).run) (fun s H Cc cl fp => pts_of (h.ifs s H Cc cl fp) h.few) (fun s H Cc cl fp => (h.elt s H Cc cl fp).dat) (fun x => h.it.nset X.env x)) fun D σ H q => comp_reading h.own q
end
end PF

end

section
/-! PF7: statements. -/
namespace PF
open PySem PySem.Spec PyProof.Rows L2
/-- how a statement ends -/
inductive Ctl where
  | nx (ρ : PF.Env)
  | rt (r : R)
  | bk (ρ : PF.Env)
  | ct (ρ : PF.Env)
  | ex (c : Nat) (ρ : PF.Env)
  | no
inductive CS where
  | asg (i : Nat) (keep : Bool) (e : CE)
  | asgT (tg : Tg) (e : CE)
  | par (i j : Nat) (a b : CE)
  | aug (i : Nat) (e : CE)
  | setix (i : Nat) (ix e : CE)
  | swp (i : Nat) (a b e : CE)
  | app (i : Nat) (e : CE)
  | expr (e : CE)
  | ret (e : CE)
  | retv (i : Nat)
  | retN
  | ite (c : CE) (a b : List CS)
  | whl (c : CE) (b : List CS)
  | for (tg : Tg) (k : IK) (a b : CE) (body : List CS)
  | brk
  | cnt
  | pass
  | raise (c : Nat)
  | try (body : List CS) (row : List Bool) (slot : Option Nat) (suite : List CS)
  | frz (is : List Nat) (s : CS)
  | dnew (i : Nat)
  | dput (i : Nat) (k e : CE)
  | bad
def store (keep : Bool) (r : R) : Sl := match keep, r with
  | true, .o ds => .own ds
  | _, r => .val r.toD
def frz1 (i : Nat) (ρ : PF.Env) : PF.Env := match ρ.getD i .no with
  | .own ds => ρ.set i (.val (.list ds))
  | _ => ρ
def frzE (is : List Nat) (ρ : PF.Env) : PF.Env := is.foldl (fun ρ i => frz1 i ρ) ρ
def Ctl.seq (c : Ctl) (k : PF.Env → Ctl) : Ctl := match c with
  | .nx ρ => k ρ
  | c => c
/-- a result, or the way out -/
def M.ctl {α : Type} (m : M α) (ρ : PF.Env) (k : α → Ctl) : Ctl := match m with
  | .ok a => k a
  | .ex c => .ex c ρ
  | .no => .no
@[simp] theorem M.ctl_ok {α : Type} (a : α) (ρ : PF.Env) (k : α → Ctl) : (M.ok a).ctl ρ k = k a := rfl
@[simp] theorem M.ctl_ex {α : Type} (c : Nat) (ρ : PF.Env) (k : α → Ctl) : (M.ex c : M α).ctl ρ k = .ex c ρ := rfl
@[simp] theorem M.ctl_no {α : Type} (ρ : PF.Env) (k : α → Ctl) : (M.no : M α).ctl ρ k = .no := rfl
@[simp] theorem Ctl.seq_nx (ρ : PF.Env) (k : PF.Env → Ctl) : (Ctl.nx ρ).seq k = k ρ := rfl
@[simp] theorem Ctl.seq_rt (r : R) (k : PF.Env → Ctl) : (Ctl.rt r).seq k = .rt r := rfl
@[simp] theorem Ctl.seq_bk (ρ : PF.Env) (k : PF.Env → Ctl) : (Ctl.bk ρ).seq k = .bk ρ := rfl
@[simp] theorem Ctl.seq_ct (ρ : PF.Env) (k : PF.Env → Ctl) : (Ctl.ct ρ).seq k = .ct ρ := rfl
@[simp] theorem Ctl.seq_ex (c : Nat) (ρ : PF.Env) (k : PF.Env → Ctl) : (Ctl.ex c ρ).seq k = .ex c ρ := rfl
@[simp] theorem Ctl.seq_no (k : PF.Env → Ctl) : Ctl.no.seq k = .no := rfl
def optC {α : Type} (o : Option α) (k : α → Ctl) : Ctl := match o with
  | some a => k a
  | none => .no
@[simp] theorem optC_some {α : Type} (a : α) (k : α → Ctl) : optC (some a) k = k a := rfl
@[simp] theorem optC_none {α : Type} (k : α → Ctl) : optC (none : Option α) k = .no := rfl
/-- a for's turns -/
def forD (tg : Tg) (b : PF.Env → Ctl) : List D → PF.Env → Ctl
  | [], ρ => .nx ρ
  | d :: ds, ρ => optC (setT tg d ρ) fun ρ1 => match b ρ1 with
    | .nx ρ2 => forD tg b ds ρ2
    | .ct ρ2 => forD tg b ds ρ2
    | .bk ρ2 => .nx ρ2
    | c => c
/-- a while of at most n turns -/
def whlN (t : PF.Env → M Bool) (b : PF.Env → Ctl) : Nat → PF.Env → Ctl
  | 0, _ => .no
  | n + 1, ρ => (t ρ).ctl ρ fun k => if k = true then (match b ρ with
    | .nx ρ2 => whlN t b n ρ2
    | .ct ρ2 => whlN t b n ρ2
    | .bk ρ2 => .nx ρ2
    | c => c) else .nx ρ
open Classical in
noncomputable def whlD (t : PF.Env → M Bool) (b : PF.Env → Ctl) (ρ : PF.Env) : Ctl := if h : ∃ n, whlN t b n ρ ≠ .no then whlN t b h.choose ρ else .no
theorem whlN_mono {t : PF.Env → M Bool} {b : PF.Env → Ctl} : ∀ {n m : Nat} {ρ : PF.Env}, whlN t b n ρ ≠ .no → n ≤ m → whlN t b m ρ = whlN t b n ρ
  | 0, _, _, h, _ => absurd rfl h
  | n + 1, 0, _, _, l => absurd l (by omega)
  | n + 1, m + 1, ρ, h, l => by
    simp only [whlN] at h ⊢
    cases q : t ρ with
    | no => rw [q] at h; exact absurd rfl h
    | ex c => rfl
    | ok k =>
      rw [q] at h
      simp only [M.ctl_ok] at h ⊢
      cases k with
      | false => rfl
      | true =>
        rw [if_pos rfl] at h
        rw [if_pos rfl, if_pos rfl]
        cases q2 : b ρ with
        | nx ρ2 => rw [q2] at h; exact whlN_mono h (by omega)
        | ct ρ2 => rw [q2] at h; exact whlN_mono h (by omega)
        | bk ρ2 => rfl
        | rt r => rfl
        | ex c ρ2 => rfl
        | no => rfl
theorem whlD_eq {t : PF.Env → M Bool} {b : PF.Env → Ctl} {n : Nat} {ρ : PF.Env} {c : Ctl} (h : whlN t b n ρ = c) (nn : c ≠ .no) : whlD t b ρ = c := by
  have h0 : ∃ n, whlN t b n ρ ≠ .no := ⟨n, by rw [h]; exact nn⟩
  unfold whlD
  rw [dif_pos h0]
  have h1 := h0.choose_spec
  have h2 : whlN t b n ρ ≠ .no := by rw [h]; exact nn
  rcases Nat.le_total n h0.choose with l | l
  · rw [whlN_mono h2 l, h]
  · rw [← whlN_mono h1 l, h]
theorem whlD_of {t : PF.Env → M Bool} {b : PF.Env → Ctl} {ρ : PF.Env} (nn : whlD t b ρ ≠ .no) : ∃ n, whlN t b n ρ = whlD t b ρ := by
  unfold whlD at nn ⊢
  split
  · rename_i h; exact ⟨h.choose, rfl⟩
  · rename_i h; rw [dif_neg h] at nn; exact absurd rfl nn
/-- one turn -/
theorem whlD_step {t : PF.Env → M Bool} {b : PF.Env → Ctl} {ρ : PF.Env} : whlD t b ρ = (t ρ).ctl ρ fun k => if k = true then (match b ρ with
    | .nx ρ2 => whlD t b ρ2
    | .ct ρ2 => whlD t b ρ2
    | .bk ρ2 => .nx ρ2
    | c => c) else .nx ρ := by
  have main : ∀ c, c ≠ Ctl.no → (((t ρ).ctl ρ fun k => if k = true then (match b ρ with
    | .nx ρ2 => whlD t b ρ2
    | .ct ρ2 => whlD t b ρ2
    | .bk ρ2 => .nx ρ2
    | c => c) else .nx ρ) = c) → whlD t b ρ = c := by
    intro c nc h
    cases q : t ρ with
    | no => rw [q] at h; exact absurd h.symm nc
    | ex e => rw [q] at h; exact whlD_eq (n := 1) (by simp only [whlN, q]; exact h) nc
    | ok k =>
      rw [q] at h
      simp only [M.ctl_ok] at h
      cases k with
      | false => exact whlD_eq (n := 1) (by simp only [whlN, q]; exact h) nc
      | true =>
        rw [if_pos rfl] at h
        cases q2 : b ρ with
        | nx ρ2 =>
          rw [q2] at h
          replace h : whlD t b ρ2 = c := h
          obtain ⟨n, hn⟩ := whlD_of (t := t) (b := b) (ρ := ρ2) (by rw [h]; exact nc)
          exact whlD_eq (n := n + 1) (by simp only [whlN, q, M.ctl_ok, if_pos, q2]; rw [hn]; exact h) nc
        | ct ρ2 =>
          rw [q2] at h
          replace h : whlD t b ρ2 = c := h
          obtain ⟨n, hn⟩ := whlD_of (t := t) (b := b) (ρ := ρ2) (by rw [h]; exact nc)
          exact whlD_eq (n := n + 1) (by simp only [whlN, q, M.ctl_ok, if_pos, q2]; rw [hn]; exact h) nc
        | bk ρ2 => exact whlD_eq (n := 1) (by simp only [whlN, q, M.ctl_ok, if_pos, q2]; rw [q2] at h; exact h) nc
        | rt r => exact whlD_eq (n := 1) (by simp only [whlN, q, M.ctl_ok, if_pos, q2]; rw [q2] at h; exact h) nc
        | ex e ρ2 => exact whlD_eq (n := 1) (by simp only [whlN, q, M.ctl_ok, if_pos, q2]; rw [q2] at h; exact h) nc
        | no => rw [q2] at h; exact absurd h.symm nc
  by_cases z : ((t ρ).ctl ρ fun k => if k = true then (match b ρ with
    | .nx ρ2 => whlD t b ρ2
    | .ct ρ2 => whlD t b ρ2
    | .bk ρ2 => .nx ρ2
    | c => c) else .nx ρ) = .no
  · rw [z]
    by_cases w : whlD t b ρ = .no
    · exact w
    · obtain ⟨n, hn⟩ := whlD_of w
      cases n with
      | zero => exact hn.symm
      | succ n =>
        exfalso
        simp only [whlN] at hn
        cases q : t ρ with
        | no => rw [q] at hn; exact w hn.symm
        | ex e => rw [q] at z; cases z
        | ok k =>
          rw [q] at hn z
          simp only [M.ctl_ok] at hn z
          cases k with
          | false => simp at z
          | true =>
            rw [if_pos rfl] at hn z
            cases q2 : b ρ with
            | nx ρ2 =>
              rw [q2] at hn z
              have := whlD_eq hn w
              simp only at z
              rw [z] at this
              exact w this.symm
            | ct ρ2 =>
              rw [q2] at hn z
              have := whlD_eq hn w
              simp only at z
              rw [z] at this
              exact w this.symm
            | bk ρ2 => rw [q2] at z; cases z
            | rt r => rw [q2] at z; cases z
            | ex e ρ2 => rw [q2] at z; cases z
            | no => rw [q2] at hn; exact w hn.symm
  · exact main _ z rfl
def Sl.isExc : Sl → Bool
  | .exc _ => true
  | _ => false
def clean (ρ : PF.Env) : Bool := ρ.all fun s => !s.isExc
/-- behind an except suite -/
def unslot (slot : Option Nat) (c : Ctl) : Ctl := match c with
  | .nx ρ => let ρ' := (match slot with
    | some i => ρ.set i .no
    | none => ρ)
    if clean ρ' = true then .nx ρ' else .no
  | .rt r => .rt r
  | _ => .no
/-- one item of an own list set -/
noncomputable def set1 (F : Nat → List D → M R) (i : Nat) (ci : CE) (d : D) (ρ : PF.Env) : Ctl := match ρ.getD i .no with
  | .own ds => (ev F ci ρ).ctl ρ fun k => match k with
    | .d (.int k) => optC (ixN ds.length k) fun j => .nx (ρ.set i (.own (ds.set j d)))
    | _ => .no
  | _ => .no
mutual
noncomputable def exS (F : Nat → List D → M R) : CS → PF.Env → Ctl
  | .asg i keep e, ρ => (ev F e ρ).ctl ρ fun r => .nx (ρ.set i (store keep r))
  | .asgT tg e, ρ => (ev F e ρ).toD.ctl ρ fun d => optC (setT tg d ρ) fun ρ' => .nx ρ'
  | .par i j a b, ρ => (evs F [a, b] ρ).ctl ρ fun ds => match ds with
    | [x, y] => .nx ((ρ.set i (.val x)).set j (.val y))
    | _ => .no
  | .aug i e, ρ => match ρ.getD i .no with
    | .val (.int n) => (ev F e ρ).ctl ρ fun r => match r with
      | .d (.int m) => .nx (ρ.set i (.val (.int (n + m))))
      | _ => .no
    | _ => .no
  | .setix i ix e, ρ => (ev F e ρ).toD.ctl ρ fun d => match ρ.getD i .no with
    | .own ds => (ev F ix ρ).ctl ρ fun k => match k with
      | .d (.int k) => optC (ixN ds.length k) fun j => .nx (ρ.set i (.own (ds.set j d)))
      | _ => .no
    | _ => .no
  | .swp i a b e, ρ => (ev F e ρ).toD.ctl ρ fun d => match d with
    | .tuple [x, y] => (set1 F i a x ρ).seq fun ρ' => set1 F i b y ρ'
    | _ => .no
  | .app i e, ρ => match ρ.getD i .no with
    | .own ds => (ev F e ρ).toD.ctl ρ fun d => if ds.length < sizeLine then .nx (ρ.set i (.own (ds ++ [d]))) else .no
    | _ => .no
  | .expr e, ρ => (ev F e ρ).ctl ρ fun _ => .nx ρ
  | .ret e, ρ => (ev F e ρ).ctl ρ fun r => .rt r
  | .retv i, ρ => (getP ρ i).ctl ρ fun r => .rt r
  | .retN, _ => .rt (.d .none)
  | .ite c a b, ρ => ((pk c ρ (ev F c ρ)).bind truthy).ctl ρ fun k => if k = true then exB F a ρ else exB F b ρ
  | .whl c b, ρ => whlD (fun ρ => (pk c ρ (ev F c ρ)).bind truthy) (exB F b) ρ
  | .for tg k a b body, ρ => (itf F k a b ρ).ctl ρ fun ds => forD tg (exB F body) ds ρ
  | .brk, ρ => .bk ρ
  | .cnt, ρ => .ct ρ
  | .pass, ρ => .nx ρ
  | .raise c, ρ => .ex c ρ
  | .try body row slot suite, ρ => match exB F body ρ with
    | .ex c ρ' => match row[c]? with
      | some true => unslot slot (exB F suite (match slot with
        | some i => ρ'.set i (.exc c)
        | none => ρ'))
      | some false => .ex c ρ'
      | none => .no
    | r => r
  | .frz is s, ρ => exS F s (frzE is ρ)
  | .dnew i, ρ => .nx (ρ.set i (.dct []))
  | .dput i k e, ρ => (ev F e ρ).toD.ctl ρ fun d => (dctOf ρ i).ctl ρ fun kvs => (ev F k ρ).toD.ctl ρ fun kd => optC (keyT kd) fun key => if kvs.length < sizeLine then .nx (ρ.set i (.dct (putD kvs key d))) else .no
  | .bad, _ => .no
noncomputable def exB (F : Nat → List D → M R) : List CS → PF.Env → Ctl
  | [], ρ => .nx ρ
  | s :: ss, ρ => (exS F s ρ).seq fun ρ' => exB F ss ρ'
end

/-! ### readings -/
def CtlOk (C : Cfg) (W : WX) (D : Ends) (G : Hp) : Ctl → Prop
  | .nx ρ => ∀ σ' G' H', Same G G' → St C σ' ρ G' H' → D.nx σ' H'
  | .bk ρ => ∀ σ' G' H', Same G G' → St C σ' ρ G' H' → D.bk σ' H'
  | .ct ρ => ∀ σ' G' H', Same G G' → St C σ' ρ G' H' → D.ct σ' H'
  | .rt r => ∀ v G' H', Ext C.G0 C.H0 G' H' → VOk C.K G' H' C.H0 v r → D.rt v H'
  | .ex c ρ => ∀ σ' G' H', Same G G' → St C σ' ρ G' H' → W (C.cV c) none σ' H'
  | .no => False
def TSt (C : Cfg) (W : WX) (f : PF.Env → Ctl) : TS := fun D σ H => ∃ G ρ, St C σ ρ G H ∧ CtlOk C W D G (f ρ)
theorem CtlOk.mono {C : Cfg} {W : WX} {D : Ends} {G G' : Hp} {c : Ctl} (h : CtlOk C W D G c) (s : Same G G') : CtlOk C W D G' c := by
  cases c with
  | nx ρ => exact fun σ' G2 H2 s2 st => h σ' G2 H2 (s.trans s2) st
  | bk ρ => exact fun σ' G2 H2 s2 st => h σ' G2 H2 (s.trans s2) st
  | ct ρ => exact fun σ' G2 H2 s2 st => h σ' G2 H2 (s.trans s2) st
  | rt r => exact h
  | ex c ρ => exact fun σ' G2 H2 s2 st => h σ' G2 H2 (s.trans s2) st
  | no => exact h
section
variable {α β : Type} {C : Cfg} {W : WX} {ok1 : Hp → Hp → Hp → β → α → Prop} {σ : L2.St} {ρ : PF.Env} {G H : Hp}
/-- an expression, then what is done with it -/
theorem T.ctl {f : PF.Env → M α} {k : α → Ctl} {D : Ends} {R : β → Hp → Prop} (st : St C σ ρ G H) (h : CtlOk C W D G ((f ρ).ctl ρ k))
    (go : ∀ b a G1 H1, Ext G H G1 H1 → ok1 G1 H1 H b a → St C σ ρ G1 H1 → f ρ = .ok a → CtlOk C W D G1 (k a) → R b H1) : T C W ok1 f σ H R := by
  refine ⟨G, ρ, st, ?_⟩
  cases q : f ρ with
  | no => rw [q] at h; exact h
  | ex c => rw [q] at h; exact fun G' H' e => h σ G' H' e.gg (st.mono e)
  | ok a => rw [q] at h; exact fun b G1 H1 e o => go b a G1 H1 e o (st.mono e) q (h.mono e.gg)
end
section
variable {C : Cfg} {σ : L2.St} {ρ : PF.Env} {G H : Hp}
theorem St.frz1 (h : St C σ ρ G H) (i : Nat) : ∃ G', Same G G' ∧ St C σ (frz1 i ρ) G' H := by
  unfold PF.frz1
  split
  · rename_i ds e
    obtain ⟨o, h1, h1', h2⟩ := h.at e (by simp)
    cases h2 with
    | own a1 a2 a3 a4 a5 =>
      rename_i a xs
      have sm : Same G (upd G a (.lst xs)) := same_upd a4
      refine ⟨upd G a (.lst xs), sm, by simp [h.len], h.ext.frz a5 a4 a1, fun j o s g1 g2 => ?_, fun j k s t b hjk g1 g2 g3 g4 g5 g6 => ?_⟩
      · by_cases hj : i = j
        · subst hj
          rw [List.getElem?_set] at g2
          by_cases hi : i < ρ.length
          · rw [if_pos rfl, if_pos hi] at g2
            cases g2
            rw [h1] at g1
            cases g1
            exact .val (.lst (.inl (.inl upd_same)) a2 (a3.mono sm))
          · rw [if_pos rfl, if_neg hi] at g2; cases g2
        · rw [List.getElem?_set_ne hj] at g2
          cases h.slot j o s g1 g2 with
          | no => exact .no _
          | val r => exact .val (r.mono sm)
          | exc r => exact .exc r
          | dct b1 b2 b3 b4 b5 =>
            rename_i b ys es
            refine .dct b1 b2 (b3.mono sm) ?_ b5
            rw [upd_ne (fun z => ?_)]
            · exact b4
            · subst z
              exact h.dist i j _ _ b hj h1' g2 rfl rfl h1 g1
          | own b1 b2 b3 b4 b5 =>
            rename_i b ys es
            refine .own b1 b2 (b3.mono sm) ?_ b5
            rw [upd_ne (fun z => ?_)]
            · exact b4
            · subst z
              exact h.dist i j _ _ b hj h1' g2 rfl rfl h1 g1
      · have ne : ∀ {k s}, (ρ.set i (.val (.list ds)))[k]? = some s → s.isOwn = true → i ≠ k := fun {k s} e f z => by
          subst z
          rw [List.getElem?_set] at e
          by_cases hi : i < ρ.length
          · rw [if_pos rfl, if_pos hi] at e; cases e; cases f
          · rw [if_pos rfl, if_neg hi] at e; cases e
        have n1 := ne g1 g3
        have n2 := ne g2 g4
        rw [List.getElem?_set_ne n1] at g1
        rw [List.getElem?_set_ne n2] at g2
        exact h.dist j k s t b hjk g1 g2 g3 g4 g5 g6
  · exact ⟨G, Same.refl _, h⟩
theorem St.frz : ∀ (is : List Nat) {ρ : PF.Env} {G : Hp}, St C σ ρ G H → ∃ G', Same G G' ∧ St C σ (frzE is ρ) G' H
  | [], ρ, G, h => ⟨G, Same.refl _, h⟩
  | i :: is, ρ, G, h => by
    obtain ⟨G1, s1, h1⟩ := h.frz1 i
    obtain ⟨G2, s2, h2⟩ := St.frz is h1
    exact ⟨G2, s1.trans s2, h2⟩
/-- a result is stored -/
theorem St.store {G' : Hp} {Hb : Hp} (hb : St C σ ρ G' Hb) (e : Ext G' Hb G H) {i : Nat} {v : V} {r : R} (keep : Bool) (o : VOk C.K G H Hb v r) : ∃ G2, Same G G2 ∧ St C (σ.set i (some v)) (ρ.set i (store keep r)) G2 H := by
  have h : St C σ ρ G H := hb.mono e
  have val : ∃ G2, Same G G2 ∧ St C (σ.set i (some v)) (ρ.set i (.val r.toD)) G2 H := by
    obtain ⟨G2, e2, s2, rp⟩ := frz_res e o
    exact ⟨G2, s2, (hb.mono e2).set rp⟩
  cases keep with
  | false => exact val
  | true =>
    cases r with
    | d x => exact val
    | o ds => exact ⟨G, Same.refl _, h.setOwn hb o e.hh⟩
end
end PF

end

section
/-! PF8: statements, one by one. -/
namespace PF
open PySem PySem.Spec PyProof.Rows L2
/-- no comprehension -/
def NoComp : Expr → Prop
  | .ListComp _ _ _ _ => False
  | .SetComp _ _ _ _ => False
  | .DictComp _ _ _ _ _ => False
  | _ => True
def NoTup : Expr → Prop
  | .Tuple _ _ _ => False
  | _ => True
theorem swaps_no {e : Expr} {t : Option Expr} {l : Nat} {env : PySem.Env} (h : NoComp e) : swapsWith e t l env = pure false := by
  cases e <;> first | rfl | exact h.elim
theorem sole_no {e t : Expr} {l : Nat} {env : PySem.Env} (h : NoComp e) : swapsWithSole [t] e l env = pure false := by
  rw [swapsWithSole]
  exact swaps_no h
theorem sole_sub {o i e : Expr} {sp : Pos} {l : Nat} {env : PySem.Env} : swapsWithSole [.Subscript o i sp] e l env = pure false := by
  rw [swapsWithSole]
  unfold swapsWith
  cases e <;> rfl
theorem swapped_no {t e : Expr} {env : PySem.Env} (h : NoTup e) : swappedStores [t] e env = pure none := by
  cases e <;> first
    | exact h.elim
    | (cases t <;> rfl)
theorem swapped_sub {o i e : Expr} {sp : Pos} {env : PySem.Env} : swappedStores [.Subscript o i sp] e env = pure none := by
  cases e <;> rfl
section
variable {C : Cfg} {σ : L2.St} {ρ : PF.Env} {G H : Hp}
/-- an own list is written -/
theorem St.upd (h : St C σ ρ G H) {i : Nat} {ds ds' : List D} {a : Addr} {xs xs' : List V} (e : ρ[i]? = some (.own ds)) (ea : σ[i]? = some (some (.ref a))) (hx : H a = some (.lst xs)) (hg : G a = none) (h0 : C.H0 a = none)
    (l : xs'.length ≤ sizeLine) (r : RepA C.K G xs' ds') : St C σ (ρ.set i (.own ds')) G (upd H a (.lst xs')) := by
  have sm : Same G (L2.upd H a (.lst xs')) := fun b o hb => by
    rw [upd_ne (fun z => by subst z; rw [hg] at hb; cases hb)]
    exact h.same b o hb
  refine ⟨by simp [h.len], ⟨fun b o hb => ?_, h.ext.gg, sm, h.ext.nw⟩, fun j o s g1 g2 => ?_, fun j k s t b hjk g1 g2 g3 g4 g5 g6 => ?_⟩
  · rw [upd_ne (fun z => by subst z; rw [h0] at hb; cases hb)]
    exact h.ext.hh b o hb
  · by_cases hj : i = j
    · subst hj
      rw [ea] at g1
      cases g1
      have hi := (List.getElem?_eq_some_iff.mp e).1
      rw [List.getElem?_set_self hi] at g2
      cases g2
      exact .own upd_same l r hg h0
    · rw [List.getElem?_set_ne hj] at g2
      cases h.slot j o s g1 g2 with
      | no => exact .no _
      | val r => exact .val r
      | exc r => exact .exc r
      | dct b1 b2 b3 b4 b5 =>
        rename_i b ys es
        refine .dct ?_ b2 b3 b4 b5
        rw [upd_ne (fun z => ?_)]
        · exact b1
        · subst z
          exact h.dist i j _ _ b hj e g2 rfl rfl ea g1
      | own b1 b2 b3 b4 b5 =>
        rename_i b ys es
        refine .own ?_ b2 b3 b4 b5
        rw [upd_ne (fun z => ?_)]
        · exact b1
        · subst z
          exact h.dist i j _ _ b hj e g2 rfl rfl ea g1
  · have old : ∀ {k : Nat} {s : Sl}, (ρ.set i (.own ds'))[k]? = some s → s.isOwn = true → ∃ s' : Sl, ρ[k]? = some s' ∧ s'.isOwn = true := fun {k s} e1 f => by
      by_cases hk : i = k
      · subst hk; exact ⟨_, e, rfl⟩
      · rw [List.getElem?_set_ne hk] at e1; exact ⟨s, e1, f⟩
    obtain ⟨s', q1, q2⟩ := old g1 g3
    obtain ⟨t', q3, q4⟩ := old g2 g4
    exact h.dist j k s' t' b hjk q1 q3 q2 q4 g5 g6
theorem St.own (h : St C σ ρ G H) {i : Nat} {ds : List D} (e : ρ.getD i .no = .own ds) : ∃ a xs, σ[i]? = some (some (.ref a)) ∧ ρ[i]? = some (.own ds) ∧ H a = some (.lst xs) ∧ xs.length ≤ sizeLine ∧ RepA C.K G xs ds ∧ G a = none ∧ C.H0 a = none := by
  obtain ⟨o, h1, h1', h2⟩ := h.at e (by simp)
  cases h2 with
  | own a1 a2 a3 a4 a5 => exact ⟨_, _, h1, h1', a1, a2, a3, a4, a5⟩
end
structure SndS (F : Nat → List D → M R) (C : Cfg) (W : WX) (X : Cx) (s : Stmt) (c : CS) : Prop where
  run : PS X s (TSt C W (exS F c))
structure SndB (F : Nat → List D → M R) (C : Cfg) (W : WX) (X : Cx) (s : List Stmt) (c : List CS) : Prop where
  run : PSs X s (TSt C W (exB F c))
section
variable {F : Nat → List D → M R} {C : Cfg} {W : WX} {X : Cx} {e a b tg it : Expr} {ce ca cb : CE} {pos : Pos} {tgc : Tg} {i : Nat} {x : Str} {px : Pos}
theorem asg_reading {keep : Bool} {D : Ends} {σ : L2.St} {H : Hp} (q : TSt C W (exS F (.asg i keep ce)) D σ H) : tAsg (T C W (okR C.K) (ev F ce)) (gName i) D σ H := by
  obtain ⟨G, ρ, st, q⟩ := q
  simp only [exS] at q
  refine T.ctl (ok1 := okR C.K) st q fun v r G1 H1 e1 o st1 _ q1 => ?_
  obtain ⟨G2, s2, st2⟩ := St.store st e1 keep o
  exact q1 _ G2 H1 s2 st2
theorem sndS_asg {keep : Bool} (hN : X.N.Nodup) (hi : X.N[i]? = some x) (hx : Loc X.env.scope x) (hf : X.fn x = true ∨ X.env.scope.names.lookup x = some .local) (nc : NoComp e) (he : Snd F C W X e ce) : SndS F C W X (.Assign [.Name x px] e pos) (.asg i keep ce) :=
  ⟨PS.imp (ps_set hN hi hx he.val (swaps_no nc) hf) fun D σ H q => asg_reading q⟩
theorem sndS_comp {keep : Bool} {elt tg it : Expr} {ifs : List Expr} {scope : Scope} {own : List (Str × Nat)} {k : IK} {cifs : List CE} {cpos : Pos} (h : CompParts F C W X elt tg it ifs scope own ce tgc k ca cb cifs) (hy : X.N[i]? = some x) (hyl : X.env.scope.names.lookup x = some .local)
    (hsw : swapsWith (.ListComp elt [⟨tg, it, ifs, 0⟩] scope cpos) (some (.Name x px)) pos.line X.env = pure true) :
    SndS F C W X (.Assign [.Name x px] (.ListComp elt [⟨tg, it, ifs, 0⟩] scope cpos) pos) (.asg i keep (.comp ce tgc k ca cb cifs (own.map (·.2)))) :=
  ⟨PS.imp (ps_comp h hy hyl hsw) fun D σ H q => asg_reading q⟩
theorem sndS_comp0 {keep : Bool} {elt tg it : Expr} {ifs : List Expr} {scope : Scope} {own : List (Str × Nat)} {k : IK} {cifs : List CE} {cpos : Pos} (h : CompParts F C W X elt tg it ifs scope own ce tgc k ca cb cifs)
    (hi : X.N[i]? = some x) (hx : Loc X.env.scope x) (hf : X.fn x = true ∨ X.env.scope.names.lookup x = some .local) (hsw : swapsWith (.ListComp elt [⟨tg, it, ifs, 0⟩] scope cpos) (some (.Name x px)) pos.line X.env = pure false) :
    SndS F C W X (.Assign [.Name x px] (.ListComp elt [⟨tg, it, ifs, 0⟩] scope cpos) pos) (.asg i keep (.comp ce tgc k ca cb cifs (own.map (·.2)))) :=
  ⟨PS.imp (ps_set h.nd hi hx (pe_comp h) hsw hf) fun D σ H q => asg_reading q⟩
theorem sndS_asgT {es : List Expr} {k : Nat} {tp : Pos} {ts : Tg} (hg : SndG C X (.Tuple es k tp) ts) (nc : NoComp e) (nt : NoTup e) (he : Snd F C W X e ce) : SndS F C W X (.Assign [.Tuple es k tp] e pos) (.asgT ts ce) := by
  refine ⟨PS.imp (ps_asg he.dat hg.run (sole_no nc) (swapped_no nt) (by rfl)) fun D σ H q => ?_⟩
  obtain ⟨G, ρ, st, q⟩ := q
  simp only [exS] at q
  refine T.ctl (ok1 := okD C.K) (k := fun d => optC (setT ts d ρ) fun ρ' => Ctl.nx ρ') st q fun v d G1 H1 e1 o st1 _ q1 => ?_
  cases qs : setT ts d ρ with
  | none => rw [qs] at q1; exact q1.elim
  | some ρ' =>
    rw [qs] at q1
    exact ⟨G1, ρ, d, ρ', st1, o, qs, fun σ' st' _ => q1 σ' G1 H1 (Same.refl _) st'⟩
theorem swapped_yes {x y : Str} {px py pt : Pos} {kt k2 : Nat} {pt2 : Pos} {env : PySem.Env} (hk : env.scope.kind = .function) (hx : env.scope.names.lookup x = some .local) (hy : env.scope.names.lookup y = some .local) (hl : (py.line == px.line) = true) (hne : x ≠ y)
    (na : NoStar a) (nb : NoStar b) (h1 : [a, b].all (foldedForSure 8) = false) (h2 : [a, b].all (constantsAlone 8) = false) : swappedStores [.Tuple [.Name x px, .Name y py] kt pt] (.Tuple [a, b] k2 pt2) env = pure (some [x, y]) := by
  have kx : env.kindOf x = some .local := hx
  have ky : env.kindOf y = some .local := hy
  have hb : env.blockKind = .function := by unfold PySem.Env.blockKind; rw [hk]; rfl
  have f : ∀ e : Expr, NoStar e → (match e with | .Starred .. => true | _ => false) = false := fun e he => by cases e <;> first | rfl | exact he.elim
  have hs : ([a, b].any fun | .Starred .. => true | _ => false) = false := by
    simp only [List.any_cons, List.any_nil, f a na, f b nb, Bool.or_false]
  have hd : [x, y].eraseDups = [x, y] := by
    have : (y == x) = false := by simpa using fun z => hne z.symm
    simp [List.eraseDups_cons, this]
  unfold swappedStores
  simp only [List.length_cons, List.length_nil, hb, hs, List.head?_cons, Option.map_some, Option.getD_some, List.filterMap_cons, List.filterMap_nil, kx, ky, h1, h2]
  simp [Expr.pos, hd, hl, hb]
  intro h
  rcases h with h | h
  · cases a <;> first | exact na.elim | cases h
  · cases b <;> first | exact nb.elim | cases h
theorem sndS_par {j : Nat} {y : Str} {py pt : Pos} {kt k2 : Nat} {pt2 : Pos} (hc : X.calm = true) (hN : X.N.Nodup) (hi : X.N[i]? = some x) (hj : X.N[j]? = some y) (hij : i ≠ j) (hx : X.env.scope.names.lookup x = some .local) (hy : X.env.scope.names.lookup y = some .local)
    (hk : X.env.scope.kind = .function) (hl : (py.line == px.line) = true) (hne : x ≠ y) (h1 : [a, b].all (foldedForSure 8) = false) (h2 : [a, b].all (constantsAlone 8) = false) (ha : Snd F C W X a ca) (hb : Snd F C W X b cb) :
    SndS F C W X (.Assign [.Tuple [.Name x px, .Name y py] kt pt] (.Tuple [a, b] k2 pt2) pos) (.par i j ca cb) := by
  refine ⟨PS.imp (ps_par hc hN hi hj hij hx hy (pa_evs (.cons ha (.cons hb .nil))) (swapped_yes hk hx hy hl hne ha.ns hb.ns h1 h2)) fun D σ H q => ?_⟩
  obtain ⟨G, ρ, st, q⟩ := q
  simp only [exS] at q
  refine T.ctl (ok1 := okA C.K) (f := evs F [ca, cb]) (k := fun ds => match ds with
    | [x, y] => Ctl.nx ((ρ.set i (.val x)).set j (.val y))
    | _ => .no) st q fun vs ds G1 H1 e1 o st1 _ q1 => ?_
  split at q1
  · cases o with
    | cons r1 o =>
      cases o with
      | cons r2 o =>
        cases o
        exact ⟨_, _, rfl, q1 _ G1 H1 (Same.refl _) ((st1.set r1).set r2)⟩
  · exact q1.elim
theorem sndS_aug (hN : X.N.Nodup) (hi : X.N[i]? = some x) (hx : Loc X.env.scope x) (hf : X.fn x = true ∨ X.env.scope.names.lookup x = some .local) (he : Snd F C W X e ce) : SndS F C W X (.AugAssign (.Name x px) .Add e pos) (.aug i ce) := by
  refine ⟨PS.imp (ps_aug hN hi hx he.val ip_add hf) fun D σ H q => ?_⟩
  obtain ⟨G, ρ, st, q⟩ := q
  simp only [exS] at q
  split at q
  · rename_i n hn
    obtain ⟨o, h1, _, h2⟩ := st.at hn (by simp)
    cases h2 with
    | val r =>
      cases r
      refine ⟨_, h1, ?_⟩
      refine T.ctl (ok1 := okR C.K) (k := fun r => match r with
        | .d (.int m) => Ctl.nx (ρ.set i (.val (.int (n + m))))
        | _ => .no) st q fun v r G1 H1 e1 o st1 _ q1 => ?_
      split at q1
      · cases (show Rep C.K G1 v (.int _) from o)
        exact ⟨_, _, rfl, rfl, q1 _ G1 H1 (Same.refl _) (st1.set (.int _))⟩
      · exact q1.elim
  · exact q.elim
theorem Rep_int {K : Fr} {G : Hp} {v : V} {n : Int} (h : Rep K G v (.int n)) : v = .int n := by cases h; rfl
theorem sndS_setix {spos : Pos} {cx : CE} (hi : X.N[i]? = some x) (hv : Vis X.env.scope x) (hd : (x == ("__debug__" : Str)) = false) (hcd : (x == ("__classdict__" : Str)) = false) (hp : PlainE it) (hit : Snd F C W X it cx) (he : Snd F C W X e ce) :
    SndS F C W X (.Assign [.Subscript (.Name x px) it spos] e pos) (.setix i cx ce) := by
  have ha : ∀ v, assign (.Subscript (.Name x px) it spos) X.env v = (do
      let ov ← holding [v] (eval (.Name x px) X.env)
      let iv ← holding [v, ov] (eval it X.env)
      standAt spos
      holding [v, ov, iv] (setItem ov iv v)
      release [v, ov, iv] []) := by
    intro v
    cases it <;> first | rfl | exact hp.elim
  refine ⟨PS.imp (ps_asg he.dat (pg_sub (pe_var hi hv hd hcd) hit.val set_list ha) sole_sub swapped_sub (by rfl)) fun D σ H q => ?_⟩
  obtain ⟨G, ρ, st, q⟩ := q
  simp only [exS] at q
  refine T.ctl (ok1 := okD C.K) (k := fun d => match ρ.getD i .no with
    | .own ds => (ev F cx ρ).ctl ρ fun k => match k with
      | .d (.int k) => optC (ixN ds.length k) fun j => Ctl.nx (ρ.set i (.own (ds.set j d)))
      | _ => .no
    | _ => .no) st q fun v d G1 H1 e1 o st1 _ q1 => ?_
  split at q1
  · rename_i ds hs
    obtain ⟨p, xs, g1, g2, g3, g4, g5, g6, g7⟩ := st1.own hs
    refine ⟨.ref p, g1, ?_⟩
    refine T.ctl (ok1 := okR C.K) (k := fun k => match k with
      | .d (.int k) => optC (ixN ds.length k) fun j => Ctl.nx (ρ.set i (.own (ds.set j d)))
      | _ => .no) st1 q1 fun w r G2 H2 e2 o2 st2 _ q2 => ?_
    split at q2
    · rename_i k _
      cases hj : ixN ds.length k with
      | none => rw [hj] at q2; exact q2.elim
      | some j =>
        rw [hj] at q2
        have hw := Rep_int (show Rep C.K G2 w (.int k) from o2)
        subst hw
        have len := g5.length
        refine ⟨p, xs, k, j, rfl, rfl, e2.hh _ _ g3, by rw [len]; exact hj, ?_⟩
        exact q2 σ G2 _ (Same.refl _) (st2.upd g2 g1 (e2.hh _ _ g3) (e2.nw _ g6 (by rw [g3]; simp)) g7 (by rw [List.length_set]; exact g4) ((g5.mono e2.gg).set j (o.mono e2.gg)))
    · exact q2.elim
  · exact q1.elim
theorem CtlOk.seqM {D : Ends} {G : Hp} {α : Type} {m : M α} {ρ : PF.Env} {f : α → Ctl} {K : PF.Env → Ctl} (h : CtlOk C W D G ((m.ctl ρ f).seq K)) : CtlOk C W D G (m.ctl ρ fun a => (f a).seq K) := by
  cases m <;> exact h
/-- one item set, as a target -/
theorem set1_tgt {cx : CE} {D : Ends} {σ : L2.St} {ρ : PF.Env} {G H : Hp} {v : V} {d : PF.D} {K : PF.Env → Ctl} {Q : L2.St → Hp → Prop} (st : St C σ ρ G H) (o : Rep C.K G v d) (q : CtlOk C W D G ((set1 F i cx d ρ).seq K))
    (go : ∀ σ' H' ρ' G', Same G G' → St C σ' ρ' G' H' → CtlOk C W D G' (K ρ') → Q σ' H') : gSub (tVar i) (T C W (okR C.K) (ev F cx)) rSetL v σ H Q := by
  unfold set1 at q
  split at q
  · rename_i ds hs
    obtain ⟨p, xs, g1, g2, g3, g4, g5, g6, g7⟩ := st.own hs
    refine ⟨.ref p, g1, ?_⟩
    refine T.ctl (ok1 := okR C.K) (k := fun k => (match k with
      | .d (.int k) => optC (ixN ds.length k) fun j => Ctl.nx (ρ.set i (.own (ds.set j d)))
      | _ => .no : Ctl).seq K) st (CtlOk.seqM q) fun w r G2 H2 e2 o2 st2 _ q2 => ?_
    split at q2
    · rename_i k _
      cases hj : ixN ds.length k with
      | none => rw [hj] at q2; exact q2.elim
      | some j =>
        rw [hj] at q2
        have hw := Rep_int (show Rep C.K G2 w (.int k) from o2)
        subst hw
        have len := g5.length
        refine ⟨p, xs, k, j, rfl, rfl, e2.hh _ _ g3, by rw [len]; exact hj, ?_⟩
        exact go _ _ _ G2 e2.gg (st2.upd g2 g1 (e2.hh _ _ g3) (e2.nw _ g6 (by rw [g3]; simp)) g7 (by rw [List.length_set]; exact g4) ((g5.mono e2.gg).set j (o.mono e2.gg))) q2
    · exact q2.elim
  · exact q.elim
theorem seq_nxK (c : Ctl) : c.seq Ctl.nx = c := by cases c <;> rfl
theorem swapped_subs {o i o2 i2 e : Expr} {sp sp2 tp : Pos} {k : Nat} {env : PySem.Env} : swappedStores [.Tuple [.Subscript o i sp, .Subscript o2 i2 sp2] k tp] e env = pure none := by
  cases e with
  | Tuple vs k2 p2 =>
    unfold swappedStores
    simp
  | _ => rfl
theorem sndS_swp {sp sp2 tp : Pos} {kt : Nat} {py : Pos} {it it2 : Expr} {cx cx2 : CE} (hK : X.K = C.K) (hc : X.calm = true) (hi : X.N[i]? = some x) (hv : Vis X.env.scope x) (hd : (x == ("__debug__" : Str)) = false) (hcd : (x == ("__classdict__" : Str)) = false) (nc : NoComp e) (hp : PlainE it) (hp2 : PlainE it2) (hit : Snd F C W X it cx) (hit2 : Snd F C W X it2 cx2) (he : Snd F C W X e ce) :
    SndS F C W X (.Assign [.Tuple [.Subscript (.Name x px) it sp, .Subscript (.Name x py) it2 sp2] kt tp] e pos) (.swp i cx cx2 ce) := by
  have ha : ∀ (p0 : Pos) (it : Expr) (sp : Pos), PlainE it → ∀ v, assign (.Subscript (.Name x p0) it sp) X.env v = (do
      let ov ← holding [v] (eval (.Name x p0) X.env)
      let iv ← holding [v, ov] (eval it X.env)
      standAt sp
      holding [v, ov, iv] (setItem ov iv v)
      release [v, ov, iv] []) := by
    intro p0 it sp hp v
    cases it <;> first | rfl | exact hp.elim
  have g1 := pg_sub (pe_var (pos := px) hi hv hd hcd) hit.val set_list (ha px it sp hp)
  have g2 := pg_sub (pe_var (pos := py) hi hv hd hcd) hit2.val set_list (ha py it2 sp2 hp2)
  refine ⟨PS.imp (ps_asg he.dat (pg_tup hc (pgs_cons g1 (pgs_cons g2 pgs_nil (by rfl)) (by rfl)) (by rfl) (by rfl)) (sole_no nc) swapped_subs (by rfl)) fun D σ H q => ?_⟩
  obtain ⟨G, ρ, st, q⟩ := q
  simp only [exS] at q
  refine T.ctl (ok1 := okD C.K) (k := fun d => match d with
    | .tuple [x, y] => (set1 F i cx x ρ).seq fun ρ' => set1 F i cx2 y ρ'
    | _ => .no) st q fun v d G1 H1 e1 o st1 _ q1 => ?_
  split at q1
  · rename_i y1 y2 _
    cases (show Rep C.K G1 v (.tuple [y1, y2]) from o) with
    | tup h1 h2 h3 =>
      rename_i a xs
      cases h3 with
      | cons r1 h3 =>
        cases h3 with
        | cons r2 h3 =>
          cases h3
          refine ⟨a, _, rfl, hK ▸ sqT_same st1.same h1, rfl, _, _, rfl, ?_⟩
          refine set1_tgt (K := fun ρ' => set1 F i cx2 y2 ρ') st1 r1 q1 fun σ' H' ρ' G' sm st' q2 => ?_
          refine ⟨_, _, rfl, ?_⟩
          rw [← seq_nxK (set1 F i cx2 y2 ρ')] at q2
          exact set1_tgt (K := Ctl.nx) st' (r2.mono sm) q2 fun σ2 H2 ρ2 G2 sm2 st2 q3 => ⟨rfl, q3 σ2 G2 H2 (Same.refl _) st2⟩
  · exact q1.elim
theorem few1 {env : PySem.Env} {cpos : Pos} (h : NoStar e) : ((backTo cpos (starEach [e] env)).all (fun x => !x.1) && (backToKw cpos (keywordEach [] env)).all (fun x => x.1.isSome)
      && decide (([e] : List Expr).length + ([] : List Keyword).length + (if ([] : List Keyword).isEmpty then 0 else 1) < 30)) = true := by
  rw [star1 h]
  rfl
theorem sndS_app {ap cp : Pos} (hK : X.K = C.K) (hi : X.N[i]? = some x) (hv : Vis X.env.scope x) (hd : (x == ("__debug__" : Str)) = false) (hcd : (x == ("__classdict__" : Str)) = false) (hline : (ap.endLine == cp.line) = true) (he : Snd F C W X e ce) :
    SndS F C W X (.Expr (.Call (.Attribute (.Name x px) "append" ap) [e] [] cp) pos) (.app i ce) := by
  have pa : PA X [e] (tCons (T C W (okD C.K) fun ρ => (ev F ce ρ).toD) tNil) := arg1 he
  refine ⟨PS.imp (ps_expr (pe_bm PySem.F.plainAttrs_list PySem.F.slot_list_append PySem.F.type_list_append (r := rAppend) mt_append (pe_var hi hv hd hcd) pa (by rfl) (few1 he.ns) hline (star1 he.ns) (by rfl)) (by rfl)) fun D σ H q => ?_⟩
  obtain ⟨G, ρ, st, q⟩ := q
  simp only [exS] at q
  split at q
  · rename_i ds hs
    obtain ⟨p, xs, g1, g2, g3, g4, g5, g6, g7⟩ := st.own hs
    refine ⟨.ref p, g1, .inl ⟨rfl, _, .inl (.inl g3)⟩, ?_⟩
    refine T.ctl (ok1 := okD C.K) (k := fun d => if ds.length < sizeLine then Ctl.nx (ρ.set i (.own (ds ++ [d]))) else .no) st q fun v d G1 H1 e1 o st1 _ q1 => ?_
    split at q1
    · rename_i hl
      have len := g5.length
      refine ⟨p, xs, v, rfl, rfl, e1.hh _ _ g3, by omega, ?_⟩
      exact q1 σ G1 _ (Same.refl _) (st1.upd g2 g1 (e1.hh _ _ g3) (e1.nw _ g6 (by rw [g3]; simp)) g7 (by rw [List.length_append]; simp; omega) ((g5.mono e1.gg).append (.cons o .nil)))
    · exact q1.elim
  · exact q.elim
theorem sndS_expr (nc : NoComp e) (he : Snd F C W X e ce) : SndS F C W X (.Expr e pos) (.expr ce) := by
  refine ⟨PS.imp (ps_expr he.val (swaps_no nc)) fun D σ H q => ?_⟩
  obtain ⟨G, ρ, st, q⟩ := q
  simp only [exS] at q
  exact T.ctl (ok1 := okR C.K) (k := fun _ => Ctl.nx ρ) st q fun v r G1 H1 e1 o st1 _ q1 => q1 σ G1 H1 (Same.refl _) st1
theorem sndS_ret (he : Snd F C W X e ce) : SndS F C W X (.Return (some e) pos) (.ret ce) := by
  refine ⟨PS.imp (ps_ret he.val) fun D σ H q => ?_⟩
  obtain ⟨G, ρ, st, q⟩ := q
  simp only [exS] at q
  exact T.ctl (ok1 := okR C.K) (k := fun r => Ctl.rt r) st q fun v r G1 H1 e1 o st1 _ q1 => q1 v G1 H1 st1.ext (o.back st.ext.hh)
theorem sndS_retv (hi : X.N[i]? = some x) (hv : Vis X.env.scope x) (hd : (x == ("__debug__" : Str)) = false) (hcd : (x == ("__classdict__" : Str)) = false) : SndS F C W X (.Return (some (.Name x px)) pos) (.retv i) := by
  refine ⟨PS.imp (ps_ret (pe_var hi hv hd hcd)) fun D σ H q => ?_⟩
  obtain ⟨G, ρ, st, q⟩ := q
  simp only [exS] at q
  unfold getP at q
  split at q
  · rename_i d hs
    obtain ⟨o, h1, _, h2⟩ := st.at hs (by simp)
    cases h2 with
    | val r => exact ⟨_, h1, q _ G H st.ext r⟩
  · rename_i ds hs
    obtain ⟨p, xs, g1, g2, g3, g4, g5, g6, g7⟩ := st.own hs
    exact ⟨_, g1, q _ G H st.ext ⟨p, xs, rfl, g3, g4, g5, g7, g6⟩⟩
  · exact q.elim
theorem sndS_retN : SndS F C W X (.Return none pos) .retN := by
  refine ⟨PS.imp ps_retN fun D σ H q => ?_⟩
  obtain ⟨G, ρ, st, q⟩ := q
  simp only [exS] at q
  exact q .non G H st.ext .non
theorem sndS_pass : SndS F C W X (.Pass pos) .pass := ⟨PS.imp ps_pass fun D σ H ⟨G, ρ, st, q⟩ => by simp only [exS] at q; exact q σ G H (Same.refl _) st⟩
theorem sndS_brk : SndS F C W X (.Break pos) .brk := ⟨PS.imp ps_break fun D σ H ⟨G, ρ, st, q⟩ => by simp only [exS] at q; exact q σ G H (Same.refl _) st⟩
theorem sndS_cnt : SndS F C W X (.Continue pos) .cnt := ⟨PS.imp ps_continue fun D σ H ⟨G, ρ, st, q⟩ => by simp only [exS] at q; exact q σ G H (Same.refl _) st⟩
theorem sndS_doc {y : Str} {j : Nat} {p2 : Pos} : SndS F C W X (.Expr (.Constant (.str y) j p2) pos) .pass := ⟨PS.imp ps_doc fun D σ H ⟨G, ρ, st, q⟩ => by simp only [exS] at q; exact q σ G H (Same.refl _) st⟩
theorem sndS_frz {s : Stmt} {cs : CS} (is : List Nat) (h : SndS F C W X s cs) : SndS F C W X s (.frz is cs) := by
  refine ⟨PS.imp h.run fun D σ H q => ?_⟩
  obtain ⟨G, ρ, st, q⟩ := q
  simp only [exS] at q
  obtain ⟨G', s, st'⟩ := St.frz is st
  exact ⟨G', _, st', q.mono s⟩
theorem sndB_nil : SndB F C W X [] [] := ⟨PSs.imp pss_nil fun D σ H ⟨G, ρ, st, q⟩ => by simp only [exB] at q; exact q σ G H (Same.refl _) st⟩
theorem sndB_cons {s : Stmt} {ss : List Stmt} {cs : CS} {css : List CS} (h : SndS F C W X s cs) (t : SndB F C W X ss css) : SndB F C W X (s :: ss) (cs :: css) := by
  refine ⟨PSs.imp (pss_cons h.run t.run) fun D σ H q => ?_⟩
  obtain ⟨G, ρ, st, q⟩ := q
  simp only [exB] at q
  refine ⟨G, ρ, st, ?_⟩
  cases q1 : exS F cs ρ with
  | nx ρ' =>
    rw [q1] at q
    exact fun σ' G' H' s st' => ⟨G', ρ', st', q.mono s⟩
  | _ => rw [q1] at q; exact q
theorem sndS_ite {c : Expr} {cc : CE} {as bs : List Stmt} {cas cbs : List CS} (hc : Snd F C W X c cc) (ha : SndB F C W X as cas) (hb : SndB F C W X bs cbs) : SndS F C W X (.If c as bs pos) (.ite cc cas cbs) := by
  refine ⟨PS.imp (ps_if hc.tst ha.run hb.run) fun D σ H q => ?_⟩
  obtain ⟨G, ρ, st, q⟩ := q
  simp only [exS] at q
  refine T.ctl (ok1 := okB) (f := fun ρ => (pk cc ρ (ev F cc ρ)).bind truthy) (k := fun k => if k = true then exB F cas ρ else exB F cbs ρ) st q fun k' k G1 H1 e1 o st1 _ q1 => ?_
  cases o
  cases k' with
  | true =>
    rw [if_pos rfl] at q1 ⊢
    exact ⟨G1, ρ, st1, q1⟩
  | false =>
    rw [if_neg Bool.false_ne_true] at q1 ⊢
    exact ⟨G1, ρ, st1, q1⟩
theorem sndS_whl {c : Expr} {cc : CE} {as : List Stmt} {cas : List CS} (hp : PassesOwn (model X.prog X.w) X.A X.env X.xe) (hc : Snd F C W X c cc) (ha : SndB F C W X as cas) : SndS F C W X (.While c as [] pos) (.whl cc cas) := by
  refine ⟨PS.imp (ps_while hp hc.tst ha.run) fun D σ H q => ?_⟩
  obtain ⟨G, ρ, st, q⟩ := q
  simp only [exS] at q
  generalize hres : whlD (fun ρ => (pk cc ρ (ev F cc ρ)).bind truthy) (exB F cas) ρ = res at q
  have nn : res ≠ .no := fun z => by rw [z] at q; exact q
  obtain ⟨n, hn⟩ := whlD_of (t := fun ρ => (pk cc ρ (ev F cc ρ)).bind truthy) (b := exB F cas) (ρ := ρ) (by rw [hres]; exact nn)
  rw [hres] at hn
  refine ⟨fun m σ H => ∃ G1 ρ1, Same G G1 ∧ St C σ ρ1 G1 H ∧ whlN (fun ρ => (pk cc ρ (ev F cc ρ)).bind truthy) (exB F cas) m ρ1 = res, ⟨n, G, ρ, Same.refl _, st, hn⟩, ?_⟩
  rintro m σ1 H1 ⟨G1, ρ1, s1, st1, h1⟩
  cases m with
  | zero => exact absurd h1.symm nn
  | succ m =>
    simp only [whlN] at h1
    have q1 := q.mono s1
    rw [← h1] at q1
    refine T.ctl (ok1 := okB) (f := fun ρ => (pk cc ρ (ev F cc ρ)).bind truthy) (k := _) st1 q1 fun k' k G2 H2 e2 o st2 ek q2 => ?_
    cases o
    replace ek : (pk cc ρ1 (ev F cc ρ1)).bind truthy = .ok k' := ek
    rw [ek] at h1
    simp only [M.ctl_ok] at h1
    cases k' with
    | false =>
      rw [if_neg Bool.false_ne_true] at q2 ⊢
      exact q2 σ1 G2 H2 (Same.refl _) st2
    | true =>
      rw [if_pos rfl] at q2 h1 ⊢
      have again : ∀ ρ2, whlN (fun ρ => (pk cc ρ (ev F cc ρ)).bind truthy) (exB F cas) m ρ2 = res → ∃ N : L2.St → Hp → Prop, (∀ σ' H', N σ' H' → ∃ m', m' < m + 1 ∧ ∃ G1 ρ1, Same G G1 ∧ St C σ' ρ1 G1 H' ∧ whlN (fun ρ => (pk cc ρ (ev F cc ρ)).bind truthy) (exB F cas) m' ρ1 = res) ∧
          ∀ σ' G' H', Same G2 G' → St C σ' ρ2 G' H' → N σ' H' := fun ρ2 hr =>
        ⟨fun σ' H' => ∃ G', Same G2 G' ∧ St C σ' ρ2 G' H', fun σ' H' ⟨G', s', st'⟩ => ⟨m, by omega, G', ρ2, (s1.trans e2.gg).trans s', st', hr⟩, fun σ' G' H' s' st' => ⟨G', s', st'⟩⟩
      cases qb : exB F cas ρ1 with
      | nx ρ2 =>
        rw [qb] at h1
        obtain ⟨N, n1, n2⟩ := again ρ2 h1
        exact ⟨N, n1, G2, ρ1, st2, by rw [qb]; exact n2⟩
      | ct ρ2 =>
        rw [qb] at h1
        obtain ⟨N, n1, n2⟩ := again ρ2 h1
        exact ⟨N, n1, G2, ρ1, st2, by rw [qb]; exact n2⟩
      | bk ρ2 =>
        rw [qb] at q2
        exact ⟨fun _ _ => False, fun _ _ z => z.elim, G2, ρ1, st2, by rw [qb]; exact q2⟩
      | rt r =>
        rw [qb] at q2
        exact ⟨fun _ _ => False, fun _ _ z => z.elim, G2, ρ1, st2, by rw [qb]; exact q2⟩
      | ex c ρ2 =>
        rw [qb] at q2
        exact ⟨fun _ _ => False, fun _ _ z => z.elim, G2, ρ1, st2, by rw [qb]; exact q2⟩
      | no => rw [qb] at q2; exact q2.elim
theorem sndS_for {as : List Stmt} {cas : List CS} {k : IK} (hp : PassesOwn (model X.prog X.w) X.A X.env X.xe) (hc : X.calm = true) (hi : SndI F C W X tg it k ca cb) (hg : SndG C X tg tgc) (ha : SndB F C W X as cas) : SndS F C W X (.For tg it as [] pos) (.for tgc k ca cb cas) := by
  refine ⟨PS.imp (ps_for hp hc hi.run hg.run ha.run (fun x => hi.nset X.env x)) fun D σ H q => ?_⟩
  obtain ⟨G, ρ, st, q⟩ := q
  simp only [exS] at q
  refine ⟨G, ρ, st, ?_⟩
  cases q1 : itf F k ca cb ρ with
  | no => rw [q1] at q; exact q
  | ex c => rw [q1] at q; exact fun G' H' e => q σ G' H' e.gg (st.mono e)
  | ok ds =>
    rw [q1] at q
    simp only [M.ctl_ok] at q
    intro J G1 H1 e1 wd
    have walk : Walk J ds.length (fun H => Same G1 H) (fun i H x H' => ∀ G2, Same G1 G2 → Same G2 H → ∃ G3 d, Ext G2 H G3 H' ∧ ds[i]? = some d ∧ Rep C.K G3 x d) :=
      ⟨fun i H hi s => wd.goes i H hi s, fun H s => wd.stops H s, fun i H x H' hi s y G2 s1 s2 => wd.yields i G2 H x H' hi s1 s2 y⟩
    refine for_it walk (fun i σ' H' => ∃ G2 ρ2, Same G1 G2 ∧ St C σ' ρ2 G2 H' ∧ CtlOk C W D G2 (forD tgc (exB F cas) (ds.drop i) ρ2)) ?_ ?_ ?_ ?_
    · exact ⟨G1, ρ, Same.refl _, st.mono e1, by rw [List.drop_zero]; exact q.mono e1.gg⟩
    · rintro i σ' H' _ ⟨G2, ρ2, s2, st2, _⟩
      exact s2.trans st2.same
    · rintro i x σ' Hi H' hi ⟨G2, ρ2, s2, st2, q2⟩ y
      obtain ⟨G3, d, e3, x9, x10⟩ := y G2 s2 st2.same
      have hdrop : ds.drop i = d :: ds.drop (i + 1) := by
        rw [List.drop_eq_getElem_cons hi]
        have : ds[i] = d := by
          rw [List.getElem?_eq_getElem hi] at x9
          exact Option.some.inj x9
        rw [this]
      rw [hdrop] at q2
      simp only [forD] at q2
      cases qs : setT tgc d ρ2 with
      | none => rw [qs] at q2; exact q2.elim
      | some ρ3 =>
        rw [qs] at q2
        simp only [optC_some] at q2
        refine ⟨G3, ρ2, d, ρ3, st2.mono e3, x10, qs, fun σ3 st3 _ => ⟨G3, ρ3, st3, ?_⟩⟩
        have q3 := q2.mono e3.gg
        cases qb : exB F cas ρ3 with
        | nx ρ4 =>
          rw [qb] at q3
          exact fun σ4 G4 H4 s4 st4 => ⟨G4, ρ4, (s2.trans e3.gg).trans s4, st4, q3.mono s4⟩
        | ct ρ4 =>
          rw [qb] at q3
          exact fun σ4 G4 H4 s4 st4 => ⟨G4, ρ4, (s2.trans e3.gg).trans s4, st4, q3.mono s4⟩
        | bk ρ4 => rw [qb] at q3; exact q3
        | rt r => rw [qb] at q3; exact q3
        | ex c ρ4 => rw [qb] at q3; exact q3
        | no => rw [qb] at q3; exact q3
    · rintro σ' H' ⟨G2, ρ2, s2, st2, q2⟩
      rw [List.drop_length] at q2
      simp only [forD] at q2
      exact q2 σ' G2 H' (Same.refl _) st2
/-- raise X('..') -/
theorem sndS_raise {c : Nat} {Cc : Addr} {y m : Str} {bmB : List Value} {B newId initId : String} {j : Nat} {p p2 p3 : Pos} (hc : X.calm = true) (tk : Takes X W) (E : ExcBaseFacts B newId initId bmB) (q : PySem.W.excIn X.K Cc bmB newId = true) (gC : X.mg y = some (.ref Cc)) (kC : PySem.W.keepIn X.K (.ref Cc) = true)
    (r : Raises X (.ref Cc)) (hg : Gl X y) (hdb : (y == ("__debug__" : Str)) = false) (hV : C.cV c = .ref Cc) : SndS F C W X (.Raise (some (.Call (.Name y p) [.Constant (.str m) j p2] [] p3)) none pos) (.raise c) := by
  refine ⟨PS.imp (ps_raise hc tk (pmk_own E q gC kC r hg hdb)) fun D σ H q => ?_⟩
  obtain ⟨G, ρ, st, q⟩ := q
  simp only [exS] at q
  have := q σ G H (Same.refl _) st
  rw [hV] at this
  exact this
end
end PF

end

section
/-! PFd: dicts whose keys are tuples. -/
namespace PF
open PySem PySem.Spec PyProof.Rows L2
/-! ### tables by keys -/
section
variable {α β : Type}
def findG (xs : List (NestedKey × α)) (k : NestedKey) : Option (NestedKey × α) := xs.find? fun x => decide (x.1 = k)
def putG (xs : List (NestedKey × α)) (k : NestedKey) (repl : α → α) (new : α) : List (NestedKey × α) :=
  if (findG xs k).isSome = true then xs.map (fun p => if p.1 = k then (p.1, repl p.2) else p) else xs ++ [(k, new)]
theorem paired_find {R : NestedKey × α → NestedKey × β → Prop} (hk : ∀ p q, R p q → p.1 = q.1) (k : NestedKey) : ∀ {xs : List (NestedKey × α)} {ys : List (NestedKey × β)}, Paired R xs ys →
    (findG xs k = none ∧ findG ys k = none) ∨ ∃ p q, findG xs k = some p ∧ findG ys k = some q ∧ R p q ∧ p.1 = k
  | [], [], .nil => .inl ⟨rfl, rfl⟩
  | p :: xs, q :: ys, .cons h t => by
    by_cases e : p.1 = k
    · have e' : q.1 = k := (hk p q h).symm.trans e
      exact .inr ⟨p, q, by simp [findG, List.find?_cons, e], by simp [findG, List.find?_cons, e'], h, e⟩
    · have e' : ¬ q.1 = k := fun z => e ((hk p q h).trans z)
      have a1 : findG (p :: xs) k = findG xs k := by simp [findG, List.find?_cons, e]
      have a2 : findG (q :: ys) k = findG ys k := by simp [findG, List.find?_cons, e']
      rw [a1, a2]
      exact paired_find hk k t
theorem paired_map {R : NestedKey × α → NestedKey × β → Prop} (hk : ∀ p q, R p q → p.1 = q.1) (k : NestedKey) {f : α → α} {g : β → β} (hr : ∀ p q, R p q → p.1 = k → R (p.1, f p.2) (q.1, g q.2)) :
    ∀ {xs : List (NestedKey × α)} {ys : List (NestedKey × β)}, Paired R xs ys → Paired R (xs.map fun p => if p.1 = k then (p.1, f p.2) else p) (ys.map fun p => if p.1 = k then (p.1, g p.2) else p)
  | [], [], .nil => .nil
  | p :: xs, q :: ys, .cons h t => by
    rw [List.map_cons, List.map_cons]
    refine .cons ?_ (paired_map hk k hr t)
    by_cases e : p.1 = k
    · rw [if_pos e, if_pos ((hk p q h).symm.trans e)]; exact hr p q h e
    · rw [if_neg e, if_neg (fun z => e ((hk p q h).trans z))]; exact h
theorem paired_put {R : NestedKey × α → NestedKey × β → Prop} (hk : ∀ p q, R p q → p.1 = q.1) (k : NestedKey) {f : α → α} {g : β → β} {a : α} {b : β} (hr : ∀ p q, R p q → p.1 = k → R (p.1, f p.2) (q.1, g q.2)) (hn : R (k, a) (k, b))
    {xs : List (NestedKey × α)} {ys : List (NestedKey × β)} (h : Paired R xs ys) : Paired R (putG xs k f a) (putG ys k g b) := by
  unfold putG
  rcases paired_find hk k h with ⟨e1, e2⟩ | ⟨p, q, e1, e2, _, _⟩
  · rw [e1, e2]
    simp only [Option.isSome_none, Bool.false_eq_true, if_false]
    exact Paired.snoc h hn
  · rw [e1, e2]
    simp only [Option.isSome_some, if_true]
    exact paired_map hk k hr h
theorem put_len (xs : List (NestedKey × α)) (k : NestedKey) (f : α → α) (a : α) : (putG xs k f a).length ≤ xs.length + 1 := by
  unfold putG
  split
  · rw [List.length_map]; omega
  · rw [List.length_append]; simp
end
theorem lookD_eq (kvs : List (NestedKey × D)) (k : NestedKey) : lookD kvs k = (findG kvs k).map (·.2) := rfl
theorem any_find {α : Type} (xs : List (NestedKey × α)) (k : NestedKey) : (xs.any fun kv => decide (kv.1 = k)) = (findG xs k).isSome := by
  induction xs with
  | nil => rfl
  | cons p r ih =>
    by_cases e : p.1 = k
    · simp [findG, List.find?_cons, e]
    · simp only [List.any_cons, e, decide_false, Bool.false_or]
      rw [ih]
      simp [findG, List.find?_cons, e]
theorem putD_eq (kvs : List (NestedKey × D)) (k : NestedKey) (v : D) : putD kvs k v = putG kvs k (fun _ => v) v := by
  unfold putD putG
  rw [any_find]
theorem atKey_eq (ys : List (NestedKey × Addr × Value)) (k : NestedKey) : atKey ys k = (findG ys k).map (·.2) := rfl
theorem storedH_eq (ys : List (NestedKey × Addr × Value)) (k : NestedKey) (b : Addr) (v : Value) : storedH ys k b v = putG ys k (fun p => (p.1, v)) (b, v) := by
  unfold storedH putG
  rw [atKey_eq, Option.isSome_map]
  rfl
def putR (xs : DRaw) (k : NestedKey) (b : Addr) (v : V) : DRaw := putG xs k (fun p => (p.1, v)) (b, v)
theorem dv_put {xs : DRaw} {ys : List (NestedKey × Addr × Value)} (h : DVals xs ys) (k : NestedKey) (b : Addr) {v : V} {u : Value} (r : RelV v u) : DVals (putR xs k b v) (storedH ys k b u) := by
  rw [storedH_eq]
  exact paired_put (fun p q h => h.1) k (fun p q h _ => ⟨h.1, h.2.1, r⟩) ⟨rfl, rfl, r⟩ h
theorem dr_put {K : Fr} {G : Hp} {xs : DRaw} {kvs : List (NestedKey × D)} (h : DRep K G xs kvs) (k : NestedKey) {b : Addr} {v : V} {d kd : D} (rk : Rep K G (.ref b) kd) (ek : keyT kd = some k) (r : Rep K G v d) : DRep K G (putR xs k b v) (putD kvs k d) := by
  rw [putD_eq]
  exact paired_put (fun p q h => h.1) k (fun p q h _ => ⟨h.1, h.2.1, r⟩) ⟨rfl, ⟨kd, rk, ek⟩, r⟩ h
/-! ### what a value is as a key -/
section
variable {X : Cx} {pins : List (Addr × Obj)} {σ : L2.St} {H : Hp} {s : Shared}
mutual
theorem key_is (I : Inv X pins σ H s) : ∀ {v : V} {d : D} {k : NestedKey} {u : Value}, Rep X.K H v d → keyD d = some k → RelV v u → NestedIs s.heap k u
  | _, _, _, _, .non, e, r => by cases e; cases r; exact .none
  | _, _, _, _, .bl b, e, r => by cases e; cases r; exact .bool rfl
  | _, _, _, _, .int i, e, r => by cases e; obtain ⟨t, rfl⟩ := r; exact .int _ _
  | _, _, _, _, .str x, e, r => by cases e; obtain ⟨t, rfl⟩ := r; exact .text _ _
  | _, _, _, _, .lst _ _ _, e, _ => by cases e
  | _, _, _, _, .tup (ds := ds) h l ra, e, r => by
    cases r
    simp only [keyD] at e
    cases q : keysD ds with
    | none => rw [q] at e; cases e
    | some ks =>
      rw [q] at e
      cases e
      obtain ⟨its, rv, ⟨o, h1, h2, n, h3⟩, _⟩ := I.tuple h
      exact .tup h1 h2 h3 (by simpa using keys_are I ra q rv)
theorem keys_are (I : Inv X pins σ H s) : ∀ {vs : List V} {ds : List D} {ks : List NestedKey} {us : List Value}, RepA X.K H vs ds → keysD ds = some ks → Vals vs us → NestedAll s.heap ks us
  | _, _, _, _, .nil, e, r => by cases e; cases r; exact .nil
  | _, _, _, _, .cons (d := d) (ds := ds) h t, e, r => by
    simp only [keysD] at e
    cases r with
    | cons r1 r2 =>
      cases q1 : keyD d with
      | none => rw [q1] at e; cases e
      | some k =>
        cases q2 : keysD ds with
        | none => rw [q1, q2] at e; cases e
        | some ks =>
          rw [q1, q2] at e
          cases e
          exact .cons (key_is I h q1 r1) (keys_are I t q2 r2)
end
theorem keyT_ok {d : D} {k : NestedKey} (e : keyT d = some k) : keyD d = some k ∧ k.depth ≤ 8 ∧ ∃ xs, d = .tuple xs := by
  unfold keyT at e
  split at e
  · rename_i xs
    cases q : keyD (.tuple xs) with
    | none => rw [q] at e; cases e
    | some k' =>
      rw [q] at e
      simp only [Option.bind_some] at e
      split at e
      · cases e; exact ⟨rfl, by assumption, xs, rfl⟩
      · cases e
  · cases e
theorem keyT_ref {K : Fr} {G : Hp} {v : V} {d : D} {k : NestedKey} (r : Rep K G v d) (e : keyT d = some k) : ∃ b, v = .ref b := by
  obtain ⟨_, _, xs, rfl⟩ := keyT_ok e
  cases r
  exact ⟨_, rfl⟩
theorem nested_is (I : Inv X pins σ H s) {b : Addr} {d : D} {k : NestedKey} (r : Rep X.K H (.ref b) d) (e : keyT d = some k) : (nestedKind X.prog X.w).is s.heap k b := by
  obtain ⟨e1, e2, _⟩ := keyT_ok e
  exact ⟨key_is I r e1 rfl, e2⟩
/-- the dict as the library tells it -/
theorem dct_of (I : Inv X pins σ H s) {a : Addr} {xs : DRaw} {kvs : List (NestedKey × D)} (h : H a = some (DctO X.prog X.w a xs)) (dr : DRep X.K H xs kvs) :
    (a == sysModules) = false ∧ ∃ ys, DVals xs ys ∧ s.heap.DictOfH (nestedKind X.prog X.w) a ys := by
  obtain ⟨⟨hd, ys, dv, o, es, ep, h1, h2, h3, h4, h5⟩, _, _⟩ := (show ObjOk X.prog X.w H s.heap a (.ext (dctP X.prog X.w a xs)) from I.hok a _ h)
  refine ⟨hd, ys, dv, o, es, ep, h1, h2, h3, h4, fun y hy => ?_, h5⟩
  have all : ∀ {l : DRaw} {m : List (NestedKey × Addr × Value)} {n : List (NestedKey × D)}, DVals l m → DRep X.K H l n → ∀ y ∈ m, (nestedKind X.prog X.w).is s.heap y.1 y.2.1 := by
    intro l m n q
    induction q generalizing n with
    | nil => intro _ y hy; exact nomatch hy
    | cons h t ih =>
      intro r y hy
      cases r with
      | cons r1 r2 =>
        rcases List.mem_cons.mp hy with e | hy
        · subst e
          obtain ⟨_, ⟨d, rp, ek⟩, _⟩ := r1
          rw [← h.1, ← h.2.1]
          exact nested_is I rp ek
        · exact ih r2 y hy
  exact all dv dr y hy
theorem room_in1 (hu : X.A.units + 64 < cLine) : (nestedKind X.prog X.w).room X.A.in1 := by
  show X.A.units + 1 + 8 < cLine
  omega
/-- what an operation with a key of a dict asks -/
structure DAsk (X : Cx) (H : Hp) (a : Addr) (xs : DRaw) (kvs : List (NestedKey × D)) (y : V) (k : NestedKey) : Prop where
  ho : H a = some (DctO X.prog X.w a xs)
  dr : DRep X.K H xs kvs
  ky : ∃ d, Rep X.K H y d ∧ keyT d = some k
def rInN (X : Cx) (neg : Bool) : R2 := fun y x H Q => ∃ a xs kvs k, x = .ref a ∧ DAsk X H a xs kvs y k ∧ Q (.bl ((lookD kvs k).isSome != neg)) H
theorem look_find {xs : DRaw} {ys : List (NestedKey × Addr × Value)} {kvs : List (NestedKey × D)} {K : Fr} {G : Hp} (dv : DVals xs ys) (dr : DRep K G xs kvs) (k : NestedKey) :
    (findG xs k = none ∧ lookD kvs k = none ∧ atKey ys k = none) ∨ ∃ (b : Addr) (d : D) (v : V) (p : Addr × Value), findG xs k = some (k, b, v) ∧ lookD kvs k = some d ∧ atKey ys k = some p ∧ Rep K G v d ∧ RelV v p.2 := by
  rw [lookD_eq, atKey_eq]
  rcases paired_find (fun p q h => h.1) k dv with ⟨e1, e2⟩ | ⟨p, q, e1, e2, r1, z⟩
  · rcases paired_find (fun p q h => h.1) k dr with ⟨e3, e4⟩ | ⟨p', q', e3, e4, r2, _⟩
    · exact .inl ⟨e1, by rw [e4]; rfl, by rw [e2]; rfl⟩
    · rw [e1] at e3; cases e3
  · rcases paired_find (fun p q h => h.1) k dr with ⟨e3, e4⟩ | ⟨p', q', e3, e4, r2, _⟩
    · rw [e1] at e3; cases e3
    · rw [e1] at e3
      cases e3
      obtain ⟨p1, p2, p3⟩ := p
      subst z
      exact .inr ⟨p2, q'.2, p3, q.2, e1, by rw [e4]; rfl, by rw [e2]; rfl, r2.2.2, r1.2.2⟩
theorem op_inN (hu : X.A.units + 64 < cLine) : OpR X (compareOp .In) (rInN X false) := by
  intro pins s σ H y x v u Q I ry rx h
  obtain ⟨a, xs, kvs, k, rfl, ⟨ho, dr, d, rk, ek⟩, q⟩ := h
  obtain ⟨b, rfl⟩ := keyT_ref rk ek
  cases ry
  cases rx
  obtain ⟨hd, ys, dv, dd⟩ := dct_of I ho dr
  refine wpAny_in_heap (room_in1 hu) (nested_is I rk ek) hd dd ?_
  refine ⟨.bl (lookD kvs k).isSome, H, I.tok _, ?_, by simpa using q⟩
  rcases look_find dv dr k with ⟨_, e1, e2⟩ | ⟨b', d', v', p', _, e1, e2, _, _⟩
  · rw [e1, e2]; rfl
  · rw [e1, e2]; rfl
theorem op_notInN (hu : X.A.units + 64 < cLine) : OpR X (compareOp .NotIn) (rInN X true) := by
  intro pins s σ H y x v u Q I ry rx h
  obtain ⟨a, xs, kvs, k, rfl, ⟨ho, dr, d, rk, ek⟩, q⟩ := h
  obtain ⟨b, rfl⟩ := keyT_ref rk ek
  cases ry
  cases rx
  obtain ⟨hd, ys, dv, dd⟩ := dct_of I ho dr
  refine wpAny_notIn_heap (room_in1 hu) (nested_is I rk ek) hd dd ?_
  refine ⟨.bl (!(lookD kvs k).isSome), H, I.tok _, ?_, by simpa using q⟩
  rcases look_find dv dr k with ⟨_, e1, e2⟩ | ⟨b', d', v', p', _, e1, e2, _, _⟩
  · rw [e1, e2]; rfl
  · rw [e1, e2]; rfl
def rIxN (X : Cx) : R2 := fun x y H Q => ∃ a xs kvs k b v, x = .ref a ∧ DAsk X H a xs kvs y k ∧ findG xs k = some (k, b, v) ∧ Q v H
theorem ix_dctN (hu : X.A.units + 64 < cLine) : IxR X (rIxN X) := by
  intro value slice pins s σ H x y v u Q I rx ry h hs
  obtain ⟨a, xs, kvs, k, b0, v0, rfl, ⟨ho, dr, d, rk, ek⟩, hl, q⟩ := h
  obtain ⟨b, rfl⟩ := keyT_ref rk ek
  cases ry
  cases rx
  obtain ⟨hd, ys, dv, dd⟩ := dct_of I ho dr
  rcases look_find dv dr k with ⟨e1, e2⟩ | ⟨b', d', v', p', e1, e2, e3, r1, r2⟩
  · rw [e1] at hl; cases hl
  · rw [e1] at hl
    cases hl
    refine subscriptTail_builtinR (x := p'.2) dd.typeIs PySem.F.slot_dict_getitem.lookup ?_ hs
    refine wpAny_getItem_heap (Q := fun r s' => r = p'.2 ∧ EP X pins σ Q r s') (room_in1 hu) (nested_is I rk ek) dd e3 ⟨rfl, v0, H, I.tok _, r2, q⟩
def rSetN (X : Cx) : TSet := fun o i v H Q => ∃ a xs kvs k b, o = .ref a ∧ i = .ref b ∧ DAsk X H a xs kvs i k ∧ xs.length < sizeLine ∧ Q (upd H a (DctO X.prog X.w a (putR xs k b v)))
theorem set_dctN (hu : X.A.units + 64 < cLine) : PSet X (rSetN X) := by
  intro pins s σ H o i v ov iv u Q I ro ri rv h
  obtain ⟨a, xs, kvs, k, b, rfl, rfl, ⟨ho, dr, d, rk, ek⟩, hl, q⟩ := h
  cases ro
  cases ri
  obtain ⟨hd, ys, dv, dd⟩ := dct_of I ho dr
  have hz : ys.length ≤ sizeLine := by rw [← Paired.length dv]; omega
  refine wpAny_setItem_heap (hsz := hz) (room_in1 hu) (nested_is I rk ek) dd fun h' dd' hs => ⟨_, ?_, q⟩
  obtain ⟨ob, es, ep, hq, h2, h3, h4, _, h5⟩ := dd'
  refine d_write I (by rw [ho]; exact True.intro) hs ⟨ob, hq⟩ ⟨⟨hd, _, dv_put dv k b rv, ob, es, ep, hq, h2, h3, h4, h5⟩, ⟨ob, hq⟩, ?_⟩
  rintro g1 g2 ⟨c1, zs, c2, o1, es1, ep1, c3, c4⟩ hk
  exact ⟨c1, zs, c2, o1, es1, ep1, hk _ c3, c4⟩
/-- {} -/
def tDNewN (X : Cx) : TE := fun _ H Q => ∀ p, H p = none → Q (.ref p) (upd H p (DctO X.prog X.w p []))
theorem dctO_empty {P : Program} {w : World} {H : Hp} (h : Heap) (hb : sysModules < h.objs.size) : ObjOk P w H (h.push { cls := .type "dict", data := .dict #[] }) h.objs.size (DctO P w h.objs.size []) :=
  ⟨⟨beq_eq_false_iff_ne.mpr (Ne.symm (Nat.ne_of_lt hb)), [], .nil, _, #[], 0, Heap.get?_push_size _ rfl, ⟨rfl, rfl, rfl⟩, rfl, rfl, List.nodup_nil⟩, ⟨_, Heap.get?_push_size _ rfl⟩,
    fun g1 g2 ⟨c1, zs, c2, o1, es1, ep1, c3, c4⟩ hk => ⟨c1, zs, c2, o1, es1, ep1, hk _ c3, c4⟩⟩
theorem pe_dnewN {pos : Pos} : PE X (.Dict [] [] pos) (tDNewN X) := ⟨fun pins s σ H Q I h =>
  wpAny_Dict_empty ⟨.ref s.heap.objs.size, _, I.laid (a := s.heap.objs.size) (o := DctO X.prog X.w s.heap.objs.size []) (t' := s.toks) (fun _ _ q => Heap.get?_push_of_some _ q) (Nat.le_refl _) (dctO_empty s.heap I.big), rfl, h _ (I.hok.fresh (Nat.le_refl _))⟩⟩
/-- len(d) -/
def rLenN (X : Cx) : List V → Hp → VK → Prop := fun vs H Q => ∃ a xs kvs, vs = [.ref a] ∧ H a = some (DctO X.prog X.w a xs) ∧ DRep X.K H xs kvs ∧ xs.length ≤ sizeLine ∧ Q (.int kvs.length) H
theorem cr_lenN (hu : X.A.units + 64 < cLine) : CallR X (.builtin "len") (rLenN X) := by
  intro pins s σ H vs us Q I r h
  obtain ⟨a, xs, kvs, rfl, ho, dr, hl, q⟩ := h
  rw [Vals.ref1 r]
  obtain ⟨hd, ys, dv, dd⟩ := dct_of I ho dr
  have e1 := Paired.length dv
  have e2 := Paired.length dr
  have hm : s.heap.DictKeyed (nestedKind X.prog X.w) a (pairsH ys) := ⟨ys, dd, rfl⟩
  have el : (pairsH ys).length = kvs.length := by rw [pairsH_length]; omega
  refine PyProof.Rows.call_len_slot (n := (pairsH ys).length) hm.typeIs PySem.F.slot_dict_len (fun Q' hq => len_keyed hd hm hq) (by omega) (by rw [sizeLine_eq] at hl; omega) ?_
  rw [el]
  exact ⟨.int kvs.length, H, I.tok _, ⟨_, rfl⟩, q⟩
end
/-! ### slots -/
section
variable {C : Cfg} {σ : L2.St} {ρ : PF.Env} {G H : Hp}
theorem St.dct (h : St C σ ρ G H) {i : Nat} {kvs : List (NestedKey × D)} (e : dctOf ρ i = .ok kvs) : ∃ a xs, σ[i]? = some (some (.ref a)) ∧ ρ[i]? = some (.dct kvs) ∧ H a = some (DctO C.P C.w a xs) ∧ xs.length ≤ sizeLine ∧ DRep C.K G xs kvs ∧ G a = none ∧ C.H0 a = none := by
  unfold dctOf at e
  split at e
  · rename_i kvs' hs
    cases e
    obtain ⟨o, h1, h1', h2⟩ := h.at hs (by simp)
    cases h2 with
    | dct a1 a2 a3 a4 a5 => exact ⟨_, _, h1, h1', a1, a2, a3, a4, a5⟩
  · cases e
theorem dctOf_ex {i : Nat} {c : Nat} : dctOf ρ i ≠ .ex c := by unfold dctOf; split <;> simp
/-- a dict is written -/
theorem St.updD (h : St C σ ρ G H) {i : Nat} {kvs kvs' : List (NestedKey × D)} {a : Addr} {xs xs' : DRaw} (e : ρ[i]? = some (.dct kvs)) (ea : σ[i]? = some (some (.ref a))) (hx : H a = some (DctO C.P C.w a xs)) (hg : G a = none) (h0 : C.H0 a = none)
    (l : xs'.length ≤ sizeLine) (r : DRep C.K G xs' kvs') : St C σ (ρ.set i (.dct kvs')) G (L2.upd H a (DctO C.P C.w a xs')) := by
  have sm : Same G (L2.upd H a (DctO C.P C.w a xs')) := fun b o hb => by
    rw [L2.upd_ne (fun z => by subst z; rw [hg] at hb; cases hb)]
    exact h.same b o hb
  refine ⟨by simp [h.len], ⟨fun b o hb => ?_, h.ext.gg, sm, h.ext.nw⟩, fun j o s g1 g2 => ?_, fun j k s t b hjk g1 g2 g3 g4 g5 g6 => ?_⟩
  · rw [L2.upd_ne (fun z => by subst z; rw [h0] at hb; cases hb)]
    exact h.ext.hh b o hb
  · by_cases hj : i = j
    · subst hj
      rw [ea] at g1
      cases g1
      have hi := (List.getElem?_eq_some_iff.mp e).1
      rw [List.getElem?_set_self hi] at g2
      cases g2
      exact .dct L2.upd_same l r hg h0
    · rw [List.getElem?_set_ne hj] at g2
      cases h.slot j o s g1 g2 with
      | no => exact .no _
      | val r => exact .val r
      | exc r => exact .exc r
      | own b1 b2 b3 b4 b5 =>
        rename_i b ys es
        refine .own ?_ b2 b3 b4 b5
        rw [L2.upd_ne (fun z => ?_)]
        · exact b1
        · subst z
          exact h.dist i j _ _ b hj e g2 rfl rfl ea g1
      | dct b1 b2 b3 b4 b5 =>
        rename_i b ys es
        refine .dct ?_ b2 b3 b4 b5
        rw [L2.upd_ne (fun z => ?_)]
        · exact b1
        · subst z
          exact h.dist i j _ _ b hj e g2 rfl rfl ea g1
  · have old : ∀ {k : Nat} {s : Sl}, (ρ.set i (.dct kvs'))[k]? = some s → s.isOwn = true → ∃ s' : Sl, ρ[k]? = some s' ∧ s'.isOwn = true := fun {k s} e1 f => by
      by_cases hk : i = k
      · subst hk; exact ⟨_, e, rfl⟩
      · rw [List.getElem?_set_ne hk] at e1; exact ⟨s, e1, f⟩
    obtain ⟨s', q1, q2⟩ := old g1 g3
    obtain ⟨t', q3, q4⟩ := old g2 g4
    exact h.dist j k s' t' b hjk q1 q3 q2 q4 g5 g6
/-- a slot takes a new dict -/
theorem St.newD (h : St C σ ρ G H) {i : Nat} {a : Addr} (ha : H a = none) : St C (σ.set i (some (.ref a))) (ρ.set i (.dct [])) G (L2.upd H a (DctO C.P C.w a [])) := by
  have e1 : Ext G H G (L2.upd H a (DctO C.P C.w a [])) := Ext.own h.same ha
  have hm := h.mono e1
  have new : ∀ (j : Nat) (t : Sl), ρ[j]? = some t → t.isOwn = true → σ[j]? = some (some (.ref a)) → False := fun j t h1 h2 h3 => by
    have q := h.slot j _ _ h3 h1
    cases q with
    | own a1 _ _ _ _ => rw [ha] at a1; cases a1
    | dct a1 _ _ _ _ => rw [ha] at a1; cases a1
    | _ => cases h2
  refine ⟨by simp [h.len], hm.ext, fun j o s h1 h2 => ?_, fun j k s t b hjk h1 h2 h3 h4 h5 h6 => ?_⟩
  · by_cases hj : i = j
    · subst hj
      rw [List.getElem?_set] at h1 h2
      by_cases hi : i < σ.length
      · rw [if_pos rfl, if_pos hi] at h1
        rw [if_pos rfl, if_pos (by rw [← h.len]; exact hi)] at h2
        cases h1; cases h2
        exact .dct L2.upd_same (Nat.zero_le _) .nil (h.same.free ha) (h.ext.hh.free ha)
      · rw [if_pos rfl, if_neg hi] at h1; cases h1
    · rw [List.getElem?_set_ne hj] at h1 h2
      exact hm.slot j o s h1 h2
  · have old : ∀ {k s b}, (ρ.set i (.dct []))[k]? = some s → s.isOwn = true → (σ.set i (some (.ref a)))[k]? = some (some (.ref b)) → (k = i ∧ b = a) ∨ (k ≠ i ∧ ρ[k]? = some s ∧ σ[k]? = some (some (.ref b))) := fun {k s b} e f g => by
      by_cases z : k = i
      · subst z
        rw [List.getElem?_set] at g
        by_cases hi : k < σ.length
        · rw [if_pos rfl, if_pos hi] at g; cases g; exact .inl ⟨rfl, rfl⟩
        · rw [if_pos rfl, if_neg hi] at g; cases g
      · rw [List.getElem?_set_ne (Ne.symm z)] at e g
        exact .inr ⟨z, e, g⟩
    rcases old h1 h3 h5 with ⟨e1, e2⟩ | ⟨e1, e2, e3⟩
    · rcases old h2 h4 h6 with ⟨f1, f2⟩ | ⟨f1, f2, f3⟩
      · exact hjk (e1.trans f1.symm)
      · subst e2; exact new _ _ f2 h4 f3
    · rcases old h2 h4 h6 with ⟨f1, f2⟩ | ⟨f1, f2, f3⟩
      · subst f2; exact new _ _ e2 h3 e3
      · exact h.dist j k s t b hjk e2 f2 h3 h4 e3 f3
end
/-! ### the language's dict words -/
section
variable {F : Nat → List D → M R} {C : Cfg} {W : WX} {X : Cx} {e it : Expr} {ce cx : CE} {pos px spos : Pos} {i : Nat} {x : Str}
/-- a dict's name, with the key that is asked for -/
theorem name_read (hi : X.N[i]? = some x) (hv : Vis X.env.scope x) (hd : (x == ("__debug__" : Str)) = false) (hcd : (x == ("__classdict__" : Str)) = false) {σ : L2.St} {H : Hp} {Q : VK} {v : V} (h : σ[i]? = some (some v)) (q : Q v H) :
    tVar i σ H Q := ⟨v, h, q⟩
theorem ask_of (hP : X.prog = C.P) (hw : X.w = C.w) (hK : X.K = C.K) {σ : L2.St} {ρ : PF.Env} {G H : Hp} (st : St C σ ρ G H) {a : Addr} {xs : DRaw} {kvs : List (NestedKey × D)} (h1 : H a = some (DctO C.P C.w a xs)) (h2 : DRep C.K G xs kvs) {y : V} {d : D} {k : NestedKey} (r : Rep C.K G y d) (ek : keyT d = some k) :
    DAsk X H a xs kvs y k := by
  refine ⟨?_, ?_, d, ?_, ek⟩
  · rw [hP, hw]; exact h1
  · rw [hK]; exact h2.mono st.same
  · rw [hK]; exact r.mono st.same
theorem dhas_parts (hP : X.prog = C.P) (hw : X.w = C.w) (hK : X.K = C.K) {neg : Bool} {σ : L2.St} {H : Hp} {Q : VK} (q : T C W (okR C.K) (ev F (.dhas neg i ce)) σ H Q) :
    tOp (rInN X neg) (T C W (okD C.K) fun ρ => (ev F ce ρ).toD) (tVar i) σ H Q := by
  obtain ⟨G, ρ, st, fin⟩ := q
  simp only [ev] at fin
  refine T.bind (ok1 := okD C.K) st fin fun y d G1 H1 e1 p1 st1 fin1 => ?_
  obtain ⟨kvs, ek, fin2⟩ : ∃ kvs, dctOf ρ i = .ok kvs ∧ Fin C W (okR C.K) H σ ((M.opt (keyT d)).bind fun k => boolR ((lookD kvs k).isSome != neg)) G1 H1 Q := by
    cases q : dctOf ρ i with
    | no => rw [q] at fin1; exact fin1.elim
    | ex c => exact absurd q dctOf_ex
    | ok kvs => rw [q] at fin1; exact ⟨kvs, rfl, fin1⟩
  obtain ⟨a, xs, g1, g2, g3, g4, g5, g6, g7⟩ := st1.dct ek
  refine ⟨.ref a, g1, ?_⟩
  cases hk : keyT d with
  | none => rw [hk] at fin2; exact fin2.elim
  | some k =>
    rw [hk] at fin2
    exact ⟨a, xs, kvs, k, rfl, ask_of hP hw hK st1 g3 g5 p1 hk, fin2 _ G1 H1 (Ext.refl st1.same) (.bl _)⟩
theorem dhas_bool {neg : Bool} {ρ : PF.Env} {r : R} (h : ev F (.dhas neg i ce) ρ = .ok r) : ∃ b, r = .d (.bool b) := by
  simp only [ev] at h
  cases q1 : (ev F ce ρ).toD with
  | no => rw [q1] at h; cases h
  | ex c => rw [q1] at h; cases h
  | ok d =>
    rw [q1] at h
    cases q2 : dctOf ρ i with
    | no => simp only [M.bind_ok, q2] at h; cases h
    | ex c => simp only [M.bind_ok, q2] at h; cases h
    | ok kvs =>
      simp only [M.bind_ok, q2] at h
      cases q3 : keyT d with
      | none => rw [q3] at h; cases h
      | some k => rw [q3] at h; cases h; exact ⟨_, rfl⟩
theorem snd_dhas {neg : Bool} {op : CmpOp} (hop : op = if neg = true then .NotIn else .In) (hP : X.prog = C.P) (hw : X.w = C.w) (hK : X.K = C.K) (hu : X.A.units + 64 < cLine) (hm : behindInMarks op (.Name x px) = false) (hi : X.N[i]? = some x) (hv : Vis X.env.scope x) (hd : (x == ("__debug__" : Str)) = false) (hcd : (x == ("__classdict__" : Str)) = false) (he : Snd F C W X e ce) :
    Snd F C W X (.Compare e [op] [.Name x px] pos) (.dhas neg i ce) := by
  have ob : OpR X (compareOp op) (rInN X neg) := by
    cases neg with
    | false => rw [hop]; exact op_inN hu
    | true => rw [hop]; exact op_notInN hu
  have h1 : PE X (.Compare e [op] [.Name x px] pos) (T C W (okR C.K) (ev F (.dhas neg i ce))) := PE.imp (pe_cmpR ob he.dat (pe_var hi hv hd hcd) hm) fun σ H Q q => dhas_parts hP hw hK q
  refine ⟨h1, PE.imp h1 fun σ H Q q => T.toP q, PT.imp (pt_cmpR ob he.dat (pe_var hi hv hd hcd) hm) fun σ H Q q => ?_, trivial, fun _ _ => rfl⟩
  exact dhas_parts hP hw hK (tst_bool (ok1 := okR C.K) (fun ρ r h => dhas_bool h) q)
theorem snd_dget (hP : X.prog = C.P) (hw : X.w = C.w) (hK : X.K = C.K) (hu : X.A.units + 64 < cLine) (hi : X.N[i]? = some x) (hv : Vis X.env.scope x) (hd : (x == ("__debug__" : Str)) = false) (hcd : (x == ("__classdict__" : Str)) = false) (hp : PlainE e) (he : Snd F C W X e ce) :
    Snd F C W X (.Subscript (.Name x px) e pos) (.dget i ce) := by
  refine Snd.of hK (PE.imp (pe_ix (ix_dctN hu) (pe_var hi hv hd hcd) he.dat (plain_ix hp)) fun σ H Q q => ?_) (by simp) (fun _ => rfl) trivial fun _ _ => rfl
  obtain ⟨G, ρ, st, fin⟩ := q
  simp only [ev] at fin
  cases ek : dctOf ρ i with
  | no => rw [ek] at fin; exact fin.elim
  | ex c => exact absurd ek dctOf_ex
  | ok kvs =>
    rw [ek] at fin
    obtain ⟨a, xs, g1, _⟩ := st.dct ek
    refine ⟨.ref a, g1, ?_⟩
    refine T.bind (ok1 := okD C.K) st fin fun y d G1 H1 e1 p1 st1 fin1 => ?_
    obtain ⟨a', xs', g1', g2, g3, g4, g5, g6, g7⟩ := st1.dct ek
    rw [g1] at g1'
    cases g1'
    cases hk : keyT d with
    | none => rw [hk] at fin1; exact fin1.elim
    | some k =>
      rw [hk] at fin1
      cases hl : lookD kvs k with
      | none => simp only [M.opt_some, M.bind_ok, hl] at fin1; exact fin1.elim
      | some v =>
        simp only [M.opt_some, M.bind_ok, hl] at fin1
        obtain ⟨p, q', f1, f2, f3, f4⟩ : ∃ p q', findG xs' k = some p ∧ findG kvs k = some q' ∧ (p.1 = q'.1 ∧ (∃ d, Rep C.K G1 (.ref p.2.1) d ∧ keyT d = some p.1) ∧ Rep C.K G1 p.2.2 q'.2) ∧ p.1 = k := by
          rcases paired_find (fun p q h => h.1) k g5 with ⟨_, z⟩ | ⟨p, q', f1, f2, f3, f4⟩
          · rw [lookD_eq, z] at hl; cases hl
          · exact ⟨p, q', f1, f2, f3, f4⟩
        obtain ⟨k1, k2, k3⟩ := p
        subst f4
        have ev : q'.2 = v := by rw [lookD_eq, f2] at hl; exact Option.some.inj hl
        refine ⟨a, xs', kvs, _, k2, k3, rfl, ask_of hP hw hK st1 g3 g5 p1 hk, f1, fin1 k3 G1 H1 (Ext.refl st1.same) ?_⟩
        show Rep C.K G1 k3 v
        rw [← ev]
        exact f3.2.2
def tRev (X : Cx) (te : TE) (ts : TO) : TE := fun σ H Q => te σ H fun x H1 => ts σ H1 fun o H2 => o = some (-1) ∧ ∃ a xs, x = .ref a ∧ SqL X.K H2 a xs ∧ ∀ p, H2 p = none → Q (.ref p) (upd H2 p (.lst xs.reverse))
theorem Vals.rev {xs : List V} {us : List Value} (r : Vals xs us) : Vals xs.reverse us.reverse := by
  induction r with
  | nil => exact .nil
  | cons h t ih =>
    rw [List.reverse_cons, List.reverse_cons]
    exact Vals.append ih (.cons h .nil)
theorem pe_rev {te : TE} {ts : TO} {st : Expr} {p2 : Pos} (he : PE X e te) (hs : PO X (some st) ts) : PE X (.Subscript e (.Slice none none (some st) p2) pos) (tRev X te ts) := by
  refine ⟨fun pins s σ H Q I h => ?_⟩
  refine Subscript_ (thn (he.run pins s σ H _ I h) fun v s1 ⟨x, H1, I1, r1, q1⟩ => ?_)
  refine wpAny_Slice ?_
  rw [evalPart_none]
  refine wpAny_pure ?_
  refine wpAny_pure (thn (hs.run pins s1 σ H1 _ I1 q1) fun vk s2 ⟨k, H2, I2, pk, ek, a, xs, ex, hx, q2⟩ => ?_)
  subst ek ex
  obtain rfl : v = Value.ref a := r1
  have I4 : Inv X pins σ H2 { s2 with heap := s2.heap.push { cls := .type "slice", data := .fields #[.none, .none, vk] } } := I2.kept (t' := s2.toks) fun b ob q => Heap.get?_push_of_some _ q
  obtain ⟨its, r, ht, hz⟩ := I4.list hx
  have hlen := r.length
  refine tail_any (T := "list") (ops := [.ref a, .ref s2.heap.objs.size]) ht.isList.typeIs PySem.F.slot_list_getitem.lookup ?_ (by with_unfolding_all rfl)
  refine wpAny_getItem_list_slice ht.isList (Heap.IsSliceOf.new ..) .none .none pk (by simp) ?_ (by rw [List.size_toArray] <;> omega)
  rw [PySem.W.krv_pick]
  refine ⟨.ref (s2.heap.push { cls := .type "slice", data := .fields #[.none, .none, vk] }).objs.size, _, I4.laid (t' := s2.toks) (o := .lst xs.reverse) (fun b ob q => Heap.get?_push_of_some _ q) (Nat.le_refl _) ?_, rfl, q2 _ (I4.hok.fresh (Nat.le_refl _))⟩
  exact ⟨by rw [List.length_reverse]; exact hz, _, 0, Vals.rev r, Heap.get?_push_size _ rfl⟩
theorem revD_ex {r : R} {c : Nat} : revD r ≠ .ex c := by unfold revD; split <;> simp
theorem RepA.rev {K : Fr} {G : Hp} {xs : List V} {ds : List D} (h : RepA K G xs ds) : RepA K G xs.reverse ds.reverse := by
  have : ∀ {xs : List V} {ds : List D}, RepA K G xs ds → RepA K G xs.reverse ds.reverse := by
    intro xs
    induction xs with
    | nil => intro ds h; cases h; exact .nil
    | cons x xs ih =>
      intro ds h
      cases h with
      | cons h t =>
        rw [List.reverse_cons, List.reverse_cons]
        exact RepA.append (ih t) (.cons h .nil)
  exact this h
theorem snd_rev {a st : Expr} {ca : CE} {p2 : Pos} (hK : X.K = C.K) (ha : Snd F C W X a ca) (hs : Snd F C W X st (.neg (.con (.int 1)))) : Snd F C W X (.Subscript a (.Slice none none (some st) p2) pos) (.rev ca) := by
  refine Snd.of hK (PE.imp (pe_rev ha.pk (po_som hs (by simp))) fun σ H Q q => ?_) (by simp) (fun _ => rfl) trivial fun _ _ => rfl
  obtain ⟨G, ρ, st, fin⟩ := q
  simp only [ev] at fin
  refine T.bind (ok1 := okP C.K) st fin fun x ra G1 H1 e1 p1 st1 fin1 => ?_
  refine ⟨G1, ρ, st1, ?_⟩
  have em : partC (.neg (.con (.int 1))) (ev F (.neg (.con (.int 1))) ρ).toD = .ok (some (-1)) := by
    simp only [partC, ev, M.bind_ok, negD, M.toD_ok, R.toD_d, partD]
  show Fin C W okO H1 σ (partC (.neg (.con (.int 1))) (ev F (.neg (.con (.int 1))) ρ).toD) G1 H1 _
  rw [em]
  intro o G2 H2 e2 eo
  refine ⟨eo, ?_⟩
  obtain ⟨r, er, q⟩ := fin1.okE fun c => revD_ex
  unfold revD at er
  split at er
  · rename_i xs ex
    cases er
    obtain ⟨b, vs, rfl, hb, lb, rb⟩ := (p1.mono e2).lst e2.gh ex
    refine ⟨b, vs, rfl, by rw [hK]; exact hb, fun p hp => ?_⟩
    exact q (.ref p) G2 _ (e2.trans (Ext.own e2.gh hp)) ⟨p, vs.reverse, rfl, upd_same, by rw [List.length_reverse]; exact lb, rb.rev, (e1.trans e2).hh.free hp, e2.gh.free hp⟩
  · cases er
theorem snd_dlen {p p2 : Pos} (hP : X.prog = C.P) (hw : X.w = C.w) (hK : X.K = C.K) (hu : X.A.units + 64 < cLine) (hg : Gl X "len") (hm : X.mg "len" = none) (hi : X.N[i]? = some x) (hv : Vis X.env.scope x) (hd : (x == ("__debug__" : Str)) = false) (hcd : (x == ("__classdict__" : Str)) = false) :
    Snd F C W X (.Call (.Name "len" p) [.Name x p2] [] pos) (.dlen i) := by
  refine Snd.of hK (PE.imp (pe_callB (cr_lenN hu) hg hm (by decide +kernel) (pa_cons (pe_var hi hv hd hcd) pa_nil)) fun σ H Q q => ?_) (by simp) (fun _ => rfl) trivial fun _ _ => rfl
  obtain ⟨G, ρ, st, fin⟩ := q
  simp only [ev] at fin
  cases ek : dctOf ρ i with
  | no => rw [ek] at fin; exact fin.elim
  | ex c => exact absurd ek dctOf_ex
  | ok kvs =>
    rw [ek] at fin
    obtain ⟨a, xs, g1, g2, g3, g4, g5, g6, g7⟩ := st.dct ek
    refine ⟨.ref a, g1, ?_⟩
    have q := fin (.int kvs.length) G H (Ext.refl st.same) (.int _)
    exact ⟨a, xs, kvs, rfl, by rw [hP, hw]; exact g3, by rw [hK]; exact g5.mono st.same, g4, q⟩
theorem sndS_dnew {px : Pos} {pos2 : Pos} (hP : X.prog = C.P) (hw : X.w = C.w) (hN : X.N.Nodup) (hi : X.N[i]? = some x) (hx : Loc X.env.scope x) (hf : X.fn x = true ∨ X.env.scope.names.lookup x = some .local) : SndS F C W X (.Assign [.Name x px] (.Dict [] [] pos2) pos) (.dnew i) := by
  refine ⟨PS.imp (ps_set hN hi hx pe_dnewN rfl hf) fun D σ H q => ?_⟩
  obtain ⟨G, ρ, st, q⟩ := q
  simp only [exS] at q
  intro p hp
  rw [hP, hw]
  exact q _ G _ (Same.refl _) (st.newD hp)
theorem sndS_dput (hP : X.prog = C.P) (hw : X.w = C.w) (hK : X.K = C.K) (hu : X.A.units + 64 < cLine) (hi : X.N[i]? = some x) (hv : Vis X.env.scope x) (hd : (x == ("__debug__" : Str)) = false) (hcd : (x == ("__classdict__" : Str)) = false) (hp : PlainE it) (hit : Snd F C W X it cx) (he : Snd F C W X e ce) :
    SndS F C W X (.Assign [.Subscript (.Name x px) it spos] e pos) (.dput i cx ce) := by
  have ha : ∀ v, assign (.Subscript (.Name x px) it spos) X.env v = (do
      let ov ← holding [v] (eval (.Name x px) X.env)
      let iv ← holding [v, ov] (eval it X.env)
      standAt spos
      holding [v, ov, iv] (setItem ov iv v)
      release [v, ov, iv] []) := by
    intro v
    cases it <;> first | rfl | exact hp.elim
  refine ⟨PS.imp (ps_asg he.dat (pg_sub (pe_var hi hv hd hcd) hit.dat (set_dctN hu) ha) sole_sub swapped_sub (by rfl)) fun D σ H q => ?_⟩
  obtain ⟨G, ρ, st, q⟩ := q
  simp only [exS] at q
  refine T.ctl (ok1 := okD C.K) (k := fun d => (dctOf ρ i).ctl ρ fun kvs => (ev F cx ρ).toD.ctl ρ fun kd => optC (keyT kd) fun key => if kvs.length < sizeLine then Ctl.nx (ρ.set i (.dct (putD kvs key d))) else .no) st q fun v d G1 H1 e1 o st1 _ q1 => ?_
  cases ek : dctOf ρ i with
  | no => rw [ek] at q1; exact q1.elim
  | ex c => exact absurd ek dctOf_ex
  | ok kvs =>
    rw [ek] at q1
    simp only [M.ctl_ok] at q1
    obtain ⟨a, xs, g1, g2, g3, g4, g5, g6, g7⟩ := st1.dct ek
    refine ⟨.ref a, g1, ?_⟩
    refine T.ctl (ok1 := okD C.K) (k := fun kd => optC (keyT kd) fun key => if kvs.length < sizeLine then Ctl.nx (ρ.set i (.dct (putD kvs key d))) else .no) st1 q1 fun y kd G2 H2 e2 o2 st2 _ q2 => ?_
    cases hk : keyT kd with
    | none => rw [hk] at q2; exact q2.elim
    | some k =>
      rw [hk] at q2
      simp only [optC_some] at q2
      split at q2
      · rename_i hl
        obtain ⟨b, rfl⟩ := keyT_ref o2 hk
        have len := Paired.length g5
        have f3 := e2.hh _ _ g3
        have f5 := g5.mono e2.gg
        have f6 := e2.nw _ g6 (by rw [g3]; simp)
        refine ⟨a, xs, kvs, k, b, rfl, rfl, ask_of hP hw hK st2 f3 f5 o2 hk, by omega, ?_⟩
        rw [hP, hw]
        have pl := put_len xs k (fun p => (p.1, v)) (b, v)
        exact q2 σ G2 _ (Same.refl _) (st2.updD g2 g1 f3 f6 g7 (by show (putG xs k (fun p => (p.1, v)) (b, v)).length ≤ sizeLine; omega) (dr_put f5 k o2 hk (o.mono e2.gg)))
      · exact q2.elim
theorem sndS_bad {s : Stmt} : SndS F C W X s .bad := by
  refine ⟨⟨fun pins s' σ H D I q => ?_⟩⟩
  obtain ⟨G, ρ, st, q⟩ := q
  simp only [exS] at q
  exact q.elim
end
end PF

end

section
/-! PF9: try .. except. -/
namespace PF
open PySem PySem.Spec PyProof.Rows L2
section
variable {C : Cfg} {σ : L2.St} {ρ : PF.Env} {G H : Hp}
theorem St.xa (h : St C σ ρ G H) (n : C.xa = none) (x : Option (Addr × Nat)) : St { C with xa := x } σ ρ G H :=
  ⟨h.len, h.ext, fun i o s h1 h2 => by
    cases h.slot i o s h1 h2 with
    | no => exact .no _
    | val r => exact .val r
    | own a1 a2 a3 a4 a5 => exact .own a1 a2 a3 a4 a5
    | dct a1 a2 a3 a4 a5 => exact .dct a1 a2 a3 a4 a5
    | exc e => rw [n] at e; exact absurd e (by simp),
    h.dist⟩
theorem St.unxa {x : Option (Addr × Nat)} (h : St { C with xa := x } σ ρ G H) (c : clean ρ = true) : St C σ ρ G H :=
  ⟨h.len, h.ext, fun i o s h1 h2 => by
    cases h.slot i o s h1 h2 with
    | no => exact .no _
    | val r => exact .val r
    | own a1 a2 a3 a4 a5 => exact .own a1 a2 a3 a4 a5
    | dct a1 a2 a3 a4 a5 => exact .dct a1 a2 a3 a4 a5
    | exc e =>
      exfalso
      have m := List.mem_of_getElem? h2
      have := (List.all_eq_true.mp c) _ m
      exact absurd this (by simp [Sl.isExc]),
    h.dist⟩
theorem St.setExc {a : Addr} {c : Nat} (h : St { C with xa := some (a, c) } σ ρ G H) (i : Nat) : St { C with xa := some (a, c) } (σ.set i (some (.ref a))) (ρ.set i (.exc c)) G H := by
  refine ⟨by simp [h.len], h.ext, fun j o s h1 h2 => ?_, fun j k s t b hjk h1 h2 h3 h4 h5 h6 => ?_⟩
  · by_cases hj : i = j
    · subst hj
      rw [List.getElem?_set] at h1 h2
      by_cases hi : i < σ.length
      · rw [if_pos rfl, if_pos hi] at h1
        rw [if_pos rfl, if_pos (by rw [← h.len]; exact hi)] at h2
        cases h1; cases h2
        exact .exc rfl
      · rw [if_pos rfl, if_neg hi] at h1; cases h1
    · rw [List.getElem?_set_ne hj] at h1 h2
      exact h.slot j o s h1 h2
  · have ne : ∀ {k : Nat} {s : Sl}, (ρ.set i (.exc c))[k]? = some s → s.isOwn = true → i ≠ k := fun {k s} e f z => by
      subst z
      rw [List.getElem?_set] at e
      by_cases hi : i < ρ.length
      · rw [if_pos rfl, if_pos hi] at e; cases e; cases f
      · rw [if_pos rfl, if_neg hi] at e; cases e
    have n1 := ne h1 h3
    have n2 := ne h2 h4
    rw [List.getElem?_set_ne n1] at h1 h5
    rw [List.getElem?_set_ne n2] at h2 h6
    exact h.dist j k s t b hjk h1 h2 h3 h4 h5 h6
end
theorem PSs.by {X : Cx} {st : List Stmt} {t' : TS} (i : ∀ D σ H, t' D σ H → ∃ t, PSs X st t ∧ t D σ H) : PSs X st t' := ⟨fun pins s σ H D I q => by
  obtain ⟨t, h, q⟩ := i D σ H q
  exact h.run pins s σ H D I q⟩
section
variable {F : Nat → List D → M R} {C : Cfg} {W : WX} {X : Cx} {pos : Pos} {i : Nat} {x n : Str} {T : Value} {row : List Bool} {body suite : List Stmt} {b0 : Stmt} {cbody csuite : List CS} {np p2 : Pos}
/-- the suite's reading, whatever class was raised -/
def tSuite (F : Nat → List D → M R) (C : Cfg) (row : List Bool) (cs : List CS) (a : Addr) (cls : Value) (d : Option Addr) : TS := fun D σ H => ∃ c, cls = C.cV c ∧ d = none ∧ c < row.length ∧ TSt { C with xa := some (a, c) } W0 (exB F cs) D σ H
theorem suite_run (hsu : ∀ (a : Addr) (oe : Obj) (c : Nat) (pn : List (Addr × Obj)), c < row.length → Zc (C.cV c) none oe → (∃ vs, oe.data = .fields vs) → SndB F { C with xa := some (a, c) } W0 (X.suite a ((a, oe) :: pn)) (b0 :: suite) csuite)
    (a : Addr) (oe : Obj) (cls : Value) (d : Option Addr) (pn : List (Addr × Obj)) (hz : Zc cls d oe) (hf : ∃ vs, oe.data = .fields vs) : PSs (X.suite a ((a, oe) :: pn)) (b0 :: suite) (tSuite F C row csuite a cls d) :=
  PSs.by fun D σ H ⟨c, e1, e2, l, q⟩ => by
    subst e1 e2
    exact ⟨_, (hsu a oe c pn l hz hf).run, q⟩
theorem unslot_ok {C : Cfg} {D : Ends} {G G' : Hp} {slot : Option Nat} {c : Ctl} {xa : Option (Addr × Nat)} (s : Same G G') (q : CtlOk C W D G (unslot slot c))
    {D' : Ends} (hn : ∀ σ H, D.nx (match slot with | some i => σ.set i none | none => σ) H → D'.nx σ H) (hr : D'.rt = D.rt) : CtlOk { C with xa := xa } W0 D' G' c := by
  cases c with
  | nx ρ =>
    intro σ2 G2 H2 s2 st2
    refine hn σ2 H2 ?_
    simp only [unslot] at q
    cases slot with
    | none =>
      simp only at q ⊢
      split at q
      · rename_i hc
        exact q σ2 G2 H2 (s.trans s2) (st2.unxa hc)
      · exact q.elim
    | some i =>
      simp only at q ⊢
      split at q
      · rename_i hc
        exact q _ G2 H2 (s.trans s2) ((st2.wipe1 i).unxa hc)
      · exact q.elim
  | rt r =>
    intro v G2 H2 e o
    rw [hr]
    exact q v G2 H2 e o
  | bk ρ => exact q.elim
  | ct ρ => exact q.elim
  | ex c ρ => exact q.elim
  | no => exact q.elim
theorem sndS_tryAs (hs : X.stack = X.env :: X.outer) (hf : X.env.frame = some X.env.locals) (hN : X.N.Nodup) (hi : X.N[i]? = some n) (hln : X.env.kindOf n = some .local) (hc : Names X x T) (tk : Takes X W) (hxa : C.xa = none)
    (hx : ∀ c b, row[c]? = some b → PySem.W.exmOne X.K (C.cV c) T = some b)
    (hb : ∀ (W' : WX) (pn : List (Addr × Obj)) (xe : Value → Shared → Prop), Takes (X.tr pn xe) W' → PassesOwn (model X.prog X.w) X.A X.env xe → SndB F C W' (X.tr pn xe) body cbody)
    (hsu : ∀ (a : Addr) (oe : Obj) (c : Nat) (pn : List (Addr × Obj)), c < row.length → Zc (C.cV c) none oe → (∃ vs, oe.data = .fields vs) → SndB F { C with xa := some (a, c) } W0 (X.suite a ((a, oe) :: pn)) (b0 :: suite) csuite) :
    SndS F C W X (.Try body [.ExceptHandler (some (.Name x np)) (some n) (b0 :: suite) p2] [] [] pos) (.try cbody row (some i) csuite) := by
  refine ⟨PS.imp (ps_try_as (tb := fun W' => TSt C W' (exB F cbody)) (ts := tSuite F C row csuite) hs hf hN hi hln hc tk (fun W' pn xe t p => (hb W' pn xe t p).run) (suite_run hsu)) fun D σ H q => ?_⟩
  obtain ⟨G, ρ, st, q⟩ := q
  simp only [exS] at q
  refine ⟨G, ρ, st, ?_⟩
  cases qb : exB F cbody ρ with
  | ex c ρ' =>
    rw [qb] at q
    simp only at q
    intro σ' G' H' s st'
    cases qr : row[c]? with
    | none => rw [qr] at q; exact q.elim
    | some b =>
      rw [qr] at q
      refine ⟨b, hx c b qr, fun hb a hn => ?_, fun hb => ?_⟩
      · subst hb
        refine ⟨c, rfl, rfl, (List.getElem?_eq_some_iff.mp qr).1, G', _, (st'.xa hxa _).setExc i, ?_⟩
        exact unslot_ok (slot := some i) s q (fun σ H h => h) rfl
      · subst hb
        exact q σ' G' H' s st'
  | nx ρ' => rw [qb] at q; exact q
  | bk ρ' => rw [qb] at q; exact q
  | ct ρ' => rw [qb] at q; exact q
  | rt r => rw [qb] at q; exact q
  | no => rw [qb] at q; exact q
theorem sndS_try (hs : X.stack = X.env :: X.outer) (hf : X.env.frame = some X.env.locals) (hc : Names X x T) (tk : Takes X W) (hxa : C.xa = none)
    (hx : ∀ c b, row[c]? = some b → PySem.W.exmOne X.K (C.cV c) T = some b)
    (hb : ∀ (W' : WX) (pn : List (Addr × Obj)) (xe : Value → Shared → Prop), Takes (X.tr pn xe) W' → PassesOwn (model X.prog X.w) X.A X.env xe → SndB F C W' (X.tr pn xe) body cbody)
    (hsu : ∀ (a : Addr) (oe : Obj) (c : Nat) (pn : List (Addr × Obj)), c < row.length → Zc (C.cV c) none oe → (∃ vs, oe.data = .fields vs) → SndB F { C with xa := some (a, c) } W0 (X.suite a ((a, oe) :: pn)) (b0 :: suite) csuite) :
    SndS F C W X (.Try body [.ExceptHandler (some (.Name x np)) none (b0 :: suite) p2] [] [] pos) (.try cbody row none csuite) := by
  refine ⟨PS.imp (ps_try_only (tb := fun W' => TSt C W' (exB F cbody)) (ts := tSuite F C row csuite) hs hf hc tk (fun W' pn xe t p => (hb W' pn xe t p).run) (suite_run hsu)) fun D σ H q => ?_⟩
  obtain ⟨G, ρ, st, q⟩ := q
  simp only [exS] at q
  refine ⟨G, ρ, st, ?_⟩
  cases qb : exB F cbody ρ with
  | ex c ρ' =>
    rw [qb] at q
    simp only at q
    intro σ' G' H' s st'
    cases qr : row[c]? with
    | none => rw [qr] at q; exact q.elim
    | some b =>
      rw [qr] at q
      refine ⟨b, hx c b qr, fun hb a hn => ?_, fun hb => ?_⟩
      · subst hb
        refine ⟨c, rfl, rfl, (List.getElem?_eq_some_iff.mp qr).1, G', _, st'.xa hxa _, ?_⟩
        exact unslot_ok (slot := none) s q (fun σ H h => h) rfl
      · subst hb
        exact q σ' G' H' s st'
  | nx ρ' => rw [qb] at q; exact q
  | bk ρ' => rw [qb] at q; exact q
  | ct ρ' => rw [qb] at q; exact q
  | rt r => rw [qb] at q; exact q
  | no => rw [qb] at q; exact q
end
end PF

end

section
/-! PF10: from the text's terms to the core language; each reading is right. -/
namespace PF
open PySem PySem.Spec PyProof.Rows L2
/-- the module: its defs with their numbers of parameters, constants, classes of exceptions (for each of the own ones, whether it is under this one) -/
structure MT where
  fns : List (Str × Nat)
  cons : List (Str × D)
  excs : List (Str × List Bool)
  own : Nat
structure Ctx where
  N : List Str
  sc : Scope
  fn : Str → Bool
  calm : Bool
  top : Bool
  mu : List Nat
  ds : List Str
def ixOf (x : Str) : List Str → Option Nat
  | [] => none
  | y :: r => if y = x then some 0 else (ixOf x r).map (· + 1)
theorem ixOf_get {x : Str} : ∀ {N : List Str} {i : Nat}, ixOf x N = some i → N[i]? = some x
  | [], _, h => by cases h
  | y :: r, i, h => by
    unfold ixOf at h
    split at h
    · rename_i e
      cases h
      rw [e]; rfl
    · cases q : ixOf x r with
      | none => rw [q] at h; cases h
      | some j =>
        rw [q] at h
        cases h
        show (y :: r)[j + 1]? = some x
        rw [List.getElem?_cons_succ]
        exact ixOf_get q
def isVis (sc : Scope) (x : Str) : Bool := match sc.names.lookup x with
  | some .local => true
  | some .cell => true
  | some .free => true
  | _ => false
def isGl (sc : Scope) (x : Str) : Bool := match sc.names.lookup x with
  | some .globalImplicit => true
  | _ => false
def okN (x : Str) : Bool := !(x == ("__debug__" : Str)) && !(x == ("__classdict__" : Str)) && !(decide (x = ("__name__" : Str)))
def mapO {α β : Type} (f : α → Option β) : List α → Option (List β)
  | [] => some []
  | a :: r => (f a).bind fun b => (mapO f r).bind fun bs => some (b :: bs)
theorem mapO_paired {α β : Type} {f : α → Option β} {P : α → β → Prop} (h : ∀ a b, f a = some b → P a b) : ∀ {as : List α} {bs : List β}, mapO f as = some bs → Paired P as bs
  | [], bs, e => by cases e; exact .nil
  | a :: as, bs, e => by
    simp only [mapO] at e
    obtain ⟨b, h1, e⟩ := Option.bind_eq_some_iff.mp e
    obtain ⟨bs', h2, e⟩ := Option.bind_eq_some_iff.mp e
    cases e
    exact .cons (h a b h1) (mapO_paired h h2)
theorem mapO_len {α β : Type} {f : α → Option β} : ∀ {as : List α} {bs : List β}, mapO f as = some bs → as.length = bs.length
  | [], bs, e => by cases e; rfl
  | a :: as, bs, e => by
    simp only [mapO] at e
    obtain ⟨b, h1, e⟩ := Option.bind_eq_some_iff.mp e
    obtain ⟨bs', h2, e⟩ := Option.bind_eq_some_iff.mp e
    cases e
    rw [List.length_cons, List.length_cons, mapO_len h2]
def conD : Const → Option D
  | .int i => some (.int i)
  | .str x => some (.str x)
  | .bool b => some (.bool b)
  | .none => some .none
  | _ => none
def Blt.nm : Blt → Str
  | .len => "len" | .abs => "abs" | .max2 => "max" | .min2 => "min" | .max1 => "max" | .min1 => "min" | .sum => "sum" | .int => "int" | .str => "str" | .tuple => "tuple" | .list => "list"
def Blt.ar : Blt → Nat
  | .max2 => 2 | .min2 => 2 | _ => 1
def bltTab : List Blt := [.len, .abs, .max2, .min2, .max1, .min1, .sum, .int, .str, .tuple, .list]
theorem blt_boot (b : Blt) : bootBuiltins b.nm = some b.fn := by cases b <;> decide +kernel
theorem ty_boot (t : Ty) : bootBuiltins (t.name : Str) = some (.type t.name) := by cases t <;> decide +kernel
def tyTab : List Ty := [.int, .bool, .str, .tuple, .list]
def tyOf (y : Str) : Option Ty := tyTab.find? fun t => decide ((t.name : Str) = y)
def decBlt (x : Str) (n : Nat) : Option Blt := bltTab.find? fun b => decide (b.nm = x) && decide (b.ar = n)
def bltNames : List Str := ["isinstance", "range", "enumerate", "zip", "len", "abs", "max", "min", "sum", "int", "bool", "str", "tuple", "list"]
theorem nm_mem (b : Blt) : b.nm ∈ bltNames := by cases b <;> decide +kernel
theorem ty_mem (t : Ty) : (t.name : Str) ∈ bltNames := by cases t <;> decide +kernel
def fnIx (x : Str) : List (Str × Nat) → Option (Nat × Nat)
  | [] => none
  | (y, n) :: r => if y = x then some (0, n) else (fnIx x r).map fun p => (p.1 + 1, p.2)
theorem fnIx_get {x : Str} : ∀ {l : List (Str × Nat)} {i n : Nat}, fnIx x l = some (i, n) → l[i]? = some (x, n)
  | [], _, _, h => by cases h
  | (y, m) :: r, i, n, h => by
    unfold fnIx at h
    split at h
    · rename_i e
      cases h
      rw [e]; rfl
    · cases q : fnIx x r with
      | none => rw [q] at h; cases h
      | some p =>
        obtain ⟨j, m'⟩ := p
        rw [q] at h
        cases h
        show ((y, m) :: r)[j + 1]? = some (x, m')
        rw [List.getElem?_cons_succ]
        exact fnIx_get q
def rowL (row : List Bool) : List Nat := (List.range row.length).filter fun c => row.getD c false
theorem rowL_has (row : List Bool) (c : Nat) : (rowL row).contains c = row.getD c false := by
  unfold rowL
  by_cases h : row.getD c false = true
  · rw [h]
    have hl : c < row.length := by
      rw [List.getD_eq_getElem?_getD] at h
      cases q : row[c]? with
      | none => rw [q] at h; cases h
      | some b => exact (List.getElem?_eq_some_iff.mp q).1
    have : c ∈ (List.range row.length).filter fun c => row.getD c false := List.mem_filter.mpr ⟨List.mem_range.mpr hl, h⟩
    simpa using this
  · have h' : row.getD c false = false := by simpa using h
    rw [h']
    have : c ∉ (List.range row.length).filter fun c => row.getD c false := fun hm => h (List.mem_filter.mp hm).2
    simpa using this
def ownOf (N : List Str) (scope : Scope) : List (Str × Nat) := scope.names.filterMap fun p => match p.2 with
  | .local => (ixOf p.1 N).map fun i => (p.1, i)
  | .cell => (ixOf p.1 N).map fun i => (p.1, i)
  | _ => none
def decTg : Nat → Ctx → Expr → Option Tg
  | 0, _, _ => none
  | n + 1, cx, e => match e with
    | .Name x _ => (match cx.sc.names.lookup x with
      | some .local => (ixOf x cx.N).map .name
      | some .cell => if cx.fn x = true then (ixOf x cx.N).map .name else none
      | _ => none)
    | .Tuple es _ _ => if cx.calm = true then (mapO (decTg n cx) es).map .tup else none
    | _ => none
def decIt (mt : MT) (cx : Ctx) (f : Expr → Option CE) (tg : Expr) (it : Expr) : Option (IK × CE × CE) := match it with
  | .Call (.Name g p) es [] pos =>
    if isGl cx.sc g = true ∧ okN g = true then
      if g = "range" then (match es with
        | [a] => (f a).bind fun c => some (.rng1, c, .con .none)
        | [a, b] => (f a).bind fun c => (f b).bind fun d => some (.rng2, c, d)
        | _ => none)
      else if g = "enumerate" then (match tg, es with
        | .Tuple _ _ _, [a] => (f a).bind fun c => some (.enum, c, .con .none)
        | _, _ => none)
      else if g = "zip" then (match tg, es with
        | .Tuple _ _ _, [a, b] => (f a).bind fun c => (f b).bind fun d => some (.zip, c, d)
        | _, _ => none)
      else (f (.Call (.Name g p) es [] pos)).bind fun c => some (.seq, c, .con .none)
    else none
  | it => (f it).bind fun c => some (.seq, c, .con .none)
/-- a dict's name -/
def dctIx (cx : Ctx) (e : Expr) : Option Nat := match e with
  | .Name x _ => if x ∈ cx.ds ∧ isVis cx.sc x = true ∧ okN x = true then ixOf x cx.N else none
  | _ => none
def lenIx (cx : Ctx) (x : Str) (es : List Expr) : Option Nat := match es with
  | [a] => if x = "len" then dctIx cx a else none
  | _ => none
def decCall (mt : MT) (cx : Ctx) (f : Expr → Option CE) (x : Str) (es : List Expr) : Option CE :=
  if isGl cx.sc x = true ∧ okN x = true then
    if x = "isinstance" then (match es with
      | [a, .Name y _] => if isGl cx.sc y = true ∧ okN y = true then (match tyOf y with
          | some t => (f a).bind fun c => some (.isI c t)
          | none => (match a with
            | .Name z _ => if isVis cx.sc z = true ∧ okN z = true then (ixOf z cx.N).bind fun i => (mt.excs.lookup y).bind fun row => some (.isE i (rowL row)) else none
            | _ => none))
        else none
      | _ => none)
    else if (lenIx cx x es).isSome = true then (lenIx cx x es).map .dlen
    else if cx.calm = true then (match fnIx x mt.fns with
      | some (i, n) => if es.length = n then (mapO f es).bind fun cs => some (.call i cs) else none
      | none => (match es with
        | [] => none
        | a :: r => (decBlt x (a :: r).length).bind fun b => (mapO f (a :: r)).bind fun cs => some (.blt b cs)))
    else none
  else none
def mthTab : List Mth := [.ends, .split, .join, .index]
def mthOf (x : Str) : Option Mth := mthTab.find? fun m => decide (m.nm = x)
theorem mthOf_nm {x : Str} {m : Mth} (h : mthOf x = some m) : m.nm = x := by
  have := List.find?_some h
  simpa using this
def notCall : Expr → Bool
  | .Call _ _ _ _ => false
  | _ => true
def decBool (mk : CE → CE → CE) (f : Expr → Option CE) : List Expr → Option CE
  | [] => none
  | [a] => f a
  | a :: b :: r => (f a).bind fun c => (decBool mk f (b :: r)).bind fun d => some (mk c d)
def isNone : CE → Bool
  | .con .none => true
  | _ => false
def decPart (f : Expr → Option CE) : Option Expr → Option CE
  | none => some (.con .none)
  | some e => (f e).bind fun c => if isNone c = true then none else some c
def dec (mt : MT) : Nat → Ctx → Expr → Option CE
  | 0, _, _ => none
  | n + 1, cx, e => match e with
    | .Constant c _ _ => (conD c).map .con
    | .Name x _ => if okN x = true then (if isVis cx.sc x = true then (ixOf x cx.N).map .var else if isGl cx.sc x = true then (mt.cons.lookup x).map .con else none) else none
    | .BinOp a op b _ => (dec mt n cx a).bind fun a' => (dec mt n cx b).bind fun b' => some (.bin op a' b')
    | .UnaryOp .USub a _ => (dec mt n cx a).bind fun a' => some (.neg a')
    | .UnaryOp .Not a _ => (dec mt n cx a).bind fun a' => some (.not a')
    | .BoolOp .And (a :: b :: r) _ => decBool .and (dec mt n cx) (a :: b :: r)
    | .BoolOp .Or (a :: b :: r) _ => decBool .or (dec mt n cx) (a :: b :: r)
    | .Compare a [op] [b] _ => if behindInMarks op b = false then (match dctIx cx b, op with
      | some i, .In => (dec mt n cx a).bind fun a' => some (.dhas false i a')
      | some i, .NotIn => (dec mt n cx a).bind fun a' => some (.dhas true i a')
      | _, _ => (dec mt n cx a).bind fun a' => (dec mt n cx b).bind fun b' => some (.cmp op a' b')) else none
    | .Compare a [op, op'] [b, c] _ => if behindInMarks op' c = false then (dec mt n cx a).bind fun a' => (dec mt n cx b).bind fun b' => (dec mt n cx c).bind fun c' => some (.chain op op' a' b' c') else none
    | .Compare a [op, op', op2] [b, c, d] _ => if behindInMarks op2 d = false then (dec mt n cx a).bind fun a' => (dec mt n cx b).bind fun b' => (dec mt n cx c).bind fun c' => (dec mt n cx d).bind fun d' => some (.chain3 op op' op2 a' b' c' d') else none
    | .Call (.Attribute o x apos) [a] [] cpos => if notCall o = true ∧ (apos.endLine == cpos.line) = true then (mthOf x).bind fun m => (dec mt n cx o).bind fun o' => (dec mt n cx a).bind fun a' => some (.meth m o' [a']) else none
    | .Tuple es _ _ => if es.length ≤ 1000 then (mapO (dec mt n cx) es).bind fun cs => some (.tup cs) else none
    | .Dict [] [] _ => some (.con dicD)
    | .List es _ => if es.length ≤ 1000 then (mapO (dec mt n cx) es).bind fun cs => some (.lst cs) else none
    | .Subscript a (.Slice none none (some st) _) _ => (dec mt n cx a).bind fun a' => (match dec mt n cx st with
      | some (.neg (.con (.int 1))) => some (.rev a')
      | _ => none)
    | .Subscript a (.Slice lo hi none _) _ => (dec mt n cx a).bind fun a' => (decPart (dec mt n cx) lo).bind fun l => (decPart (dec mt n cx) hi).bind fun h => some (.sl a' l h)
    | .Subscript a i _ => match dctIx cx a with
      | some j => (dec mt n cx i).bind fun i' => some (.dget j i')
      | none => (dec mt n cx a).bind fun a' => (dec mt n cx i).bind fun i' => some (.ix a' i')
    | .Call (.Name x _) es [] _ => decCall mt cx (dec mt n cx) x es
    | .ListComp elt [⟨tg, it, ifs, z⟩] scope _ =>
      if z = 0 ∧ cx.calm = true ∧ blkC cx.N cx.sc scope (ownOf cx.N scope) = true ∧ ifs.length ≤ 1 then
        (decTg n ⟨cx.N, relS scope cx.sc, fun x => scope.names.lookup x == some .cell, cx.calm, false, cx.mu, cx.ds⟩ tg).bind fun t =>
          if (tgS t).all (fun i => decide (i ∈ (ownOf cx.N scope).map (·.2))) = true then
            (decIt mt cx (dec mt n cx) tg it).bind fun k => (mapO (dec mt n ⟨cx.N, relS scope cx.sc, fun x => scope.names.lookup x == some .cell, cx.calm, false, cx.mu, cx.ds⟩) ifs).bind fun cs =>
              (dec mt n ⟨cx.N, relS scope cx.sc, fun x => scope.names.lookup x == some .cell, cx.calm, false, cx.mu, cx.ds⟩ elt).bind fun c => some (.comp c t k.1 k.2.1 k.2.2 cs ((ownOf cx.N scope).map (·.2)))
          else none
      else none
    | _ => none
/-- the module's world -/
structure Glo where
  P : Program
  w : World
  K : Fr
  mg : Str → Option Value
  base : Heap
  mt : MT
  k : Nat
  F : Nat → List D → M R
  cV : Nat → Value
structure GOk (g : Glo) : Prop where
  call : ∀ i x n, g.mt.fns[i]? = some (x, n) → ∃ f fd ps, g.mg x = some (.ref f) ∧ PySem.W.keepIn g.K (.ref f) = true ∧ Binds g.K fd ps [] ∧ FnOk g.P g.w g.K g.mg g.base (L2.CX g.P g.w) g.k f fd ps (spD g.K g.cV (g.F i))
  con : ∀ x d, g.mt.cons.lookup x = some d → ∃ u v, g.mg x = some u ∧ RelV v u ∧ ∀ G, Rep g.K G v d
  blt : ∀ x ∈ bltNames, g.mg x = none
  raise : ∀ c y row, g.mt.excs[c]? = some (y, row) → c < g.mt.own → ∃ Cc, g.mg y = some (.ref Cc) ∧ g.cV c = .ref Cc ∧ PySem.W.excIn g.K Cc He.veBase "ValueError.__new__" = true ∧ PySem.W.keepIn g.K (.ref Cc) = true ∧
    PySem.W.subIn g.K (.ref Cc) (.type "BaseException") = some true ∧ PySem.W.typeIn g.K (.ref Cc) = some (.type "type")
  cls : ∀ y row, g.mt.excs.lookup y = some row → ∃ T vT, (g.mg y = some T ∨ (g.mg y = none ∧ bootBuiltins y = some T)) ∧ RelV vT T ∧ (∀ u, RelV vT u → u = T) ∧ row.length = g.mt.own ∧
    ∀ c b, row[c]? = some b → PySem.W.exmOne g.K (g.cV c) T = some b ∧ ∃ Dd, g.cV c = .ref Dd ∧ ExcC g.K Dd ∧ PySem.W.kitOne g.K (.ref Dd) T = some b
structure XOk (g : Glo) (C : Cfg) (W : WX) (cx : Ctx) (X : Cx) : Prop where
  prog : X.prog = g.P
  w : X.w = g.w
  K : X.K = g.K
  mg : X.mg = g.mg
  base : X.base = g.base
  CK : C.K = g.K
  CV : C.cV = g.cV
  CP : C.P = g.P
  Cw : C.w = g.w
  N : X.N = cx.N
  nd : X.N.Nodup
  sc : X.env.scope = cx.sc
  fn : ∀ x, cx.fn x = true → X.fn x = true
  calm : cx.calm = true → X.calm = true
  kind : X.env.scope.kind = .function
  room : cx.calm = true → Room g.k X.A
  units : X.A.units + 64 < cLine
  tk : cx.calm = true → Takes X W
  po : PassesOwn (model X.prog X.w) X.A X.env X.xe
  xn : cx.calm = true → C.xa = none
  isE : ∀ a c, C.xa = some (a, c) → c < g.mt.own ∧ ∀ Dd, g.cV c = .ref Dd → ExcC g.K Dd → CallR X (.builtin "isinstance") (rIsE X.K Dd a)
  top : cx.top = true → X.stack = X.env :: X.outer ∧ X.env.frame = some X.env.locals
section
variable {g : Glo} {C : Cfg} {W : WX} {cx : Ctx} {X : Cx} {x y : Str}
theorem XOk.hK (h : XOk g C W cx X) : X.K = C.K := h.K.trans h.CK.symm
theorem XOk.hP (h : XOk g C W cx X) : X.prog = C.P := h.prog.trans h.CP.symm
theorem XOk.hw (h : XOk g C W cx X) : X.w = C.w := h.w.trans h.Cw.symm
theorem XOk.vis (h : XOk g C W cx X) (e : isVis cx.sc x = true) : Vis X.env.scope x := by
  rw [h.sc]
  unfold isVis at e
  split at e
  · rename_i q; exact .inl q
  · rename_i q; exact .inr (.inl q)
  · rename_i q; exact .inr (.inr q)
  · cases e
theorem XOk.gl (h : XOk g C W cx X) (e : isGl cx.sc x = true) : Gl X x := by
  show X.env.scope.names.lookup x = some .globalImplicit
  rw [h.sc]
  unfold isGl at e
  split at e
  · assumption
  · cases e
theorem okN_d (e : okN x = true) : (x == ("__debug__" : Str)) = false := by
  unfold okN at e
  simp only [Bool.and_eq_true, Bool.not_eq_true'] at e
  exact e.1.1
theorem okN_c (e : okN x = true) : (x == ("__classdict__" : Str)) = false := by
  unfold okN at e
  simp only [Bool.and_eq_true, Bool.not_eq_true'] at e
  exact e.1.2
theorem okN_n (e : okN x = true) : x ≠ "__name__" := by
  unfold okN at e
  simp only [Bool.and_eq_true, Bool.not_eq_true', decide_eq_false_iff_not] at e
  exact e.2
theorem XOk.ix (h : XOk g C W cx X) {i : Nat} (e : ixOf x cx.N = some i) : X.N[i]? = some x := by rw [h.N]; exact ixOf_get e
theorem XOk.free (h : XOk g C W cx X) (G : GOk g) (e : x ∈ bltNames) : X.mg x = none := by rw [h.mg]; exact G.blt x e
/-- in a comprehension's block -/
theorem XOk.blk (h : XOk g C W cx X) {scope : Scope} {own : List (Str × Nat)} (hc : cx.calm = true) (hb : BlkOk X.N X.env.scope scope own) (s : Shared) (H : Hp) (Cc : Addr) (cl : List (Str × Addr)) (fp : List Addr) :
    XOk g C W0 ⟨cx.N, relS scope cx.sc, fun x => scope.names.lookup x == some .cell, cx.calm, false, cx.mu, cx.ds⟩ (X.blk s H scope (compEnvC scope cl Cc X.env) fp) :=
  ⟨h.prog, h.w, h.K, h.mg, h.base, h.CK, h.CV, h.CP, h.Cw, h.N, h.nd, by rw [← h.sc]; rfl, fun x hx => hx, h.calm, by
    show (relS scope X.env.scope).kind = .function
    exact hb.kind, h.room, h.units, fun _ => takes0, PassesOwn.never, h.xn, fun a c e => (by rw [h.xn hc] at e; cases e), fun z => (by cases z)⟩
theorem decTg_ok : ∀ {n : Nat} {e : Expr} {t : Tg}, XOk g C W cx X → decTg n cx e = some t → SndG C X e t
  | 0, _, _, _, e => by cases e
  | n + 1, e, t, h, q => by
    unfold decTg at q
    split at q
    · rename_i x p
      split at q
      · rename_i k
        cases q1 : ixOf x cx.N with
        | none => rw [q1] at q; cases q
        | some i =>
          rw [q1] at q
          cases q
          exact sndG_name h.nd (h.ix q1) (.inl (by rw [h.sc]; exact k)) (.inr (by rw [h.sc]; exact k))
      · rename_i k
        split at q
        · rename_i f
          cases q1 : ixOf x cx.N with
          | none => rw [q1] at q; cases q
          | some i =>
            rw [q1] at q
            cases q
            exact sndG_name h.nd (h.ix q1) (.inr (by rw [h.sc]; exact k)) (.inl (h.fn x f))
        · cases q
      · cases q
    · rename_i es k p
      split at q
      · rename_i hc
        cases q1 : mapO (decTg n cx) es with
        | none => rw [q1] at q; cases q
        | some ts =>
          rw [q1] at q
          cases q
          exact sndG_tup h.hK (h.calm hc) (mapO_paired (P := fun e t => SndG C X e t) (fun a b hab => decTg_ok h hab) q1)
      · cases q
    · cases q
abbrev Snd' (g : Glo) (C : Cfg) (W : WX) (X : Cx) (e : Expr) (c : CE) : Prop := Snd g.F C W X e c
theorem decIt_ok {f : Expr → Option CE} {tg it : Expr} {k : IK × CE × CE} (G : GOk g) (h : XOk g C W cx X) (hf : ∀ e c, f e = some c → Snd g.F C W X e c) (q : decIt g.mt cx f tg it = some k) : SndI g.F C W X tg it k.1 k.2.1 k.2.2 := by
  unfold decIt at q
  split at q
  · rename_i gn p es pos
    split at q
    · rename_i hg
      obtain ⟨hg1, hg2⟩ := hg
      split at q
      · rename_i e
        subst e
        have hm := h.free G (x := "range") (by decide +kernel)
        split at q
        · obtain ⟨c, h1, q⟩ := Option.bind_eq_some_iff.mp q
          cases q
          exact sndI_rng1 (h.gl hg1) hm (hf _ _ h1)
        · obtain ⟨c, h1, q⟩ := Option.bind_eq_some_iff.mp q
          obtain ⟨d, h2, q⟩ := Option.bind_eq_some_iff.mp q
          cases q
          exact sndI_rng2 (h.gl hg1) hm (hf _ _ h1) (hf _ _ h2)
        · cases q
      · split at q
        · rename_i e
          subst e
          have hm := h.free G (x := "enumerate") (by decide +kernel)
          split at q
          · obtain ⟨c, h1, q⟩ := Option.bind_eq_some_iff.mp q
            cases q
            exact sndI_enum h.hK (h.gl hg1) hm (hf _ _ h1)
          · cases q
        · split at q
          · rename_i e
            subst e
            have hm := h.free G (x := "zip") (by decide +kernel)
            split at q
            · obtain ⟨c, h1, q⟩ := Option.bind_eq_some_iff.mp q
              obtain ⟨d, h2, q⟩ := Option.bind_eq_some_iff.mp q
              cases q
              exact sndI_zip h.hK (h.gl hg1) hm (hf _ _ h1) (hf _ _ h2)
            · cases q
          · obtain ⟨c, h1, q⟩ := Option.bind_eq_some_iff.mp q
            cases q
            exact sndI_seq h.hK (hf _ _ h1)
    · cases q
  · obtain ⟨c, h1, q⟩ := Option.bind_eq_some_iff.mp q
    cases q
    exact sndI_seq h.hK (hf _ _ h1)
theorem XOk.fnok (h : XOk g C W cx X) {k : Nat} {f : Addr} {fd : FuncData} {ps : List Str} {i : Nat} (q : FnOk g.P g.w g.K g.mg g.base (L2.CX g.P g.w) k f fd ps (spD g.K g.cV (g.F i))) :
    FnOk X.prog X.w X.K X.mg X.base (L2.CX X.prog X.w) k f fd ps (spD C.K C.cV (g.F i)) := by
  rw [h.prog, h.w, h.K, h.mg, h.base, h.CK, h.CV]
  exact q
theorem dctIx_ok {e : Expr} {i : Nat} (q : dctIx cx e = some i) : ∃ x p, e = .Name x p ∧ ixOf x cx.N = some i ∧ isVis cx.sc x = true ∧ okN x = true := by
  unfold dctIx at q
  split at q
  · rename_i x p
    split at q
    · rename_i hh
      exact ⟨x, p, rfl, q, hh.2.1, hh.2.2⟩
    · cases q
  · cases q
theorem decCall_ok {f : Expr → Option CE} {es : List Expr} {c : CE} {p pos : Pos} (G : GOk g) (h : XOk g C W cx X) (hf : ∀ e c, f e = some c → Snd g.F C W X e c) (q : decCall g.mt cx f x es = some c) : Snd g.F C W X (.Call (.Name x p) es [] pos) c ∧ ∀ i, c ≠ .var i := by
  unfold decCall at q
  split at q
  · rename_i hg
    obtain ⟨hg1, hg2⟩ := hg
    split at q
    · rename_i e
      subst e
      have hm := h.free G (x := "isinstance") (by decide +kernel)
      split at q
      · rename_i a y p2
        split at q
        · rename_i hy
          obtain ⟨hy1, hy2⟩ := hy
          split at q
          · rename_i t ht
            obtain ⟨c, h1, q⟩ := Option.bind_eq_some_iff.mp q
            cases q
            have ey : (t.name : Str) = y := by
              have := List.find?_some ht
              simpa using this
            subst ey
            exact ⟨snd_isI h.hK (h.gl hg1) hm (h.gl hy1) (h.free G (ty_mem t)) (ty_boot t) (okN_n hy2) (okN_d hy2) (hf _ _ h1), by simp⟩
          · split at q
            · rename_i z p3
              split at q
              · rename_i hz
                obtain ⟨hz1, hz2⟩ := hz
                obtain ⟨i, h1, q⟩ := Option.bind_eq_some_iff.mp q
                obtain ⟨row, h2, q⟩ := Option.bind_eq_some_iff.mp q
                cases q
                obtain ⟨T, vT, t1, t2, t3, t4, t5⟩ := G.cls y row h2
                have pt : PE X (.Name y p2) (tC vT) := by
                  rcases t1 with t1 | ⟨t1, t1'⟩
                  · exact pe_glob (h.gl hy1) (by rw [h.mg]; exact t1) t2 (okN_d hy2)
                  · exact pe_bltn (h.gl hy1) (by rw [h.mg]; exact t1) t1' t2 (okN_n hy2) (okN_d hy2)
                refine ⟨snd_isE (row := row) h.hK (h.gl hg1) hm pt (h.ix h1) (h.vis hz1) (okN_d hz2) (okN_c hz2) (fun a c hx => ?_) _ (fun a c hx => rowL_has row c), by simp⟩
                obtain ⟨hl, hcall⟩ := h.isE a c hx
                have hc : row[c]? = some (row.getD c false) := by
                  have hl' : c < row.length := by rw [t4]; exact hl
                  rw [List.getElem?_eq_getElem hl', List.getD_eq_getElem?_getD, List.getElem?_eq_getElem hl']
                  rfl
                obtain ⟨_, Dd, d1, d2, d3⟩ := t5 c _ hc
                refine CallR.by fun xs H Q ⟨e1, q⟩ => ⟨_, hcall Dd d1 d2, ?_⟩
                exact ⟨vT, T, _, e1, t3, by rw [h.K]; exact d3, q⟩
              · cases q
            · cases q
        · cases q
      · cases q
    · split at q
      · cases hi : lenIx cx x es with
        | none => rw [hi] at q; cases q
        | some i =>
          rw [hi] at q
          cases q
          unfold lenIx at hi
          split at hi
          · split at hi
            · rename_i e
              subst e
              obtain ⟨y, p2, rfl, d1, d2, d3⟩ := dctIx_ok hi
              exact ⟨snd_dlen h.hP h.hw h.hK h.units (h.gl hg1) (h.free G (by decide +kernel)) (h.ix d1) (h.vis d2) (okN_d d3) (okN_c d3), by simp⟩
            · cases hi
          · cases hi
      split at q
      · rename_i hc
        split at q
        · rename_i i n hfn
          split at q
          · obtain ⟨cs, h1, q⟩ := Option.bind_eq_some_iff.mp q
            cases q
            obtain ⟨fa, fd, ps, g1, g2, g3, g4⟩ := G.call i x n (fnIx_get hfn)
            exact ⟨snd_call h.hK (h.fnok g4) (h.room hc) (h.gl hg1) (by rw [h.mg]; exact g1) (by rw [h.K]; exact g2) (by rw [h.K]; exact g3) (h.tk hc) (okN_d hg2) (mapO_paired (P := fun e c => Snd g.F C W X e c) hf h1), by simp⟩
          · cases q
        · split at q
          · cases q
          · rename_i a r
            obtain ⟨b, h1, q⟩ := Option.bind_eq_some_iff.mp q
            obtain ⟨cs, h2, q⟩ := Option.bind_eq_some_iff.mp q
            cases q
            have eb : b.nm = x := by
              have := List.find?_some h1
              simp only [Bool.and_eq_true, decide_eq_true_eq] at this
              exact this.1
            subst eb
            exact ⟨snd_blt h.hK (h.calm hc) h.units (h.gl hg1) (h.free G (nm_mem b)) (blt_boot b) (okN_n hg2) (okN_d hg2) (mapO_paired (P := fun e c => Snd g.F C W X e c) hf h2), by simp⟩
      · cases q
  · cases q
theorem decBool_ok {op : BoolOp} {mk : CE → CE → CE} {f : Expr → Option CE} {pos : Pos} (hf : ∀ e c, f e = some c → Snd g.F C W X e c)
    (step : ∀ a b r ca cb, Snd g.F C W X a ca → SndW g.F C W X (.BoolOp op (b :: r) pos) cb → SndW g.F C W X (.BoolOp op (a :: b :: r) pos) (mk ca cb)) :
    ∀ {vs : List Expr} {c : CE}, decBool mk f vs = some c → SndW g.F C W X (.BoolOp op vs pos) c
  | [], _, q => by cases q
  | [a], c, q => (hf a c q).one
  | a :: b :: r, c, q => by
    simp only [decBool] at q
    obtain ⟨ca, h1, q⟩ := Option.bind_eq_some_iff.mp q
    obtain ⟨cb, h2, q⟩ := Option.bind_eq_some_iff.mp q
    cases q
    exact step a b r ca cb (hf a ca h1) (decBool_ok hf step h2)
theorem decBool_nv {mk : CE → CE → CE} {f : Expr → Option CE} {a b : Expr} {r : List Expr} {c : CE} (hm : ∀ x y i, mk x y ≠ .var i) (q : decBool mk f (a :: b :: r) = some c) : ∀ i, c ≠ .var i := by
  simp only [decBool] at q
  obtain ⟨ca, h1, q⟩ := Option.bind_eq_some_iff.mp q
  obtain ⟨cb, h2, q⟩ := Option.bind_eq_some_iff.mp q
  cases q
  exact hm _ _
theorem decPart_ok {f : Expr → Option CE} {o : Option Expr} {c : CE} (hf : ∀ e c, f e = some c → Snd g.F C W X e c) (q : decPart f o = some c) : PO X o (T C W okO fun ρ => partC c (ev g.F c ρ).toD) := by
  cases o with
  | none => cases q; exact po_non
  | some e =>
    simp only [decPart] at q
    obtain ⟨c', h1, q⟩ := Option.bind_eq_some_iff.mp q
    split at q
    · cases q
    · rename_i hn
      cases q
      exact po_som (hf _ _ h1) fun z => by subst z; exact hn rfl
theorem comp_parts {n : Nat} {elt tg it : Expr} {ifs : List Expr} {scope : Scope} {z : Int} {pos : Pos} {c : CE} (G : GOk g) (h : XOk g C W cx X) (ih : ∀ {C W cx X e c}, XOk g C W cx X → dec g.mt n cx e = some c → Snd g.F C W X e c)
    (q : dec g.mt (n + 1) cx (.ListComp elt [⟨tg, it, ifs, z⟩] scope pos) = some c) :
    ∃ ce t k ca cb cs, z = 0 ∧ c = .comp ce t k ca cb cs ((ownOf cx.N scope).map (·.2)) ∧ CompParts g.F C W X elt tg it ifs scope (ownOf cx.N scope) ce t k ca cb cs := by
  simp only [dec] at q
  split at q
  · rename_i hh
    obtain ⟨h1, h2, h3, h4⟩ := hh
    obtain ⟨t, q1, q⟩ := Option.bind_eq_some_iff.mp q
    split at q
    · rename_i ht
      obtain ⟨k, q2, q⟩ := Option.bind_eq_some_iff.mp q
      obtain ⟨cs, q3, q⟩ := Option.bind_eq_some_iff.mp q
      obtain ⟨ce, q4, q⟩ := Option.bind_eq_some_iff.mp q
      cases q
      have hb : BlkOk X.N X.env.scope scope (ownOf cx.N scope) := by
        rw [h.N, h.sc]
        exact blkOk_by h3
      refine ⟨ce, t, _, _, _, cs, h1, rfl, h.calm h2, h.nd, decIt_ok G h (fun e c he => ih h he) q2, hb, fun i hi => ?_, fun s H Cc cl fp => decTg_ok (h.blk h2 hb s H Cc cl fp) q1, h4,
        fun s H Cc cl fp => mapO_paired (P := fun e c => Snd g.F C W0 (X.blk s H scope (compEnvC scope cl Cc X.env) fp) e c) (fun a b hab => ih (h.blk h2 hb s H Cc cl fp) hab) q3, fun s H Cc cl fp => ih (h.blk h2 hb s H Cc cl fp) q4⟩
      have := List.all_eq_true.mp ht i hi
      simpa using this
    · cases q
  · cases q
theorem noCall_of {o : Expr} (h : notCall o = true) : NoCall o := by
  cases o <;> first | trivial | cases h
theorem dec_ok (G : GOk g) : ∀ {n : Nat} {C : Cfg} {W : WX} {cx : Ctx} {X : Cx} {e : Expr} {c : CE}, XOk g C W cx X → dec g.mt n cx e = some c → Snd g.F C W X e c
  | 0, _, _, _, _, _, _, _, q => by cases q
  | n + 1, C, W, cx, X, e, c, h, q => by
    have ih : ∀ {C W cx X e c}, XOk g C W cx X → dec g.mt n cx e = some c → Snd g.F C W X e c := fun h q => dec_ok G h q
    unfold dec at q
    split at q
    · -- a constant
      rename_i k j p
      cases k <;> first
        | (cases q; done)
        | (cases q; exact snd_con h.hK pe_int (fun G => .int _) (fun _ => rfl) trivial fun _ _ => rfl)
        | (cases q; exact snd_con h.hK pe_str (fun G => .str _) (fun _ => rfl) trivial fun _ _ => rfl)
        | (cases q; exact snd_con h.hK pe_bl (fun G => .bl _) (fun _ => rfl) trivial fun _ _ => rfl)
        | (cases q; exact snd_con h.hK pe_non (fun G => .non) (fun _ => rfl) trivial fun _ _ => rfl)
    · -- a name
      rename_i x p
      split at q
      · rename_i hx
        split at q
        · rename_i hv
          cases q1 : ixOf x cx.N with
          | none => rw [q1] at q; cases q
          | some i =>
            rw [q1] at q
            cases q
            exact snd_var h.hK (h.ix q1) (h.vis hv) (okN_d hx) (okN_c hx)
        · split at q
          · rename_i hg
            cases q1 : g.mt.cons.lookup x with
            | none => rw [q1] at q; cases q
            | some d =>
              rw [q1] at q
              cases q
              obtain ⟨u, v, c1, c2, c3⟩ := G.con x d q1
              exact snd_con h.hK (pe_glob (h.gl hg) (by rw [h.mg]; exact c1) c2 (okN_d hx)) (by rw [h.CK]; exact c3) (fun _ => rfl) trivial fun _ _ => rfl
          · cases q
      · cases q
    · obtain ⟨a', h1, q⟩ := Option.bind_eq_some_iff.mp q
      obtain ⟨b', h2, q⟩ := Option.bind_eq_some_iff.mp q
      cases q
      exact snd_bin h.hK (ih h h1) (ih h h2)
    · obtain ⟨a', h1, q⟩ := Option.bind_eq_some_iff.mp q
      cases q
      exact snd_neg h.hK (ih h h1)
    · obtain ⟨a', h1, q⟩ := Option.bind_eq_some_iff.mp q
      cases q
      exact snd_not h.hK (ih h h1)
    · exact (decBool_ok (fun e c he => ih h he) (fun a b r ca cb ha hb => snd_and h.hK ha hb) q).snd (decBool_nv (by simp) q)
    · exact (decBool_ok (fun e c he => ih h he) (fun a b r ca cb ha hb => snd_or h.hK ha hb) q).snd (decBool_nv (by simp) q)
    · split at q
      · rename_i hm
        split at q
        · rename_i i hi
          obtain ⟨a', h1, q⟩ := Option.bind_eq_some_iff.mp q
          cases q
          obtain ⟨x, p, rfl, d1, d2, d3⟩ := dctIx_ok hi
          exact snd_dhas rfl h.hP h.hw h.hK h.units hm (h.ix d1) (h.vis d2) (okN_d d3) (okN_c d3) (ih h h1)
        · rename_i i hi
          obtain ⟨a', h1, q⟩ := Option.bind_eq_some_iff.mp q
          cases q
          obtain ⟨x, p, rfl, d1, d2, d3⟩ := dctIx_ok hi
          exact snd_dhas rfl h.hP h.hw h.hK h.units hm (h.ix d1) (h.vis d2) (okN_d d3) (okN_c d3) (ih h h1)
        · obtain ⟨a', h1, q⟩ := Option.bind_eq_some_iff.mp q
          obtain ⟨b', h2, q⟩ := Option.bind_eq_some_iff.mp q
          cases q
          exact snd_cmp h.hK h.units hm (ih h h1) (ih h h2)
      · cases q
    · split at q
      · rename_i hm
        obtain ⟨a', h1, q⟩ := Option.bind_eq_some_iff.mp q
        obtain ⟨b', h2, q⟩ := Option.bind_eq_some_iff.mp q
        obtain ⟨c', h3, q⟩ := Option.bind_eq_some_iff.mp q
        cases q
        exact snd_chain h.hK h.units hm (ih h h1) (ih h h2) (ih h h3)
      · cases q
    · split at q
      · rename_i hm
        obtain ⟨a', h1, q⟩ := Option.bind_eq_some_iff.mp q
        obtain ⟨b', h2, q⟩ := Option.bind_eq_some_iff.mp q
        obtain ⟨c', h3, q⟩ := Option.bind_eq_some_iff.mp q
        obtain ⟨d', h4, q⟩ := Option.bind_eq_some_iff.mp q
        cases q
        exact snd_chain3 h.hK h.units hm (ih h h1) (ih h h2) (ih h h3) (ih h h4)
      · cases q
    · split at q
      · rename_i hh
        obtain ⟨m, h1, q⟩ := Option.bind_eq_some_iff.mp q
        obtain ⟨o', h2, q⟩ := Option.bind_eq_some_iff.mp q
        obtain ⟨a', h3, q⟩ := Option.bind_eq_some_iff.mp q
        cases q
        have em := mthOf_nm h1
        subst em
        exact snd_meth h.hK (noCall_of hh.1) hh.2 (ih h h2) (.cons (ih h h3) .nil)
      · cases q
    · split at q
      · rename_i hl
        obtain ⟨cs, h1, q⟩ := Option.bind_eq_some_iff.mp q
        cases q
        exact snd_tup h.hK (mapO_paired (P := fun e c => Snd g.F C W X e c) (fun e c he => ih h he) h1) (by rw [← mapO_len h1]; exact hl)
      · cases q
    · cases q
      exact snd_emp h.hK
    · split at q
      · rename_i hl
        obtain ⟨cs, h1, q⟩ := Option.bind_eq_some_iff.mp q
        cases q
        exact snd_lst h.hK (mapO_paired (P := fun e c => Snd g.F C W X e c) (fun e c he => ih h he) h1) (by rw [← mapO_len h1]; exact hl)
      · cases q
    · obtain ⟨a', h1, q⟩ := Option.bind_eq_some_iff.mp q
      split at q
      · rename_i h2
        cases q
        exact snd_rev h.hK (ih h h1) (ih h h2)
      · cases q
    · obtain ⟨a', h1, q⟩ := Option.bind_eq_some_iff.mp q
      obtain ⟨l, h2, q⟩ := Option.bind_eq_some_iff.mp q
      obtain ⟨hh, h3, q⟩ := Option.bind_eq_some_iff.mp q
      cases q
      exact snd_sl h.hK (ih h h1) (decPart_ok (fun e c he => ih h he) h2) (decPart_ok (fun e c he => ih h he) h3)
    · rename_i a i p hns0 hns
      split at q
      · rename_i j hj
        obtain ⟨i', h2, q⟩ := Option.bind_eq_some_iff.mp q
        cases q
        obtain ⟨x, p, rfl, d1, d2, d3⟩ := dctIx_ok hj
        refine snd_dget h.hP h.hw h.hK h.units (h.ix d1) (h.vis d2) (okN_d d3) (okN_c d3) ?_ (ih h h2)
        cases i with
        | Slice lo hi st p2 => cases n <;> simp [dec] at h2
        | _ => trivial
      · obtain ⟨a', h1, q⟩ := Option.bind_eq_some_iff.mp q
        obtain ⟨i', h2, q⟩ := Option.bind_eq_some_iff.mp q
        cases q
        refine snd_ix h.hK ?_ (ih h h1) (ih h h2)
        cases i with
        | Slice lo hi st p2 => cases n <;> simp [dec] at h2
        | _ => trivial
    · exact (decCall_ok G h (fun e c he => ih h he) q).1
    · rename_i elt tg it ifs z scope p
      obtain ⟨ce, t, k, ca, cb, cs, hz, e, parts⟩ := comp_parts (n := n) (pos := p) G h ih (by simp only [dec]; exact q)
      subst hz e
      exact snd_comp h.hK parts
    · cases q
end
end PF

end

section
/-! PF11: from the text's statements to the core language; defs. -/
namespace PF
open PySem PySem.Spec PyProof.Rows L2
/-! ### which names' lists are changed; which of them a value would keep -/
mutual
def escV : CE → List Nat
  | .var i => [i]
  | .con _ => []
  | .bin _ a b => escP a ++ escP b
  | .neg a => escP a
  | .cmp _ a b => escP a ++ escP b
  | .chain _ _ a b c => escP a ++ escP b ++ escP c
  | .chain3 _ _ _ a b c d => escP a ++ escP b ++ escP c ++ escP d
  | .meth _ a es => escP a ++ escVs es
  | .and a b => escV a ++ escV b
  | .or a b => escV a ++ escV b
  | .not a => escP a
  | .tup es => escVs es
  | .lst es => escVs es
  | .ix a i => escP a ++ escV i
  | .sl a l h => escP a ++ escV l ++ escV h
  | .call _ es => escVs es
  | .blt _ es => escPs es
  | .isI a _ => escP a
  | .isE _ _ => []
  | .comp e _ _ a b ifs _ => escV a ++ escV b ++ escV e ++ escPs ifs
  | .dhas _ _ e => escV e
  | .dget _ e => escV e
  | .dlen _ => []
  | .rev a => escP a
def escP : CE → List Nat
  | .var _ => []
  | .con _ => []
  | .bin _ a b => escP a ++ escP b
  | .neg a => escP a
  | .cmp _ a b => escP a ++ escP b
  | .chain _ _ a b c => escP a ++ escP b ++ escP c
  | .chain3 _ _ _ a b c d => escP a ++ escP b ++ escP c ++ escP d
  | .meth _ a es => escP a ++ escVs es
  | .and a b => escV a ++ escV b
  | .or a b => escV a ++ escV b
  | .not a => escP a
  | .tup es => escVs es
  | .lst es => escVs es
  | .ix a i => escP a ++ escV i
  | .sl a l h => escP a ++ escV l ++ escV h
  | .call _ es => escVs es
  | .blt _ es => escPs es
  | .isI a _ => escP a
  | .isE _ _ => []
  | .comp e _ _ a b ifs _ => escV a ++ escV b ++ escV e ++ escPs ifs
  | .dhas _ _ e => escV e
  | .dget _ e => escV e
  | .dlen _ => []
  | .rev a => escP a
def escVs : List CE → List Nat
  | [] => []
  | e :: es => escV e ++ escVs es
def escPs : List CE → List Nat
  | [] => []
  | e :: es => escP e ++ escPs es
end
def frzW (cx : Ctx) (is : List Nat) (s : CS) : CS := match is.filter fun i => decide (i ∈ cx.mu) with
  | [] => s
  | js => .frz js s
theorem frzW_ok {F : Nat → List D → M R} {C : Cfg} {W : WX} {X : Cx} {s : Stmt} {cs : CS} {cx : Ctx} {is : List Nat} (h : SndS F C W X s cs) : SndS F C W X s (frzW cx is cs) := by
  unfold frzW
  split
  · exact h
  · exact sndS_frz _ h
def mutsS : Nat → List Stmt → List Str
  | 0, _ => []
  | _, [] => []
  | n + 1, s :: ss => (match s with
    | .Expr (.Call (.Attribute (.Name x _) m _) _ _ _) _ => if m = "append" then [x] else []
    | .Assign [.Subscript (.Name x _) _ _] _ _ => [x]
    | .If _ a b _ => mutsS n a ++ mutsS n b
    | .While _ a _ _ => mutsS n a
    | .For _ _ a _ _ => mutsS n a
    | .Try a _ _ _ _ => mutsS n a
    | _ => []) ++ mutsS n ss
/-! ### statements -/
def isComp : Expr → Bool
  | .ListComp _ _ _ _ => true
  | .SetComp _ _ _ _ => true
  | .DictComp _ _ _ _ _ => true
  | _ => false
theorem noComp {e : Expr} (h : isComp e = false) : NoComp e := by cases e <;> first | trivial | cases h
def isTupE : Expr → Bool
  | .Tuple _ _ _ => true
  | _ => false
theorem noTup {e : Expr} (h : isTupE e = false) : NoTup e := by cases e <;> first | trivial | cases h
def isSl : Expr → Bool
  | .Slice _ _ _ _ => true
  | _ => false
theorem plainE {e : Expr} (h : isSl e = false) : PlainE e := by cases e <;> first | trivial | cases h
/-- a name that may be stored -/
def stIx (cx : Ctx) (x : Str) : Option Nat := match cx.sc.names.lookup x with
  | some .local => ixOf x cx.N
  | some .cell => if cx.fn x = true then ixOf x cx.N else none
  | _ => none
def isLoc (cx : Ctx) (x : Str) : Bool := match cx.sc.names.lookup x with
  | some .local => true
  | _ => false
def excIx (y : Str) : List (Str × List Bool) → Option Nat
  | [] => none
  | (x, _) :: r => if x = y then some 0 else (excIx y r).map (· + 1)
theorem excIx_get {y : Str} : ∀ {l : List (Str × List Bool)} {c : Nat}, excIx y l = some c → ∃ row, l[c]? = some (y, row)
  | [], _, h => by cases h
  | (x, row) :: r, c, h => by
    unfold excIx at h
    split at h
    · rename_i e
      cases h
      exact ⟨row, by rw [e]; rfl⟩
    · cases q : excIx y r with
      | none => rw [q] at h; cases h
      | some j =>
        rw [q] at h
        cases h
        obtain ⟨row', h'⟩ := excIx_get q
        exact ⟨row', by rw [List.getElem?_cons_succ]; exact h'⟩
mutual
/-- what isn't read says nothing -/
def decS (mt : MT) : Nat → Ctx → Stmt → Option CS
  | 0, _, _ => none
  | n + 1, cx, s => match decR mt n cx s with
    | some c => some c
    | none => some .bad
def decR (mt : MT) : Nat → Ctx → Stmt → Option CS
  | 0, _, _ => none
  | n + 1, cx, s => match s with
    | .Assign [.Name x px] (.Dict [] [] dp) pos => if x ∈ cx.ds then (stIx cx x).bind fun i => some (.dnew i) else none
    | .Assign [.Name x px] (.ListComp elt gs scope cp) pos =>
      (dec mt n cx (.ListComp elt gs scope cp)).bind fun c => (stIx cx x).bind fun i => some (frzW cx (escV c) (.asg i (decide (i ∈ cx.mu)) c))
    | .Assign [.Name x px] e pos => if isComp e = false then (dec mt n cx e).bind fun c => (stIx cx x).bind fun i => some (frzW cx (escV c) (.asg i (decide (i ∈ cx.mu)) c)) else none
    | .Assign [.Tuple [.Name x px, .Name y py] kt pt] (.Tuple [a, b] k2 pt2) pos =>
      if cx.calm = true ∧ isLoc cx x = true ∧ isLoc cx y = true ∧ (py.line == px.line) = true ∧ x ≠ y ∧ [a, b].all (foldedForSure 8) = false ∧ [a, b].all (constantsAlone 8) = false then
        (dec mt n cx a).bind fun ca => (dec mt n cx b).bind fun cb => (ixOf x cx.N).bind fun i => (ixOf y cx.N).bind fun j => if i ≠ j then some (frzW cx (escV ca ++ escV cb) (.par i j ca cb)) else none
      else none
    | .Assign [.Tuple [.Subscript (.Name x px) i1 p1, .Subscript (.Name y py) i2 p2] kt pt] e pos =>
      if cx.calm = true ∧ isComp e = false ∧ isSl i1 = false ∧ isSl i2 = false ∧ isVis cx.sc x = true ∧ okN x = true ∧ x = y then
        (dec mt n cx e).bind fun c => (dec mt n cx i1).bind fun a => (dec mt n cx i2).bind fun b => (ixOf x cx.N).bind fun i => some (frzW cx (escV c ++ escV a ++ escV b) (.swp i a b c))
      else none
    | .Assign [.Tuple es k tp] e pos => if isComp e = false ∧ isTupE e = false then (dec mt n cx e).bind fun c => (decTg n cx (.Tuple es k tp)).bind fun t => some (frzW cx (escV c) (.asgT t c)) else none
    | .Assign [.Subscript (.Name x px) it sp] e pos =>
      if isSl it = false ∧ isVis cx.sc x = true ∧ okN x = true then
        (dec mt n cx e).bind fun c => (dec mt n cx it).bind fun ci => (ixOf x cx.N).bind fun i => some (frzW cx (escV c ++ escV ci) (if x ∈ cx.ds then .dput i ci c else .setix i ci c))
      else none
    | .AugAssign (.Name x px) .Add e pos => (dec mt n cx e).bind fun c => (stIx cx x).bind fun i => some (frzW cx (escV c) (.aug i c))
    | .Expr (.Constant (.str y) j p2) pos => some .pass
    | .Expr (.Call (.Attribute (.Name x px) m ap) [e] [] cp) pos =>
      if m = "append" ∧ (ap.endLine == cp.line) = true ∧ isVis cx.sc x = true ∧ okN x = true then (dec mt n cx e).bind fun c => (ixOf x cx.N).bind fun i => some (frzW cx (escV c) (.app i c)) else none
    | .Expr e pos => if isComp e = false then (dec mt n cx e).bind fun c => some (frzW cx (escV c) (.expr c)) else none
    | .Return none pos => some .retN
    | .Return (some (.Name x px)) pos => (dec mt n cx (.Name x px)).bind fun c => (match c with
      | .var i => if isVis cx.sc x = true ∧ okN x = true then (ixOf x cx.N).bind fun i => some (.retv i) else none
      | c => some (.ret c))
    | .Return (some e) pos => (dec mt n cx e).bind fun c => some (frzW cx (escV c) (.ret c))
    | .If c a b pos => (dec mt n cx c).bind fun cc => (decB mt n cx a).bind fun ca => (decB mt n cx b).bind fun cb => some (frzW cx (escP cc) (.ite cc ca cb))
    | .While c a [] pos => (dec mt n cx c).bind fun cc => (decB mt n cx a).bind fun ca => some (frzW cx (escP cc) (.whl cc ca))
    | .For tg it a [] pos => if cx.calm = true then (decTg n cx tg).bind fun t => (decIt mt cx (dec mt n cx) tg it).bind fun k => (decB mt n cx a).bind fun ca => some (frzW cx (escV k.2.1 ++ escV k.2.2) (.for t k.1 k.2.1 k.2.2 ca)) else none
    | .Pass pos => some .pass
    | .Break pos => some .brk
    | .Continue pos => some .cnt
    | .Raise (some (.Call (.Name y p) [.Constant (.str m) j p2] [] p3)) none pos =>
      if cx.calm = true ∧ isGl cx.sc y = true ∧ okN y = true then (excIx y mt.excs).bind fun c => if c < mt.own then some (.raise c) else none else none
    | .Try body [.ExceptHandler (some (.Name x np)) nm (b0 :: suite) p2] [] [] pos =>
      if cx.calm = true ∧ cx.top = true ∧ isGl cx.sc x = true ∧ okN x = true then
        (mt.excs.lookup x).bind fun row => (decB mt n cx body).bind fun cb => (decB mt n ⟨cx.N, cx.sc, cx.fn, false, false, cx.mu, cx.ds⟩ (b0 :: suite)).bind fun cs => (match nm with
          | none => some (.try cb row none cs)
          | some y => if isLoc cx y = true then (ixOf y cx.N).bind fun i => some (.try cb row (some i) cs) else none)
      else none
    | _ => none
def decB (mt : MT) : Nat → Ctx → List Stmt → Option (List CS)
  | 0, _, _ => none
  | _ + 1, _, [] => some []
  | n + 1, cx, s :: ss => (decS mt n cx s).bind fun c => (decB mt n cx ss).bind fun cs => some (c :: cs)
end
section
variable {g : Glo} {C : Cfg} {W : WX} {cx : Ctx} {X : Cx} {x y : Str}
theorem XOk.st (h : XOk g C W cx X) {i : Nat} (q : stIx cx x = some i) : X.N[i]? = some x ∧ Loc X.env.scope x ∧ (X.fn x = true ∨ X.env.scope.names.lookup x = some .local) := by
  unfold stIx at q
  split at q
  · rename_i k
    exact ⟨h.ix q, .inl (by rw [h.sc]; exact k), .inr (by rw [h.sc]; exact k)⟩
  · rename_i k
    split at q
    · rename_i f
      exact ⟨h.ix q, .inr (by rw [h.sc]; exact k), .inl (h.fn x f)⟩
    · cases q
  · cases q
theorem XOk.loc (h : XOk g C W cx X) (q : isLoc cx x = true) : X.env.scope.names.lookup x = some .local := by
  rw [h.sc]
  unfold isLoc at q
  split at q
  · assumption
  · cases q
theorem comp_form {mt : MT} {n : Nat} {elt : Expr} {gs : List Comprehension} {scope : Scope} {cp : Pos} {c : CE} (q : dec mt (n + 1) cx (.ListComp elt gs scope cp) = some c) : ∃ tg it ifs z, gs = [⟨tg, it, ifs, z⟩] := by
  cases gs with
  | nil => simp [dec] at q
  | cons a r =>
    cases r with
    | nil => obtain ⟨tg, it, ifs, z⟩ := a; exact ⟨tg, it, ifs, z, rfl⟩
    | cons b r => simp [dec] at q
theorem swaps_val {elt : Expr} {gs : List Comprehension} {scope : Scope} {cp px : Pos} {l : Nat} {env : PySem.Env} : ∃ b, swapsWith (.ListComp elt gs scope cp) (some (.Name x px)) l env = pure b ∧ (b = true → env.scope.names.lookup x = some .local) := by
  refine ⟨env.blockKind == .function && env.kindOf x == some .local && px.line == cp.line && !(scope.names.any fun (n, k) => n == x && (k == .local || k == .cell)), rfl, fun h => ?_⟩
  simp only [Bool.and_eq_true, beq_iff_eq] at h
  exact h.1.1.2
/-- in an except suite -/
theorem XOk.suite (G : GOk g) (h : XOk g C W cx X) {a : Addr} {oe : Obj} {c : Nat} (pn : List (Addr × Obj)) (hc : c < g.mt.own) (hz : Zc (C.cV c) none oe) (hf : ∃ vs, oe.data = .fields vs) :
    XOk g { C with xa := some (a, c) } W0 ⟨cx.N, cx.sc, cx.fn, false, false, cx.mu, cx.ds⟩ (X.suite a ((a, oe) :: pn)) :=
  ⟨h.prog, h.w, h.K, h.mg, h.base, h.CK, h.CV, h.CP, h.Cw, h.N, h.nd, h.sc, h.fn, fun z => (by cases z), h.kind, fun z => (by cases z), h.units, fun z => (by cases z), PassesOwn.never, fun z => (by cases z),
    fun a' c' e => by
      cases e
      refine ⟨hc, fun Dd hd hE => ?_⟩
      rw [h.CV, hd] at hz
      exact call_isE (X := X) (by rw [h.K]; exact hE) hz hf,
    fun z => (by cases z)⟩
theorem XOk.tr (h : XOk g C W cx X) (hc : cx.calm = true) {W' : WX} {pn : List (Addr × Obj)} {xe : Value → Shared → Prop} (t : Takes (X.tr pn xe) W') (p : PassesOwn (model X.prog X.w) X.A X.env xe) : XOk g C W' cx (X.tr pn xe) :=
  ⟨h.prog, h.w, h.K, h.mg, h.base, h.CK, h.CV, h.CP, h.Cw, h.N, h.nd, h.sc, h.fn, h.calm, h.kind, h.room, h.units, fun _ => t, p, h.xn, fun a c e => (by rw [h.xn hc] at e; cases e), h.top⟩
theorem XOk.names (G : GOk g) (h : XOk g C W cx X) {row : List Bool} (hg : isGl cx.sc x = true) (hn : okN x = true) (q : g.mt.excs.lookup x = some row) :
    ∃ T, Names X x T ∧ row.length = g.mt.own ∧ ∀ c b, row[c]? = some b → PySem.W.exmOne X.K (C.cV c) T = some b := by
  obtain ⟨T, vT, t1, t2, t3, t4, t5⟩ := G.cls x row q
  refine ⟨T, ⟨h.gl hg, okN_d hn, ?_⟩, t4, fun c b hb => ?_⟩
  · rw [h.mg]
    rcases t1 with t1 | ⟨t1, t1'⟩
    · exact .inl t1
    · exact .inr ⟨t1, t1', okN_n hn⟩
  · rw [h.K, h.CV]
    exact (t5 c b hb).1
mutual
theorem decS_ok (G : GOk g) : ∀ {n : Nat} {C : Cfg} {W : WX} {cx : Ctx} {X : Cx} {s : Stmt} {c : CS}, XOk g C W cx X → decS g.mt n cx s = some c → SndS g.F C W X s c
  | 0, _, _, _, _, _, _, _, q => by simp [decS] at q
  | n + 1, C, W, cx, X, s, c, h, q => by
    unfold decS at q
    split at q
    · rename_i c' hc
      cases q
      exact decR_ok G h hc
    · cases q
      exact sndS_bad
theorem decR_ok (G : GOk g) : ∀ {n : Nat} {C : Cfg} {W : WX} {cx : Ctx} {X : Cx} {s : Stmt} {c : CS}, XOk g C W cx X → decR g.mt n cx s = some c → SndS g.F C W X s c
  | 0, _, _, _, _, _, _, _, q => by simp [decR] at q
  | n + 1, C, W, cx, X, s, c, h, q => by
    have ihe : ∀ {C W cx X e c}, XOk g C W cx X → dec g.mt n cx e = some c → Snd g.F C W X e c := fun h q => dec_ok G h q
    have ihb : ∀ {C W cx X ss cs}, XOk g C W cx X → decB g.mt n cx ss = some cs → SndB g.F C W X ss cs := fun h q => decB_ok G h q
    unfold decR at q
    split at q
    · -- name = {}
      split at q
      · rename_i hx
        obtain ⟨i, h2, q⟩ := Option.bind_eq_some_iff.mp q
        cases q
        obtain ⟨s1, s2, s3⟩ := h.st h2
        exact sndS_dnew h.hP h.hw h.nd s1 s2 s3
      · cases q
    · -- name = [..]
      rename_i x px elt gs scope cp pos
      obtain ⟨c, h1, q⟩ := Option.bind_eq_some_iff.mp q
      obtain ⟨i, h2, q⟩ := Option.bind_eq_some_iff.mp q
      cases q
      obtain ⟨s1, s2, s3⟩ := h.st h2
      refine frzW_ok ?_
      cases n with
      | zero => simp [dec] at h1
      | succ n =>
        obtain ⟨tg, it, ifs, z, rfl⟩ := comp_form h1
        obtain ⟨ce, t, k, ca, cb, cs, hz, e, parts⟩ := comp_parts (n := n) (pos := cp) G h (fun h q => dec_ok G h q) h1
        subst hz e
        obtain ⟨b, b1, b2⟩ := swaps_val (elt := elt) (gs := [⟨tg, it, ifs, 0⟩]) (scope := scope) (cp := cp) (px := px) (x := x) (l := pos.line) (env := X.env)
        cases b with
        | true => exact sndS_comp parts s1 (b2 rfl) b1
        | false => exact sndS_comp0 parts s1 s2 s3 b1
    · -- name = e
      split at q
      · rename_i hn
        obtain ⟨c, h1, q⟩ := Option.bind_eq_some_iff.mp q
        obtain ⟨i, h2, q⟩ := Option.bind_eq_some_iff.mp q
        cases q
        obtain ⟨s1, s2, s3⟩ := h.st h2
        exact frzW_ok (sndS_asg h.nd s1 s2 s3 (noComp hn) (ihe h h1))
      · cases q
    · -- a, b = x, y
      split at q
      · rename_i hh
        obtain ⟨h1, h2, h3, h4, h5, h6, h7⟩ := hh
        obtain ⟨ca, q1, q⟩ := Option.bind_eq_some_iff.mp q
        obtain ⟨cb, q2, q⟩ := Option.bind_eq_some_iff.mp q
        obtain ⟨i, q3, q⟩ := Option.bind_eq_some_iff.mp q
        obtain ⟨j, q4, q⟩ := Option.bind_eq_some_iff.mp q
        split at q
        · rename_i hij
          cases q
          exact frzW_ok (sndS_par (h.calm h1) h.nd (h.ix q3) (h.ix q4) hij (h.loc h2) (h.loc h3) h.kind h4 h5 h6 h7 (ihe h q1) (ihe h q2))
        · cases q
      · cases q
    · -- x[i], x[j] = e
      split at q
      · rename_i hh
        obtain ⟨h1, h2, h3, h4, h5, h6, h7⟩ := hh
        subst h7
        obtain ⟨c, q1, q⟩ := Option.bind_eq_some_iff.mp q
        obtain ⟨a, q2, q⟩ := Option.bind_eq_some_iff.mp q
        obtain ⟨b, q3, q⟩ := Option.bind_eq_some_iff.mp q
        obtain ⟨i, q4, q⟩ := Option.bind_eq_some_iff.mp q
        cases q
        exact frzW_ok (sndS_swp h.hK (h.calm h1) (h.ix q4) (h.vis h5) (okN_d h6) (okN_c h6) (noComp h2) (plainE h3) (plainE h4) (ihe h q2) (ihe h q3) (ihe h q1))
      · cases q
    · -- (..) = e
      split at q
      · rename_i hh
        obtain ⟨h1, h2⟩ := hh
        obtain ⟨c, q1, q⟩ := Option.bind_eq_some_iff.mp q
        obtain ⟨t, q2, q⟩ := Option.bind_eq_some_iff.mp q
        cases q
        exact frzW_ok (sndS_asgT (decTg_ok h q2) (noComp h1) (noTup h2) (ihe h q1))
      · cases q
    · -- x[i] = e
      split at q
      · rename_i hh
        obtain ⟨h3, h4, h5⟩ := hh
        obtain ⟨c, q1, q⟩ := Option.bind_eq_some_iff.mp q
        obtain ⟨ci, q2, q⟩ := Option.bind_eq_some_iff.mp q
        obtain ⟨i, q3, q⟩ := Option.bind_eq_some_iff.mp q
        cases q
        refine frzW_ok ?_
        split
        · exact sndS_dput h.hP h.hw h.hK h.units (h.ix q3) (h.vis h4) (okN_d h5) (okN_c h5) (plainE h3) (ihe h q2) (ihe h q1)
        · exact sndS_setix (h.ix q3) (h.vis h4) (okN_d h5) (okN_c h5) (plainE h3) (ihe h q2) (ihe h q1)
      · cases q
    · -- x += e
      obtain ⟨c, q1, q⟩ := Option.bind_eq_some_iff.mp q
      obtain ⟨i, q2, q⟩ := Option.bind_eq_some_iff.mp q
      cases q
      obtain ⟨s1, s2, s3⟩ := h.st q2
      exact frzW_ok (sndS_aug h.nd s1 s2 s3 (ihe h q1))
    · cases q
      exact sndS_doc
    · -- x.append(e)
      split at q
      · rename_i hh
        obtain ⟨h1, h2, h3, h4⟩ := hh
        subst h1
        obtain ⟨c, q1, q⟩ := Option.bind_eq_some_iff.mp q
        obtain ⟨i, q2, q⟩ := Option.bind_eq_some_iff.mp q
        cases q
        exact frzW_ok (sndS_app h.hK (h.ix q2) (h.vis h3) (okN_d h4) (okN_c h4) h2 (ihe h q1))
      · cases q
    · -- e
      split at q
      · rename_i hn
        obtain ⟨c, q1, q⟩ := Option.bind_eq_some_iff.mp q
        cases q
        exact frzW_ok (sndS_expr (noComp hn) (ihe h q1))
      · cases q
    · cases q
      exact sndS_retN
    · -- return x
      rename_i x px pos
      obtain ⟨c, q1, q⟩ := Option.bind_eq_some_iff.mp q
      split at q
      · split at q
        · rename_i hh
          obtain ⟨h1, h2⟩ := hh
          obtain ⟨i, q2, q⟩ := Option.bind_eq_some_iff.mp q
          cases q
          exact sndS_retv (h.ix q2) (h.vis h1) (okN_d h2) (okN_c h2)
        · cases q
      · cases q
        exact sndS_ret (ihe h q1)
    · obtain ⟨c, q1, q⟩ := Option.bind_eq_some_iff.mp q
      cases q
      exact frzW_ok (sndS_ret (ihe h q1))
    · obtain ⟨cc, q1, q⟩ := Option.bind_eq_some_iff.mp q
      obtain ⟨ca, q2, q⟩ := Option.bind_eq_some_iff.mp q
      obtain ⟨cb, q3, q⟩ := Option.bind_eq_some_iff.mp q
      cases q
      exact frzW_ok (sndS_ite (ihe h q1) (ihb h q2) (ihb h q3))
    · obtain ⟨cc, q1, q⟩ := Option.bind_eq_some_iff.mp q
      obtain ⟨ca, q2, q⟩ := Option.bind_eq_some_iff.mp q
      cases q
      exact frzW_ok (sndS_whl h.po (ihe h q1) (ihb h q2))
    · split at q
      · rename_i hc
        obtain ⟨t, q1, q⟩ := Option.bind_eq_some_iff.mp q
        obtain ⟨k, q2, q⟩ := Option.bind_eq_some_iff.mp q
        obtain ⟨ca, q3, q⟩ := Option.bind_eq_some_iff.mp q
        cases q
        exact frzW_ok (sndS_for h.po (h.calm hc) (decIt_ok G h (fun e c he => ihe h he) q2) (decTg_ok h q1) (ihb h q3))
      · cases q
    · cases q; exact sndS_pass
    · cases q; exact sndS_brk
    · cases q; exact sndS_cnt
    · -- raise
      split at q
      · rename_i hh
        obtain ⟨h1, h2, h3⟩ := hh
        obtain ⟨c, q1, q⟩ := Option.bind_eq_some_iff.mp q
        split at q
        · rename_i hl
          cases q
          obtain ⟨row, hr⟩ := excIx_get q1
          obtain ⟨Cc, r1, r2, r3, r4, r5, r6⟩ := G.raise c _ row hr hl
          exact sndS_raise (h.calm h1) (h.tk h1) PySem.F.excBase_ValueError (by rw [h.K]; exact r3) (by rw [h.mg]; exact r1) (by rw [h.K]; exact r4) (raises_own (by rw [h.K]; exact r5) (by rw [h.K]; exact r6)) (h.gl h2) (okN_d h3) (by rw [h.CV]; exact r2)
        · cases q
      · cases q
    · -- try
      split at q
      · rename_i hh
        obtain ⟨h1, h2, h3, h4⟩ := hh
        obtain ⟨row, q1, q⟩ := Option.bind_eq_some_iff.mp q
        obtain ⟨cb, q2, q⟩ := Option.bind_eq_some_iff.mp q
        obtain ⟨cs, q3, q⟩ := Option.bind_eq_some_iff.mp q
        obtain ⟨T, n1, n2, n3⟩ := h.names G h3 h4 q1
        obtain ⟨t1, t2⟩ := h.top h2
        split at q
        · cases q
          exact sndS_try t1 t2 n1 (h.tk h1) (h.xn h1) n3 (fun W' pn xe t p => ihb (h.tr h1 t p) q2) (fun a oe c pn hl hz hf => ihb (h.suite G pn (by rw [← n2]; exact hl) hz hf) q3)
        · split at q
          · rename_i y hy
            obtain ⟨i, q4, q⟩ := Option.bind_eq_some_iff.mp q
            cases q
            exact sndS_tryAs t1 t2 h.nd (h.ix q4) (h.loc hy) n1 (h.tk h1) (h.xn h1) n3 (fun W' pn xe t p => ihb (h.tr h1 t p) q2) (fun a oe c pn hl hz hf => ihb (h.suite G pn (by rw [← n2]; exact hl) hz hf) q3)
          · cases q
      · cases q
    · cases q
theorem decB_ok (G : GOk g) : ∀ {n : Nat} {C : Cfg} {W : WX} {cx : Ctx} {X : Cx} {s : List Stmt} {c : List CS}, XOk g C W cx X → decB g.mt n cx s = some c → SndB g.F C W X s c
  | 0, _, _, _, _, _, _, _, q => by simp [decB] at q
  | n + 1, C, W, cx, X, [], c, h, q => by
    simp only [decB] at q
    cases q
    exact sndB_nil
  | n + 1, C, W, cx, X, s :: ss, c, h, q => by
    simp only [decB] at q
    obtain ⟨cs, q1, q⟩ := Option.bind_eq_some_iff.mp q
    obtain ⟨css, q2, q⟩ := Option.bind_eq_some_iff.mp q
    cases q
    exact sndB_cons (decS_ok G h q1) (decB_ok G h q2)
end
end
end PF

end

section
/-! PF12: defs; the module; the end. -/
namespace PF
open PySem PySem.Spec PyProof.Rows L2
/-- a def in the core language -/
structure FnC where
  name : Str
  ar : Nat
  sz : Nat
  body : List CS
def startE (sz : Nat) (ds : List D) : PF.Env := ds.map Sl.val ++ List.replicate (sz - ds.length) .no
def Ctl.fin : Ctl → M R
  | .nx _ => .ok (.d .none)
  | .rt r => .ok r
  | .ex c _ => .ex c
  | _ => .no
/-- the i-th def on data; k: how deep it may call -/
noncomputable def runF (tab : List FnC) : Nat → Nat → List D → M R
  | 0, _, _ => .no
  | k + 1, i, ds => match tab[i]? with
    | none => .no
    | some f => if ds.length = f.ar then (exB (runF tab k) f.body (startE f.sz ds)).fin else .no
theorem start_st {P : Program} {w : World} {K : Fr} {cV : Nat → Value} {G H : Hp} {vs : List V} {ds : List D} {N : List Str} (s : Same G H) (r : RepA K G vs ds) :
    St { P := P, w := w, K := K, cV := cV, G0 := G, H0 := H, xa := none } (L2.start N vs) (startE N.length ds) G H := by
  have len := r.length
  refine ⟨?_, Ext.refl s, fun i o sl h1 h2 => ?_, fun i j s t a hij h1 h2 h3 h4 h5 h6 => ?_⟩
  · simp only [L2.start, startE, List.length_append, List.length_map, List.length_replicate]
    omega
  · unfold L2.start at h1
    unfold startE at h2
    by_cases hi : i < vs.length
    · have hi2 : i < ds.length := by omega
      rw [List.getElem?_append_left (by simpa using hi), List.getElem?_map] at h1
      rw [List.getElem?_append_left (by simpa using hi2), List.getElem?_map] at h2
      cases q : vs[i]? with
      | none => rw [q] at h1; cases h1
      | some v =>
        obtain ⟨d, q2, rp⟩ := r.get q
        rw [q] at h1
        rw [q2] at h2
        cases h1
        cases h2
        exact .val rp
    · rw [List.getElem?_append_right (by simp; omega)] at h2
      rw [List.getElem?_replicate] at h2
      split at h2
      · cases h2; exact .no _
      · cases h2
  · have no : ∀ {i : Nat} {s : Sl}, (startE N.length ds)[i]? = some s → s.isOwn = true → False := fun {i s} e f => by
      have m := List.mem_of_getElem? e
      unfold startE at m
      rcases List.mem_append.mp m with m | m
      · obtain ⟨d, _, rfl⟩ := List.mem_map.mp m; cases f
      · rw [List.eq_of_mem_replicate m] at f; cases f
    exact no h1 h3
/-- where a def stands in the text -/
structure FnT where
  st : Stmt
  N : List Str
  ps : List Str
  mu : List Nat
  ds : List Str
abbrev FnT.cx (t : FnT) : Ctx := ⟨t.N, defScope t.st, fun _ => true, true, true, t.mu, t.ds⟩
structure ModT (P : Program) (w : World) (K : Fr) (mg : Str → Option Value) (mt : MT) (tab : List FnC) (fts : List FnT) (cV : Nat → Value) : Prop where
  con : ∀ (x : Str) (d : D), mt.cons.lookup x = some d → ∃ u v, mg x = some u ∧ RelV v u ∧ ∀ G, Rep K G v d
  blt : ∀ x ∈ bltNames, mg x = none
  raise : ∀ (c : Nat) (y : Str) (row : List Bool), mt.excs[c]? = some (y, row) → c < mt.own → ∃ Cc, mg y = some (.ref Cc) ∧ cV c = .ref Cc ∧ PySem.W.excIn K Cc He.veBase "ValueError.__new__" = true ∧ PySem.W.keepIn K (.ref Cc) = true ∧
    PySem.W.subIn K (.ref Cc) (.type "BaseException") = some true ∧ PySem.W.typeIn K (.ref Cc) = some (.type "type")
  cls : ∀ (y : Str) (row : List Bool), mt.excs.lookup y = some row → ∃ T vT, (mg y = some T ∨ (mg y = none ∧ bootBuiltins y = some T)) ∧ RelV vT T ∧ (∀ u, RelV vT u → u = T) ∧ row.length = mt.own ∧
    ∀ c b, row[c]? = some b → PySem.W.exmOne K (cV c) T = some b ∧ ∃ Dd, cV c = .ref Dd ∧ ExcC K Dd ∧ PySem.W.kitOne K (.ref Dd) T = some b
  fns : mt.fns = tab.map fun f => (f.name, f.ar)
  fn : ∀ (i : Nat) (fc : FnC), tab[i]? = some fc → ∃ (ft : FnT) (f : Addr) (fd : FuncData), fts[i]? = some ft ∧ mg fc.name = some (.ref f) ∧ Fun K fc.name fc.name ft.st f fd ∧ Binds K fd ft.ps [] ∧ FnScope ft.N ft.ps (defScope ft.st) ∧ ft.ps.length = fc.ar ∧ ft.N.length = fc.sz ∧
    ∃ fuel, decB mt fuel ft.cx (defBody ft.st) = some fc.body
section
variable {P : Program} {w : World} {K : Fr} {mg : Str → Option Value} {base : Heap} {mt : MT} {tab : List FnC} {fts : List FnT} {cV : Nat → Value}
noncomputable abbrev glo (P : Program) (w : World) (K : Fr) (mg : Str → Option Value) (base : Heap) (mt : MT) (tab : List FnC) (cV : Nat → Value) (k : Nat) : Glo :=
  { P := P, w := w, K := K, mg := mg, base := base, mt := mt, k := k, F := runF tab k, cV := cV }
theorem fn_level (h : ModT P w K mg mt tab fts cV) {k : Nat} (G : GOk (glo P w K mg base mt tab cV k)) {i : Nat} {fc : FnC} {ft : FnT} {f : Addr} {fd : FuncData} (hi : tab[i]? = some fc) (F : Fun K fc.name fc.name ft.st f fd) (S : FnScope ft.N ft.ps (defScope ft.st))
    (ha : ft.ps.length = fc.ar) (hz : ft.N.length = fc.sz) {fuel : Nat} (hd : decB mt fuel ft.cx (defBody ft.st) = some fc.body) :
    FnOk P w K mg base (L2.CX P w) (k + 1) f fd ft.ps (spD K cV (runF tab (k + 1) i)) := by
  have eq : ∀ ds : List D, runF tab (k + 1) i ds = if ds.length = fc.ar then (exB (runF tab k) fc.body (startE fc.sz ds)).fin else .no := fun ds => by
    simp only [runF, hi]
  refine F.okX S (fun vs H Q E hs => ?_) (fun cdv A outer s H vs Q E hr hs => ?_)
  · obtain ⟨G, ds, _, r, q⟩ := hs
    rw [eq] at q
    by_cases e : ds.length = fc.ar
    · rw [r.length, e, ha]
    · rw [if_neg e] at q; exact q.elim
  · obtain ⟨G', ds, sm, r, q⟩ := hs
    rw [eq] at q
    by_cases e : ds.length = fc.ar
    · rw [if_pos e] at q
      refine ⟨TSt { P := P, w := w, K := K, cV := cV, G0 := G', H0 := H, xa := none } (fun cls d _ H' => E cls d H') (exB (runF tab k) fc.body), ?_, ?_⟩
      · refine (decB_ok G (C := { P := P, w := w, K := K, cV := cV, G0 := G', H0 := H, xa := none }) (W := fun cls d _ H' => E cls d H') (cx := ft.cx) ?_ hd).run
        refine ⟨rfl, rfl, rfl, rfl, rfl, rfl, rfl, rfl, rfl, rfl, S.nd, rfl, fun _ _ => rfl, fun _ => rfl, S.kind, fun _ => hr, hr.units, fun _ => takes_of rfl rfl rfl rfl, passes_of rfl, fun _ => rfl, fun a c e => (by cases e), fun _ => ⟨rfl, rfl⟩⟩
      · refine ⟨G', startE fc.sz ds, by rw [← hz]; exact start_st sm r, ?_⟩
        cases qb : exB (runF tab k) fc.body (startE fc.sz ds) with
        | nx ρ => rw [qb] at q; exact fun σ' G2 H2 s2 st2 => q .non G2 H2 st2.ext .non
        | rt r => rw [qb] at q; exact q
        | ex c ρ => rw [qb] at q; exact fun σ' G2 H2 s2 st2 => q G2 H2 st2.ext
        | bk ρ => rw [qb] at q; exact q.elim
        | ct ρ => rw [qb] at q; exact q.elim
        | no => rw [qb] at q; exact q.elim
    · rw [if_neg e] at q; exact q.elim
theorem fn_all (h : ModT P w K mg mt tab fts cV) : ∀ k, GOk (glo P w K mg base mt tab cV k)
  | 0 => ⟨fun i x n hi => by
      have hi' : (tab.map fun f => (f.name, f.ar))[i]? = some (x, n) := by rw [← h.fns]; exact hi
      rw [List.getElem?_map] at hi'
      cases q : tab[i]? with
      | none => rw [q] at hi'; cases hi'
      | some fc =>
        rw [q] at hi'
        cases hi'
        obtain ⟨ft, f, fd, _, h1, h2, h3, h4, h5, h6, fuel, h7⟩ := h.fn i fc q
        refine ⟨f, fd, ft.ps, h1, h2.kp, h3, ⟨fun vs H Q E hs => ?_, fun A outer s H args us vs Q E _ _ _ _ hs => ?_⟩⟩
        · obtain ⟨_, _, _, _, q⟩ := hs; exact q.elim
        · obtain ⟨_, _, _, _, q⟩ := hs; exact q.elim, h.con, h.blt, h.raise, h.cls⟩
  | k + 1 => ⟨fun i x n hi => by
      have hi' : (tab.map fun f => (f.name, f.ar))[i]? = some (x, n) := by rw [← h.fns]; exact hi
      rw [List.getElem?_map] at hi'
      cases q : tab[i]? with
      | none => rw [q] at hi'; cases hi'
      | some fc =>
        rw [q] at hi'
        cases hi'
        obtain ⟨ft, f, fd, _, h1, h2, h3, h4, h5, h6, fuel, h7⟩ := h.fn i fc q
        exact ⟨f, fd, ft.ps, h1, h2.kp, h3, fn_level h (fn_all h k) q h2 h4 h5 h6 h7⟩, h.con, h.blt, h.raise, h.cls⟩
end
end PF

end

section
/-! PF13: the head's facts for a module of such defs. -/
namespace PF
open PySem PySem.Spec PyProof.Rows L2
def dV : D → V
  | .int i => .int i
  | .str x => .str x
  | .bool b => .bl b
  | _ => .non
def isCon : D → Bool
  | .int _ => true
  | .str _ => true
  | .bool _ => true
  | .none => true
  | _ => false
theorem dV_rep {K : Fr} {G : Hp} {d : D} (h : isCon d = true) : Rep K G (dV d) d := by
  cases d <;> first | exact .int _ | exact .str _ | exact .bl _ | exact .non | cases h
def cVK (mt : MT) (K : Fr) (c : Nat) : Value := match mt.excs[c]? with
  | some p => .ref (He.ga K p.1)
  | none => .none
/-- the class that a name stands for -/
def clsT (K : Fr) (y : Str) : Option Value := match PySem.W.nsIn K mainGlobals y with
  | some (some (.ref a)) => some (.ref a)
  | some none => bootBuiltins y
  | _ => none
def optB (a : Option Bool) : Bool := match a with
  | some true => true
  | _ => false
def eqOB (a b : Option Bool) : Bool := decide (a = b)
def excCB (K : Fr) (Dd : Addr) : Bool :=
  He.eqO (PySem.W.findIn K (.ref Dd) "__getattribute__") (some (some (.builtin "BaseException.__getattribute__"))) && (He.eqO (PySem.W.findIn K (.ref Dd) "__getattr__") (some none) && (decide (PySem.W.subIn K (.ref Dd) (.type "BaseException") = some true) &&
    (PySem.W.hasDictIn K Dd && (He.eqO (PySem.W.findIn K (.ref Dd) "__class__") (some (some (.builtin "object.__class__"))) && (He.eqO (PySem.W.specialIn K (.builtin "object.__class__") "__get__") (some (some (.builtin "getset_descriptor.__get__"))) &&
      (decide (PySem.W.takesIn K (.builtin "object.__class__") = some true) && decide (PySem.W.mroIn K Dd (.type "object") = some true)))))))
theorem excCB_ok {K : Fr} {Dd : Addr} (h : excCB K Dd = true) : ExcC K Dd := by
  obtain ⟨h1, h⟩ := He.ba h
  obtain ⟨h2, h⟩ := He.ba h
  obtain ⟨h3, h⟩ := He.ba h
  obtain ⟨h4, h⟩ := He.ba h
  obtain ⟨h5, h⟩ := He.ba h
  obtain ⟨h6, h⟩ := He.ba h
  obtain ⟨h7, h8⟩ := He.ba h
  exact ⟨He.eqO_ok h1, He.eqO_ok h2, of_decide_eq_true h3, h4, He.eqO_ok h5, He.eqO_ok h6, of_decide_eq_true h7, of_decide_eq_true h8⟩
def ownB (mt : MT) (K : Fr) (c : Nat) : Bool := match mt.excs[c]? with
  | some p => (He.Fa.exc p.1).ok K && ((He.Fa.glo p.1).ok K && excCB K (He.ga K p.1))
  | none => false
def clsB (mt : MT) (K : Fr) (p : Str × List Bool) : Bool := match clsT K p.1 with
  | some T => (match T with
    | .ref _ => true
    | .type _ => true
    | _ => false) && (decide (p.2.length = mt.own) && ((List.range mt.own).all fun c => eqOB (PySem.W.exmOne K (cVK mt K c) T) p.2[c]? && eqOB (PySem.W.kitOne K (cVK mt K c) T) p.2[c]?))
  | none => false
def conB (K : Fr) (p : Str × D) : Bool := isCon p.2 && (match PySem.W.nsIn K mainGlobals p.1 with
  | some (some u) => He.relB (dV p.2) u
  | _ => false)
/-- all that a module's world must say -/
def modB (mt : MT) (tab : List FnC) (K : Fr) : Bool :=
  (bltNames.all fun x => He.eqO (PySem.W.nsIn K mainGlobals x) (some none)) && ((mt.cons.all fun p => conB K p) && (((List.range mt.own).all fun c => ownB mt K c) && ((mt.excs.all fun p => clsB mt K p) && (tab.all fun f => (He.Fa.glo f.name).ok K))))
/-- what stands of the text alone -/
structure Stat (mt : MT) (fc : FnC) (ft : FnT) : Prop where
  scope : FnScope ft.N ft.ps (defScope ft.st)
  ar : ft.ps.length = fc.ar
  sz : ft.N.length = fc.sz
  dec : ∃ fuel, decB mt fuel ft.cx (defBody ft.st) = some fc.body
  bind : ∀ (kV doc pm : Value) (an : Option Addr) (cdv ct : Value) (us : List Value), us.length = ft.ps.length → bindArgs (PySem.W.fnOf fc.name fc.name (defArgs ft.st) (defBody ft.st) (defScope ft.st) .none kV doc pm an cdv ct) ⟨us, []⟩ = pure (ft.ps.zip us)
def dOf (fc : FnC) (ft : FnT) : He.DefD := ⟨(fc.name, none), fc.name, fc.name, defArgs ft.st, defBody ft.st, defScope ft.st, [], []⟩
def SaysM (mt : MT) (tab : List FnC) (fn : List He.DefD) (K : Fr) : Prop := (modB mt tab K && fn.all fun d => d.ok K, fn.map fun d => He.fnW K d.at_) = (true, fn.map He.DefD.val)
theorem lookup_mem {α : Type} {l : List (Str × α)} {x : Str} {d : α} (h : l.lookup x = some d) : (x, d) ∈ l := by
  induction l with
  | nil => cases h
  | cons p r ih =>
    obtain ⟨y, e⟩ := p
    rw [List.lookup_cons] at h
    cases q : x == y with
    | true =>
      rw [q] at h
      cases h
      have : x = y := by simpa using q
      rw [this]; exact List.mem_cons_self
    | false => rw [q] at h; exact List.mem_cons_of_mem _ (ih h)
theorem funD_fun {K : Fr} {x : Str} {st : Stmt} {f : Addr} {fd : FuncData} (F : FunD K x x (defArgs st) (defBody st) (defScope st) [] [] f fd) : Fun K x x st f fd := by
  obtain ⟨oc, od, dV, kV, doc, pm, an, cdv, ct, osl, e, l, c, hd, _⟩ := F.ex
  have : dV = .none := by
    rcases hd with ⟨_, h⟩ | ⟨h, _⟩
    · exact h
    · exact absurd rfl h
  subst this
  exact ⟨⟨oc, od, kV, doc, pm, an, cdv, ct, osl, e, l, c⟩, F.kp⟩
theorem paired_at {α β : Type} {R : α → β → Prop} : ∀ {as : List α} {bs : List β} {i : Nat} {a : α}, Paired R as bs → as[i]? = some a → ∃ b, bs[i]? = some b ∧ R a b
  | _, _, _, _, .nil, h => by simp at h
  | _, _, 0, _, .cons r _, h => by simp at h; subst h; exact ⟨_, rfl, r⟩
  | _, _, i + 1, a, .cons _ t, h => by
    obtain ⟨b, h1, h2⟩ := paired_at (i := i) t (by simpa using h)
    exact ⟨b, by simpa using h1, h2⟩
theorem modT_of {P : Program} {w : World} {K : Fr} {h : Heap} {mg : Str → Option Value} {mt : MT} {tab : List FnC} {fts : List FnT} (X : K.In h) (G : h.Ns mainGlobals mg) (hf : mt.fns = tab.map fun f => (f.name, f.ar)) (st : Paired (Stat mt) tab fts)
    (c : SaysM mt tab (List.zipWith dOf tab fts) K) : ModT P w K mg mt tab fts (cVK mt K) := by
  have c1 : (modB mt tab K && (List.zipWith dOf tab fts).all fun d => d.ok K) = true := congrArg (fun z : Bool × List He.FnW => z.1) c
  have c2 : (List.zipWith dOf tab fts).map (fun d => He.fnW K d.at_) = (List.zipWith dOf tab fts).map He.DefD.val := congrArg (fun z : Bool × List He.FnW => z.2) c
  obtain ⟨cm, cd⟩ := He.ba c1
  obtain ⟨m1, cm⟩ := He.ba cm
  obtain ⟨m2, cm⟩ := He.ba cm
  obtain ⟨m3, cm⟩ := He.ba cm
  obtain ⟨m4, m5⟩ := He.ba cm
  have own : ∀ c y row, mt.excs[c]? = some (y, row) → c < mt.own → (He.Fa.exc y).ok K = true ∧ mg y = some (.ref (He.ga K y)) ∧ cVK mt K c = .ref (He.ga K y) ∧ ExcC K (He.ga K y) := fun c y row hc hl => by
    have q := List.all_eq_true.mp m3 c (List.mem_range.mpr hl)
    unfold ownB at q
    rw [hc] at q
    obtain ⟨q1, q2⟩ := He.ba q
    obtain ⟨q2, q3⟩ := He.ba q2
    exact ⟨q1, He.glo_ok X G q2, by unfold cVK; rw [hc], excCB_ok q3⟩
  refine ⟨fun x d hx => ?_, fun x hx => ?_, fun c y row hc hl => ?_, fun y row hy => ?_, hf, fun i fc hi => ?_⟩
  · have q := List.all_eq_true.mp m2 _ (lookup_mem hx)
    obtain ⟨q1, q2⟩ := He.ba q
    dsimp only at q1 q2
    cases e : PySem.W.nsIn K mainGlobals x with
    | none => rw [e] at q2; cases q2
    | some o =>
      cases o with
      | none => rw [e] at q2; cases q2
      | some u =>
        rw [e] at q2
        exact ⟨u, dV d, PySem.W.mg_of X G e, He.relB_ok q2, fun _ => dV_rep q1⟩
  · have q := List.all_eq_true.mp m1 x hx
    exact PySem.W.mg_none_of X G (He.eqO_ok q)
  · obtain ⟨q1, q2, q3, q4⟩ := own c y row hc hl
    obtain ⟨e1, e2, e3, e4⟩ := He.exc_ok q1
    exact ⟨_, q2, q3, e1, e2, e3, e4⟩
  · have q := List.all_eq_true.mp m4 _ (lookup_mem hy)
    unfold clsB at q
    dsimp only at q
    cases e : clsT K y with
    | none => rw [e] at q; cases q
    | some T =>
      rw [e] at q
      obtain ⟨q0, q⟩ := He.ba q
      obtain ⟨q1, q2⟩ := He.ba q
      have hT : mg y = some T ∨ (mg y = none ∧ bootBuiltins y = some T) := by
        unfold clsT at e
        split at e
        · rename_i a ha
          cases e
          exact .inl (PySem.W.mg_of X G ha)
        · rename_i ha
          exact .inr ⟨PySem.W.mg_none_of X G ha, e⟩
        · cases e
      have hV : ∃ vT, RelV vT T ∧ ∀ u, RelV vT u → u = T := by
        cases T with
        | ref a => exact ⟨.ref a, rfl, fun u h => h⟩
        | type n => exact ⟨.ty n, rfl, fun u h => h⟩
        | _ => cases q0
      obtain ⟨vT, v1, v2⟩ := hV
      have hlen : row.length = mt.own := of_decide_eq_true q1
      refine ⟨T, vT, hT, v1, v2, hlen, fun c b hb => ?_⟩
      have hl : c < mt.own := by rw [← hlen]; exact (List.getElem?_eq_some_iff.mp hb).1
      have q3 := List.all_eq_true.mp q2 c (List.mem_range.mpr hl)
      obtain ⟨q4, q5⟩ := He.ba q3
      have q4 : PySem.W.exmOne K (cVK mt K c) T = row[c]? := of_decide_eq_true q4
      have q5 : PySem.W.kitOne K (cVK mt K c) T = row[c]? := of_decide_eq_true q5
      have q6 := List.all_eq_true.mp m3 c (List.mem_range.mpr hl)
      unfold ownB at q6
      cases hc : mt.excs[c]? with
      | none => rw [hc] at q6; cases q6
      | some p =>
        obtain ⟨y', row'⟩ := p
        obtain ⟨_, _, w3, w4⟩ := own c y' row' hc hl
        rw [w3] at q5
        exact ⟨q4.trans hb, _, w3, w4, q5.trans hb⟩
  · obtain ⟨ft, hft, S⟩ := paired_at st hi
    have hz : (List.zipWith dOf tab fts)[i]? = some (dOf fc ft) := by rw [List.getElem?_zipWith, hi, hft]
    have e2 : ((List.zipWith dOf tab fts).map fun d => He.fnW K d.at_)[i]? = ((List.zipWith dOf tab fts).map He.DefD.val)[i]? := by rw [c2]
    rw [List.getElem?_map, List.getElem?_map, hz] at e2
    obtain ⟨fd, F⟩ := He.DefD.funD (Option.some.inj e2) (List.all_eq_true.mp cd _ (List.mem_of_getElem? hz))
    have F' := funD_fun (x := fc.name) (st := ft.st) F
    have hg := List.all_eq_true.mp m5 _ (List.mem_of_getElem? hi)
    exact ⟨ft, _, fd, hft, He.glo_ok X G hg, F', F'.binds S.bind, S.scope, S.ar, S.sz, S.dec⟩
/-! ### the hook -/
abbrev AlM : Type := Bool × List He.FnW
def obsM (n : Nat) (mt : MT) (tab : List FnC) (fn : List He.DefD) (g : Addr → Option Obj) : AlM := (modB mt tab (He.frG g (He.asD g n)) && fn.all fun d => d.ok (He.frG g (He.asD g n)), fn.map fun d => He.fnW (He.frG g (He.asD g n)) d.at_)
def hookM (n : Nat) (mt : MT) (tab : List FnC) (fn : List He.DefD) : PySem.W.Hook where
  α := AlM
  obs := fun s => obsM n mt tab fn s.heap.get?
  val := fun _ => (true, fn.map He.DefD.val)
  says := fun _ h => ∃ K : PySem.W.Frag, K.In h ∧ SaysM mt tab fn K
  of := fun _ _ e => ⟨_, He.frG_in, e⟩
  keeps := fun _ _ _ ⟨K, hK, c⟩ k => ⟨K, PySem.W.Frag.In.keeps hK k, c⟩
theorem obsM_eq {n : Nat} {mt : MT} {tab : List FnC} {fn : List He.DefD} {g : Addr → Option Obj} {s : Shared} (h : ∀ a, g a = s.heap.get? a) : obsM n mt tab fn g = (hookM n mt tab fn).obs s := by
  have e : g = s.heap.get? := funext h
  rw [e] <;> rfl
/-- the law's def: what walk_ofE asks -/
theorem law_of {l : PySem.W.OpenLaw} {mt : MT} {tab : List FnC} {fts : List FnT} {k iL : Nat} {x : Str} {fc : FnC} {ft : FnT} (hf : mt.fns = tab.map fun f => (f.name, f.ar)) (st : Paired (Stat mt) tab fts) (hi : tab[iL]? = some fc) (hft : fts[iL]? = some ft) (hps : ft.ps = [x])
    (pure_ : ∀ ns : List Int, ns.length ≤ 63 → runF tab (k + 1) iL [.list (ns.map PyData.int)] = .ok (.d (.bool true)))
    (w : World) (mg : Str → Option Value) (fa : Addr) (h : Heap) (Y : ∃ K : PySem.W.Frag, K.In h ∧ SaysM mt tab (List.zipWith dOf tab fts) K) (G : h.Ns mainGlobals mg) (hmg : mg fc.name = some (.ref fa)) :
    ∃ (K : PySem.W.Frag) (fd : FuncData) (sp : Sp), K.In h ∧ (∀ (s : Shared) (u : Value), BindsTo s fd ⟨[u], []⟩ [(x, u)]) ∧
        (∀ (H : Hp) (a : Addr) (ns : List Int), ns.length ≤ 63 → Only H → SqL K H a (ns.map V.int) → sp [.ref a] H (fun v _ => v = .bl true) fun _ _ _ => False) ∧
        ∀ base : Heap, K.In base → base.Ns mainGlobals mg → FnOk l.prog w K mg base (L2.CX l.prog w) (k + 1) fa fd [x] sp := by
  obtain ⟨K, KX, c⟩ := Y
  have M := modT_of (P := l.prog) (w := w) KX G hf st c
  obtain ⟨ft', f, fd, h0, h1, h2, h3, h4, h5, h6, fuel, h7⟩ := M.fn iL fc hi
  rw [hft] at h0
  cases h0
  rw [hmg] at h1
  cases h1
  refine ⟨K, fd, spD K (cVK mt K) (runF tab (k + 1) iL), KX, fun s u => ?_, fun H a ns hl _ hS => ?_, fun base _ _ => ?_⟩
  · obtain ⟨oc, od, kV, doc, pm, an, cdv, ct, osl, rfl, _⟩ := h2.ex
    obtain ⟨ft2, e2, S⟩ := paired_at st hi
    rw [hft] at e2
    cases e2
    have := S.bind kV doc pm an cdv ct [u] (by rw [hps]; rfl)
    rw [hps] at this
    exact .of_eq this
  · refine ⟨H, [.list (ns.map PyData.int)], Same.refl _, .cons (.lst hS ?_ (RepA.of_ints ns)) .nil, ?_⟩
    · rw [List.length_map, sizeLine_eq]; omega
    · rw [pure_ ns hl]
      intro v G' H' _ o
      cases (show Rep K G' v (.bool true) from o)
      rfl
  · have := fn_level (base := base) M (fn_all M k) hi h2 h4 h5 h6 h7
    rw [hps] at this
    exact this
end PF

end

section
/-! PF14: the whole way from the pure fact to the law's row. -/
namespace PF
open PySem PySem.Spec PyProof.Rows L2
theorem cx_never {P : Program} {w : World} {H : Hp} {s s' : Shared} {e : Value} (h : L2.CX P w [] H s (fun _ _ _ => False) e s') : False := by
  unfold L2.CX at h
  obtain ⟨_, _, _, _, _, h⟩ := h
  exact h.2.2.2.2.2.2.2
theorem walk_ofM {l : PySem.W.OpenLaw} {mt : MT} {tab : List FnC} {fts : List FnT} {k iL n : Nat} {x : Str} {fc : FnC} {ft : FnT} {q : Program} {loose : List Str} {XP : (Str → Option Value) → Heap → Prop} {d : DefRec}
    (most : l.most = some 63) (nodef : d.params.defaults = []) (room : Room (k + 1) callerA) (nm : d.name = fc.name)
    (hf : mt.fns = tab.map fun f => (f.name, f.ar)) (st : Paired (Stat mt) tab fts) (hi : tab[iL]? = some fc) (hft : fts[iL]? = some ft) (hps : ft.ps = [x])
    (pure_ : ∀ ns : List Int, ns.length ≤ 63 → runF tab (k + 1) iL [.list (ns.map PyData.int)] = .ok (.d (.bool true))) :
    PySem.W.WalkO q loose XP (hookM n mt tab (List.zipWith dOf tab fts)).says l.row.toRowW d [] (fun f vs => PySem.call f vs) := by
  refine Att.attach_call most nodef ?_
  intro w s₀ s₁ mg mb fa o pm cd doc a vs ns G Y _ _ _ hm ho hin hle hge
  obtain ⟨K, fd, sp, KX, b, sat, ok⟩ := law_of (l := l) hf st hi hft hps pure_ w mg fa _ Y G.T.g (by first | (rw [← nm]; exact hm) | (rw [nm] at hm; exact hm))
  have T := G.T
  refine law_call KX T.g T.b T.builtins T.nolimit hge ho hin ?_ room ok b ?_ ?_
  · rw [sizeLine_eq]; omega
  · intro H ho2 sq
    exact sat H a ns hle ho2 sq
  · intro H e s' z
    exact cx_never z
end PF

end

section
namespace PF
open PySem PySem.Spec PyProof.Rows L2
abbrev pwBody : List Stmt := PySem.Challenge.pw_steadytanks_k20_whole_faster_and_greater.main.body
def x_TankError : Nat := 0
def x_BadWorks : Nat := 1
def x_BadNumber : Nat := 2
def x_Over : Nat := 3
def x_Open : Nat := 4
def x_NoRing : Nat := 5
def x_TooBig : Nat := 6
def i_is_within : Nat := 0
def i_are_numbers : Nat := 1
def i_is_switch : Nat := 2
def i_is_mode : Nat := 3
def i_is_works : Nat := 4
def i_checked : Nat := 5
def i_look_times : Nat := 6
def i_looked : Nat := 7
def i_faster : Nat := 8
def i_greater : Nat := 9
def i_common : Nat := 10
def i_fraction : Nat := 11
def i_whole : Nat := 12
def i_plus : Nat := 13
def i_minus : Nat := 14
def i_times : Nat := 15
def i_over : Nat := 16
def i_is_less : Nat := 17
def i_least : Nat := 18
def i_is_fraction : Nat := 19
def i_is_met : Nat := 20
def i_settled : Nat := 21
def i_wait_for : Nat := 22
def i_levels_after : Nat := 23
def i_start : Nat := 24
def i_run : Nat := 25
def i_ring_in : Nat := 26
def i_known_fate : Nat := 27
def i_fate : Nat := 28
def i_at_flow : Nat := 29
def i_last_ahead : Nat := 30
def i_turned_back : Nat := 31
def i_end_of : Nat := 32
def i_moment : Nat := 33
def i_ring_of : Nat := 34
def i_mode_shares : Nat := 35
def i_means : Nat := 36
def i_primitive : Nat := 37
def i_reduced : Nat := 38
def i_cleared : Nat := 39
def i_kept : Nat := 40
def i_entered : Nat := 41
def i_goes_at_once : Nat := 42
def i_joined : Nat := 43
def i_flowed : Nat := 44
def i_grown : Nat := 45
def i_walls : Nat := 46
def i__law_cell : Nat := 47
def i__law_mix : Nat := 48
def i__law_works : Nat := 49
def i__law_saw : Nat := 50
def i__law_drawn : Nat := 51
def i__law_common : Nat := 52
def i__law_frac : Nat := 53
def i__law_told : Nat := 54
def i_law : Nat := 55
def mt : MT := ⟨([("is_within", 3), ("are_numbers", 3), ("is_switch", 3), ("is_mode", 3), ("is_works", 1), ("checked", 1), ("look_times", 1), ("looked", 1), ("faster", 2), ("greater", 2), ("common", 2), ("fraction", 2), ("whole", 1), ("plus", 2), ("minus", 2), ("times", 2), ("over", 2), ("is_less", 2), ("least", 1), ("is_fraction", 1)] : List (Str × Nat)) ++ ([("is_met", 2), ("settled", 3), ("wait_for", 3), ("levels_after", 4), ("start", 1), ("run", 2), ("ring_in", 1), ("known_fate", 2), ("fate", 2), ("at_flow", 3), ("last_ahead", 2), ("turned_back", 3), ("end_of", 2), ("moment", 2), ("ring_of", 1), ("mode_shares", 1), ("means", 1), ("primitive", 1), ("reduced", 1), ("cleared", 3)] : List (Str × Nat)) ++ ([("kept", 1), ("entered", 2), ("goes_at_once", 2), ("joined", 2), ("flowed", 2), ("grown", 2), ("walls", 1), ("_law_cell", 2), ("_law_mix", 3), ("_law_works", 2), ("_law_saw", 2), ("_law_drawn", 2), ("_law_common", 2), ("_law_frac", 2), ("_law_told", 2), ("law", 1)] : List (Str × Nat)), [("MOST_VESSELS", (.int 4)), ("MOST_MODES", (.int 12)), ("MOST_SWITCHES", (.int 6)), ("MOST_BRIM", (.int 999)), ("MOST_RATE", (.int 99)), ("MOST_FLOWS", (.int 400))], [("TankError", [true, true, true, true, true, true, true]), ("BadWorks", [false, true, false, false, false, false, false]), ("BadNumber", [false, false, true, false, false, false, false]), ("Over", [false, false, false, true, false, false, false]), ("Open", [false, false, false, false, true, false, false]), ("NoRing", [false, false, false, false, false, true, false]), ("TooBig", [false, false, false, false, false, false, true]), ("ValueError", [true, true, true, true, true, true, true])], 7⟩
def f_is_within : FnC := ⟨"is_within", 3, 3, [.ret (.and (.isI (.var 0) .int) (.and (.not (.isI (.var 0) .bool)) (.chain .LtE .LtE (.var 1) (.var 0) (.var 2))))]⟩
abbrev t_is_within : FnT := ⟨pwBody.getD 14 (.Pass ⟨0, 0, 0, 0⟩), ["thing", "low", "high"], ["thing", "low", "high"], [], []⟩
theorem s_is_within : Stat mt f_is_within t_is_within := ⟨⟨rfl, rfl, rfl, by decide +kernel, rfl, by decide +kernel, by decide +kernel⟩, rfl, rfl, ⟨140, by kernel_rfl⟩, fun _ _ _ _ _ _ us hl => match us, hl with | [_, _, _], _ => rfl⟩
def f_are_numbers : FnC := ⟨"are_numbers", 3, 4, [.ret (.and (.isI (.var 0) .tuple) (.not (.comp (.var 3) (.name 3) .seq (.var 0) (.con .none) [(.not (.call i_is_within [(.var 3), (.var 1), (.var 2)]))] [3])))]⟩
abbrev t_are_numbers : FnT := ⟨pwBody.getD 15 (.Pass ⟨0, 0, 0, 0⟩), ["thing", "low", "high", "one"], ["thing", "low", "high"], [], []⟩
theorem s_are_numbers : Stat mt f_are_numbers t_are_numbers := ⟨⟨rfl, rfl, rfl, by decide +kernel, rfl, by decide +kernel, by decide +kernel⟩, rfl, rfl, ⟨140, by kernel_rfl⟩, fun _ _ _ _ _ _ us hl => match us, hl with | [_, _, _], _ => rfl⟩
def f_is_switch : FnC := ⟨"is_switch", 3, 3, [.ite (.or (.not (.isI (.var 0) .tuple)) (.or (.cmp .NotEq (.blt .len [(.var 0)]) (.con (.int 4))) (.not (.call i_is_within [(.ix (.var 0) (.con (.int 0))), (.con (.int 0)), (.bin .Sub (.blt .len [(.var 1)]) (.con (.int 1)))])))) [.ret (.con (.bool false))] [], .ite (.or (.not (.isI (.ix (.var 0) (.con (.int 1))) .str)) (.cmp .NotIn (.ix (.var 0) (.con (.int 1))) (.tup [(.con (.str "up")), (.con (.str "down"))]))) [.ret (.con (.bool false))] [], .ret (.and (.call i_is_within [(.ix (.var 0) (.con (.int 2))), (.con (.int 0)), (.ix (.var 1) (.ix (.var 0) (.con (.int 0))))]) (.call i_is_within [(.ix (.var 0) (.con (.int 3))), (.con (.int 0)), (.bin .Sub (.var 2) (.con (.int 1)))]))]⟩
abbrev t_is_switch : FnT := ⟨pwBody.getD 16 (.Pass ⟨0, 0, 0, 0⟩), ["thing", "brims", "many"], ["thing", "brims", "many"], [], []⟩
theorem s_is_switch : Stat mt f_is_switch t_is_switch := ⟨⟨rfl, rfl, rfl, by decide +kernel, rfl, by decide +kernel, by decide +kernel⟩, rfl, rfl, ⟨140, by kernel_rfl⟩, fun _ _ _ _ _ _ us hl => match us, hl with | [_, _, _], _ => rfl⟩
def f_is_mode : FnC := ⟨"is_mode", 3, 4, [.ite (.or (.not (.isI (.var 0) .tuple)) (.or (.cmp .NotEq (.blt .len [(.var 0)]) (.con (.int 2))) (.not (.call i_are_numbers [(.ix (.var 0) (.con (.int 0))), (.bin .Sub (.con (.int 0)) (.con (.int 99))), (.con (.int 99))])))) [.ret (.con (.bool false))] [], .ite (.or (.cmp .NotEq (.blt .len [(.ix (.var 0) (.con (.int 0)))]) (.blt .len [(.var 1)])) (.or (.not (.isI (.ix (.var 0) (.con (.int 1))) .tuple)) (.cmp .Gt (.blt .len [(.ix (.var 0) (.con (.int 1)))]) (.con (.int 6))))) [.ret (.con (.bool false))] [], .ret (.not (.comp (.var 3) (.name 3) .seq (.ix (.var 0) (.con (.int 1))) (.con .none) [(.not (.call i_is_switch [(.var 3), (.var 1), (.var 2)]))] [3]))]⟩
abbrev t_is_mode : FnT := ⟨pwBody.getD 17 (.Pass ⟨0, 0, 0, 0⟩), ["thing", "brims", "many", "switch"], ["thing", "brims", "many"], [], []⟩
theorem s_is_mode : Stat mt f_is_mode t_is_mode := ⟨⟨rfl, rfl, rfl, by decide +kernel, rfl, by decide +kernel, by decide +kernel⟩, rfl, rfl, ⟨140, by kernel_rfl⟩, fun _ _ _ _ _ _ us hl => match us, hl with | [_, _, _], _ => rfl⟩
def f_is_works : FnC := ⟨"is_works", 1, 6, [.ite (.or (.not (.isI (.var 0) .tuple)) (.or (.cmp .NotEq (.blt .len [(.var 0)]) (.con (.int 3))) (.not (.call i_are_numbers [(.ix (.var 0) (.con (.int 0))), (.con (.int 1)), (.con (.int 999))])))) [.ret (.con (.bool false))] [], .asgT (.tup [(.name 1), (.name 2), (.name 3)]) (.var 0), .ite (.or (.not (.chain .LtE .LtE (.con (.int 1)) (.blt .len [(.var 1)]) (.con (.int 4)))) (.or (.not (.isI (.var 2) .tuple)) (.not (.chain .LtE .LtE (.con (.int 1)) (.blt .len [(.var 2)]) (.con (.int 12)))))) [.ret (.con (.bool false))] [], .ite (.comp (.var 4) (.name 4) .seq (.var 2) (.con .none) [(.not (.call i_is_mode [(.var 4), (.var 1), (.blt .len [(.var 2)])]))] [4]) [.ret (.con (.bool false))] [], .ite (.or (.not (.isI (.var 3) .tuple)) (.or (.cmp .NotEq (.blt .len [(.var 3)]) (.con (.int 2))) (.not (.call i_is_within [(.ix (.var 3) (.con (.int 0))), (.con (.int 0)), (.bin .Sub (.blt .len [(.var 2)]) (.con (.int 1)))])))) [.ret (.con (.bool false))] [], .ite (.or (.not (.call i_are_numbers [(.ix (.var 3) (.con (.int 1))), (.con (.int 0)), (.con (.int 999))])) (.cmp .NotEq (.blt .len [(.ix (.var 3) (.con (.int 1)))]) (.blt .len [(.var 1)]))) [.ret (.con (.bool false))] [], .ret (.not (.comp (.var 5) (.name 5) .rng1 (.blt .len [(.var 1)]) (.con .none) [(.cmp .Gt (.ix (.ix (.var 3) (.con (.int 1))) (.var 5)) (.ix (.var 1) (.var 5)))] [5]))]⟩
abbrev t_is_works : FnT := ⟨pwBody.getD 18 (.Pass ⟨0, 0, 0, 0⟩), ["thing", "brims", "modes", "begin", "mode", "at"], ["thing"], [], []⟩
theorem s_is_works : Stat mt f_is_works t_is_works := ⟨⟨rfl, rfl, rfl, by decide +kernel, rfl, by decide +kernel, by decide +kernel⟩, rfl, rfl, ⟨140, by kernel_rfl⟩, fun _ _ _ _ _ _ us hl => match us, hl with | [_], _ => rfl⟩
def f_checked : FnC := ⟨"checked", 1, 1, [.ite (.not (.call i_is_works [(.var 0)])) [.raise x_BadWorks] [], .retv 0]⟩
abbrev t_checked : FnT := ⟨pwBody.getD 19 (.Pass ⟨0, 0, 0, 0⟩), ["works"], ["works"], [], []⟩
theorem s_checked : Stat mt f_checked t_checked := ⟨⟨rfl, rfl, rfl, by decide +kernel, rfl, by decide +kernel, by decide +kernel⟩, rfl, rfl, ⟨140, by kernel_rfl⟩, fun _ _ _ _ _ _ us hl => match us, hl with | [_], _ => rfl⟩
def f_look_times : FnC := ⟨"look_times", 1, 1, [.ite (.not (.call i_is_within [(.var 0), (.con (.int 1)), (.con (.int 9))])) [.raise x_BadNumber] []]⟩
abbrev t_look_times : FnT := ⟨pwBody.getD 21 (.Pass ⟨0, 0, 0, 0⟩), ["number"], ["number"], [], []⟩
theorem s_look_times : Stat mt f_look_times t_look_times := ⟨⟨rfl, rfl, rfl, by decide +kernel, rfl, by decide +kernel, by decide +kernel⟩, rfl, rfl, ⟨140, by kernel_rfl⟩, fun _ _ _ _ _ _ us hl => match us, hl with | [_], _ => rfl⟩
def f_looked : FnC := ⟨"looked", 1, 1, [.ite (.not (.call i_is_works [(.var 0)])) [.raise x_TooBig] [], .retv 0]⟩
abbrev t_looked : FnT := ⟨pwBody.getD 22 (.Pass ⟨0, 0, 0, 0⟩), ["works"], ["works"], [], []⟩
theorem s_looked : Stat mt f_looked t_looked := ⟨⟨rfl, rfl, rfl, by decide +kernel, rfl, by decide +kernel, by decide +kernel⟩, rfl, rfl, ⟨140, by kernel_rfl⟩, fun _ _ _ _ _ _ us hl => match us, hl with | [_], _ => rfl⟩
def f_faster : FnC := ⟨"faster", 2, 6, [.expr (.call i_checked [(.var 0)]), .expr (.call i_look_times [(.var 1)]), .asg 2 false (.blt .tuple [(.comp (.tup [(.blt .tuple [(.comp (.bin .Mult (.var 3) (.var 1)) (.name 3) .seq (.var 4) (.con .none) [] [3])]), (.var 5)]) (.tup [(.name 4), (.name 5)]) .seq (.ix (.var 0) (.con (.int 1))) (.con .none) [] [4, 5])]), .ret (.call i_looked [(.tup [(.ix (.var 0) (.con (.int 0))), (.var 2), (.ix (.var 0) (.con (.int 2)))])])]⟩
abbrev t_faster : FnT := ⟨pwBody.getD 23 (.Pass ⟨0, 0, 0, 0⟩), ["works", "number", "modes", "rate", "rates", "switches"], ["works", "number"], [], []⟩
theorem s_faster : Stat mt f_faster t_faster := ⟨⟨rfl, rfl, rfl, by decide +kernel, rfl, by decide +kernel, by decide +kernel⟩, rfl, rfl, ⟨140, by kernel_rfl⟩, fun _ _ _ _ _ _ us hl => match us, hl with | [_, _], _ => rfl⟩
def b_greater_1 : List CS := [.asg 5 false (.comp (.tup [(.var 6), (.var 7), (.bin .Mult (.var 8) (.var 1)), (.var 9)]) (.tup [(.name 6), (.name 7), (.name 8), (.name 9)]) .seq (.var 4) (.con .none) [] [6, 7, 8, 9]), .app 2 (.tup [(.blt .tuple [(.comp (.bin .Mult (.var 10) (.var 1)) (.name 10) .seq (.var 3) (.con .none) [] [10])]), (.blt .tuple [(.var 5)])])]
def f_greater : FnC := ⟨"greater", 2, 14, [.expr (.call i_checked [(.var 0)]), .expr (.call i_look_times [(.var 1)]), .asg 2 true (.lst []), .for (.tup [(.name 3), (.name 4)]) .seq (.ix (.var 0) (.con (.int 1))) (.con .none) b_greater_1, .asg 11 false (.tup [(.ix (.ix (.var 0) (.con (.int 2))) (.con (.int 0))), (.blt .tuple [(.comp (.bin .Mult (.var 12) (.var 1)) (.name 12) .seq (.ix (.ix (.var 0) (.con (.int 2))) (.con (.int 1))) (.con .none) [] [12])])]), .ret (.call i_looked [(.tup [(.blt .tuple [(.comp (.bin .Mult (.var 13) (.var 1)) (.name 13) .seq (.ix (.var 0) (.con (.int 0))) (.con .none) [] [13])]), (.blt .tuple [(.var 2)]), (.var 11)])])]⟩
abbrev t_greater : FnT := ⟨pwBody.getD 24 (.Pass ⟨0, 0, 0, 0⟩), ["works", "number", "modes", "rates", "switches", "some", "vessel", "way", "mark", "other", "rate", "begin", "level", "brim"], ["works", "number"], [2], []⟩
theorem s_greater : Stat mt f_greater t_greater := ⟨⟨rfl, rfl, rfl, by decide +kernel, rfl, by decide +kernel, by decide +kernel⟩, rfl, rfl, ⟨140, by kernel_rfl⟩, fun _ _ _ _ _ _ us hl => match us, hl with | [_, _], _ => rfl⟩
def b_common_1 : List CS := [.par 0 1 (.var 1) (.bin .Mod (.var 0) (.var 1))]
def f_common : FnC := ⟨"common", 2, 2, [.whl (.var 1) b_common_1, .retv 0]⟩
abbrev t_common : FnT := ⟨pwBody.getD 26 (.Pass ⟨0, 0, 0, 0⟩), ["one", "other"], ["one", "other"], [], []⟩
theorem s_common : Stat mt f_common t_common := ⟨⟨rfl, rfl, rfl, by decide +kernel, rfl, by decide +kernel, by decide +kernel⟩, rfl, rfl, ⟨140, by kernel_rfl⟩, fun _ _ _ _ _ _ us hl => match us, hl with | [_, _], _ => rfl⟩
def f_fraction : FnC := ⟨"fraction", 2, 3, [.ite (.cmp .Lt (.var 1) (.con (.int 0))) [.par 0 1 (.bin .Sub (.con (.int 0)) (.var 0)) (.bin .Sub (.con (.int 0)) (.var 1))] [], .asg 2 false (.call i_common [(.blt .abs [(.var 0)]), (.var 1)]), .ret (.tup [(.bin .FloorDiv (.var 0) (.var 2)), (.bin .FloorDiv (.var 1) (.var 2))])]⟩
abbrev t_fraction : FnT := ⟨pwBody.getD 27 (.Pass ⟨0, 0, 0, 0⟩), ["up", "down", "both"], ["up", "down"], [], []⟩
theorem s_fraction : Stat mt f_fraction t_fraction := ⟨⟨rfl, rfl, rfl, by decide +kernel, rfl, by decide +kernel, by decide +kernel⟩, rfl, rfl, ⟨140, by kernel_rfl⟩, fun _ _ _ _ _ _ us hl => match us, hl with | [_, _], _ => rfl⟩
def f_whole : FnC := ⟨"whole", 1, 1, [.ret (.tup [(.var 0), (.con (.int 1))])]⟩
abbrev t_whole : FnT := ⟨pwBody.getD 28 (.Pass ⟨0, 0, 0, 0⟩), ["number"], ["number"], [], []⟩
theorem s_whole : Stat mt f_whole t_whole := ⟨⟨rfl, rfl, rfl, by decide +kernel, rfl, by decide +kernel, by decide +kernel⟩, rfl, rfl, ⟨140, by kernel_rfl⟩, fun _ _ _ _ _ _ us hl => match us, hl with | [_], _ => rfl⟩
def f_plus : FnC := ⟨"plus", 2, 2, [.ret (.call i_fraction [(.bin .Add (.bin .Mult (.ix (.var 0) (.con (.int 0))) (.ix (.var 1) (.con (.int 1)))) (.bin .Mult (.ix (.var 1) (.con (.int 0))) (.ix (.var 0) (.con (.int 1))))), (.bin .Mult (.ix (.var 0) (.con (.int 1))) (.ix (.var 1) (.con (.int 1))))])]⟩
abbrev t_plus : FnT := ⟨pwBody.getD 29 (.Pass ⟨0, 0, 0, 0⟩), ["one", "other"], ["one", "other"], [], []⟩
theorem s_plus : Stat mt f_plus t_plus := ⟨⟨rfl, rfl, rfl, by decide +kernel, rfl, by decide +kernel, by decide +kernel⟩, rfl, rfl, ⟨140, by kernel_rfl⟩, fun _ _ _ _ _ _ us hl => match us, hl with | [_, _], _ => rfl⟩
def f_minus : FnC := ⟨"minus", 2, 2, [.ret (.call i_fraction [(.bin .Sub (.bin .Mult (.ix (.var 0) (.con (.int 0))) (.ix (.var 1) (.con (.int 1)))) (.bin .Mult (.ix (.var 1) (.con (.int 0))) (.ix (.var 0) (.con (.int 1))))), (.bin .Mult (.ix (.var 0) (.con (.int 1))) (.ix (.var 1) (.con (.int 1))))])]⟩
abbrev t_minus : FnT := ⟨pwBody.getD 30 (.Pass ⟨0, 0, 0, 0⟩), ["one", "other"], ["one", "other"], [], []⟩
theorem s_minus : Stat mt f_minus t_minus := ⟨⟨rfl, rfl, rfl, by decide +kernel, rfl, by decide +kernel, by decide +kernel⟩, rfl, rfl, ⟨140, by kernel_rfl⟩, fun _ _ _ _ _ _ us hl => match us, hl with | [_, _], _ => rfl⟩
def f_times : FnC := ⟨"times", 2, 2, [.ret (.call i_fraction [(.bin .Mult (.ix (.var 0) (.con (.int 0))) (.ix (.var 1) (.con (.int 0)))), (.bin .Mult (.ix (.var 0) (.con (.int 1))) (.ix (.var 1) (.con (.int 1))))])]⟩
abbrev t_times : FnT := ⟨pwBody.getD 31 (.Pass ⟨0, 0, 0, 0⟩), ["one", "other"], ["one", "other"], [], []⟩
theorem s_times : Stat mt f_times t_times := ⟨⟨rfl, rfl, rfl, by decide +kernel, rfl, by decide +kernel, by decide +kernel⟩, rfl, rfl, ⟨140, by kernel_rfl⟩, fun _ _ _ _ _ _ us hl => match us, hl with | [_, _], _ => rfl⟩
def f_over : FnC := ⟨"over", 2, 2, [.ret (.call i_fraction [(.bin .Mult (.ix (.var 0) (.con (.int 0))) (.ix (.var 1) (.con (.int 1)))), (.bin .Mult (.ix (.var 0) (.con (.int 1))) (.ix (.var 1) (.con (.int 0))))])]⟩
abbrev t_over : FnT := ⟨pwBody.getD 32 (.Pass ⟨0, 0, 0, 0⟩), ["one", "other"], ["one", "other"], [], []⟩
theorem s_over : Stat mt f_over t_over := ⟨⟨rfl, rfl, rfl, by decide +kernel, rfl, by decide +kernel, by decide +kernel⟩, rfl, rfl, ⟨140, by kernel_rfl⟩, fun _ _ _ _ _ _ us hl => match us, hl with | [_, _], _ => rfl⟩
def f_is_less : FnC := ⟨"is_less", 2, 2, [.ret (.cmp .Lt (.bin .Mult (.ix (.var 0) (.con (.int 0))) (.ix (.var 1) (.con (.int 1)))) (.bin .Mult (.ix (.var 1) (.con (.int 0))) (.ix (.var 0) (.con (.int 1)))))]⟩
abbrev t_is_less : FnT := ⟨pwBody.getD 33 (.Pass ⟨0, 0, 0, 0⟩), ["one", "other"], ["one", "other"], [], []⟩
theorem s_is_less : Stat mt f_is_less t_is_less := ⟨⟨rfl, rfl, rfl, by decide +kernel, rfl, by decide +kernel, by decide +kernel⟩, rfl, rfl, ⟨140, by kernel_rfl⟩, fun _ _ _ _ _ _ us hl => match us, hl with | [_, _], _ => rfl⟩
def b_least_1 : List CS := [.ite (.call i_is_less [(.var 2), (.var 1)]) [.asg 1 false (.var 2)] []]
def f_least : FnC := ⟨"least", 1, 3, [.asg 1 false (.ix (.var 0) (.con (.int 0))), .for (.name 2) .seq (.var 0) (.con .none) b_least_1, .retv 1]⟩
abbrev t_least : FnT := ⟨pwBody.getD 34 (.Pass ⟨0, 0, 0, 0⟩), ["some", "found", "one"], ["some"], [], []⟩
theorem s_least : Stat mt f_least t_least := ⟨⟨rfl, rfl, rfl, by decide +kernel, rfl, by decide +kernel, by decide +kernel⟩, rfl, rfl, ⟨140, by kernel_rfl⟩, fun _ _ _ _ _ _ us hl => match us, hl with | [_], _ => rfl⟩
def b_is_fraction_1 : List CS := [.ite (.or (.not (.isI (.var 1) .int)) (.isI (.var 1) .bool)) [.ret (.con (.bool false))] []]
def f_is_fraction : FnC := ⟨"is_fraction", 1, 2, [.ite (.or (.not (.isI (.var 0) .tuple)) (.cmp .NotEq (.blt .len [(.var 0)]) (.con (.int 2)))) [.ret (.con (.bool false))] [], .for (.name 1) .seq (.var 0) (.con .none) b_is_fraction_1, .ret (.and (.cmp .Gt (.ix (.var 0) (.con (.int 1))) (.con (.int 0))) (.cmp .Eq (.call i_fraction [(.ix (.var 0) (.con (.int 0))), (.ix (.var 0) (.con (.int 1)))]) (.var 0)))]⟩
abbrev t_is_fraction : FnT := ⟨pwBody.getD 35 (.Pass ⟨0, 0, 0, 0⟩), ["thing", "part"], ["thing"], [], []⟩
theorem s_is_fraction : Stat mt f_is_fraction t_is_fraction := ⟨⟨rfl, rfl, rfl, by decide +kernel, rfl, by decide +kernel, by decide +kernel⟩, rfl, rfl, ⟨140, by kernel_rfl⟩, fun _ _ _ _ _ _ us hl => match us, hl with | [_], _ => rfl⟩
def f_is_met : FnC := ⟨"is_met", 2, 4, [.asg 2 false (.call i_whole [(.ix (.var 0) (.con (.int 2)))]), .asg 3 false (.ix (.var 1) (.ix (.var 0) (.con (.int 0)))), .ite (.cmp .Eq (.ix (.var 0) (.con (.int 1))) (.con (.str "up"))) [.ret (.not (.call i_is_less [(.var 3), (.var 2)]))] [], .ret (.not (.call i_is_less [(.var 2), (.var 3)]))]⟩
abbrev t_is_met : FnT := ⟨pwBody.getD 38 (.Pass ⟨0, 0, 0, 0⟩), ["switch", "levels", "mark", "level"], ["switch", "levels"], [], []⟩
theorem s_is_met : Stat mt f_is_met t_is_met := ⟨⟨rfl, rfl, rfl, by decide +kernel, rfl, by decide +kernel, by decide +kernel⟩, rfl, rfl, ⟨140, by kernel_rfl⟩, fun _ _ _ _ _ _ us hl => match us, hl with | [_, _], _ => rfl⟩
def b_settled_1 : List CS := [.asg 4 false (.comp (.var 5) (.name 5) .seq (.ix (.ix (.ix (.var 0) (.con (.int 1))) (.ix (.var 3) (.neg (.con (.int 1))))) (.con (.int 1))) (.con .none) [(.call i_is_met [(.var 5), (.var 2)])] [5]), .ite (.not (.var 4)) [.retv 3] [], .ite (.cmp .In (.ix (.ix (.var 4) (.con (.int 0))) (.con (.int 3))) (.var 3)) [.ret (.bin .Add (.var 3) (.lst [(.ix (.ix (.var 4) (.con (.int 0))) (.con (.int 3))), (.con .none)]))] [], .app 3 (.ix (.ix (.var 4) (.con (.int 0))) (.con (.int 3)))]
def f_settled : FnC := ⟨"settled", 3, 6, [.asg 3 true (.lst [(.var 1)]), .whl (.con (.bool true)) b_settled_1]⟩
abbrev t_settled : FnT := ⟨pwBody.getD 39 (.Pass ⟨0, 0, 0, 0⟩), ["works", "mode", "levels", "found", "some", "switch"], ["works", "mode", "levels"], [3], []⟩
theorem s_settled : Stat mt f_settled t_settled := ⟨⟨rfl, rfl, rfl, by decide +kernel, rfl, by decide +kernel, by decide +kernel⟩, rfl, rfl, ⟨140, by kernel_rfl⟩, fun _ _ _ _ _ _ us hl => match us, hl with | [_, _, _], _ => rfl⟩
def b_wait_for_1 : List CS := [.ite (.or (.and (.cmp .Eq (.var 7) (.con (.str "up"))) (.cmp .Gt (.ix (.var 3) (.var 6)) (.con (.int 0)))) (.and (.cmp .Eq (.var 7) (.con (.str "down"))) (.cmp .Lt (.ix (.var 3) (.var 6)) (.con (.int 0))))) [.asg 10 false (.call i_over [(.call i_minus [(.call i_whole [(.var 8)]), (.ix (.var 2) (.var 6))]), (.call i_whole [(.ix (.var 3) (.var 6))])]), .app 5 (.tup [(.var 10), (.tup [(.con (.str "switch"))])])] []]
def b_wait_for_2 : List CS := [.ite (.cmp .Gt (.var 11) (.con (.int 0))) [.app 5 (.tup [(.call i_over [(.call i_minus [(.call i_whole [(.ix (.ix (.var 0) (.con (.int 0))) (.var 6))]), (.ix (.var 2) (.var 6))]), (.call i_whole [(.var 11)])]), (.tup [(.con (.str "over")), (.var 6), (.con (.str "brim"))])])] [], .ite (.cmp .Lt (.var 11) (.con (.int 0))) [.app 5 (.tup [(.call i_over [(.ix (.var 2) (.var 6)), (.call i_whole [(.bin .Sub (.con (.int 0)) (.var 11))])]), (.tup [(.con (.str "over")), (.var 6), (.con (.str "ground"))])])] []]
def f_wait_for : FnC := ⟨"wait_for", 3, 14, [.asgT (.tup [(.name 3), (.name 4)]) (.ix (.ix (.var 0) (.con (.int 1))) (.var 1)), .asg 5 true (.lst []), .for (.tup [(.name 6), (.name 7), (.name 8), (.name 9)]) .seq (.var 4) (.con .none) b_wait_for_1, .for (.tup [(.name 6), (.name 11)]) .enum (.var 3) (.con .none) b_wait_for_2, .ite (.not (.var 5)) [.ret (.con .none)] [], .frz [5] (.asg 12 false (.call i_least [(.comp (.var 10) (.tup [(.name 10), (.name 13)]) .seq (.var 5) (.con .none) [] [10, 13])])), .frz [5] (.ret (.ix (.comp (.tup [(.var 10), (.var 13)]) (.tup [(.name 10), (.name 13)]) .seq (.var 5) (.con .none) [(.cmp .Eq (.var 10) (.var 12))] [10, 13]) (.con (.int 0))))]⟩
abbrev t_wait_for : FnT := ⟨pwBody.getD 40 (.Pass ⟨0, 0, 0, 0⟩), ["works", "mode", "levels", "rates", "switches", "waits", "vessel", "way", "mark", "other", "far", "rate", "soon", "what"], ["works", "mode", "levels"], [5], []⟩
theorem s_wait_for : Stat mt f_wait_for t_wait_for := ⟨⟨rfl, rfl, rfl, by decide +kernel, rfl, by decide +kernel, by decide +kernel⟩, rfl, rfl, ⟨140, by kernel_rfl⟩, fun _ _ _ _ _ _ us hl => match us, hl with | [_, _, _], _ => rfl⟩
def f_levels_after : FnC := ⟨"levels_after", 4, 7, [.asg 4 false (.ix (.ix (.ix (.var 0) (.con (.int 1))) (.var 1)) (.con (.int 0))), .ret (.blt .tuple [(.comp (.call i_plus [(.var 5), (.call i_times [(.call i_whole [(.var 6)]), (.var 3)])]) (.tup [(.name 5), (.name 6)]) .zip (.var 2) (.var 4) [] [5, 6])])]⟩
abbrev t_levels_after : FnT := ⟨pwBody.getD 41 (.Pass ⟨0, 0, 0, 0⟩), ["works", "mode", "levels", "time", "rates", "level", "rate"], ["works", "mode", "levels", "time"], [], []⟩
theorem s_levels_after : Stat mt f_levels_after t_levels_after := ⟨⟨rfl, rfl, rfl, by decide +kernel, rfl, by decide +kernel, by decide +kernel⟩, rfl, rfl, ⟨140, by kernel_rfl⟩, fun _ _ _ _ _ _ us hl => match us, hl with | [_, _, _, _], _ => rfl⟩
def f_start : FnC := ⟨"start", 1, 2, [.ret (.tup [(.ix (.ix (.var 0) (.con (.int 2))) (.con (.int 0))), (.blt .tuple [(.comp (.call i_whole [(.var 1)]) (.name 1) .seq (.ix (.ix (.var 0) (.con (.int 2))) (.con (.int 1))) (.con .none) [] [1])])])]⟩
abbrev t_start : FnT := ⟨pwBody.getD 42 (.Pass ⟨0, 0, 0, 0⟩), ["works", "level"], ["works"], [], []⟩
theorem s_start : Stat mt f_start t_start := ⟨⟨rfl, rfl, rfl, by decide +kernel, rfl, by decide +kernel, by decide +kernel⟩, rfl, rfl, ⟨140, by kernel_rfl⟩, fun _ _ _ _ _ _ us hl => match us, hl with | [_], _ => rfl⟩
def b_run_1 : List CS := [.asg 6 false (.call i_settled [(.var 0), (.var 2), (.var 3)]), .ite (.cmp .Is (.ix (.var 6) (.neg (.con (.int 1)))) (.con .none)) [.frz [5] (.ret (.tup [(.var 5), (.tup [(.con (.str "whirl")), (.var 4), (.blt .tuple [(.sl (.var 6) (.con .none) (.neg (.con (.int 1))))]), (.var 3)])]))] [], .asg 2 false (.ix (.var 6) (.neg (.con (.int 1)))), .ite (.cmp .Eq (.blt .len [(.var 5)]) (.var 1)) [.frz [5] (.ret (.tup [(.var 5), (.con .none)]))] [], .asg 7 false (.call i_wait_for [(.var 0), (.var 2), (.var 3)]), .app 5 (.tup [(.var 4), (.blt .tuple [(.var 6)]), (.var 3)]), .ite (.cmp .Is (.var 7) (.con .none)) [.frz [5] (.ret (.tup [(.var 5), (.tup [(.con (.str "rest"))])]))] [], .asg 4 false (.call i_plus [(.var 4), (.ix (.var 7) (.con (.int 0)))]), .asg 3 false (.call i_levels_after [(.var 0), (.var 2), (.var 3), (.ix (.var 7) (.con (.int 0)))]), .ite (.cmp .Eq (.ix (.ix (.var 7) (.con (.int 1))) (.con (.int 0))) (.con (.str "over"))) [.frz [5] (.ret (.tup [(.var 5), (.tup [(.con (.str "over")), (.var 4), (.ix (.ix (.var 7) (.con (.int 1))) (.con (.int 1))), (.ix (.ix (.var 7) (.con (.int 1))) (.con (.int 2))), (.var 3)])]))] []]
def f_run : FnC := ⟨"run", 2, 8, [.asgT (.tup [(.name 2), (.name 3)]) (.call i_start [(.var 0)]), .asg 4 false (.call i_whole [(.con (.int 0))]), .asg 5 true (.lst []), .whl (.con (.bool true)) b_run_1]⟩
abbrev t_run : FnT := ⟨pwBody.getD 43 (.Pass ⟨0, 0, 0, 0⟩), ["works", "most", "mode", "levels", "time", "found", "modes", "wait"], ["works", "most"], [5], []⟩
theorem s_run : Stat mt f_run t_run := ⟨⟨rfl, rfl, rfl, by decide +kernel, rfl, by decide +kernel, by decide +kernel⟩, rfl, rfl, ⟨140, by kernel_rfl⟩, fun _ _ _ _ _ _ us hl => match us, hl with | [_, _], _ => rfl⟩
def b_ring_in_1 : List CS := [.asg 4 false (.tup [(.ix (.ix (.var 3) (.con (.int 1))) (.neg (.con (.int 1)))), (.ix (.var 3) (.con (.int 2)))]), .ite (.dhas false 1 (.var 4)) [.ret (.tup [(.dget 1 (.var 4)), (.var 2)])] [], .dput 1 (.var 4) (.var 2)]
def f_ring_in : FnC := ⟨"ring_in", 1, 5, [.dnew 1, .for (.tup [(.name 2), (.name 3)]) .enum (.var 0) (.con .none) b_ring_in_1, .ret (.con .none)]⟩
abbrev t_ring_in : FnT := ⟨pwBody.getD 45 (.Pass ⟨0, 0, 0, 0⟩), ["found", "seen", "at", "flow", "key"], ["found"], [1], ["seen"]⟩
theorem s_ring_in : Stat mt f_ring_in t_ring_in := ⟨⟨rfl, rfl, rfl, by decide +kernel, rfl, by decide +kernel, by decide +kernel⟩, rfl, rfl, ⟨140, by kernel_rfl⟩, fun _ _ _ _ _ _ us hl => match us, hl with | [_], _ => rfl⟩
def f_known_fate : FnC := ⟨"known_fate", 2, 8, [.asgT (.tup [(.name 2), (.name 3)]) (.call i_run [(.var 0), (.var 1)]), .asg 4 false (.call i_ring_in [(.var 2)]), .ite (.cmp .IsNot (.var 4) (.con .none)) [.asgT (.tup [(.name 5), (.name 6)]) (.var 4), .asg 7 false (.call i_minus [(.ix (.ix (.var 2) (.var 6)) (.con (.int 0))), (.ix (.ix (.var 2) (.var 5)) (.con (.int 0)))]), .ret (.tup [(.tup [(.con (.str "ring")), (.var 5), (.bin .Sub (.var 6) (.var 5)), (.ix (.ix (.var 2) (.var 5)) (.con (.int 0))), (.var 7)]), (.var 2)])] [], .ite (.cmp .Is (.var 3) (.con .none)) [.ret (.tup [(.tup [(.con (.str "open"))]), (.var 2)])] [], .ite (.cmp .Eq (.ix (.var 3) (.con (.int 0))) (.con (.str "rest"))) [.ret (.tup [(.tup [(.con (.str "rest")), (.ix (.ix (.var 2) (.neg (.con (.int 1)))) (.con (.int 0))), (.ix (.ix (.ix (.var 2) (.neg (.con (.int 1)))) (.con (.int 1))) (.neg (.con (.int 1)))), (.ix (.ix (.var 2) (.neg (.con (.int 1)))) (.con (.int 2)))]), (.var 2)])] [], .ret (.tup [(.var 3), (.var 2)])]⟩
abbrev t_known_fate : FnT := ⟨pwBody.getD 46 (.Pass ⟨0, 0, 0, 0⟩), ["works", "most", "found", "end", "ring", "first", "last", "period"], ["works", "most"], [], []⟩
theorem s_known_fate : Stat mt f_known_fate t_known_fate := ⟨⟨rfl, rfl, rfl, by decide +kernel, rfl, by decide +kernel, by decide +kernel⟩, rfl, rfl, ⟨140, by kernel_rfl⟩, fun _ _ _ _ _ _ us hl => match us, hl with | [_, _], _ => rfl⟩
def f_fate : FnC := ⟨"fate", 2, 2, [.expr (.call i_checked [(.var 0)]), .ite (.not (.call i_is_within [(.var 1), (.con (.int 0)), (.con (.int 400))])) [.raise x_BadNumber] [], .ret (.ix (.call i_known_fate [(.var 0), (.var 1)]) (.con (.int 0)))]⟩
abbrev t_fate : FnT := ⟨pwBody.getD 47 (.Pass ⟨0, 0, 0, 0⟩), ["works", "most"], ["works", "most"], [], []⟩
theorem s_fate : Stat mt f_fate t_fate := ⟨⟨rfl, rfl, rfl, by decide +kernel, rfl, by decide +kernel, by decide +kernel⟩, rfl, rfl, ⟨140, by kernel_rfl⟩, fun _ _ _ _ _ _ us hl => match us, hl with | [_, _], _ => rfl⟩
def f_at_flow : FnC := ⟨"at_flow", 3, 3, [.ret (.tup [(.ix (.ix (.var 1) (.con (.int 1))) (.neg (.con (.int 1)))), (.call i_levels_after [(.var 0), (.ix (.ix (.var 1) (.con (.int 1))) (.neg (.con (.int 1)))), (.ix (.var 1) (.con (.int 2))), (.call i_minus [(.var 2), (.ix (.var 1) (.con (.int 0)))])])])]⟩
abbrev t_at_flow : FnT := ⟨pwBody.getD 49 (.Pass ⟨0, 0, 0, 0⟩), ["works", "flow", "time"], ["works", "flow", "time"], [], []⟩
theorem s_at_flow : Stat mt f_at_flow t_at_flow := ⟨⟨rfl, rfl, rfl, by decide +kernel, rfl, by decide +kernel, by decide +kernel⟩, rfl, rfl, ⟨140, by kernel_rfl⟩, fun _ _ _ _ _ _ us hl => match us, hl with | [_, _, _], _ => rfl⟩
def f_last_ahead : FnC := ⟨"last_ahead", 2, 3, [.ret (.ix (.comp (.var 2) (.name 2) .seq (.var 0) (.con .none) [(.not (.call i_is_less [(.var 1), (.ix (.var 2) (.con (.int 0)))]))] [2]) (.neg (.con (.int 1))))]⟩
abbrev t_last_ahead : FnT := ⟨pwBody.getD 50 (.Pass ⟨0, 0, 0, 0⟩), ["found", "time", "flow"], ["found", "time"], [], []⟩
theorem s_last_ahead : Stat mt f_last_ahead t_last_ahead := ⟨⟨rfl, rfl, rfl, by decide +kernel, rfl, by decide +kernel, by decide +kernel⟩, rfl, rfl, ⟨140, by kernel_rfl⟩, fun _ _ _ _ _ _ us hl => match us, hl with | [_, _], _ => rfl⟩
def f_turned_back : FnC := ⟨"turned_back", 3, 4, [.ite (.call i_is_less [(.var 0), (.var 1)]) [.retv 0] [], .asg 3 false (.call i_over [(.call i_minus [(.var 0), (.var 1)]), (.var 2)]), .ret (.call i_minus [(.var 0), (.call i_times [(.call i_whole [(.bin .FloorDiv (.ix (.var 3) (.con (.int 0))) (.ix (.var 3) (.con (.int 1))))]), (.var 2)])])]⟩
abbrev t_turned_back : FnT := ⟨pwBody.getD 51 (.Pass ⟨0, 0, 0, 0⟩), ["time", "first", "period", "rounds"], ["time", "first", "period"], [], []⟩
theorem s_turned_back : Stat mt f_turned_back t_turned_back := ⟨⟨rfl, rfl, rfl, by decide +kernel, rfl, by decide +kernel, by decide +kernel⟩, rfl, rfl, ⟨140, by kernel_rfl⟩, fun _ _ _ _ _ _ us hl => match us, hl with | [_, _, _], _ => rfl⟩
def f_end_of : FnC := ⟨"end_of", 2, 2, [.ite (.cmp .In (.ix (.var 1) (.con (.int 0))) (.tup [(.con (.str "over")), (.con (.str "whirl"))])) [.ret (.ix (.var 1) (.con (.int 1)))] [], .ret (.con .none)]⟩
abbrev t_end_of : FnT := ⟨pwBody.getD 52 (.Pass ⟨0, 0, 0, 0⟩), ["found", "told"], ["found", "told"], [], []⟩
theorem s_end_of : Stat mt f_end_of t_end_of := ⟨⟨rfl, rfl, rfl, by decide +kernel, rfl, by decide +kernel, by decide +kernel⟩, rfl, rfl, ⟨140, by kernel_rfl⟩, fun _ _ _ _ _ _ us hl => match us, hl with | [_, _], _ => rfl⟩
def f_moment : FnC := ⟨"moment", 2, 6, [.expr (.call i_checked [(.var 0)]), .ite (.or (.not (.call i_is_fraction [(.var 1)])) (.cmp .Lt (.ix (.var 1) (.con (.int 0))) (.con (.int 0)))) [.raise x_BadNumber] [], .asgT (.tup [(.name 2), (.name 3)]) (.call i_known_fate [(.var 0), (.con (.int 400))]), .ite (.cmp .Eq (.ix (.var 2) (.con (.int 0))) (.con (.str "ring"))) [.asg 4 false (.call i_turned_back [(.var 1), (.ix (.var 2) (.con (.int 3))), (.ix (.var 2) (.con (.int 4)))]), .ret (.call i_at_flow [(.var 0), (.call i_last_ahead [(.var 3), (.var 4)]), (.var 4)])] [], .ite (.and (.cmp .Eq (.ix (.var 2) (.con (.int 0))) (.con (.str "open"))) (.not (.call i_is_less [(.var 1), (.ix (.ix (.var 3) (.neg (.con (.int 1)))) (.con (.int 0)))]))) [.raise x_Open] [], .asg 5 false (.call i_end_of [(.var 3), (.var 2)]), .ite (.and (.cmp .IsNot (.var 5) (.con .none)) (.or (.call i_is_less [(.var 5), (.var 1)]) (.and (.cmp .Eq (.var 5) (.var 1)) (.cmp .Eq (.ix (.var 2) (.con (.int 0))) (.con (.str "whirl")))))) [.raise x_Over] [], .ret (.call i_at_flow [(.var 0), (.call i_last_ahead [(.var 3), (.var 1)]), (.var 1)])]⟩
abbrev t_moment : FnT := ⟨pwBody.getD 53 (.Pass ⟨0, 0, 0, 0⟩), ["works", "time", "told", "found", "here", "end"], ["works", "time"], [], []⟩
theorem s_moment : Stat mt f_moment t_moment := ⟨⟨rfl, rfl, rfl, by decide +kernel, rfl, by decide +kernel, by decide +kernel⟩, rfl, rfl, ⟨140, by kernel_rfl⟩, fun _ _ _ _ _ _ us hl => match us, hl with | [_, _], _ => rfl⟩
def b_ring_of_1 : List CS := [.app 5 (.tup [(.ix (.var 2) (.var 6)), (.call i_minus [(.ix (.ix (.var 2) (.bin .Add (.var 6) (.con (.int 1)))) (.con (.int 0))), (.ix (.ix (.var 2) (.var 6)) (.con (.int 0)))])])]
def f_ring_of : FnC := ⟨"ring_of", 1, 7, [.asgT (.tup [(.name 1), (.name 2)]) (.call i_known_fate [(.call i_checked [(.var 0)]), (.con (.int 400))]), .ite (.cmp .NotEq (.ix (.var 1) (.con (.int 0))) (.con (.str "ring"))) [.raise x_NoRing] [], .par 3 4 (.ix (.var 1) (.con (.int 1))) (.ix (.var 1) (.con (.int 2))), .asg 5 true (.lst []), .for (.name 6) .rng2 (.var 3) (.bin .Add (.var 3) (.var 4)) b_ring_of_1, .frz [5] (.ret (.tup [(.var 5), (.ix (.var 1) (.con (.int 4)))]))]⟩
abbrev t_ring_of : FnT := ⟨pwBody.getD 55 (.Pass ⟨0, 0, 0, 0⟩), ["works", "told", "found", "first", "many", "some", "place"], ["works"], [5], []⟩
theorem s_ring_of : Stat mt f_ring_of t_ring_of := ⟨⟨rfl, rfl, rfl, by decide +kernel, rfl, by decide +kernel, by decide +kernel⟩, rfl, rfl, ⟨140, by kernel_rfl⟩, fun _ _ _ _ _ _ us hl => match us, hl with | [_], _ => rfl⟩
def b_mode_shares_1 : List CS := [.setix 3 (.ix (.ix (.var 5) (.con (.int 1))) (.neg (.con (.int 1)))) (.call i_plus [(.ix (.var 3) (.ix (.ix (.var 5) (.con (.int 1))) (.neg (.con (.int 1))))), (.call i_over [(.var 6), (.var 2)])])]
def f_mode_shares : FnC := ⟨"mode_shares", 1, 7, [.asgT (.tup [(.name 1), (.name 2)]) (.call i_ring_of [(.var 0)]), .asg 3 true (.comp (.call i_whole [(.con (.int 0))]) (.name 4) .seq (.ix (.var 0) (.con (.int 1))) (.con .none) [] [4]), .for (.tup [(.name 5), (.name 6)]) .seq (.var 1) (.con .none) b_mode_shares_1, .retv 3]⟩
abbrev t_mode_shares : FnT := ⟨pwBody.getD 56 (.Pass ⟨0, 0, 0, 0⟩), ["works", "some", "period", "found", "mode", "flow", "wait"], ["works"], [3], []⟩
theorem s_mode_shares : Stat mt f_mode_shares t_mode_shares := ⟨⟨rfl, rfl, rfl, by decide +kernel, rfl, by decide +kernel, by decide +kernel⟩, rfl, rfl, ⟨140, by kernel_rfl⟩, fun _ _ _ _ _ _ us hl => match us, hl with | [_], _ => rfl⟩
def b_means_2 : List CS := [.asg 8 false (.call i_levels_after [(.var 0), (.ix (.ix (.var 6) (.con (.int 1))) (.neg (.con (.int 1)))), (.ix (.var 6) (.con (.int 2))), (.var 7)]), .asg 9 false (.call i_times [(.call i_plus [(.ix (.ix (.var 6) (.con (.int 2))) (.var 4)), (.ix (.var 8) (.var 4))]), (.call i_fraction [(.con (.int 1)), (.con (.int 2))])]), .asg 5 false (.call i_plus [(.var 5), (.call i_times [(.var 9), (.var 7)])])]
def b_means_1 : List CS := [.asg 5 false (.call i_whole [(.con (.int 0))]), .for (.tup [(.name 6), (.name 7)]) .seq (.var 1) (.con .none) b_means_2, .app 3 (.call i_over [(.var 5), (.var 2)])]
def f_means : FnC := ⟨"means", 1, 10, [.asgT (.tup [(.name 1), (.name 2)]) (.call i_ring_of [(.var 0)]), .asg 3 true (.lst []), .for (.name 4) .rng1 (.blt .len [(.ix (.var 0) (.con (.int 0)))]) (.con .none) b_means_1, .retv 3]⟩
abbrev t_means : FnT := ⟨pwBody.getD 57 (.Pass ⟨0, 0, 0, 0⟩), ["works", "some", "period", "found", "vessel", "whole_sum", "flow", "wait", "end", "middle"], ["works"], [3], []⟩
theorem s_means : Stat mt f_means t_means := ⟨⟨rfl, rfl, rfl, by decide +kernel, rfl, by decide +kernel, by decide +kernel⟩, rfl, rfl, ⟨140, by kernel_rfl⟩, fun _ _ _ _ _ _ us hl => match us, hl with | [_], _ => rfl⟩
def b_primitive_1 : List CS := [.asg 1 false (.call i_common [(.var 1), (.blt .abs [(.var 2)])])]
def f_primitive : FnC := ⟨"primitive", 1, 4, [.asg 1 false (.con (.int 0)), .for (.name 2) .seq (.var 0) (.con .none) b_primitive_1, .ite (.cmp .Eq (.var 1) (.con (.int 0))) [.retv 0] [], .asg 3 false (.ix (.comp (.var 2) (.name 2) .seq (.var 0) (.con .none) [(.cmp .NotEq (.var 2) (.con (.int 0)))] [2]) (.con (.int 0))), .ite (.cmp .Lt (.var 3) (.con (.int 0))) [.asg 1 false (.bin .Sub (.con (.int 0)) (.var 1))] [], .ret (.comp (.bin .FloorDiv (.var 2) (.var 1)) (.name 2) .seq (.var 0) (.con .none) [] [2])]⟩
abbrev t_primitive : FnT := ⟨pwBody.getD 59 (.Pass ⟨0, 0, 0, 0⟩), ["row", "both", "number", "first"], ["row"], [], []⟩
theorem s_primitive : Stat mt f_primitive t_primitive := ⟨⟨rfl, rfl, rfl, by decide +kernel, rfl, by decide +kernel, by decide +kernel⟩, rfl, rfl, ⟨140, by kernel_rfl⟩, fun _ _ _ _ _ _ us hl => match us, hl with | [_], _ => rfl⟩
def b_reduced_1 : List CS := [.asg 6 false (.comp (.var 2) (.name 2) .seq (.var 1) (.con .none) [(.cmp .NotEq (.ix (.var 2) (.var 5)) (.con (.int 0)))] [2]), .ite (.var 6) [.asg 7 false (.ix (.var 6) (.con (.int 0))), .asg 1 false (.comp (.call i_cleared [(.var 2), (.var 7), (.var 5)]) (.name 2) .seq (.var 1) (.con .none) [(.cmp .NotEq (.var 2) (.var 7))] [2]), .asg 3 false (.bin .Add (.comp (.call i_cleared [(.var 2), (.var 7), (.var 5)]) (.name 2) .seq (.var 3) (.con .none) [] [2]) (.lst [(.call i_primitive [(.var 7)])])), .app 4 (.var 5)] []]
def f_reduced : FnC := ⟨"reduced", 1, 8, [.asg 1 false (.comp (.blt .list [(.var 2)]) (.name 2) .seq (.var 0) (.con .none) [] [2]), .asg 3 false (.lst []), .asg 4 true (.lst []), .for (.name 5) .rng1 (.blt .len [(.ix (.var 0) (.con (.int 0)))]) (.con .none) b_reduced_1, .frz [4] (.ret (.tup [(.var 3), (.var 4)]))]⟩
abbrev t_reduced : FnT := ⟨pwBody.getD 60 (.Pass ⟨0, 0, 0, 0⟩), ["rows", "left", "row", "found", "places", "place", "some", "lead"], ["rows"], [4], []⟩
theorem s_reduced : Stat mt f_reduced t_reduced := ⟨⟨rfl, rfl, rfl, by decide +kernel, rfl, by decide +kernel, by decide +kernel⟩, rfl, rfl, ⟨140, by kernel_rfl⟩, fun _ _ _ _ _ _ us hl => match us, hl with | [_], _ => rfl⟩
def f_cleared : FnC := ⟨"cleared", 3, 5, [.ret (.call i_primitive [(.comp (.bin .Sub (.bin .Mult (.var 3) (.ix (.var 1) (.var 2))) (.bin .Mult (.var 4) (.ix (.var 0) (.var 2)))) (.tup [(.name 3), (.name 4)]) .zip (.var 0) (.var 1) [] [3, 4])])]⟩
abbrev t_cleared : FnT := ⟨pwBody.getD 61 (.Pass ⟨0, 0, 0, 0⟩), ["row", "lead", "place", "number", "other"], ["row", "lead", "place"], [], []⟩
theorem s_cleared : Stat mt f_cleared t_cleared := ⟨⟨rfl, rfl, rfl, by decide +kernel, rfl, by decide +kernel, by decide +kernel⟩, rfl, rfl, ⟨140, by kernel_rfl⟩, fun _ _ _ _ _ _ us hl => match us, hl with | [_, _, _], _ => rfl⟩
def b_kept_2 : List CS := [.asg 7 false (.bin .FloorDiv (.bin .Mult (.var 7) (.ix (.var 8) (.var 9))) (.call i_common [(.var 7), (.ix (.var 8) (.var 9))]))]
def b_kept_3 : List CS := [.setix 10 (.var 9) (.bin .Sub (.con (.int 0)) (.bin .FloorDiv (.bin .Mult (.var 7) (.ix (.var 8) (.var 6))) (.ix (.var 8) (.var 9))))]
def b_kept_1 : List CS := [.ite (.cmp .NotIn (.var 6) (.var 3)) [.asg 7 false (.con (.int 1)), .for (.tup [(.name 8), (.name 9)]) .zip (.var 2) (.var 3) b_kept_2, .asg 10 true (.comp (.con (.int 0)) (.name 11) .rng1 (.var 1) (.con .none) [] [11]), .setix 10 (.var 6) (.var 7), .for (.tup [(.name 8), (.name 9)]) .zip (.var 2) (.var 3) b_kept_3, .frz [10] (.app 5 (.call i_primitive [(.var 10)]))] []]
def f_kept : FnC := ⟨"kept", 1, 12, [.expr (.call i_checked [(.var 0)]), .asg 1 false (.blt .len [(.ix (.var 0) (.con (.int 0)))]), .asgT (.tup [(.name 2), (.name 3)]) (.call i_reduced [(.comp (.blt .list [(.ix (.var 4) (.con (.int 0)))]) (.name 4) .seq (.ix (.var 0) (.con (.int 1))) (.con .none) [] [4])]), .asg 5 true (.lst []), .for (.name 6) .rng1 (.var 1) (.con .none) b_kept_1, .retv 5]⟩
abbrev t_kept : FnT := ⟨pwBody.getD 62 (.Pass ⟨0, 0, 0, 0⟩), ["works", "many", "rows", "places", "mode", "found", "free", "whole", "row", "place", "weights", "vessel"], ["works"], [10, 5], []⟩
theorem s_kept : Stat mt f_kept t_kept := ⟨⟨rfl, rfl, rfl, by decide +kernel, rfl, by decide +kernel, by decide +kernel⟩, rfl, rfl, ⟨140, by kernel_rfl⟩, fun _ _ _ _ _ _ us hl => match us, hl with | [_], _ => rfl⟩
def f_entered : FnC := ⟨"entered", 2, 8, [.asgT (.tup [(.name 2), (.name 3), (.name 4), (.name 5)]) (.var 1), .asgT (.tup [(.name 6), (.name 7)]) (.ix (.var 0) (.var 2)), .ite (.cmp .Eq (.var 3) (.con (.str "up"))) [.asg 6 false (.blt .max2 [(.var 6), (.var 4)])] [.asg 7 false (.blt .min2 [(.var 7), (.var 4)])], .ite (.cmp .Gt (.var 6) (.var 7)) [.ret (.con .none)] [], .ret (.bin .Add (.bin .Add (.sl (.var 0) (.con .none) (.var 2)) (.tup [(.tup [(.var 6), (.var 7)])])) (.sl (.var 0) (.bin .Add (.var 2) (.con (.int 1))) (.con .none)))]⟩
abbrev t_entered : FnT := ⟨pwBody.getD 64 (.Pass ⟨0, 0, 0, 0⟩), ["box", "switch", "vessel", "way", "mark", "other", "low", "high"], ["box", "switch"], [], []⟩
theorem s_entered : Stat mt f_entered t_entered := ⟨⟨rfl, rfl, rfl, by decide +kernel, rfl, by decide +kernel, by decide +kernel⟩, rfl, rfl, ⟨140, by kernel_rfl⟩, fun _ _ _ _ _ _ us hl => match us, hl with | [_, _], _ => rfl⟩
def b_goes_at_once_1 : List CS := [.asgT (.tup [(.name 6), (.name 7)]) (.ix (.var 1) (.var 2)), .ite (.or (.and (.cmp .Eq (.var 3) (.con (.str "up"))) (.cmp .GtE (.var 6) (.var 4))) (.and (.cmp .Eq (.var 3) (.con (.str "down"))) (.cmp .LtE (.var 7) (.var 4)))) [.ret (.con (.bool true))] []]
def f_goes_at_once : FnC := ⟨"goes_at_once", 2, 8, [.for (.tup [(.name 2), (.name 3), (.name 4), (.name 5)]) .seq (.ix (.var 0) (.con (.int 1))) (.con .none) b_goes_at_once_1, .ret (.con (.bool false))]⟩
abbrev t_goes_at_once : FnT := ⟨pwBody.getD 65 (.Pass ⟨0, 0, 0, 0⟩), ["mode", "box", "vessel", "way", "mark", "other", "low", "high"], ["mode", "box"], [], []⟩
theorem s_goes_at_once : Stat mt f_goes_at_once t_goes_at_once := ⟨⟨rfl, rfl, rfl, by decide +kernel, rfl, by decide +kernel, by decide +kernel⟩, rfl, rfl, ⟨140, by kernel_rfl⟩, fun _ _ _ _ _ _ us hl => match us, hl with | [_, _], _ => rfl⟩
def b_joined_1 : List CS := [.app 2 (.tup [(.blt .min2 [(.ix (.var 3) (.con (.int 0))), (.ix (.var 4) (.con (.int 0)))]), (.blt .max2 [(.ix (.var 3) (.con (.int 1))), (.ix (.var 4) (.con (.int 1)))])])]
def f_joined : FnC := ⟨"joined", 2, 5, [.ite (.cmp .Is (.var 0) (.con .none)) [.retv 1] [], .asg 2 true (.lst []), .for (.tup [(.name 3), (.name 4)]) .zip (.var 0) (.var 1) b_joined_1, .ret (.blt .tuple [(.var 2)])]⟩
abbrev t_joined : FnT := ⟨pwBody.getD 66 (.Pass ⟨0, 0, 0, 0⟩), ["one", "other", "found", "mine", "theirs"], ["one", "other"], [2], []⟩
theorem s_joined : Stat mt f_joined t_joined := ⟨⟨rfl, rfl, rfl, by decide +kernel, rfl, by decide +kernel, by decide +kernel⟩, rfl, rfl, ⟨140, by kernel_rfl⟩, fun _ _ _ _ _ _ us hl => match us, hl with | [_, _], _ => rfl⟩
def b_flowed_1 : List CS := [.asgT (.tup [(.name 5), (.name 6)]) (.ix (.var 1) (.var 3)), .asg 7 false (.comp (.var 10) (.tup [(.name 8), (.name 9), (.name 10), (.name 11)]) .seq (.ix (.var 0) (.con (.int 1))) (.con .none) [(.and (.cmp .Eq (.var 8) (.var 3)) (.cmp .Eq (.var 9) (.con (.str "up"))))] [8, 9, 10, 11]), .asg 12 false (.comp (.var 10) (.tup [(.name 8), (.name 9), (.name 10), (.name 11)]) .seq (.ix (.var 0) (.con (.int 1))) (.con .none) [(.and (.cmp .Eq (.var 8) (.var 3)) (.cmp .Eq (.var 9) (.con (.str "down"))))] [8, 9, 10, 11]), .ite (.cmp .Gt (.var 4) (.con (.int 0))) [.ite (.not (.var 7)) [.ret (.con .none)] [], .asg 6 false (.blt .max2 [(.var 6), (.blt .min1 [(.var 7)])])] [], .ite (.cmp .Lt (.var 4) (.con (.int 0))) [.ite (.not (.var 12)) [.ret (.con .none)] [], .asg 5 false (.blt .min2 [(.var 5), (.blt .max1 [(.var 12)])])] [], .setix 2 (.var 3) (.tup [(.var 5), (.var 6)])]
def f_flowed : FnC := ⟨"flowed", 2, 13, [.ite (.call i_goes_at_once [(.var 0), (.var 1)]) [.retv 1] [], .asg 2 true (.blt .list [(.var 1)]), .for (.tup [(.name 3), (.name 4)]) .enum (.ix (.var 0) (.con (.int 0))) (.con .none) b_flowed_1, .ret (.blt .tuple [(.var 2)])]⟩
abbrev t_flowed : FnT := ⟨pwBody.getD 67 (.Pass ⟨0, 0, 0, 0⟩), ["mode", "box", "found", "vessel", "rate", "low", "high", "ups", "place", "way", "mark", "other", "downs"], ["mode", "box"], [2], []⟩
theorem s_flowed : Stat mt f_flowed t_flowed := ⟨⟨rfl, rfl, rfl, by decide +kernel, rfl, by decide +kernel, by decide +kernel⟩, rfl, rfl, ⟨140, by kernel_rfl⟩, fun _ _ _ _ _ _ us hl => match us, hl with | [_, _], _ => rfl⟩
def b_grown_2 : List CS := [.asg 7 false (.call i_entered [(.var 5), (.var 6)]), .ite (.cmp .IsNot (.var 7) (.con .none)) [.setix 2 (.ix (.var 6) (.con (.int 3))) (.call i_joined [(.ix (.var 2) (.ix (.var 6) (.con (.int 3)))), (.var 7)])] []]
def b_grown_1 : List CS := [.ite (.cmp .IsNot (.ix (.var 2) (.var 3)) (.con .none)) [.asg 5 false (.call i_flowed [(.var 4), (.ix (.var 2) (.var 3))]), .ite (.cmp .Is (.var 5) (.con .none)) [.ret (.con .none)] [], .setix 2 (.var 3) (.var 5), .for (.name 6) .seq (.ix (.var 4) (.con (.int 1))) (.con .none) b_grown_2] []]
def f_grown : FnC := ⟨"grown", 2, 8, [.asg 2 true (.blt .list [(.var 1)]), .for (.tup [(.name 3), (.name 4)]) .enum (.ix (.var 0) (.con (.int 1))) (.con .none) b_grown_1, .retv 2]⟩
abbrev t_grown : FnT := ⟨pwBody.getD 68 (.Pass ⟨0, 0, 0, 0⟩), ["works", "boxes", "found", "number", "mode", "box", "switch", "part"], ["works", "boxes"], [2], []⟩
theorem s_grown : Stat mt f_grown t_grown := ⟨⟨rfl, rfl, rfl, by decide +kernel, rfl, by decide +kernel, by decide +kernel⟩, rfl, rfl, ⟨140, by kernel_rfl⟩, fun _ _ _ _ _ _ us hl => match us, hl with | [_, _], _ => rfl⟩
def b_walls_1 : List CS := [.frz [1] (.asg 4 false (.call i_grown [(.var 0), (.var 1)])), .ite (.or (.cmp .Is (.var 4) (.con .none)) (.cmp .Eq (.var 4) (.var 1))) [.retv 4] [], .asg 1 true (.var 4)]
def f_walls : FnC := ⟨"walls", 1, 5, [.expr (.call i_checked [(.var 0)]), .asg 1 true (.comp (.con .none) (.name 2) .seq (.ix (.var 0) (.con (.int 1))) (.con .none) [] [2]), .setix 1 (.ix (.ix (.var 0) (.con (.int 2))) (.con (.int 0))) (.blt .tuple [(.comp (.tup [(.var 3), (.var 3)]) (.name 3) .seq (.ix (.ix (.var 0) (.con (.int 2))) (.con (.int 1))) (.con .none) [] [3])]), .whl (.con (.bool true)) b_walls_1]⟩
abbrev t_walls : FnT := ⟨pwBody.getD 69 (.Pass ⟨0, 0, 0, 0⟩), ["works", "boxes", "mode", "level", "more"], ["works"], [1], []⟩
theorem s_walls : Stat mt f_walls t_walls := ⟨⟨rfl, rfl, rfl, by decide +kernel, rfl, by decide +kernel, by decide +kernel⟩, rfl, rfl, ⟨140, by kernel_rfl⟩, fun _ _ _ _ _ _ us hl => match us, hl with | [_], _ => rfl⟩
def f__law_cell : FnC := ⟨"_law_cell", 2, 2, [.ite (.cmp .Lt (.var 1) (.blt .len [(.var 0)])) [.ret (.ix (.var 0) (.var 1))] [], .ret (.con (.int 0))]⟩
abbrev t__law_cell : FnT := ⟨pwBody.getD 71 (.Pass ⟨0, 0, 0, 0⟩), ["_law_script", "_law_k"], ["_law_script", "_law_k"], [], []⟩
theorem s__law_cell : Stat mt f__law_cell t__law_cell := ⟨⟨rfl, rfl, rfl, by decide +kernel, rfl, by decide +kernel, by decide +kernel⟩, rfl, rfl, ⟨140, by kernel_rfl⟩, fun _ _ _ _ _ _ us hl => match us, hl with | [_, _], _ => rfl⟩
def f__law_mix : FnC := ⟨"_law_mix", 3, 3, [.ret (.bin .Mod (.bin .Mod (.bin .Pow (.bin .Mod (.bin .Mult (.var 0) (.con (.int 48271))) (.var 1)) (.con (.int 3))) (.var 1)) (.var 2))]⟩
abbrev t__law_mix : FnT := ⟨pwBody.getD 72 (.Pass ⟨0, 0, 0, 0⟩), ["_law_cell_here", "_law_prime", "_law_many"], ["_law_cell_here", "_law_prime", "_law_many"], [], []⟩
theorem s__law_mix : Stat mt f__law_mix t__law_mix := ⟨⟨rfl, rfl, rfl, by decide +kernel, rfl, by decide +kernel, by decide +kernel⟩, rfl, rfl, ⟨140, by kernel_rfl⟩, fun _ _ _ _ _ _ us hl => match us, hl with | [_, _, _], _ => rfl⟩
def b__law_works_2 : List CS := [.ite (.and (.cmp .Gt (.call i__law_mix [(.bin .Add (.var 9) (.bin .Mult (.con (.int 7)) (.var 6))), (.con (.int 9931)), (.con (.int 7))]) (.con (.int 0))) (.cmp .NotEq (.ix (.var 10) (.var 6)) (.con (.int 0)))) [.asg 12 false (.ix (.lst [(.con (.str "down")), (.con (.str "up"))]) (.blt .int [(.cmp .Gt (.ix (.var 10) (.var 6)) (.con (.int 0)))])), .asg 13 false (.bin .Add (.con (.int 1)) (.call i__law_mix [(.bin .Add (.var 9) (.bin .Mult (.con (.int 23)) (.var 6))), (.con (.int 9929)), (.bin .Sub (.ix (.var 5) (.var 6)) (.con (.int 1)))])), .ite (.cmp .Eq (.var 12) (.con (.str "down"))) [.asg 13 false (.bin .Sub (.bin .Sub (.ix (.var 5) (.var 6)) (.con (.int 1))) (.var 13))] [], .app 11 (.tup [(.var 6), (.var 12), (.blt .max2 [(.var 13), (.con (.int 0))]), (.call i__law_mix [(.bin .Add (.bin .Add (.var 9) (.bin .Mult (.con (.int 29)) (.var 6))) (.con (.int 1))), (.con (.int 9923)), (.var 4)])])] []]
def b__law_works_1 : List CS := [.asg 9 false (.bin .Add (.call i__law_cell [(.var 0), (.bin .Add (.bin .Add (.var 1) (.con (.int 2))) (.var 8))]) (.bin .Mult (.con (.int 61)) (.var 8))), .asg 10 false (.blt .tuple [(.comp (.bin .Sub (.call i__law_mix [(.bin .Add (.bin .Add (.var 9) (.bin .Mult (.bin .Mult (.con (.int 17)) (.var 6)) (.var 6))) (.var 6)), (.con (.int 9941)), (.con (.int 11))]) (.con (.int 5))) (.name 6) .rng1 (.var 3) (.con .none) [] [6])]), .asg 11 true (.lst []), .for (.name 6) .rng1 (.var 3) (.con .none) b__law_works_2, .ite (.cmp .Eq (.call i__law_mix [(.var 9), (.con (.int 9907)), (.con (.int 5))]) (.con (.int 1))) [.asg 6 false (.call i__law_mix [(.var 9), (.con (.int 9901)), (.var 3)]), .asg 13 false (.call i__law_mix [(.var 9), (.con (.int 9887)), (.bin .Add (.ix (.var 5) (.var 6)) (.con (.int 1)))]), .app 11 (.tup [(.var 6), (.ix (.lst [(.con (.str "up")), (.con (.str "down"))]) (.call i__law_mix [(.var 9), (.con (.int 9883)), (.con (.int 2))])), (.var 13), (.call i__law_mix [(.var 9), (.con (.int 9871)), (.var 4)])])] [], .app 7 (.tup [(.var 10), (.blt .tuple [(.var 11)])])]
def f__law_works : FnC := ⟨"_law_works", 2, 15, [.asg 2 false (.call i__law_cell [(.var 0), (.var 1)]), .asg 3 false (.bin .Add (.con (.int 1)) (.call i__law_mix [(.var 2), (.con (.int 9973)), (.con (.int 2))])), .ite (.cmp .Eq (.call i__law_mix [(.bin .Add (.call i__law_cell [(.var 0), (.con (.int 0))]) (.bin .Mult (.con (.int 7)) (.blt .len [(.var 0)]))), (.con (.int 9871)), (.con (.int 8))]) (.con (.int 3))) [.asg 3 false (.bin .Add (.con (.int 1)) (.call i__law_mix [(.var 2), (.con (.int 9973)), (.con (.int 3))]))] [], .asg 4 false (.bin .Add (.con (.int 1)) (.call i__law_mix [(.var 2), (.con (.int 9967)), (.con (.int 4))])), .asg 5 false (.blt .tuple [(.comp (.bin .Add (.con (.int 8)) (.call i__law_mix [(.bin .Add (.call i__law_cell [(.var 0), (.bin .Add (.var 1) (.con (.int 1)))]) (.bin .Mult (.con (.int 13)) (.var 6))), (.con (.int 9949)), (.con (.int 25))])) (.name 6) .rng1 (.var 3) (.con .none) [] [6])]), .asg 7 true (.lst []), .for (.name 8) .rng1 (.var 4) (.con .none) b__law_works_1, .asg 14 false (.blt .tuple [(.comp (.call i__law_mix [(.bin .Add (.bin .Add (.call i__law_cell [(.var 0), (.bin .Add (.var 1) (.con (.int 1)))]) (.bin .Mult (.con (.int 31)) (.var 6))) (.con (.int 5))), (.con (.int 9859)), (.bin .Add (.ix (.var 5) (.var 6)) (.con (.int 1)))]) (.name 6) .rng1 (.var 3) (.con .none) [] [6])]), .ret (.tup [(.var 5), (.blt .tuple [(.var 7)]), (.tup [(.call i__law_mix [(.var 2), (.con (.int 9857)), (.var 4)]), (.var 14)])])]⟩
abbrev t__law_works : FnT := ⟨pwBody.getD 73 (.Pass ⟨0, 0, 0, 0⟩), ["_law_script", "_law_at", "_law_cell_here", "_law_many", "_law_size", "_law_brims", "_law_k", "_law_modes", "_law_number", "_law_seed", "_law_rates", "_law_switches", "_law_way", "_law_mark", "_law_levels"], ["_law_script", "_law_at"], [11, 7], []⟩
theorem s__law_works : Stat mt f__law_works t__law_works := ⟨⟨rfl, rfl, rfl, by decide +kernel, rfl, by decide +kernel, by decide +kernel⟩, rfl, rfl, ⟨140, by kernel_rfl⟩, fun _ _ _ _ _ _ us hl => match us, hl with | [_, _], _ => rfl⟩
def b__law_saw_1 : List CS := [.asg 9 false (.bin .Add (.bin .Add (.var 2) (.bin .Mult (.bin .Mult (.con (.int 41)) (.var 8)) (.var 8))) (.bin .Mult (.con (.int 3)) (.var 8))), .asg 10 false (.call i__law_mix [(.var 9), (.con (.int 9839)), (.con (.int 6))]), .asg 11 false (.bin .Add (.bin .Add (.var 10) (.con (.int 2))) (.call i__law_mix [(.var 9), (.con (.int 9833)), (.con (.int 9))])), .app 6 (.tup [(.var 10), (.var 11)]), .app 4 (.bin .Add (.var 11) (.call i__law_mix [(.var 9), (.con (.int 9829)), (.con (.int 4))])), .app 7 (.tup [(.bin .Add (.con (.int 1)) (.call i__law_mix [(.var 9), (.con (.int 9817)), (.con (.int 5))])), (.bin .Sub (.bin .Sub (.con (.int 0)) (.con (.int 1))) (.call i__law_mix [(.var 9), (.con (.int 9811)), (.con (.int 5))]))]), .app 5 (.bin .Add (.var 10) (.call i__law_mix [(.var 9), (.con (.int 9803)), (.bin .Add (.bin .Sub (.var 11) (.var 10)) (.con (.int 1)))]))]
def b__law_saw_3 : List CS := [.ite (.cmp .Eq (.bin .BitAnd (.bin .RShift (.var 13) (.var 8)) (.con (.int 1))) (.con (.int 0))) [.app 14 (.tup [(.var 8), (.con (.str "up")), (.ix (.ix (.var 6) (.var 8)) (.con (.int 1))), (.bin .Add (.var 13) (.bin .LShift (.con (.int 1)) (.var 8)))])] [.app 14 (.tup [(.var 8), (.con (.str "down")), (.ix (.ix (.var 6) (.var 8)) (.con (.int 0))), (.bin .Sub (.var 13) (.bin .LShift (.con (.int 1)) (.var 8)))])]]
def b__law_saw_2 : List CS := [.asg 14 true (.lst []), .for (.name 8) .rng1 (.var 3) (.con .none) b__law_saw_3, .app 12 (.tup [(.blt .tuple [(.comp (.ix (.ix (.var 7) (.var 8)) (.bin .BitAnd (.bin .RShift (.var 13) (.var 8)) (.con (.int 1)))) (.name 8) .rng1 (.var 3) (.con .none) [] [8])]), (.blt .tuple [(.var 14)])])]
def f__law_saw : FnC := ⟨"_law_saw", 2, 15, [.asg 2 false (.call i__law_cell [(.var 0), (.var 1)]), .asg 3 false (.bin .Add (.con (.int 1)) (.call i__law_mix [(.var 2), (.con (.int 9851)), (.con (.int 2))])), .asg 4 true (.lst []), .asg 5 true (.lst []), .asg 6 true (.lst []), .asg 7 true (.lst []), .for (.name 8) .rng1 (.var 3) (.con .none) b__law_saw_1, .asg 12 true (.lst []), .for (.name 13) .rng1 (.bin .LShift (.con (.int 1)) (.var 3)) (.con .none) b__law_saw_2, .ret (.tup [(.blt .tuple [(.var 4)]), (.blt .tuple [(.var 12)]), (.tup [(.con (.int 0)), (.blt .tuple [(.var 5)])])])]⟩
abbrev t__law_saw : FnT := ⟨pwBody.getD 74 (.Pass ⟨0, 0, 0, 0⟩), ["_law_script", "_law_at", "_law_cell_here", "_law_many", "_law_brims", "_law_levels", "_law_marks", "_law_rates", "_law_k", "_law_seed", "_law_low", "_law_high", "_law_modes", "_law_number", "_law_switches"], ["_law_script", "_law_at"], [6, 4, 7, 5, 14, 12], []⟩
theorem s__law_saw : Stat mt f__law_saw t__law_saw := ⟨⟨rfl, rfl, rfl, by decide +kernel, rfl, by decide +kernel, by decide +kernel⟩, rfl, rfl, ⟨140, by kernel_rfl⟩, fun _ _ _ _ _ _ us hl => match us, hl with | [_, _], _ => rfl⟩
def f__law_drawn : FnC := ⟨"_law_drawn", 2, 2, [.ite (.cmp .Eq (.call i__law_mix [(.call i__law_cell [(.var 0), (.var 1)]), (.con (.int 9791)), (.con (.int 3))]) (.con (.int 1))) [.ret (.call i__law_saw [(.var 0), (.var 1)])] [], .ret (.call i__law_works [(.var 0), (.var 1)])]⟩
abbrev t__law_drawn : FnT := ⟨pwBody.getD 75 (.Pass ⟨0, 0, 0, 0⟩), ["_law_script", "_law_at"], ["_law_script", "_law_at"], [], []⟩
theorem s__law_drawn : Stat mt f__law_drawn t__law_drawn := ⟨⟨rfl, rfl, rfl, by decide +kernel, rfl, by decide +kernel, by decide +kernel⟩, rfl, rfl, ⟨140, by kernel_rfl⟩, fun _ _ _ _ _ _ us hl => match us, hl with | [_, _], _ => rfl⟩
def b__law_common_1 : List CS := [.par 0 1 (.var 1) (.bin .Mod (.var 0) (.var 1))]
def f__law_common : FnC := ⟨"_law_common", 2, 2, [.whl (.cmp .NotEq (.var 1) (.con (.int 0))) b__law_common_1, .retv 0]⟩
abbrev t__law_common : FnT := ⟨pwBody.getD 76 (.Pass ⟨0, 0, 0, 0⟩), ["_law_one", "_law_other"], ["_law_one", "_law_other"], [], []⟩
theorem s__law_common : Stat mt f__law_common t__law_common := ⟨⟨rfl, rfl, rfl, by decide +kernel, rfl, by decide +kernel, by decide +kernel⟩, rfl, rfl, ⟨140, by kernel_rfl⟩, fun _ _ _ _ _ _ us hl => match us, hl with | [_, _], _ => rfl⟩
def f__law_frac : FnC := ⟨"_law_frac", 2, 3, [.ite (.cmp .Lt (.var 1) (.con (.int 0))) [.asg 0 false (.bin .Sub (.con (.int 0)) (.var 0)), .asg 1 false (.bin .Sub (.con (.int 0)) (.var 1))] [], .asg 2 false (.call i__law_common [(.blt .abs [(.var 0)]), (.var 1)]), .ret (.tup [(.bin .FloorDiv (.var 0) (.var 2)), (.bin .FloorDiv (.var 1) (.var 2))])]⟩
abbrev t__law_frac : FnT := ⟨pwBody.getD 77 (.Pass ⟨0, 0, 0, 0⟩), ["_law_up", "_law_down", "_law_both"], ["_law_up", "_law_down"], [], []⟩
theorem s__law_frac : Stat mt f__law_frac t__law_frac := ⟨⟨rfl, rfl, rfl, by decide +kernel, rfl, by decide +kernel, by decide +kernel⟩, rfl, rfl, ⟨140, by kernel_rfl⟩, fun _ _ _ _ _ _ us hl => match us, hl with | [_, _], _ => rfl⟩
def f__law_told : FnC := ⟨"_law_told", 2, 3, [.try [.ret (.call i_moment [(.var 0), (.var 1)])] [true, true, true, true, true, true, true] (some 2) [.ret (.lst [(.isE 2 [3]), (.isE 2 [4])])]]⟩
abbrev t__law_told : FnT := ⟨pwBody.getD 78 (.Pass ⟨0, 0, 0, 0⟩), ["_law_works_here", "_law_time", "e"], ["_law_works_here", "_law_time"], [], []⟩
theorem s__law_told : Stat mt f__law_told t__law_told := ⟨⟨rfl, rfl, rfl, by decide +kernel, rfl, by decide +kernel, by decide +kernel⟩, rfl, rfl, ⟨140, by kernel_rfl⟩, fun _ _ _ _ _ _ us hl => match us, hl with | [_, _], _ => rfl⟩
def b_law_1 : List CS := [.ite (.cmp .Is (.var 12) (.con .none)) [.app 11 (.con .none)] [.app 11 (.blt .tuple [(.comp (.tup [(.bin .Mult (.var 13) (.var 2)), (.bin .Mult (.var 14) (.var 2))]) (.tup [(.name 13), (.name 14)]) .seq (.var 12) (.con .none) [] [13, 14])])]]
def f_law : FnC := ⟨"law", 1, 15, [.asg 1 false (.call i__law_drawn [(.var 0), (.con (.int 2))]), .asg 2 false (.bin .Add (.con (.int 1)) (.bin .Mod (.call i__law_cell [(.var 0), (.con (.int 0))]) (.con (.int 9)))), .asg 3 false (.call i__law_frac [(.bin .Mod (.call i__law_cell [(.var 0), (.con (.int 1))]) (.con (.int 281))), (.bin .Add (.con (.int 1)) (.bin .Mod (.bin .FloorDiv (.call i__law_cell [(.var 0), (.con (.int 0))]) (.con (.int 9))) (.con (.int 7))))]), .asg 4 false (.call i_faster [(.var 1), (.var 2)]), .ite (.cmp .NotEq (.call i__law_told [(.var 4), (.var 3)]) (.call i__law_told [(.var 1), (.call i__law_frac [(.bin .Mult (.ix (.var 3) (.con (.int 0))) (.var 2)), (.ix (.var 3) (.con (.int 1)))])])) [.ret (.con (.bool false))] [], .asg 5 false (.call i_fate [(.var 1), (.con (.int 40))]), .asg 6 false (.call i_fate [(.var 4), (.con (.int 40))]), .ite (.or (.cmp .NotEq (.ix (.var 5) (.con (.int 0))) (.ix (.var 6) (.con (.int 0)))) (.or (.cmp .NotEq (.call i_walls [(.var 4)]) (.call i_walls [(.var 1)])) (.cmp .NotEq (.call i_kept [(.var 4)]) (.call i_kept [(.var 1)])))) [.ret (.con (.bool false))] [], .ite (.cmp .Eq (.ix (.var 5) (.con (.int 0))) (.con (.str "ring"))) [.ite (.or (.cmp .NotEq (.sl (.var 5) (.con (.int 1)) (.con (.int 3))) (.sl (.var 6) (.con (.int 1)) (.con (.int 3)))) (.cmp .NotEq (.ix (.var 6) (.con (.int 4))) (.call i__law_frac [(.ix (.ix (.var 5) (.con (.int 4))) (.con (.int 0))), (.bin .Mult (.ix (.ix (.var 5) (.con (.int 4))) (.con (.int 1))) (.var 2))]))) [.ret (.con (.bool false))] [], .ite (.or (.cmp .NotEq (.call i_mode_shares [(.var 4)]) (.call i_mode_shares [(.var 1)])) (.cmp .NotEq (.call i_means [(.var 4)]) (.call i_means [(.var 1)]))) [.ret (.con (.bool false))] []] [], .ite (.cmp .Gt (.bin .Mult (.blt .max1 [(.ix (.var 1) (.con (.int 0)))]) (.var 2)) (.con (.int 999))) [.ret (.con (.bool true))] [], .asg 7 false (.call i_greater [(.var 1), (.var 2)]), .asg 8 false (.call i__law_told [(.var 1), (.var 3)]), .ite (.isI (.var 8) .tuple) [.asg 8 false (.tup [(.ix (.var 8) (.con (.int 0))), (.blt .tuple [(.comp (.call i__law_frac [(.bin .Mult (.ix (.var 9) (.con (.int 0))) (.var 2)), (.ix (.var 9) (.con (.int 1)))]) (.name 9) .seq (.ix (.var 8) (.con (.int 1))) (.con .none) [] [9])])])] [], .ite (.or (.cmp .NotEq (.call i__law_told [(.var 7), (.var 3)]) (.var 8)) (.cmp .NotEq (.ix (.call i_fate [(.var 7), (.con (.int 40))]) (.con (.int 0))) (.ix (.var 5) (.con (.int 0))))) [.ret (.con (.bool false))] [], .asg 10 false (.call i_walls [(.var 1)]), .ite (.cmp .Is (.var 10) (.con .none)) [.ret (.cmp .Is (.call i_walls [(.var 7)]) (.con .none))] [], .asg 11 true (.lst []), .for (.name 12) .seq (.var 10) (.con .none) b_law_1, .ret (.cmp .Eq (.call i_walls [(.var 7)]) (.var 11))]⟩
abbrev t_law : FnT := ⟨pwBody.getD 79 (.Pass ⟨0, 0, 0, 0⟩), ["_law_script", "_law_works_here", "_law_number", "_law_time", "_law_quick", "_law_one", "_law_two", "_law_tall", "_law_here", "_law_level", "_law_boxes", "_law_due", "_law_box", "_law_low", "_law_high"], ["_law_script"], [11], []⟩
theorem s_law : Stat mt f_law t_law := ⟨⟨rfl, rfl, rfl, by decide +kernel, rfl, by decide +kernel, by decide +kernel⟩, rfl, rfl, ⟨140, by kernel_rfl⟩, fun _ _ _ _ _ _ us hl => match us, hl with | [_], _ => rfl⟩
def tab : List FnC := ([f_is_within, f_are_numbers, f_is_switch, f_is_mode, f_is_works, f_checked, f_look_times, f_looked, f_faster, f_greater, f_common, f_fraction, f_whole, f_plus, f_minus, f_times, f_over, f_is_less, f_least, f_is_fraction] : List (FnC)) ++ ([f_is_met, f_settled, f_wait_for, f_levels_after, f_start, f_run, f_ring_in, f_known_fate, f_fate, f_at_flow, f_last_ahead, f_turned_back, f_end_of, f_moment, f_ring_of, f_mode_shares, f_means, f_primitive, f_reduced, f_cleared] : List (FnC)) ++ ([f_kept, f_entered, f_goes_at_once, f_joined, f_flowed, f_grown, f_walls, f__law_cell, f__law_mix, f__law_works, f__law_saw, f__law_drawn, f__law_common, f__law_frac, f__law_told, f_law] : List (FnC))
def fts : List FnT := ([t_is_within, t_are_numbers, t_is_switch, t_is_mode, t_is_works, t_checked, t_look_times, t_looked, t_faster, t_greater, t_common, t_fraction, t_whole, t_plus, t_minus, t_times, t_over, t_is_less, t_least, t_is_fraction] : List (FnT)) ++ ([t_is_met, t_settled, t_wait_for, t_levels_after, t_start, t_run, t_ring_in, t_known_fate, t_fate, t_at_flow, t_last_ahead, t_turned_back, t_end_of, t_moment, t_ring_of, t_mode_shares, t_means, t_primitive, t_reduced, t_cleared] : List (FnT)) ++ ([t_kept, t_entered, t_goes_at_once, t_joined, t_flowed, t_grown, t_walls, t__law_cell, t__law_mix, t__law_works, t__law_saw, t__law_drawn, t__law_common, t__law_frac, t__law_told, t_law] : List (FnT))
theorem stats : Paired (Stat mt) tab fts := .cons s_is_within (.cons s_are_numbers (.cons s_is_switch (.cons s_is_mode (.cons s_is_works (.cons s_checked (.cons s_look_times (.cons s_looked (.cons s_faster (.cons s_greater (.cons s_common (.cons s_fraction (.cons s_whole (.cons s_plus (.cons s_minus (.cons s_times (.cons s_over (.cons s_is_less (.cons s_least (.cons s_is_fraction (.cons s_is_met (.cons s_settled (.cons s_wait_for (.cons s_levels_after (.cons s_start (.cons s_run (.cons s_ring_in (.cons s_known_fate (.cons s_fate (.cons s_at_flow (.cons s_last_ahead (.cons s_turned_back (.cons s_end_of (.cons s_moment (.cons s_ring_of (.cons s_mode_shares (.cons s_means (.cons s_primitive (.cons s_reduced (.cons s_cleared (.cons s_kept (.cons s_entered (.cons s_goes_at_once (.cons s_joined (.cons s_flowed (.cons s_grown (.cons s_walls (.cons s__law_cell (.cons s__law_mix (.cons s__law_works (.cons s__law_saw (.cons s__law_drawn (.cons s__law_common (.cons s__law_frac (.cons s__law_told (.cons s_law (.nil))))))))))))))))))))))))))))))))))))))))))))))))))))))))
theorem tab_is_within : tab[i_is_within]? = some f_is_within := rfl
theorem tab_are_numbers : tab[i_are_numbers]? = some f_are_numbers := rfl
theorem tab_is_switch : tab[i_is_switch]? = some f_is_switch := rfl
theorem tab_is_mode : tab[i_is_mode]? = some f_is_mode := rfl
theorem tab_is_works : tab[i_is_works]? = some f_is_works := rfl
theorem tab_checked : tab[i_checked]? = some f_checked := rfl
theorem tab_look_times : tab[i_look_times]? = some f_look_times := rfl
theorem tab_looked : tab[i_looked]? = some f_looked := rfl
theorem tab_faster : tab[i_faster]? = some f_faster := rfl
theorem tab_greater : tab[i_greater]? = some f_greater := rfl
theorem tab_common : tab[i_common]? = some f_common := rfl
theorem tab_fraction : tab[i_fraction]? = some f_fraction := rfl
theorem tab_whole : tab[i_whole]? = some f_whole := rfl
theorem tab_plus : tab[i_plus]? = some f_plus := rfl
theorem tab_minus : tab[i_minus]? = some f_minus := rfl
theorem tab_times : tab[i_times]? = some f_times := rfl
theorem tab_over : tab[i_over]? = some f_over := rfl
theorem tab_is_less : tab[i_is_less]? = some f_is_less := rfl
theorem tab_least : tab[i_least]? = some f_least := rfl
theorem tab_is_fraction : tab[i_is_fraction]? = some f_is_fraction := rfl
theorem tab_is_met : tab[i_is_met]? = some f_is_met := rfl
theorem tab_settled : tab[i_settled]? = some f_settled := rfl
theorem tab_wait_for : tab[i_wait_for]? = some f_wait_for := rfl
theorem tab_levels_after : tab[i_levels_after]? = some f_levels_after := rfl
theorem tab_start : tab[i_start]? = some f_start := rfl
theorem tab_run : tab[i_run]? = some f_run := rfl
theorem tab_ring_in : tab[i_ring_in]? = some f_ring_in := rfl
theorem tab_known_fate : tab[i_known_fate]? = some f_known_fate := rfl
theorem tab_fate : tab[i_fate]? = some f_fate := rfl
theorem tab_at_flow : tab[i_at_flow]? = some f_at_flow := rfl
theorem tab_last_ahead : tab[i_last_ahead]? = some f_last_ahead := rfl
theorem tab_turned_back : tab[i_turned_back]? = some f_turned_back := rfl
theorem tab_end_of : tab[i_end_of]? = some f_end_of := rfl
theorem tab_moment : tab[i_moment]? = some f_moment := rfl
theorem tab_ring_of : tab[i_ring_of]? = some f_ring_of := rfl
theorem tab_mode_shares : tab[i_mode_shares]? = some f_mode_shares := rfl
theorem tab_means : tab[i_means]? = some f_means := rfl
theorem tab_primitive : tab[i_primitive]? = some f_primitive := rfl
theorem tab_reduced : tab[i_reduced]? = some f_reduced := rfl
theorem tab_cleared : tab[i_cleared]? = some f_cleared := rfl
theorem tab_kept : tab[i_kept]? = some f_kept := rfl
theorem tab_entered : tab[i_entered]? = some f_entered := rfl
theorem tab_goes_at_once : tab[i_goes_at_once]? = some f_goes_at_once := rfl
theorem tab_joined : tab[i_joined]? = some f_joined := rfl
theorem tab_flowed : tab[i_flowed]? = some f_flowed := rfl
theorem tab_grown : tab[i_grown]? = some f_grown := rfl
theorem tab_walls : tab[i_walls]? = some f_walls := rfl
theorem tab__law_cell : tab[i__law_cell]? = some f__law_cell := rfl
theorem tab__law_mix : tab[i__law_mix]? = some f__law_mix := rfl
theorem tab__law_works : tab[i__law_works]? = some f__law_works := rfl
theorem tab__law_saw : tab[i__law_saw]? = some f__law_saw := rfl
theorem tab__law_drawn : tab[i__law_drawn]? = some f__law_drawn := rfl
theorem tab__law_common : tab[i__law_common]? = some f__law_common := rfl
theorem tab__law_frac : tab[i__law_frac]? = some f__law_frac := rfl
theorem tab__law_told : tab[i__law_told]? = some f__law_told := rfl
theorem tab_law : tab[i_law]? = some f_law := rfl
end PF
end

section
/-! P1: the evaluator's equations for simp; loops. -/
namespace PF
open PySem PySem.Spec
theorem runF_of {tab : List FnC} {k i : Nat} {ds : List D} {f : FnC} (h : tab[i]? = some f) (hl : ds.length = f.ar) : runF tab (k + 1) i ds = (exB (runF tab k) f.body (startE f.sz ds)).fin := by
  simp only [runF, h]
  rw [if_pos hl]
/-- an element, a test: as functions -/
noncomputable def evT (F : Nat → List D → M R) (e : CE) (ρ : PF.Env) : M D := (ev F e ρ).toD
noncomputable def tst (F : Nat → List D → M R) (c : CE) (ρ : PF.Env) : M Bool := (pk c ρ (ev F c ρ)).bind truthy
section
variable (F : Nat → List D → M R) (ρ : PF.Env)
@[simp] theorem evT_eq (e : CE) : evT F e ρ = (ev F e ρ).toD := rfl
@[simp] theorem tst_eq (e : CE) : tst F e ρ = (pk e ρ (ev F e ρ)).bind truthy := rfl
@[simp] theorem exB_nil : exB F [] ρ = .nx ρ := by rw [exB]
@[simp] theorem exB_cons (s : CS) (ss : List CS) : exB F (s :: ss) ρ = (exS F s ρ).seq (exB F ss) := by rw [exB]
@[simp] theorem exS_asg (i : Nat) (keep : Bool) (e : CE) : exS F (.asg i keep e) ρ = (ev F e ρ).ctl ρ fun r => .nx (ρ.set i (store keep r)) := by rw [exS]
@[simp] theorem exS_asgT (tg : Tg) (e : CE) : exS F (.asgT tg e) ρ = (ev F e ρ).toD.ctl ρ fun d => optC (setT tg d ρ) fun ρ' => .nx ρ' := by rw [exS]
@[simp] theorem exS_ret (e : CE) : exS F (.ret e) ρ = (ev F e ρ).ctl ρ fun r => .rt r := by rw [exS]
@[simp] theorem exS_retv (i : Nat) : exS F (.retv i) ρ = (getP ρ i).ctl ρ fun r => .rt r := by rw [exS]
@[simp] theorem exS_retN : exS F .retN ρ = .rt (.d .none) := by rw [exS]
@[simp] theorem exS_ite (c : CE) (a b : List CS) : exS F (.ite c a b) ρ = ((pk c ρ (ev F c ρ)).bind truthy).ctl ρ fun k => if k = true then exB F a ρ else exB F b ρ := by rw [exS]
@[simp] theorem exS_raise (c : Nat) : exS F (.raise c) ρ = .ex c ρ := by rw [exS]
@[simp] theorem exS_brk : exS F .brk ρ = .bk ρ := by rw [exS]
@[simp] theorem exS_cnt : exS F .cnt ρ = .ct ρ := by rw [exS]
@[simp] theorem exS_pass : exS F .pass ρ = .nx ρ := by rw [exS]
@[simp] theorem exS_expr (e : CE) : exS F (.expr e) ρ = (ev F e ρ).ctl ρ fun _ => .nx ρ := by rw [exS]
@[simp] theorem exS_frz (is : List Nat) (s : CS) : exS F (.frz is s) ρ = exS F s (frzE is ρ) := by rw [exS]
@[simp] theorem exS_for (tg : Tg) (k : IK) (a b : CE) (body : List CS) : exS F (.for tg k a b body) ρ = (itf F k a b ρ).ctl ρ fun ds => forD tg (exB F body) ds ρ := by rw [exS]
@[simp] theorem exS_whl (c : CE) (b : List CS) : exS F (.whl c b) ρ = whlD (tst F c) (exB F b) ρ := by rw [exS] <;> rfl
@[simp] theorem exS_app (i : Nat) (e : CE) : exS F (.app i e) ρ = (match ρ.getD i .no with
    | .own ds => (ev F e ρ).toD.ctl ρ fun d => if ds.length < sizeLine then .nx (ρ.set i (.own (ds ++ [d]))) else .no
    | _ => .no) := by rw [exS] <;> rfl
@[simp] theorem exS_swp (i : Nat) (a b e : CE) : exS F (.swp i a b e) ρ = ((ev F e ρ).toD.ctl ρ fun d => match d with
    | .tuple [x, y] => (set1 F i a x ρ).seq fun ρ' => set1 F i b y ρ'
    | _ => .no) := by rw [exS] <;> rfl
@[simp] theorem set1_eq (i : Nat) (ci : CE) (d : D) : set1 F i ci d ρ = match ρ.getD i .no with
  | .own ds => (ev F ci ρ).ctl ρ fun k => match k with
    | .d (.int k) => optC (L2.ixN ds.length k) fun j => .nx (ρ.set i (.own (ds.set j d)))
    | _ => .no
  | _ => .no := rfl
@[simp] theorem exS_par (i j : Nat) (a b : CE) : exS F (.par i j a b) ρ = ((evs F [a, b] ρ).ctl ρ fun ds => match ds with
    | [x, y] => .nx ((ρ.set i (.val x)).set j (.val y))
    | _ => .no) := by rw [exS] <;> rfl
@[simp] theorem ev_var (i : Nat) : ev F (.var i) ρ = getV ρ i := by rw [ev]
@[simp] theorem ev_con (d : D) : ev F (.con d) ρ = .ok (.d d) := by rw [ev]
@[simp] theorem ev_bin (op : Operator) (a b : CE) : ev F (.bin op a b) ρ = (pk a ρ (ev F a ρ)).bind fun x => (pk b ρ (ev F b ρ)).bind fun y => binD op x y := by rw [ev]
@[simp] theorem ev_neg (a : CE) : ev F (.neg a) ρ = (ev F a ρ).bind negD := by rw [ev]
@[simp] theorem ev_cmp (op : CmpOp) (a b : CE) : ev F (.cmp op a b) ρ = (pk a ρ (ev F a ρ)).bind fun x => (pk b ρ (ev F b ρ)).bind fun y => cmpD op x y := by rw [ev]
@[simp] theorem ev_chain (op op' : CmpOp) (a b c : CE) : ev F (.chain op op' a b c) ρ = (pk a ρ (ev F a ρ)).bind fun x => (pk b ρ (ev F b ρ)).bind fun y => (cmpD op x y).bind fun z => (truthy z).bind fun t =>
      if t = true then (pk c ρ (ev F c ρ)).bind fun w => cmpD op' y w else boolR false := by rw [ev]
@[simp] theorem ev_chain3 (op op' op2 : CmpOp) (a b c d : CE) : ev F (.chain3 op op' op2 a b c d) ρ = (pk a ρ (ev F a ρ)).bind fun x => (pk b ρ (ev F b ρ)).bind fun y => (cmpD op x y).bind fun z => (truthy z).bind fun t =>
      if t = true then (pk c ρ (ev F c ρ)).bind fun w => (cmpD op' y w).bind fun z2 => (truthy z2).bind fun t2 => if t2 = true then (pk d ρ (ev F d ρ)).bind fun v => cmpD op2 w v else boolR false else boolR false := by rw [ev]
@[simp] theorem ev_meth (m : Mth) (a : CE) (es : List CE) : ev F (.meth m a es) ρ = (pk a ρ (ev F a ρ)).bind fun x => (mTy m x).bind fun _ => (evs F es ρ).bind fun ds => mthD m x ds := by rw [ev]
@[simp] theorem ev_and (a b : CE) : ev F (.and a b) ρ = (ev F a ρ).toD.bind fun x => (truthy (.d x)).bind fun t => if t = true then ev F b ρ else .ok (.d x) := by rw [ev]
@[simp] theorem ev_or (a b : CE) : ev F (.or a b) ρ = (ev F a ρ).toD.bind fun x => (truthy (.d x)).bind fun t => if t = true then .ok (.d x) else ev F b ρ := by rw [ev]
@[simp] theorem ev_not (a : CE) : ev F (.not a) ρ = (pk a ρ (ev F a ρ)).bind fun x => (truthy x).bind fun t => boolR (!t) := by rw [ev]
@[simp] theorem ev_tup (es : List CE) : ev F (.tup es) ρ = (evs F es ρ).bind fun ds => .ok (.d (.tuple ds)) := by rw [ev]
@[simp] theorem ev_lst (es : List CE) : ev F (.lst es) ρ = (evs F es ρ).bind fun ds => .ok (.o ds) := by rw [ev]
@[simp] theorem ev_ix (a i : CE) : ev F (.ix a i) ρ = (pk a ρ (ev F a ρ)).bind fun x => (ev F i ρ).bind fun y => ixD x y := by rw [ev]
@[simp] theorem ev_sl (a lo hi : CE) : ev F (.sl a lo hi) ρ = (pk a ρ (ev F a ρ)).bind fun x => (partC lo (ev F lo ρ).toD).bind fun l => (partC hi (ev F hi ρ).toD).bind fun h => slD x l h := by rw [ev]
@[simp] theorem ev_call (f : Nat) (es : List CE) : ev F (.call f es) ρ = (evs F es ρ).bind fun ds => F f ds := by rw [ev]
@[simp] theorem ev_blt (b : Blt) (es : List CE) : ev F (.blt b es) ρ = (evp F es ρ).bind fun rs => bltD b rs := by rw [ev]
@[simp] theorem ev_isI (a : CE) (t : Ty) : ev F (.isI a t) ρ = (pk a ρ (ev F a ρ)).bind fun x => (isTy t x.toD).bind fun b => boolR b := by rw [ev]
@[simp] theorem ev_comp (elt : CE) (tg : Tg) (k : IK) (a b : CE) (ifs : List CE) (own : List Nat) : ev F (.comp elt tg k a b ifs own) ρ = (ev F a ρ).bind fun x => (ev F b ρ).bind fun y => (itD k (.d x.toD) (.d y.toD)).bind fun ds =>
      (compD tg (evc F ifs) (evT F elt) (wipeE ρ own) ds).bind fun r => .ok (.o r) := by rw [ev] <;> rfl
@[simp] theorem evs_nil : evs F [] ρ = .ok [] := by rw [evs]
@[simp] theorem evs_cons (e : CE) (es : List CE) : evs F (e :: es) ρ = (ev F e ρ).toD.bind fun d => (evs F es ρ).bind fun ds => .ok (d :: ds) := by rw [evs]
@[simp] theorem evp_nil : evp F [] ρ = .ok [] := by rw [evp]
@[simp] theorem evp_cons (e : CE) (es : List CE) : evp F (e :: es) ρ = (pk e ρ (ev F e ρ)).bind fun d => (evp F es ρ).bind fun ds => .ok (d :: ds) := by rw [evp]
@[simp] theorem evc_nil : evc F [] ρ = .ok true := by rw [evc]
@[simp] theorem evc_cons (e : CE) (es : List CE) : evc F (e :: es) ρ = (pk e ρ (ev F e ρ)).bind fun r => truthy r := by rw [evc]
@[simp] theorem pk_var (i : Nat) (m : M R) : pk (.var i) ρ m = getP ρ i := rfl
@[simp] theorem pk_con (d : D) (m : M R) : pk (.con d) ρ m = m := rfl
@[simp] theorem pk_bin (op : Operator) (a b : CE) (m : M R) : pk (.bin op a b) ρ m = m := rfl
@[simp] theorem pk_neg (a : CE) (m : M R) : pk (.neg a) ρ m = m := rfl
@[simp] theorem pk_cmp (op : CmpOp) (a b : CE) (m : M R) : pk (.cmp op a b) ρ m = m := rfl
@[simp] theorem pk_chain (op op' : CmpOp) (a b c : CE) (m : M R) : pk (.chain op op' a b c) ρ m = m := rfl
@[simp] theorem pk_chain3 (op op' op2 : CmpOp) (a b c d : CE) (m : M R) : pk (.chain3 op op' op2 a b c d) ρ m = m := rfl
@[simp] theorem pk_meth (f : Mth) (a : CE) (es : List CE) (m : M R) : pk (.meth f a es) ρ m = m := rfl
@[simp] theorem pk_and (a b : CE) (m : M R) : pk (.and a b) ρ m = m := rfl
@[simp] theorem pk_or (a b : CE) (m : M R) : pk (.or a b) ρ m = m := rfl
@[simp] theorem pk_not (a : CE) (m : M R) : pk (.not a) ρ m = m := rfl
@[simp] theorem pk_tup (a : List CE) (m : M R) : pk (.tup a) ρ m = m := rfl
@[simp] theorem pk_lst (a : List CE) (m : M R) : pk (.lst a) ρ m = m := rfl
@[simp] theorem pk_ix (a b : CE) (m : M R) : pk (.ix a b) ρ m = m := rfl
@[simp] theorem pk_sl (a b c : CE) (m : M R) : pk (.sl a b c) ρ m = m := rfl
@[simp] theorem pk_call (f : Nat) (a : List CE) (m : M R) : pk (.call f a) ρ m = m := rfl
@[simp] theorem pk_blt (f : Blt) (a : List CE) (m : M R) : pk (.blt f a) ρ m = m := rfl
@[simp] theorem pk_isI (a : CE) (t : Ty) (m : M R) : pk (.isI a t) ρ m = m := rfl
@[simp] theorem pk_isE (a : Nat) (t : List Nat) (m : M R) : pk (.isE a t) ρ m = m := rfl
@[simp] theorem pk_comp (elt : CE) (tg : Tg) (k : IK) (a b : CE) (ifs : List CE) (own : List Nat) (m : M R) : pk (.comp elt tg k a b ifs own) ρ m = m := rfl
@[simp] theorem itf_eq (k : IK) (a b : CE) : itf F k a b ρ = (ev F a ρ).bind fun x => (ev F b ρ).bind fun y => itD k (.d x.toD) (.d y.toD) := rfl
@[simp] theorem setT_name (i : Nat) (d : D) : setT (.name i) d ρ = some (ρ.set i (.val d)) := by rw [setT]
@[simp] theorem setT_tup (ts : List Tg) (ds : List D) : setT (.tup ts) (.tuple ds) ρ = setTs ts ds ρ := by rw [setT]
@[simp] theorem setTs_nil : setTs [] [] ρ = some ρ := by rw [setTs]
@[simp] theorem setTs_cons (t : Tg) (ts : List Tg) (d : D) (ds : List D) : setTs (t :: ts) (d :: ds) ρ = (setT t d ρ).bind fun ρ' => setTs ts ds ρ' := by rw [setTs]
@[simp] theorem getV_eq (i : Nat) : getV ρ i = (match ρ.getD i .no with | .val d => .ok (.d d) | _ => .no) := rfl
@[simp] theorem getP_eq (i : Nat) : getP ρ i = (match ρ.getD i .no with | .val d => .ok (.d d) | .own ds => .ok (.o ds) | _ => .no) := rfl
end
@[simp] theorem store_d (keep : Bool) (x : D) : store keep (.d x) = .val x := by cases keep <;> rfl
@[simp] theorem store_ko (x : List D) : store true (.o x) = .own x := rfl
@[simp] theorem store_no (x : List D) : store false (.o x) = .val (.list x) := rfl
@[simp] theorem wipeE_nil (ρ : PF.Env) : wipeE ρ [] = ρ := rfl
@[simp] theorem wipeE_cons (ρ : PF.Env) (v : Nat) (vs : List Nat) : wipeE ρ (v :: vs) = (wipeE ρ vs).set v .no := rfl
@[simp] theorem fin_nx (ρ : PF.Env) : (Ctl.nx ρ).fin = .ok (.d .none) := rfl
@[simp] theorem fin_rt (r : R) : (Ctl.rt r).fin = .ok r := rfl
@[simp] theorem fin_ex (c : Nat) (ρ : PF.Env) : (Ctl.ex c ρ).fin = .ex c := rfl
@[simp] theorem boolR_eq (b : Bool) : boolR b = .ok (.d (.bool b)) := rfl
@[simp] theorem truthy_b (b : Bool) : truthy (.d (.bool b)) = .ok b := rfl
@[simp] theorem truthy_i (i : Int) : truthy (.d (.int i)) = .ok (i != 0) := rfl
@[simp] theorem truthy_n : truthy (.d .none) = .ok false := rfl
@[simp] theorem truthy_l (xs : List D) : truthy (.d (.list xs)) = .ok (!xs.isEmpty) := rfl
@[simp] theorem truthy_t (xs : List D) : truthy (.d (.tuple xs)) = .ok (!xs.isEmpty) := rfl
@[simp] theorem truthy_o (xs : List D) : truthy (.o xs) = .ok (!xs.isEmpty) := rfl
/-- ifs of results -/
@[simp] theorem bind_ite {α β : Type} (c : Prop) [Decidable c] (a b : M α) (f : α → M β) : (if c then a else b).bind f = if c then a.bind f else b.bind f := by split <;> rfl
@[simp] theorem ctl_ite {α : Type} (c : Prop) [Decidable c] (a b : M α) (ρ : PF.Env) (f : α → Ctl) : (if c then a else b).ctl ρ f = if c then a.ctl ρ f else b.ctl ρ f := by split <;> rfl
@[simp] theorem seq_ite (c : Prop) [Decidable c] (a b : Ctl) (f : PF.Env → Ctl) : (if c then a else b).seq f = if c then a.seq f else b.seq f := by split <;> rfl
@[simp] theorem toD_ite (c : Prop) [Decidable c] (a b : M R) : (if c then a else b).toD = if c then a.toD else b.toD := by split <;> rfl
@[simp] theorem fin_ite (c : Prop) [Decidable c] (a b : Ctl) : (if c then a else b).fin = if c then a.fin else b.fin := by split <;> rfl
@[simp] theorem oknb_ite (c : Prop) [Decidable c] (a b : Bool) : (if c then (M.ok (R.d (.bool a))) else .ok (.d (.bool b))) = .ok (.d (.bool (if c then a else b))) := by split <;> rfl
@[simp] theorem nx_ite (c : Prop) [Decidable c] (a b : PF.Env) : (if c then Ctl.nx a else .nx b) = .nx (if c then a else b) := by split <;> rfl
@[simp] theorem env_ite (c : Prop) [Decidable c] (a b : Sl) (l m : PF.Env) : (if c then a :: l else b :: m) = (if c then a else b) :: (if c then l else m) := by split <;> rfl
@[simp] theorem val_ite (c : Prop) [Decidable c] (a b : D) : (if c then Sl.val a else .val b) = .val (if c then a else b) := by split <;> rfl
@[simp] theorem int_ite (c : Prop) [Decidable c] (a b : Int) : (if c then PyData.int a else .int b) = .int (if c then a else b) := by split <;> rfl
@[simp] theorem okint_ite (c : Prop) [Decidable c] (a b : Int) : (if c then M.ok (R.d (.int a)) else .ok (R.d (.int b))) = .ok (R.d (.int (if c then a else b))) := by split <;> rfl
/-- a comprehension over coded things -/
theorem compD_map {α : Type} {tg : Tg} {t : PF.Env → M Bool} {e : PF.Env → M D} {ρ : PF.Env} (enc : α → D) (p : α → Bool) (f : α → D) :
    ∀ (xs : List α), (∀ x ∈ xs, ∃ ρ', setT tg (enc x) ρ = some ρ' ∧ t ρ' = .ok (p x) ∧ (p x = true → e ρ' = .ok (f x))) → compD tg t e ρ (xs.map enc) = .ok ((xs.filter p).map f)
  | [], _ => rfl
  | x :: xs, h => by
    obtain ⟨ρ', h1, h2, h3⟩ := h x (by simp)
    have ih := compD_map enc p f xs fun y hy => h y (by simp [hy])
    simp only [List.map_cons, compD, h1, M.opt_some, M.bind_ok, h2, M.noex_ok, ih]
    cases q : p x with
    | true => simp [h3 q, q]
    | false => simp [q]
theorem compD_map1 {α : Type} {tg : Tg} {t : PF.Env → M Bool} {e : PF.Env → M D} {ρ : PF.Env} (enc : α → D) (f : α → D) (xs : List α) (h : ∀ x ∈ xs, ∃ ρ', setT tg (enc x) ρ = some ρ' ∧ t ρ' = .ok true ∧ e ρ' = .ok (f x)) :
    compD tg t e ρ (xs.map enc) = .ok (xs.map f) := by
  have := compD_map (t := t) (e := e) (ρ := ρ) (tg := tg) enc (fun _ => true) f xs fun x hx => by
    obtain ⟨ρ', h1, h2, h3⟩ := h x hx
    exact ⟨ρ', h1, h2, fun _ => h3⟩
  rw [this, List.filter_eq_self.2 fun _ _ => rfl]
/-- a for over coded things that goes its way: an invariant of what is done -/
theorem forD_inv' {α : Type} {tg : Tg} {b : PF.Env → Ctl} (enc : α → D) (I : List α → PF.Env → Prop) (all : List α)
    (go : ∀ done x rest ρ, all = done ++ x :: rest → I done ρ → ∃ ρ1 ρ2, setT tg (enc x) ρ = some ρ1 ∧ (b ρ1 = .nx ρ2 ∨ b ρ1 = .ct ρ2) ∧ I (done ++ [x]) ρ2) :
    ∀ (xs done : List α) (ρ : PF.Env), all = done ++ xs → I done ρ → ∃ ρ', forD tg b (xs.map enc) ρ = .nx ρ' ∧ I all ρ'
  | [], done, ρ, e, h => ⟨ρ, rfl, by rw [e]; simpa using h⟩
  | x :: xs, done, ρ, e, h => by
    obtain ⟨ρ1, ρ2, h1, h2, h3⟩ := go done x xs ρ e h
    obtain ⟨ρ', h4, h5⟩ := forD_inv' enc I all go xs (done ++ [x]) ρ2 (by rw [e]; simp) h3
    refine ⟨ρ', ?_, h5⟩
    simp only [List.map_cons, forD, h1, optC_some]
    rcases h2 with h2 | h2 <;> simp [h2, h4]
theorem forD_inv {α : Type} {tg : Tg} {b : PF.Env → Ctl} (enc : α → D) (I : List α → PF.Env → Prop) (xs : List α) (ρ : PF.Env) (h0 : I [] ρ)
    (go : ∀ done x rest ρ, xs = done ++ x :: rest → I done ρ → ∃ ρ1 ρ2, setT tg (enc x) ρ = some ρ1 ∧ (b ρ1 = .nx ρ2 ∨ b ρ1 = .ct ρ2) ∧ I (done ++ [x]) ρ2) :
    ∃ ρ', forD tg b (xs.map enc) ρ = .nx ρ' ∧ I xs ρ' := forD_inv' enc I xs go xs [] ρ rfl h0
theorem range_at {n : Nat} {done rest : List Nat} {x : Nat} (h : List.range n = done ++ x :: rest) : done.length = x ∧ x < n := by
  have h1 : (List.range n)[done.length]? = some x := by rw [h]; simp
  have h2 := List.getElem?_eq_some_iff.mp h1
  obtain ⟨l, e⟩ := h2
  simp at l e
  omega
end PF

end

section
/-! P2: works in types; is_works. -/
namespace PF
open PySem PySem.Spec
structure Sw where
  v : Int
  up : Bool
  mark : Int
  to : Int
structure Md where
  rates : List Int
  sws : List Sw
structure Wk where
  brims : List Int
  modes : List Md
  at_ : Int
  levels : List Int
def encI (xs : List Int) : D := .tuple (xs.map .int)
def wayD (b : Bool) : D := .str (if b = true then "up" else "down")
def encS (s : Sw) : D := .tuple [.int s.v, wayD s.up, .int s.mark, .int s.to]
def encM (m : Md) : D := .tuple [encI m.rates, .tuple (m.sws.map encS)]
def encW (w : Wk) : D := .tuple [encI w.brims, .tuple (w.modes.map encM), .tuple [.int w.at_, encI w.levels]]
@[simp] theorem atI_map {α : Type} (f : α → D) (xs : List α) (i : Int) : L2.atI (xs.map f) i = (L2.atI xs i).map f := by
  unfold L2.atI
  rw [List.length_map]
  cases L2.ixN xs.length i <;> simp
theorem atI_pos {α : Type} {xs : List α} {i : Int} {d : α} (h : 0 ≤ i) (h2 : i < xs.length) : L2.atI xs i = some (xs.getD i.toNat d) := by
  unfold L2.atI L2.ixN
  rw [if_pos h, if_pos h2]
  have : i.toNat < xs.length := by omega
  simp [List.getD_eq_getElem?_getD, List.getElem?_eq_getElem this]
@[simp] theorem atI_0 {α : Type} (a : α) (xs : List α) : L2.atI (a :: xs) 0 = some a := by
  unfold L2.atI L2.ixN
  simp <;> omega
theorem atI_nat' {α : Type} (xs : List α) (n : Nat) : L2.atI xs (n : Int) = xs[n]? := by
  unfold L2.atI L2.ixN
  rw [if_pos (by omega)]
  split
  · simp
  · rename_i h
    have : xs.length ≤ n := by omega
    simp [List.getElem?_eq_none this]
@[simp] theorem atI_1 {α : Type} (a b : α) (xs : List α) : L2.atI (a :: b :: xs) 1 = some b := atI_nat' (a :: b :: xs) 1
@[simp] theorem atI_2 {α : Type} (a b c : α) (xs : List α) : L2.atI (a :: b :: c :: xs) 2 = some c := atI_nat' (a :: b :: c :: xs) 2
@[simp] theorem atI_3 {α : Type} (a b c d : α) (xs : List α) : L2.atI (a :: b :: c :: d :: xs) 3 = some d := atI_nat' (a :: b :: c :: d :: xs) 3
@[simp] theorem ixD_t (xs : List D) (i : Int) : ixD (.d (.tuple xs)) (.d (.int i)) = (M.opt (L2.atI xs i)).bind fun d => .ok (.d d) := rfl
@[simp] theorem ixD_l (xs : List D) (i : Int) : ixD (.d (.list xs)) (.d (.int i)) = (M.opt (L2.atI xs i)).bind fun d => .ok (.d d) := rfl
@[simp] theorem ixD_o (xs : List D) (i : Int) : ixD (.o xs) (.d (.int i)) = (M.opt (L2.atI xs i)).bind fun d => .ok (.d d) := rfl
@[simp] theorem len_t (xs : List D) : bltD .len [.d (.tuple xs)] = .ok (.d (.int xs.length)) := rfl
@[simp] theorem len_l (xs : List D) : bltD .len [.d (.list xs)] = .ok (.d (.int xs.length)) := rfl
@[simp] theorem len_o (xs : List D) : bltD .len [.o xs] = .ok (.d (.int xs.length)) := rfl
@[simp] theorem tuple_o (xs : List D) : bltD .tuple [.o xs] = .ok (.d (.tuple xs)) := rfl
@[simp] theorem tuple_l (xs : List D) : bltD .tuple [.d (.list xs)] = .ok (.d (.tuple xs)) := rfl
@[simp] theorem add_i (i j : Int) : binD .Add (.d (.int i)) (.d (.int j)) = .ok (.d (.int (i + j))) := rfl
@[simp] theorem sub_i (i j : Int) : binD .Sub (.d (.int i)) (.d (.int j)) = .ok (.d (.int (i - j))) := rfl
theorem shaped_i (i : Int) : SeqAt.shaped (.int i) = true := rfl
@[simp] theorem eq_i (i j : Int) : cmpD .Eq (.d (.int i)) (.d (.int j)) = .ok (.d (.bool (decide (i = j)))) := by
  show M.chk (SeqAt.shaped (.int i) = true ∧ SeqAt.shaped (.int j) = true) (boolR (i == j)) = _
  rw [M.chk_pos ⟨rfl, rfl⟩, boolR_eq]
  rfl
@[simp] theorem ne_i (i j : Int) : cmpD .NotEq (.d (.int i)) (.d (.int j)) = .ok (.d (.bool (!decide (i = j)))) := by
  show M.chk (SeqAt.shaped (.int i) = true ∧ SeqAt.shaped (.int j) = true) (boolR (!(i == j))) = _
  rw [M.chk_pos ⟨rfl, rfl⟩, boolR_eq]
  rfl
@[simp] theorem lt_i (i j : Int) : cmpD .Lt (.d (.int i)) (.d (.int j)) = .ok (.d (.bool (decide (i < j)))) := rfl
@[simp] theorem le_i (i j : Int) : cmpD .LtE (.d (.int i)) (.d (.int j)) = .ok (.d (.bool (decide (i ≤ j)))) := rfl
@[simp] theorem gt_i (i j : Int) : cmpD .Gt (.d (.int i)) (.d (.int j)) = .ok (.d (.bool (decide (j < i)))) := rfl
@[simp] theorem ge_i (i j : Int) : cmpD .GtE (.d (.int i)) (.d (.int j)) = .ok (.d (.bool (decide (j ≤ i)))) := rfl
@[simp] theorem isTy_tt (xs : List D) : isTy .tuple (.tuple xs) = .ok true := rfl
@[simp] theorem isTy_ss (x : Str) : isTy .str (.str x) = .ok true := rfl
@[simp] theorem isTy_ii (x : Int) : isTy .int (.int x) = .ok true := rfl
@[simp] theorem isTy_bi (x : Int) : isTy .bool (.int x) = .ok false := rfl
@[simp] theorem seqD_t (xs : List D) : seqD (.d (.tuple xs)) = .ok xs := rfl
@[simp] theorem seqD_l (xs : List D) : seqD (.d (.list xs)) = .ok xs := rfl
@[simp] theorem itD_seq (a b : R) : itD .seq a b = (match seqD a with
    | .ok xs => .ok xs
    | .ex c => .ex c
    | .no => charsD a) := rfl
@[simp] theorem itD_enum (a b : R) : itD .enum a b = (seqD a).bind fun xs => .ok (enumD xs) := rfl
@[simp] theorem encI_ty (xs : List Int) : isTy .tuple (encI xs) = .ok true := rfl
@[simp] theorem encI_len (xs : List Int) : bltD .len [.d (encI xs)] = .ok (.d (.int xs.length)) := by
  show M.ok (R.d (PyData.int ((xs.map PyData.int).length : Nat))) = _
  rw [List.length_map]
@[simp] theorem encI_ix (xs : List Int) (i : Int) : ixD (.d (encI xs)) (.d (.int i)) = (M.opt (L2.atI xs i)).bind fun x => .ok (.d (.int x)) := by
  show (M.opt (L2.atI (xs.map PyData.int) i)).bind _ = _
  rw [atI_map]
  cases L2.atI xs i <;> rfl
@[simp] theorem encI_seq (xs : List Int) : seqD (.d (encI xs)) = .ok (xs.map .int) := rfl
@[simp] theorem encS_ty (s : Sw) : isTy .tuple (encS s) = .ok true := rfl
@[simp] theorem encS_len (s : Sw) : bltD .len [.d (encS s)] = .ok (.d (.int 4)) := rfl
@[simp] theorem encS_0 (s : Sw) : ixD (.d (encS s)) (.d (.int 0)) = .ok (.d (.int s.v)) := rfl
@[simp] theorem encS_1 (s : Sw) : ixD (.d (encS s)) (.d (.int 1)) = .ok (.d (wayD s.up)) := rfl
@[simp] theorem encS_2 (s : Sw) : ixD (.d (encS s)) (.d (.int 2)) = .ok (.d (.int s.mark)) := rfl
@[simp] theorem encS_3 (s : Sw) : ixD (.d (encS s)) (.d (.int 3)) = .ok (.d (.int s.to)) := rfl
@[simp] theorem encS_set (s : Sw) (ts : List Tg) (ρ : PF.Env) : setT (.tup ts) (encS s) ρ = setTs ts [.int s.v, wayD s.up, .int s.mark, .int s.to] ρ := setT_tup ρ _ _
@[simp] theorem encM_ty (m : Md) : isTy .tuple (encM m) = .ok true := rfl
@[simp] theorem encM_len (m : Md) : bltD .len [.d (encM m)] = .ok (.d (.int 2)) := rfl
@[simp] theorem encM_0 (m : Md) : ixD (.d (encM m)) (.d (.int 0)) = .ok (.d (encI m.rates)) := rfl
@[simp] theorem encM_1 (m : Md) : ixD (.d (encM m)) (.d (.int 1)) = .ok (.d (.tuple (m.sws.map encS))) := rfl
@[simp] theorem encM_set (m : Md) (ts : List Tg) (ρ : PF.Env) : setT (.tup ts) (encM m) ρ = setTs ts [encI m.rates, .tuple (m.sws.map encS)] ρ := setT_tup ρ _ _
@[simp] theorem encW_ty (w : Wk) : isTy .tuple (encW w) = .ok true := rfl
@[simp] theorem encW_len (w : Wk) : bltD .len [.d (encW w)] = .ok (.d (.int 3)) := rfl
@[simp] theorem encW_0 (w : Wk) : ixD (.d (encW w)) (.d (.int 0)) = .ok (.d (encI w.brims)) := rfl
@[simp] theorem encW_1 (w : Wk) : ixD (.d (encW w)) (.d (.int 1)) = .ok (.d (.tuple (w.modes.map encM))) := rfl
@[simp] theorem encW_2 (w : Wk) : ixD (.d (encW w)) (.d (.int 2)) = .ok (.d (.tuple [.int w.at_, encI w.levels])) := rfl
@[simp] theorem encW_set (w : Wk) (ts : List Tg) (ρ : PF.Env) : setT (.tup ts) (encW w) ρ = setTs ts [encI w.brims, .tuple (w.modes.map encM), .tuple [.int w.at_, encI w.levels]] ρ := setT_tup ρ _ _
@[simp] theorem wayD_str (b : Bool) : isTy .str (wayD b) = .ok true := rfl
@[simp] theorem is_within_ok {k : Nat} (x a b : Int) : runF tab (k + 1) i_is_within [.int x, .int a, .int b] = .ok (.d (.bool (decide (a ≤ x ∧ x ≤ b)))) := by
  rw [runF_of tab_is_within rfl]
  simp [f_is_within, startE]
theorem filt_all {α : Type} (xs : List α) (p : α → Bool) (f : α → D) : ((xs.filter fun x => !p x).map f).isEmpty = xs.all p := by
  induction xs with
  | nil => rfl
  | cons x r ih =>
    cases q : p x <;> simp [q] at *
    exact ih
@[simp] theorem are_numbers_ok {k : Nat} (xs : List Int) (a b : Int) : runF tab (k + 2) i_are_numbers [encI xs, .int a, .int b] = .ok (.d (.bool (decide (∀ x ∈ xs, a ≤ x ∧ x ≤ b)))) := by
  rw [runF_of tab_are_numbers rfl]
  simp [f_are_numbers, startE]
  rw [compD_map (fun x => .int x) (fun x => !decide (a ≤ x ∧ x ≤ b)) (fun x => .int x) xs]
  · simp only [M.bind_ok, truthy_o, filt_all, M.ctl_ok, Ctl.seq_rt, fin_rt, Bool.not_not]
    congr 3
    simp [List.all_eq]
  · intro x hx
    simp [is_within_ok]
@[simp] theorem up_way : PyData.str ("up" : Str) = wayD true := rfl
@[simp] theorem down_way : PyData.str ("down" : Str) = wayD false := rfl
@[simp] theorem eq_way (a b : Bool) : cmpD .Eq (.d (wayD a)) (.d (wayD b)) = .ok (.d (.bool (a == b))) := by
  cases a <;> cases b <;> exact (M.chk_pos ⟨by decide +kernel, by decide +kernel⟩).trans (by rw [boolR_eq]; congr 3)
@[simp] theorem ix_way (a b c : Bool) : ixD (.o [wayD a, wayD b]) (.d (.int (if c = true then 1 else 0))) = .ok (.d (wayD (if c = true then b else a))) := by cases c <;> rfl
@[simp] theorem wayD_in (b : Bool) : cmpD .NotIn (.d (wayD b)) (.d (.tuple [wayD true, wayD false])) = .ok (.d (.bool false)) := by
  cases b
  · exact (M.chk_pos ⟨rfl, rfl⟩).trans rfl
  · exact (M.chk_pos ⟨rfl, rfl⟩).trans rfl
def okS (brims : List Int) (many : Int) (s : Sw) : Prop := (0 ≤ s.v ∧ s.v ≤ brims.length - 1) ∧ (0 ≤ s.mark ∧ s.mark ≤ brims.getD s.v.toNat 0) ∧ (0 ≤ s.to ∧ s.to ≤ many - 1)
instance (brims : List Int) (many : Int) (s : Sw) : Decidable (okS brims many s) := by unfold okS; exact inferInstance
def okM (brims : List Int) (many : Int) (m : Md) : Prop := (∀ r ∈ m.rates, -99 ≤ r ∧ r ≤ 99) ∧ m.rates.length = brims.length ∧ m.sws.length ≤ 6 ∧ ∀ s ∈ m.sws, okS brims many s
instance (brims : List Int) (many : Int) (m : Md) : Decidable (okM brims many m) := by unfold okM; exact inferInstance
def okW (w : Wk) : Prop := (∀ b ∈ w.brims, 1 ≤ b ∧ b ≤ 999) ∧ (1 ≤ w.brims.length ∧ w.brims.length ≤ 4) ∧ (1 ≤ w.modes.length ∧ w.modes.length ≤ 12) ∧ (∀ m ∈ w.modes, okM w.brims w.modes.length m) ∧ (0 ≤ w.at_ ∧ w.at_ ≤ w.modes.length - 1) ∧
  (∀ l ∈ w.levels, 0 ≤ l ∧ l ≤ 999) ∧ w.levels.length = w.brims.length ∧ ∀ i ∈ List.range w.brims.length, w.levels.getD i 0 ≤ w.brims.getD i 0
instance (w : Wk) : Decidable (okW w) := by unfold okW; exact inferInstance
theorem beq_of_iff {a b : Bool} (h : a = true ↔ b = true) : a = b := Bool.eq_iff_iff.mpr h
theorem okb {a b : Bool} (h : a = true ↔ b = true) : (M.ok (R.d (.bool a)) : M R) = .ok (.d (.bool b)) := by rw [beq_of_iff h]
@[simp] theorem is_switch_ok {k : Nat} (s : Sw) (brims : List Int) (many : Int) : runF tab (k + 2) i_is_switch [encS s, encI brims, .int many] = .ok (.d (.bool (decide (okS brims many s)))) := by
  rw [runF_of tab_is_switch rfl]
  by_cases h : 0 ≤ s.v ∧ s.v ≤ brims.length - 1
  · have e := atI_pos (d := (0 : Int)) (xs := brims) h.1 (by omega)
    simp [f_is_switch, startE, h, e, okS]
    grind
  · simp [f_is_switch, startE, h, okS]
@[simp] theorem is_mode_ok {k : Nat} (m : Md) (brims : List Int) (many : Int) : runF tab (k + 3) i_is_mode [encM m, encI brims, .int many] = .ok (.d (.bool (decide (okM brims many m)))) := by
  rw [runF_of tab_is_mode rfl]
  simp [f_is_mode, startE, okM]
  rw [compD_map encS (fun s => !decide (okS brims many s)) encS]
  · simp only [M.bind_ok, truthy_o, filt_all, M.ctl_ok, Ctl.seq_rt, fin_rt, Bool.not_not]
    simp
    grind
  · intro x hx
    simp
theorem all_range {n : Nat} {p : Nat → Prop} [DecidablePred p] : ((List.range n).all fun i => decide (p i)) = true ↔ ∀ i, i < n → p i := by simp
theorem sizeLine_big : (1000000 : Nat) ≤ sizeLine := by rw [sizeLine_eq]; omega
theorem rngD_nat {n : Nat} (h : n ≤ 1000000) : rngD 0 (n : Int) = .ok ((List.range n).map fun (i : Nat) => PyData.int (i : Int)) := by
  unfold rngD
  have := sizeLine_big
  rw [M.chk_pos (by simp; omega)]
  simp
@[simp] theorem itD_rng1 (j : Int) (b : R) : itD .rng1 (.d (.int j)) b = rngD 0 j := by
  have e : ∀ x : M (List D), x = rngD 0 j → itD .rng1 (.d (.int j)) b = x := fun x h => h ▸ rfl
  exact e _ rfl
@[simp] theorem is_works_ok {k : Nat} (w : Wk) : runF tab (k + 4) i_is_works [encW w] = .ok (.d (.bool (decide (okW w)))) := by
  rw [runF_of tab_is_works rfl]
  by_cases h : w.brims.length ≤ 4
  · simp [f_is_works, startE]
    rw [compD_map encM (fun s => !decide (okM w.brims w.modes.length s)) encM]
    · simp only [M.bind_ok, truthy_o, filt_all, M.ctl_ok, Ctl.seq_rt, fin_rt, Bool.not_not]
      by_cases h2 : w.levels.length = w.brims.length
      · simp [rngD_nat (show w.brims.length ≤ 1000000 by omega)]
        rw [compD_map (fun (i : Nat) => PyData.int (i : Int)) (fun i => !decide (w.levels.getD i 0 ≤ w.brims.getD i 0)) (fun (i : Nat) => PyData.int (i : Int))]
        · simp only [M.bind_ok, truthy_o, filt_all, M.ctl_ok, Ctl.seq_rt, fin_rt, Bool.not_not]
          simp
          apply beq_of_iff
          simp [okW, h2]
          grind
        · intro i hi
          have hi : i < w.brims.length := by simpa using hi
          have hi2 : i < w.levels.length := by omega
          simp [atI_nat', hi, hi2]
          grind
      · have h3 : ¬ okW w := fun z => h2 z.2.2.2.2.2.2.1
        have h4 : ¬ ((w.levels.length : Int) = w.brims.length) := by omega
        simp [h4, h3]
    · intro x hx
      simp
  · have h3 : ¬ okW w := fun z => h z.2.1.2
    have h4 : ¬ ((w.brims.length : Int) ≤ 4) := by omega
    simp [f_is_works, startE, h4, h3]
theorem checked_ok {k : Nat} (w : Wk) : runF tab (k + 5) i_checked [encW w] = if okW w then .ok (.d (encW w)) else .ex x_BadWorks := by
  rw [runF_of tab_checked rfl]
  simp [f_checked, startE]
end PF

end

section
/-! P3: the law's drawing of works. -/
namespace PF
open PySem PySem.Spec
theorem binD_mul (i j : Int) : binD .Mult (.d (.int i)) (.d (.int j)) = M.chk (CMulA i j) (.ok (.d (.int (i * j)))) := rfl
theorem binD_mod (i j : Int) : binD .Mod (.d (.int i)) (.d (.int j)) = M.chk (0 < j) (.ok (.d (.int (i % j)))) := rfl
theorem binD_div (i j : Int) : binD .FloorDiv (.d (.int i)) (.d (.int j)) = M.chk (CDivM i j) (.ok (.d (.int (i.fdiv j)))) := rfl
theorem binD_pow (i j : Int) : binD .Pow (.d (.int i)) (.d (.int j)) = M.chk (L2.CPow i j) (.ok (.d (.int (i ^ j.toNat)))) := rfl
@[simp] theorem mul_r {i j : Int} (h1 : -18446744073709551616 < j) (h2 : j < 18446744073709551616) : binD .Mult (.d (.int i)) (.d (.int j)) = .ok (.d (.int (i * j))) := by
  rw [binD_mul, M.chk_pos (.inl (.inr ⟨by omega, by omega⟩))]
@[simp] theorem mul_l {i j : Int} (h1 : -18446744073709551616 < i) (h2 : i < 18446744073709551616) : binD .Mult (.d (.int i)) (.d (.int j)) = .ok (.d (.int (i * j))) := by
  rw [binD_mul, M.chk_pos (.inl (.inl ⟨by omega, by omega⟩))]
@[simp] theorem mod_r {i j : Int} (h : 0 < j) : binD .Mod (.d (.int i)) (.d (.int j)) = .ok (.d (.int (i % j))) := by
  rw [binD_mod, M.chk_pos h]
theorem div_r {i j : Int} (h : 0 < j) (h2 : j < 18446744073709551616) : binD .FloorDiv (.d (.int i)) (.d (.int j)) = .ok (.d (.int (i / j))) := by
  have l : j.natAbs.log2 < 64 := (Nat.log2_lt (by omega)).2 (by omega)
  rw [binD_div, M.chk_pos ⟨by omega, by omega⟩, Int.fdiv_eq_ediv_of_nonneg i (by omega)]
theorem pow_3 {i : Int} (h1 : 0 ≤ i) (h2 : i < 18446744073709551616) : binD .Pow (.d (.int i)) (.d (.int 3)) = .ok (.d (.int (i ^ 3))) := by
  rw [binD_pow, M.chk_pos ⟨by omega, by omega, by omega⟩]
  rfl
def cellI (ns : List Int) (k : Int) : Int := ns.getD k.toNat 0
abbrev encN (ns : List Int) : D := .list (ns.map .int)
theorem cell_ok {k : Nat} (ns : List Int) (i : Int) (h : 0 ≤ i) : runF tab (k + 1) i__law_cell [encN ns, .int i] = .ok (.d (.int (cellI ns i))) := by
  rw [runF_of tab__law_cell rfl]
  by_cases h2 : i < ns.length
  · have e := atI_pos (d := (0 : Int)) h h2
    simp [f__law_cell, startE, h2, e, cellI]
  · have e : cellI ns i = 0 := by
      unfold cellI
      rw [List.getD_eq_getElem?_getD, List.getElem?_eq_none (by omega)]
      rfl
    simp [f__law_cell, startE, h2, e]
@[simp] theorem max2_i (i j : Int) : bltD .max2 [.d (.int i), .d (.int j)] = .ok (.d (.int (max i j))) := by
  show M.ok (R.d (PyData.int (if j > i then j else i))) = _
  rw [show (if j > i then j else i) = max i j from by omega]
@[simp] theorem int_b (b : Bool) : bltD .int [.d (.bool b)] = .ok (.d (.int (if b = true then 1 else 0))) := rfl
theorem getD_mem {α : Type} {xs : List α} {i : Nat} {d : α} (h : i < xs.length) : xs.getD i d ∈ xs := by
  rw [List.getD_eq_getElem?_getD, List.getElem?_eq_getElem h]
  simp
/-- a switch of the first kind is drawn -/
@[simp] theorem shr_i (i j : Int) (h : 0 ≤ j) : binD .RShift (.d (.int i)) (.d (.int j)) = .ok (.d (.int (i / 2 ^ j.toNat))) := by
  show M.chk (0 ≤ j) (M.ok (R.d (PyData.int (i / 2 ^ j.toNat)))) = _
  rw [M.chk_pos h]
@[simp] theorem shl_1 (j : Int) (h : 0 ≤ j) (h2 : j ≤ 1000000) : binD .LShift (.d (.int 1)) (.d (.int j)) = .ok (.d (.int (2 ^ j.toNat))) := by
  show M.chk (L2.CPow 1 j) (M.ok (R.d (PyData.int (1 * 2 ^ j.toNat)))) = _
  rw [M.chk_pos ⟨h, h2, by decide⟩, Int.one_mul]
@[simp] theorem and_i (i j : Int) : binD .BitAnd (.d (.int i)) (.d (.int j)) = .ok (.d (.int (Builtin.bitAnd i j))) := rfl
@[simp] theorem and_0 : Builtin.bitAnd 0 1 = 0 := by decide +kernel
@[simp] theorem and_1 : Builtin.bitAnd 1 1 = 1 := by decide +kernel
@[simp] theorem and_2 : Builtin.bitAnd 2 1 = 0 := by decide +kernel
@[simp] theorem and_3 : Builtin.bitAnd 3 1 = 1 := by decide +kernel
theorem rng1_1 : rngD 0 1 = .ok [.int 0] := rngD_nat (n := 1) (by omega)
theorem rng1_2 : rngD 0 2 = .ok [.int 0, .int 1] := rngD_nat (n := 2) (by omega)
theorem rng1_4 : rngD 0 4 = .ok [.int 0, .int 1, .int 2, .int 3] := rngD_nat (n := 4) (by omega)
theorem forD_nil (tg : Tg) (b : PF.Env → Ctl) (ρ : PF.Env) : forD tg b [] ρ = .nx ρ := rfl
theorem forD_cons (tg : Tg) (b : PF.Env → Ctl) (d : D) (ds : List D) (ρ : PF.Env) : forD tg b (d :: ds) ρ = optC (setT tg d ρ) fun ρ1 => match b ρ1 with
    | .nx ρ2 => forD tg b ds ρ2
    | .ct ρ2 => forD tg b ds ρ2
    | .bk ρ2 => .nx ρ2
    | c => c := rfl
theorem compD_nil (tg : Tg) (t : PF.Env → M Bool) (e : PF.Env → M D) (ρ : PF.Env) : compD tg t e ρ [] = .ok [] := rfl
theorem compD_cons (tg : Tg) (t : PF.Env → M Bool) (e : PF.Env → M D) (ρ : PF.Env) (d : D) (ds : List D) : compD tg t e ρ (d :: ds) = (M.opt (setT tg d ρ)).bind fun ρ' => (M.noex (t ρ')).bind fun b =>
    if b = true then (M.noex (e ρ')).bind fun y => (compD tg t e ρ ds).bind fun r => .ok (y :: r) else compD tg t e ρ ds := rfl
@[simp] theorem fold_encI {α : Type} (g : α → Int) (l : List α) : PyData.tuple (l.map fun a => PyData.int (g a)) = encI (l.map g) := by simp [encI]
end PF

end

section
/-! P4: what may be compared; slices; more. -/
namespace PF
open PySem PySem.Spec PyProof.Rows L2
/-- data of little depth whose texts are ways: may be compared -/
theorem canLayAll_map {α : Type} (f : α → D) (xs : List α) (h : ∀ x ∈ xs, (f x).canLay0 = true) : PyData.canLayAll0 (xs.map f) = true := by
  induction xs with
  | nil => rfl
  | cons x r ih =>
    show ((f x).canLay0 && PyData.canLayAll0 (r.map f)) = true
    rw [h x (by simp), ih fun y hy => h y (by simp [hy])]
    rfl
theorem depthAll_le {α : Type} (f : α → D) (xs : List α) (n : Nat) (h : ∀ x ∈ xs, (f x).depth ≤ n) : PyData.depthAll (xs.map f) ≤ n := by
  induction xs with
  | nil => exact Nat.zero_le _
  | cons x r ih =>
    show max (f x).depth (PyData.depthAll (r.map f)) ≤ n
    have := h x (by simp)
    have := ih fun y hy => h y (by simp [hy])
    omega
/-- n: a bound of the depth -/
def Lay (n : Nat) (d : D) : Prop := d.canLay0 = true ∧ d.depth ≤ n
theorem Lay.shaped {n : Nat} {d : D} (h : Lay n d) (l : n ≤ 64) : SeqAt.shaped d = true := by
  unfold SeqAt.shaped
  rw [h.1, decide_eq_true (Nat.le_trans h.2 l)]
  rfl
theorem Lay.eqv {n : Nat} {d : D} (h : Lay n d) : PyData.eqv d d = true := PySem.SeqAt.eqv_refl d h.1
theorem Lay.mono {n m : Nat} {d : D} (h : Lay n d) (l : n ≤ m) : Lay m d := ⟨h.1, Nat.le_trans h.2 l⟩
theorem lay_i (i : Int) : Lay 0 (.int i) := ⟨rfl, Nat.le_refl _⟩
theorem lay_b (i : Bool) : Lay 0 (.bool i) := ⟨rfl, Nat.le_refl _⟩
theorem lay_way (b : Bool) : Lay 0 (wayD b) := by cases b <;> exact ⟨by decide +kernel, Nat.le_refl _⟩
theorem lay_tm {α : Type} {n : Nat} (f : α → D) (xs : List α) (h : ∀ x ∈ xs, Lay n (f x)) : Lay (n + 1) (.tuple (xs.map f)) :=
  ⟨canLayAll_map f xs fun x hx => (h x hx).1, Nat.succ_le_succ (depthAll_le f xs n fun x hx => (h x hx).2)⟩
theorem lay_lm {α : Type} {n : Nat} (f : α → D) (xs : List α) (h : ∀ x ∈ xs, Lay n (f x)) : Lay (n + 1) (.list (xs.map f)) :=
  ⟨canLayAll_map f xs fun x hx => (h x hx).1, Nat.succ_le_succ (depthAll_le f xs n fun x hx => (h x hx).2)⟩
theorem lay_t {n : Nat} (xs : List D) (h : ∀ x ∈ xs, Lay n x) : Lay (n + 1) (.tuple xs) := by
  have := lay_tm (fun d => d) xs h
  rwa [List.map_id'] at this
theorem lay_l {n : Nat} (xs : List D) (h : ∀ x ∈ xs, Lay n x) : Lay (n + 1) (.list xs) := by
  have := lay_lm (fun d => d) xs h
  rwa [List.map_id'] at this
theorem lay_I (xs : List Int) : Lay 1 (encI xs) := lay_tm _ xs fun x _ => lay_i x
theorem lay_S (s : Sw) : Lay 1 (encS s) := lay_t _ fun x hx => by
  simp at hx
  rcases hx with rfl | rfl | rfl | rfl
  · exact lay_i _
  · exact lay_way _
  · exact lay_i _
  · exact lay_i _
theorem lay_M (m : Md) : Lay 3 (encM m) := lay_t _ fun x hx => by
  simp at hx
  rcases hx with rfl | rfl
  · exact (lay_I _).mono (by omega)
  · exact lay_tm _ _ fun s _ => lay_S s
theorem lay_W (w : Wk) : Lay 5 (encW w) := lay_t _ fun x hx => by
  simp at hx
  rcases hx with rfl | rfl | rfl
  · exact (lay_I _).mono (by omega)
  · exact lay_tm _ _ fun s _ => lay_M s
  · refine Lay.mono (n := 2) (lay_t _ fun x hx => ?_) (by omega)
    simp at hx
    rcases hx with rfl | rfl
    · exact (lay_i _).mono (by omega)
    · exact lay_I _
theorem eq_lay {a b : R} {n m : Nat} (ha : Lay n a.toD) (hb : Lay m b.toD) (hn : n ≤ 64) (hm : m ≤ 64) : cmpD .Eq a b = .ok (.d (.bool (PyData.eqv a.toD b.toD))) := by
  show M.chk _ _ = _
  rw [M.chk_pos ⟨ha.shaped hn, hb.shaped hm⟩, boolR_eq]
theorem ne_lay {a b : R} {n m : Nat} (ha : Lay n a.toD) (hb : Lay m b.toD) (hn : n ≤ 64) (hm : m ≤ 64) : cmpD .NotEq a b = .ok (.d (.bool (!PyData.eqv a.toD b.toD))) := by
  show M.chk _ _ = _
  rw [M.chk_pos ⟨ha.shaped hn, hb.shaped hm⟩, boolR_eq]
theorem same_lay {a b : R} {n : Nat} (ha : Lay n a.toD) (e : a.toD = b.toD) (hn : n ≤ 64) : cmpD .Eq a b = .ok (.d (.bool true)) := by
  rw [eq_lay ha (e ▸ ha) hn hn, ← e, ha.eqv]
theorem notne_lay {a b : R} {n : Nat} (ha : Lay n a.toD) (e : a.toD = b.toD) (hn : n ≤ 64) : cmpD .NotEq a b = .ok (.d (.bool false)) := by
  rw [ne_lay ha (e ▸ ha) hn hn, ← e, ha.eqv]
  rfl
section
variable (F : Nat → List D → M R) (ρ : PF.Env)
@[simp] theorem exS_try (body : List CS) (row : List Bool) (slot : Option Nat) (suite : List CS) : exS F (.try body row slot suite) ρ = (match exB F body ρ with
    | .ex c ρ' => match row[c]? with
      | some true => unslot slot (exB F suite (match slot with
        | some i => ρ'.set i (.exc c)
        | none => ρ'))
      | some false => .ex c ρ'
      | none => .no
    | r => r) := by rw [exS] <;> rfl
@[simp] theorem ev_isE (i : Nat) (cs : List Nat) : ev F (.isE i cs) ρ = (match ρ.getD i .no with
    | .exc e => boolR (cs.contains e)
    | _ => .no) := by rw [ev] <;> rfl
end
@[simp] theorem unslot_rt (slot : Option Nat) (r : R) : unslot slot (.rt r) = .rt r := rfl
theorem exB_append (F : Nat → List D → M R) : ∀ (a b : List CS) (ρ : PF.Env), exB F (a ++ b) ρ = (exB F a ρ).seq (exB F b)
  | [], b, ρ => by simp
  | s :: a, b, ρ => by
    rw [List.cons_append, exB_cons, exB_cons]
    cases exS F s ρ <;> simp [exB_append F a b]
@[simp] theorem sl_enc (xs : List Int) (l h : Option Int) : slD (.d (encI xs)) l h = .ok (.d (.tuple (cutD (xs.map .int) l h))) := rfl
@[simp] theorem sl_t (xs : List D) (l h : Option Int) : slD (.d (.tuple xs)) l h = .ok (.d (.tuple (cutD xs l h))) := rfl
@[simp] theorem sl_W (w : Wk) (l h : Option Int) : slD (.d (encW w)) l h = .ok (.d (.tuple (cutD [encI w.brims, .tuple (w.modes.map encM), .tuple [.int w.at_, encI w.levels]] l h))) := rfl
@[simp] theorem cut_1 (x : D) (xs : List D) : cutD (x :: xs) (some 1) none = xs := by
  unfold cutD HT.sIx
  simp
@[simp] theorem partC_none (m : M D) : partC (.con .none) m = .ok none := rfl
@[simp] theorem partC_int (i : Int) (m : M D) : partC (.con (.int i)) m = m.bind partD := rfl
@[simp] theorem partD_int (i : Int) : partD (.int i) = .ok (some i) := rfl
theorem add_tt (xs ys : List D) : binD .Add (.d (.tuple xs)) (.d (.tuple ys)) = M.chk (xs.length + ys.length ≤ sizeLine) (.ok (.d (.tuple (xs ++ ys)))) := rfl
@[simp] theorem add_t1 (x : D) (ys : List D) (h : ys.length ≤ 1000) : binD .Add (.d (.tuple [x])) (.d (.tuple ys)) = .ok (.d (.tuple (x :: ys))) := by
  have := sizeLine_big
  rw [add_tt, M.chk_pos (by simp; omega)]
  rfl
def absI (i : Int) : Int := if i < 0 then -i else i
@[simp] theorem abs_i (i : Int) : bltD .abs [.d (.int i)] = .ok (.d (.int (absI i))) := rfl
theorem intsD_ints (xs : List Int) : intsD (xs.map PyData.int) = some xs := by
  induction xs with
  | nil => rfl
  | cons x r ih => simp [intsD, ih]
theorem max1_o (x : Int) (xs : List Int) : bltD .max1 [.o ((x :: xs).map PyData.int)] = .ok (.d (.int (xs.foldl max x))) := by
  show (M.opt (intsD ((x :: xs).map PyData.int))).bind maxI = _
  rw [intsD_ints]
  rfl
theorem max1_t (x : Int) (xs : List Int) : bltD .max1 [.d (encI (x :: xs))] = .ok (.d (.int (xs.foldl max x))) := by
  show (M.opt (intsD ((x :: xs).map PyData.int))).bind maxI = _
  rw [intsD_ints]
  rfl
theorem add_ll (xs ys : List D) (h : xs.length + ys.length ≤ 1000000) : binD .Add (.o xs) (.o ys) = .ok (.o (xs ++ ys)) := by
  show M.chk (xs.length + ys.length ≤ sizeLine) (M.ok (R.o (xs ++ ys))) = _
  have := sizeLine_big
  rw [M.chk_pos (by omega)]
theorem tt_eq : cmpD .Eq (.o [.bool true, .bool true]) (.o [.bool true, .bool true]) = .ok (.d (.bool true)) :=
  same_lay (n := 1) (lay_l _ fun x hx => by simp at hx; subst hx; exact lay_b _) rfl (by omega)
@[simp] theorem frzE_nil (ρ : PF.Env) : frzE [] ρ = ρ := rfl
@[simp] theorem frzE_cons (i : Nat) (is : List Nat) (ρ : PF.Env) : frzE (i :: is) ρ = frzE is (frz1 i ρ) := rfl
@[simp] theorem frz1_eq (i : Nat) (ρ : PF.Env) : frz1 i ρ = (match ρ.getD i .no with
  | .own ds => ρ.set i (.val (.list ds))
  | _ => ρ) := rfl
@[simp] theorem negD_i (i : Int) : negD (.d (.int i)) = .ok (.d (.int (-i))) := rfl
theorem add_tt' (xs ys : List D) (h : xs.length + ys.length ≤ 1000000) : binD .Add (.d (.tuple xs)) (.d (.tuple ys)) = .ok (.d (.tuple (xs ++ ys))) := by
  have := sizeLine_big
  rw [add_tt, M.chk_pos (by omega)]
/-! ### == of data without truth values is sameness -/
mutual
def plain : D → Bool
  | .none => true
  | .int _ => true
  | .str _ => true
  | .list xs => plains xs
  | .tuple xs => plains xs
  | _ => false
def plains : List D → Bool
  | [] => true
  | x :: xs => plain x && plains xs
end
mutual
theorem eqv_same : ∀ (x y : D), plain x = true → plain y = true → PyData.eqv x y = true → x = y
  | .none, .none, _, _, _ => rfl
  | .int i, .int j, _, _, e => by simp only [PyData.eqv, beq_iff_eq] at e; rw [e]
  | .str i, .str j, _, _, e => by simp only [PyData.eqv, beq_iff_eq] at e; rw [e]
  | .list xs, .list ys, px, py, e => by
    simp only [PyData.eqv] at e
    simp only [plain] at px py
    rw [eqvs_same xs ys px py e]
  | .tuple xs, .tuple ys, px, py, e => by
    simp only [PyData.eqv] at e
    simp only [plain] at px py
    rw [eqvs_same xs ys px py e]
  | .bool _, _, px, _, _ => by simp [plain] at px
  | _, .bool _, _, py, _ => by simp [plain] at py
  | .dict _, _, px, _, _ => by simp [plain] at px
  | _, .dict _, _, py, _ => by simp [plain] at py
  | .none, .int _, _, _, e => by simp [PyData.eqv] at e
  | .none, .str _, _, _, e => by simp [PyData.eqv] at e
  | .none, .list _, _, _, e => by simp [PyData.eqv] at e
  | .none, .tuple _, _, _, e => by simp [PyData.eqv] at e
  | .int _, .none, _, _, e => by simp [PyData.eqv] at e
  | .int _, .str _, _, _, e => by simp [PyData.eqv] at e
  | .int _, .list _, _, _, e => by simp [PyData.eqv] at e
  | .int _, .tuple _, _, _, e => by simp [PyData.eqv] at e
  | .str _, .none, _, _, e => by simp [PyData.eqv] at e
  | .str _, .int _, _, _, e => by simp [PyData.eqv] at e
  | .str _, .list _, _, _, e => by simp [PyData.eqv] at e
  | .str _, .tuple _, _, _, e => by simp [PyData.eqv] at e
  | .list _, .none, _, _, e => by simp [PyData.eqv] at e
  | .list _, .int _, _, _, e => by simp [PyData.eqv] at e
  | .list _, .str _, _, _, e => by simp [PyData.eqv] at e
  | .list _, .tuple _, _, _, e => by simp [PyData.eqv] at e
  | .tuple _, .none, _, _, e => by simp [PyData.eqv] at e
  | .tuple _, .int _, _, _, e => by simp [PyData.eqv] at e
  | .tuple _, .str _, _, _, e => by simp [PyData.eqv] at e
  | .tuple _, .list _, _, _, e => by simp [PyData.eqv] at e
theorem eqvs_same : ∀ (xs ys : List D), plains xs = true → plains ys = true → PyData.eqvAll xs ys = true → xs = ys
  | [], [], _, _, _ => rfl
  | x :: xs, y :: ys, px, py, e => by
    simp only [PyData.eqvAll, Bool.and_eq_true] at e
    simp only [plains, Bool.and_eq_true] at px py
    rw [eqv_same x y px.1 py.1 e.1, eqvs_same xs ys px.2 py.2 e.2]
  | [], _ :: _, _, _, e => by simp [PyData.eqvAll] at e
  | _ :: _, [], _, _, e => by simp [PyData.eqvAll] at e
end
theorem plains_map {α : Type} (f : α → D) (xs : List α) (h : ∀ x ∈ xs, plain (f x) = true) : plains (xs.map f) = true := by
  induction xs with
  | nil => rfl
  | cons x r ih =>
    show (plain (f x) && plains (r.map f)) = true
    rw [h x (by simp), ih fun y hy => h y (by simp [hy])]
    rfl
theorem plain_i (i : Int) : plain (.int i) = true := rfl
theorem plain_s (s : Str) : plain (.str s) = true := rfl
theorem plain_n : plain .none = true := rfl
theorem plain_tm {α : Type} (f : α → D) (xs : List α) (h : ∀ x ∈ xs, plain (f x) = true) : plain (.tuple (xs.map f)) = true := plains_map f xs h
theorem plain_lm {α : Type} (f : α → D) (xs : List α) (h : ∀ x ∈ xs, plain (f x) = true) : plain (.list (xs.map f)) = true := plains_map f xs h
theorem plain_t (xs : List D) (h : ∀ x ∈ xs, plain x = true) : plain (.tuple xs) = true := by
  have := plain_tm (fun d => d) xs h
  rwa [List.map_id'] at this
theorem plain_l (xs : List D) (h : ∀ x ∈ xs, plain x = true) : plain (.list xs) = true := by
  have := plain_lm (fun d => d) xs h
  rwa [List.map_id'] at this
/-- == of what is laid and plain -/
theorem eq_plain {a b : R} {n m : Nat} (ha : Lay n a.toD) (hb : Lay m b.toD) (hn : n ≤ 64) (hm : m ≤ 64) (pa : plain a.toD = true) (pb : plain b.toD = true) : cmpD .Eq a b = .ok (.d (.bool (@decide (a.toD = b.toD) (Classical.propDecidable _)))) := by
  rw [eq_lay ha hb hn hm]
  congr 3
  by_cases h : a.toD = b.toD
  · rw [h, hb.eqv]; simp
  · cases q : PyData.eqv a.toD b.toD with
    | true => exact absurd (eqv_same _ _ pa pb q) h
    | false => simp [h]
theorem ne_plain {a b : R} {n m : Nat} (ha : Lay n a.toD) (hb : Lay m b.toD) (hn : n ≤ 64) (hm : m ≤ 64) (pa : plain a.toD = true) (pb : plain b.toD = true) : cmpD .NotEq a b = .ok (.d (.bool (!@decide (a.toD = b.toD) (Classical.propDecidable _)))) := by
  have h := eq_plain ha hb hn hm pa pb
  rw [eq_lay ha hb hn hm] at h
  rw [ne_lay ha hb hn hm]
  injection h with h
  injection h with h
  injection h with h
  rw [h]
def isNoneD : D → Bool
  | .none => true
  | _ => false
@[simp] theorem is_none (d : D) : cmpD .Is (.d d) (.d .none) = .ok (.d (.bool (isNoneD d))) := rfl
@[simp] theorem isn_n : isNoneD .none = true := rfl
@[simp] theorem isn_i (i : Int) : isNoneD (.int i) = false := rfl
@[simp] theorem isn_t (xs : List D) : isNoneD (.tuple xs) = false := rfl
theorem cut_last (xs : List D) (x : D) : cutD (xs ++ [x]) none (some (-1)) = xs := by
  have e : HT.sIx (xs ++ [x]).length (xs ++ [x]).length (some (-1)) = xs.length := by
    show (if (-1 : Int) < 0 then ((-1 : Int) + ((xs ++ [x]).length : Int)).toNat else min (-1 : Int).toNat (xs ++ [x]).length) = xs.length
    rw [if_pos (by omega), List.length_append, List.length_singleton]
    omega
  unfold cutD
  rw [e]
  simp [HT.sIx]
@[simp] theorem partC_neg (c : CE) (m : M D) : partC (.neg c) m = m.bind partD := rfl
@[simp] theorem sl_l (xs : List D) (l h : Option Int) : slD (.d (.list xs)) l h = .ok (.o (cutD xs l h)) := rfl
@[simp] theorem itD_zip (a b : R) : itD .zip a b = (seqD a).bind fun xs => (seqD b).bind fun ys => .ok ((xs.zip ys).map fun p => .tuple [p.1, p.2]) := rfl
@[simp] theorem partC_var (i : Nat) (m : M D) : partC (.var i) m = m.bind partD := rfl
@[simp] theorem partC_bin (op : Operator) (a b : CE) (m : M D) : partC (.bin op a b) m = m.bind partD := rfl
@[simp] theorem partC_ix (a b : CE) (m : M D) : partC (.ix a b) m = m.bind partD := rfl
theorem enumD_map {α : Type} (f : α → D) (xs : List α) : enumD (xs.map f) = xs.zipIdx.map fun p => PyData.tuple [.int p.2, f p.1] := by
  unfold enumD
  rw [List.zipIdx_map, List.map_map]
  rfl
section
variable (F : Nat → List D → M R) (ρ : PF.Env)
@[simp] theorem exS_setix (i : Nat) (ix e : CE) : exS F (.setix i ix e) ρ = (ev F e ρ).toD.ctl ρ fun d => (match ρ.getD i .no with
    | .own ds => (ev F ix ρ).ctl ρ fun k => (match k with
      | .d (.int k) => optC (L2.ixN ds.length k) fun j => .nx (ρ.set i (.own (ds.set j d)))
      | _ => .no)
    | _ => .no) := by rw [exS] <;> rfl
@[simp] theorem exS_aug (i : Nat) (e : CE) : exS F (.aug i e) ρ = (match ρ.getD i .no with
    | .val (.int n) => (ev F e ρ).ctl ρ fun r => (match r with
      | .d (.int m) => .nx (ρ.set i (.val (.int (n + m))))
      | _ => .no)
    | _ => .no) := by rw [exS] <;> rfl
@[simp] theorem exS_dnew (i : Nat) : exS F (.dnew i) ρ = .nx (ρ.set i (.dct [])) := by rw [exS]
@[simp] theorem exS_dput (i : Nat) (k e : CE) : exS F (.dput i k e) ρ = (ev F e ρ).toD.ctl ρ fun d => (dctOf ρ i).ctl ρ fun kvs => (ev F k ρ).toD.ctl ρ fun kd => optC (keyT kd) fun key => if kvs.length < sizeLine then .nx (ρ.set i (.dct (putD kvs key d))) else .no := by rw [exS]
@[simp] theorem exS_bad : exS F .bad ρ = .no := by rw [exS]
@[simp] theorem ev_dhas (neg : Bool) (i : Nat) (e : CE) : ev F (.dhas neg i e) ρ = (ev F e ρ).toD.bind fun d => (dctOf ρ i).bind fun kvs => (M.opt (keyT d)).bind fun k => boolR ((lookD kvs k).isSome != neg) := by rw [ev]
@[simp] theorem ev_dget (i : Nat) (e : CE) : ev F (.dget i e) ρ = (dctOf ρ i).bind fun kvs => (ev F e ρ).toD.bind fun d => (M.opt (keyT d)).bind fun k => (M.opt (lookD kvs k)).bind fun v => .ok (.d v) := by rw [ev]
@[simp] theorem ev_dlen (i : Nat) : ev F (.dlen i) ρ = (dctOf ρ i).bind fun kvs => .ok (.d (.int kvs.length)) := by rw [ev]
@[simp] theorem ev_rev (a : CE) : ev F (.rev a) ρ = (pk a ρ (ev F a ρ)).bind revD := by rw [ev]
@[simp] theorem pk_rev (a : CE) (m : M R) : pk (.rev a) ρ m = m := rfl
@[simp] theorem pk_dhas (neg : Bool) (i : Nat) (e : CE) (m : M R) : pk (.dhas neg i e) ρ m = m := rfl
@[simp] theorem pk_dget (i : Nat) (e : CE) (m : M R) : pk (.dget i e) ρ m = m := rfl
@[simp] theorem pk_dlen (i : Nat) (m : M R) : pk (.dlen i) ρ m = m := rfl
@[simp] theorem dctOf_eq (i : Nat) : dctOf ρ i = (match ρ.getD i .no with | .dct kvs => .ok kvs | _ => .no) := rfl
end
@[simp] theorem is_notnone (d : D) : cmpD .IsNot (.d d) (.d .none) = .ok (.d (.bool (!isNoneD d))) := by cases d <;> rfl
@[simp] theorem min2_i (i j : Int) : bltD .min2 [.d (.int i), .d (.int j)] = .ok (.d (.int (min i j))) := by
  show M.ok (R.d (PyData.int (if j < i then j else i))) = _
  rw [show (if j < i then j else i) = min i j from by omega]
end PF

end

section
/-! P5a: fractions. -/
namespace PF
open PySem PySem.Spec PyProof.Rows L2
def encQ (x : Rat) : D := .tuple [.int x.num, .int x.den]
theorem tq (b : Int) : PyData.tuple [.int b, .int 1] = encQ (b : Rat) := rfl
@[simp] theorem encQ_0 (x : Rat) : ixD (.d (encQ x)) (.d (.int 0)) = .ok (.d (.int x.num)) := rfl
@[simp] theorem encQ_1 (x : Rat) : ixD (.d (encQ x)) (.d (.int 1)) = .ok (.d (.int x.den)) := rfl
theorem lay_Q (x : Rat) : Lay 1 (encQ x) := lay_t _ fun y hy => by
  simp at hy
  rcases hy with rfl | rfl
  · exact lay_i _
  · exact lay_i _
theorem encQ_inj {x y : Rat} (h : encQ x = encQ y) : x = y := by
  unfold encQ at h
  injection h with h
  injection h with h1 h2
  injection h2 with h2 _
  injection h1 with h1
  injection h2 with h2
  exact Rat.ext h1 (by omega)
theorem eqv_Q (x y : Rat) : PyData.eqv (encQ x) (encQ y) = decide (x = y) := by
  have e : PyData.eqv (encQ x) (encQ y) = ((x.num == y.num) && (((x.den : Int) == (y.den : Int)) && true)) := by
    simp only [encQ, PyData.eqv, PyData.eqvAll]
  rw [e]
  by_cases h : x = y
  · subst h; simp
  · rw [decide_eq_false h]
    cases q1 : (x.num == y.num) with
    | false => rfl
    | true =>
      cases q2 : ((x.den : Int) == (y.den : Int)) with
      | false => rfl
      | true =>
        exfalso
        apply h
        have h1 : x.num = y.num := by simpa using q1
        have h2 : (x.den : Int) = (y.den : Int) := by simpa using q2
        exact Rat.ext h1 (by omega)
/-! ### sizes, by bits -/
theorem log2_mul_le (a b : Nat) : (a * b).log2 ≤ a.log2 + b.log2 + 1 := by
  by_cases ha : a = 0
  · subst ha; simp
  by_cases hb : b = 0
  · subst hb; simp
  have h1 : a < 2 ^ (a.log2 + 1) := Nat.lt_log2_self
  have h2 : b < 2 ^ (b.log2 + 1) := Nat.lt_log2_self
  have h3 : a * b < 2 ^ (a.log2 + 1) * 2 ^ (b.log2 + 1) := Nat.mul_lt_mul'' h1 h2
  rw [← Nat.pow_add] at h3
  have := (Nat.log2_lt (Nat.mul_ne_zero ha hb)).2 h3
  omega
theorem log2_mono {a b : Nat} (h : a ≤ b) : a.log2 ≤ b.log2 := by
  by_cases ha : a = 0
  · subst ha; simp
  · have hb : b ≠ 0 := by omega
    have h1 : b < 2 ^ (b.log2 + 1) := Nat.lt_log2_self
    have := (Nat.log2_lt ha).2 (Nat.lt_of_le_of_lt h h1)
    omega
/-- of few bits -/
def Sm (x : Rat) : Prop := x.num.natAbs.log2 < 4000 ∧ x.den.log2 < 4000
theorem mul_w {i j : Int} (h : i.natAbs.log2 + j.natAbs.log2 < 1000000) : binD .Mult (.d (.int i)) (.d (.int j)) = .ok (.d (.int (i * j))) := by
  rw [binD_mul, M.chk_pos (.inr h)]
theorem div_w {i j : Int} (h : 0 < j) (h2 : j.natAbs.log2 < 9000) : binD .FloorDiv (.d (.int i)) (.d (.int j)) = .ok (.d (.int (i / j))) := by
  rw [binD_div, M.chk_pos ⟨by omega, h2⟩, Int.fdiv_eq_ediv_of_nonneg i (by omega)]
/-! ### the greatest common divisor -/
theorem common_loop {k : Nat} : ∀ (b a : Nat), ∃ (x : Sl), whlD (tst (runF tab k) (.var 1)) (exB (runF tab k) b_common_1) [.val (.int a), .val (.int b)] = .nx [.val (.int (Nat.gcd a b)), x]
  | b, a => by
    rw [whlD_step]
    by_cases h : b = 0
    · subst h
      exact ⟨.val (.int 0), by simp⟩
    · have lt : a % b < b := Nat.mod_lt _ (by omega)
      obtain ⟨x, e⟩ := common_loop (k := k) (a % b) b
      refine ⟨x, ?_⟩
      have p : 0 < b := by omega
      have st : exB (runF tab k) b_common_1 [.val (.int a), .val (.int b)] = .nx [.val (.int b), .val (.int ((a % b : Nat) : Int))] := by
        simp [b_common_1, p]
      have ts : tst (runF tab k) (.var 1) [.val (.int a), .val (.int b)] = .ok true := by simp [h]
      rw [ts, st]
      simp only [M.ctl_ok, if_pos]
      rw [e, Nat.gcd_comm a b, Nat.gcd_rec b a, Nat.gcd_comm (a % b) b]
termination_by b => b
theorem common_ok {k : Nat} (a b : Nat) : runF tab (k + 1) i_common [.int a, .int b] = .ok (.d (.int (Nat.gcd a b))) := by
  rw [runF_of tab_common rfl]
  obtain ⟨x, e⟩ := common_loop (k := k) b a
  simp [f_common, startE]
  rw [e]
  simp
end PF

end

section
/-! P5: fractions. -/
namespace PF
open PySem PySem.Spec PyProof.Rows L2
theorem fraction_ok {k : Nat} (a b : Int) (hb : b ≠ 0) (hs : b.natAbs.log2 < 9000) : runF tab (k + 2) i_fraction [.int a, .int b] = .ok (.d (encQ (Rat.divInt a b))) := by
  rw [runF_of tab_fraction rfl]
  have gp : 0 < Nat.gcd a.natAbs b.natAbs := Nat.gcd_pos_of_pos_right _ (by omega)
  have gl : (Nat.gcd a.natAbs b.natAbs).log2 < 9000 := Nat.lt_of_le_of_lt (log2_mono (Nat.le_of_dvd (by omega) (Nat.gcd_dvd_right _ _))) hs
  have en : (Rat.divInt a b).num = b.sign * a / (Nat.gcd a.natAbs b.natAbs : Int) := by
    rw [Rat.num_divInt]
    show _ / ((Nat.gcd b.natAbs a.natAbs : Nat) : Int) = _
    rw [Nat.gcd_comm]
  have ed : (Rat.divInt a b).den = b.natAbs / Nat.gcd a.natAbs b.natAbs := by
    rw [Rat.den_divInt, if_neg hb]
    show b.natAbs / Nat.gcd b.natAbs a.natAbs = _
    rw [Nat.gcd_comm]
  have dv : ∀ i : Int, binD .FloorDiv (.d (.int i)) (.d (.int (Nat.gcd a.natAbs b.natAbs))) = .ok (.d (.int (i / (Nat.gcd a.natAbs b.natAbs : Int)))) := fun i => div_w (by omega) (by simpa using gl)
  have ab : ∀ i : Int, absI i = (i.natAbs : Int) := fun i => by unfold absI; split <;> omega
  by_cases h : b < 0
  · have c := common_ok (k := k) a.natAbs b.natAbs
    have e1 : (-b : Int) = (b.natAbs : Int) := by omega
    have e2 : ((-a).natAbs : Int) = (a.natAbs : Int) := by omega
    have s : b.sign = -1 := Int.sign_eq_neg_one_of_neg h
    simp [f_fraction, startE, h, ab, e1, c, dv]
    unfold encQ
    rw [en, ed, s]
    simp
  · have c := common_ok (k := k) a.natAbs b.natAbs
    have e1 : (b : Int) = (b.natAbs : Int) := by omega
    have s : b.sign = 1 := Int.sign_eq_one_of_pos (by omega)
    have c' : runF tab (k + 1) i_common [.int a.natAbs, .int b] = .ok (.d (.int (Nat.gcd a.natAbs b.natAbs))) := by rw [e1]; exact c
    simp [f_fraction, startE, h, ab, c', dv]
    unfold encQ
    rw [en, ed, s]
    simp
    rw [← e1]
theorem whole_ok {k : Nat} (i : Int) : runF tab (k + 1) i_whole [.int i] = .ok (.d (encQ i)) := by
  rw [runF_of tab_whole rfl]
  simp [f_whole, startE]
  rfl
theorem Sm.mul {x y : Int} (hx : x.natAbs.log2 < 4000) (hy : y.natAbs.log2 < 4000) : binD .Mult (.d (.int x)) (.d (.int y)) = .ok (.d (.int (x * y))) := mul_w (by omega)
theorem den_ne (x : Rat) : (x.den : Int) ≠ 0 := by have := x.den_nz; omega
theorem den_log {x : Rat} (h : Sm x) : (x.den : Int).natAbs.log2 < 4000 := by have := h.2; rw [Int.natAbs_natCast]; exact this
theorem dd_log {x y : Rat} (hx : Sm x) (hy : Sm y) : ((x.den : Int) * y.den).natAbs.log2 < 9000 := by
  have := log2_mul_le x.den y.den
  have h1 := hx.2
  have h2 := hy.2
  rw [Int.natAbs_mul, Int.natAbs_natCast, Int.natAbs_natCast]
  omega
theorem plus_ok {k : Nat} (x y : Rat) (hx : Sm x) (hy : Sm y) : runF tab (k + 3) i_plus [encQ x, encQ y] = .ok (.d (encQ (x + y))) := by
  rw [runF_of tab_plus rfl]
  have m1 := Sm.mul hx.1 (den_log hy)
  have m2 := Sm.mul hy.1 (den_log hx)
  have m3 := Sm.mul (den_log hx) (den_log hy)
  have f := fraction_ok (k := k) (x.num * y.den + y.num * x.den) (x.den * y.den) (Int.mul_ne_zero (den_ne x) (den_ne y)) (dd_log hx hy)
  have e : Rat.divInt (x.num * y.den + y.num * x.den) (x.den * y.den) = x + y := by
    rw [Rat.add_def', ← Rat.divInt_ofNat]
    simp
  simp [f_plus, startE, m1, m2, m3, f, e]
theorem minus_ok {k : Nat} (x y : Rat) (hx : Sm x) (hy : Sm y) : runF tab (k + 3) i_minus [encQ x, encQ y] = .ok (.d (encQ (x - y))) := by
  rw [runF_of tab_minus rfl]
  have m1 := Sm.mul hx.1 (den_log hy)
  have m2 := Sm.mul hy.1 (den_log hx)
  have m3 := Sm.mul (den_log hx) (den_log hy)
  have f := fraction_ok (k := k) (x.num * y.den - y.num * x.den) (x.den * y.den) (Int.mul_ne_zero (den_ne x) (den_ne y)) (dd_log hx hy)
  have e : Rat.divInt (x.num * y.den - y.num * x.den) (x.den * y.den) = x - y := by
    rw [Rat.sub_def', ← Rat.divInt_ofNat]
    simp
  simp [f_minus, startE, m1, m2, m3, f, e]
theorem times_ok {k : Nat} (x y : Rat) (hx : Sm x) (hy : Sm y) : runF tab (k + 3) i_times [encQ x, encQ y] = .ok (.d (encQ (x * y))) := by
  rw [runF_of tab_times rfl]
  have m1 := Sm.mul hx.1 hy.1
  have m3 := Sm.mul (den_log hx) (den_log hy)
  have f := fraction_ok (k := k) (x.num * y.num) (x.den * y.den) (Int.mul_ne_zero (den_ne x) (den_ne y)) (dd_log hx hy)
  have e : Rat.divInt (x.num * y.num) (x.den * y.den) = x * y := by
    rw [Rat.mul_def', ← Rat.divInt_ofNat]
    simp
  simp [f_times, startE, m1, m3, f, e]
theorem over_ok {k : Nat} (x y : Rat) (hx : Sm x) (hy : Sm y) (h : y ≠ 0) : runF tab (k + 3) i_over [encQ x, encQ y] = .ok (.d (encQ (x / y))) := by
  rw [runF_of tab_over rfl]
  have m1 := Sm.mul hx.1 (den_log hy)
  have m3 := Sm.mul (den_log hx) hy.1
  have hn : y.num ≠ 0 := fun z => h (Rat.num_eq_zero.mp z)
  have l : ((x.den : Int) * y.num).natAbs.log2 < 9000 := by
    have := log2_mul_le x.den y.num.natAbs
    have h1 := hx.2
    have h2 := hy.1
    rw [Int.natAbs_mul, Int.natAbs_natCast]
    omega
  have f := fraction_ok (k := k) (x.num * y.den) (x.den * y.num) (Int.mul_ne_zero (den_ne x) hn) l
  have e : Rat.divInt (x.num * y.den) (x.den * y.num) = x / y := by
    rw [Rat.div_def, Rat.inv_def, ← Rat.divInt_mul_divInt, Rat.num_divInt_den]
  simp [f_over, startE, m1, m3, f, e]
theorem is_less_ok {k : Nat} (x y : Rat) (hx : Sm x) (hy : Sm y) : runF tab (k + 1) i_is_less [encQ x, encQ y] = .ok (.d (.bool (decide (x < y)))) := by
  rw [runF_of tab_is_less rfl]
  have m1 := Sm.mul hx.1 (den_log hy)
  have m2 := Sm.mul hy.1 (den_log hx)
  simp [f_is_less, startE, m1, m2, Rat.lt_iff]
def leastQ (x : Rat) (xs : List Rat) : Rat := xs.foldl (fun f y => if y < f then y else f) x
theorem leastQ_mem : ∀ (xs : List Rat) (x : Rat), leastQ x xs = x ∨ leastQ x xs ∈ xs
  | [], x => .inl rfl
  | y :: r, x => by
    have := leastQ_mem r (if y < x then y else x)
    show leastQ (if y < x then y else x) r = x ∨ leastQ (if y < x then y else x) r ∈ y :: r
    rcases this with h | h
    · rw [h]
      split
      · exact .inr (by simp)
      · exact .inl rfl
    · exact .inr (List.mem_cons_of_mem _ h)
theorem leastQ_le : ∀ (xs : List Rat) (x : Rat), leastQ x xs ≤ x ∧ ∀ y ∈ xs, leastQ x xs ≤ y
  | [], x => ⟨Rat.le_refl, by simp⟩
  | y :: r, x => by
    obtain ⟨h1, h2⟩ := leastQ_le r (if y < x then y else x)
    have hx : (if y < x then y else x) ≤ x := by
      split
      · rename_i h; exact Rat.le_of_lt h
      · exact Rat.le_refl
    have hy : (if y < x then y else x) ≤ y := by
      split
      · exact Rat.le_refl
      · rename_i h; exact Rat.not_lt.mp h
    refine ⟨Rat.le_trans h1 hx, fun z hz => ?_⟩
    rcases List.mem_cons.mp hz with rfl | hz
    · exact Rat.le_trans h1 hy
    · exact h2 z hz
theorem leastQ_snoc (x y : Rat) (xs : List Rat) : leastQ x (xs ++ [y]) = if y < leastQ x xs then y else leastQ x xs := by
  unfold leastQ
  rw [List.foldl_append]
  rfl
theorem least_ok {k : Nat} (x : Rat) (xs : List Rat) (h : ∀ y ∈ x :: xs, Sm y) : runF tab (k + 2) i_least [.list ((x :: xs).map encQ)] = .ok (.d (encQ (leastQ x xs))) := by
  rw [runF_of tab_least rfl]
  obtain ⟨ρ, e, f, s2, hf, J1, J⟩ := forD_inv (tg := .name 2) (b := exB (runF tab (k + 1)) b_least_1) encQ
    (fun done ρ => ∃ (f : Rat) (s2 : Sl), Sm f ∧ f = leastQ x done ∧ ρ = [.val (.list ((x :: xs).map encQ)), .val (encQ f), s2])
    (x :: xs) [.val (.list ((x :: xs).map encQ)), .val (encQ x), .no] ⟨x, .no, h x (by simp), rfl, rfl⟩ (by
      intro done y rest ρ hd ⟨f, s2, q1, q2, q3⟩
      subst q3
      have sy : Sm y := h y (by rw [hd]; simp)
      have il := is_less_ok (k := k) y f sy q1
      by_cases c : y < f
      · refine ⟨[.val (.list ((x :: xs).map encQ)), .val (encQ f), .val (encQ y)], [.val (.list ((x :: xs).map encQ)), .val (encQ y), .val (encQ y)], by simp, .inl (by simp [b_least_1, il, c]), y, .val (encQ y), sy, ?_, rfl⟩
        rw [leastQ_snoc, ← q2, if_pos c]
      · refine ⟨[.val (.list ((x :: xs).map encQ)), .val (encQ f), .val (encQ y)], [.val (.list ((x :: xs).map encQ)), .val (encQ f), .val (encQ y)], by simp, .inl (by simp [b_least_1, il, c]), f, .val (encQ y), q1, ?_, rfl⟩
        rw [leastQ_snoc, ← q2, if_neg c])
  subst J
  have e0 : leastQ x (x :: xs) = leastQ x xs := by
    unfold leastQ
    rw [List.foldl_cons, if_neg Rat.lt_irrefl]
  rw [J1, e0] at e
  simp only [List.map_cons] at e
  simp [f_least, startE]
  rw [e]
  simp
end PF

end

section
/-! P6: the flow's functions, one by one. -/
namespace PF
open PySem PySem.Spec PyProof.Rows L2
/-! ### sizes of fractions over one denominator -/
def Dn (n : Nat) (x : Rat) : Prop := ∃ k : Int, x * (n : Rat) = (k : Rat)
theorem Dn.dvd {n : Nat} {x : Rat} (h : Dn n x) : x.den ∣ n := by
  obtain ⟨k, e⟩ := h
  have e2 : x.num * (n : Int) = k * (x.den : Int) := by
    have hd : (x.den : Rat) ≠ 0 := by
      have := x.den_nz
      intro z
      exact this (by exact_mod_cast z)
    have h1 : x * (x.den : Rat) = (x.num : Rat) := by
      have e := Rat.mkRat_eq_div x.num x.den
      rw [Rat.mkRat_self] at e
      calc x * (x.den : Rat) = (x.num : Rat) / (x.den : Rat) * (x.den : Rat) := congrArg (· * (x.den : Rat)) e
        _ = (x.num : Rat) := Rat.div_mul_cancel hd
    have h2 : ((x.num * (n : Int) : Int) : Rat) = ((k * (x.den : Int) : Int) : Rat) := by
      rw [Rat.intCast_mul, Rat.intCast_mul, ← h1, ← e]
      show x * (x.den : Rat) * (n : Rat) = x * (n : Rat) * (x.den : Rat)
      rw [Rat.mul_assoc, Rat.mul_comm (x.den : Rat), ← Rat.mul_assoc]
    exact_mod_cast h2
  have e3 : x.den ∣ x.num.natAbs * n := by
    refine ⟨k.natAbs, ?_⟩
    have := congrArg Int.natAbs e2
    rw [Int.natAbs_mul, Int.natAbs_mul, Int.natAbs_natCast, Int.natAbs_natCast] at this
    rw [this, Nat.mul_comm]
  exact Nat.Coprime.dvd_of_dvd_mul_left x.reduced.symm e3
theorem num_abs (x : Rat) : x * (x.den : Rat) = (x.num : Rat) := by
  have hd : (x.den : Rat) ≠ 0 := by
    have := x.den_nz
    intro z
    exact this (by exact_mod_cast z)
  have e := Rat.mkRat_eq_div x.num x.den
  rw [Rat.mkRat_self] at e
  calc x * (x.den : Rat) = (x.num : Rat) / (x.den : Rat) * (x.den : Rat) := congrArg (· * (x.den : Rat)) e
    _ = (x.num : Rat) := Rat.div_mul_cancel hd
theorem sm_of {n V : Nat} {x : Rat} (hn : 0 < n) (h : Dn n x) (l : n.log2 ≤ 3900) (hV : V.log2 ≤ 60) (b1 : -(V : Rat) ≤ x) (b2 : x ≤ (V : Rat)) : Sm x := by
  have dd := Nat.le_of_dvd hn h.dvd
  have dl : x.den.log2 ≤ 3900 := Nat.le_trans (log2_mono dd) l
  have dp : (0 : Rat) ≤ (x.den : Rat) := by exact_mod_cast Nat.zero_le _
  have u1 : (x.num : Rat) ≤ (V : Rat) * (x.den : Rat) := by
    rw [← num_abs x]
    exact Rat.mul_le_mul_of_nonneg_right b2 dp
  have u2 : -(V : Rat) * (x.den : Rat) ≤ (x.num : Rat) := by
    rw [← num_abs x]
    exact Rat.mul_le_mul_of_nonneg_right b1 dp
  have c1 : (V : Rat) * (x.den : Rat) = ((((V * x.den : Nat) : Int)) : Rat) := by
    rw [← Rat.natCast_mul]; rfl
  have c2 : -(V : Rat) * (x.den : Rat) = ((-((V * x.den : Nat) : Int) : Int) : Rat) := by
    rw [Rat.neg_mul, c1, Rat.intCast_neg]
  rw [c1] at u1
  rw [c2] at u2
  have v1 := Rat.intCast_le_intCast.mp u1
  have v2 := Rat.intCast_le_intCast.mp u2
  have w : x.num.natAbs ≤ V * x.den := by omega
  have lg := log2_mul_le V x.den
  have := log2_mono w
  exact ⟨by omega, by omega⟩
theorem Dn.int (n : Nat) (i : Int) : Dn n (i : Rat) := ⟨i * n, by rw [Rat.intCast_mul]; rfl⟩
theorem Dn.add {n : Nat} {x y : Rat} (hx : Dn n x) (hy : Dn n y) : Dn n (x + y) := by
  obtain ⟨i, ei⟩ := hx
  obtain ⟨j, ej⟩ := hy
  exact ⟨i + j, by rw [Rat.add_mul, ei, ej, Rat.intCast_add]⟩
theorem Dn.sub {n : Nat} {x y : Rat} (hx : Dn n x) (hy : Dn n y) : Dn n (x - y) := by
  obtain ⟨i, ei⟩ := hx
  obtain ⟨j, ej⟩ := hy
  exact ⟨i - j, by rw [Rat.sub_eq_add_neg, Rat.add_mul, Rat.neg_mul, ei, ej, Rat.intCast_sub, Rat.sub_eq_add_neg]⟩
theorem Dn.imul {n : Nat} {x : Rat} (i : Int) (hx : Dn n x) : Dn n ((i : Rat) * x) := by
  obtain ⟨j, ej⟩ := hx
  exact ⟨i * j, by rw [Rat.mul_assoc, ej, Rat.intCast_mul]⟩
theorem Dn.mul {n m : Nat} {x : Rat} (hx : Dn n x) : Dn (n * m) x := by
  obtain ⟨j, ej⟩ := hx
  exact ⟨j * m, by rw [Rat.natCast_mul, ← Rat.mul_assoc, ej, Rat.intCast_mul]; rfl⟩
theorem Dn.div {n : Nat} {x : Rat} {r : Int} (hr : r ≠ 0) (hx : Dn n x) : Dn (n * r.natAbs) (x / r) := by
  obtain ⟨j, ej⟩ := hx
  have hq : (r : Rat) ≠ 0 := by intro z; exact hr (by exact_mod_cast z)
  have cast : ((r.natAbs : Nat) : Rat) = ((r.natAbs : Int) : Rat) := rfl
  rcases Int.natAbs_eq r with e | e
  · refine ⟨j, ?_⟩
    have e' : ((r.natAbs : Int) : Rat) = (r : Rat) := by rw [← e]
    rw [Rat.natCast_mul, cast, e', Rat.mul_comm (n : Rat), ← Rat.mul_assoc, Rat.div_mul_cancel hq, ej]
  · refine ⟨-j, ?_⟩
    have e' : ((r.natAbs : Int) : Rat) = -(r : Rat) := by
      have : (r.natAbs : Int) = -r := by omega
      rw [this, Rat.intCast_neg]
    rw [Rat.natCast_mul, cast, e', Rat.mul_comm (n : Rat), ← Rat.mul_assoc, Rat.mul_neg, Rat.div_mul_cancel hq, Rat.neg_mul, ej, Rat.intCast_neg]
end PF

end

section
/-! P7: met, settled. -/
namespace PF
open PySem PySem.Spec PyProof.Rows L2
def encL (lv : List Rat) : D := .tuple (lv.map encQ)
@[simp] theorem encL_ix (lv : List Rat) (i : Int) : ixD (.d (encL lv)) (.d (.int i)) = (M.opt (L2.atI lv i)).bind fun x => .ok (.d (encQ x)) := by
  show (M.opt (L2.atI (lv.map encQ) i)).bind _ = _
  rw [atI_map]
  cases L2.atI lv i <;> rfl
@[simp] theorem encL_seq (lv : List Rat) : seqD (.d (encL lv)) = .ok (lv.map encQ) := rfl
/-- levels in their numbers, all small -/
structure LvOk (w : Wk) (lv : List Rat) : Prop where
  len : lv.length = w.brims.length
  sm : ∀ l ∈ lv, Sm l
def lvl (lv : List Rat) (v : Int) : Rat := lv.getD v.toNat 0
def metQ (lv : List Rat) (s : Sw) : Bool := if s.up = true then decide (¬ (lvl lv s.v < (s.mark : Rat))) else decide (¬ ((s.mark : Rat) < lvl lv s.v))
theorem sm_int {i : Int} (h : i.natAbs < 2 ^ 60) : Sm (i : Rat) := by
  refine ⟨?_, by show Nat.log2 1 < 4000; decide +kernel⟩
  show i.natAbs.log2 < 4000
  have h2 : i.natAbs ≤ 2 ^ 60 := by omega
  have := log2_mono h2
  rw [Nat.log2_two_pow] at this
  omega
theorem is_met_ok {k : Nat} (w : Wk) (lv : List Rat) (s : Sw) (hl : LvOk w lv) (hs : okS w.brims w.modes.length s) (hm : s.mark ≤ 999) : runF tab (k + 2) i_is_met [encS s, encL lv] = .ok (.d (.bool (metQ lv s))) := by
  rw [runF_of tab_is_met rfl]
  obtain ⟨⟨v1, v2⟩, ⟨m1, m2⟩, _⟩ := hs
  have len := hl.len
  have e := atI_pos (d := (0 : Rat)) (xs := lv) (i := s.v) v1 (by omega)
  have sm1 : Sm (s.mark : Rat) := sm_int (by omega)
  have sm2 : Sm (lv.getD s.v.toNat 0) := hl.sm _ (getD_mem (by omega))
  have l1 := is_less_ok (k := k) _ _ sm1 sm2
  have l2 := is_less_ok (k := k) _ _ sm2 sm1
  simp only [List.getD_eq_getElem?_getD] at e l1 l2
  cases hu : s.up with
  | true => simp [f_is_met, startE, whole_ok, e, hu, l2, metQ, lvl]
  | false => simp [f_is_met, startE, whole_ok, e, hu, l1, metQ, lvl]
def Wk.md (w : Wk) (m : Int) : Md := w.modes.getD m.toNat ⟨[], []⟩
/-- modes switched through -/
def settleQ (w : Wk) (lv : List Rat) : Nat → List Int → Int → List Int × Bool
  | 0, pre, m => (pre ++ [m], true)
  | n + 1, pre, m => match (w.md m).sws.find? (metQ lv) with
    | none => (pre ++ [m], false)
    | some s => if s.to ∈ pre ++ [m] then (pre ++ [m] ++ [s.to], true) else settleQ w lv n (pre ++ [m]) s.to
/-- few numbers are below n -/
theorem few_below : ∀ (n : Nat) (xs : List Int), xs.Nodup → (∀ x ∈ xs, 0 ≤ x ∧ x < n) → xs.length ≤ n
  | 0, [], _, _ => Nat.le_refl _
  | 0, x :: xs, _, h => by have := h x (by simp); omega
  | n + 1, xs, nd, h => by
    by_cases m : (n : Int) ∈ xs
    · have e := List.length_erase_of_mem m
      have := few_below n (xs.erase (n : Int)) (nd.erase _) (fun x hx => by
        have hx' := (List.Nodup.mem_erase_iff nd).mp hx
        have := h x hx'.2
        have := hx'.1
        omega)
      omega
    · have := few_below n xs nd (fun x hx => by
        have := h x hx
        have : x ≠ n := fun z => m (z ▸ hx)
        omega)
      omega
theorem in_i (x : Int) (xs : List Int) : cmpD .In (.d (.int x)) (.o (xs.map PyData.int)) = .ok (.d (.bool (decide (x ∈ xs)))) := by
  show M.chk (flatD (.int x) = true ∧ (xs.map PyData.int).all flatD = true) (boolR (inD (.int x) (xs.map PyData.int))) = _
  rw [M.chk_pos ⟨rfl, by simp [flatD]⟩, boolR_eq]
  congr 3
  unfold inD
  induction xs with
  | nil => rfl
  | cons y r ih =>
    rw [List.map_cons, List.any_cons, ih]
    have e : PyData.eqv (.int y) (.int x) = (y == x) := by simp only [PyData.eqv]
    rw [e]
    by_cases q : x = y
    · subst q; simp
    · have q' : ¬ y = x := fun z => q z.symm
      simp [q, q']
def encSet (p : List Int × Bool) : R := .o (p.1.map PyData.int ++ if p.2 = true then [PyData.none] else [])
theorem settled_loop {k : Nat} (w : Wk) (hw : okW w) (lv : List Rat) (hl : LvOk w lv) (a1 : Sl) : ∀ (n : Nat) (pre : List Int) (m : Int) (s4 s5 : Sl), (pre ++ [m]).Nodup → (∀ x ∈ pre ++ [m], 0 ≤ x ∧ x < w.modes.length) → w.modes.length < n + (pre ++ [m]).length →
    whlD (tst (runF tab (k + 2)) (.con (.bool true))) (exB (runF tab (k + 2)) b_settled_1) [.val (encW w), a1, .val (encL lv), .own ((pre ++ [m]).map .int), s4, s5] = .rt (encSet (settleQ w lv n pre m))
  | 0, pre, m, s4, s5, nd, h, l => by
    have := few_below w.modes.length (pre ++ [m]) nd h
    omega
  | n + 1, pre, m, s4, s5, nd, h, l => by
    have hm := h m (by simp)
    have em := atI_pos (d := (⟨[], []⟩ : Md)) (xs := w.modes) hm.1 hm.2
    have mm : w.md m ∈ w.modes := getD_mem (by omega)
    have okm := hw.2.2.2.1 _ mm
    have last : L2.atI ((pre ++ [m]).map PyData.int) (-1) = some (.int m) := by
      rw [List.map_append]
      exact atI_last _ _
    have mark : ∀ s ∈ (w.md m).sws, s.mark ≤ 999 := fun s hs => by
      obtain ⟨⟨v1, v2⟩, ⟨m1, m2⟩, _⟩ := okm.2.2.2 s hs
      have := hw.1 _ (getD_mem (d := 0) (show s.v.toNat < w.brims.length by omega))
      omega
    have met : ∀ s ∈ (w.md m).sws, runF tab (k + 2) i_is_met [encS s, encL lv] = .ok (.d (.bool (metQ lv s))) := fun s hs => is_met_ok w lv s hl (okm.2.2.2 s hs) (mark s hs)
    have comp : ∀ ρ : PF.Env, ρ = [.val (encW w), a1, .val (encL lv), .own ((pre ++ [m]).map .int), s4, .no] → compD (.name 5) (evc (runF tab (k + 2)) [.call i_is_met [.var 5, .var 2]]) (evT (runF tab (k + 2)) (.var 5)) ρ ((w.md m).sws.map encS) = .ok (((w.md m).sws.filter (metQ lv)).map encS) := by
      intro ρ hρ
      subst hρ
      refine compD_map encS (metQ lv) encS _ ?_
      intro s hs
      exact ⟨_, by simp; rfl, by simp [met s hs], by simp⟩
    rw [whlD_step]
    have tt : tst (runF tab (k + 2)) (.con (.bool true)) [.val (encW w), a1, .val (encL lv), .own ((pre ++ [m]).map .int), s4, s5] = .ok true := by simp
    rw [tt]
    simp only [M.ctl_ok, if_pos]
    have hh : ((w.md m).sws.filter (metQ lv)).head? = (w.md m).sws.find? (metQ lv) := List.head?_filter
    have wmd : w.modes.getD m.toNat ⟨[], []⟩ = w.md m := rfl
    rw [wmd] at em
    simp only [List.map_append, List.map_cons, List.map_nil] at last comp
    cases hf : (w.md m).sws.find? (metQ lv) with
    | none =>
      have e0 : (w.md m).sws.filter (metQ lv) = [] := by
        rw [hf] at hh
        exact List.head?_eq_none_iff.mp hh
      have st : exB (runF tab (k + 2)) b_settled_1 [.val (encW w), a1, .val (encL lv), .own ((pre ++ [m]).map .int), s4, s5] = .rt (encSet (settleQ w lv (n + 1) pre m)) := by
        simp [b_settled_1, last, em]
        rw [comp _ rfl, e0]
        simp [encSet, settleQ, hf]
      rw [st]
    | some s =>
      have sin : s ∈ (w.md m).sws := List.mem_of_find?_eq_some hf
      obtain ⟨r, e0⟩ : ∃ r, (w.md m).sws.filter (metQ lv) = s :: r := by
        rw [hf] at hh
        cases q : (w.md m).sws.filter (metQ lv) with
        | nil => rw [q] at hh; cases hh
        | cons x r => rw [q] at hh; cases hh; exact ⟨r, rfl⟩
      have len12 : (pre ++ [m]).length ≤ w.modes.length := few_below w.modes.length (pre ++ [m]) nd h
      have m12 := hw.2.2.1.2
      have sl := sizeLine_big
      have okS := (okm.2.2.2 s sin).2.2
      have ii := in_i s.to (pre ++ [m])
      simp only [List.map_append, List.map_cons, List.map_nil] at ii
      by_cases c : s.to ∈ pre ++ [m]
      · have st : exB (runF tab (k + 2)) b_settled_1 [.val (encW w), a1, .val (encL lv), .own ((pre ++ [m]).map .int), s4, s5] = .rt (encSet (settleQ w lv (n + 1) pre m)) := by
          simp [b_settled_1, last, em]
          rw [comp _ rfl, e0]
          simp [ii, c, encSet, settleQ, hf]
          rw [add_ll _ _ (by simp at len12 ⊢; omega)]
          simp
        rw [st]
      · have lt : pre.length + 1 < sizeLine := by simp at len12; omega
        have ih := settled_loop (k := k) w hw lv hl a1 n (pre ++ [m]) s.to (.val (.list ((s :: r).map encS))) s5 ?_ ?_ ?_
        · have st : exB (runF tab (k + 2)) b_settled_1 [.val (encW w), a1, .val (encL lv), .own ((pre ++ [m]).map .int), s4, s5] = .nx [.val (encW w), a1, .val (encL lv), .own ((pre ++ [m] ++ [s.to]).map .int), .val (.list ((s :: r).map encS)), s5] := by
            simp [b_settled_1, last, em]
            rw [comp _ rfl, e0]
            simp [ii, c, lt]
          rw [st]
          simp only
          rw [ih]
          simp only [settleQ, hf, if_neg c]
        · exact List.nodup_append.mpr ⟨nd, by simp, by intro a ha b hb; simp only [List.mem_singleton] at hb; subst hb; intro e; exact c (e ▸ ha)⟩
        · intro x hx
          rcases List.mem_append.mp hx with q | q
          · exact h x q
          · cases List.mem_singleton.mp q
            omega
        · simp only [List.length_append, List.length_singleton] at l ⊢
          omega
/-- the modes switched through from m -/
def setQ (w : Wk) (lv : List Rat) (m : Int) : List Int × Bool := settleQ w lv 13 [] m
theorem settled_ok {k : Nat} (w : Wk) (hw : okW w) (lv : List Rat) (hl : LvOk w lv) (m : Int) (hm : 0 ≤ m ∧ m < w.modes.length) : runF tab (k + 3) i_settled [encW w, .int m, encL lv] = .ok (encSet (setQ w lv m)) := by
  rw [runF_of tab_settled rfl]
  have e := settled_loop (k := k) w hw lv hl (.val (.int m)) 13 [] m .no .no (by simp) (by simpa using hm) (by have := hw.2.2.1.2; simp; omega)
  simp only [List.nil_append, List.map_cons, List.map_nil] at e
  simp [f_settled, startE]
  rw [e]
  simp [setQ]
end PF

end

section
/-! P8: waits, levels after, start. -/
namespace PF
open PySem PySem.Spec PyProof.Rows L2
/-- levels over one denominator, between the ground and 999 -/
structure Lv (n : Nat) (w : Wk) (lv : List Rat) : Prop where
  pos : 0 < n
  log : n.log2 ≤ 3800
  len : lv.length = w.brims.length
  dn : ∀ l ∈ lv, Dn n l
  lo : ∀ l ∈ lv, 0 ≤ l
  hi : ∀ l ∈ lv, l ≤ 999
theorem Lv.ok {n : Nat} {w : Wk} {lv : List Rat} (h : Lv n w lv) : LvOk w lv :=
  ⟨h.len, fun l hl => sm_of (V := 999) h.pos (h.dn l hl) (by have := h.log; omega) (by decide +kernel) (Rat.le_trans (show -((999 : Nat) : Rat) ≤ 0 by decide +kernel) (h.lo l hl)) (h.hi l hl)⟩
/-- a quotient by a whole number is no farther from 0 -/
theorem div_bound {x V : Rat} {r : Int} (hr : r ≠ 0) (h0 : 0 ≤ V) (h1 : -V ≤ x) (h2 : x ≤ V) : -V ≤ x / r ∧ x / r ≤ V := by
  have pos : ∀ (x : Rat) (r : Int), 1 ≤ r → -V ≤ x → x ≤ V → -V ≤ x / r ∧ x / r ≤ V := by
    intro x r hr h1 h2
    have hr1 : (1 : Rat) ≤ (r : Rat) := by exact_mod_cast hr
    have hr0 : (0 : Rat) < (r : Rat) := by exact_mod_cast (show (0 : Int) < r by omega)
    have e : x / (r : Rat) * (r : Rat) = x := Rat.div_mul_cancel (by intro z; rw [z] at hr0; exact Rat.lt_irrefl hr0)
    constructor
    · refine Rat.not_lt.mp fun z => ?_
      have z' := Rat.mul_lt_mul_of_pos_right z hr0
      rw [e] at z'
      have : -V * (r : Rat) ≤ -V * 1 := by
        rw [Rat.neg_mul, Rat.neg_mul]
        exact Rat.neg_le_neg (Rat.mul_le_mul_of_nonneg_left hr1 h0)
      rw [Rat.mul_one] at this
      grind
    · refine Rat.not_lt.mp fun z => ?_
      have z' := Rat.mul_lt_mul_of_pos_right z hr0
      rw [e] at z'
      have : V * 1 ≤ V * (r : Rat) := Rat.mul_le_mul_of_nonneg_left hr1 h0
      rw [Rat.mul_one] at this
      grind
  rcases (show 1 ≤ r ∨ 1 ≤ -r by omega) with c | c
  · exact pos x r c h1 h2
  · have q := pos (-x) (-r) c (by grind) (by grind)
    have e : -x / ((-r : Int) : Rat) = x / (r : Rat) := by
      rw [Rat.intCast_neg]
      have hq : (r : Rat) ≠ 0 := by intro z; exact hr (by exact_mod_cast z)
      grind
    rw [e] at q
    exact q
inductive Wh where
  | sw
  | ov (v : Nat) (b : Bool)
def encWh : Wh → D
  | .sw => .tuple [.str "switch"]
  | .ov v b => .tuple [.str "over", .int v, .str (if b = true then "brim" else "ground")]
def encP (p : Rat × Wh) : D := .tuple [encQ p.1, encWh p.2]
def rateOf (rs : List Int) (v : Int) : Int := rs.getD v.toNat 0
def swWait (lv : List Rat) (rs : List Int) (s : Sw) : Option (Rat × Wh) := if (s.up = true ∧ 0 < rateOf rs s.v) ∨ (s.up = false ∧ rateOf rs s.v < 0) then some (((s.mark : Rat) - lvl lv s.v) / (rateOf rs s.v : Rat), .sw) else none
def ovWait (brims : List Int) (lv : List Rat) (p : Int × Nat) : List (Rat × Wh) := if 0 < p.1 then [((((brims.getD p.2 0 : Int) : Rat) - lv.getD p.2 0) / (p.1 : Rat), .ov p.2 true)] else if p.1 < 0 then [(lv.getD p.2 0 / ((0 - p.1 : Int) : Rat), .ov p.2 false)] else []
def waitsQ (w : Wk) (lv : List Rat) (m : Int) : List (Rat × Wh) := (w.md m).sws.filterMap (swWait lv (w.md m).rates) ++ (w.md m).rates.zipIdx.flatMap (ovWait w.brims lv)
def waitQ (w : Wk) (lv : List Rat) (m : Int) : Option (Rat × Wh) := match waitsQ w lv m with
  | [] => none
  | p :: ps => (p :: ps).find? fun q => decide (q.1 = leastQ p.1 (ps.map (·.1)))
section
variable {n : Nat} {w : Wk} {lv : List Rat}
theorem Lv.at (h : Lv n w lv) {v : Int} (h0 : 0 ≤ v) (h1 : v ≤ (w.brims.length : Int) - 1) : L2.atI lv v = some (lvl lv v) ∧ Dn n (lvl lv v) ∧ 0 ≤ lvl lv v ∧ lvl lv v ≤ 999 := by
  have len := h.len
  have m : lvl lv v ∈ lv := getD_mem (by omega)
  exact ⟨atI_pos (d := (0 : Rat)) h0 (by omega), h.dn _ m, h.lo _ m, h.hi _ m⟩
theorem Lv.diff (h : Lv n w lv) {v i : Int} (h0 : 0 ≤ v) (h1 : v ≤ (w.brims.length : Int) - 1) (i0 : 0 ≤ i) (i1 : i ≤ 999) : Dn n ((i : Rat) - lvl lv v) ∧ -999 ≤ (i : Rat) - lvl lv v ∧ (i : Rat) - lvl lv v ≤ 999 := by
  obtain ⟨_, d, a, b⟩ := h.at h0 h1
  have j0 : (0 : Rat) ≤ (i : Rat) := by exact_mod_cast i0
  have j1 : (i : Rat) ≤ 999 := by exact_mod_cast i1
  exact ⟨(Dn.int n i).sub d, by grind, by grind⟩
theorem sm_diff (h : Lv n w lv) {x : Rat} (d : Dn n x) (a : -999 ≤ x) (b : x ≤ 999) : Sm x := sm_of (V := 999) h.pos d (by have := h.log; omega) (by decide +kernel) a b
theorem sm_quot (h : Lv n w lv) {x : Rat} {r : Int} (hr : r ≠ 0) (r1 : r.natAbs ≤ 99) (d : Dn n x) (a : -999 ≤ x) (b : x ≤ 999) : Sm (x / (r : Rat)) := by
  obtain ⟨c, e⟩ := div_bound hr (by decide +kernel) a b
  have l := log2_mul_le n r.natAbs
  have l2 : r.natAbs.log2 ≤ 6 := Nat.le_trans (log2_mono r1) (by decide +kernel)
  have := h.log
  have p : 0 < n * r.natAbs := Nat.mul_pos h.pos (by omega)
  exact sm_of (V := 999) p (d.div hr) (by omega) (by decide +kernel) c e
end
section
variable {n : Nat} {w : Wk} {lv : List Rat}
abbrev EW (w : Wk) (a1 : Sl) (lv : List Rat) (md : Md) (ws : List D) (s6 s7 s8 s9 s10 s11 s12 s13 : Sl) : PF.Env := [.val (encW w), a1, .val (encL lv), .val (encI md.rates), .val (.tuple (md.sws.map encS)), .own ws, s6, s7, s8, s9, s10, s11, s12, s13]
theorem mark_999 (hw : okW w) {s : Sw} (hs : okS w.brims w.modes.length s) : 0 ≤ s.mark ∧ s.mark ≤ 999 := by
  obtain ⟨⟨v1, v2⟩, ⟨m1, m2⟩, _⟩ := hs
  have := hw.1 _ (getD_mem (d := 0) (show s.v.toNat < w.brims.length by omega))
  omega
theorem rate_ok {md : Md} (hm : okM w.brims w.modes.length md) {v : Int} (h0 : 0 ≤ v) (h1 : v ≤ (w.brims.length : Int) - 1) : L2.atI md.rates v = some (rateOf md.rates v) ∧ -99 ≤ rateOf md.rates v ∧ rateOf md.rates v ≤ 99 := by
  have l := hm.2.1
  have m : rateOf md.rates v ∈ md.rates := getD_mem (by omega)
  exact ⟨atI_pos (d := (0 : Int)) h0 (by omega), hm.1 _ m⟩
theorem wait_1 {k : Nat} {a1 s10 s11 s12 s13 : Sl} (hw : okW w) (h : Lv n w lv) (md : Md) (hm : okM w.brims w.modes.length md) (ws : List D) (hl : ws.length ≤ 1000) (s : Sw) (hs : okS w.brims w.modes.length s) :
    ∃ s10' : Sl, exB (runF tab (k + 3)) b_wait_for_1 (EW w a1 lv md ws (.val (.int s.v)) (.val (wayD s.up)) (.val (.int s.mark)) (.val (.int s.to)) s10 s11 s12 s13) =
      .nx (EW w a1 lv md (ws ++ ((swWait lv md.rates s).map encP).toList) (.val (.int s.v)) (.val (wayD s.up)) (.val (.int s.mark)) (.val (.int s.to)) s10' s11 s12 s13) := by
  have sl := sizeLine_big
  have lt : ws.length < sizeLine := by omega
  obtain ⟨v1, v2⟩ := hs.1
  obtain ⟨m1, m2⟩ := mark_999 hw hs
  obtain ⟨e1, r1, r2⟩ := rate_ok hm v1 v2
  obtain ⟨e2, d2, l2, u2⟩ := h.at v1 v2
  obtain ⟨dd, da, db⟩ := h.diff v1 v2 m1 m2
  have mi := minus_ok (k := k) (s.mark : Rat) (lvl lv s.v) (sm_int (by omega)) (h.ok.sm _ (by have := h.len; exact getD_mem (by omega)))
  by_cases c : (s.up = true ∧ 0 < rateOf md.rates s.v) ∨ (s.up = false ∧ rateOf md.rates s.v < 0)
  · have rn : rateOf md.rates s.v ≠ 0 := by omega
    have rq : (rateOf md.rates s.v : Rat) ≠ 0 := by intro z; exact rn (by exact_mod_cast z)
    have ov := over_ok (k := k) ((s.mark : Rat) - lvl lv s.v) (rateOf md.rates s.v : Rat) (sm_diff h dd da db) (sm_int (by omega)) rq
    refine ⟨.val (encQ (((s.mark : Rat) - lvl lv s.v) / (rateOf md.rates s.v : Rat))), ?_⟩
    unfold swWait
    rw [if_pos c]
    rcases c with ⟨c1, c2⟩ | ⟨c1, c2⟩
    · simp [b_wait_for_1, c1, e1, e2, c2, whole_ok, mi, ov, lt, encP, encWh]
    · have c3 : ¬ 0 < rateOf md.rates s.v := by omega
      simp [b_wait_for_1, c1, e1, e2, c2, c3, whole_ok, mi, ov, lt, encP, encWh]
  · refine ⟨s10, ?_⟩
    unfold swWait
    rw [if_neg c]
    cases hu : s.up with
    | true =>
      have c3 : ¬ 0 < rateOf md.rates s.v := fun z => c (.inl ⟨hu, z⟩)
      simp [b_wait_for_1, e1, c3]
    | false =>
      have c3 : ¬ rateOf md.rates s.v < 0 := fun z => c (.inr ⟨hu, z⟩)
      simp [b_wait_for_1, e1, c3]
theorem wait_2 {k : Nat} {a1 s7 s8 s9 s10 s12 s13 : Sl} (hw : okW w) (h : Lv n w lv) (md : Md) (hm : okM w.brims w.modes.length md) (ws : List D) (hl : ws.length ≤ 1000) (r : Int) (i : Nat) (hi : md.rates[i]? = some r) :
    exB (runF tab (k + 4)) b_wait_for_2 (EW w a1 lv md ws (.val (.int i)) s7 s8 s9 s10 (.val (.int r)) s12 s13) =
      .nx (EW w a1 lv md (ws ++ (ovWait w.brims lv (r, i)).map encP) (.val (.int i)) s7 s8 s9 s10 (.val (.int r)) s12 s13) := by
  have sl := sizeLine_big
  have lt : ws.length < sizeLine := by omega
  have il : i < md.rates.length := by
    rcases Nat.lt_or_ge i md.rates.length with q | q
    · exact q
    · rw [List.getElem?_eq_none q] at hi; cases hi
  have lb := hm.2.1
  have v1 : (0 : Int) ≤ (i : Int) := by omega
  have v2 : (i : Int) ≤ (w.brims.length : Int) - 1 := by omega
  have rb : -99 ≤ r ∧ r ≤ 99 := hm.1 r (List.mem_of_getElem? hi)
  obtain ⟨e2, d2, l2, u2⟩ := h.at v1 v2
  have eb := atI_pos (d := (0 : Int)) (xs := w.brims) (i := (i : Int)) v1 (by omega)
  have bb := hw.1 _ (getD_mem (d := 0) (show i < w.brims.length by omega))
  have ti : ((i : Int)).toNat = i := by omega
  have lvi : lvl lv (i : Int) = lv.getD i 0 := by unfold lvl; rw [ti]
  rw [ti] at eb
  obtain ⟨dd, da, db⟩ := h.diff v1 v2 (show 0 ≤ w.brims.getD i 0 by omega) bb.2
  have sml : Sm (lvl lv (i : Int)) := h.ok.sm _ (by have := h.len; exact getD_mem (by omega))
  have mi := minus_ok (k := k + 1) (w.brims.getD i 0 : Rat) (lvl lv i) (sm_int (by omega)) sml
  rw [lvi] at e2 dd da db sml mi
  by_cases c : 0 < r
  · have rq : (r : Rat) ≠ 0 := by intro z; have : r = 0 := by exact_mod_cast z
                                  omega
    have ov := over_ok (k := k + 1) ((w.brims.getD i 0 : Rat) - lv.getD i 0) (r : Rat) (sm_diff h dd da db) (sm_int (by omega)) rq
    have c2 : ¬ r < 0 := by omega
    simp only [List.getD_eq_getElem?_getD] at e2 eb mi ov
    simp [b_wait_for_2, ovWait, c, c2, e2, eb, whole_ok, mi, ov, lt, encP, encWh]
  · by_cases c2 : r < 0
    · have rq : ((0 - r : Int) : Rat) ≠ 0 := by intro z; have : 0 - r = 0 := by exact_mod_cast z
                                                omega
      have ov := over_ok (k := k + 1) (lv.getD i 0) ((0 - r : Int) : Rat) sml (sm_int (by omega)) rq
      simp only [List.getD_eq_getElem?_getD] at e2 ov
      simp at ov
      simp [b_wait_for_2, ovWait, c, c2, e2, whole_ok, ov, lt, encP, encWh]
    · simp [b_wait_for_2, ovWait, c, c2]
end
@[simp] theorem encP_set (p : Rat × Wh) (ts : List Tg) (ρ : PF.Env) : setT (.tup ts) (encP p) ρ = setTs ts [encQ p.1, encWh p.2] ρ := setT_tup ρ _ _
@[simp] theorem encP_0 (p : Rat × Wh) : ixD (.d (encP p)) (.d (.int 0)) = .ok (.d (encQ p.1)) := rfl
@[simp] theorem encP_1 (p : Rat × Wh) : ixD (.d (encP p)) (.d (.int 1)) = .ok (.d (encWh p.2)) := rfl
@[simp] theorem eq_QQ (x y : Rat) : cmpD .Eq (.d (encQ x)) (.d (encQ y)) = .ok (.d (.bool (decide (x = y)))) := by
  rw [eq_lay (lay_Q x) (lay_Q y) (by omega) (by omega)]
  show M.ok (R.d (.bool (PyData.eqv (encQ x) (encQ y)))) = _
  rw [eqv_Q]
theorem waits_sm {n : Nat} {w : Wk} {lv : List Rat} (hw : okW w) (h : Lv n w lv) {m : Int} (hm : 0 ≤ m ∧ m < w.modes.length) : ∀ p ∈ waitsQ w lv m, Sm p.1 := by
  have om := hw.2.2.2.1 _ (show w.md m ∈ w.modes from getD_mem (by omega))
  intro p hp
  unfold waitsQ at hp
  rcases List.mem_append.mp hp with q | q
  · obtain ⟨s, hs, e⟩ := List.mem_filterMap.mp q
    unfold swWait at e
    split at e
    · rename_i c
      cases e
      have os := om.2.2.2 s hs
      obtain ⟨v1, v2⟩ := os.1
      obtain ⟨m1, m2⟩ := mark_999 hw os
      obtain ⟨_, r1, r2⟩ := rate_ok om v1 v2
      obtain ⟨dd, da, db⟩ := h.diff v1 v2 m1 m2
      exact sm_quot h (by omega) (by omega) dd da db
    · cases e
  · obtain ⟨⟨r, i⟩, hr, e⟩ := List.mem_flatMap.mp q
    have hz := List.mem_zipIdx hr
    have rb : -99 ≤ r ∧ r ≤ 99 := om.1 r (by rw [hz.2.2]; exact List.getElem_mem _)
    have lb := om.2.1
    have v1 : (0 : Int) ≤ (i : Int) := by omega
    have v2 : (i : Int) ≤ (w.brims.length : Int) - 1 := by omega
    have bb := hw.1 _ (getD_mem (d := 0) (show i < w.brims.length by omega))
    have ti : ((i : Int)).toNat = i := by omega
    have lvi : lvl lv (i : Int) = lv.getD i 0 := by unfold lvl; rw [ti]
    obtain ⟨dd, da, db⟩ := h.diff v1 v2 (show 0 ≤ w.brims.getD i 0 by omega) bb.2
    obtain ⟨e2, d2, l2, u2⟩ := h.at v1 v2
    rw [lvi] at dd da db d2 l2 u2
    unfold ovWait at e
    split at e
    · rename_i c
      cases List.mem_singleton.mp e
      exact sm_quot h (by omega) (by omega) dd da db
    · split at e
      · rename_i c
        cases List.mem_singleton.mp e
        exact sm_quot h (by omega) (by omega) d2 (by grind) u2
      · cases e
def waitD (o : Option (Rat × Wh)) : D := match o with
  | none => .none
  | some p => encP p
theorem wait_for_ok {k n : Nat} {w : Wk} {lv : List Rat} (hw : okW w) (h : Lv n w lv) (m : Int) (hm : 0 ≤ m ∧ m < w.modes.length) : runF tab (k + 5) i_wait_for [encW w, .int m, encL lv] = .ok (.d (waitD (waitQ w lv m))) := by
  rw [runF_of tab_wait_for rfl]
  have om := hw.2.2.2.1 _ (show w.md m ∈ w.modes from getD_mem (by omega))
  have em : L2.atI w.modes m = some (w.md m) := atI_pos (d := (⟨[], []⟩ : Md)) hm.1 hm.2
  have s6 := om.2.2.1
  have r4 := om.2.1
  have b4 := hw.2.1.2
  obtain ⟨md, hmd⟩ : ∃ md, md = w.md m := ⟨_, rfl⟩
  rw [← hmd] at om em s6 r4
  obtain ⟨ρ1, e1, t6, t7, t8, t9, t10, J1⟩ := forD_inv (tg := .tup [.name 6, .name 7, .name 8, .name 9]) (b := exB (runF tab (k + 4)) b_wait_for_1) encS
    (fun done ρ => ∃ t6 t7 t8 t9 t10 : Sl, ρ = EW w (.val (.int m)) lv md ((done.filterMap (swWait lv md.rates)).map encP) t6 t7 t8 t9 t10 .no .no .no)
    md.sws (EW w (.val (.int m)) lv md [] .no .no .no .no .no .no .no .no) ⟨_, _, _, _, _, rfl⟩ (by
      intro done s rest ρ hd ⟨t6, t7, t8, t9, t10, q⟩
      subst q
      have dl : done.length ≤ 6 := by have := congrArg List.length hd; simp at this; omega
      have fl := List.length_filterMap_le (swWait lv md.rates) done
      obtain ⟨u10, g⟩ := wait_1 (k := k + 1) (a1 := .val (.int m)) (s10 := t10) (s11 := .no) (s12 := .no) (s13 := .no) hw h md om ((done.filterMap (swWait lv md.rates)).map encP) (by rw [List.length_map]; omega) s (om.2.2.2 s (by rw [hd]; simp))
      have e : (done ++ [s]).filterMap (swWait lv md.rates) = done.filterMap (swWait lv md.rates) ++ (swWait lv md.rates s).toList := by
        rw [List.filterMap_append]
        cases q : swWait lv md.rates s <;> simp [q]
      refine ⟨_, _, by simp, .inl g, .val (.int s.v), .val (wayD s.up), .val (.int s.mark), .val (.int s.to), u10, ?_⟩
      rw [e, List.map_append]
      cases swWait lv md.rates s <;> rfl)
  subst J1
  obtain ⟨ws1, hws1⟩ : ∃ x, x = md.sws.filterMap (swWait lv md.rates) := ⟨_, rfl⟩
  rw [← hws1] at e1
  have fl : ws1.length ≤ 6 := by rw [hws1]; exact Nat.le_trans (List.length_filterMap_le _ _) s6
  obtain ⟨ρ2, e2, u6, u11, J2⟩ := forD_inv (tg := .tup [.name 6, .name 11]) (b := exB (runF tab (k + 4)) b_wait_for_2) (fun p : Int × Nat => PyData.tuple [.int p.2, .int p.1])
    (fun done ρ => ∃ t6 t11 : Sl, ρ = EW w (.val (.int m)) lv md ((ws1 ++ done.flatMap (ovWait w.brims lv)).map encP) t6 t7 t8 t9 t10 t11 .no .no)
    md.rates.zipIdx (EW w (.val (.int m)) lv md (ws1.map encP) t6 t7 t8 t9 t10 .no .no .no) ⟨_, _, by simp; exact ⟨rfl, rfl⟩⟩ (by
      intro done p rest ρ hd ⟨t6, t11, q⟩
      subst q
      have dl : done.length ≤ 4 := by have := congrArg List.length hd; simp at this; omega
      have fl2 : (done.flatMap (ovWait w.brims lv)).length ≤ 4 := by
        refine Nat.le_trans (m := done.length) ?_ dl
        clear hd dl
        induction done with
        | nil => simp
        | cons x r ih =>
          rw [List.flatMap_cons, List.length_append, List.length_cons]
          have : (ovWait w.brims lv x).length ≤ 1 := by
            unfold ovWait
            split
            · simp
            · split <;> simp
          omega
      have hp : p ∈ md.rates.zipIdx := by rw [hd]; simp
      have hz := List.mem_zipIdx hp
      have hi : md.rates[p.2]? = some p.1 := by
        have : p.2 < md.rates.length := by omega
        rw [List.getElem?_eq_getElem this, hz.2.2]
        simp
      have g := wait_2 (k := k) (a1 := .val (.int m)) (s7 := t7) (s8 := t8) (s9 := t9) (s10 := t10) (s12 := .no) (s13 := .no) hw h md om ((ws1 ++ done.flatMap (ovWait w.brims lv)).map encP) (by rw [List.length_map, List.length_append]; omega) p.1 p.2 hi
      refine ⟨_, _, by simp, .inl g, .val (.int p.2), .val (.int p.1), ?_⟩
      rw [List.flatMap_append, ← List.append_assoc, List.map_append (l₂ := [p].flatMap _)]
      simp)
  subst J2
  have eW : ws1 ++ md.rates.zipIdx.flatMap (ovWait w.brims lv) = waitsQ w lv m := by rw [hws1, hmd]; rfl
  rw [eW] at e2
  have sm := waits_sm hw h hm
  simp [f_wait_for, startE, em, ← hmd]
  rw [e1]
  simp
  rw [enumD_map, e2]
  cases hws : waitsQ w lv m with
  | nil => simp [waitQ, hws, waitD]
  | cons p ps =>
    rw [hws] at sm
    have sm2 : ∀ y ∈ p.1 :: ps.map (·.1), Sm y := by
      intro y hy
      rcases List.mem_cons.mp hy with q | q
      · rw [q]; exact sm p (by simp)
      · obtain ⟨z, hz, rfl⟩ := List.mem_map.mp q
        exact sm z (by simp [hz])
    have lo := least_ok (k := k + 2) p.1 (ps.map (·.1)) sm2
    obtain ⟨so, hso⟩ : ∃ so, so = leastQ p.1 (ps.map (·.1)) := ⟨_, rfl⟩
    have ex : ∃ q, (p :: ps).find? (fun q => decide (q.1 = so)) = some q ∧ ((p :: ps).filter fun q => decide (q.1 = so)).head? = some q := by
      have hh : ((p :: ps).filter fun q => decide (q.1 = so)).head? = (p :: ps).find? fun q => decide (q.1 = so) := List.head?_filter
      cases hf : (p :: ps).find? fun q => decide (q.1 = so) with
      | some q => exact ⟨q, rfl, by rw [hh, hf]⟩
      | none =>
        exfalso
        have no := List.find?_eq_none.mp hf
        rcases leastQ_mem (ps.map (·.1)) p.1 with c | c
        · exact no p (by simp) (by rw [hso, c]; simp)
        · obtain ⟨z, hz, e⟩ := List.mem_map.mp c
          exact no z (by simp [hz]) (by rw [hso, ← e]; simp)
    obtain ⟨q, q1, q2⟩ := ex
    have wq : waitQ w lv m = some q := by
      unfold waitQ
      rw [hws]
      show (p :: ps).find? (fun q => decide (q.1 = leastQ p.1 (ps.map (·.1)))) = some q
      rw [← hso, q1]
    rw [wq]
    simp only [Ctl.seq_nx]
    simp
    have c1 : ∀ ρ : PF.Env, ρ.length = 14 → compD (Tg.tup [Tg.name 10, Tg.name 13]) (evc (runF tab (k + 4)) []) (evT (runF tab (k + 4)) (CE.var 10)) ρ ((p :: ps).map encP) = .ok ((p :: ps).map fun p => encQ p.1) := by
      intro ρ hρ
      refine compD_map1 encP (fun p => encQ p.1) _ ?_
      intro x hx
      refine ⟨(ρ.set 10 (.val (encQ x.1))).set 13 (.val (encWh x.2)), by simp, by simp, ?_⟩
      simp [hρ]
    simp only [List.map_cons] at c1
    rw [c1 _ (by simp)]
    have e3 : encQ p.1 :: List.map (fun p => encQ p.1) ps = (p.1 :: ps.map (·.1)).map encQ := by simp
    rw [e3]
    simp only [M.bind_ok, R.toD_o, M.toD_ok, lo, ← hso]
    simp
    have c2 : ∀ ρ : PF.Env, ρ.length = 14 → ρ[12]? = some (.val (encQ so)) → compD (Tg.tup [Tg.name 10, Tg.name 13]) (evc (runF tab (k + 4)) [CE.cmp CmpOp.Eq (CE.var 10) (CE.var 12)]) (evT (runF tab (k + 4)) (CE.tup [CE.var 10, CE.var 13])) ρ ((p :: ps).map encP) = .ok (((p :: ps).filter fun q => decide (q.1 = so)).map encP) := by
      intro ρ hρ h12
      have h12 : ρ[12]'(by omega) = .val (encQ so) := by
        rw [List.getElem?_eq_getElem (by omega)] at h12
        exact Option.some.inj h12
      refine compD_map encP (fun q => decide (q.1 = so)) encP _ ?_
      intro x hx
      refine ⟨(ρ.set 10 (.val (encQ x.1))).set 13 (.val (encWh x.2)), by simp, ?_, ?_⟩
      · simp [hρ, h12]
      · intro _
        simp [hρ]
        rfl
    simp only [List.map_cons] at c2
    rw [c2 _ (by simp) (by simp)]
    obtain ⟨r, hr⟩ : ∃ r, ((p :: ps).filter fun q => decide (q.1 = so)) = q :: r := by
      cases hh : (p :: ps).filter fun q => decide (q.1 = so) with
      | nil => rw [hh] at q2; cases q2
      | cons x r => rw [hh] at q2; cases q2; exact ⟨r, rfl⟩
    rw [hr]
    simp [waitD]
theorem start_ok {k : Nat} (w : Wk) : runF tab (k + 2) i_start [encW w] = .ok (.d (.tuple [.int w.at_, encL (w.levels.map fun (l : Int) => (l : Rat))])) := by
  rw [runF_of tab_start rfl]
  simp [f_start, startE]
  rw [compD_map1 PyData.int (fun (l : Int) => encQ (l : Rat))]
  · simp [encL]
  · intro x hx
    simp [whole_ok]
end PF

end

section
/-! P9: levels after a wait. -/
namespace PF
open PySem PySem.Spec PyProof.Rows L2
def afterQ (lv : List Rat) (rs : List Int) (t : Rat) : List Rat := (lv.zip rs).map fun p => p.1 + (p.2 : Rat) * t
theorem zip_enc (lv : List Rat) (rs : List Int) : ((lv.map encQ).zip (rs.map PyData.int)).map (fun p => PyData.tuple [p.1, p.2]) = (lv.zip rs).map fun p => PyData.tuple [encQ p.1, .int p.2] := by
  rw [List.zip_map, List.map_map]
  rfl
theorem levels_after_ok {k : Nat} {w : Wk} (lv : List Rat) (m : Int) (t : Rat) (hw : okW w) (hm : 0 ≤ m ∧ m < w.modes.length) (st : Sm t) (sl : ∀ l ∈ lv, Sm l) (sr : ∀ r ∈ (w.md m).rates, Sm ((r : Rat) * t)) :
    runF tab (k + 4) i_levels_after [encW w, .int m, encL lv, encQ t] = .ok (.d (encL (afterQ lv (w.md m).rates t))) := by
  rw [runF_of tab_levels_after rfl]
  have em : L2.atI w.modes m = some (w.md m) := atI_pos (d := (⟨[], []⟩ : Md)) hm.1 hm.2
  have om := hw.2.2.2.1 _ (show w.md m ∈ w.modes from getD_mem (by omega))
  simp [f_levels_after, startE, em]
  rw [zip_enc, compD_map1 (fun p : Rat × Int => PyData.tuple [encQ p.1, .int p.2]) (fun p => encQ (p.1 + (p.2 : Rat) * t))]
  · simp [encL, afterQ]
  · intro p hp
    obtain ⟨h1, h2⟩ := List.of_mem_zip (a := p.1) (b := p.2) hp
    have rb := om.1 _ h2
    have ti := times_ok (k := k) (p.2 : Rat) t (sm_int (by omega)) st
    have pl := plus_ok (k := k) p.1 ((p.2 : Rat) * t) (sl _ h1) (sr _ h2)
    simp [whole_ok, ti, pl]
/-- levels within the brims -/
structure Lw (n : Nat) (w : Wk) (lv : List Rat) : Prop where
  l0 : Lv n w lv
  br : ∀ i, i < w.brims.length → lv.getD i 0 ≤ (w.brims.getD i 0 : Rat)
def noneMet (w : Wk) (lv : List Rat) (m : Int) : Prop := ∀ s ∈ (w.md m).sws, metQ lv s = false
theorem div_nonneg {x : Rat} {r : Int} (h : (0 ≤ x ∧ 0 < r) ∨ (x ≤ 0 ∧ r < 0)) : 0 ≤ x / (r : Rat) := by
  have pos : ∀ (x : Rat) (r : Int), 0 ≤ x → 0 < r → 0 ≤ x / (r : Rat) := by
    intro x r h0 hr
    have hq : (0 : Rat) < (r : Rat) := by exact_mod_cast hr
    refine Rat.not_lt.mp fun z => ?_
    have e : x / (r : Rat) * (r : Rat) = x := Rat.div_mul_cancel (by intro z; rw [z] at hq; exact Rat.lt_irrefl hq)
    have := Rat.mul_lt_mul_of_pos_right z hq
    grind
  rcases h with ⟨a, b⟩ | ⟨a, b⟩
  · exact pos x r a b
  · have q := pos (-x) (-r) (by grind) (by omega)
    have e : -x / ((-r : Int) : Rat) = x / (r : Rat) := by
      rw [Rat.intCast_neg]
      have hq : (r : Rat) ≠ 0 := by intro z; have : r = 0 := by exact_mod_cast z
                                    omega
      grind
    rw [e] at q
    exact q
/-- each wait: a quotient over one rate, from 0 to 999 -/
theorem waits_far {n : Nat} {w : Wk} {lv : List Rat} (hw : okW w) (h : Lw n w lv) {m : Int} (hm : 0 ≤ m ∧ m < w.modes.length) (nm : noneMet w lv m) : ∀ p ∈ waitsQ w lv m, 0 ≤ p.1 ∧ p.1 ≤ 999 ∧ ∃ r : Int, r ≠ 0 ∧ r.natAbs ≤ 99 ∧ Dn (n * r.natAbs) p.1 := by
  have om := hw.2.2.2.1 _ (show w.md m ∈ w.modes from getD_mem (by omega))
  intro p hp
  unfold waitsQ at hp
  rcases List.mem_append.mp hp with q | q
  · obtain ⟨s, hs, e⟩ := List.mem_filterMap.mp q
    unfold swWait at e
    split at e
    · rename_i c
      cases e
      have os := om.2.2.2 s hs
      obtain ⟨v1, v2⟩ := os.1
      obtain ⟨m1, m2⟩ := mark_999 hw os
      obtain ⟨_, r1, r2⟩ := rate_ok om v1 v2
      obtain ⟨dd, da, db⟩ := h.l0.diff v1 v2 m1 m2
      have rn : rateOf (w.md m).rates s.v ≠ 0 := by omega
      have met := nm s hs
      refine ⟨div_nonneg ?_, (div_bound rn (by decide +kernel) da db).2, _, rn, by omega, dd.div rn⟩
      rcases c with ⟨c1, c2⟩ | ⟨c1, c2⟩
      · refine .inl ⟨?_, c2⟩
        unfold metQ at met
        rw [if_pos c1] at met
        have : lvl lv s.v < (s.mark : Rat) := by simpa using met
        grind
      · refine .inr ⟨?_, c2⟩
        unfold metQ at met
        rw [if_neg (by rw [c1]; simp)] at met
        have : (s.mark : Rat) < lvl lv s.v := by simpa using met
        grind
    · cases e
  · obtain ⟨⟨r, i⟩, hr, e⟩ := List.mem_flatMap.mp q
    have hz := List.mem_zipIdx hr
    have rb : -99 ≤ r ∧ r ≤ 99 := om.1 r (by rw [hz.2.2]; exact List.getElem_mem _)
    have lb := om.2.1
    have v1 : (0 : Int) ≤ (i : Int) := by omega
    have v2 : (i : Int) ≤ (w.brims.length : Int) - 1 := by omega
    have bb := hw.1 _ (getD_mem (d := 0) (show i < w.brims.length by omega))
    have ti : ((i : Int)).toNat = i := by omega
    have lvi : lvl lv (i : Int) = lv.getD i 0 := by unfold lvl; rw [ti]
    obtain ⟨dd, da, db⟩ := h.l0.diff v1 v2 (show 0 ≤ w.brims.getD i 0 by omega) bb.2
    obtain ⟨e2, d2, l2, u2⟩ := h.l0.at v1 v2
    have lb2 := h.br i (by omega)
    rw [lvi] at dd da db d2 l2 u2
    unfold ovWait at e
    split at e
    · rename_i c
      cases List.mem_singleton.mp e
      have rn : r ≠ 0 := by dsimp only at c; omega
      exact ⟨div_nonneg (.inl ⟨by grind, c⟩), (div_bound rn (by decide +kernel) da db).2, r, rn, by omega, dd.div rn⟩
    · split at e
      · rename_i c
        cases List.mem_singleton.mp e
        have rn : 0 - r ≠ 0 := by dsimp only at c; omega
        exact ⟨div_nonneg (.inl ⟨l2, by dsimp only at c; omega⟩), (div_bound rn (by decide +kernel) (by grind) u2).2, 0 - r, rn, by omega, d2.div rn⟩
      · cases e
theorem waitQ_mem {w : Wk} {lv : List Rat} {m : Int} {p : Rat × Wh} (h : waitQ w lv m = some p) : p ∈ waitsQ w lv m ∧ ∀ q ∈ waitsQ w lv m, p.1 ≤ q.1 := by
  unfold waitQ at h
  split at h
  · cases h
  · rename_i p0 ps e
    rw [e]
    have m1 := List.mem_of_find?_eq_some h
    have m2 := List.find?_some h
    refine ⟨m1, ?_⟩
    have m2 : p.1 = leastQ p0.1 (ps.map (·.1)) := by simpa using m2
    obtain ⟨a, b⟩ := leastQ_le (ps.map (·.1)) p0.1
    intro q hq
    rw [m2]
    rcases List.mem_cons.mp hq with rfl | hq
    · exact a
    · exact b _ (List.mem_map_of_mem hq)
theorem after_at {lv : List Rat} {rs : List Int} {t : Rat} {i : Nat} (h1 : i < lv.length) (h2 : i < rs.length) : (afterQ lv rs t).getD i 0 = lv.getD i 0 + (rs.getD i 0 : Rat) * t := by
  unfold afterQ
  have hz : i < (lv.zip rs).length := by rw [List.length_zip]; omega
  rw [List.getD_eq_getElem?_getD, List.getElem?_map, List.getElem?_eq_getElem hz, List.getElem_zip]
  simp [h1, h2]
theorem after_len {lv : List Rat} {rs : List Int} {t : Rat} (h : lv.length = rs.length) : (afterQ lv rs t).length = lv.length := by
  unfold afterQ
  rw [List.length_map, List.length_zip]
  omega
theorem mem_getD' {α : Type} {xs : List α} {x : α} (d : α) (h : x ∈ xs) : ∃ i, i < xs.length ∧ x = xs.getD i d := by
  obtain ⟨i, hi, e⟩ := List.getElem_of_mem h
  exact ⟨i, hi, by rw [List.getD_eq_getElem?_getD, List.getElem?_eq_getElem hi]; exact e.symm⟩
theorem le_div {a x : Rat} {r : Int} (h : a ≤ x / (r : Rat)) (hr : 0 < r) : (r : Rat) * a ≤ x := by
  have hq : (0 : Rat) < (r : Rat) := by exact_mod_cast hr
  have e : x / (r : Rat) * (r : Rat) = x := Rat.div_mul_cancel (by intro z; rw [z] at hq; exact Rat.lt_irrefl hq)
  have := Rat.mul_le_mul_of_nonneg_right h (Rat.le_of_lt hq)
  grind
/-- behind a wait the levels still lie in their brims -/
theorem after_lw {n : Nat} {w : Wk} {lv : List Rat} (hw : okW w) (h : Lw n w lv) {m : Int} (hm : 0 ≤ m ∧ m < w.modes.length) (nm : noneMet w lv m) {p : Rat × Wh} (hp : waitQ w lv m = some p) :
    0 ≤ p.1 ∧ p.1 ≤ 999 ∧ ∃ N : Nat, n ∣ N ∧ 0 < N ∧ N.log2 ≤ n.log2 + 7 ∧ Dn N p.1 ∧ (∀ r ∈ (w.md m).rates, Sm ((r : Rat) * p.1)) ∧ (N.log2 ≤ 3800 → Lw N w (afterQ lv (w.md m).rates p.1)) := by
  have om := hw.2.2.2.1 _ (show w.md m ∈ w.modes from getD_mem (by omega))
  obtain ⟨pm, pl⟩ := waitQ_mem hp
  obtain ⟨p0, p9, r, r0, r9, rd⟩ := waits_far hw h hm nm p pm
  have lr := om.2.1
  have ll := h.l0.len
  have np := h.l0.pos
  have Np : 0 < n * r.natAbs := Nat.mul_pos np (by omega)
  have lN : (n * r.natAbs).log2 ≤ n.log2 + 7 := by
    have l1 := log2_mul_le n r.natAbs
    have l2 : r.natAbs.log2 ≤ 6 := Nat.le_trans (log2_mono r9) (by decide +kernel)
    omega
  have ll0 := h.l0.log
  have rb : ∀ x ∈ (w.md m).rates, (-99 : Rat) ≤ (x : Rat) ∧ (x : Rat) ≤ 99 := fun x hx => by
    obtain ⟨a, b⟩ := om.1 x hx
    have e : ((-99 : Int) : Rat) = -99 := by decide +kernel
    exact ⟨by rw [← e]; exact Rat.intCast_le_intCast.mpr a, by exact_mod_cast b⟩
  refine ⟨p0, p9, n * r.natAbs, Nat.dvd_mul_right _ _, Np, lN, rd, ?_, ?_⟩
  · intro x hx
    obtain ⟨a, b⟩ := rb x hx
    refine sm_of (V := 98901) Np (rd.imul x) (by omega) (by decide +kernel) ?_ ?_
    · have := Rat.mul_le_mul_of_nonneg_right a p0
      have e : ((98901 : Nat) : Rat) = 99 * 999 := by decide +kernel
      rw [e]
      grind
    · have := Rat.mul_le_mul_of_nonneg_right b p0
      have e : ((98901 : Nat) : Rat) = 99 * 999 := by decide +kernel
      rw [e]
      grind
  · intro hN
    have lo : ∀ i, i < w.brims.length → 0 ≤ (afterQ lv (w.md m).rates p.1).getD i 0 ∧ (afterQ lv (w.md m).rates p.1).getD i 0 ≤ (w.brims.getD i 0 : Rat) := by
      intro i hi
      rw [after_at (by omega) (by omega)]
      have v1 : (0 : Int) ≤ (i : Int) := by omega
      have v2 : (i : Int) ≤ (w.brims.length : Int) - 1 := by omega
      have ti : ((i : Int)).toNat = i := by omega
      have lvi : lvl lv (i : Int) = lv.getD i 0 := by unfold lvl; rw [ti]
      obtain ⟨_, _, l2, u2⟩ := h.l0.at v1 v2
      rw [lvi] at l2 u2
      have lb := h.br i hi
      obtain ⟨x, hx⟩ : ∃ x, x = (w.md m).rates.getD i 0 := ⟨_, rfl⟩
      have zi : (x, i) ∈ (w.md m).rates.zipIdx := by
        rw [hx, List.getD_eq_getElem?_getD, List.getElem?_eq_getElem (by omega)]
        exact List.mem_zipIdx_iff_getElem?.mpr (by simp)
      rw [← hx]
      have sub : ∀ q ∈ ovWait w.brims lv (x, i), p.1 ≤ q.1 := fun q hq => pl q (by
        unfold waitsQ
        exact List.mem_append_right _ (List.mem_flatMap.mpr ⟨_, zi, hq⟩))
      unfold ovWait at sub
      by_cases c : 0 < x
      · have xq : (0 : Rat) < (x : Rat) := by exact_mod_cast c
        have s2 := sub _ (by dsimp only; rw [if_pos c]; exact List.mem_singleton_self _)
        have s3 := le_div s2 c
        have s4 := Rat.mul_nonneg (Rat.le_of_lt xq) p0
        constructor <;> grind
      · by_cases c2 : x < 0
        · have s2 := sub _ (by dsimp only; rw [if_neg c, if_pos c2]; exact List.mem_singleton_self _)
          have s3 := le_div s2 (by omega)
          have e : ((0 - x : Int) : Rat) = -(x : Rat) := by
            rw [show (0 - x : Int) = -x by omega, Rat.intCast_neg]
          rw [e] at s3
          have xq : (0 : Rat) < ((-x : Int) : Rat) := by exact_mod_cast (show (0 : Int) < -x by omega)
          rw [Rat.intCast_neg] at xq
          have s4 := Rat.mul_nonneg (Rat.le_of_lt xq) p0
          constructor <;> grind
        · have x0 : x = 0 := by omega
          subst x0
          have z : ((0 : Int) : Rat) = 0 := rfl
          rw [z]
          constructor <;> grind
    have al := after_len (t := p.1) (show lv.length = (w.md m).rates.length by omega)
    refine ⟨⟨Np, hN, by omega, ?_, ?_, ?_⟩, fun i hi => (lo i hi).2⟩
    · intro l hl
      obtain ⟨i, hi, rfl⟩ := mem_getD' 0 hl
      rw [after_at (by omega) (by omega)]
      exact (h.l0.dn _ (getD_mem (by omega))).mul.add (rd.imul _)
    · intro l hl
      obtain ⟨i, hi, rfl⟩ := mem_getD' 0 hl
      exact (lo i (by omega)).1
    · intro l hl
      obtain ⟨i, hi, rfl⟩ := mem_getD' 0 hl
      have b9 : (w.brims.getD i 0 : Rat) ≤ 999 := by
        have := (hw.1 _ (getD_mem (d := 0) (show i < w.brims.length by omega))).2
        exact_mod_cast this
      exact Rat.le_trans (lo i (by omega)).2 b9
end PF

end

section
/-! P10: the run. -/
namespace PF
open PySem PySem.Spec PyProof.Rows L2
structure Fl where
  t : Rat
  ms : List Int
  lv : List Rat
def encF (f : Fl) : D := .tuple [encQ f.t, encI f.ms, encL f.lv]
inductive En where
  | whirl (t : Rat) (ms : List Int) (lv : List Rat)
  | rest
  | over (t : Rat) (v : Nat) (b : Bool) (lv : List Rat)
def endD (b : Bool) : D := .str (if b = true then "brim" else "ground")
def encEn : Option En → D
  | none => .none
  | some (.whirl t ms lv) => .tuple [.str "whirl", encQ t, encI ms, encL lv]
  | some .rest => .tuple [.str "rest"]
  | some (.over t v b lv) => .tuple [.str "over", encQ t, .int v, endD b, encL lv]
def encRun (p : List Fl × Option En) : D := .tuple [.list (p.1.map encF), encEn p.2]
/-- the flows, then the end -/
def runQ (w : Wk) (most : Nat) : Nat → Int → Rat → List Rat → List Fl → List Fl × Option En
  | 0, _, _, _, found => (found, none)
  | n + 1, m, t, lv, found =>
    if (setQ w lv m).2 = true then (found, some (.whirl t (setQ w lv m).1 lv))
    else if found.length = most then (found, none)
    else match waitQ w lv ((setQ w lv m).1.getLastD 0) with
      | none => (found ++ [⟨t, (setQ w lv m).1, lv⟩], some .rest)
      | some (far, .ov v b) => (found ++ [⟨t, (setQ w lv m).1, lv⟩], some (.over (t + far) v b (afterQ lv (w.md ((setQ w lv m).1.getLastD 0)).rates far)))
      | some (far, .sw) => runQ w most n ((setQ w lv m).1.getLastD 0) (t + far) (afterQ lv (w.md ((setQ w lv m).1.getLastD 0)).rates far) (found ++ [⟨t, (setQ w lv m).1, lv⟩])
theorem settleQ_spec {w : Wk} (hw : okW w) (lv : List Rat) : ∀ (n : Nat) (pre : List Int) (m : Int), (∀ x ∈ pre ++ [m], 0 ≤ x ∧ x < w.modes.length) → ∃ (pre' : List Int) (m' : Int), (settleQ w lv n pre m).1 = pre' ++ [m'] ∧ (0 ≤ m' ∧ m' < w.modes.length) ∧ ((settleQ w lv n pre m).2 = false → noneMet w lv m')
  | 0, pre, m, h => ⟨pre, m, rfl, h m (by simp), fun z => by cases z⟩
  | n + 1, pre, m, h => by
    have hm := h m (by simp)
    have om := hw.2.2.2.1 _ (show w.md m ∈ w.modes from getD_mem (by omega))
    cases hf : (w.md m).sws.find? (metQ lv) with
    | none =>
      refine ⟨pre, m, by simp only [settleQ, hf], hm, fun _ s hs => ?_⟩
      have := List.find?_eq_none.mp hf s hs
      simpa using this
    | some s =>
      have os := (om.2.2.2 s (List.mem_of_find?_eq_some hf)).2.2
      by_cases c : s.to ∈ pre ++ [m]
      · refine ⟨pre ++ [m], s.to, by simp only [settleQ, hf, if_pos c], by omega, fun z => ?_⟩
        simp only [settleQ, hf, if_pos c] at z
        cases z
      · obtain ⟨p, m', h1, h2, h3⟩ := settleQ_spec hw lv n (pre ++ [m]) s.to (fun x hx => by
          rcases List.mem_append.mp hx with q | q
          · exact h x q
          · cases List.mem_singleton.mp q; omega)
        exact ⟨p, m', by simp only [settleQ, hf, if_neg c]; exact h1, h2, fun z => h3 (by simp only [settleQ, hf, if_neg c] at z; exact z)⟩
theorem setQ_spec {w : Wk} (hw : okW w) (lv : List Rat) (m : Int) (hm : 0 ≤ m ∧ m < w.modes.length) : ∃ (pre : List Int) (m' : Int), (setQ w lv m).1 = pre ++ [m'] ∧ (0 ≤ m' ∧ m' < w.modes.length) ∧ ((setQ w lv m).2 = false → noneMet w lv m') :=
  settleQ_spec hw lv 13 [] m (by simpa using hm)
@[simp] theorem isn_q (x : Rat) : isNoneD (encQ x) = false := rfl
@[simp] theorem isn_p (x : Rat × Wh) : isNoneD (encP x) = false := rfl
@[simp] theorem encF_0 (f : Fl) : ixD (.d (encF f)) (.d (.int 0)) = .ok (.d (encQ f.t)) := rfl
@[simp] theorem encF_1 (f : Fl) : ixD (.d (encF f)) (.d (.int 1)) = .ok (.d (encI f.ms)) := rfl
@[simp] theorem encF_2 (f : Fl) : ixD (.d (encF f)) (.d (.int 2)) = .ok (.d (encL f.lv)) := rfl
theorem over_sw : cmpD .Eq (.d (.str "switch")) (.d (.str "over")) = .ok (.d (.bool false)) := (M.chk_pos ⟨by decide +kernel, by decide +kernel⟩).trans (by rw [boolR_eq]; congr 3)
theorem over_ov : cmpD .Eq (.d (.str "over")) (.d (.str "over")) = .ok (.d (.bool true)) := (M.chk_pos ⟨by decide +kernel, by decide +kernel⟩).trans (by rw [boolR_eq]; congr 3)
theorem run_loop {k : Nat} {w : Wk} (hw : okW w) (most : Nat) (h400 : most ≤ 400) : ∀ (n N : Nat) (m : Int) (t : Rat) (lv : List Rat) (found : List Fl) (s6 s7 : Sl),
    most < n + found.length → found.length ≤ most → (0 ≤ m ∧ m < w.modes.length) → Lw N w lv → Dn N t → N.log2 ≤ 7 * found.length → 0 ≤ t → t ≤ 999 * (found.length : Rat) →
    whlD (tst (runF tab (k + 5)) (.con (.bool true))) (exB (runF tab (k + 5)) b_run_1) [.val (encW w), .val (.int most), .val (.int m), .val (encL lv), .val (encQ t), .own (found.map encF), s6, s7] = .rt (.d (encRun (runQ w most n m t lv found)))
  | 0, N, m, t, lv, found, s6, s7, h1, h2, hm, hl, ht, hN, t0, t9 => by omega
  | n + 1, N, m, t, lv, found, s6, s7, h1, h2, hm, hl, ht, hN, t0, t9 => by
    rw [whlD_step]
    have tt : tst (runF tab (k + 5)) (.con (.bool true)) [.val (encW w), .val (.int most), .val (.int m), .val (encL lv), .val (encQ t), .own (found.map encF), s6, s7] = .ok true := by simp
    rw [tt]
    simp only [M.ctl_ok, if_pos]
    have se := settled_ok (k := k + 2) w hw lv hl.l0.ok m hm
    obtain ⟨pre, m', p1, p2, p3⟩ := setQ_spec hw lv m hm
    have sl := sizeLine_big
    have lt : found.length < sizeLine := by omega
    by_cases wh : (setQ w lv m).2 = true
    · have e : encSet (setQ w lv m) = .o ((setQ w lv m).1.map PyData.int ++ [.none]) := by unfold encSet; rw [if_pos wh]
      have la : L2.atI ((setQ w lv m).1.map PyData.int ++ [PyData.none]) (-1) = some .none := atI_last _ _
      rw [e] at se
      have st : exB (runF tab (k + 5)) b_run_1 [.val (encW w), .val (.int most), .val (.int m), .val (encL lv), .val (encQ t), .own (found.map encF), s6, s7] = .rt (.d (encRun (runQ w most (n + 1) m t lv found))) := by
        simp [b_run_1, se, la, cut_last]
        simp [runQ, wh, encRun, encEn, encI]
      rw [st]
    · have wh' : (setQ w lv m).2 = false := by simpa using wh
      have e : encSet (setQ w lv m) = .o ((pre ++ [m']).map PyData.int) := by unfold encSet; rw [if_neg wh, p1]; simp
      have la : L2.atI (pre.map PyData.int ++ [PyData.int m']) (-1) = some (.int m') := atI_last _ _
      have gl : (setQ w lv m).1.getLastD 0 = m' := by rw [p1]; simp
      rw [e] at se
      simp only [List.map_append, List.map_cons, List.map_nil] at se
      have nm := p3 wh'
      by_cases cm : found.length = most
      · have cm' : ((found.length : Nat) : Int) = (most : Int) := by omega
        have st : exB (runF tab (k + 5)) b_run_1 [.val (encW w), .val (.int most), .val (.int m), .val (encL lv), .val (encQ t), .own (found.map encF), s6, s7] = .rt (.d (encRun (runQ w most (n + 1) m t lv found))) := by
          simp [b_run_1, se, la, cm']
          simp [runQ, wh', cm, encRun, encEn]
        rw [st]
      · have cm' : ¬ ((found.length : Nat) : Int) = (most : Int) := by omega
        have wa := wait_for_ok (k := k) hw hl.l0 m' p2
        have t_sm : Sm t := sm_of (V := 399600) hl.l0.pos ht (by have := hl.l0.log; omega) (by decide +kernel) (by
            have : -((399600 : Nat) : Rat) ≤ 0 := by decide +kernel
            exact Rat.le_trans this t0) (by
            have a : (found.length : Rat) ≤ ((400 : Nat) : Rat) := by exact_mod_cast (show found.length ≤ 400 by omega)
            have e : ((399600 : Nat) : Rat) = 999 * ((400 : Nat) : Rat) := by decide +kernel
            rw [e]
            grind)
        have eF : PyData.tuple [encQ t, PyData.tuple (pre.map PyData.int ++ [PyData.int m']), encL lv] = encF ⟨t, (setQ w lv m).1, lv⟩ := by
          unfold encF
          rw [p1]
          simp [encI]
        cases hwt : waitQ w lv m' with
        | none =>
          rw [hwt] at wa
          have st : exB (runF tab (k + 5)) b_run_1 [.val (encW w), .val (.int most), .val (.int m), .val (encL lv), .val (encQ t), .own (found.map encF), s6, s7] = .rt (.d (encRun (runQ w most (n + 1) m t lv found))) := by
            have rq : runQ w most (n + 1) m t lv found = (found ++ [⟨t, (setQ w lv m).1, lv⟩], some .rest) := by
              rw [runQ, if_neg wh, if_neg cm, gl, hwt]
            rw [rq]
            simp [b_run_1, se, la, cm', wa, waitD, lt, eF]
            simp [encRun, encEn]
          rw [st]
        | some p =>
          obtain ⟨far, wt⟩ := p
          rw [hwt] at wa
          obtain ⟨f0, f9, N', d1, d2, d3, d4, d5, d6⟩ := after_lw hw hl p2 nm hwt
          have l38 : N'.log2 ≤ 3800 := by omega
          have far_sm : Sm far := sm_of (V := 999) d2 d4 (by omega) (by decide +kernel) (by
            have : -((999 : Nat) : Rat) ≤ 0 := by decide +kernel
            exact Rat.le_trans this f0) f9
          have pl := plus_ok (k := k + 2) t far t_sm far_sm
          have af := levels_after_ok (k := k + 1) lv m' far hw p2 far_sm hl.l0.ok.sm d5
          cases wt with
          | ov v b =>
            have st : exB (runF tab (k + 5)) b_run_1 [.val (encW w), .val (.int most), .val (.int m), .val (encL lv), .val (encQ t), .own (found.map encF), s6, s7] = .rt (.d (encRun (runQ w most (n + 1) m t lv found))) := by
              have rq : runQ w most (n + 1) m t lv found = (found ++ [⟨t, (setQ w lv m).1, lv⟩], some (.over (t + far) v b (afterQ lv (w.md m').rates far))) := by
                rw [runQ, if_neg wh, if_neg cm, gl, hwt]
              rw [rq]
              simp [b_run_1, se, la, cm', wa, waitD, lt, eF, pl, af, encP, encWh, over_ov]
              simp [encRun, encEn, endD]
            rw [st]
          | sw =>
            have rq : runQ w most (n + 1) m t lv found = runQ w most n m' (t + far) (afterQ lv (w.md m').rates far) (found ++ [⟨t, (setQ w lv m).1, lv⟩]) := by
              rw [runQ, if_neg wh, if_neg cm, gl, hwt]
            have st : exB (runF tab (k + 5)) b_run_1 [.val (encW w), .val (.int most), .val (.int m), .val (encL lv), .val (encQ t), .own (found.map encF), s6, s7] =
                .nx [.val (encW w), .val (.int most), .val (.int m'), .val (encL (afterQ lv (w.md m').rates far)), .val (encQ (t + far)), .own ((found ++ [(⟨t, (setQ w lv m).1, lv⟩ : Fl)]).map encF), .val (.list (pre.map PyData.int ++ [PyData.int m'])), .val (encP (far, .sw))] := by
              simp [b_run_1, se, la, cm', wa, waitD, lt, eF, pl, af, encP, encWh, over_sw]
            rw [st]
            simp only
            rw [rq]
            refine run_loop hw most h400 n N' m' (t + far) _ (found ++ [(⟨t, (setQ w lv m).1, lv⟩ : Fl)]) _ _ (by rw [List.length_append, List.length_singleton]; omega) (by rw [List.length_append, List.length_singleton]; omega) p2 (d6 l38) ?_ (by rw [List.length_append, List.length_singleton]; omega) (Rat.add_nonneg t0 f0) ?_
            · obtain ⟨q, hq⟩ := d1
              rw [hq] at d4 ⊢
              exact (ht.mul).add d4
            · rw [List.length_append, List.length_singleton, Rat.natCast_add]
              have : ((1 : Nat) : Rat) = 1 := rfl
              rw [this]
              grind
def lv0 (w : Wk) : List Rat := w.levels.map fun (l : Int) => (l : Rat)
def runW (w : Wk) (most : Nat) : List Fl × Option En := runQ w most (most + 1) w.at_ 0 (lv0 w) []
theorem lv0_at (w : Wk) {i : Nat} (h : i < w.levels.length) : (lv0 w).getD i 0 = (w.levels.getD i 0 : Rat) := by
  unfold lv0
  simp [h]
theorem lw0 {w : Wk} (hw : okW w) : Lw 1 w (lv0 w) := by
  have l7 := hw.2.2.2.2.2.2.1
  have len : (lv0 w).length = w.levels.length := by simp [lv0]
  refine ⟨⟨by omega, by decide +kernel, by omega, ?_, ?_, ?_⟩, ?_⟩
  · intro l hl
    obtain ⟨i, _, rfl⟩ := List.mem_map.mp hl
    exact Dn.int 1 i
  · intro l hl
    obtain ⟨i, hi, rfl⟩ := List.mem_map.mp hl
    have := (hw.2.2.2.2.2.1 i hi).1
    exact_mod_cast this
  · intro l hl
    obtain ⟨i, hi, rfl⟩ := List.mem_map.mp hl
    have := (hw.2.2.2.2.2.1 i hi).2
    exact_mod_cast this
  · intro i hi
    rw [lv0_at w (by omega)]
    have := hw.2.2.2.2.2.2.2 i (by simpa using hi)
    exact_mod_cast this
theorem run_ok {k : Nat} {w : Wk} (hw : okW w) (most : Nat) (h400 : most ≤ 400) : runF tab (k + 6) i_run [encW w, .int most] = .ok (.d (encRun (runW w most))) := by
  rw [runF_of tab_run rfl]
  have e := run_loop (k := k) hw most h400 (most + 1) 1 w.at_ 0 (lv0 w) [] .no .no (by simp) (by simp) (by have := hw.2.2.2.2.1; omega) (lw0 hw) (Dn.int 1 0) (by decide +kernel) Rat.le_refl (by simp)
  have s := start_ok (k := k + 3) w
  have z : encQ (((0 : Int) : Rat)) = encQ 0 := rfl
  simp only [List.map_nil] at e
  simp [f_run, startE, s, whole_ok, z]
  rw [show (w.levels.map fun (l : Int) => (l : Rat)) = lv0 w from rfl, e]
  simp [runW]
end PF

end

section
/-! P14: where a wait ends. -/
namespace PF
open PySem PySem.Spec PyProof.Rows L2
theorem zipIdx_at {α : Type} {xs : List α} {i : Nat} (d : α) (h : i < xs.length) : (xs.getD i d, i) ∈ xs.zipIdx := by
  rw [List.getD_eq_getElem?_getD, List.getElem?_eq_getElem h]
  exact List.mem_zipIdx_iff_getElem?.mpr (by simp)
section
variable {n : Nat} {w : Wk} {lv : List Rat}
theorem wait_first {m : Int} {far : Rat} {v : Nat} {b : Bool} (h : waitQ w lv m = some (far, .ov v b)) : ∀ p ∈ (w.md m).sws.filterMap (swWait lv (w.md m).rates), p.1 ≠ far := by
  intro p hp e
  obtain ⟨m1, m2⟩ := waitQ_mem h
  have q : waitQ w lv m = (waitsQ w lv m).find? fun q => decide (q.1 = far) := by
    unfold waitQ at h ⊢
    split at h
    · cases h
    · rename_i p0 ps e0
      rw [e0]
      have := List.find?_some h
      have so : far = leastQ p0.1 (ps.map (·.1)) := by simpa using this
      rw [so]
  rw [q] at h
  unfold waitsQ at h
  rw [List.find?_append] at h
  cases hf : ((w.md m).sws.filterMap (swWait lv (w.md m).rates)).find? fun q => decide (q.1 = far) with
  | none => exact List.find?_eq_none.mp hf p hp (by simp [e])
  | some x =>
    rw [hf] at h
    simp only [Option.some_or] at h
    cases h
    have mem := List.mem_of_find?_eq_some hf
    obtain ⟨s, hs, es⟩ := List.mem_filterMap.mp mem
    unfold swWait at es
    split at es
    · cases es
    · cases es
theorem after_lvl {m' : Int} (hl : lv.length = w.brims.length) (hr : (w.md m').rates.length = w.brims.length) {v : Int} (h0 : 0 ≤ v) (h1 : v ≤ (w.brims.length : Int) - 1) (t : Rat) : lvl (afterQ lv (w.md m').rates t) v = lvl lv v + (rateOf (w.md m').rates v : Rat) * t := after_at (by omega) (by omega)
theorem sw_cond {lv : List Rat} {rs : List Int} {s : Sw} (c : (s.up = true ∧ 0 < rateOf rs s.v) ∨ (s.up = false ∧ rateOf rs s.v < 0)) : swWait lv rs s = some (((s.mark : Rat) - lvl lv s.v) / (rateOf rs s.v : Rat), .sw) := if_pos c
theorem div_le_of {a x : Rat} {r : Int} (hr : (0 < r ∧ x ≤ (r : Rat) * a) ∨ (r < 0 ∧ (r : Rat) * a ≤ x)) : x / (r : Rat) ≤ a := by
  have pos : ∀ (x : Rat) (r : Int), 0 < r → x ≤ (r : Rat) * a → x / (r : Rat) ≤ a := by
    intro x r hr h
    have hq : (0 : Rat) < (r : Rat) := by exact_mod_cast hr
    have e : x / (r : Rat) * (r : Rat) = x := Rat.div_mul_cancel (by intro z; rw [z] at hq; exact Rat.lt_irrefl hq)
    refine Rat.not_lt.mp fun z => ?_
    have := Rat.mul_lt_mul_of_pos_right z hq
    grind
  rcases hr with ⟨h1, h2⟩ | ⟨h1, h2⟩
  · exact pos x r h1 h2
  · have q := pos (-x) (-r) (by omega) (by rw [Rat.intCast_neg]; grind)
    have e : -x / ((-r : Int) : Rat) = x / (r : Rat) := by
      rw [Rat.intCast_neg]
      have hq : (r : Rat) ≠ 0 := by intro z; have : r = 0 := by exact_mod_cast z
                                    omega
      grind
    rw [e] at q
    exact q
theorem over_none (hw : okW w) (h : Lw n w lv) {m : Int} (hm : 0 ≤ m ∧ m < w.modes.length) (nm : noneMet w lv m) {far : Rat} {v : Nat} {b : Bool} (hq : waitQ w lv m = some (far, .ov v b)) : ∀ s ∈ (w.md m).sws, metQ (afterQ lv (w.md m).rates far) s = false := by
  have om := hw.2.2.2.1 _ (show w.md m ∈ w.modes from getD_mem (by omega))
  obtain ⟨wm, wl⟩ := waitQ_mem hq
  obtain ⟨f0, _⟩ := waits_far hw h hm nm _ wm
  have first := wait_first hq
  intro s hs
  have os := om.2.2.2 s hs
  obtain ⟨v1, v2⟩ := os.1
  have al := after_lvl (m' := m) h.l0.len om.2.1 v1 v2 far
  have nms := nm s hs
  have key : ∀ c : (s.up = true ∧ 0 < rateOf (w.md m).rates s.v) ∨ (s.up = false ∧ rateOf (w.md m).rates s.v < 0), far < ((s.mark : Rat) - lvl lv s.v) / (rateOf (w.md m).rates s.v : Rat) := by
    intro c
    have mem : ((((s.mark : Rat) - lvl lv s.v) / (rateOf (w.md m).rates s.v : Rat), .sw) : Rat × Wh) ∈ (w.md m).sws.filterMap (swWait lv (w.md m).rates) := List.mem_filterMap.mpr ⟨s, hs, sw_cond c⟩
    have le := wl _ (List.mem_append_left _ mem)
    have ne := first _ mem
    exact Rat.lt_of_le_of_ne le fun z => ne z.symm
  obtain ⟨r, hr⟩ : ∃ r, r = rateOf (w.md m).rates s.v := ⟨_, rfl⟩
  rw [← hr] at al key
  cases hu : s.up with
  | true =>
    unfold metQ at nms ⊢
    rw [if_pos hu] at nms ⊢
    have a : lvl lv s.v < (s.mark : Rat) := by simpa using nms
    rw [al]
    have goal : lvl lv s.v + (r : Rat) * far < (s.mark : Rat) := by
      by_cases c : 0 < r
      · have k := key (.inl ⟨hu, c⟩)
        refine Rat.not_le.mp fun z => ?_
        have : ((s.mark : Rat) - lvl lv s.v) / (r : Rat) ≤ far := div_le_of (.inl ⟨c, by grind⟩)
        exact Rat.not_le.mpr k this
      · have rq : (r : Rat) ≤ 0 := by exact_mod_cast (show r ≤ 0 by omega)
        have := Rat.mul_le_mul_of_nonneg_right rq f0
        grind
    simpa using goal
  | false =>
    unfold metQ at nms ⊢
    rw [if_neg (by rw [hu]; simp)] at nms ⊢
    have a : (s.mark : Rat) < lvl lv s.v := by simpa using nms
    rw [al]
    have goal : (s.mark : Rat) < lvl lv s.v + (r : Rat) * far := by
      by_cases c : r < 0
      · have k := key (.inr ⟨hu, c⟩)
        refine Rat.not_le.mp fun z => ?_
        have : ((s.mark : Rat) - lvl lv s.v) / (r : Rat) ≤ far := div_le_of (.inr ⟨c, by grind⟩)
        exact Rat.not_le.mpr k this
      · have rq : (0 : Rat) ≤ (r : Rat) := by exact_mod_cast (show 0 ≤ r by omega)
        have := Rat.mul_nonneg rq f0
        grind
    simpa using goal
theorem sw_met (hw : okW w) (h : Lw n w lv) {m : Int} (hm : 0 ≤ m ∧ m < w.modes.length) {far : Rat} (hq : waitQ w lv m = some (far, .sw)) : ∃ s ∈ (w.md m).sws, metQ (afterQ lv (w.md m).rates far) s = true := by
  have om := hw.2.2.2.1 _ (show w.md m ∈ w.modes from getD_mem (by omega))
  obtain ⟨wm, wl⟩ := waitQ_mem hq
  rcases List.mem_append.mp wm with q | q
  · obtain ⟨s, hs, e⟩ := List.mem_filterMap.mp q
    have os := om.2.2.2 s hs
    obtain ⟨v1, v2⟩ := os.1
    have al := after_lvl (m' := m) h.l0.len om.2.1 v1 v2 far
    unfold swWait at e
    split at e
    · rename_i c
      have ef : ((s.mark : Rat) - lvl lv s.v) / (rateOf (w.md m).rates s.v : Rat) = far := by
        injection e with e
        exact congrArg Prod.fst e
      have rn : rateOf (w.md m).rates s.v ≠ 0 := by omega
      have hqn : (rateOf (w.md m).rates s.v : Rat) ≠ 0 := by intro z; exact rn (by exact_mod_cast z)
      have ee : far * (rateOf (w.md m).rates s.v : Rat) = (s.mark : Rat) - lvl lv s.v := by
        rw [← ef]
        exact Rat.div_mul_cancel hqn
      have eq : lvl (afterQ lv (w.md m).rates far) s.v = (s.mark : Rat) := by
        rw [al]
        grind
      refine ⟨s, hs, ?_⟩
      unfold metQ
      rw [eq]
      split <;> simp [Rat.lt_irrefl]
    · cases e
  · obtain ⟨p, _, e⟩ := List.mem_flatMap.mp q
    unfold ovWait at e
    split at e
    · cases List.mem_singleton.mp e
    · split at e
      · cases List.mem_singleton.mp e
      · cases e
end
end PF

end

section
/-! P17: what holds of the flows. -/
namespace PF
open PySem PySem.Spec PyProof.Rows L2
/-- the flows, at most n, from a mode, a time, levels -/
def flowsQ (w : Wk) : Nat → Int → Rat → List Rat → List Fl
  | 0, _, _, _ => []
  | n + 1, m, t, lv => if (setQ w lv m).2 = true then [] else match waitQ w lv ((setQ w lv m).1.getLastD 0) with
    | none => [⟨t, (setQ w lv m).1, lv⟩]
    | some (_, .ov _ _) => [⟨t, (setQ w lv m).1, lv⟩]
    | some (far, .sw) => ⟨t, (setQ w lv m).1, lv⟩ :: flowsQ w n ((setQ w lv m).1.getLastD 0) (t + far) (afterQ lv (w.md ((setQ w lv m).1.getLastD 0)).rates far)
theorem runQ_fst (w : Wk) (most : Nat) : ∀ (n : Nat) (m : Int) (t : Rat) (lv : List Rat) (found : List Fl), most < n + found.length → found.length ≤ most → (runQ w most n m t lv found).1 = found ++ flowsQ w (most - found.length) m t lv
  | 0, m, t, lv, found, h1, h2 => by omega
  | n + 1, m, t, lv, found, h1, h2 => by
    unfold runQ
    by_cases wh : (setQ w lv m).2 = true
    · rw [if_pos wh]
      cases q : most - found.length with
      | zero => simp [flowsQ]
      | succ k => simp [flowsQ, wh]
    · rw [if_neg wh]
      by_cases c : found.length = most
      · rw [if_pos c]
        have : most - found.length = 0 := by omega
        rw [this]
        simp [flowsQ]
      · rw [if_neg c]
        obtain ⟨k, hk⟩ : ∃ k, most - found.length = k + 1 := ⟨most - found.length - 1, by omega⟩
        rw [hk]
        unfold flowsQ
        rw [if_neg wh]
        cases hq : waitQ w lv ((setQ w lv m).1.getLastD 0) with
        | none => rfl
        | some p =>
          obtain ⟨far, wt⟩ := p
          cases wt with
          | ov v b => rfl
          | sw =>
            simp only
            rw [runQ_fst w most n _ _ _ (found ++ [(⟨t, (setQ w lv m).1, lv⟩ : Fl)]) (by rw [List.length_append, List.length_singleton]; omega) (by rw [List.length_append, List.length_singleton]; omega)]
            have : most - (found ++ [(⟨t, (setQ w lv m).1, lv⟩ : Fl)]).length = k := by rw [List.length_append, List.length_singleton]; omega
            rw [this]
            simp
theorem runW_fst (w : Wk) (most : Nat) : (runW w most).1 = flowsQ w most w.at_ 0 (lv0 w) := by
  unfold runW
  rw [runQ_fst w most (most + 1) w.at_ 0 (lv0 w) [] (by simp) (by simp)]
  simp
/-- how a flow stands that begins in mode m, behind k others -/
structure FlAt (w : Wk) (k : Nat) (m : Int) (f : Fl) : Prop where
  lw : ∃ N, Lw N w f.lv ∧ Dn N f.t ∧ N.log2 ≤ 7 * k
  t0 : 0 ≤ f.t
  t9 : f.t ≤ 999 * (k : Rat)
  mOk : 0 ≤ m ∧ m < w.modes.length
  set : setQ w f.lv m = (f.ms, false)
/-- from a flow to the next -/
structure Nxt (w : Wk) (f g : Fl) : Prop where
  ex : ∃ far, waitQ w f.lv (f.ms.getLastD 0) = some (far, .sw) ∧ g.t = f.t + far ∧ g.lv = afterQ f.lv (w.md (f.ms.getLastD 0)).rates far
  set : setQ w g.lv (f.ms.getLastD 0) = (g.ms, false)
theorem flowsQ_len (w : Wk) : ∀ (n : Nat) (m : Int) (t : Rat) (lv : List Rat), (flowsQ w n m t lv).length ≤ n
  | 0, _, _, _ => by simp [flowsQ]
  | n + 1, m, t, lv => by
    unfold flowsQ
    split
    · simp
    · split
      · simp
      · simp
      · have := flowsQ_len w n ((setQ w lv m).1.getLastD 0) (t + ‹Rat›) (afterQ lv (w.md ((setQ w lv m).1.getLastD 0)).rates ‹Rat›)
        simp only [List.length_cons]
        omega
theorem last_in {w : Wk} (hw : okW w) {lv : List Rat} {m : Int} (hm : 0 ≤ m ∧ m < w.modes.length) : ∃ pre : List Int, (setQ w lv m).1 = pre ++ [(setQ w lv m).1.getLastD 0] ∧ (0 ≤ (setQ w lv m).1.getLastD 0 ∧ (setQ w lv m).1.getLastD 0 < w.modes.length) ∧ ((setQ w lv m).2 = false → noneMet w lv ((setQ w lv m).1.getLastD 0)) := by
  obtain ⟨pre, m', p1, p2, p3⟩ := setQ_spec hw lv m hm
  have gl : (setQ w lv m).1.getLastD 0 = m' := by rw [p1]; simp
  rw [gl]
  exact ⟨pre, p1, p2, p3⟩
theorem flowsQ_spec {w : Wk} (hw : okW w) : ∀ (n k N : Nat) (m : Int) (t : Rat) (lv : List Rat), k + n ≤ 400 → (0 ≤ m ∧ m < w.modes.length) → Lw N w lv → Dn N t → N.log2 ≤ 7 * k → 0 ≤ t → t ≤ 999 * (k : Rat) →
    (∀ f r, flowsQ w n m t lv = f :: r → f.t = t ∧ f.lv = lv ∧ setQ w lv m = (f.ms, false)) ∧
    (∀ i f, (flowsQ w n m t lv)[i]? = some f → ∃ m', FlAt w (k + i) m' f) ∧ ∀ i f g, (flowsQ w n m t lv)[i]? = some f → (flowsQ w n m t lv)[i + 1]? = some g → Nxt w f g
  | 0, k, N, m, t, lv, _, hm, hl, ht, hN, t0, t9 => ⟨fun f r e => by simp [flowsQ] at e, fun i f e => by simp [flowsQ] at e, fun i f g e => by simp [flowsQ] at e⟩
  | n + 1, k, N, m, t, lv, hk, hm, hl, ht, hN, t0, t9 => by
    unfold flowsQ
    by_cases wh : (setQ w lv m).2 = true
    · rw [if_pos wh]
      exact ⟨fun f r e => (by cases e), fun i f e => (by simp at e), fun i f g e => (by simp at e)⟩
    · have wh' : (setQ w lv m).2 = false := by simpa using wh
      rw [if_neg wh]
      have se : setQ w lv m = ((setQ w lv m).1, false) := by rw [← wh']
      have me : FlAt w k m ⟨t, (setQ w lv m).1, lv⟩ := ⟨⟨N, hl, ht, hN⟩, t0, t9, hm, se⟩
      have single : (∀ f r, [(⟨t, (setQ w lv m).1, lv⟩ : Fl)] = f :: r → f.t = t ∧ f.lv = lv ∧ setQ w lv m = (f.ms, false)) ∧ (∀ i f, [(⟨t, (setQ w lv m).1, lv⟩ : Fl)][i]? = some f → ∃ m', FlAt w (k + i) m' f) ∧ ∀ i f g, [(⟨t, (setQ w lv m).1, lv⟩ : Fl)][i]? = some f → [(⟨t, (setQ w lv m).1, lv⟩ : Fl)][i + 1]? = some g → Nxt w f g := by
        refine ⟨fun f r e => by cases e; exact ⟨rfl, rfl, se⟩, fun i f e => ?_, fun i f g e e2 => by simp at e2⟩
        cases i with
        | zero => cases e; exact ⟨m, me⟩
        | succ i => simp at e
      cases hq : waitQ w lv ((setQ w lv m).1.getLastD 0) with
      | none => exact single
      | some p =>
        obtain ⟨far, wt⟩ := p
        cases wt with
        | ov v b => exact single
        | sw =>
          obtain ⟨pre, p1, p2, p3⟩ := last_in hw (lv := lv) hm
          obtain ⟨f0, f9, N', d1, d2, d3, d4, d5, d6⟩ := after_lw hw hl p2 (p3 wh') hq
          have l38 : N'.log2 ≤ 3800 := by omega
          have dt : Dn N' (t + far) := by
            obtain ⟨q, hq⟩ := d1
            rw [hq] at d4 ⊢
            exact (ht.mul).add d4
          have ih := flowsQ_spec hw n (k + 1) N' ((setQ w lv m).1.getLastD 0) (t + far) _ (by omega) p2 (d6 l38) dt (by omega) (Rat.add_nonneg t0 f0) (by
            rw [Rat.natCast_add]
            have : ((1 : Nat) : Rat) = 1 := rfl
            rw [this]
            grind)
          obtain ⟨ih1, ih2, ih3⟩ := ih
          refine ⟨fun f r e => by cases e; exact ⟨rfl, rfl, se⟩, fun i f e => ?_, fun i f g e e2 => ?_⟩
          · cases i with
            | zero => cases e; exact ⟨m, me⟩
            | succ i =>
              obtain ⟨m', h⟩ := ih2 i f (by simpa using e)
              exact ⟨m', by rw [show k + (i + 1) = k + 1 + i by omega]; exact h⟩
          · cases i with
            | zero =>
              cases e
              simp only [List.getElem?_cons_succ, Nat.zero_add] at e2
              cases hl2 : flowsQ w n ((setQ w lv m).1.getLastD 0) (t + far) (afterQ lv (w.md ((setQ w lv m).1.getLastD 0)).rates far) with
              | nil => rw [hl2] at e2; simp at e2
              | cons g' r =>
                rw [hl2] at e2
                simp at e2
                subst e2
                obtain ⟨a, b, c⟩ := ih1 _ r hl2
                exact ⟨⟨far, hq, a, b⟩, by rw [b]; exact c⟩
            | succ i => exact ih3 i f g (by simpa using e) (by simpa using e2)
end PF

end

section
/-! P18: fates. -/
namespace PF
open PySem PySem.Spec PyProof.Rows L2
/-- a flow's own mode and levels -/
def Fl.m (f : Fl) : Int := f.ms.getLastD 0
def sameF (f g : Fl) : Bool := decide (g.m = f.m ∧ g.lv = f.lv)
def ringGo : List Fl → List Fl → Option (Nat × Nat)
  | _, [] => none
  | done, f :: rest => match done.findIdx? (sameF f) with
    | some i => some (i, done.length)
    | none => ringGo (done ++ [f]) rest
def ringQ (fl : List Fl) : Option (Nat × Nat) := ringGo [] fl
inductive Ft where
  | ring (first many : Nat) (t p : Rat)
  | over (t : Rat) (v : Nat) (b : Bool) (lv : List Rat)
  | rest (t : Rat) (m : Int) (lv : List Rat)
  | whirl (t : Rat) (ms : List Int) (lv : List Rat)
  | opn
def encFt : Ft → D
  | .ring i n t p => .tuple [.str "ring", .int i, .int n, encQ t, encQ p]
  | .over t v b lv => .tuple [.str "over", encQ t, .int v, endD b, encL lv]
  | .rest t m lv => .tuple [.str "rest", encQ t, .int m, encL lv]
  | .whirl t ms lv => .tuple [.str "whirl", encQ t, encI ms, encL lv]
  | .opn => .tuple [.str "open"]
def flAt (fl : List Fl) (i : Nat) : Fl := fl.getD i ⟨0, [], []⟩
def flLast (fl : List Fl) : Fl := fl.getLastD ⟨0, [], []⟩
def fateOf (p : List Fl × Option En) : Ft := match ringQ p.1 with
  | some (i, j) => .ring i (j - i) (flAt p.1 i).t ((flAt p.1 j).t - (flAt p.1 i).t)
  | none => match p.2 with
    | none => .opn
    | some .rest => .rest (flLast p.1).t (flLast p.1).m (flLast p.1).lv
    | some (.over t v b lv) => .over t v b lv
    | some (.whirl t ms lv) => .whirl t ms lv
/-! ### what a ring is -/
theorem sameF_iff {f g : Fl} : sameF f g = true ↔ g.m = f.m ∧ g.lv = f.lv := by unfold sameF; exact decide_eq_true_iff
def Apart (fl : List Fl) (n : Nat) : Prop := ∀ a b f g, a < b → b < n → fl[a]? = some f → fl[b]? = some g → sameF g f = false
theorem ringGo_spec : ∀ (rest done : List Fl), Apart (done ++ rest) done.length →
    match ringGo done rest with
    | none => Apart (done ++ rest) (done ++ rest).length
    | some (i, j) => i < j ∧ j < (done ++ rest).length ∧ Apart (done ++ rest) j ∧ ∃ f g, (done ++ rest)[i]? = some f ∧ (done ++ rest)[j]? = some g ∧ sameF g f = true ∧ ∀ a h, a < i → (done ++ rest)[a]? = some h → sameF g h = false
  | [], done, h => by
    simp only [ringGo]
    simpa using h
  | f :: rest, done, h => by
    unfold ringGo
    have at_ : (done ++ f :: rest)[done.length]? = some f := by simp
    cases q : done.findIdx? (sameF f) with
    | some i =>
      simp only
      obtain ⟨hi, h1, h2⟩ := List.findIdx?_eq_some_iff_getElem.mp q
      refine ⟨hi, by simp, h, done[i], f, by rw [List.getElem?_append_left hi, List.getElem?_eq_getElem hi], at_, h1, fun a x ha hx => ?_⟩
      have ha' : a < done.length := by omega
      rw [List.getElem?_append_left ha', List.getElem?_eq_getElem ha'] at hx
      cases hx
      have := h2 a ha
      simpa using this
    | none =>
      simp only
      have no := List.findIdx?_eq_none_iff.mp q
      have e : done ++ f :: rest = (done ++ [f]) ++ rest := by simp
      have h' : Apart ((done ++ [f]) ++ rest) (done ++ [f]).length := by
        rw [← e]
        intro a b x y ab bl hx hy
        rw [List.length_append, List.length_singleton] at bl
        by_cases c : b < done.length
        · exact h a b x y ab c hx hy
        · have eb : b = done.length := by omega
          subst eb
          rw [at_] at hy
          cases hy
          rw [List.getElem?_append_left ab, List.getElem?_eq_getElem ab] at hx
          cases hx
          exact no _ (List.getElem_mem _)
      have ih := ringGo_spec rest (done ++ [f]) h'
      rw [← e] at ih
      exact ih
theorem ringQ_none {fl : List Fl} (h : ringQ fl = none) : Apart fl fl.length := by
  have s := ringGo_spec fl [] (fun a b f g ab bl => by simp at bl)
  unfold ringQ at h
  rw [h] at s
  simpa using s
theorem ringQ_some {fl : List Fl} {i j : Nat} (h : ringQ fl = some (i, j)) : i < j ∧ j < fl.length ∧ Apart fl j ∧ ∃ f g, fl[i]? = some f ∧ fl[j]? = some g ∧ sameF g f = true ∧ ∀ a h, a < i → fl[a]? = some h → sameF g h = false := by
  have s := ringGo_spec fl [] (fun a b f g ab bl => by simp at bl)
  unfold ringQ at h
  rw [h] at s
  simpa using s
theorem flAt_of {fl : List Fl} {i : Nat} {f : Fl} (h : fl[i]? = some f) : flAt fl i = f := by
  unfold flAt
  rw [List.getD_eq_getElem?_getD, h]
  rfl
/-! ### the keys -/
def nk (f : Fl) : NestedKey := .tup [.num f.m, .tup (f.lv.map fun q => .tup [.num q.num, .num q.den])]
theorem keyD_Q (q : Rat) : keyD (encQ q) = some (.tup [.num q.num, .num q.den]) := by
  unfold encQ
  simp [keyD, keysD]
theorem keysD_L : ∀ lv : List Rat, keysD (lv.map encQ) = some (lv.map fun q => .tup [.num q.num, .num q.den])
  | [] => by simp [keysD]
  | q :: r => by
    rw [List.map_cons]
    simp only [keysD, keyD_Q, keysD_L r]
    rfl
theorem depth_L : ∀ lv : List Rat, NestedKey.depthAll (lv.map fun q => NestedKey.tup [.num q.num, .num q.den]) ≤ 1
  | [] => by simp [NestedKey.depthAll]
  | q :: r => by
    have := depth_L r
    simp only [List.map_cons, NestedKey.depthAll, NestedKey.depth]
    omega
theorem key_F (f : Fl) : keyT (.tuple [.int f.m, encL f.lv]) = some (nk f) := by
  have e : keyD (.tuple [.int f.m, encL f.lv]) = some (nk f) := by
    unfold encL
    simp only [keyD, keysD, keysD_L]
    rfl
  have d : (nk f).depth ≤ 8 := by
    have := depth_L f.lv
    unfold nk
    simp only [NestedKey.depth, NestedKey.depthAll]
    omega
  unfold keyT
  simp only [e, Option.bind_some, if_pos d]
theorem nkL_inj : ∀ {a b : List Rat}, (a.map fun q => NestedKey.tup [.num q.num, .num q.den]) = (b.map fun q => NestedKey.tup [.num q.num, .num q.den]) → a = b
  | [], [], _ => rfl
  | [], _ :: _, h => by simp at h
  | _ :: _, [], h => by simp at h
  | x :: xs, y :: ys, h => by
    simp only [List.map_cons, List.cons.injEq, NestedKey.tup.injEq, NestedKey.num.injEq] at h
    obtain ⟨⟨h1, h2, _⟩, h3⟩ := h
    have : x = y := Rat.ext h1 (by omega)
    rw [this, nkL_inj h3]
theorem nk_eq {f g : Fl} : (nk g = nk f) ↔ sameF f g = true := by
  rw [sameF_iff]
  unfold nk
  constructor
  · intro h
    simp only [NestedKey.tup.injEq, List.cons.injEq, NestedKey.num.injEq] at h
    exact ⟨h.1, nkL_inj h.2.1⟩
  · intro ⟨h1, h2⟩
    rw [h1, h2]
def seenOf (done : List Fl) (j : Nat) : List (NestedKey × D) := (done.zipIdx j).map fun p => (nk p.1, .int p.2)
theorem look_seen (f : Fl) : ∀ (done : List Fl) (j : Nat), lookD (seenOf done j) (nk f) = (done.findIdx? (sameF f)).map fun i => PyData.int ((i + j : Nat) : Int)
  | [], j => rfl
  | g :: r, j => by
    have ih := look_seen f r (j + 1)
    unfold seenOf at ih ⊢
    unfold lookD at ih ⊢
    rw [List.zipIdx_cons, List.map_cons, List.find?_cons]
    by_cases c : sameF f g = true
    · have e : nk g = nk f := nk_eq.mpr c
      simp [e, List.findIdx?_cons, c]
    · have e : ¬ nk g = nk f := fun z => c (nk_eq.mp z)
      simp only [e, decide_false]
      rw [ih, List.findIdx?_cons, if_neg c, Option.map_map]
      congr 1
      funext i
      simp
      omega
theorem put_seen {f : Fl} {done : List Fl} (h : done.findIdx? (sameF f) = none) : putD (seenOf done 0) (nk f) (.int done.length) = seenOf (done ++ [f]) 0 := by
  have l := look_seen f done 0
  rw [h] at l
  have a : ((seenOf done 0).any fun kv => decide (kv.1 = nk f)) = false := by
    unfold lookD at l
    cases q : (seenOf done 0).find? (fun kv => decide (kv.1 = nk f)) with
    | some p => rw [q] at l; cases l
    | none =>
      have := List.find?_eq_none.mp q
      rw [List.any_eq_false]
      exact this
  unfold putD
  rw [a]
  simp only [Bool.false_eq_true, if_false]
  unfold seenOf
  rw [List.zipIdx_append, List.map_append]
  simp
end PF

end

section
/-! P22: a run goes on as it did. -/
namespace PF
open PySem PySem.Spec PyProof.Rows L2
/-- at most n flows from a mode, a time, levels, and the end -/
def runR (w : Wk) : Nat → Int → Rat → List Rat → List Fl × Option En
  | 0, m, t, lv => if (setQ w lv m).2 = true then ([], some (.whirl t (setQ w lv m).1 lv)) else ([], none)
  | n + 1, m, t, lv => if (setQ w lv m).2 = true then ([], some (.whirl t (setQ w lv m).1 lv)) else match waitQ w lv ((setQ w lv m).1.getLastD 0) with
    | none => ([⟨t, (setQ w lv m).1, lv⟩], some .rest)
    | some (far, .ov v b) => ([⟨t, (setQ w lv m).1, lv⟩], some (.over (t + far) v b (afterQ lv (w.md ((setQ w lv m).1.getLastD 0)).rates far)))
    | some (far, .sw) => (⟨t, (setQ w lv m).1, lv⟩ :: (runR w n ((setQ w lv m).1.getLastD 0) (t + far) (afterQ lv (w.md ((setQ w lv m).1.getLastD 0)).rates far)).1,
        (runR w n ((setQ w lv m).1.getLastD 0) (t + far) (afterQ lv (w.md ((setQ w lv m).1.getLastD 0)).rates far)).2)
theorem runQ_R (w : Wk) (most : Nat) : ∀ (n : Nat) (m : Int) (t : Rat) (lv : List Rat) (found : List Fl), most < n + found.length → found.length ≤ most →
    runQ w most n m t lv found = (found ++ (runR w (most - found.length) m t lv).1, (runR w (most - found.length) m t lv).2)
  | 0, m, t, lv, found, h1, h2 => by omega
  | n + 1, m, t, lv, found, h1, h2 => by
    unfold runQ
    by_cases wh : (setQ w lv m).2 = true
    · rw [if_pos wh]
      cases q : most - found.length with
      | zero => simp [runR, wh]
      | succ k => simp [runR, wh]
    · rw [if_neg wh]
      by_cases c : found.length = most
      · rw [if_pos c]
        have : most - found.length = 0 := by omega
        rw [this]
        simp [runR, wh]
      · rw [if_neg c]
        obtain ⟨k, hk⟩ : ∃ k, most - found.length = k + 1 := ⟨most - found.length - 1, by omega⟩
        rw [hk]
        unfold runR
        rw [if_neg wh]
        cases hq : waitQ w lv ((setQ w lv m).1.getLastD 0) with
        | none => rfl
        | some p =>
          obtain ⟨far, wt⟩ := p
          cases wt with
          | ov v b => rfl
          | sw =>
            simp only
            rw [runQ_R w most n _ _ _ (found ++ [(⟨t, (setQ w lv m).1, lv⟩ : Fl)]) (by rw [List.length_append, List.length_singleton]; omega) (by rw [List.length_append, List.length_singleton]; omega)]
            have : most - (found ++ [(⟨t, (setQ w lv m).1, lv⟩ : Fl)]).length = k := by rw [List.length_append, List.length_singleton]; omega
            rw [this]
            simp
theorem runW_R (w : Wk) (most : Nat) : runW w most = runR w most w.at_ 0 (lv0 w) := by
  unfold runW
  rw [runQ_R w most (most + 1) w.at_ 0 (lv0 w) [] (by simp) (by simp)]
  simp
theorem runR_open (w : Wk) : ∀ (n : Nat) (m : Int) (t : Rat) (lv : List Rat), (runR w n m t lv).2 = none → (runR w n m t lv).1.length = n
  | 0, m, t, lv, h => by
    unfold runR at h ⊢
    split at h
    · cases h
    · rename_i c; rw [if_neg c]; rfl
  | n + 1, m, t, lv, h => by
    unfold runR at h ⊢
    by_cases wh : (setQ w lv m).2 = true
    · rw [if_pos wh] at h; cases h
    · rw [if_neg wh] at h ⊢
      cases hq : waitQ w lv ((setQ w lv m).1.getLastD 0) with
      | none => rw [hq] at h; cases h
      | some p =>
        obtain ⟨far, wt⟩ := p
        rw [hq] at h
        cases wt with
        | ov v b => cases h
        | sw =>
          simp only [List.length_cons]
          rw [runR_open w n _ _ _ h]
theorem runR_len (w : Wk) : ∀ (n : Nat) (m : Int) (t : Rat) (lv : List Rat), (runR w n m t lv).1.length ≤ n
  | 0, m, t, lv => by
    unfold runR
    split <;> simp
  | n + 1, m, t, lv => by
    unfold runR
    split
    · simp
    · split
      · simp
      · simp
      · have := runR_len w n ((setQ w lv m).1.getLastD 0) (t + ‹Rat›) (afterQ lv (w.md ((setQ w lv m).1.getLastD 0)).rates ‹Rat›)
        simp only [List.length_cons]
        omega
theorem runR_stay (w : Wk) : ∀ (n k : Nat) (m : Int) (t : Rat) (lv : List Rat) (e : En), (runR w n m t lv).2 = some e → runR w (n + k) m t lv = runR w n m t lv
  | 0, k, m, t, lv, e, h => by
    have wh : (setQ w lv m).2 = true := by
      unfold runR at h
      split at h
      · assumption
      · cases h
    cases k with
    | zero => rfl
    | succ k =>
      rw [Nat.zero_add]
      unfold runR
      rw [if_pos wh, if_pos wh]
  | n + 1, k, m, t, lv, e, h => by
    rw [show n + 1 + k = (n + k) + 1 by omega]
    unfold runR at h ⊢
    by_cases wh : (setQ w lv m).2 = true
    · rw [if_pos wh, if_pos wh]
    · rw [if_neg wh] at h
      rw [if_neg wh, if_neg wh]
      cases hq : waitQ w lv ((setQ w lv m).1.getLastD 0) with
      | none => rfl
      | some p =>
        obtain ⟨far, wt⟩ := p
        rw [hq] at h
        cases wt with
        | ov v b => rfl
        | sw =>
          simp only
          rw [runR_stay w n k _ _ _ e h]
theorem runR_pre (w : Wk) : ∀ (n k : Nat) (m : Int) (t : Rat) (lv : List Rat), ∃ G, (runR w (n + k) m t lv).1 = (runR w n m t lv).1 ++ G
  | 0, k, m, t, lv => by
    refine ⟨(runR w (0 + k) m t lv).1, ?_⟩
    have : (runR w 0 m t lv).1 = [] := by unfold runR; split <;> rfl
    rw [this]
    rfl
  | n + 1, k, m, t, lv => by
    rw [show n + 1 + k = (n + k) + 1 by omega]
    unfold runR
    by_cases wh : (setQ w lv m).2 = true
    · rw [if_pos wh, if_pos wh]; exact ⟨[], rfl⟩
    · rw [if_neg wh, if_neg wh]
      cases hq : waitQ w lv ((setQ w lv m).1.getLastD 0) with
      | none => exact ⟨[], rfl⟩
      | some p =>
        obtain ⟨far, wt⟩ := p
        cases wt with
        | ov v b => exact ⟨[], rfl⟩
        | sw =>
          obtain ⟨G, e⟩ := runR_pre w n k ((setQ w lv m).1.getLastD 0) (t + far) (afterQ lv (w.md ((setQ w lv m).1.getLastD 0)).rates far)
          exact ⟨G, by simp only; rw [e]; rfl⟩
/-- where a flow's wait ends in a switch and no whirl, there is a next one -/
theorem runR_next (w : Wk) : ∀ (n : Nat) (m : Int) (t : Rat) (lv : List Rat) (k : Nat) (f : Fl), (runR w n m t lv).1[k]? = some f → k + 1 < n → ∀ far, waitQ w f.lv f.m = some (far, .sw) → (setQ w (afterQ f.lv (w.md f.m).rates far) f.m).2 = false → ∃ g, (runR w n m t lv).1[k + 1]? = some g
  | 0, m, t, lv, k, f, h, hk, _, _, _ => by omega
  | n + 1, m, t, lv, k, f, h, hk, far, h1, h2 => by
    unfold runR at h ⊢
    by_cases wh : (setQ w lv m).2 = true
    · rw [if_pos wh] at h; simp at h
    · rw [if_neg wh] at h ⊢
      cases hq : waitQ w lv ((setQ w lv m).1.getLastD 0) with
      | none =>
        rw [hq] at h
        cases k with
        | zero =>
          simp at h
          subst h
          unfold Fl.m at h1
          simp only at h1
          rw [hq] at h1
          cases h1
        | succ k => simp at h
      | some p =>
        obtain ⟨far', wt⟩ := p
        rw [hq] at h
        cases wt with
        | ov v b =>
          cases k with
          | zero =>
            simp at h
            subst h
            unfold Fl.m at h1
            simp only at h1
            rw [hq] at h1
            cases h1
          | succ k => simp at h
        | sw =>
          cases k with
          | zero =>
            simp at h
            subst h
            unfold Fl.m at h1 h2
            simp only at h1 h2
            rw [hq] at h1
            injection h1 with h1
            injection h1 with h1 _
            subst h1
            simp only [Nat.zero_add, List.getElem?_cons_succ]
            obtain ⟨j, hj⟩ : ∃ j, n = j + 1 := ⟨n - 1, by omega⟩
            subst hj
            unfold runR
            rw [if_neg (by rw [h2]; simp)]
            split
            · exact ⟨_, rfl⟩
            · exact ⟨_, rfl⟩
            · exact ⟨_, rfl⟩
          | succ k =>
            simp only [List.getElem?_cons_succ] at h ⊢
            exact runR_next w n _ _ _ k f h (by omega) far h1 h2
/-- the k-th flow, at all -/
def flO (w : Wk) (k : Nat) : Option Fl := (runW w (k + 1)).1[k]?
theorem run_more {w : Wk} {n m : Nat} (h : n ≤ m) : (runW w m = runW w n) ∨ ((runW w n).2 = none ∧ (runW w n).1.length = n ∧ ∃ G, (runW w m).1 = (runW w n).1 ++ G) := by
  obtain ⟨k, rfl⟩ : ∃ k, m = n + k := ⟨m - n, by omega⟩
  rw [runW_R, runW_R]
  cases q : (runR w n w.at_ 0 (lv0 w)).2 with
  | some e => exact .inl (runR_stay w n k _ _ _ e q)
  | none => exact .inr ⟨rfl, runR_open w n _ _ _ q, runR_pre w n k _ _ _⟩
theorem run_get {w : Wk} {n k : Nat} (h : k < n) : (runW w n).1[k]? = flO w k := by
  unfold flO
  rcases run_more (w := w) (show k + 1 ≤ n by omega) with e | ⟨_, l, G, e⟩
  · rw [e]
  · rw [e, List.getElem?_append_left (by omega)]
theorem run_flo {w : Wk} {n k : Nat} {f : Fl} (h : (runW w n).1[k]? = some f) : flO w k = some f := by
  have hl := (List.getElem?_eq_some_iff.mp h).1
  have : (runW w n).1.length ≤ n := by rw [runW_R]; exact runR_len w n _ _ _
  rw [← run_get (n := n) (by omega)]
  exact h
theorem flo_pre {w : Wk} {k j : Nat} {f : Fl} (h : flO w k = some f) (hj : j ≤ k) : ∃ g, flO w j = some g := by
  have e := run_get (w := w) (n := k + 1) (k := k) (by omega)
  rw [h] at e
  have hl := (List.getElem?_eq_some_iff.mp e).1
  have e2 := run_get (w := w) (n := k + 1) (k := j) (by omega)
  exact ⟨_, by rw [← e2, List.getElem?_eq_getElem (by omega)]⟩
theorem flo_next {w : Wk} {k : Nat} {f : Fl} (h : flO w k = some f) {far : Rat} (h1 : waitQ w f.lv f.m = some (far, .sw)) (h2 : (setQ w (afterQ f.lv (w.md f.m).rates far) f.m).2 = false) : ∃ g, flO w (k + 1) = some g := by
  have e := run_get (w := w) (n := k + 2) (k := k) (by omega)
  rw [h, runW_R] at e
  obtain ⟨g, hg⟩ := runR_next w (k + 2) _ _ _ k f e (by omega) far h1 h2
  exact ⟨g, by rw [← run_get (n := k + 2) (by omega), runW_R]; exact hg⟩
theorem flo_nxt {w : Wk} (hw : okW w) {k : Nat} (hk : k + 1 < 400) {f g : Fl} (hf : flO w k = some f) (hg : flO w (k + 1) = some g) : Nxt w f g := by
  have at1 := hw.2.2.2.2.1
  obtain ⟨_, _, q3⟩ := flowsQ_spec hw (k + 2) 0 1 w.at_ 0 (lv0 w) (by omega) (by omega) (lw0 hw) (Dn.int 1 0) (by decide +kernel) Rat.le_refl (by simp)
  rw [← runW_fst] at q3
  exact q3 k f g (by rw [run_get (by omega)]; exact hf) (by rw [run_get (by omega)]; exact hg)
theorem flo_at {w : Wk} (hw : okW w) {k : Nat} (hk : k < 400) {f : Fl} (hf : flO w k = some f) : ∃ m, FlAt w k m f := by
  have at1 := hw.2.2.2.2.1
  obtain ⟨_, q2, _⟩ := flowsQ_spec hw (k + 1) 0 1 w.at_ 0 (lv0 w) (by omega) (by omega) (lw0 hw) (Dn.int 1 0) (by decide +kernel) Rat.le_refl (by simp)
  rw [← runW_fst] at q2
  obtain ⟨m, h⟩ := q2 k f (by rw [run_get (by omega)]; exact hf)
  rw [Nat.zero_add] at h
  exact ⟨m, h⟩
theorem flo_0 {w : Wk} (hw : okW w) {f : Fl} (hf : flO w 0 = some f) : f.t = 0 ∧ f.lv = lv0 w ∧ setQ w (lv0 w) w.at_ = (f.ms, false) := by
  have at1 := hw.2.2.2.2.1
  obtain ⟨q1, _, _⟩ := flowsQ_spec hw 1 0 1 w.at_ 0 (lv0 w) (by omega) (by omega) (lw0 hw) (Dn.int 1 0) (by decide +kernel) Rat.le_refl (by simp)
  rw [← runW_fst] at q1
  unfold flO at hf
  cases e : (runW w 1).1 with
  | nil => rw [e] at hf; cases hf
  | cons g r =>
    rw [e] at hf
    cases hf
    exact q1 f r e
/-- how a flow stands -/
structure Flow (w : Wk) (k : Nat) (f : Fl) : Prop where
  lw : ∃ N, Lw N w f.lv ∧ Dn N f.t ∧ N.log2 ≤ 7 * k
  t0 : 0 ≤ f.t
  t9 : f.t ≤ 999 * (k : Rat)
  m : 0 ≤ f.m ∧ f.m < w.modes.length
  nm : noneMet w f.lv f.m
  ms : ∃ pre, f.ms = pre ++ [f.m]
theorem flo_flow {w : Wk} (hw : okW w) {k : Nat} (hk : k < 400) {f : Fl} (hf : flO w k = some f) : Flow w k f := by
  obtain ⟨m, h⟩ := flo_at hw hk hf
  obtain ⟨pre, p1, p2, p3⟩ := last_in hw (lv := f.lv) h.mOk
  rw [h.set] at p1 p2 p3
  exact ⟨h.lw, h.t0, h.t9, p2, p3 rfl, pre, p1⟩
theorem farP {n : Nat} {w : Wk} {lv : List Rat} (hw : okW w) (h : Lw n w lv) {m : Int} (hm : 0 ≤ m ∧ m < w.modes.length) (nm : noneMet w lv m) {far : Rat} (hq : waitQ w lv m = some (far, .sw)) : 0 < far := by
  have om := hw.2.2.2.1 _ (show w.md m ∈ w.modes from getD_mem (by omega))
  obtain ⟨wm, wl⟩ := waitQ_mem hq
  obtain ⟨f0, _⟩ := waits_far hw h hm nm _ wm
  have f0 : 0 ≤ far := f0
  rcases List.mem_append.mp wm with q | q
  · obtain ⟨s, hs, e⟩ := List.mem_filterMap.mp q
    have met := nm s hs
    unfold swWait at e
    split at e
    · rename_i c
      injection e with e
      injection e with e _
      have rn : rateOf (w.md m).rates s.v ≠ 0 := by omega
      have rq : (rateOf (w.md m).rates s.v : Rat) ≠ 0 := by intro z; exact rn (by exact_mod_cast z)
      rcases Rat.le_iff_lt_or_eq.mp f0 with z | z
      · exact z
      · exfalso
        have e2 : (s.mark : Rat) = lvl lv s.v := by
          have : (s.mark : Rat) - lvl lv s.v = far * (rateOf (w.md m).rates s.v : Rat) := by rw [← e]; exact (Rat.div_mul_cancel rq).symm
          rw [← z] at this
          grind
        unfold metQ at met
        rw [e2] at met
        simp [Rat.lt_irrefl] at met
    · cases e
  · obtain ⟨⟨r, i⟩, hr, e⟩ := List.mem_flatMap.mp q
    unfold ovWait at e
    split at e
    · simp at e
    · split at e
      · simp at e
      · cases e
theorem nxt_t {w : Wk} (hw : okW w) {k : Nat} (hk : k + 1 < 400) {f g : Fl} (hf : flO w k = some f) (hg : flO w (k + 1) = some g) : f.t < g.t := by
  obtain ⟨far, x1, x2, x3⟩ := (flo_nxt hw hk hf hg).ex
  have F := flo_flow hw (by omega) hf
  obtain ⟨N, hl, _⟩ := F.lw
  have := farP hw hl F.m F.nm x1
  rw [x2]
  grind
theorem time_lt {w : Wk} (hw : okW w) : ∀ (d : Nat) {i : Nat} {f g : Fl}, i + d + 1 < 400 → flO w i = some f → flO w (i + d + 1) = some g → f.t < g.t
  | 0, i, f, g, h, hf, hg => nxt_t hw h hf hg
  | d + 1, i, f, g, h, hf, hg => by
    obtain ⟨h', hh⟩ := flo_pre hg (show i + d + 1 ≤ i + (d + 1) + 1 by omega)
    have a := time_lt hw d (by omega) hf hh
    have b := nxt_t hw (by omega) hh (by rw [show i + d + 1 + 1 = i + (d + 1) + 1 by omega]; exact hg)
    grind
theorem Dn.of_dvd {n m : Nat} {x : Rat} (h : n ∣ m) (d : Dn n x) : Dn m x := by
  obtain ⟨q, e⟩ := h
  rw [e]
  exact d.mul
/-- all flows up to the k-th over one denominator -/
theorem flo_dn {w : Wk} (hw : okW w) : ∀ (k : Nat), k < 400 → ∀ f, flO w k = some f → ∃ N, N.log2 ≤ 7 * k ∧ Lw N w f.lv ∧ Dn N f.t ∧ ∀ i, i ≤ k → ∀ h, flO w i = some h → Dn N h.t ∧ ∀ l ∈ h.lv, Dn N l
  | 0, hk, f, hf => by
    obtain ⟨e1, e2, _⟩ := flo_0 hw hf
    have l0 := lw0 hw
    rw [← e2] at l0
    have d0 : Dn 1 f.t := by rw [e1]; exact Dn.int 1 0
    refine ⟨1, by decide +kernel, l0, d0, fun i hi h hh => ?_⟩
    have : i = 0 := by omega
    subst this
    rw [hf] at hh
    cases hh
    exact ⟨d0, l0.l0.dn⟩
  | k + 1, hk, f, hf => by
    obtain ⟨g, hg⟩ := flo_pre hf (show k ≤ k + 1 by omega)
    obtain ⟨N, a1, a2, a3, a4⟩ := flo_dn hw k (by omega) g hg
    have F := flo_flow hw (by omega) hg
    obtain ⟨far, x1, x2, x3⟩ := (flo_nxt hw hk hg hf).ex
    obtain ⟨f0, f9, N', d1, d2, d3, d4, d5, d6⟩ := after_lw hw a2 F.m F.nm x1
    have lw' := d6 (by omega)
    have ef : f.lv = afterQ g.lv (w.md g.m).rates far := x3
    rw [← ef] at lw'
    have dt : Dn N' f.t := by rw [x2]; exact (a3.of_dvd d1).add d4
    refine ⟨N', by omega, lw', dt, fun i hi h hh => ?_⟩
    by_cases c : i = k + 1
    · subst c
      rw [hf] at hh
      cases hh
      exact ⟨dt, lw'.l0.dn⟩
    · obtain ⟨b1, b2⟩ := a4 i (by omega) h hh
      exact ⟨b1.of_dvd d1, fun l hl => (b2 l hl).of_dvd d1⟩
/-! ### a fate that is known stays -/
theorem ringGo_app : ∀ (rest done G : List Fl) {p : Nat × Nat}, ringGo done rest = some p → ringGo done (rest ++ G) = some p
  | [], done, G, p, h => by simp [ringGo] at h
  | f :: rest, done, G, p, h => by
    simp only [ringGo, List.cons_append] at h ⊢
    cases q : done.findIdx? (sameF f) with
    | some i => rw [q] at h; exact h
    | none => rw [q] at h; exact ringGo_app rest (done ++ [f]) G h
theorem flAt_app {F G : List Fl} {i : Nat} (h : i < F.length) : flAt (F ++ G) i = flAt F i := by
  unfold flAt
  rw [List.getD_eq_getElem?_getD, List.getElem?_append_left h, List.getD_eq_getElem?_getD]
theorem fate_stay {w : Wk} {most more : Nat} (h : most ≤ more) (ne : fateOf (runW w most) ≠ .opn) : fateOf (runW w more) = fateOf (runW w most) := by
  rcases run_more (w := w) h with e | ⟨o, l, G, e⟩
  · rw [e]
  · unfold fateOf at ne ⊢
    cases q : ringQ (runW w most).1 with
    | none => rw [q, o] at ne; exact absurd rfl ne
    | some p =>
      obtain ⟨i, j⟩ := p
      obtain ⟨ij, jl, _⟩ := ringQ_some q
      have q2 : ringQ (runW w more).1 = some (i, j) := by rw [e]; exact ringGo_app _ _ G q
      rw [q2, e]
      simp only
      rw [flAt_app (show i < _ by omega), flAt_app jl]
/-- the same flows again and again -/
theorem ring_goes {w : Wk} (hw : okW w) {i j : Nat} {f g : Fl} (ij : i < j) (hf : flO w i = some f) (hg : flO w j = some g) (s1 : g.m = f.m) (s2 : g.lv = f.lv) : ∀ d, j + d < 400 → ∃ f' g', flO w (i + d) = some f' ∧ flO w (j + d) = some g' ∧ g'.m = f'.m ∧ g'.lv = f'.lv ∧ g'.t - f'.t = g.t - f.t ∧ (0 < d → g'.ms = f'.ms)
  | 0, _ => ⟨f, g, hf, hg, s1, s2, rfl, fun z => by omega⟩
  | d + 1, h => by
    obtain ⟨f', g', h1, h2, e1, e2, e3, _⟩ := ring_goes hw ij hf hg s1 s2 d (by omega)
    obtain ⟨f2, hf2⟩ := flo_pre h2 (show i + d + 1 ≤ j + d by omega)
    have nx := flo_nxt hw (by omega) h1 hf2
    obtain ⟨far, x1, x2, x3⟩ := nx.ex
    have st := nx.set
    have em : f'.ms.getLastD 0 = f'.m := rfl
    rw [em] at x1 x3 st
    obtain ⟨g2, hg2⟩ := flo_next h2 (far := far) (by rw [e1, e2]; exact x1) (by
      rw [e1, e2, ← x3, st])
    have ny := flo_nxt hw (by omega) h2 hg2
    obtain ⟨far', y1, y2, y3⟩ := ny.ex
    have su := ny.set
    have em' : g'.ms.getLastD 0 = g'.m := rfl
    rw [em', e1] at y1 y3 su
    rw [e2] at y1 y3
    rw [x1] at y1
    injection y1 with y1
    injection y1 with y1 _
    subst y1
    have el : g2.lv = f2.lv := by rw [y3, x3]
    rw [el, st] at su
    injection su with su _
    refine ⟨f2, g2, by rw [← Nat.add_assoc]; exact hf2, by rw [← Nat.add_assoc]; exact hg2, ?_, el, ?_, fun _ => su.symm⟩
    · unfold Fl.m; rw [su]
    · rw [x2, y2]
      grind
end PF

end

section
/-! P23: how runs end. -/
namespace PF
open PySem PySem.Spec PyProof.Rows L2
def EndOf (w : Wk) (m0 : Int) (t0 : Rat) (lv : List Rat) (F : List Fl) : En → Prop
  | .rest => ∃ P f, F = P ++ [f] ∧ waitQ w f.lv f.m = none
  | .over t v b l => ∃ P f far, F = P ++ [f] ∧ waitQ w f.lv f.m = some (far, .ov v b) ∧ t = f.t + far ∧ l = afterQ f.lv (w.md f.m).rates far
  | .whirl t ms l => ∃ m, setQ w l m = (ms, true) ∧ ((F = [] ∧ m = m0 ∧ l = lv ∧ t = t0) ∨ ∃ P g far, F = P ++ [g] ∧ waitQ w g.lv g.m = some (far, .sw) ∧ t = g.t + far ∧ l = afterQ g.lv (w.md g.m).rates far ∧ m = g.m)
theorem runR_end (w : Wk) : ∀ (n : Nat) (m : Int) (t : Rat) (lv : List Rat) (e : En), (runR w n m t lv).2 = some e → EndOf w m t lv (runR w n m t lv).1 e
  | 0, m, t, lv, e, h => by
    unfold runR at h ⊢
    by_cases wh : (setQ w lv m).2 = true
    · rw [if_pos wh] at h ⊢
      cases h
      exact ⟨m, by rw [← wh], .inl ⟨rfl, rfl, rfl, rfl⟩⟩
    · rw [if_neg wh] at h; cases h
  | n + 1, m, t, lv, e, h => by
    unfold runR at h ⊢
    by_cases wh : (setQ w lv m).2 = true
    · rw [if_pos wh] at h ⊢
      cases h
      exact ⟨m, by rw [← wh], .inl ⟨rfl, rfl, rfl, rfl⟩⟩
    · rw [if_neg wh] at h ⊢
      cases hq : waitQ w lv ((setQ w lv m).1.getLastD 0) with
      | none =>
        rw [hq] at h
        cases h
        exact ⟨[], _, rfl, hq⟩
      | some p =>
        obtain ⟨far, wt⟩ := p
        rw [hq] at h
        cases wt with
        | ov v b =>
          cases h
          exact ⟨[], _, far, rfl, hq, rfl, rfl⟩
        | sw =>
          simp only at h ⊢
          have ih := runR_end w n _ _ _ e h
          obtain ⟨G, hG⟩ : ∃ G, G = (runR w n ((setQ w lv m).1.getLastD 0) (t + far) (afterQ lv (w.md ((setQ w lv m).1.getLastD 0)).rates far)).1 := ⟨_, rfl⟩
          rw [← hG] at ih ⊢
          cases e with
          | rest =>
            obtain ⟨P, f, e1, e2⟩ := ih
            exact ⟨_ :: P, f, by rw [e1]; rfl, e2⟩
          | over t' v b l =>
            obtain ⟨P, f, far', e1, e2, e3, e4⟩ := ih
            exact ⟨_ :: P, f, far', by rw [e1]; rfl, e2, e3, e4⟩
          | whirl t' ms l =>
            obtain ⟨m', e1, e2⟩ := ih
            refine ⟨m', e1, .inr ?_⟩
            rcases e2 with ⟨a1, a2, a3, a4⟩ | ⟨P, g, far', a1, a2, a3, a4, a5⟩
            · exact ⟨[], ⟨t, (setQ w lv m).1, lv⟩, far, by rw [a1]; rfl, hq, a4, a3, a2⟩
            · exact ⟨_ :: P, g, far', by rw [a1]; rfl, a2, a3, a4, a5⟩
theorem runW_end {w : Wk} {n : Nat} {e : En} (h : (runW w n).2 = some e) : EndOf w w.at_ 0 (lv0 w) (runW w n).1 e := by
  rw [runW_R] at h ⊢
  exact runR_end w n _ _ _ e h
theorem runW_len (w : Wk) (n : Nat) : (runW w n).1.length ≤ n := by rw [runW_R]; exact runR_len w n _ _ _
/-- the last flow of a run -/
theorem last_flow {w : Wk} (hw : okW w) {n : Nat} (hn : n ≤ 400) {P : List Fl} {f : Fl} (h : (runW w n).1 = P ++ [f]) : flO w P.length = some f ∧ Flow w P.length f ∧ P.length < n := by
  have l := runW_len w n
  rw [h, List.length_append, List.length_singleton] at l
  have e : flO w P.length = some f := by
    refine run_flo (n := n) ?_
    rw [h]
    simp
  exact ⟨e, flo_flow hw (by omega) e, by omega⟩
theorem flLast_of {P : List Fl} {f : Fl} : flLast (P ++ [f]) = f := by simp [flLast]
/-- what goes over: it is at its brim with a rate above 0, or at the ground with one below -/
theorem over_facts {n : Nat} {w : Wk} {lv : List Rat} (hw : okW w) (h : Lw n w lv) {m : Int} (hm : 0 ≤ m ∧ m < w.modes.length) (nm : noneMet w lv m) {far : Rat} {v : Nat} {b : Bool} (hq : waitQ w lv m = some (far, .ov v b)) :
    v < w.brims.length ∧ (if b = true then 0 < (w.md m).rates.getD v 0 ∧ (afterQ lv (w.md m).rates far).getD v 0 = (w.brims.getD v 0 : Rat) else (w.md m).rates.getD v 0 < 0 ∧ (afterQ lv (w.md m).rates far).getD v 0 = 0) := by
  have om := hw.2.2.2.1 _ (show w.md m ∈ w.modes from getD_mem (by omega))
  have lr := om.2.1
  have ll := h.l0.len
  obtain ⟨wm, _⟩ := waitQ_mem hq
  rcases List.mem_append.mp wm with q | q
  · obtain ⟨s, hs, e⟩ := List.mem_filterMap.mp q
    unfold swWait at e
    split at e <;> cases e
  · obtain ⟨⟨r, i⟩, hr, e⟩ := List.mem_flatMap.mp q
    have hz := List.mem_zipIdx hr
    have er : (w.md m).rates.getD i 0 = r := by
      rw [List.getD_eq_getElem?_getD, List.getElem?_eq_getElem (by omega)]
      simpa using hz.2.2.symm
    unfold ovWait at e
    dsimp only at e
    split at e
    · rename_i c
      have e := List.mem_singleton.mp e
      injection e with e1 e2
      injection e2 with e2 e3
      subst e2 e3
      refine ⟨by omega, ?_⟩
      rw [if_pos rfl]
      have rq : (r : Rat) ≠ 0 := by intro z; have : r = 0 := by exact_mod_cast z
                                    omega
      refine ⟨by rw [er]; exact c, ?_⟩
      rw [after_at (by omega) (by omega), er, e1]
      grind
    · split at e
      · rename_i c
        have e := List.mem_singleton.mp e
        injection e with e1 e2
        injection e2 with e2 e3
        subst e2 e3
        refine ⟨by omega, ?_⟩
        rw [if_neg (by simp)]
        have rq : (r : Rat) ≠ 0 := by intro z; have : r = 0 := by exact_mod_cast z
                                      omega
        refine ⟨by rw [er]; exact c, ?_⟩
        rw [after_at (by omega) (by omega), er, e1]
        have en : ((0 - r : Int) : Rat) = -(r : Rat) := by rw [show (0 - r : Int) = -r by omega, Rat.intCast_neg]
        rw [en]
        grind
      · cases e
/-- at rest all rates are 0 -/
theorem rest_rates {w : Wk} {lv : List Rat} {m : Int} (hq : waitQ w lv m = none) : ∀ r ∈ (w.md m).rates, r = 0 := by
  have e : waitsQ w lv m = [] := by
    unfold waitQ at hq
    split at hq
    · assumption
    · rename_i p ps e
      exfalso
      have no := List.find?_eq_none.mp hq
      rcases leastQ_mem (ps.map (·.1)) p.1 with c | c
      · exact no p (by simp) (by rw [c]; simp)
      · obtain ⟨z, hz, e2⟩ := List.mem_map.mp c
        exact no z (by simp [hz]) (by rw [← e2]; simp)
  intro r hr
  obtain ⟨i, hi, rfl⟩ := mem_getD' 0 hr
  unfold waitsQ at e
  have e2 := (List.append_eq_nil_iff.mp e).2
  have mem := zipIdx_at (0 : Int) hi
  have := List.flatMap_eq_nil_iff.mp e2 _ mem
  unfold ovWait at this
  dsimp only at this
  split at this
  · cases this
  · split at this
    · cases this
    · omega
theorem rates_zero {rs : List Int} (h : ∀ r ∈ rs, r = 0) : rs = List.replicate rs.length 0 := List.eq_replicate_of_mem h
/-- in a whirl each mode has a met switch, and the last mode came before -/
theorem settle_whirl {w : Wk} (hw : okW w) (lv : List Rat) : ∀ (n : Nat) (pre : List Int) (m : Int), (pre ++ [m]).Nodup → (∀ x ∈ pre ++ [m], 0 ≤ x ∧ x < w.modes.length) → w.modes.length < n + (pre ++ [m]).length → (∀ x ∈ pre, ∃ s ∈ (w.md x).sws, metQ lv s = true) →
    (settleQ w lv n pre m).2 = true → ∃ (p : List Int) (l : Int), (settleQ w lv n pre m).1 = p ++ [l] ∧ l ∈ p ∧ (∀ x ∈ p, 0 ≤ x ∧ x < w.modes.length) ∧ ∀ x ∈ p, ∃ s ∈ (w.md x).sws, metQ lv s = true
  | 0, pre, m, nd, h, l, _, _ => by
    have := few_below w.modes.length (pre ++ [m]) nd h
    omega
  | n + 1, pre, m, nd, h, l, hm, wh => by
    have hm0 := h m (by simp)
    have om := hw.2.2.2.1 _ (show w.md m ∈ w.modes from getD_mem (by omega))
    unfold settleQ at wh ⊢
    cases hf : (w.md m).sws.find? (metQ lv) with
    | none => rw [hf] at wh; cases wh
    | some s =>
      rw [hf] at wh
      simp only at wh ⊢
      have os := (om.2.2.2 s (List.mem_of_find?_eq_some hf)).2.2
      have hm' : ∀ x ∈ pre ++ [m], ∃ s ∈ (w.md x).sws, metQ lv s = true := fun x hx => by
        rcases List.mem_append.mp hx with q | q
        · exact hm x q
        · cases List.mem_singleton.mp q
          exact ⟨s, List.mem_of_find?_eq_some hf, List.find?_some hf⟩
      by_cases c : s.to ∈ pre ++ [m]
      · rw [if_pos c]
        exact ⟨pre ++ [m], s.to, rfl, c, h, hm'⟩
      · rw [if_neg c] at wh ⊢
        refine settle_whirl hw lv n (pre ++ [m]) s.to ?_ ?_ ?_ hm' wh
        · exact List.nodup_append.mpr ⟨nd, by simp, by intro a ha b hb; simp only [List.mem_singleton] at hb; subst hb; intro e; exact c (e ▸ ha)⟩
        · intro x hx
          rcases List.mem_append.mp hx with q | q
          · exact h x q
          · cases List.mem_singleton.mp q
            omega
        · simp only [List.length_append, List.length_singleton] at l ⊢
          omega
theorem set_whirl {w : Wk} (hw : okW w) {lv : List Rat} {m : Int} (hm : 0 ≤ m ∧ m < w.modes.length) {ms : List Int} (h : setQ w lv m = (ms, true)) : ∃ (p : List Int) (l : Int), ms = p ++ [l] ∧ l ∈ p ∧ (∀ x ∈ p, 0 ≤ x ∧ x < w.modes.length) ∧ ∀ x ∈ p, ∃ s ∈ (w.md x).sws, metQ lv s = true := by
  have z := settle_whirl hw lv 13 [] m (by simp) (by simpa using hm) (by have := hw.2.2.1.2; simp; omega) (by simp) (by
    show (setQ w lv m).2 = true
    rw [h])
  have e : (settleQ w lv 13 [] m).1 = ms := by
    show (setQ w lv m).1 = ms
    rw [h]
  rw [e] at z
  exact z
/-- the levels at a run's end lie in their brims -/
theorem end_lw {w : Wk} (hw : okW w) {n : Nat} (hn : n ≤ 400) {e : En} (h : (runW w n).2 = some e) : match e with
    | .rest => True
    | .over t v b l => (∃ N, Lw N w l ∧ Dn N t ∧ N.log2 ≤ 7 * n) ∧ 0 ≤ t ∧ t ≤ 999 * (n : Rat)
    | .whirl t ms l => (∃ N, Lw N w l ∧ Dn N t ∧ N.log2 ≤ 7 * n) ∧ 0 ≤ t ∧ t ≤ 999 * (n : Rat) := by
  have go : ∀ {P : List Fl} {f : Fl} {far : Rat} {wt : Wh}, (runW w n).1 = P ++ [f] → waitQ w f.lv f.m = some (far, wt) → (∃ N, Lw N w (afterQ f.lv (w.md f.m).rates far) ∧ Dn N (f.t + far) ∧ N.log2 ≤ 7 * n) ∧ 0 ≤ f.t + far ∧ f.t + far ≤ 999 * (n : Rat) := by
    intro P f far wt hP hq
    obtain ⟨_, F, hl⟩ := last_flow hw hn hP
    obtain ⟨N, h1, h2, h3⟩ := F.lw
    obtain ⟨f0, f9, N', d1, d2, d3, d4, d5, d6⟩ := after_lw hw h1 F.m F.nm hq
    refine ⟨⟨N', d6 (by omega), ?_, by omega⟩, Rat.add_nonneg F.t0 f0, ?_⟩
    · obtain ⟨q, hq⟩ := d1
      rw [hq] at d4 ⊢
      exact (h2.mul).add d4
    · have a : ((P.length + 1 : Nat) : Rat) ≤ (n : Rat) := by exact_mod_cast hl
      rw [Rat.natCast_add] at a
      have b : ((1 : Nat) : Rat) = 1 := rfl
      rw [b] at a
      have := F.t9
      have c : (999 : Rat) * ((P.length : Rat) + 1) ≤ 999 * (n : Rat) := Rat.mul_le_mul_of_nonneg_left a (by decide +kernel)
      grind
  have ee := runW_end h
  cases e with
  | rest => trivial
  | over t v b l =>
    obtain ⟨P, f, far, e1, e2, e3, e4⟩ := ee
    have := go e1 e2
    rw [← e3, ← e4] at this
    exact this
  | whirl t ms l =>
    obtain ⟨m, _, c⟩ := ee
    rcases c with ⟨a1, a2, a3, a4⟩ | ⟨P, g, far, a1, a2, a3, a4, a5⟩
    · subst a3 a4
      refine ⟨⟨1, lw0 hw, Dn.int 1 0, by
        have : Nat.log2 1 = 0 := by decide +kernel
        omega⟩, Rat.le_refl, ?_⟩
      have a : (0 : Rat) ≤ (n : Rat) := by exact_mod_cast Nat.zero_le n
      grind
    · have := go a1 a2
      rw [← a3, ← a4] at this
      exact this
end PF

end

section
/-! P18k: the program's fates. -/
namespace PF
open PySem PySem.Spec PyProof.Rows L2
theorem last_atI {fl : List Fl} (h : fl ≠ []) : L2.atI fl (-1) = some (flLast fl) := by
  obtain ⟨pre, x, rfl⟩ : ∃ pre x, fl = pre ++ [x] := ⟨fl.dropLast, fl.getLast h, (List.dropLast_concat_getLast h).symm⟩
  rw [show flLast (pre ++ [x]) = x by simp [flLast]]
  exact atI_last _ _
theorem lastI {xs : List Int} (h : xs ≠ []) : L2.atI xs (-1) = some (xs.getLastD 0) := by
  obtain ⟨pre, x, rfl⟩ : ∃ pre x, xs = pre ++ [x] := ⟨xs.dropLast, xs.getLast h, (List.dropLast_concat_getLast h).symm⟩
  rw [show (pre ++ [x]).getLastD 0 = x by simp]
  exact atI_last _ _
theorem ring_loop {k : Nat} (a0 : Sl) : ∀ (rest done : List Fl) (s2 s3 s4 : Sl), (∀ f ∈ rest, f.ms ≠ []) → done.length + rest.length ≤ 1000 →
    (forD (.tup [.name 2, .name 3]) (exB (runF tab k) b_ring_in_1) ((rest.zipIdx done.length).map fun p => PyData.tuple [.int p.2, encF p.1]) [a0, .dct (seenOf done 0), s2, s3, s4]).seq (exB (runF tab k) [.ret (.con .none)]) =
      .rt (.d (match ringGo done rest with | none => .none | some (i, j) => .tuple [.int i, .int j]))
  | [], done, s2, s3, s4, _, _ => by simp [forD_nil, ringGo]
  | f :: rest, done, s2, s3, s4, h, hl => by
    have la := lastI (h f (by simp))
    have key := key_F f
    have look := look_seen f done 0
    have lt : (seenOf done 0).length < sizeLine := by
      have : (seenOf done 0).length = done.length := by simp [seenOf]
      have := sizeLine_big
      simp at hl
      omega
    have em : (f.ms.getLastD 0) = f.m := rfl
    rw [em] at la
    rw [List.zipIdx_cons, List.map_cons, forD_cons]
    simp only [setT_tup, setTs_cons, setT_name, Option.bind_some, setTs_nil, optC_some, List.set_cons_succ, List.set_cons_zero]
    unfold ringGo
    cases q : done.findIdx? (sameF f) with
    | some i =>
      rw [q] at look
      simp only [Option.map_some, Nat.add_zero] at look
      have st : exB (runF tab k) b_ring_in_1 [a0, .dct (seenOf done 0), .val (.int done.length), .val (encF f), s4] = .rt (.d (.tuple [.int i, .int done.length])) := by
        simp [b_ring_in_1, la, key, look]
      rw [st]
      simp
    | none =>
      rw [q] at look
      simp only [Option.map_none] at look
      have st : exB (runF tab k) b_ring_in_1 [a0, .dct (seenOf done 0), .val (.int done.length), .val (encF f), s4] = .nx [a0, .dct (seenOf (done ++ [f]) 0), .val (.int done.length), .val (encF f), .val (.tuple [.int f.m, encL f.lv])] := by
        simp [b_ring_in_1, la, key, look, lt, put_seen q]
      rw [st]
      simp only
      have ih := ring_loop (k := k) a0 rest (done ++ [f]) (.val (.int done.length)) (.val (encF f)) (.val (.tuple [.int f.m, encL f.lv])) (fun g hg => h g (by simp [hg])) (by simp at hl ⊢; omega)
      rw [List.length_append, List.length_singleton] at ih
      exact ih
theorem ring_in_ok {k : Nat} (fl : List Fl) (h : ∀ f ∈ fl, f.ms ≠ []) (hl : fl.length ≤ 1000) : runF tab (k + 1) i_ring_in [.list (fl.map encF)] = .ok (.d (match ringQ fl with | none => .none | some (i, j) => .tuple [.int i, .int j])) := by
  rw [runF_of tab_ring_in rfl]
  have e := ring_loop (k := k) (.val (.list (fl.map encF))) fl [] .no .no .no h (by simpa using hl)
  have s0 : seenOf [] 0 = [] := rfl
  rw [s0] at e
  simp [f_ring_in, startE, enumD_map]
  rw [List.length_nil] at e
  rw [e]
  rfl
theorem str_ne {x y : Str} (hx : SeqAt.shaped (.str x) = true) (hy : SeqAt.shaped (.str y) = true) (h : (x == y) = false) : cmpD .Eq (.d (.str x)) (.d (.str y)) = .ok (.d (.bool false)) := (M.chk_pos ⟨hx, hy⟩).trans (by rw [boolR_eq]; congr 3)
theorem str_eq {x : Str} (hx : SeqAt.shaped (.str x) = true) : cmpD .Eq (.d (.str x)) (.d (.str x)) = .ok (.d (.bool true)) := (M.chk_pos ⟨hx, hx⟩).trans (by rw [boolR_eq]; simp [PyData.eqv])
theorem rest_rest : cmpD .Eq (.d (.str "rest")) (.d (.str "rest")) = .ok (.d (.bool true)) := str_eq (by decide +kernel)
theorem whirl_rest : cmpD .Eq (.d (.str "whirl")) (.d (.str "rest")) = .ok (.d (.bool false)) := str_ne (by decide +kernel) (by decide +kernel) (by decide +kernel)
theorem over_rest : cmpD .Eq (.d (.str "over")) (.d (.str "rest")) = .ok (.d (.bool false)) := str_ne (by decide +kernel) (by decide +kernel) (by decide +kernel)
/-- the flows of a run, one by one -/
theorem run_flat {w : Wk} (hw : okW w) {most : Nat} (h400 : most ≤ 400) : (∀ i f, (runW w most).1[i]? = some f → ∃ m', FlAt w i m' f) ∧ (∀ i f g, (runW w most).1[i]? = some f → (runW w most).1[i + 1]? = some g → Nxt w f g) ∧ (runW w most).1.length ≤ most ∧ ∀ f r, (runW w most).1 = f :: r → f.t = 0 ∧ f.lv = lv0 w ∧ setQ w (lv0 w) w.at_ = (f.ms, false) := by
  rw [runW_fst]
  have at1 := hw.2.2.2.2.1
  obtain ⟨q1, q2, q3⟩ := flowsQ_spec hw most 0 1 w.at_ 0 (lv0 w) (by omega) (by omega) (lw0 hw) (Dn.int 1 0) (by decide +kernel) Rat.le_refl (by simp)
  exact ⟨fun i f h => by obtain ⟨m, g⟩ := q2 i f h; rw [Nat.zero_add] at g; exact ⟨m, g⟩, q3, flowsQ_len w most w.at_ 0 (lv0 w), q1⟩
theorem flat_ms {w : Wk} (hw : okW w) {i : Nat} {m : Int} {f : Fl} (h : FlAt w i m f) : f.ms ≠ [] := by
  obtain ⟨pre, p1, _, _⟩ := last_in hw (lv := f.lv) h.mOk
  rw [h.set] at p1
  simp only at p1
  rw [p1]
  simp
theorem flat_t (n : Nat) {w : Wk} {f : Fl} {m : Int} (h : FlAt w n m f) (hn : n ≤ 400) : Sm f.t := by
  obtain ⟨N, h1, h2, h3⟩ := h.lw
  refine sm_of (V := 399600) h1.l0.pos h2 (by have := h1.l0.log; omega) (by decide +kernel) ?_ ?_
  · have : -((399600 : Nat) : Rat) ≤ 0 := by decide +kernel
    exact Rat.le_trans this h.t0
  · have a : (n : Rat) ≤ ((400 : Nat) : Rat) := by exact_mod_cast hn
    have e : ((399600 : Nat) : Rat) = 999 * ((400 : Nat) : Rat) := by decide +kernel
    have := h.t9
    rw [e]
    grind
theorem runQ_rest (w : Wk) (most : Nat) : ∀ (n : Nat) (m : Int) (t : Rat) (lv : List Rat) (found : List Fl), (runQ w most n m t lv found).2 = some .rest → (runQ w most n m t lv found).1 ≠ []
  | 0, _, _, _, _, h => by cases h
  | n + 1, m, t, lv, found, h => by
    unfold runQ at h ⊢
    by_cases wh : (setQ w lv m).2 = true
    · rw [if_pos wh] at h; cases h
    · rw [if_neg wh] at h ⊢
      by_cases c : found.length = most
      · rw [if_pos c] at h; cases h
      · rw [if_neg c] at h ⊢
        cases hq : waitQ w lv ((setQ w lv m).1.getLastD 0) with
        | none => simp
        | some p =>
          obtain ⟨far, wt⟩ := p
          rw [hq] at h
          cases wt with
          | ov v b => cases h
          | sw => exact runQ_rest w most n _ _ _ _ h
theorem known_fate_ok {k : Nat} {w : Wk} (hw : okW w) (most : Nat) (h400 : most ≤ 400) : runF tab (k + 7) i_known_fate [encW w, .int most] = .ok (.d (.tuple [encFt (fateOf (runW w most)), .list ((runW w most).1.map encF)])) := by
  rw [runF_of tab_known_fate rfl]
  have r := run_ok (k := k) hw most h400
  obtain ⟨fa, _, fl, _⟩ := run_flat hw h400
  obtain ⟨F, hF⟩ : ∃ F, F = runW w most := ⟨_, rfl⟩
  have rr := runQ_rest w most (most + 1) w.at_ 0 (lv0 w) []
  rw [show runQ w most (most + 1) w.at_ 0 (lv0 w) [] = runW w most from rfl] at rr
  rw [← hF] at r fa fl rr ⊢
  obtain ⟨found, en⟩ := F
  simp only at fa fl rr
  have ms : ∀ f ∈ found, f.ms ≠ [] := fun f hf => by
    obtain ⟨i, hi⟩ := List.getElem?_of_mem hf
    obtain ⟨m, a⟩ := fa i f hi
    exact flat_ms hw a
  have ri := ring_in_ok (k := k + 5) found ms (by omega)
  have er : encRun (found, en) = .tuple [.list (found.map encF), encEn en] := rfl
  rw [er] at r
  unfold fateOf
  cases q : ringQ found with
  | some p =>
    obtain ⟨i, j⟩ := p
    rw [q] at ri
    simp only at ri
    obtain ⟨ij, jl, _, f, g, hf, hg, _, _⟩ := ringQ_some q
    obtain ⟨mf, af⟩ := fa i f hf
    obtain ⟨mg, ag⟩ := fa j g hg
    have mi := minus_ok (k := k + 3) g.t f.t (flat_t j ag (by omega)) (flat_t i af (by omega))
    have e1 : L2.atI found (i : Int) = some f := by rw [atI_nat', hf]
    have e2 : L2.atI found (j : Int) = some g := by rw [atI_nat', hg]
    have sub : ((j - i : Nat) : Int) = (j : Int) - i := by omega
    simp [f_known_fate, startE, r, ri, e1, e2, mi]
    rw [flAt_of hf, flAt_of hg]
    simp [encFt, sub]
  | none =>
    rw [q] at ri
    simp only at ri
    cases en with
    | none => simp [f_known_fate, startE, r, ri, encEn, encFt]
    | some e =>
      cases e with
      | rest =>
        have ne := rr rfl
        have la := last_atI ne
        have lm := lastI (ms (flLast found) (by
          obtain ⟨pre, x, hx⟩ : ∃ pre x, found = pre ++ [x] := ⟨found.dropLast, found.getLast ne, (List.dropLast_concat_getLast ne).symm⟩
          rw [hx]
          simp [flLast]))
        have em : ((flLast found).ms.getLastD 0) = (flLast found).m := rfl
        rw [em] at lm
        simp [f_known_fate, startE, r, ri, encEn, rest_rest, la, lm, encFt]
      | over t v b lv => simp [f_known_fate, startE, r, ri, encEn, over_rest, encFt]
      | whirl t ms lv => simp [f_known_fate, startE, r, ri, encEn, whirl_rest, encFt]
end PF

end

section
/-! P18t: the fates' words. -/
namespace PF
open PySem PySem.Spec PyProof.Rows L2
@[simp] theorem tg_ring_ring : cmpD .Eq (.d (.str "ring")) (.d (.str "ring")) = .ok (.d (.bool true)) := (M.chk_pos ⟨by decide +kernel, by decide +kernel⟩).trans (by rw [boolR_eq]; simp [PyData.eqv])
@[simp] theorem tg_ring_over : cmpD .Eq (.d (.str "ring")) (.d (.str "over")) = .ok (.d (.bool false)) := (M.chk_pos ⟨by decide +kernel, by decide +kernel⟩).trans (by rw [boolR_eq]; congr 3)
@[simp] theorem tg_ring_rest : cmpD .Eq (.d (.str "ring")) (.d (.str "rest")) = .ok (.d (.bool false)) := (M.chk_pos ⟨by decide +kernel, by decide +kernel⟩).trans (by rw [boolR_eq]; congr 3)
@[simp] theorem tg_ring_whirl : cmpD .Eq (.d (.str "ring")) (.d (.str "whirl")) = .ok (.d (.bool false)) := (M.chk_pos ⟨by decide +kernel, by decide +kernel⟩).trans (by rw [boolR_eq]; congr 3)
@[simp] theorem tg_ring_open : cmpD .Eq (.d (.str "ring")) (.d (.str "open")) = .ok (.d (.bool false)) := (M.chk_pos ⟨by decide +kernel, by decide +kernel⟩).trans (by rw [boolR_eq]; congr 3)
@[simp] theorem tg_over_ring : cmpD .Eq (.d (.str "over")) (.d (.str "ring")) = .ok (.d (.bool false)) := (M.chk_pos ⟨by decide +kernel, by decide +kernel⟩).trans (by rw [boolR_eq]; congr 3)
@[simp] theorem tg_over_over : cmpD .Eq (.d (.str "over")) (.d (.str "over")) = .ok (.d (.bool true)) := (M.chk_pos ⟨by decide +kernel, by decide +kernel⟩).trans (by rw [boolR_eq]; simp [PyData.eqv])
@[simp] theorem tg_over_rest : cmpD .Eq (.d (.str "over")) (.d (.str "rest")) = .ok (.d (.bool false)) := (M.chk_pos ⟨by decide +kernel, by decide +kernel⟩).trans (by rw [boolR_eq]; congr 3)
@[simp] theorem tg_over_whirl : cmpD .Eq (.d (.str "over")) (.d (.str "whirl")) = .ok (.d (.bool false)) := (M.chk_pos ⟨by decide +kernel, by decide +kernel⟩).trans (by rw [boolR_eq]; congr 3)
@[simp] theorem tg_over_open : cmpD .Eq (.d (.str "over")) (.d (.str "open")) = .ok (.d (.bool false)) := (M.chk_pos ⟨by decide +kernel, by decide +kernel⟩).trans (by rw [boolR_eq]; congr 3)
@[simp] theorem tg_rest_ring : cmpD .Eq (.d (.str "rest")) (.d (.str "ring")) = .ok (.d (.bool false)) := (M.chk_pos ⟨by decide +kernel, by decide +kernel⟩).trans (by rw [boolR_eq]; congr 3)
@[simp] theorem tg_rest_over : cmpD .Eq (.d (.str "rest")) (.d (.str "over")) = .ok (.d (.bool false)) := (M.chk_pos ⟨by decide +kernel, by decide +kernel⟩).trans (by rw [boolR_eq]; congr 3)
@[simp] theorem tg_rest_rest : cmpD .Eq (.d (.str "rest")) (.d (.str "rest")) = .ok (.d (.bool true)) := (M.chk_pos ⟨by decide +kernel, by decide +kernel⟩).trans (by rw [boolR_eq]; simp [PyData.eqv])
@[simp] theorem tg_rest_whirl : cmpD .Eq (.d (.str "rest")) (.d (.str "whirl")) = .ok (.d (.bool false)) := (M.chk_pos ⟨by decide +kernel, by decide +kernel⟩).trans (by rw [boolR_eq]; congr 3)
@[simp] theorem tg_rest_open : cmpD .Eq (.d (.str "rest")) (.d (.str "open")) = .ok (.d (.bool false)) := (M.chk_pos ⟨by decide +kernel, by decide +kernel⟩).trans (by rw [boolR_eq]; congr 3)
@[simp] theorem tg_whirl_ring : cmpD .Eq (.d (.str "whirl")) (.d (.str "ring")) = .ok (.d (.bool false)) := (M.chk_pos ⟨by decide +kernel, by decide +kernel⟩).trans (by rw [boolR_eq]; congr 3)
@[simp] theorem tg_whirl_over : cmpD .Eq (.d (.str "whirl")) (.d (.str "over")) = .ok (.d (.bool false)) := (M.chk_pos ⟨by decide +kernel, by decide +kernel⟩).trans (by rw [boolR_eq]; congr 3)
@[simp] theorem tg_whirl_rest : cmpD .Eq (.d (.str "whirl")) (.d (.str "rest")) = .ok (.d (.bool false)) := (M.chk_pos ⟨by decide +kernel, by decide +kernel⟩).trans (by rw [boolR_eq]; congr 3)
@[simp] theorem tg_whirl_whirl : cmpD .Eq (.d (.str "whirl")) (.d (.str "whirl")) = .ok (.d (.bool true)) := (M.chk_pos ⟨by decide +kernel, by decide +kernel⟩).trans (by rw [boolR_eq]; simp [PyData.eqv])
@[simp] theorem tg_whirl_open : cmpD .Eq (.d (.str "whirl")) (.d (.str "open")) = .ok (.d (.bool false)) := (M.chk_pos ⟨by decide +kernel, by decide +kernel⟩).trans (by rw [boolR_eq]; congr 3)
@[simp] theorem tg_open_ring : cmpD .Eq (.d (.str "open")) (.d (.str "ring")) = .ok (.d (.bool false)) := (M.chk_pos ⟨by decide +kernel, by decide +kernel⟩).trans (by rw [boolR_eq]; congr 3)
@[simp] theorem tg_open_over : cmpD .Eq (.d (.str "open")) (.d (.str "over")) = .ok (.d (.bool false)) := (M.chk_pos ⟨by decide +kernel, by decide +kernel⟩).trans (by rw [boolR_eq]; congr 3)
@[simp] theorem tg_open_rest : cmpD .Eq (.d (.str "open")) (.d (.str "rest")) = .ok (.d (.bool false)) := (M.chk_pos ⟨by decide +kernel, by decide +kernel⟩).trans (by rw [boolR_eq]; congr 3)
@[simp] theorem tg_open_whirl : cmpD .Eq (.d (.str "open")) (.d (.str "whirl")) = .ok (.d (.bool false)) := (M.chk_pos ⟨by decide +kernel, by decide +kernel⟩).trans (by rw [boolR_eq]; congr 3)
@[simp] theorem tg_open_open : cmpD .Eq (.d (.str "open")) (.d (.str "open")) = .ok (.d (.bool true)) := (M.chk_pos ⟨by decide +kernel, by decide +kernel⟩).trans (by rw [boolR_eq]; simp [PyData.eqv])
@[simp] theorem ow_ring : cmpD .In (.d (.str "ring")) (.d (.tuple [.str "over", .str "whirl"])) = .ok (.d (.bool false)) := (M.chk_pos ⟨rfl, rfl⟩).trans (by rw [boolR_eq]; congr 3)
@[simp] theorem ow_over : cmpD .In (.d (.str "over")) (.d (.tuple [.str "over", .str "whirl"])) = .ok (.d (.bool true)) := (M.chk_pos ⟨rfl, rfl⟩).trans (by rw [boolR_eq]; congr 3)
@[simp] theorem ow_rest : cmpD .In (.d (.str "rest")) (.d (.tuple [.str "over", .str "whirl"])) = .ok (.d (.bool false)) := (M.chk_pos ⟨rfl, rfl⟩).trans (by rw [boolR_eq]; congr 3)
@[simp] theorem ow_whirl : cmpD .In (.d (.str "whirl")) (.d (.tuple [.str "over", .str "whirl"])) = .ok (.d (.bool true)) := (M.chk_pos ⟨rfl, rfl⟩).trans (by rw [boolR_eq]; congr 3)
@[simp] theorem ow_open : cmpD .In (.d (.str "open")) (.d (.tuple [.str "over", .str "whirl"])) = .ok (.d (.bool false)) := (M.chk_pos ⟨rfl, rfl⟩).trans (by rw [boolR_eq]; congr 3)
end PF

end

section
/-! P18y: fates may be compared. -/
namespace PF
open PySem PySem.Spec PyProof.Rows L2
theorem lay_L (lv : List Rat) : Lay 2 (encL lv) := lay_tm _ lv fun x _ => lay_Q x
theorem plain_Q (x : Rat) : plain (encQ x) = true := rfl
theorem plain_L (lv : List Rat) : plain (encL lv) = true := plain_tm _ lv fun x _ => plain_Q x
theorem plain_I (xs : List Int) : plain (encI xs) = true := plain_tm _ xs fun x _ => rfl
theorem encL_inj {a b : List Rat} (h : encL a = encL b) : a = b := by
  unfold encL at h
  injection h with h
  induction a generalizing b with
  | nil => cases b with
    | nil => rfl
    | cons y ys => simp at h
  | cons x xs ih => cases b with
    | nil => simp at h
    | cons y ys =>
      simp only [List.map_cons, List.cons.injEq] at h
      rw [encQ_inj h.1, ih h.2]
theorem eq_LL (a b : List Rat) : cmpD .Eq (.d (encL a)) (.d (encL b)) = .ok (.d (.bool (decide (a = b)))) := by
  rw [eq_plain (a := .d (encL a)) (b := .d (encL b)) (lay_L a) (lay_L b) (by omega) (by omega) (plain_L a) (plain_L b)]
  congr 3
  by_cases h : a = b
  · subst h; simp
  · have : ¬ encL a = encL b := fun z => h (encL_inj z)
    simp [h, this]
theorem neg_encQ' (x : Rat) : PyData.tuple [.int (-x.num), .int x.den] = encQ (-x) := by
  unfold encQ
  rw [Rat.neg_num, Rat.neg_den]
theorem sm_neg {x : Rat} (h : Sm x) : Sm (-x) := by
  unfold Sm
  rw [Rat.neg_num, Rat.neg_den, Int.natAbs_neg]
  exact h
theorem lay_s {x : Str} (h : (PyData.str x).canLay0 = true) : Lay 0 (.str x) := ⟨h, Nat.le_refl _⟩
theorem lay_endD (b : Bool) : Lay 0 (endD b) := by cases b <;> exact ⟨by decide +kernel, Nat.le_refl _⟩
theorem plain_endD (b : Bool) : plain (endD b) = true := rfl
theorem lay_En (e : En) : Lay 3 (encEn (some e)) := by
  cases e with
  | rest => exact (lay_t _ fun x hx => by simp at hx; subst hx; exact lay_s (by decide +kernel)).mono (n := 1) (by omega)
  | over t v b lv =>
    refine lay_t _ fun x hx => ?_
    simp at hx
    rcases hx with rfl | rfl | rfl | rfl | rfl
    · exact (lay_s (by decide +kernel)).mono (by omega)
    · exact (lay_Q _).mono (by omega)
    · exact (lay_i _).mono (by omega)
    · exact (lay_endD _).mono (by omega)
    · exact lay_L _
  | whirl t ms lv =>
    refine lay_t _ fun x hx => ?_
    simp at hx
    rcases hx with rfl | rfl | rfl | rfl
    · exact (lay_s (by decide +kernel)).mono (by omega)
    · exact (lay_Q _).mono (by omega)
    · exact (lay_I _).mono (by omega)
    · exact lay_L _
theorem plain_En (e : En) : plain (encEn (some e)) = true := by
  cases e with
  | rest => rfl
  | over t v b lv =>
    refine plain_t _ fun x hx => ?_
    simp at hx
    rcases hx with rfl | rfl | rfl | rfl | rfl
    · rfl
    · rfl
    · rfl
    · rfl
    · exact plain_L _
  | whirl t ms lv =>
    refine plain_t _ fun x hx => ?_
    simp at hx
    rcases hx with rfl | rfl | rfl | rfl
    · rfl
    · rfl
    · exact plain_I _
    · exact plain_L _
theorem lay_Ft (f : Ft) : Lay 3 (encFt f) := by
  cases f with
  | opn => exact (lay_t _ fun x hx => by simp at hx; subst hx; exact lay_s (by decide +kernel)).mono (n := 1) (by omega)
  | over t v b lv => exact lay_En (.over t v b lv)
  | whirl t ms lv => exact lay_En (.whirl t ms lv)
  | rest t m lv =>
    refine lay_t _ fun x hx => ?_
    simp at hx
    rcases hx with rfl | rfl | rfl | rfl
    · exact (lay_s (by decide +kernel)).mono (by omega)
    · exact (lay_Q _).mono (by omega)
    · exact (lay_i _).mono (by omega)
    · exact lay_L _
  | ring i n t p =>
    refine lay_t _ fun x hx => ?_
    simp at hx
    rcases hx with rfl | rfl | rfl | rfl | rfl
    · exact (lay_s (by decide +kernel)).mono (by omega)
    · exact (lay_i _).mono (by omega)
    · exact (lay_i _).mono (by omega)
    · exact (lay_Q _).mono (by omega)
    · exact (lay_Q _).mono (by omega)
theorem plain_Ft (f : Ft) : plain (encFt f) = true := by
  cases f with
  | opn => rfl
  | over t v b lv => exact plain_En (.over t v b lv)
  | whirl t ms lv => exact plain_En (.whirl t ms lv)
  | rest t m lv =>
    refine plain_t _ fun x hx => ?_
    simp at hx
    rcases hx with rfl | rfl | rfl | rfl
    · rfl
    · rfl
    · rfl
    · exact plain_L _
  | ring i n t p =>
    refine plain_t _ fun x hx => ?_
    simp at hx
    rcases hx with rfl | rfl | rfl | rfl | rfl <;> rfl
theorem rest_eq (e : En) : cmpD .Eq (.d (encEn (some e))) (.d (.tuple [.str "rest"])) = .ok (.d (.bool (match e with | .rest => true | _ => false))) := by
  have l1 : Lay 1 (.tuple [.str "rest"]) := lay_t _ fun x hx => by simp at hx; subst hx; exact lay_s (by decide +kernel)
  rw [eq_plain (a := .d (encEn (some e))) (b := .d (.tuple [.str "rest"])) (lay_En e) l1 (by omega) (by omega) (plain_En e) rfl]
  cases e with
  | rest => simp [encEn]
  | over t v b lv =>
    have : ¬ encEn (some (.over t v b lv)) = .tuple [.str "rest"] := by simp [encEn]
    simp [this]
  | whirl t ms lv =>
    have : ¬ encEn (some (.whirl t ms lv)) = .tuple [.str "rest"] := by simp [encEn]
    simp [this]
end PF

end

section
/-! P25p: moments, pure. -/
namespace PF
open PySem PySem.Spec PyProof.Rows L2
/-! ### whole parts -/
def floorQ (a : Rat) : Int := a.num / (a.den : Int)
theorem floor_le (a : Rat) : (floorQ a : Rat) ≤ a ∧ a < (floorQ a : Rat) + 1 := by
  have dp : 0 < (a.den : Int) := by have := a.den_pos; omega
  have e1 := Int.mul_ediv_add_emod a.num a.den
  have e2 := Int.emod_nonneg a.num (show (a.den : Int) ≠ 0 by omega)
  have e3 := Int.emod_lt_of_pos a.num dp
  have n := num_abs a
  have dq : (0 : Rat) < (a.den : Rat) := by exact_mod_cast a.den_pos
  have u1 : (((a.den : Int) * floorQ a : Int) : Rat) ≤ (a.num : Rat) := by exact_mod_cast (show (a.den : Int) * floorQ a ≤ a.num by unfold floorQ; omega)
  have u2 : (a.num : Rat) < (((a.den : Int) * floorQ a + (a.den : Int) : Int) : Rat) := by exact_mod_cast (show a.num < (a.den : Int) * floorQ a + a.den by unfold floorQ; omega)
  rw [Rat.intCast_add, Rat.intCast_mul] at u2
  rw [Rat.intCast_mul] at u1
  have d' : ((a.den : Int) : Rat) = (a.den : Rat) := rfl
  rw [d'] at u1 u2
  rw [← n] at u1 u2
  constructor
  · refine Rat.not_lt.mp fun z => ?_
    have := Rat.mul_lt_mul_of_pos_right z dq
    grind
  · refine Rat.not_le.mp fun z => ?_
    have := Rat.mul_le_mul_of_nonneg_right z (Rat.le_of_lt dq)
    grind
theorem floor_of {a : Rat} {q : Int} (h1 : (q : Rat) ≤ a) (h2 : a < (q : Rat) + 1) : floorQ a = q := by
  obtain ⟨a1, a2⟩ := floor_le a
  have b1 : (floorQ a : Rat) < (q : Rat) + 1 := by grind
  have b2 : (q : Rat) < (floorQ a : Rat) + 1 := by grind
  have c1 : floorQ a < q + 1 := by
    have : (floorQ a : Rat) < ((q + 1 : Int) : Rat) := by rw [Rat.intCast_add]; exact b1
    exact_mod_cast this
  have c2 : q < floorQ a + 1 := by
    have : (q : Rat) < ((floorQ a + 1 : Int) : Rat) := by rw [Rat.intCast_add]; exact b2
    exact_mod_cast this
  omega
/-- a quotient of whole numbers, in any terms -/
theorem floor_div (n d : Int) (hd : 0 < d) : floorQ ((n : Rat) / (d : Rat)) = n / d := by
  have dq : (0 : Rat) < (d : Rat) := by exact_mod_cast hd
  have dn : (d : Rat) ≠ 0 := by intro z; rw [z] at dq; exact Rat.lt_irrefl dq
  have e : (n : Rat) / (d : Rat) * (d : Rat) = (n : Rat) := Rat.div_mul_cancel dn
  have e1 := Int.mul_ediv_add_emod n d
  have e2 := Int.emod_nonneg n (show d ≠ 0 by omega)
  have e3 := Int.emod_lt_of_pos n hd
  have u1 : ((d * (n / d) : Int) : Rat) ≤ (n : Rat) := by exact_mod_cast (show d * (n / d) ≤ n by omega)
  have u2 : (n : Rat) < ((d * (n / d) + d : Int) : Rat) := by exact_mod_cast (show n < d * (n / d) + d by omega)
  rw [Rat.intCast_add, Rat.intCast_mul] at u2
  rw [Rat.intCast_mul] at u1
  refine floor_of ?_ ?_
  · refine Rat.not_lt.mp fun z => ?_
    have := Rat.mul_lt_mul_of_pos_right z dq
    grind
  · refine Rat.not_le.mp fun z => ?_
    have := Rat.mul_le_mul_of_nonneg_right z (Rat.le_of_lt dq)
    grind
def turnQ (x t p : Rat) : Rat := if x < t then x else x - (floorQ ((x - t) / p) : Rat) * p
theorem turn_in {x t p : Rat} (h : ¬ x < t) (hp : 0 < p) : t ≤ turnQ x t p ∧ turnQ x t p < t + p := by
  unfold turnQ
  rw [if_neg h]
  obtain ⟨a, b⟩ := floor_le ((x - t) / p)
  have pn : p ≠ 0 := by intro z; rw [z] at hp; exact Rat.lt_irrefl hp
  have e : (x - t) / p * p = x - t := Rat.div_mul_cancel pn
  have u1 := Rat.mul_le_mul_of_nonneg_right a (Rat.le_of_lt hp)
  have u2 := Rat.mul_lt_mul_of_pos_right b hp
  constructor <;> grind
theorem turn_small {x t p : Rat} (h : x < t + p) (hp : 0 < p) : turnQ x t p = x := by
  unfold turnQ
  by_cases c : x < t
  · rw [if_pos c]
  · rw [if_neg c]
    have pn : p ≠ 0 := by intro z; rw [z] at hp; exact Rat.lt_irrefl hp
    have e : (x - t) / p * p = x - t := Rat.div_mul_cancel pn
    have : floorQ ((x - t) / p) = 0 := by
      refine floor_of ?_ ?_
      · refine Rat.not_lt.mp fun z => ?_
        have z : (x - t) / p < 0 := z
        have := Rat.mul_lt_mul_of_pos_right z hp
        grind
      · refine Rat.not_le.mp fun z => ?_
        have z : 1 ≤ (x - t) / p := by grind
        have := Rat.mul_le_mul_of_nonneg_right z (Rat.le_of_lt hp)
        grind
    rw [this]
    have : ((0 : Int) : Rat) = 0 := rfl
    rw [this]
    grind
/-! ### where the works are -/
def aheadQ (L : List Fl) (x : Rat) : List Fl := L.filter fun f => !decide (x < f.t)
inductive MoR where
  | ok (m : Int) (lv : List Rat)
  | ov
  | op
def atQ (w : Wk) (f : Fl) (x : Rat) : MoR := .ok f.m (afterQ f.lv (w.md f.m).rates (x - f.t))
def momR (w : Wk) (r : List Fl × Option En) (x : Rat) : MoR := match fateOf r with
  | .ring _ _ t p => atQ w (flLast (aheadQ r.1 (turnQ x t p))) (turnQ x t p)
  | .opn => if x < (flLast r.1).t then atQ w (flLast (aheadQ r.1 x)) x else .op
  | .over e _ _ _ => if e < x then .ov else atQ w (flLast (aheadQ r.1 x)) x
  | .whirl e _ _ => if e < x ∨ e = x then .ov else atQ w (flLast (aheadQ r.1 x)) x
  | .rest _ _ _ => atQ w (flLast (aheadQ r.1 x)) x
def momQ (w : Wk) (x : Rat) : MoR := momR w (runW w 400) x
def encMo (m : Int) (lv : List Rat) : D := .tuple [.int m, encL lv]
/-- all flows over one denominator -/
structure AllDn (w : Wk) (N : Nat) : Prop where
  pos : 0 < N
  dn : ∀ k, k < 400 → ∀ f, flO w k = some f → Dn N f.t ∧ ∀ l ∈ f.lv, Dn N l
theorem all_dn {w : Wk} (hw : okW w) : ∃ N, AllDn w N ∧ N.log2 ≤ 2800 := by
  have go : ∀ n, n ≤ 400 → ∃ N : Nat, 0 < N ∧ N.log2 ≤ 2800 ∧ ∀ k, k < n → ∀ f, flO w k = some f → Dn N f.t ∧ ∀ l ∈ f.lv, Dn N l := by
    intro n
    induction n with
    | zero => exact fun _ => ⟨1, by omega, by decide +kernel, fun k hk => by omega⟩
    | succ n ih =>
      intro hn
      obtain ⟨N, a, b, c⟩ := ih (by omega)
      cases q : flO w n with
      | none => 
        refine ⟨N, a, b, fun k hk f hf => ?_⟩
        by_cases e : k = n
        · subst e; rw [q] at hf; cases hf
        · exact c k (by omega) f hf
      | some g =>
        obtain ⟨N, a1, a2, a3, a4⟩ := flo_dn hw n (by omega) g q
        exact ⟨N, a2.l0.pos, by omega, fun k hk f hf => a4 k (by omega) f hf⟩
  obtain ⟨N, a, b, c⟩ := go 400 (by omega)
  exact ⟨N, ⟨a, c⟩, b⟩
theorem AllDn.mul {w : Wk} {N : Nat} (h : AllDn w N) {c : Nat} (hc : 0 < c) : AllDn w (N * c) := ⟨Nat.mul_pos h.pos hc, fun k hk f hf => by
  obtain ⟨a, b⟩ := h.dn k hk f hf
  exact ⟨a.of_dvd ⟨c, rfl⟩, fun l hl => (b l hl).of_dvd ⟨c, rfl⟩⟩⟩
def VX : Nat := 2 ^ 50
/-- times that may be asked for -/
structure TmOk (w : Wk) (x : Rat) : Prop where
  x0 : 0 ≤ x
  x9 : x ≤ (VX : Rat)
  dn : ∃ N, AllDn w N ∧ N.log2 ≤ 3880 ∧ Dn N x
theorem sm_v {N : Nat} {x : Rat} (h : 0 < N) (l : N.log2 ≤ 3880) (d : Dn N x) (h1 : -(128 * (VX : Rat)) ≤ x) (h2 : x ≤ 128 * (VX : Rat)) : Sm x := by
  have e : ((2 ^ 57 : Nat) : Rat) = 128 * (VX : Rat) := by decide +kernel
  exact sm_of (V := 2 ^ 57) h d (by omega) (by decide +kernel) (by rw [e]; exact h1) (by rw [e]; exact h2)
theorem v_big : (1000000 : Rat) ≤ (VX : Rat) := by decide +kernel
theorem ahead_ne {w : Wk} (hw : okW w) {n : Nat} (hn : n ≤ 400) (ne : (runW w n).1 ≠ []) {x : Rat} (h : 0 ≤ x) : aheadQ (runW w n).1 x ≠ [] := by
  obtain ⟨_, _, _, f0⟩ := run_flat hw hn
  cases q : (runW w n).1 with
  | nil => exact absurd q ne
  | cons f r =>
    have e := (f0 f r q).1
    intro z
    have := List.filter_eq_nil_iff.mp z f (by simp)
    simp [e] at this
    exact Rat.not_lt.mpr h this
theorem ahead_last {w : Wk} (hw : okW w) {n : Nat} (hn : n ≤ 400) (ne : (runW w n).1 ≠ []) {x : Rat} (h : 0 ≤ x) : ∃ P, aheadQ (runW w n).1 x = P ++ [flLast (aheadQ (runW w n).1 x)] ∧ flLast (aheadQ (runW w n).1 x) ∈ (runW w n).1 ∧ (flLast (aheadQ (runW w n).1 x)).t ≤ x := by
  have a := ahead_ne hw hn ne h
  obtain ⟨A, hA⟩ : ∃ A, A = aheadQ (runW w n).1 x := ⟨_, rfl⟩
  rw [← hA] at a ⊢
  have e : A.dropLast ++ [flLast A] = A := by
    unfold flLast
    rw [List.getLastD_eq_getLast?, List.getLast?_eq_some_getLast a]
    exact List.dropLast_concat_getLast a
  have m : flLast A ∈ A.dropLast ++ [flLast A] := by simp
  rw [e] at m
  rw [hA] at m
  obtain ⟨m1, m2⟩ := List.mem_filter.mp m
  rw [← hA] at m1 m2
  exact ⟨A.dropLast, e.symm, m1, Rat.not_lt.mp (by simpa using m2)⟩
theorem time_small {w : Wk} (hw : okW w) {n : Nat} {f : Fl} (hf : flO w n = some f) (hn : n < 400) : Sm f.t ∧ f.t ≤ (VX : Rat) := by
  obtain ⟨N, a, b⟩ := all_dn hw
  have F := flo_flow hw hn hf
  have t0 := F.t0
  have t9 := F.t9
  have vb := v_big
  have c : (n : Rat) ≤ ((400 : Nat) : Rat) := by exact_mod_cast (show n ≤ 400 by omega)
  have e : ((400 : Nat) : Rat) = 400 := rfl
  rw [e] at c
  have le : f.t ≤ (VX : Rat) := by grind
  exact ⟨sm_v a.pos (by omega) (a.dn n hn f hf).1 (by grind) (by grind), le⟩
/-- the ring's time and period -/
theorem ring_facts {w : Wk} (hw : okW w) {n : Nat} (hn : n ≤ 400) {i m : Nat} {t p : Rat} (h : fateOf (runW w n) = .ring i m t p) : ∃ f g, 0 < m ∧ i + m < n ∧ flO w i = some f ∧ flO w (i + m) = some g ∧ f.t = t ∧ g.t - f.t = p ∧ 0 < p ∧ g.m = f.m ∧ g.lv = f.lv := by
  unfold fateOf at h
  cases hr : ringQ (runW w n).1 with
  | none =>
    rw [hr] at h
    cases he : (runW w n).2 with
    | none => rw [he] at h; cases h
    | some e => rw [he] at h; cases e <;> cases h
  | some q =>
    obtain ⟨a, b⟩ := q
    rw [hr] at h
    obtain ⟨ij, jl, _, f, g, hf, hg, sf, _⟩ := ringQ_some hr
    have := runW_len w n
    injection h with h1 h2 h3 h4
    subst h1
    have hm : a + m = b := by omega
    rw [flAt_of hf] at h3 h4
    rw [flAt_of hg] at h4
    have ff := run_flo hf
    have gg := run_flo hg
    obtain ⟨s1, s2⟩ := sameF_iff.mp sf
    obtain ⟨d, hd⟩ : ∃ d, b = a + d + 1 := ⟨b - a - 1, by omega⟩
    have tl := time_lt hw d (by omega) ff (by rw [← hd]; exact gg)
    exact ⟨f, g, by omega, by omega, ff, by rw [hm]; exact gg, h3, h4, by rw [← h4]; grind, s1.symm, s2.symm⟩
theorem TmOk.turn {w : Wk} (hw : okW w) {n : Nat} (hn : n ≤ 400) {i m : Nat} {t p : Rat} (h : fateOf (runW w n) = .ring i m t p) {x : Rat} (X : TmOk w x) : TmOk w (turnQ x t p) ∧ Sm t ∧ Sm p ∧ Sm (x - t) ∧ (¬ x < t → Sm ((floorQ ((x - t) / p) : Int) : Rat) ∧ Sm ((floorQ ((x - t) / p) : Rat) * p)) := by
  obtain ⟨f, g, m0, im, hf, hg, ht, hp, p0, _, _⟩ := ring_facts hw hn h
  obtain ⟨N, a, b, c⟩ := X.dn
  have F := flo_flow hw (by omega) hf
  have df := (a.dn i (by omega) f hf).1
  have dg := (a.dn (i + m) (by omega) g hg).1
  have dp : Dn N p := by rw [← hp]; exact dg.sub df
  have t0 := F.t0
  have tv := (time_small hw hf (by omega)).2
  have gv := (time_small hw hg (by omega)).2
  have pv : p ≤ (VX : Rat) := by grind
  have x0 := X.x0
  have x9 := X.x9
  rw [ht] at df t0 tv
  have sp : Sm p := sm_v a.pos b dp (by grind) (by grind)
  refine ⟨?_, sm_v a.pos b df (by grind) (by grind), sp, sm_v a.pos b (c.sub df) (by grind) (by grind), fun nx => ?_⟩
  · by_cases nx : x < t
    · unfold turnQ
      rw [if_pos nx]
      exact X
    · obtain ⟨a1, a2⟩ := turn_in nx p0
      have up : turnQ x t p ≤ x := by
        unfold turnQ
        rw [if_neg nx]
        have : 0 ≤ (floorQ ((x - t) / p) : Rat) * p := by
          obtain ⟨_, z⟩ := floor_le ((x - t) / p)
          have pn : p ≠ 0 := by intro z; rw [z] at p0; exact Rat.lt_irrefl p0
          have q0 : 0 ≤ (x - t) / p := by
            refine Rat.not_lt.mp fun y => ?_
            have := Rat.mul_lt_mul_of_pos_right y p0
            rw [Rat.div_mul_cancel pn] at this
            grind
          have : (-1 : Rat) < (floorQ ((x - t) / p) : Rat) := by grind
          have : (-1 : Int) < floorQ ((x - t) / p) := by
            have e : ((-1 : Int) : Rat) = -1 := by decide +kernel
            rw [← e] at this
            exact_mod_cast this
          have : (0 : Rat) ≤ (floorQ ((x - t) / p) : Rat) := by exact_mod_cast (show 0 ≤ floorQ ((x - t) / p) by omega)
          exact Rat.mul_nonneg this (Rat.le_of_lt p0)
        grind
      refine ⟨by grind, by grind, N, a, b, ?_⟩
      unfold turnQ
      rw [if_neg nx]
      exact c.sub (dp.imul _)
  · obtain ⟨z1, z2⟩ := floor_le ((x - t) / p)
    have pn : p ≠ 0 := by intro z; rw [z] at p0; exact Rat.lt_irrefl p0
    have e : (x - t) / p * p = x - t := Rat.div_mul_cancel pn
    have q0 : 0 ≤ (x - t) / p := by
      refine Rat.not_lt.mp fun y => ?_
      have := Rat.mul_lt_mul_of_pos_right y p0
      rw [e] at this
      grind
    have k0 : 0 ≤ floorQ ((x - t) / p) := by
      have : (-1 : Rat) < (floorQ ((x - t) / p) : Rat) := by grind
      have e : ((-1 : Int) : Rat) = -1 := by decide +kernel
      rw [← e] at this
      have : (-1 : Int) < floorQ ((x - t) / p) := by exact_mod_cast this
      omega
    have kp : (floorQ ((x - t) / p) : Rat) * p ≤ x - t := by
      have := Rat.mul_le_mul_of_nonneg_right z1 (Rat.le_of_lt p0)
      grind
    have k0' : (0 : Rat) ≤ (floorQ ((x - t) / p) : Rat) := by exact_mod_cast k0
    have kp0 : 0 ≤ (floorQ ((x - t) / p) : Rat) * p := Rat.mul_nonneg k0' (Rat.le_of_lt p0)
    refine ⟨⟨?_, by show Nat.log2 1 < 4000; decide +kernel⟩, sm_v a.pos b (dp.imul _) (by grind) (by grind)⟩
    -- k * p.num ≤ V * p.den
    obtain ⟨K, hK⟩ : ∃ K, K = floorQ ((x - t) / p) := ⟨_, rfl⟩
    rw [← hK] at k0 kp k0' kp0 ⊢
    have pd : p * (p.den : Rat) = (p.num : Rat) := num_abs p
    have dpos : (0 : Rat) < (p.den : Rat) := by exact_mod_cast p.den_pos
    have num1 : (1 : Rat) ≤ (p.num : Rat) := by
      have : (0 : Rat) < (p.num : Rat) := by rw [← pd]; exact Rat.mul_pos p0 dpos
      have : (0 : Int) < p.num := by exact_mod_cast this
      exact_mod_cast (show (1 : Int) ≤ p.num by omega)
    have u : (K : Rat) * p ≤ (VX : Rat) := by grind
    have u2 := Rat.mul_le_mul_of_nonneg_right u (Rat.le_of_lt dpos)
    rw [Rat.mul_assoc, pd] at u2
    have u3 := Rat.mul_le_mul_of_nonneg_left num1 k0'
    have u4 : (K : Rat) ≤ (VX : Rat) * (p.den : Rat) := by grind
    have u5 : K.natAbs ≤ VX * p.den := by
      have e : (VX : Rat) * (p.den : Rat) = (((VX * p.den : Nat) : Int) : Rat) := by rw [← Rat.natCast_mul]; rfl
      rw [e] at u4
      have : K ≤ ((VX * p.den : Nat) : Int) := by exact_mod_cast u4
      omega
    show K.natAbs.log2 < 4000
    have l1 := log2_mono u5
    have l2 := log2_mul_le VX p.den
    have l3 : VX.log2 = 50 := by decide +kernel
    have l4 := log2_mono (Nat.le_of_dvd a.pos dp.dvd)
    omega
theorem mem_flo {w : Wk} {n : Nat} (hn : n ≤ 400) {f : Fl} (h : f ∈ (runW w n).1) : ∃ k, k < 400 ∧ flO w k = some f := by
  obtain ⟨k, hk⟩ := List.getElem?_of_mem h
  have hl := (List.getElem?_eq_some_iff.mp hk).1
  have := runW_len w n
  exact ⟨k, by omega, run_flo hk⟩
theorem encF_t (f : Fl) : ixD (.d (encF f)) (.d (.int 0)) = .ok (.d (encQ f.t)) := rfl
@[simp] theorem at5_4 (a b c d e : D) : L2.atI [a, b, c, d, e] 4 = some e := rfl
theorem fate_over {r : List Fl × Option En} {e : Rat} {v : Nat} {b : Bool} {l : List Rat} (h : fateOf r = .over e v b l) : r.2 = some (.over e v b l) := by
  unfold fateOf at h
  split at h
  · cases h
  · split at h <;> first | (cases h; done) | (cases h; assumption)
theorem fate_whirl {r : List Fl × Option En} {e : Rat} {ms : List Int} {l : List Rat} (h : fateOf r = .whirl e ms l) : r.2 = some (.whirl e ms l) := by
  unfold fateOf at h
  split at h
  · cases h
  · split at h <;> first | (cases h; done) | (cases h; assumption)
theorem fate_rest {r : List Fl × Option En} {e : Rat} {m : Int} {l : List Rat} (h : fateOf r = .rest e m l) : r.2 = some .rest := by
  unfold fateOf at h
  split at h
  · cases h
  · split at h <;> first | (cases h; done) | (cases h; assumption)
theorem fate_opn {r : List Fl × Option En} (h : fateOf r = .opn) : r.2 = none ∧ ringQ r.1 = none := by
  unfold fateOf at h
  split at h
  · cases h
  · split at h <;> first | (cases h; done) | exact ⟨by assumption, by assumption⟩
theorem flLast_mem {L : List Fl} (h : L ≠ []) : flLast L ∈ L := by
  have e : L.dropLast ++ [flLast L] = L := by
    unfold flLast
    rw [List.getLastD_eq_getLast?, List.getLast?_eq_some_getLast h]
    exact List.dropLast_concat_getLast h
  have m : flLast L ∈ L.dropLast ++ [flLast L] := by simp
  rw [e] at m
  exact m
theorem en_sm {w : Wk} {n : Nat} (hn : n ≤ 400) {t : Rat} (h : (∃ l N, Lw N w l ∧ Dn N t ∧ N.log2 ≤ 7 * n) ∧ 0 ≤ t ∧ t ≤ 999 * (n : Rat)) : Sm t ∧ 0 ≤ t := by
  obtain ⟨⟨l, N, a, b, c⟩, t0, t9⟩ := h
  have vb := v_big
  have c' : (n : Rat) ≤ ((400 : Nat) : Rat) := by exact_mod_cast hn
  have e : ((400 : Nat) : Rat) = 400 := rfl
  rw [e] at c'
  exact ⟨sm_v a.l0.pos (by omega) b (by grind) (by grind), t0⟩
end PF

end

section
/-! P60: works taken so many times: their runs. Pure. -/
namespace PF
open PySem PySem.Spec PyProof.Rows L2
theorem map_injR {α β : Type} {f : α → β} (hf : ∀ x y, f x = f y → x = y) : ∀ {xs ys : List α}, xs.map f = ys.map f → xs = ys
  | [], [], _ => rfl
  | x :: xs, y :: ys, h => by
    simp only [List.map_cons, List.cons.injEq] at h
    rw [hf x y h.1, map_injR hf h.2]
  | [], _ :: _, h => by cases h
  | _ :: _, [], h => by cases h
def sclS (c : Int) (s : Sw) : Sw := ⟨s.v, s.up, s.mark * c, s.to⟩
def sclM (c r : Int) (m : Md) : Md := ⟨m.rates.map (· * r), m.sws.map (sclS c)⟩
def sclW (c r : Int) (w : Wk) : Wk := ⟨w.brims.map (· * c), w.modes.map (sclM c r), w.at_, w.levels.map (· * c)⟩
def upL (c : Int) (lv : List Rat) : List Rat := lv.map (· * (c : Rat))
theorem rpos {c : Int} (h : 0 < c) : (0 : Rat) < (c : Rat) := by exact_mod_cast h
theorem rne {c : Int} (h : 0 < c) : (c : Rat) ≠ 0 := fun z => by have := rpos h; rw [z] at this; exact Rat.lt_irrefl this
theorem mul_lt' {a b k : Rat} (h : 0 < k) : a * k < b * k ↔ a < b := by
  constructor
  · intro g
    refine Classical.byContradiction fun n => ?_
    have := Rat.mul_le_mul_of_nonneg_right (Rat.not_lt.mp n) (Rat.le_of_lt h)
    exact Rat.not_lt.mpr this g
  · intro g
    exact Rat.mul_lt_mul_of_pos_right g h
theorem getD_upL (c : Int) (lv : List Rat) (i : Nat) : (upL c lv).getD i 0 = lv.getD i 0 * (c : Rat) := by
  unfold upL
  rw [List.getD_eq_getElem?_getD, List.getElem?_map, List.getD_eq_getElem?_getD]
  cases lv[i]? with
  | none => simp [Rat.zero_mul]
  | some x => rfl
theorem getD_mulI (c : Int) (xs : List Int) (i : Nat) : (xs.map (· * c)).getD i 0 = xs.getD i 0 * c := by
  rw [List.getD_eq_getElem?_getD, List.getElem?_map, List.getD_eq_getElem?_getD]
  cases xs[i]? with
  | none => simp
  | some x => rfl
theorem lvl_upL (c : Int) (lv : List Rat) (v : Int) : lvl (upL c lv) v = lvl lv v * (c : Rat) := getD_upL c lv _
section
variable {c r : Int} (hc : 0 < c) (hr : 0 < r)
include hc
theorem met_scl (lv : List Rat) (s : Sw) : metQ (upL c lv) (sclS c s) = metQ lv s := by
  have e : ((s.mark * c : Int) : Rat) = (s.mark : Rat) * (c : Rat) := Rat.intCast_mul _ _
  unfold metQ sclS
  simp only [lvl_upL, e, mul_lt' (rpos hc)]
omit hc in
theorem md_scl (w : Wk) (m : Int) : (sclW c r w).md m = sclM c r (w.md m) := by
  unfold Wk.md sclW
  simp only
  rw [List.getD_eq_getElem?_getD, List.getElem?_map, List.getD_eq_getElem?_getD]
  cases w.modes[m.toNat]? <;> rfl
theorem settle_scl (w : Wk) (lv : List Rat) : ∀ (n : Nat) (pre : List Int) (m : Int), settleQ (sclW c r w) (upL c lv) n pre m = settleQ w lv n pre m
  | 0, pre, m => rfl
  | n + 1, pre, m => by
    have e : ((sclW c r w).md m).sws.find? (metQ (upL c lv)) = ((w.md m).sws.find? (metQ lv)).map (sclS c) := by
      rw [md_scl]
      show ((w.md m).sws.map (sclS c)).find? _ = _
      rw [List.find?_map]
      congr 2
      funext s
      exact met_scl hc lv s
    unfold settleQ
    rw [e]
    cases q : (w.md m).sws.find? (metQ lv) with
    | none => rfl
    | some s =>
      have st : (sclS c s).to = s.to := rfl
      simp only [Option.map_some, st, settle_scl w lv n (pre ++ [m]) s.to]
theorem set_scl (w : Wk) (lv : List Rat) (m : Int) : setQ (sclW c r w) (upL c lv) m = setQ w lv m := settle_scl hc w lv 13 [] m
include hr
/-- how times change -/
def tau (c r : Int) : Rat := (c : Rat) / (r : Rat)
omit hc in
theorem tau_r : tau c r * (r : Rat) = (c : Rat) := Rat.div_mul_cancel (rne hr)
theorem tau_pos : 0 < tau c r := by
  unfold tau
  rw [Rat.div_def]
  exact Rat.mul_pos (rpos hc) (Rat.inv_pos.mpr (rpos hr))
def upP (c r : Int) (p : Rat × Wh) : Rat × Wh := (p.1 * tau c r, p.2)
theorem div_scl (x : Rat) (i : Int) : (x * (c : Rat)) / ((i * r : Int) : Rat) = x / (i : Rat) * tau c r := by
  have e : ((i * r : Int) : Rat) = (i : Rat) * (r : Rat) := Rat.intCast_mul _ _
  unfold tau
  rw [e, Rat.div_def, Rat.div_def, Rat.div_def, Rat.inv_mul_rev]
  grind
omit hc in
theorem pos_scl {i : Int} : 0 < i * r ↔ 0 < i := by
  constructor
  · intro h
    refine Classical.byContradiction fun n => ?_
    have := Int.mul_nonpos_of_nonpos_of_nonneg (show i ≤ 0 by omega) (show 0 ≤ r by omega)
    omega
  · intro h
    exact Int.mul_pos h hr
omit hc in
theorem neg_scl {i : Int} : i * r < 0 ↔ i < 0 := by
  constructor
  · intro h
    refine Classical.byContradiction fun n => ?_
    have := Int.mul_nonneg (show 0 ≤ i by omega) (show 0 ≤ r by omega)
    omega
  · intro h
    exact Int.mul_neg_of_neg_of_pos h hr
theorem swWait_scl (lv : List Rat) (rs : List Int) (s : Sw) : swWait (upL c lv) (rs.map (· * r)) (sclS c s) = (swWait lv rs s).map (upP c r) := by
  have e1 : rateOf (rs.map (· * r)) s.v = rateOf rs s.v * r := getD_mulI r rs _
  have ev : (sclS c s).v = s.v := rfl
  have eu : (sclS c s).up = s.up := rfl
  have em : (((sclS c s).mark : Int) : Rat) = (s.mark : Rat) * (c : Rat) := Rat.intCast_mul _ _
  unfold swWait
  simp only [ev, eu, em, e1, lvl_upL, pos_scl hr, neg_scl hr]
  split
  · have : (s.mark : Rat) * (c : Rat) - lvl lv s.v * (c : Rat) = ((s.mark : Rat) - lvl lv s.v) * (c : Rat) := by grind
    rw [this, div_scl hc hr]
    rfl
  · rfl
theorem ovWait_scl (brims : List Int) (lv : List Rat) (p : Int × Nat) : ovWait (brims.map (· * c)) (upL c lv) (p.1 * r, p.2) = (ovWait brims lv p).map (upP c r) := by
  have eb : (((brims.map (· * c)).getD p.2 0 : Int) : Rat) = ((brims.getD p.2 0 : Int) : Rat) * (c : Rat) := by
    rw [getD_mulI]
    exact Rat.intCast_mul _ _
  unfold ovWait
  simp only [pos_scl hr, neg_scl hr, eb, getD_upL]
  split
  · have : ((brims.getD p.2 0 : Int) : Rat) * (c : Rat) - lv.getD p.2 0 * (c : Rat) = (((brims.getD p.2 0 : Int) : Rat) - lv.getD p.2 0) * (c : Rat) := by grind
    rw [this, div_scl hc hr]
    rfl
  · split
    · have : (0 - p.1 * r : Int) = (0 - p.1) * r := by grind
      rw [this, div_scl hc hr]
      rfl
    · rfl
theorem waits_scl (w : Wk) (lv : List Rat) (m : Int) : waitsQ (sclW c r w) (upL c lv) m = (waitsQ w lv m).map (upP c r) := by
  have eb : (sclW c r w).brims = w.brims.map (· * c) := rfl
  unfold waitsQ
  rw [md_scl, eb, List.map_append]
  congr 1
  · show ((w.md m).sws.map (sclS c)).filterMap _ = _
    rw [List.filterMap_map, List.map_filterMap]
    congr 1
    funext s
    exact swWait_scl hc hr lv (w.md m).rates s
  · show ((w.md m).rates.map (· * r)).zipIdx.flatMap _ = _
    rw [List.zipIdx_map, List.flatMap_map, List.map_flatMap]
    congr 1
    funext p
    exact ovWait_scl hc hr w.brims lv p
theorem least_scl : ∀ (xs : List Rat) (x : Rat), leastQ (x * tau c r) (xs.map (· * tau c r)) = leastQ x xs * tau c r
  | [], x => rfl
  | y :: xs, x => by
    have tp := tau_pos hc hr
    show leastQ (if y * tau c r < x * tau c r then y * tau c r else x * tau c r) (xs.map (· * tau c r)) = leastQ (if y < x then y else x) xs * tau c r
    simp only [mul_lt' tp]
    split
    · exact least_scl xs y
    · exact least_scl xs x
theorem wait_scl (w : Wk) (lv : List Rat) (m : Int) : waitQ (sclW c r w) (upL c lv) m = (waitQ w lv m).map (upP c r) := by
  have tp := tau_pos hc hr
  unfold waitQ
  rw [waits_scl hc hr]
  cases q : waitsQ w lv m with
  | nil => rfl
  | cons p ps =>
    have e1 : (ps.map (upP c r)).map (·.1) = (ps.map (·.1)).map (· * tau c r) := by
      rw [List.map_map, List.map_map]
      rfl
    simp only [List.map_cons, e1]
    have e2 : (upP c r p).1 = p.1 * tau c r := rfl
    rw [e2, least_scl hc hr, ← List.map_cons, List.find?_map]
    congr 2
    funext q
    have : (upP c r q).1 = q.1 * tau c r := rfl
    simp only [Function.comp, this]
    have : (q.1 * tau c r = leastQ p.1 (ps.map (·.1)) * tau c r) ↔ q.1 = leastQ p.1 (ps.map (·.1)) := by
      constructor
      · intro h
        have tn : tau c r ≠ 0 := fun z => by rw [z] at tp; exact Rat.lt_irrefl tp
        have := congrArg (· / tau c r) h
        simpa only [Rat.mul_div_cancel tn] using this
      · intro h
        rw [h]
    simp only [this]
theorem after_scl (lv : List Rat) (rs : List Int) (t : Rat) : afterQ (upL c lv) (rs.map (· * r)) (t * tau c r) = upL c (afterQ lv rs t) := by
  have tr := tau_r (c := c) hr
  unfold afterQ upL
  rw [List.zip_map, List.map_map, List.map_map]
  refine List.map_congr_left fun p hp => ?_
  have e : ((p.2 * r : Int) : Rat) = (p.2 : Rat) * (r : Rat) := Rat.intCast_mul _ _
  show p.1 * (c : Rat) + ((p.2 * r : Int) : Rat) * (t * tau c r) = (p.1 + (p.2 : Rat) * t) * (c : Rat)
  rw [e, ← tr]
  grind
/-- a flow, scaled -/
def upF (c r : Int) (f : Fl) : Fl := ⟨f.t * tau c r, f.ms, upL c f.lv⟩
def upE (c r : Int) : En → En
  | .whirl t ms lv => .whirl (t * tau c r) ms (upL c lv)
  | .rest => .rest
  | .over t v b lv => .over (t * tau c r) v b (upL c lv)
theorem run_scl (w : Wk) (most : Nat) : ∀ (n : Nat) (m : Int) (t : Rat) (lv : List Rat) (found : List Fl),
    runQ (sclW c r w) most n m (t * tau c r) (upL c lv) (found.map (upF c r)) = ((runQ w most n m t lv found).1.map (upF c r), (runQ w most n m t lv found).2.map (upE c r))
  | 0, m, t, lv, found => rfl
  | n + 1, m, t, lv, found => by
    unfold runQ
    rw [set_scl hc, List.length_map]
    split
    · rfl
    · split
      · rfl
      · rw [wait_scl hc hr, md_scl]
        cases q : waitQ w lv ((setQ w lv m).1.getLastD 0) with
        | none => simp [upF, upE]
        | some p =>
          obtain ⟨far, k⟩ := p
          have tt : t * tau c r + far * tau c r = (t + far) * tau c r := by grind
          have af := after_scl hc hr lv (w.md ((setQ w lv m).1.getLastD 0)).rates far
          cases k with
          | ov v b =>
            show (_, some (En.over (t * tau c r + far * tau c r) v b (afterQ (upL c lv) ((w.md ((setQ w lv m).1.getLastD 0)).rates.map (· * r)) (far * tau c r)))) = _
            rw [tt, af]
            simp [upF, upE]
          | sw =>
            show runQ (sclW c r w) most n _ (t * tau c r + far * tau c r) (afterQ (upL c lv) ((w.md ((setQ w lv m).1.getLastD 0)).rates.map (· * r)) (far * tau c r)) _ = _
            rw [tt, af]
            have := run_scl w most n ((setQ w lv m).1.getLastD 0) (t + far) (afterQ lv (w.md ((setQ w lv m).1.getLastD 0)).rates far) (found ++ [⟨t, (setQ w lv m).1, lv⟩])
            rw [List.map_append] at this
            exact this
theorem lv0_scl (w : Wk) : lv0 (sclW c r w) = upL c (lv0 w) := by
  unfold lv0 upL sclW
  simp only [List.map_map]
  refine List.map_congr_left fun l _ => ?_
  exact Rat.intCast_mul l c
theorem runW_scl (w : Wk) (most : Nat) : runW (sclW c r w) most = ((runW w most).1.map (upF c r), (runW w most).2.map (upE c r)) := by
  have := run_scl hc hr w most (most + 1) w.at_ 0 (lv0 w) []
  unfold runW
  rw [lv0_scl hc hr]
  have z : (0 : Rat) * tau c r = 0 := Rat.zero_mul _
  rw [z] at this
  exact this
theorem upL_inj {a b : List Rat} : upL c a = upL c b ↔ a = b := by
  constructor
  · intro h
    unfold upL at h
    refine map_injR (fun x y e => ?_) h
    have e : x * (c : Rat) = y * (c : Rat) := e
    have := congrArg (· / (c : Rat)) e
    simpa only [Rat.mul_div_cancel (rne hc)] using this
  · intro h
    rw [h]
theorem same_scl (f g : Fl) : sameF (upF c r f) (upF c r g) = sameF f g := by
  have e1 : (upF c r f).m = f.m := rfl
  have e2 : (upF c r g).m = g.m := rfl
  have e3 : (upF c r f).lv = upL c f.lv := rfl
  have e4 : (upF c r g).lv = upL c g.lv := rfl
  unfold sameF
  simp only [e1, e2, e3, e4, upL_inj hc hr]
theorem ringGo_scl : ∀ (rest done : List Fl), ringGo (done.map (upF c r)) (rest.map (upF c r)) = ringGo done rest
  | [], done => rfl
  | f :: rest, done => by
    have e : (done.map (upF c r)).findIdx? (sameF (upF c r f)) = done.findIdx? (sameF f) := by
      rw [List.findIdx?_map]
      congr 1
      funext g
      exact same_scl hc hr f g
    rw [List.map_cons]
    unfold ringGo
    rw [e, List.length_map]
    split
    · rfl
    · have := ringGo_scl rest (done ++ [f])
      rw [List.map_append] at this
      exact this
omit hc hr in
theorem upF_0 : upF c r ⟨0, [], []⟩ = ⟨0, [], []⟩ := by
  unfold upF
  rw [Rat.zero_mul]
  rfl
omit hc hr in
theorem flAt_scl (L : List Fl) (i : Nat) : flAt (L.map (upF c r)) i = upF c r (flAt L i) := by
  unfold flAt
  rw [List.getD_eq_getElem?_getD, List.getElem?_map, List.getD_eq_getElem?_getD]
  cases L[i]? with
  | none => exact upF_0.symm
  | some f => rfl
omit hc hr in
theorem flLast_scl (L : List Fl) : flLast (L.map (upF c r)) = upF c r (flLast L) := by
  unfold flLast
  rw [List.getLastD_eq_getLast?, List.getLastD_eq_getLast?, List.getLast?_map]
  cases L.getLast? with
  | none => exact upF_0.symm
  | some f => rfl
def upFt (c r : Int) : Ft → Ft
  | .ring i n t p => .ring i n (t * tau c r) (p * tau c r)
  | .over t v b lv => .over (t * tau c r) v b (upL c lv)
  | .rest t m lv => .rest (t * tau c r) m (upL c lv)
  | .whirl t ms lv => .whirl (t * tau c r) ms (upL c lv)
  | .opn => .opn
theorem fate_scl (p : List Fl × Option En) : fateOf (p.1.map (upF c r), p.2.map (upE c r)) = upFt c r (fateOf p) := by
  have er : ringQ (p.1.map (upF c r)) = ringQ p.1 := ringGo_scl hc hr p.1 []
  unfold fateOf
  simp only [er]
  cases q : ringQ p.1 with
  | some ij =>
    obtain ⟨i, j⟩ := ij
    have e1 : (upF c r (flAt p.1 i)).t = (flAt p.1 i).t * tau c r := rfl
    have e2 : (upF c r (flAt p.1 j)).t = (flAt p.1 j).t * tau c r := rfl
    simp only [flAt_scl, upFt, e1, e2]
    congr 1
    grind
  | none =>
    cases p.2 with
    | none => rfl
    | some e =>
      cases e with
      | rest =>
        simp only [Option.map_some, upE, flLast_scl, upFt]
        rfl
      | over t v b lv => rfl
      | whirl t ms lv => rfl
def upMo (c : Int) : MoR → MoR
  | .ok m lv => .ok m (upL c lv)
  | .ov => .ov
  | .op => .op
theorem quot_scl (a p : Rat) : (a * tau c r) / (p * tau c r) = a / p := by
  have tp := tau_pos hc hr
  have tn : tau c r ≠ 0 := fun z => by rw [z] at tp; exact Rat.lt_irrefl tp
  have ti := Rat.mul_inv_cancel _ tn
  rw [Rat.div_def, Rat.div_def, Rat.inv_mul_rev]
  have : a * tau c r * ((tau c r)⁻¹ * p⁻¹) = a * (tau c r * (tau c r)⁻¹) * p⁻¹ := by grind
  rw [this, ti, Rat.mul_one]
theorem turn_scl (x t p : Rat) : turnQ (x * tau c r) (t * tau c r) (p * tau c r) = turnQ x t p * tau c r := by
  have tp := tau_pos hc hr
  have e : x * tau c r - t * tau c r = (x - t) * tau c r := by grind
  unfold turnQ
  simp only [mul_lt' tp, e, quot_scl hc hr]
  split
  · rfl
  · grind
theorem ahead_scl (L : List Fl) (x : Rat) : aheadQ (L.map (upF c r)) (x * tau c r) = (aheadQ L x).map (upF c r) := by
  have tp := tau_pos hc hr
  unfold aheadQ
  rw [List.filter_map]
  congr 2
  funext f
  have e : (upF c r f).t = f.t * tau c r := rfl
  simp only [Function.comp, e, mul_lt' tp]
theorem at_scl (w : Wk) (f : Fl) (x : Rat) : atQ (sclW c r w) (upF c r f) (x * tau c r) = upMo c (atQ w f x) := by
  have e1 : (upF c r f).t = f.t * tau c r := rfl
  have e2 : (upF c r f).m = f.m := rfl
  have e3 : (upF c r f).lv = upL c f.lv := rfl
  have e4 : x * tau c r - f.t * tau c r = (x - f.t) * tau c r := by grind
  unfold atQ
  rw [e1, e2, e3, e4, md_scl]
  show MoR.ok f.m (afterQ (upL c f.lv) ((w.md f.m).rates.map (· * r)) ((x - f.t) * tau c r)) = _
  rw [after_scl hc hr]
  rfl
theorem eq_scl (a b : Rat) : a * tau c r = b * tau c r ↔ a = b := by
  have tp := tau_pos hc hr
  have tn : tau c r ≠ 0 := fun z => by rw [z] at tp; exact Rat.lt_irrefl tp
  constructor
  · intro e
    have := congrArg (· / tau c r) e
    simpa only [Rat.mul_div_cancel tn] using this
  · intro e
    rw [e]
theorem mom_scl (w : Wk) (x : Rat) : momQ (sclW c r w) (x * tau c r) = upMo c (momQ w x) := by
  have tp := tau_pos hc hr
  unfold momQ
  rw [runW_scl hc hr]
  obtain ⟨R, hR⟩ : ∃ R, R = runW w 400 := ⟨_, rfl⟩
  rw [← hR]
  have lt : (flLast (R.1.map (upF c r))).t = (flLast R.1).t * tau c r := by rw [flLast_scl]; rfl
  unfold momR
  rw [fate_scl hc hr]
  cases q : fateOf R with
  | ring i n t p =>
    simp only [upFt, turn_scl hc hr, ahead_scl hc hr, flLast_scl, at_scl hc hr]
  | over t v b lv =>
    simp only [upFt, ahead_scl hc hr, flLast_scl, at_scl hc hr, mul_lt' tp]
    split <;> rfl
  | rest t m lv =>
    simp only [upFt, ahead_scl hc hr, flLast_scl, at_scl hc hr]
  | whirl t ms lv =>
    simp only [upFt, ahead_scl hc hr, flLast_scl, at_scl hc hr, mul_lt' tp, eq_scl hc hr]
    split <;> rfl
  | opn =>
    simp only [upFt, ahead_scl hc hr, flLast_scl, at_scl hc hr, mul_lt' tp, lt]
    have e1 : (upF c r (flLast R.1)).t = (flLast R.1).t * tau c r := rfl
    simp only [e1, mul_lt' tp]
    split <;> rfl
end
end PF

end

section
/-! P30: boxes. -/
namespace PF
open PySem PySem.Spec PyProof.Rows L2
abbrev Bx := List (Int × Int)
def encPr (p : Int × Int) : D := .tuple [.int p.1, .int p.2]
def encBx (b : Bx) : D := .tuple (b.map encPr)
def encOB : Option Bx → D
  | none => .none
  | some b => encBx b
abbrev BSt := List (Option Bx)
def bxAt (b : Bx) (v : Int) : Int × Int := b.getD v.toNat (0, 0)
/-- a box lies in another one -/
def LeB (b c : Bx) : Prop := b.length = c.length ∧ ∀ i, i < b.length → (c.getD i (0, 0)).1 ≤ (b.getD i (0, 0)).1 ∧ (b.getD i (0, 0)).2 ≤ (c.getD i (0, 0)).2
theorem LeB.refl (b : Bx) : LeB b b := ⟨rfl, fun i _ => ⟨Int.le_refl _, Int.le_refl _⟩⟩
theorem LeB.trans {a b c : Bx} (h : LeB a b) (g : LeB b c) : LeB a c := ⟨h.1.trans g.1, fun i hi => by
  have h1 := h.2 i hi
  have h2 := g.2 i (by rw [← h.1]; exact hi)
  omega⟩
theorem LeB.antisymm {a b : Bx} (h : LeB a b) (g : LeB b a) : a = b := by
  apply List.ext_getElem h.1
  intro i h1 h2
  have e1 := h.2 i h1
  have e2 := g.2 i h2
  simp only [List.getD_eq_getElem?_getD, List.getElem?_eq_getElem h1, List.getElem?_eq_getElem h2, Option.getD_some] at e1 e2
  exact Prod.ext (by omega) (by omega)
/-! ### functions on boxes -/
def atOnce1 (b : Bx) (s : Sw) : Bool := if s.up = true then decide (s.mark ≤ (bxAt b s.v).1) else decide ((bxAt b s.v).2 ≤ s.mark)
def atOnce (md : Md) (b : Bx) : Bool := md.sws.any (atOnce1 b)
def marksOf (md : Md) (i : Nat) (up : Bool) : List Int := (md.sws.filter fun s => decide (s.v = (i : Int)) && (s.up == up)).map (·.mark)
def maxL : List Int → Int
  | [] => 0
  | x :: r => r.foldl max x
def minL : List Int → Int
  | [] => 0
  | x :: r => r.foldl min x
/-- one vessel's bounds, grown; none: nothing stops it -/
def flow1 (md : Md) (b : Bx) (p : Int × Nat) : Option (Int × Int) :=
  if 0 < p.1 then (if (marksOf md p.2 true).isEmpty = true then none else some ((b.getD p.2 (0, 0)).1, max (b.getD p.2 (0, 0)).2 (minL (marksOf md p.2 true))))
  else if p.1 < 0 then (if (marksOf md p.2 false).isEmpty = true then none else some (min (b.getD p.2 (0, 0)).1 (maxL (marksOf md p.2 false)), (b.getD p.2 (0, 0)).2))
  else some (b.getD p.2 (0, 0))
def optAll {α β : Type} (f : α → Option β) : List α → Option (List β)
  | [] => some []
  | a :: r => (f a).bind fun b => (optAll f r).map fun bs => b :: bs
def flowB (md : Md) (b : Bx) : Option Bx := if atOnce md b = true then some b else optAll (flow1 md b) md.rates.zipIdx
def partLo (b : Bx) (s : Sw) : Int := if s.up = true then max (bxAt b s.v).1 s.mark else (bxAt b s.v).1
def partHi (b : Bx) (s : Sw) : Int := if s.up = true then (bxAt b s.v).2 else min (bxAt b s.v).2 s.mark
def partB (b : Bx) (s : Sw) : Option Bx := if partHi b s < partLo b s then none else some (b.set s.v.toNat (partLo b s, partHi b s))
def joinB (b c : Bx) : Bx := (b.zip c).map fun p => (min p.1.1 p.2.1, max p.1.2 p.2.2)
def joinO : Option Bx → Option Bx → Option Bx
  | none, c => c
  | b, none => b
  | some b, some c => some (joinB b c)
/-! ### what is so of them -/
theorem joinB_len {b c : Bx} (h : b.length = c.length) : (joinB b c).length = b.length := by
  unfold joinB
  rw [List.length_map, List.length_zip]
  omega
theorem joinB_at {b c : Bx} {i : Nat} (h1 : i < b.length) (h2 : i < c.length) : (joinB b c).getD i (0, 0) = (min (b.getD i (0, 0)).1 (c.getD i (0, 0)).1, max (b.getD i (0, 0)).2 (c.getD i (0, 0)).2) := by
  unfold joinB
  have hz : i < (b.zip c).length := by rw [List.length_zip]; omega
  rw [List.getD_eq_getElem?_getD, List.getElem?_map, List.getElem?_eq_getElem hz, List.getElem_zip]
  simp [h1, h2]
theorem joinB_left {b c : Bx} (h : b.length = c.length) : LeB b (joinB b c) := ⟨(joinB_len h).symm, fun i hi => by
  rw [joinB_at hi (by omega)]
  dsimp only
  omega⟩
theorem joinB_right {b c : Bx} (h : b.length = c.length) : LeB c (joinB b c) := ⟨by rw [joinB_len h, h], fun i hi => by
  rw [joinB_at (by omega) hi]
  dsimp only
  omega⟩
theorem joinB_le {b c d : Bx} (h1 : LeB b d) (h2 : LeB c d) : LeB (joinB b c) d := by
  have e : b.length = c.length := h1.1.trans h2.1.symm
  refine ⟨(joinB_len e).trans h1.1, fun i hi => ?_⟩
  rw [joinB_len e] at hi
  have a1 := h1.2 i hi
  have a2 := h2.2 i (by omega)
  rw [joinB_at hi (by omega)]
  dsimp only
  omega
theorem atOnce_mono {md : Md} {b c : Bx} {n : Nat} (hn : b.length = n) (ok : ∀ s ∈ md.sws, 0 ≤ s.v ∧ s.v < n) (h : LeB b c) (e : atOnce md c = true) : atOnce md b = true := by
  unfold atOnce at e ⊢
  obtain ⟨s, hs, e⟩ := List.any_eq_true.mp e
  refine List.any_eq_true.mpr ⟨s, hs, ?_⟩
  have o := ok s hs
  have := h.2 s.v.toNat (by omega)
  unfold atOnce1 bxAt at e ⊢
  cases hu : s.up with
  | true =>
    rw [if_pos hu] at e
    rw [if_pos rfl]
    have := of_decide_eq_true e
    exact decide_eq_true (by omega)
  | false =>
    rw [if_neg (by rw [hu]; simp)] at e
    rw [if_neg (by simp)]
    have := of_decide_eq_true e
    exact decide_eq_true (by omega)
theorem optAll_some {α β : Type} {f : α → Option β} : ∀ {xs : List α} {ys : List β}, optAll f xs = some ys → ys.length = xs.length ∧ ∀ (i : Nat) (x : α), xs[i]? = some x → ∃ y, f x = some y ∧ ys[i]? = some y
  | [], ys, h => by cases h; exact ⟨rfl, fun i x e => by simp at e⟩
  | a :: r, ys, h => by
    simp only [optAll] at h
    cases q : f a with
    | none => rw [q] at h; cases h
    | some b =>
      rw [q] at h
      simp only [Option.bind_some] at h
      cases q2 : optAll f r with
      | none => rw [q2] at h; cases h
      | some bs =>
        rw [q2] at h
        cases h
        obtain ⟨h1, h2⟩ := optAll_some q2
        refine ⟨by simp [h1], fun i x e => ?_⟩
        cases i with
        | zero => simp at e; subst e; exact ⟨b, q, by simp⟩
        | succ i => simp at e; obtain ⟨y, y1, y2⟩ := h2 i x e; exact ⟨y, y1, by simpa using y2⟩
theorem optAll_none {α β : Type} {f : α → Option β} : ∀ {xs : List α}, optAll f xs = none → ∃ x ∈ xs, f x = none
  | [], h => by cases h
  | a :: r, h => by
    simp only [optAll] at h
    cases q : f a with
    | none => exact ⟨a, by simp, q⟩
    | some b =>
      rw [q] at h
      simp only [Option.bind_some] at h
      cases q2 : optAll f r with
      | none => obtain ⟨x, hx, e⟩ := optAll_none q2; exact ⟨x, by simp [hx], e⟩
      | some bs => rw [q2] at h; cases h
theorem optAll_all {α β : Type} {f : α → Option β} : ∀ {xs : List α}, (∀ x ∈ xs, f x ≠ none) → ∃ ys, optAll f xs = some ys := fun {xs} h => by
  cases q : optAll f xs with
  | none => obtain ⟨x, hx, e⟩ := optAll_none q; exact absurd e (h x hx)
  | some ys => exact ⟨ys, rfl⟩
/-- whether a vessel is stopped does not hang on the box -/
theorem flow1_some {md : Md} {b c : Bx} {p : Int × Nat} (h : flow1 md c p ≠ none) : flow1 md b p ≠ none := by
  unfold flow1 at h ⊢
  by_cases c1 : 0 < p.1
  · rw [if_pos c1] at h ⊢
    by_cases c2 : (marksOf md p.2 true).isEmpty = true
    · rw [if_pos c2] at h; exact absurd rfl h
    · rw [if_neg c2]; simp
  · rw [if_neg c1] at h ⊢
    by_cases c3 : p.1 < 0
    · rw [if_pos c3] at h ⊢
      by_cases c2 : (marksOf md p.2 false).isEmpty = true
      · rw [if_pos c2] at h; exact absurd rfl h
      · rw [if_neg c2]; simp
    · rw [if_neg c3]; simp
theorem flow1_le {md : Md} {b c : Bx} {p : Int × Nat} {x y : Int × Int} (hb : p.2 < b.length) (h : LeB b c) (hx : flow1 md b p = some x) (hy : flow1 md c p = some y) : y.1 ≤ x.1 ∧ x.2 ≤ y.2 := by
  have l := h.2 p.2 hb
  unfold flow1 at hx hy
  by_cases c1 : 0 < p.1
  · rw [if_pos c1] at hx hy
    by_cases c2 : (marksOf md p.2 true).isEmpty = true
    · rw [if_pos c2] at hx; cases hx
    · rw [if_neg c2] at hx hy
      cases hx; cases hy
      dsimp only
      omega
  · rw [if_neg c1] at hx hy
    by_cases c3 : p.1 < 0
    · rw [if_pos c3] at hx hy
      by_cases c2 : (marksOf md p.2 false).isEmpty = true
      · rw [if_pos c2] at hx; cases hx
      · rw [if_neg c2] at hx hy
        cases hx; cases hy
        dsimp only
        omega
    · rw [if_neg c3] at hx hy
      cases hx; cases hy
      exact l
theorem flow1_ge {md : Md} {b : Bx} {p : Int × Nat} {x : Int × Int} (hx : flow1 md b p = some x) : x.1 ≤ (b.getD p.2 (0, 0)).1 ∧ (b.getD p.2 (0, 0)).2 ≤ x.2 := by
  unfold flow1 at hx
  by_cases c1 : 0 < p.1
  · rw [if_pos c1] at hx
    by_cases c2 : (marksOf md p.2 true).isEmpty = true
    · rw [if_pos c2] at hx; cases hx
    · rw [if_neg c2] at hx
      cases hx
      dsimp only
      omega
  · rw [if_neg c1] at hx
    by_cases c3 : p.1 < 0
    · rw [if_pos c3] at hx
      by_cases c2 : (marksOf md p.2 false).isEmpty = true
      · rw [if_pos c2] at hx; cases hx
      · rw [if_neg c2] at hx
        cases hx
        dsimp only
        omega
    · rw [if_neg c3] at hx
      cases hx
      omega
/-- a mode over n vessels -/
structure MdN (n : Nat) (md : Md) : Prop where
  rates : md.rates.length = n
  sws : ∀ s ∈ md.sws, 0 ≤ s.v ∧ s.v < n
theorem zip_at {rs : List Int} {i : Nat} (h : i < rs.length) : rs.zipIdx[i]? = some (rs.getD i 0, i) := by
  rw [List.getElem?_zipIdx, List.getElem?_eq_getElem h, List.getD_eq_getElem?_getD, List.getElem?_eq_getElem h]
  simp
theorem flowB_at {n : Nat} {md : Md} {b x : Bx} (om : MdN n md) (h1 : atOnce md b = false) (h2 : flowB md b = some x) : x.length = n ∧ ∀ i, i < n → flow1 md b (md.rates.getD i 0, i) = some (x.getD i (0, 0)) := by
  unfold flowB at h2
  rw [if_neg (by rw [h1]; simp)] at h2
  obtain ⟨e1, e2⟩ := optAll_some h2
  have l : x.length = n := by rw [e1, List.length_zipIdx]; exact om.rates
  refine ⟨l, fun i hi => ?_⟩
  obtain ⟨y, y1, y2⟩ := e2 i _ (zip_at (by rw [om.rates]; exact hi))
  rw [y1, List.getD_eq_getElem?_getD, y2]
  rfl
/-- flowing out is monotone, and where the greater one is stopped so is the lesser -/
theorem flowB_mono {n : Nat} {md : Md} {b c x : Bx} (om : MdN n md) (hb : b.length = n) (h : LeB b c) (hc : flowB md c = some x) : ∃ y, flowB md b = some y ∧ LeB b y ∧ LeB y x := by
  have hcl : c.length = n := by rw [← h.1]; exact hb
  cases q : atOnce md b with
  | true =>
    refine ⟨b, by unfold flowB; rw [if_pos q], LeB.refl _, h.trans ?_⟩
    cases q2 : atOnce md c with
    | true => unfold flowB at hc; rw [if_pos q2] at hc; cases hc; exact LeB.refl _
    | false =>
      obtain ⟨l, e⟩ := flowB_at om q2 hc
      exact ⟨by omega, fun i hi => flow1_ge (e i (by omega))⟩
  | false =>
    have q2 : atOnce md c = false := by
      cases z : atOnce md c with
      | false => rfl
      | true => rw [atOnce_mono hb om.sws h z] at q; cases q
    obtain ⟨l, e⟩ := flowB_at om q2 hc
    obtain ⟨y, hy⟩ : ∃ y, flowB md b = some y := by
      unfold flowB
      rw [if_neg (by rw [q]; simp)]
      refine optAll_all fun p hp => flow1_some (c := c) ?_
      obtain ⟨r, i⟩ := p
      have hz := List.mem_zipIdx hp
      have hr := om.rates
      have := e i (by omega)
      have er : md.rates.getD i 0 = r := by
        rw [List.getD_eq_getElem?_getD, List.getElem?_eq_getElem (by omega)]
        simpa using hz.2.2.symm
      rw [er] at this
      rw [this]
      simp
    obtain ⟨l', e'⟩ := flowB_at om q hy
    exact ⟨y, hy, ⟨by omega, fun i hi => flow1_ge (e' i (by omega))⟩, ⟨by omega, fun i hi => flow1_le (by show i < b.length; omega) h (e' i (by omega)) (e i (by omega))⟩⟩
theorem flowB_ge {n : Nat} {md : Md} {b x : Bx} (om : MdN n md) (hb : b.length = n) (h : flowB md b = some x) : LeB b x := by
  obtain ⟨y, h1, h2, _⟩ := flowB_mono om hb (LeB.refl b) h
  rw [h] at h1
  cases h1
  exact h2
theorem set_at {b : Bx} {j i : Nat} {p : Int × Int} (hi : i < b.length) : (b.set j p).getD i (0, 0) = if i = j then p else b.getD i (0, 0) := by
  rw [List.getD_eq_getElem?_getD, List.getElem?_set]
  by_cases c : j = i
  · subst c; rw [if_pos rfl, if_pos hi, if_pos rfl]; rfl
  · rw [if_neg c, if_neg (fun z => c z.symm), List.getD_eq_getElem?_getD]
theorem partLo_le {b c : Bx} {s : Sw} (h : (bxAt c s.v).1 ≤ (bxAt b s.v).1) : partLo c s ≤ partLo b s := by
  unfold partLo
  cases s.up <;> simp <;> omega
theorem partHi_le {b c : Bx} {s : Sw} (h : (bxAt b s.v).2 ≤ (bxAt c s.v).2) : partHi b s ≤ partHi c s := by
  unfold partHi
  cases s.up <;> simp <;> omega
theorem partLo_ge (b : Bx) (s : Sw) : (bxAt b s.v).1 ≤ partLo b s := by
  unfold partLo
  cases s.up <;> simp <;> omega
theorem partHi_ge (b : Bx) (s : Sw) : partHi b s ≤ (bxAt b s.v).2 := by
  unfold partHi
  cases s.up <;> simp <;> omega
theorem partB_mono {n : Nat} {b c p : Bx} {s : Sw} (hb : b.length = n) (hv : 0 ≤ s.v ∧ s.v < n) (h : LeB b c) (hp : partB b s = some p) : ∃ q, partB c s = some q ∧ LeB p q := by
  have hcl : c.length = n := by rw [← h.1]; exact hb
  have l := h.2 s.v.toNat (by omega)
  have l1 := partLo_le (b := b) (c := c) (s := s) l.1
  have l2 := partHi_le (b := b) (c := c) (s := s) l.2
  unfold partB at hp ⊢
  split at hp
  · cases hp
  · rename_i c1
    cases hp
    rw [if_neg (by omega)]
    refine ⟨_, rfl, ⟨by simp [h.1], fun i hi => ?_⟩⟩
    simp only [List.length_set] at hi
    rw [set_at (by omega), set_at hi]
    by_cases c2 : i = s.v.toNat
    · rw [if_pos c2, if_pos c2]
      exact ⟨l1, l2⟩
    · rw [if_neg c2, if_neg c2]
      exact h.2 i hi
theorem partB_le {n : Nat} {b p : Bx} {s : Sw} (hb : b.length = n) (hv : 0 ≤ s.v ∧ s.v < n) (hp : partB b s = some p) : LeB p b := by
  have l1 := partLo_ge b s
  have l2 := partHi_ge b s
  unfold partB at hp
  split at hp
  · cases hp
  · cases hp
    refine ⟨by simp, fun i hi => ?_⟩
    simp only [List.length_set] at hi
    rw [set_at hi]
    by_cases c2 : i = s.v.toNat
    · rw [if_pos c2, c2]
      exact ⟨l1, l2⟩
    · rw [if_neg c2]
      omega
end PF

end

section
/-! P31: boxes for each mode; closed ones. -/
namespace PF
open PySem PySem.Spec PyProof.Rows L2
def LeO : Option Bx → Option Bx → Prop
  | none, _ => True
  | some b, some c => LeB b c
  | some _, none => False
theorem LeO.refl : ∀ o : Option Bx, LeO o o
  | none => trivial
  | some b => LeB.refl b
theorem LeO.trans : ∀ {a b c : Option Bx}, LeO a b → LeO b c → LeO a c
  | none, _, _, _, _ => trivial
  | some a, some b, some c, h, g => LeB.trans h g
  | some a, some b, none, _, g => g.elim
  | some a, none, _, h, _ => h.elim
theorem LeO.antisymm : ∀ {a b : Option Bx}, LeO a b → LeO b a → a = b
  | none, none, _, _ => rfl
  | none, some b, _, g => g.elim
  | some a, none, h, _ => h.elim
  | some a, some b, h, g => by rw [LeB.antisymm h g]
abbrev stAt (st : BSt) (i : Nat) : Option Bx := st.getD i none
def LeS (s t : BSt) : Prop := s.length = t.length ∧ ∀ i, LeO (stAt s i) (stAt t i)
theorem LeS.refl (s : BSt) : LeS s s := ⟨rfl, fun i => LeO.refl _⟩
theorem LeS.trans {a b c : BSt} (h : LeS a b) (g : LeS b c) : LeS a c := ⟨h.1.trans g.1, fun i => (h.2 i).trans (g.2 i)⟩
theorem LeS.antisymm {a b : BSt} (h : LeS a b) (g : LeS b a) : a = b := by
  apply List.ext_getElem h.1
  intro i h1 h2
  have := LeO.antisymm (h.2 i) (g.2 i)
  simpa [stAt, List.getD_eq_getElem?_getD, List.getElem?_eq_getElem h1, List.getElem?_eq_getElem h2] using this
/-- all boxes are over n vessels -/
def Wide (n : Nat) (st : BSt) : Prop := ∀ i b, stAt st i = some b → b.length = n
theorem stAt_set (st : BSt) (j : Nat) (o : Option Bx) (i : Nat) : stAt (st.set j o) i = if i = j ∧ j < st.length then o else stAt st i := by
  unfold stAt
  rw [List.getD_eq_getElem?_getD, List.getElem?_set]
  by_cases c : j = i
  · subst c
    by_cases d : j < st.length
    · rw [if_pos rfl, if_pos d, if_pos ⟨rfl, d⟩]; rfl
    · rw [if_pos rfl, if_neg d, if_neg (fun z => d z.2), List.getD_eq_getElem?_getD, List.getElem?_eq_none (by omega)]
  · rw [if_neg c, if_neg (fun z => c z.1.symm), List.getD_eq_getElem?_getD]
theorem Wide.set {n : Nat} {st : BSt} (h : Wide n st) {j : Nat} {o : Option Bx} (ho : ∀ b, o = some b → b.length = n) : Wide n (st.set j o) := by
  intro i b e
  rw [stAt_set] at e
  split at e
  · exact ho b e
  · exact h i b e
theorem LeS.setL {s t : BSt} (h : LeS s t) {j : Nat} {o : Option Bx} (ho : LeO o (stAt t j)) : LeS (s.set j o) t := ⟨by rw [List.length_set]; exact h.1, fun i => by
  rw [stAt_set]
  split
  · rename_i c; rw [c.1]; exact ho
  · exact h.2 i⟩
theorem LeS.setR {s t : BSt} (h : LeS s t) {j : Nat} {o : Option Bx} (ho : LeO (stAt s j) o) : LeS s (t.set j o) := ⟨by rw [List.length_set]; exact h.1, fun i => by
  rw [stAt_set]
  split
  · rename_i c; rw [c.1]; exact ho
  · exact h.2 i⟩
theorem joinO_left {n : Nat} : ∀ {o p : Option Bx}, (∀ b, o = some b → b.length = n) → (∀ b, p = some b → b.length = n) → LeO o (joinO o p)
  | none, _, _, _ => trivial
  | some b, none, _, _ => LeB.refl b
  | some b, some c, h, g => joinB_left ((h b rfl).trans (g c rfl).symm)
theorem joinO_right {n : Nat} : ∀ {o p : Option Bx}, (∀ b, o = some b → b.length = n) → (∀ b, p = some b → b.length = n) → LeO p (joinO o p)
  | none, p, _, _ => by cases p <;> exact LeO.refl _
  | some b, none, _, _ => trivial
  | some b, some c, h, g => joinB_right ((h b rfl).trans (g c rfl).symm)
theorem joinO_le : ∀ {o p q : Option Bx}, LeO o q → LeO p q → LeO (joinO o p) q
  | none, p, q, _, g => by cases p <;> exact g
  | some b, none, q, h, _ => h
  | some b, some c, some d, h, g => joinB_le h g
  | some b, some c, none, h, _ => h.elim
theorem joinO_len {n : Nat} : ∀ {o p : Option Bx}, (∀ b, o = some b → b.length = n) → (∀ b, p = some b → b.length = n) → ∀ b, joinO o p = some b → b.length = n
  | none, p, _, g, b, e => by cases p <;> exact g b e
  | some b, none, h, _, c, e => h c e
  | some b, some c, h, g, d, e => by
    cases e
    rw [joinB_len ((h b rfl).trans (g c rfl).symm)]
    exact h b rfl
/-- works' modes over n vessels, with z modes -/
structure MdsN (n : Nat) (mds : List Md) : Prop where
  md : ∀ m ∈ mds, MdN n m
  to : ∀ m ∈ mds, ∀ s ∈ m.sws, 0 ≤ s.to ∧ s.to < mds.length
/-- a mode's box that flows out into itself, and whose switches lead into boxes -/
def ClosedAt (C : BSt) (md : Md) (b : Bx) : Prop := (∃ b', flowB md b = some b' ∧ LeB b' b) ∧ ∀ s ∈ md.sws, ∀ p, partB b s = some p → LeO (some p) (stAt C s.to.toNat)
def Closed (mds : List Md) (C : BSt) : Prop := ∀ i md b, mds[i]? = some md → stAt C i = some b → ClosedAt C md b
/-! ### the program's round -/
def enter1 (b : Bx) (st : BSt) (s : Sw) : BSt := match partB b s with
  | none => st
  | some p => st.set s.to.toNat (joinO (stAt st s.to.toNat) (some p))
def grow1 (st : BSt) (p : Md × Nat) : Option BSt := match stAt st p.2 with
  | none => some st
  | some b => (flowB p.1 b).map fun b' => p.1.sws.foldl (enter1 b') (st.set p.2 (some b'))
def growL : BSt → List (Md × Nat) → Option BSt
  | st, [] => some st
  | st, p :: ps => (grow1 st p).bind fun st' => growL st' ps
section
variable {n : Nat} {mds : List Md} {C st : BSt} {md : Md} {b : Bx}
theorem enter1_ok {s : Sw} (hb : b.length = n) (hv : 0 ≤ s.v ∧ s.v < n) (wd : Wide n st) : Wide n (enter1 b st s) ∧ LeS st (enter1 b st s) := by
  unfold enter1
  cases q : partB b s with
  | none => exact ⟨wd, LeS.refl _⟩
  | some p =>
    have pl : p.length = n := by rw [(partB_le hb hv q).1]; exact hb
    have p1 : ∀ x, some p = some x → x.length = n := fun x e => by cases e; exact pl
    exact ⟨wd.set (joinO_len (wd _) p1), (LeS.refl st).setR (joinO_left (wd _) p1)⟩
theorem enter1_le {s : Sw} {c : Bx} (hb : b.length = n) (hv : 0 ≤ s.v ∧ s.v < n) (l : LeS st C) (h : LeB b c) (hc : ∀ p, partB c s = some p → LeO (some p) (stAt C s.to.toNat)) : LeS (enter1 b st s) C := by
  unfold enter1
  cases q : partB b s with
  | none => exact l
  | some p =>
    obtain ⟨p', q1, q2⟩ := partB_mono hb hv h q
    exact l.setL (joinO_le (l.2 _) (LeO.trans (show LeO (some p) (some p') from q2) (hc p' q1)))
theorem enters_ok (hb : b.length = n) : ∀ (ss : List Sw) {st : BSt}, (∀ s ∈ ss, 0 ≤ s.v ∧ s.v < n) → Wide n st → Wide n (ss.foldl (enter1 b) st) ∧ LeS st (ss.foldl (enter1 b) st)
  | [], st, _, wd => ⟨wd, LeS.refl _⟩
  | s :: ss, st, h, wd => by
    obtain ⟨w1, l1⟩ := enter1_ok (st := st) hb (h s (by simp)) wd
    obtain ⟨w2, l2⟩ := enters_ok hb ss (fun s hs => h s (by simp [hs])) w1
    exact ⟨w2, l1.trans l2⟩
theorem enters_le {c : Bx} (hb : b.length = n) (h : LeB b c) : ∀ (ss : List Sw) {st : BSt}, (∀ s ∈ ss, 0 ≤ s.v ∧ s.v < n) → (∀ s ∈ ss, ∀ p, partB c s = some p → LeO (some p) (stAt C s.to.toNat)) → LeS st C → LeS (ss.foldl (enter1 b) st) C
  | [], st, _, _, l => l
  | s :: ss, st, hv, hc, l => enters_le hb h ss (fun s hs => hv s (by simp [hs])) (fun s hs => hc s (by simp [hs])) (enter1_le hb (hv s (by simp)) l h (hc s (by simp)))
theorem grow1_ok {i : Nat} {st' : BSt} (om : MdN n md) (wd : Wide n st) (h : grow1 st (md, i) = some st') : Wide n st' ∧ LeS st st' := by
  unfold grow1 at h
  cases q : stAt st i with
  | none => rw [q] at h; cases h; exact ⟨wd, LeS.refl _⟩
  | some b =>
    rw [q] at h
    simp only at h
    cases q2 : flowB md b with
    | none => rw [q2] at h; cases h
    | some b' =>
      rw [q2] at h
      cases h
      have hb := wd i b q
      have ge := flowB_ge om hb q2
      have hb' : b'.length = n := by rw [← ge.1]; exact hb
      have w1 : Wide n (st.set i (some b')) := wd.set fun x e => by cases e; exact hb'
      have l1 : LeS st (st.set i (some b')) := (LeS.refl st).setR (by rw [q]; exact ge)
      obtain ⟨w2, l2⟩ := enters_ok hb' md.sws om.sws w1
      exact ⟨w2, l1.trans l2⟩
theorem grow1_le {i : Nat} (om : MdN n md) (wd : Wide n st) (l : LeS st C) (hc : ∀ c, stAt C i = some c → ClosedAt C md c) : ∃ st', grow1 st (md, i) = some st' ∧ LeS st' C := by
  unfold grow1
  cases q : stAt st i with
  | none => exact ⟨st, rfl, l⟩
  | some b =>
    have li := l.2 i
    rw [q] at li
    cases q2 : stAt C i with
    | none => rw [q2] at li; exact li.elim
    | some c =>
      rw [q2] at li
      obtain ⟨⟨c', f1, f2⟩, f3⟩ := hc c q2
      have hb := wd i b q
      obtain ⟨b', g1, g2, g3⟩ := flowB_mono om hb li f1
      have bc : LeB b' c := g3.trans f2
      have hb' : b'.length = n := by rw [← g2.1]; exact hb
      refine ⟨_, by simp only [g1]; rfl, ?_⟩
      exact enters_le hb' bc md.sws om.sws f3 (l.setL (by rw [q2]; exact bc))
theorem growL_ok : ∀ (ps : List (Md × Nat)) {st st' : BSt}, (∀ p ∈ ps, MdN n p.1) → Wide n st → growL st ps = some st' → Wide n st' ∧ LeS st st'
  | [], st, st', _, wd, h => by cases h; exact ⟨wd, LeS.refl _⟩
  | p :: ps, st, st', om, wd, h => by
    simp only [growL] at h
    obtain ⟨s1, h1, h2⟩ := Option.bind_eq_some_iff.mp h
    obtain ⟨w1, l1⟩ := grow1_ok (om p (by simp)) wd h1
    obtain ⟨w2, l2⟩ := growL_ok ps (fun p hp => om p (by simp [hp])) w1 h2
    exact ⟨w2, l1.trans l2⟩
theorem growL_le : ∀ (ps : List (Md × Nat)) {st : BSt}, (∀ p ∈ ps, MdN n p.1) → Wide n st → LeS st C → (∀ p ∈ ps, ∀ c, stAt C p.2 = some c → ClosedAt C p.1 c) → ∃ st', growL st ps = some st' ∧ LeS st' C
  | [], st, _, _, l, _ => ⟨st, rfl, l⟩
  | p :: ps, st, om, wd, l, hc => by
    obtain ⟨s1, h1, l1⟩ := grow1_le (om p (by simp)) wd l (hc p (by simp))
    obtain ⟨w1, _⟩ := grow1_ok (om p (by simp)) wd h1
    obtain ⟨s2, h2, l2⟩ := growL_le ps (fun p hp => om p (by simp [hp])) w1 l1 (fun p hp => hc p (by simp [hp]))
    exact ⟨s2, by simp only [growL, h1, Option.bind_some, h2], l2⟩
/-- a round that changes nothing: each mode is closed -/
theorem grow1_fix {i : Nat} (om : MdN n md) (wd : Wide n st) (hi : i < st.length) (h : grow1 st (md, i) = some st) {b : Bx} (q : stAt st i = some b) (hto : ∀ s ∈ md.sws, s.to.toNat < st.length) : ClosedAt st md b := by
  unfold grow1 at h
  rw [q] at h
  simp only at h
  cases q2 : flowB md b with
  | none => rw [q2] at h; cases h
  | some b' =>
    rw [q2] at h
    simp only [Option.map_some, Option.some.injEq] at h
    have hb := wd i b q
    have ge := flowB_ge om hb q2
    have hb' : b'.length = n := by rw [← ge.1]; exact hb
    have w1 : Wide n (st.set i (some b')) := wd.set fun x e => by cases e; exact hb'
    obtain ⟨w2, l2⟩ := enters_ok hb' md.sws om.sws w1
    rw [h] at l2
    have li := l2.2 i
    rw [stAt_set, if_pos ⟨rfl, hi⟩, q] at li
    have le : LeB b' b := li
    have eb : b' = b := le.antisymm ge
    subst eb
    have es : st.set i (some b') = st := by
      apply List.ext_getElem (by simp)
      intro j h1 h2
      rw [List.getElem_set]
      split
      · rename_i c
        subst c
        simpa [stAt, List.getD_eq_getElem?_getD, List.getElem?_eq_getElem h2] using q.symm
      · rfl
    rw [es] at h
    refine ⟨⟨b', q2, LeB.refl _⟩, ?_⟩
    -- each entry stays below
    have ent : ∀ (ss : List Sw) (t : BSt), (∀ s ∈ ss, 0 ≤ s.v ∧ s.v < n) → (∀ s ∈ ss, s.to.toNat < t.length) → Wide n t → ∀ s ∈ ss, ∀ p, partB b' s = some p → LeO (some p) (stAt (ss.foldl (enter1 b') t) s.to.toNat) := by
      intro ss
      induction ss with
      | nil => intro t _ _ _ s hs; cases hs
      | cons s0 ss ih =>
        intro t hv ht wt s hs p hp
        obtain ⟨w3, l3⟩ := enter1_ok (st := t) hb' (hv s0 (by simp)) wt
        rcases List.mem_cons.mp hs with e | hs
        · subst e
          obtain ⟨_, l4⟩ := enters_ok hb' ss (fun s hs => hv s (by simp [hs])) w3
          refine LeO.trans ?_ (l4.2 _)
          unfold enter1
          rw [hp]
          simp only
          rw [stAt_set, if_pos ⟨rfl, ht s (by simp)⟩]
          refine joinO_right (n := n) (wt _) fun x e => ?_
          cases e
          rw [(partB_le hb' (hv s (by simp)) hp).1]
          exact hb'
        · exact ih _ (fun s hs => hv s (by simp [hs])) (fun s hs => by rw [← l3.1]; exact ht s (by simp [hs])) w3 s hs p hp
    intro s hs p hp
    have := ent md.sws st om.sws hto wd s hs p hp
    rw [h] at this
    exact this
theorem growL_fix : ∀ (ps : List (Md × Nat)) {st : BSt}, (∀ p ∈ ps, MdN n p.1) → Wide n st → growL st ps = some st → ∀ p ∈ ps, grow1 st p = some st
  | [], st, _, _, _, p, hp => by cases hp
  | p :: ps, st, om, wd, h, p', hp => by
    simp only [growL] at h
    obtain ⟨s1, h1, h2⟩ := Option.bind_eq_some_iff.mp h
    obtain ⟨w1, l1⟩ := grow1_ok (om p (by simp)) wd h1
    obtain ⟨w2, l2⟩ := growL_ok ps (fun p hp => om p (by simp [hp])) w1 h2
    have e : s1 = st := l2.antisymm l1
    subst e
    rcases List.mem_cons.mp hp with z | hp
    · subst z; exact h1
    · exact growL_fix ps (fun p hp => om p (by simp [hp])) wd h2 p' hp
theorem zip_mem {mds : List Md} {p : Md × Nat} (h : p ∈ mds.zipIdx) : mds[p.2]? = some p.1 := List.mem_zipIdx_iff_getElem?.mp h
theorem grow_closed (om : MdsN n mds) (wd : Wide n st) (hl : st.length = mds.length) (h : growL st mds.zipIdx = some st) : Closed mds st := by
  intro i md b hm hb
  have hmem : (md, i) ∈ mds.zipIdx := List.mem_zipIdx_iff_getElem?.mpr hm
  have mm : md ∈ mds := List.mem_of_getElem? hm
  have hi := (List.getElem?_eq_some_iff.mp hm).1
  have g := growL_fix mds.zipIdx (fun p hp => om.md p.1 (List.mem_of_getElem? (zip_mem hp))) wd h _ hmem
  exact grow1_fix (om.md md mm) wd (by omega) g hb fun s hs => by have := om.to md mm s hs; omega
theorem grow_le (om : MdsN n mds) (wd : Wide n st) (l : LeS st C) (hc : Closed mds C) : ∃ st', growL st mds.zipIdx = some st' ∧ LeS st' C :=
  growL_le mds.zipIdx (fun p hp => om.md p.1 (List.mem_of_getElem? (zip_mem hp))) wd l fun p hp c e => hc p.2 p.1 c (zip_mem hp) e
theorem grow_ok {st' : BSt} (om : MdsN n mds) (wd : Wide n st) (h : growL st mds.zipIdx = some st') : Wide n st' ∧ LeS st st' :=
  growL_ok mds.zipIdx (fun p hp => om.md p.1 (List.mem_of_getElem? (zip_mem hp))) wd h
end
end PF

end

section
/-! P32: the program's walls. -/
namespace PF
open PySem PySem.Spec PyProof.Rows L2
@[simp] theorem encPr_0 (p : Int × Int) : ixD (.d (encPr p)) (.d (.int 0)) = .ok (.d (.int p.1)) := rfl
@[simp] theorem encPr_1 (p : Int × Int) : ixD (.d (encPr p)) (.d (.int 1)) = .ok (.d (.int p.2)) := rfl
@[simp] theorem encPr_set (p : Int × Int) (ts : List Tg) (ρ : PF.Env) : setT (.tup ts) (encPr p) ρ = setTs ts [.int p.1, .int p.2] ρ := setT_tup ρ _ _
@[simp] theorem encBx_ix (b : Bx) (i : Int) : ixD (.d (encBx b)) (.d (.int i)) = (M.opt (L2.atI b i)).bind fun x => .ok (.d (encPr x)) := by
  show (M.opt (L2.atI (b.map encPr) i)).bind _ = _
  rw [atI_map]
  cases L2.atI b i <;> rfl
@[simp] theorem encBx_seq (b : Bx) : seqD (.d (encBx b)) = .ok (b.map encPr) := rfl
@[simp] theorem encBx_sl (b : Bx) (l h : Option Int) : slD (.d (encBx b)) l h = .ok (.d (.tuple (cutD (b.map encPr) l h))) := rfl
@[simp] theorem encBx_list (b : Bx) : bltD .list [.d (encBx b)] = .ok (.o (b.map encPr)) := rfl
@[simp] theorem isn_b (b : Bx) : isNoneD (encBx b) = false := rfl

def isNoneO : Option Bx → Bool
  | none => true
  | some _ => false
@[simp] theorem isn_ob (o : Option Bx) : isNoneD (encOB o) = isNoneO o := by cases o <;> rfl
theorem bx_at {b : Bx} {v : Int} (h : 0 ≤ v ∧ v < b.length) : L2.atI b v = some (bxAt b v) := atI_pos (d := ((0, 0) : Int × Int)) h.1 h.2
theorem cut_take (xs : List D) {v : Int} (h : 0 ≤ v) (h2 : v ≤ xs.length) : cutD xs none (some v) = xs.take v.toNat := by
  unfold cutD HT.sIx
  have e : min v.toNat xs.length = v.toNat := by omega
  simp [show ¬ v < 0 by omega, e]
theorem cut_drop (xs : List D) {v : Int} (h : 0 ≤ v) (h2 : v ≤ xs.length) : cutD xs (some v) none = xs.drop v.toNat := by
  unfold cutD HT.sIx
  have e : min v.toNat xs.length = v.toNat := by omega
  simp [show ¬ v < 0 by omega, e]
  rw [List.take_of_length_le (by simp)]
theorem set_cut {α : Type} (xs : List α) {j : Nat} (h : j < xs.length) (a : α) : xs.take j ++ [a] ++ xs.drop (j + 1) = xs.set j a := by
  rw [List.set_eq_take_append_cons_drop, if_pos h]
  simp
theorem max1_l (xs : List Int) (h : xs ≠ []) : bltD .max1 [.d (.list (xs.map PyData.int))] = .ok (.d (.int (maxL xs))) := by
  cases xs with
  | nil => exact absurd rfl h
  | cons x r =>
    show (M.opt (intsD ((x :: r).map PyData.int))).bind maxI = _
    rw [intsD_ints]
    rfl
theorem min1_l (xs : List Int) (h : xs ≠ []) : bltD .min1 [.d (.list (xs.map PyData.int))] = .ok (.d (.int (minL xs))) := by
  cases xs with
  | nil => exact absurd rfl h
  | cons x r =>
    show (M.opt (intsD ((x :: r).map PyData.int))).bind minI = _
    rw [intsD_ints]
    rfl
section
variable {n : Nat}
theorem entered_ok {k : Nat} (b : Bx) (s : Sw) (hv : 0 ≤ s.v ∧ s.v < b.length) (hl : b.length ≤ 1000) : runF tab (k + 1) i_entered [encBx b, encS s] = .ok (.d (encOB (partB b s))) := by
  rw [runF_of tab_entered rfl]
  have e := bx_at hv
  have c1 := cut_take (b.map encPr) hv.1 (by rw [List.length_map]; omega)
  have c2 := cut_drop (b.map encPr) (v := s.v + 1) (by omega) (by rw [List.length_map]; omega)
  have j : s.v.toNat < (b.map encPr).length := by rw [List.length_map]; omega
  have t1 : (s.v + 1).toNat = s.v.toNat + 1 := by omega
  rw [t1] at c2
  have fin : ∀ p : Int × Int, ((b.map encPr).take s.v.toNat ++ [PyData.tuple [.int p.1, .int p.2]]) ++ (b.map encPr).drop (s.v.toNat + 1) = (b.set s.v.toNat p).map encPr := fun p => by
    have := set_cut (b.map encPr) j (encPr p)
    rw [List.map_set]
    exact this
  have a1 : ∀ p : D, binD .Add (.d (.tuple ((b.map encPr).take s.v.toNat))) (.d (.tuple [p])) = .ok (.d (.tuple ((b.map encPr).take s.v.toNat ++ [p]))) := fun p => add_tt' _ _ (by simp; omega)
  have a2 : ∀ p : D, binD .Add (.d (.tuple ((b.map encPr).take s.v.toNat ++ [p]))) (.d (.tuple ((b.map encPr).drop (s.v.toNat + 1)))) = .ok (.d (.tuple (((b.map encPr).take s.v.toNat ++ [p]) ++ (b.map encPr).drop (s.v.toNat + 1)))) := fun p => add_tt' _ _ (by simp; omega)
  have tk : (encBx b) = .tuple (b.map encPr) := rfl
  unfold partB partLo partHi
  cases hu : s.up with
  | true =>
    obtain ⟨z0, hM⟩ : ∃ z0, z0 = max (bxAt b s.v).1 s.mark := ⟨_, rfl⟩
    simp only [if_true, ← hM]
    by_cases c : (bxAt b s.v).2 < z0
    · rw [if_pos c]
      simp [f_entered, startE, e, hu, ← hM, c, encOB]
    · rw [if_neg c]
      have f := fin (z0, (bxAt b s.v).2)
      simp [f_entered, startE, e, hu, ← hM, c]
      simp [c1, c2, a1, a2, encOB, tk] at f ⊢
      unfold encBx
      rw [List.map_set]
      rw [f]
  | false =>
    obtain ⟨z0, hM⟩ : ∃ z0, z0 = min (bxAt b s.v).2 s.mark := ⟨_, rfl⟩
    simp only [Bool.false_eq_true, if_false, ← hM]
    by_cases c : z0 < (bxAt b s.v).1
    · rw [if_pos c]
      simp [f_entered, startE, e, hu, ← hM, c, encOB]
    · rw [if_neg c]
      have f := fin ((bxAt b s.v).1, z0)
      simp [f_entered, startE, e, hu, ← hM, c]
      simp [c1, c2, a1, a2, encOB, tk] at f ⊢
      unfold encBx
      rw [List.map_set]
      rw [f]
/-- a for that may give back something: the list's turns, then what stands behind -/
theorem once_loop {k : Nat} (b : Bx) (a0 : Sl) : ∀ (ss : List Sw) (s2 s3 s4 s5 s6 s7 : Sl), (∀ s ∈ ss, 0 ≤ s.v ∧ s.v < b.length) →
    (forD (.tup [.name 2, .name 3, .name 4, .name 5]) (exB (runF tab k) b_goes_at_once_1) (ss.map encS) [a0, .val (encBx b), s2, s3, s4, s5, s6, s7]).seq (exB (runF tab k) [.ret (.con (.bool false))]) = .rt (.d (.bool (ss.any (atOnce1 b))))
  | [], s2, s3, s4, s5, s6, s7, _ => by simp [forD_nil]
  | s :: ss, s2, s3, s4, s5, s6, s7, h => by
    have ih := once_loop (k := k) b a0 ss (.val (.int s.v)) (.val (wayD s.up)) (.val (.int s.mark)) (.val (.int s.to)) (.val (.int (bxAt b s.v).1)) (.val (.int (bxAt b s.v).2)) fun s hs => h s (by simp [hs])
    have e := bx_at (h s (by simp))
    rw [List.map_cons, forD_cons]
    simp only [encS_set, setTs_cons, setT_name, Option.bind_some, setTs_nil, optC_some]
    simp only [List.set_cons_succ, List.set_cons_zero]
    cases c : atOnce1 b s with
    | true =>
      have st : exB (runF tab k) b_goes_at_once_1 [a0, .val (encBx b), .val (.int s.v), .val (wayD s.up), .val (.int s.mark), .val (.int s.to), s6, s7] = .rt (.d (.bool true)) := by
        unfold atOnce1 at c
        cases hu : s.up with
        | true => rw [if_pos hu] at c; simp at c; simp [b_goes_at_once_1, e, c]
        | false => rw [if_neg (by rw [hu]; simp)] at c; simp at c; simp [b_goes_at_once_1, e, c]
      rw [st]
      simp [c]
    | false =>
      have st : exB (runF tab k) b_goes_at_once_1 [a0, .val (encBx b), .val (.int s.v), .val (wayD s.up), .val (.int s.mark), .val (.int s.to), s6, s7] = .nx [a0, .val (encBx b), .val (.int s.v), .val (wayD s.up), .val (.int s.mark), .val (.int s.to), .val (.int (bxAt b s.v).1), .val (.int (bxAt b s.v).2)] := by
        unfold atOnce1 at c
        cases hu : s.up with
        | true => rw [if_pos hu] at c; have c' := of_decide_eq_false c; simp [b_goes_at_once_1, e, c']
        | false => rw [if_neg (by rw [hu]; simp)] at c; have c' := of_decide_eq_false c; simp [b_goes_at_once_1, e, c']
      rw [st]
      simp only [ih]
      simp [c]
theorem once_ok {k : Nat} (md : Md) (b : Bx) (h : ∀ s ∈ md.sws, 0 ≤ s.v ∧ s.v < b.length) : runF tab (k + 1) i_goes_at_once [encM md, encBx b] = .ok (.d (.bool (atOnce md b))) := by
  rw [runF_of tab_goes_at_once rfl]
  have e := once_loop (k := k) b (.val (encM md)) md.sws .no .no .no .no .no .no h
  simp [f_goes_at_once, startE]
  rw [e]
  simp [atOnce]
theorem joined_ok {k : Nat} (o : Option Bx) (c : Bx) (h : ∀ b, o = some b → b.length = c.length) (hl : c.length ≤ 1000) : runF tab (k + 1) i_joined [encOB o, encBx c] = .ok (.d (encOB (joinO o (some c)))) := by
  rw [runF_of tab_joined rfl]
  cases o with
  | none => simp [f_joined, startE, isNoneO, encOB, joinO]
  | some b =>
    have hb := h b rfl
    have sl := sizeLine_big
    have zz : (((b.map encPr).zip (c.map encPr)).map fun p => PyData.tuple [p.1, p.2]) = (b.zip c).map fun p => PyData.tuple [encPr p.1, encPr p.2] := by
      rw [List.zip_map, List.map_map]
      rfl
    obtain ⟨ρ, e, s3, s4, J⟩ := forD_inv (tg := .tup [.name 3, .name 4]) (b := exB (runF tab k) b_joined_1) (fun p : (Int × Int) × (Int × Int) => PyData.tuple [encPr p.1, encPr p.2])
      (fun done ρ => ∃ s3 s4 : Sl, ρ = [.val (encBx b), .val (encBx c), .own ((done.map fun p => (min p.1.1 p.2.1, max p.1.2 p.2.2)).map encPr), s3, s4])
      (b.zip c) [.val (encBx b), .val (encBx c), .own [], .no, .no] ⟨_, _, rfl⟩ (by
        intro done p rest ρ hd ⟨s3, s4, q⟩
        subst q
        have dl : done.length ≤ 1000 := by
          have := congrArg List.length hd
          rw [List.length_zip] at this
          simp at this
          omega
        have lt : done.length < sizeLine := by omega
        exact ⟨[.val (encBx b), .val (encBx c), .own ((done.map fun p => (min p.1.1 p.2.1, max p.1.2 p.2.2)).map encPr), .val (encPr p.1), .val (encPr p.2)], [.val (encBx b), .val (encBx c), .own (((done ++ [p]).map fun p => (min p.1.1 p.2.1, max p.1.2 p.2.2)).map encPr), .val (encPr p.1), .val (encPr p.2)], by simp, .inl (by simp [b_joined_1, lt]; simp [encPr]), _, _, rfl⟩)
    subst J
    simp [f_joined, startE, encOB, zz]
    rw [e]
    simp [joinB, encBx, joinO, encOB]
theorem marks_comp {k : Nat} (md : Md) (i : Nat) (up : Bool) (a0 a1 a2 a4 a5 a6 a7 a12 : Sl) :
    ∀ ρ : PF.Env, ρ = [a0, a1, a2, .val (.int i), a4, a5, a6, a7, .no, .no, .no, .no, a12] → compD (.tup [.name 8, .name 9, .name 10, .name 11]) (evc (runF tab k) [.and (.cmp .Eq (.var 8) (.var 3)) (.cmp .Eq (.var 9) (.con (wayD up)))]) (evT (runF tab k) (.var 10)) ρ (md.sws.map encS) = .ok ((marksOf md i up).map PyData.int) := by
  intro ρ hρ
  subst hρ
  have := compD_map (tg := .tup [.name 8, .name 9, .name 10, .name 11]) (t := evc (runF tab k) [.and (.cmp .Eq (.var 8) (.var 3)) (.cmp .Eq (.var 9) (.con (wayD up)))]) (e := evT (runF tab k) (.var 10)) (ρ := [a0, a1, a2, .val (.int i), a4, a5, a6, a7, .no, .no, .no, .no, a12]) encS (fun s => decide (s.v = (i : Int)) && (s.up == up)) (fun s => PyData.int s.mark) md.sws (by
    intro s hs
    refine ⟨[a0, a1, a2, .val (.int i), a4, a5, a6, a7, .val (.int s.v), .val (wayD s.up), .val (.int s.mark), .val (.int s.to), a12], by simp, ?_, by simp⟩
    by_cases c : s.v = (i : Int)
    · simp [c]
    · simp [c])
  rw [this]
  unfold marksOf
  rw [List.map_map]
  rfl
theorem lt_big {n : Nat} (h : n ≤ 1000000) : n < sizeLine := by
  have := sizeLine_big
  rw [sizeLine_eq]
  omega
theorem ixN_nat {n i : Nat} (h : i < n) : L2.ixN n (i : Int) = some i := by
  unfold L2.ixN
  rw [if_pos (by omega), if_pos (by omega)]
  simp
theorem flow_turn {k : Nat} (md : Md) (b : Bx) (r : Int) (i : Nat) (hi : i < b.length) (found : List D) (hf : found.length = b.length) (s5 s6 s7 s8 s9 s10 s11 s12 : Sl) :
    match flow1 md b (r, i) with
    | none => exB (runF tab k) b_flowed_1 [.val (encM md), .val (encBx b), .own found, .val (.int i), .val (.int r), s5, s6, s7, s8, s9, s10, s11, s12] = .rt (.d .none)
    | some p => ∃ t5 t6 t7 t12 : Sl, exB (runF tab k) b_flowed_1 [.val (encM md), .val (encBx b), .own found, .val (.int i), .val (.int r), s5, s6, s7, s8, s9, s10, s11, s12] =
        .nx [.val (encM md), .val (encBx b), .own (found.set i (encPr p)), .val (.int i), .val (.int r), t5, t6, t7, s8, s9, s10, s11, t12] := by
  have e : L2.atI b (i : Int) = some (b.getD i (0, 0)) := by
    rw [atI_nat', List.getD_eq_getElem?_getD, List.getElem?_eq_getElem hi]
    simp
  have ix : L2.ixN found.length (i : Int) = some i := ixN_nat (by omega)
  obtain ⟨p, hp⟩ : ∃ p, p = b.getD i (0, 0) := ⟨_, rfl⟩
  rw [← hp] at e
  obtain ⟨U, hU⟩ : ∃ U, U = marksOf md i true := ⟨_, rfl⟩
  obtain ⟨V, hV⟩ : ∃ V, V = marksOf md i false := ⟨_, rfl⟩
  have cu := fun a0 a1 a2 a4 a5 a6 a7 a12 ρ h => marks_comp (k := k) md i true a0 a1 a2 a4 a5 a6 a7 a12 ρ h
  have cd := fun a0 a1 a2 a4 a5 a6 a7 a12 ρ h => marks_comp (k := k) md i false a0 a1 a2 a4 a5 a6 a7 a12 ρ h
  rw [← hU] at cu
  rw [← hV] at cd
  have f : flow1 md b (r, i) = if 0 < r then (if U.isEmpty = true then none else some (p.1, max p.2 (minL U))) else if r < 0 then (if V.isEmpty = true then none else some (min p.1 (maxL V), p.2)) else some p := by
    unfold flow1
    rw [← hU, ← hV, ← hp]
  rw [f]
  obtain ⟨env, henv⟩ : ∃ env : Int → Int → PF.Env, env = fun lo hi => [.val (encM md), .val (encBx b), .own found, .val (.int i), .val (.int r), .val (.int lo), .val (.int hi), .val (.list (U.map .int)), s8, s9, s10, s11, .val (.list (V.map .int))] := ⟨_, rfl⟩
  have st0 : exS (runF tab k) (b_flowed_1.getD 0 .pass) [.val (encM md), .val (encBx b), .own found, .val (.int i), .val (.int r), s5, s6, s7, s8, s9, s10, s11, s12] = .nx [.val (encM md), .val (encBx b), .own found, .val (.int i), .val (.int r), .val (.int p.1), .val (.int p.2), s7, s8, s9, s10, s11, s12] := by
    simp [b_flowed_1, e]
  have st1 : exS (runF tab k) (b_flowed_1.getD 1 .pass) [.val (encM md), .val (encBx b), .own found, .val (.int i), .val (.int r), .val (.int p.1), .val (.int p.2), s7, s8, s9, s10, s11, s12] = .nx [.val (encM md), .val (encBx b), .own found, .val (.int i), .val (.int r), .val (.int p.1), .val (.int p.2), .val (.list (U.map .int)), s8, s9, s10, s11, s12] := by
    simp [b_flowed_1]
    rw [cu _ _ _ _ _ _ _ _ _ rfl]
    simp
  have st2 : exS (runF tab k) (b_flowed_1.getD 2 .pass) [.val (encM md), .val (encBx b), .own found, .val (.int i), .val (.int r), .val (.int p.1), .val (.int p.2), .val (.list (U.map .int)), s8, s9, s10, s11, s12] = .nx (env p.1 p.2) := by
    rw [henv]
    simp [b_flowed_1]
    rw [cd _ _ _ _ _ _ _ _ _ rfl]
    simp
  have split : b_flowed_1 = [b_flowed_1.getD 0 .pass, b_flowed_1.getD 1 .pass, b_flowed_1.getD 2 .pass, b_flowed_1.getD 3 .pass, b_flowed_1.getD 4 .pass, b_flowed_1.getD 5 .pass] := rfl
  have st5 : ∀ lo hi, exS (runF tab k) (b_flowed_1.getD 5 .pass) (env lo hi) = .nx [.val (encM md), .val (encBx b), .own (found.set i (encPr (lo, hi))), .val (.int i), .val (.int r), .val (.int lo), .val (.int hi), .val (.list (U.map .int)), s8, s9, s10, s11, .val (.list (V.map .int))] := by
    intro lo hi
    rw [henv]
    simp [b_flowed_1, ix]
    simp [encPr]
  have st3n : ¬ 0 < r → ∀ lo hi, exS (runF tab k) (b_flowed_1.getD 3 .pass) (env lo hi) = .nx (env lo hi) := by
    intro c lo hi
    rw [henv]
    simp [b_flowed_1, c]
  have st4n : ¬ r < 0 → ∀ lo hi, exS (runF tab k) (b_flowed_1.getD 4 .pass) (env lo hi) = .nx (env lo hi) := by
    intro c lo hi
    rw [henv]
    simp [b_flowed_1, c]
  by_cases c : 0 < r
  · have c2 : ¬ r < 0 := by omega
    rw [if_pos c]
    by_cases u : U = []
    · have st3 : exS (runF tab k) (b_flowed_1.getD 3 .pass) (env p.1 p.2) = .rt (.d .none) := by
        rw [henv]
        simp [b_flowed_1, c, u]
      rw [if_pos (by rw [u]; rfl)]
      simp only
      rw [split]
      simp only [exB_cons, st0, st1, st2, st3, Ctl.seq_nx, Ctl.seq_rt]
    · have mi := min1_l U u
      have ue : U.isEmpty = false := by cases U with | nil => exact absurd rfl u | cons _ _ => rfl
      have st3 : exS (runF tab k) (b_flowed_1.getD 3 .pass) (env p.1 p.2) = .nx (env p.1 (max p.2 (minL U))) := by
        rw [henv]
        simp [b_flowed_1, c, mi, ue, u]
      rw [if_neg (by rw [ue]; simp)]
      simp only
      refine ⟨.val (.int p.1), .val (.int (max p.2 (minL U))), .val (.list (U.map .int)), .val (.list (V.map .int)), ?_⟩
      rw [split]
      simp only [exB_cons, st0, st1, st2, st3, st4n c2, st5, Ctl.seq_nx, exB_nil]
  · rw [if_neg c]
    by_cases c2 : r < 0
    · rw [if_pos c2]
      by_cases u : V = []
      · have st4 : exS (runF tab k) (b_flowed_1.getD 4 .pass) (env p.1 p.2) = .rt (.d .none) := by
          rw [henv]
          simp [b_flowed_1, c2, u]
        rw [if_pos (by rw [u]; rfl)]
        simp only
        rw [split]
        simp only [exB_cons, st0, st1, st2, st3n c, st4, Ctl.seq_nx, Ctl.seq_rt]
      · have mi := max1_l V u
        have ue : V.isEmpty = false := by cases V with | nil => exact absurd rfl u | cons _ _ => rfl
        have st4 : exS (runF tab k) (b_flowed_1.getD 4 .pass) (env p.1 p.2) = .nx (env (min p.1 (maxL V)) p.2) := by
          rw [henv]
          simp [b_flowed_1, c2, mi, ue, u]
        rw [if_neg (by rw [ue]; simp)]
        simp only
        refine ⟨.val (.int (min p.1 (maxL V))), .val (.int p.2), .val (.list (U.map .int)), .val (.list (V.map .int)), ?_⟩
        rw [split]
        simp only [exB_cons, st0, st1, st2, st3n c, st4, st5, Ctl.seq_nx, exB_nil]
    · rw [if_neg c2]
      simp only
      refine ⟨.val (.int p.1), .val (.int p.2), .val (.list (U.map .int)), .val (.list (V.map .int)), ?_⟩
      rw [split]
      simp only [exB_cons, st0, st1, st2, st3n c, st4n c2, st5, Ctl.seq_nx, exB_nil]
theorem flow_loop {k : Nat} (md : Md) (b : Bx) : ∀ (rs : List Int) (i : Nat) (pre : Bx) (s3 s4 s5 s6 s7 s8 s9 s10 s11 s12 : Sl), pre.length = i → i + rs.length = b.length →
    (forD (.tup [.name 3, .name 4]) (exB (runF tab k) b_flowed_1) ((rs.zipIdx i).map fun p => PyData.tuple [.int p.2, .int p.1]) [.val (encM md), .val (encBx b), .own ((pre ++ b.drop i).map encPr), s3, s4, s5, s6, s7, s8, s9, s10, s11, s12]).seq (exB (runF tab k) [.ret (.blt .tuple [.var 2])]) =
      .rt (.d (encOB ((optAll (flow1 md b) (rs.zipIdx i)).map (pre ++ ·))))
  | [], i, pre, s3, s4, s5, s6, s7, s8, s9, s10, s11, s12, h1, h2 => by
    have : b.drop i = [] := List.drop_eq_nil_of_le (by simp at h2; omega)
    simp [forD_nil, optAll, encOB, encBx, this]
  | r :: rs, i, pre, s3, s4, s5, s6, s7, s8, s9, s10, s11, s12, h1, h2 => by
    simp only [List.length_cons] at h2
    have hi : i < b.length := by omega
    have fl : ((pre ++ b.drop i).map encPr).length = b.length := by simp; omega
    have t := flow_turn (k := k) md b r i hi ((pre ++ b.drop i).map encPr) fl s5 s6 s7 s8 s9 s10 s11 s12
    rw [List.zipIdx_cons, List.map_cons, forD_cons]
    simp only [setT_tup, setTs_cons, setT_name, Option.bind_some, setTs_nil, optC_some, List.set_cons_succ, List.set_cons_zero]
    cases q : flow1 md b (r, i) with
    | none =>
      rw [q] at t
      simp only at t
      rw [t]
      simp [optAll, q, encOB]
    | some p =>
      rw [q] at t
      simp only at t
      obtain ⟨t5, t6, t7, t12, t⟩ := t
      rw [t]
      have es : ((pre ++ b.drop i).map encPr).set i (encPr p) = ((pre ++ [p]) ++ b.drop (i + 1)).map encPr := by
        rw [← List.map_set, List.set_append_right _ _ (by omega), h1, Nat.sub_self, List.drop_eq_getElem_cons hi, List.set_cons_zero, List.append_assoc]
        rfl
      have ih := flow_loop (k := k) md b rs (i + 1) (pre ++ [p]) (.val (.int i)) (.val (.int r)) t5 t6 t7 s8 s9 s10 s11 t12 (by simp; omega) (by omega)
      rw [es]
      simp only
      rw [ih]
      simp only [optAll, q, Option.bind_some, Option.map_map]
      congr 4
      funext ys
      simp
theorem flowed_ok {k : Nat} (md : Md) (b : Bx) (om : MdN b.length md) : runF tab (k + 2) i_flowed [encM md, encBx b] = .ok (.d (encOB (flowB md b))) := by
  rw [runF_of tab_flowed rfl]
  have on := once_ok (k := k) md b om.sws
  cases c : atOnce md b with
  | true =>
    rw [c] at on
    simp [f_flowed, startE, on, flowB, c, encOB]
  | false =>
    rw [c] at on
    have e := flow_loop (k := k + 1) md b md.rates 0 [] .no .no .no .no .no .no .no .no .no .no rfl (by have := om.rates; omega)
    simp only [List.nil_append, List.drop_zero] at e
    simp [f_flowed, startE, on, enumD_map]
    rw [e]
    simp [flowB, c]
def encSt (st : BSt) : D := .list (st.map encOB)
theorem st_ix {st : BSt} {i : Nat} (h : i < st.length) : L2.atI st (i : Int) = some (stAt st i) := by
  unfold stAt
  rw [atI_nat', List.getD_eq_getElem?_getD, List.getElem?_eq_getElem h]
  simp
theorem st_ixI {st : BSt} {i : Int} (h0 : 0 ≤ i) (h : i < st.length) : L2.atI st i = some (stAt st i.toNat) := atI_pos (d := (none : Option Bx)) h0 h
theorem ixN_int {n : Nat} {i : Int} (h0 : 0 ≤ i) (h : i < n) : L2.ixN n i = some i.toNat := by
  unfold L2.ixN
  rw [if_pos h0, if_pos (by omega)]
theorem enter_turn {k n : Nat} (b : Bx) (hb : b.length = n) (hn : n ≤ 1000) (s : Sw) (hv : 0 ≤ s.v ∧ s.v < n) (st : BSt) (ht : 0 ≤ s.to ∧ s.to < st.length) (wd : Wide n st) (a0 a1 a3 a4 s7 : Sl) :
    ∃ t7 : Sl, exB (runF tab (k + 2)) b_grown_2 [a0, a1, .own (st.map encOB), a3, a4, .val (encBx b), .val (encS s), s7] = .nx [a0, a1, .own ((enter1 b st s).map encOB), a3, a4, .val (encBx b), .val (encS s), t7] := by
  have en := entered_ok (k := k + 1) b s (by rw [hb]; exact hv) (by omega)
  unfold enter1
  cases q : partB b s with
  | none =>
    rw [q] at en
    exact ⟨.val .none, by simp [b_grown_2, en, encOB]⟩
  | some p =>
    rw [q] at en
    have pl : p.length = n := by rw [(partB_le hb hv q).1]; exact hb
    have jo := joined_ok (k := k + 1) (stAt st s.to.toNat) p (fun b h => by rw [wd _ b h, pl]) (by omega)
    have ix := st_ixI ht.1 ht.2
    have ixn : L2.ixN (st.map encOB).length s.to = some s.to.toNat := ixN_int ht.1 (by rw [List.length_map]; exact ht.2)
    rw [List.length_map] at ixn
    refine ⟨.val (encBx p), ?_⟩
    have ee : encOB (some p) = encBx p := rfl
    rw [ee] at en
    obtain ⟨o, ho⟩ : ∃ o, o = stAt st s.to.toNat := ⟨_, rfl⟩
    rw [← ho] at ix jo ⊢
    simp only
    rw [List.map_set]
    simp [b_grown_2, en, ix, ixn, jo]
theorem grow_turn {k n : Nat} {mds : List Md} (om : MdsN n mds) (hn : n ≤ 1000) (md : Md) (i : Nat) (hm : mds[i]? = some md) (st : BSt) (hl : st.length = mds.length) (wd : Wide n st) (a0 a1 s5 s6 s7 : Sl) :
    match grow1 st (md, i) with
    | none => exB (runF tab (k + 2)) b_grown_1 [a0, a1, .own (st.map encOB), .val (.int i), .val (encM md), s5, s6, s7] = .rt (.d .none)
    | some st' => ∃ t5 t6 t7 : Sl, exB (runF tab (k + 2)) b_grown_1 [a0, a1, .own (st.map encOB), .val (.int i), .val (encM md), s5, s6, s7] = .nx [a0, a1, .own (st'.map encOB), .val (.int i), .val (encM md), t5, t6, t7] := by
  have hi := (List.getElem?_eq_some_iff.mp hm).1
  have mm : md ∈ mds := List.mem_of_getElem? hm
  have ix := st_ix (st := st) (i := i) (by omega)
  have ixn : L2.ixN st.length (i : Int) = some i := ixN_nat (by omega)
  unfold grow1
  simp only
  cases q : stAt st i with
  | none =>
    rw [q] at ix
    simp only
    refine ⟨s5, s6, s7, ?_⟩
    simp [b_grown_1, ix, isNoneO]
  | some b =>
    rw [q] at ix
    simp only
    have hb := wd i b q
    have fl := flowed_ok (k := k) md b (by rw [hb]; exact om.md md mm)
    have ee : encOB (some b) = encBx b := rfl
    cases q2 : flowB md b with
    | none =>
      rw [q2] at fl
      simp only [Option.map_none]
      simp [b_grown_1, ix, isNoneO, ee, fl]
    | some b' =>
      rw [q2] at fl
      simp only [Option.map_some]
      have hb' : b'.length = n := by rw [← (flowB_ge (om.md md mm) hb q2).1]; exact hb
      have w1 : Wide n (st.set i (some b')) := wd.set fun x e => by cases e; exact hb'
      obtain ⟨ρ, e, t6, t7, J⟩ := forD_inv (tg := .name 6) (b := exB (runF tab (k + 2)) b_grown_2) encS
        (fun done ρ => ∃ t6 t7 : Sl, ρ = [a0, a1, .own ((done.foldl (enter1 b') (st.set i (some b'))).map encOB), .val (.int i), .val (encM md), .val (encBx b'), t6, t7])
        md.sws [a0, a1, .own ((st.set i (some b')).map encOB), .val (.int i), .val (encM md), .val (encBx b'), s6, s7] ⟨_, _, rfl⟩ (by
          intro done s rest ρ hd ⟨t6, t7, q⟩
          subst q
          have sm : s ∈ md.sws := by rw [hd]; simp
          obtain ⟨w2, l2⟩ := enters_ok (b := b') hb' done (st := st.set i (some b')) (fun s hs => (om.md md mm).sws s (by rw [hd]; simp [hs])) w1
          have to := om.to md mm s sm
          obtain ⟨u7, g⟩ := enter_turn (k := k) b' hb' hn s ((om.md md mm).sws s sm) (done.foldl (enter1 b') (st.set i (some b'))) (by rw [← l2.1, List.length_set]; omega) w2 a0 a1 (.val (.int i)) (.val (encM md)) t7
          refine ⟨_, _, by simp, .inl g, .val (encS s), u7, ?_⟩
          rw [List.foldl_append]
          rfl)
      subst J
      have ee' : encOB (some b') = encBx b' := rfl
      refine ⟨.val (encBx b'), t6, t7, ?_⟩
      rw [List.map_set, ee'] at e
      simp [b_grown_1, ix, isNoneO, ee, fl, ee', ixn]
      rw [e]
      simp
theorem grow_loop {k n : Nat} {mds : List Md} (om : MdsN n mds) (hn : n ≤ 1000) (a0 a1 : Sl) : ∀ (ps : List (Md × Nat)) (st : BSt) (s3 s4 s5 s6 s7 : Sl), (∀ p ∈ ps, mds[p.2]? = some p.1) → st.length = mds.length → Wide n st →
    (forD (.tup [.name 3, .name 4]) (exB (runF tab (k + 2)) b_grown_1) (ps.map fun p => PyData.tuple [.int p.2, encM p.1]) [a0, a1, .own (st.map encOB), s3, s4, s5, s6, s7]).seq (exB (runF tab (k + 2)) [.retv 2]) =
      .rt (match growL st ps with | none => .d .none | some st' => .o (st'.map encOB))
  | [], st, s3, s4, s5, s6, s7, _, _, _ => by simp [forD_nil, growL]
  | (md, i) :: ps, st, s3, s4, s5, s6, s7, h, hl, wd => by
    have hm := h (md, i) (by simp)
    have t := grow_turn (k := k) om hn md i hm st hl wd a0 a1 s5 s6 s7
    rw [List.map_cons, forD_cons]
    simp only [setT_tup, setTs_cons, setT_name, Option.bind_some, setTs_nil, optC_some, List.set_cons_succ, List.set_cons_zero]
    simp only [growL]
    cases q : grow1 st (md, i) with
    | none =>
      rw [q] at t
      simp only at t
      rw [t]
      simp
    | some st' =>
      rw [q] at t
      simp only at t
      obtain ⟨t5, t6, t7, t⟩ := t
      rw [t]
      obtain ⟨w1, l1⟩ := grow1_ok (om.md md (List.mem_of_getElem? hm)) wd q
      have ih := grow_loop (k := k) om hn a0 a1 ps st' (.val (.int i)) (.val (encM md)) t5 t6 t7 (fun p hp => h p (by simp [hp])) (by rw [← l1.1]; exact hl) w1
      simp only [ih, Option.bind_some]
theorem grown_ok {k n : Nat} {w : Wk} (om : MdsN n w.modes) (hn : n ≤ 1000) (st : BSt) (hl : st.length = w.modes.length) (wd : Wide n st) :
    runF tab (k + 3) i_grown [encW w, encSt st] = .ok (match growL st w.modes.zipIdx with | none => .d .none | some st' => .o (st'.map encOB)) := by
  rw [runF_of tab_grown rfl]
  have e := grow_loop (k := k) om hn (.val (encW w)) (.val (encSt st)) w.modes.zipIdx st .no .no .no .no .no (fun p hp => zip_mem hp) hl wd
  have ls : bltD .list [.d (encSt st)] = .ok (.o (st.map encOB)) := rfl
  simp [f_grown, startE, ls, enumD_map]
  rw [e]
  simp
end
end PF

end

section
/-! P33: how far boxes can grow. -/
namespace PF
open PySem PySem.Spec PyProof.Rows L2
def wid : Bx → Nat
  | [] => 0
  | p :: r => (p.2 - p.1).toNat + wid r
def mu : BSt → Nat
  | [] => 0
  | none :: r => mu r
  | some b :: r => 1 + wid b + mu r
def NeB (b : Bx) : Prop := ∀ i, i < b.length → (b.getD i (0, 0)).1 ≤ (b.getD i (0, 0)).2
def NeS (st : BSt) : Prop := ∀ i b, stAt st i = some b → NeB b
theorem LeB.tail {p q : Int × Int} {b c : Bx} (h : LeB (p :: b) (q :: c)) : (q.1 ≤ p.1 ∧ p.2 ≤ q.2) ∧ LeB b c := by
  refine ⟨by simpa using h.2 0 (by simp), by simpa using h.1, fun i hi => ?_⟩
  have := h.2 (i + 1) (by simpa using hi)
  simpa using this
theorem NeB.tail {p : Int × Int} {b : Bx} (h : NeB (p :: b)) : p.1 ≤ p.2 ∧ NeB b := by
  refine ⟨by simpa using h 0 (by simp), fun i hi => ?_⟩
  have := h (i + 1) (by simpa using hi)
  simpa using this
theorem wid_mono : ∀ {b c : Bx}, LeB b c → wid b ≤ wid c
  | [], [], _ => Nat.le_refl _
  | [], _ :: _, h => by have := h.1; simp at this
  | _ :: _, [], h => by have := h.1; simp at this
  | p :: b, q :: c, h => by
    obtain ⟨h1, h2⟩ := h.tail
    have := wid_mono h2
    unfold wid
    omega
theorem wid_lt : ∀ {b c : Bx}, LeB b c → NeB b → b ≠ c → wid b < wid c
  | [], [], _, _, n => absurd rfl n
  | [], _ :: _, h, _, _ => by have := h.1; simp at this
  | _ :: _, [], h, _, _ => by have := h.1; simp at this
  | p :: b, q :: c, h, ne, n => by
    obtain ⟨h1, h2⟩ := h.tail
    obtain ⟨n1, n2⟩ := ne.tail
    have m := wid_mono h2
    unfold wid
    by_cases e : p = q
    · have : b ≠ c := fun z => n (by rw [e, z])
      have := wid_lt h2 n2 this
      subst e
      omega
    · have : ¬ (p.1 = q.1 ∧ p.2 = q.2) := fun z => e (Prod.ext z.1 z.2)
      omega
theorem LeS.tail {o p : Option Bx} {s t : BSt} (h : LeS (o :: s) (p :: t)) : LeO o p ∧ LeS s t := by
  refine ⟨by simpa [stAt] using h.2 0, by simpa using h.1, fun i => ?_⟩
  have := h.2 (i + 1)
  simpa [stAt] using this
theorem NeS.tail {o : Option Bx} {s : BSt} (h : NeS (o :: s)) : (∀ b, o = some b → NeB b) ∧ NeS s := by
  refine ⟨fun b e => h 0 b (by simpa [stAt] using e), fun i b e => h (i + 1) b (by simpa [stAt] using e)⟩
theorem mu_mono : ∀ {s t : BSt}, LeS s t → mu s ≤ mu t
  | [], [], _ => Nat.le_refl _
  | [], _ :: _, h => by have := h.1; simp at this
  | _ :: _, [], h => by have := h.1; simp at this
  | o :: s, p :: t, h => by
    obtain ⟨h1, h2⟩ := h.tail
    have m := mu_mono h2
    cases o with
    | none => cases p with
      | none => exact m
      | some c => simp only [mu]; omega
    | some b => cases p with
      | none => exact h1.elim
      | some c => have := wid_mono (show LeB b c from h1); simp only [mu]; omega
theorem mu_lt : ∀ {s t : BSt}, LeS s t → NeS s → s ≠ t → mu s < mu t
  | [], [], _, _, n => absurd rfl n
  | [], _ :: _, h, _, _ => by have := h.1; simp at this
  | _ :: _, [], h, _, _ => by have := h.1; simp at this
  | o :: s, p :: t, h, ne, n => by
    obtain ⟨h1, h2⟩ := h.tail
    obtain ⟨n1, n2⟩ := ne.tail
    have m := mu_mono h2
    by_cases e : o = p
    · have st : s ≠ t := fun z => n (by rw [e, z])
      have := mu_lt h2 n2 st
      subst e
      cases o <;> simp only [mu] <;> omega
    · cases o with
      | none => cases p with
        | none => exact absurd rfl e
        | some c => simp only [mu]; omega
      | some b => cases p with
        | none => exact h1.elim
        | some c =>
          have := wid_lt (show LeB b c from h1) (n1 b rfl) (fun z => e (by rw [z]))
          simp only [mu]
          omega
theorem mu_bound {f : Bx} : ∀ {s : BSt}, (∀ i b, stAt s i = some b → LeB b f) → mu s ≤ s.length * (1 + wid f)
  | [], _ => by simp [mu]
  | o :: s, h => by
    have ih := mu_bound (f := f) (s := s) (fun i b e => h (i + 1) b (by simpa [stAt] using e))
    rw [List.length_cons, Nat.succ_mul]
    cases o with
    | none => simp only [mu]; omega
    | some b =>
      have := wid_mono (h 0 b (by simp [stAt]))
      simp only [mu]
      omega
/-! ### boxes within the brims, not empty -/
def fullB (br : List Int) : Bx := br.map fun x => (0, x)
def GoodB (br : List Int) (b : Bx) : Prop := LeB b (fullB br) ∧ NeB b
def GoodS (br : List Int) (st : BSt) : Prop := ∀ i b, stAt st i = some b → GoodB br b
theorem fullB_len (br : List Int) : (fullB br).length = br.length := by simp [fullB]
theorem fullB_at {br : List Int} {i : Nat} (h : i < br.length) : (fullB br).getD i (0, 0) = (0, br.getD i 0) := by
  unfold fullB
  simp [h]
theorem GoodB.len {br : List Int} {b : Bx} (h : GoodB br b) : b.length = br.length := by rw [h.1.1, fullB_len]
theorem GoodS.wide {br : List Int} {st : BSt} (h : GoodS br st) : Wide br.length st := fun i b e => (h i b e).len
theorem GoodS.set {br : List Int} {st : BSt} (h : GoodS br st) {j : Nat} {o : Option Bx} (ho : ∀ b, o = some b → GoodB br b) : GoodS br (st.set j o) := by
  intro i b e
  rw [stAt_set] at e
  split at e
  · exact ho b e
  · exact h i b e
theorem maxL_mem {xs : List Int} (h : xs ≠ []) : maxL xs ∈ xs := by
  cases xs with
  | nil => exact absurd rfl h
  | cons x r =>
    rcases (foldl_max r x).1 with e | e
    · show r.foldl max x ∈ x :: r; rw [e]; simp
    · exact List.mem_cons_of_mem _ e
theorem minL_mem {xs : List Int} (h : xs ≠ []) : minL xs ∈ xs := by
  cases xs with
  | nil => exact absurd rfl h
  | cons x r =>
    rcases (foldl_min r x).1 with e | e
    · show r.foldl min x ∈ x :: r; rw [e]; simp
    · exact List.mem_cons_of_mem _ e
theorem isEmpty_ne {xs : List Int} (h : ¬ xs.isEmpty = true) : xs ≠ [] := fun z => h (by rw [z]; rfl)
theorem marks_in {br : List Int} {many : Int} {md : Md} (om : okM br many md) {i : Nat} {up : Bool} {x : Int} (h : x ∈ marksOf md i up) : 0 ≤ x ∧ x ≤ br.getD i 0 := by
  unfold marksOf at h
  obtain ⟨s, hs, rfl⟩ := List.mem_map.mp h
  obtain ⟨h1, h2⟩ := List.mem_filter.mp hs
  have os := om.2.2.2 s h1
  simp only [Bool.and_eq_true, decide_eq_true_eq] at h2
  have e : s.v.toNat = i := by omega
  have := os.2.1
  rw [e] at this
  exact this
theorem okM.mdN {br : List Int} {many : Int} {md : Md} (om : okM br many md) : MdN br.length md := ⟨om.2.1, fun s hs => by have := (om.2.2.2 s hs).1; omega⟩
theorem flow_good {br : List Int} {many : Int} {md : Md} {b x : Bx} (om : okM br many md) (h : GoodB br b) (e : flowB md b = some x) : GoodB br x := by
  have bl := h.len
  have mn := om.mdN
  cases q : atOnce md b with
  | true => unfold flowB at e; rw [if_pos q] at e; cases e; exact h
  | false =>
    obtain ⟨l, f⟩ := flowB_at mn q e
    have at_ : ∀ i, i < br.length → 0 ≤ (x.getD i (0, 0)).1 ∧ (x.getD i (0, 0)).2 ≤ br.getD i 0 ∧ (x.getD i (0, 0)).1 ≤ (x.getD i (0, 0)).2 := by
      intro i hi
      have fi := f i hi
      have b1 := h.1.2 i (by omega)
      have b2 := h.2 i (by omega)
      rw [fullB_at hi] at b1
      simp only at b1
      unfold flow1 at fi
      dsimp only at fi
      split at fi
      · split at fi
        · cases fi
        · rename_i c
          have := marks_in om (minL_mem (isEmpty_ne c))
          injection fi with fi
          rw [← fi]
          simp only
          omega
      · split at fi
        · split at fi
          · cases fi
          · rename_i c
            have := marks_in om (maxL_mem (isEmpty_ne c))
            injection fi with fi
            rw [← fi]
            simp only
            omega
        · injection fi with fi
          rw [← fi]
          omega
    refine ⟨⟨by rw [l, fullB_len], fun i hi => ?_⟩, fun i hi => (at_ i (by omega)).2.2⟩
    have hi' : i < br.length := by omega
    rw [fullB_at hi']
    have := at_ i hi'
    exact ⟨this.1, this.2.1⟩
theorem part_good {br : List Int} {b p : Bx} {s : Sw} (hv : 0 ≤ s.v ∧ s.v < br.length) (h : GoodB br b) (e : partB b s = some p) : GoodB br p := by
  have bl := h.len
  refine ⟨(partB_le (n := br.length) bl hv e).trans h.1, ?_⟩
  unfold partB at e
  split at e
  · cases e
  · rename_i c
    cases e
    intro i hi
    simp only [List.length_set] at hi
    rw [set_at hi]
    split
    · simp only; omega
    · exact h.2 i hi
theorem join_good {br : List Int} {b c : Bx} (h : GoodB br b) (g : GoodB br c) : GoodB br (joinB b c) := by
  have e : b.length = c.length := by rw [h.len, g.len]
  refine ⟨joinB_le h.1 g.1, fun i hi => ?_⟩
  rw [joinB_len e] at hi
  rw [joinB_at hi (by omega)]
  have := h.2 i hi
  simp only
  omega
theorem joinO_good {br : List Int} : ∀ {o p : Option Bx}, (∀ b, o = some b → GoodB br b) → (∀ b, p = some b → GoodB br b) → ∀ b, joinO o p = some b → GoodB br b
  | none, p, _, g, b, e => by cases p <;> exact g b e
  | some b, none, h, _, c, e => h c e
  | some b, some c, h, g, d, e => by cases e; exact join_good (h b rfl) (g c rfl)
theorem enter_good {br : List Int} {b : Bx} {st : BSt} {s : Sw} (hv : 0 ≤ s.v ∧ s.v < br.length) (h : GoodB br b) (g : GoodS br st) : GoodS br (enter1 b st s) := by
  unfold enter1
  cases q : partB b s with
  | none => exact g
  | some p => exact g.set (joinO_good (g _) fun x e => by cases e; exact part_good hv h q)
theorem enters_good {br : List Int} {b : Bx} (h : GoodB br b) : ∀ (ss : List Sw) {st : BSt}, (∀ s ∈ ss, 0 ≤ s.v ∧ s.v < br.length) → GoodS br st → GoodS br (ss.foldl (enter1 b) st)
  | [], _, _, g => g
  | s :: ss, _, hv, g => enters_good h ss (fun s hs => hv s (by simp [hs])) (enter_good (hv s (by simp)) h g)
theorem grow1_good {br : List Int} {many : Int} {md : Md} {st st' : BSt} {i : Nat} (om : okM br many md) (g : GoodS br st) (e : grow1 st (md, i) = some st') : GoodS br st' := by
  unfold grow1 at e
  cases q : stAt st i with
  | none => rw [q] at e; cases e; exact g
  | some b =>
    rw [q] at e
    simp only at e
    cases q2 : flowB md b with
    | none => rw [q2] at e; cases e
    | some b' =>
      rw [q2] at e
      cases e
      have gb := flow_good om (g i b q) q2
      exact enters_good gb md.sws om.mdN.sws (g.set fun x z => by cases z; exact gb)
theorem growL_good {br : List Int} {many : Int} : ∀ (ps : List (Md × Nat)) {st st' : BSt}, (∀ p ∈ ps, okM br many p.1) → GoodS br st → growL st ps = some st' → GoodS br st'
  | [], st, st', _, g, e => by cases e; exact g
  | p :: ps, st, st', om, g, e => by
    simp only [growL] at e
    obtain ⟨s1, h1, h2⟩ := Option.bind_eq_some_iff.mp e
    exact growL_good ps (fun p hp => om p (by simp [hp])) (grow1_good (om p (by simp)) g h1) h2
theorem okW.mdsN {w : Wk} (hw : okW w) : MdsN w.brims.length w.modes := ⟨fun m hm => (hw.2.2.2.1 m hm).mdN, fun m hm s hs => by have := ((hw.2.2.2.1 m hm).2.2.2 s hs).2.2; omega⟩
/-- the boxes that walls begin with -/
def st0 (w : Wk) : BSt := (List.replicate w.modes.length none).set w.at_.toNat (some (w.levels.map fun l => (l, l)))
theorem st0_len (w : Wk) : (st0 w).length = w.modes.length := by simp [st0]
theorem st0_at (w : Wk) (i : Nat) : stAt (st0 w) i = if i = w.at_.toNat ∧ w.at_.toNat < w.modes.length then some (w.levels.map fun l => (l, l)) else none := by
  unfold st0
  rw [stAt_set, List.length_replicate]
  split
  · rfl
  · unfold stAt
    rw [List.getD_eq_getElem?_getD, List.getElem?_replicate]
    split <;> rfl
theorem lev_at {ls : List Int} {i : Nat} (h : i < ls.length) : (ls.map fun l => (l, l)).getD i (0, 0) = (ls.getD i 0, ls.getD i 0) := by simp [h]
theorem st0_good {w : Wk} (hw : okW w) : GoodS w.brims (st0 w) := by
  intro i b e
  rw [st0_at] at e
  split at e
  · cases e
    have l7 := hw.2.2.2.2.2.2.1
    refine ⟨⟨by simp [fullB, l7], fun i hi => ?_⟩, fun i hi => ?_⟩
    · simp only [List.length_map] at hi
      rw [lev_at hi, fullB_at (by omega)]
      have h1 := hw.2.2.2.2.2.1 _ (getD_mem (d := 0) hi)
      have h2 := hw.2.2.2.2.2.2.2 i (by simp; omega)
      exact ⟨h1.1, h2⟩
    · simp only [List.length_map] at hi
      rw [lev_at hi]
      exact Int.le_refl _
  · cases e
end PF

end

section
/-! P34: the program's walls are the least closed boxes. -/
namespace PF
open PySem PySem.Spec PyProof.Rows L2
theorem lay_Pr (p : Int × Int) : Lay 1 (encPr p) := lay_t _ fun y hy => by
  simp at hy
  rcases hy with rfl | rfl
  · exact lay_i _
  · exact lay_i _
theorem lay_n : Lay 0 .none := ⟨rfl, Nat.le_refl _⟩
theorem lay_Bx (b : Bx) : Lay 2 (encBx b) := lay_tm _ b fun x _ => lay_Pr x
theorem lay_OB (o : Option Bx) : Lay 2 (encOB o) := by
  cases o with
  | none => exact lay_n.mono (by omega)
  | some b => exact lay_Bx b
theorem lay_St (st : BSt) : Lay 3 (encSt st) := lay_lm _ st fun x _ => lay_OB x
theorem plain_Pr (p : Int × Int) : plain (encPr p) = true := rfl
theorem plain_Bx (b : Bx) : plain (encBx b) = true := plain_tm _ b fun x _ => plain_Pr x
theorem plain_OB (o : Option Bx) : plain (encOB o) = true := by
  cases o with
  | none => rfl
  | some b => exact plain_Bx b
theorem plain_St (st : BSt) : plain (encSt st) = true := plain_lm _ st fun x _ => plain_OB x
theorem map_inj {α β : Type} {f : α → β} (hf : ∀ x y, f x = f y → x = y) : ∀ {xs ys : List α}, xs.map f = ys.map f → xs = ys
  | [], [], _ => rfl
  | [], _ :: _, h => by simp at h
  | _ :: _, [], h => by simp at h
  | x :: xs, y :: ys, h => by
    simp only [List.map_cons, List.cons.injEq] at h
    rw [hf x y h.1, map_inj hf h.2]
theorem encPr_inj {p q : Int × Int} (h : encPr p = encPr q) : p = q := by
  unfold encPr at h
  injection h with h
  injection h with h1 h2
  injection h2 with h2 _
  injection h1 with h1
  injection h2 with h2
  exact Prod.ext h1 h2
theorem encBx_inj {b c : Bx} (h : encBx b = encBx c) : b = c := by
  unfold encBx at h
  injection h with h
  exact map_inj (fun _ _ => encPr_inj) h
theorem encOB_inj {o p : Option Bx} (h : encOB o = encOB p) : o = p := by
  cases o with
  | none => cases p with
    | none => rfl
    | some c => cases h
  | some b => cases p with
    | none => cases h
    | some c => rw [encBx_inj h]
theorem encSt_inj {s t : BSt} (h : encSt s = encSt t) : s = t := by
  unfold encSt at h
  injection h with h
  exact map_inj (fun _ _ => encOB_inj) h
theorem eq_St {a b : R} {s t : BSt} (ha : a.toD = encSt s) (hb : b.toD = encSt t) : cmpD .Eq a b = .ok (.d (.bool (@decide (s = t) (Classical.propDecidable _)))) := by
  rw [eq_plain (n := 3) (m := 3) (by rw [ha]; exact lay_St s) (by rw [hb]; exact lay_St t) (by omega) (by omega) (by rw [ha]; exact plain_St s) (by rw [hb]; exact plain_St t)]
  congr 3
  rw [ha, hb]
  by_cases h : s = t
  · subst h; simp
  · have : ¬ encSt s = encSt t := fun z => h (encSt_inj z)
    simp [h, this]
def encRes : Option BSt → D
  | none => .none
  | some st => encSt st
/-- what walls are: the least closed boxes over st, or none, where there are none -/
def WRes (w : Wk) (st : BSt) : Option BSt → Prop
  | none => ∀ C, Closed w.modes C → LeS st C → False
  | some B => Closed w.modes B ∧ LeS st B ∧ GoodS w.brims B ∧ B.length = w.modes.length ∧ ∀ C, Closed w.modes C → LeS st C → LeS B C
theorem walls_loop {k : Nat} {w : Wk} (hw : okW w) (a2 : Sl) : ∀ (N : Nat) (st : BSt) (s1 s3 s4 : Sl), (s1 = .own (st.map encOB) ∨ s1 = .val (encSt st)) → st.length = w.modes.length → GoodS w.brims st → w.modes.length * (1 + wid (fullB w.brims)) < mu st + N →
    ∃ r, whlD (tst (runF tab (k + 3)) (.con (.bool true))) (exB (runF tab (k + 3)) b_walls_1) [.val (encW w), s1, a2, s3, s4] = .rt (.d (encRes r)) ∧ WRes w st r
  | 0, st, s1, s3, s4, h1, hl, g, hN => by
    have := mu_bound (f := fullB w.brims) (s := st) (fun i b e => (g i b e).1)
    rw [hl] at this
    omega
  | N + 1, st, s1, s3, s4, h1, hl, g, hN => by
    have om := hw.mdsN
    have b4 := hw.2.1.2
    rw [whlD_step]
    have tt : tst (runF tab (k + 3)) (.con (.bool true)) [.val (encW w), s1, a2, s3, s4] = .ok true := by simp
    rw [tt]
    simp only [M.ctl_ok, if_pos]
    have gr := grown_ok (k := k) (w := w) om (by omega) st hl g.wide
    have fz : exS (runF tab (k + 3)) (b_walls_1.getD 0 .pass) [.val (encW w), s1, a2, s3, s4] = exS (runF tab (k + 3)) (b_walls_1.getD 0 .pass) [.val (encW w), .val (encSt st), a2, s3, s4] := by
      rcases h1 with h1 | h1
      · subst h1
        simp [b_walls_1]
        rfl
      · rw [h1]
    have spl : b_walls_1 = [b_walls_1.getD 0 .pass, b_walls_1.getD 1 .pass, b_walls_1.getD 2 .pass] := rfl
    cases q : growL st w.modes.zipIdx with
    | none =>
      rw [q] at gr
      refine ⟨none, ?_, fun C hC hle => ?_⟩
      · have st1 : exS (runF tab (k + 3)) (b_walls_1.getD 0 .pass) [.val (encW w), .val (encSt st), a2, s3, s4] = .nx [.val (encW w), .val (encSt st), a2, s3, .val .none] := by
          simp [b_walls_1, gr]
        have st2 : exS (runF tab (k + 3)) (b_walls_1.getD 1 .pass) [.val (encW w), .val (encSt st), a2, s3, .val .none] = .rt (.d .none) := by
          simp [b_walls_1]
        rw [spl]
        simp only [exB_cons, fz, st1, st2, Ctl.seq_nx, Ctl.seq_rt, encRes]
      · obtain ⟨s', e, _⟩ := grow_le om g.wide hle hC
        rw [q] at e
        cases e
    | some st' =>
      rw [q] at gr
      obtain ⟨w1, l1⟩ := grow_ok om g.wide q
      have g1 : GoodS w.brims st' := growL_good w.modes.zipIdx (fun p hp => hw.2.2.2.1 p.1 (List.mem_of_getElem? (zip_mem hp))) g q
      have st1 : exS (runF tab (k + 3)) (b_walls_1.getD 0 .pass) [.val (encW w), .val (encSt st), a2, s3, s4] = .nx [.val (encW w), .val (encSt st), a2, s3, .val (encSt st')] := by
        simp [b_walls_1, gr]
        rfl
      have cmp := eq_St (a := .d (encSt st')) (b := .d (encSt st)) rfl rfl
      have isn : isNoneD (encSt st') = false := rfl
      by_cases c : st' = st
      · subst c
        refine ⟨some st', ?_, grow_closed om g.wide hl q, LeS.refl _, g1, hl, fun C hC hle => hle⟩
        have st2 : exS (runF tab (k + 3)) (b_walls_1.getD 1 .pass) [.val (encW w), .val (encSt st'), a2, s3, .val (encSt st')] = .rt (.d (encSt st')) := by
          simp [b_walls_1, isn, cmp]
        rw [spl]
        simp only [exB_cons, fz, st1, st2, Ctl.seq_nx, Ctl.seq_rt, encRes]
      · have lt := mu_lt l1 (fun i b e => (g i b e).2) (fun z => c z.symm)
        obtain ⟨r, e, wr⟩ := walls_loop (k := k) hw a2 N st' (.val (encSt st')) s3 (.val (encSt st')) (.inr rfl) (by rw [← l1.1]; exact hl) g1 (by omega)
        refine ⟨r, ?_, ?_⟩
        · have st2 : exS (runF tab (k + 3)) (b_walls_1.getD 1 .pass) [.val (encW w), .val (encSt st), a2, s3, .val (encSt st')] = .nx [.val (encW w), .val (encSt st), a2, s3, .val (encSt st')] := by
            simp [b_walls_1, isn, cmp, c]
          have st3 : exS (runF tab (k + 3)) (b_walls_1.getD 2 .pass) [.val (encW w), .val (encSt st), a2, s3, .val (encSt st')] = .nx [.val (encW w), .val (encSt st'), a2, s3, .val (encSt st')] := by
            simp [b_walls_1]
          have all : exB (runF tab (k + 3)) b_walls_1 [.val (encW w), s1, a2, s3, s4] = .nx [.val (encW w), .val (encSt st'), a2, s3, .val (encSt st')] := by
            rw [spl]
            simp only [exB_cons, fz, st1, st2, st3, Ctl.seq_nx, exB_nil]
          rw [all]
          exact e
        · cases r with
          | none =>
            intro C hC hle
            obtain ⟨s', e', le'⟩ := grow_le om g.wide hle hC
            rw [q] at e'
            cases e'
            exact wr C hC le'
          | some B =>
            obtain ⟨a, b, c', d, f⟩ := wr
            refine ⟨a, l1.trans b, c', d, fun C hC hle => ?_⟩
            obtain ⟨s', e', le'⟩ := grow_le om g.wide hle hC
            rw [q] at e'
            cases e'
            exact f C hC le'
theorem walls_ok {k : Nat} {w : Wk} (hw : okW w) : ∃ r, runF tab (k + 6) i_walls [encW w] = .ok (.d (encRes r)) ∧ WRes w (st0 w) r := by
  have at1 := hw.2.2.2.2.1
  have z12 := hw.2.2.1.2
  obtain ⟨r, e, wr⟩ := walls_loop (k := k + 2) hw .no (w.modes.length * (1 + wid (fullB w.brims)) + 1) (st0 w) (.own ((st0 w).map encOB)) .no .no (.inl rfl) (st0_len w) (st0_good hw) (by omega)
  refine ⟨r, ?_, wr⟩
  rw [runF_of tab_walls rfl]
  have ck : runF tab (k + 5) i_checked [encW w] = .ok (.d (encW w)) := by rw [checked_ok, if_pos hw]
  have ixn : L2.ixN w.modes.length w.at_ = some w.at_.toNat := ixN_int at1.1 (by omega)
  simp [f_walls, startE, ck]
  rw [compD_map1 encM (fun _ => PyData.none)]
  · simp
    rw [compD_map1 PyData.int (fun l => encPr (l, l))]
    · simp [ixn]
      have es : (w.modes.map fun _ => PyData.none).set w.at_.toNat (.tuple (w.levels.map fun l => encPr (l, l))) = (st0 w).map encOB := by
        unfold st0
        rw [List.map_set, List.map_replicate, List.map_const']
        simp [encOB, encBx]
        rfl
      rw [es, e]
      simp
    · intro x hx
      simp [encPr]
  · intro x hx
    simp
end PF

end

section
/-! P61: walls of works taken so many times. Pure. -/
namespace PF
open PySem PySem.Spec PyProof.Rows L2
def sclB (c : Int) (b : Bx) : Bx := b.map fun p => (p.1 * c, p.2 * c)
def sclO (c : Int) (o : Option Bx) : Option Bx := o.map (sclB c)
def sclSt (c : Int) (st : BSt) : BSt := st.map (sclO c)
theorem sclB_len (c : Int) (b : Bx) : (sclB c b).length = b.length := List.length_map ..
theorem sclB_at (c : Int) (b : Bx) (i : Nat) : (sclB c b).getD i (0, 0) = ((b.getD i (0, 0)).1 * c, (b.getD i (0, 0)).2 * c) := by
  unfold sclB
  rw [List.getD_eq_getElem?_getD, List.getElem?_map, List.getD_eq_getElem?_getD]
  cases b[i]? with
  | none => simp
  | some p => rfl
theorem sclSt_at (c : Int) (st : BSt) (i : Nat) : stAt (sclSt c st) i = sclO c (stAt st i) := by
  unfold stAt sclSt
  rw [List.getD_eq_getElem?_getD, List.getElem?_map, List.getD_eq_getElem?_getD]
  cases st[i]? <;> rfl
theorem bxAt_scl (c : Int) (b : Bx) (v : Int) : bxAt (sclB c b) v = ((bxAt b v).1 * c, (bxAt b v).2 * c) := sclB_at c b _
section
variable {c r : Int} (hc : 0 < c) (hr : 0 < r)
include hc
theorem mul_le_i {a b : Int} : a * c ≤ b * c ↔ a ≤ b := Int.mul_le_mul_right hc
theorem mul_lt_i {a b : Int} : a * c < b * c ↔ a < b := Int.mul_lt_mul_right hc
theorem max_scl (a b : Int) : max (a * c) (b * c) = max a b * c := by
  have := mul_le_i hc (a := a) (b := b)
  have := mul_le_i hc (a := b) (b := a)
  rcases Int.le_total a b with h | h
  · rw [Int.max_eq_right h, Int.max_eq_right (by omega)]
  · rw [Int.max_eq_left h, Int.max_eq_left (by omega)]
theorem min_scl (a b : Int) : min (a * c) (b * c) = min a b * c := by
  have := mul_le_i hc (a := a) (b := b)
  have := mul_le_i hc (a := b) (b := a)
  rcases Int.le_total a b with h | h
  · rw [Int.min_eq_left h, Int.min_eq_left (by omega)]
  · rw [Int.min_eq_right h, Int.min_eq_right (by omega)]
theorem le_scl {b d : Bx} : LeB (sclB c b) (sclB c d) ↔ LeB b d := by
  unfold LeB
  rw [sclB_len, sclB_len]
  constructor
  · intro ⟨h1, h2⟩
    refine ⟨h1, fun i hi => ?_⟩
    have := h2 i hi
    rw [sclB_at, sclB_at] at this
    exact ⟨(mul_le_i hc).mp this.1, (mul_le_i hc).mp this.2⟩
  · intro ⟨h1, h2⟩
    refine ⟨h1, fun i hi => ?_⟩
    rw [sclB_at, sclB_at]
    exact ⟨(mul_le_i hc).mpr (h2 i hi).1, (mul_le_i hc).mpr (h2 i hi).2⟩
theorem leO_scl {o p : Option Bx} (h : LeO o p) : LeO (sclO c o) (sclO c p) := by
  cases o with
  | none => exact trivial
  | some b =>
    cases p with
    | none => exact h.elim
    | some d => exact (le_scl hc).mpr h
theorem atOnce1_scl (b : Bx) (s : Sw) : atOnce1 (sclB c b) (sclS c s) = atOnce1 b s := by
  have e1 : (sclS c s).up = s.up := rfl
  have e2 : (sclS c s).mark = s.mark * c := rfl
  have e3 : (sclS c s).v = s.v := rfl
  unfold atOnce1
  simp only [e1, e2, e3, bxAt_scl, mul_le_i hc]
omit hc in
theorem marks_scl (md : Md) (i : Nat) (up : Bool) : marksOf (sclM c r md) i up = (marksOf md i up).map (· * c) := by
  unfold marksOf sclM
  simp only
  rw [List.filter_map, List.map_map, List.map_map]
  rfl
theorem foldl_max_scl : ∀ (xs : List Int) (x : Int), (xs.map (· * c)).foldl max (x * c) = xs.foldl max x * c
  | [], x => rfl
  | y :: xs, x => by
    rw [List.map_cons, List.foldl_cons, List.foldl_cons, max_scl hc]
    exact foldl_max_scl xs (max x y)
theorem foldl_min_scl : ∀ (xs : List Int) (x : Int), (xs.map (· * c)).foldl min (x * c) = xs.foldl min x * c
  | [], x => rfl
  | y :: xs, x => by
    rw [List.map_cons, List.foldl_cons, List.foldl_cons, min_scl hc]
    exact foldl_min_scl xs (min x y)
theorem maxL_scl (xs : List Int) : maxL (xs.map (· * c)) = maxL xs * c := by
  cases xs with
  | nil => simp [maxL]
  | cons x xs => exact foldl_max_scl hc xs x
theorem minL_scl (xs : List Int) : minL (xs.map (· * c)) = minL xs * c := by
  cases xs with
  | nil => simp [minL]
  | cons x xs => exact foldl_min_scl hc xs x
include hr
theorem flow1_scl (md : Md) (b : Bx) (p : Int × Nat) : flow1 (sclM c r md) (sclB c b) (p.1 * r, p.2) = (flow1 md b p).map fun q => (q.1 * c, q.2 * c) := by
  have em : ∀ xs : List Int, (xs.map (· * c)).isEmpty = xs.isEmpty := fun xs => by cases xs <;> rfl
  unfold flow1
  simp only [marks_scl, sclB_at, pos_scl hr, neg_scl hr, em, minL_scl hc, maxL_scl hc, max_scl hc, min_scl hc]
  split
  · split <;> rfl
  · split
    · split <;> rfl
    · rfl
theorem optAll_scl {α : Type} (f : α → Option (Int × Int)) (g : α → Option (Int × Int)) : ∀ (xs : List α), (∀ x ∈ xs, g x = (f x).map fun q => (q.1 * c, q.2 * c)) → optAll g xs = (optAll f xs).map (sclB c)
  | [], _ => rfl
  | x :: xs, h => by
    have ih := optAll_scl f g xs fun y hy => h y (by simp [hy])
    unfold optAll
    rw [h x (by simp), ih]
    cases f x with
    | none => rfl
    | some q =>
      cases optAll f xs with
      | none => rfl
      | some qs => rfl
theorem flowB_scl (md : Md) (b : Bx) : flowB (sclM c r md) (sclB c b) = (flowB md b).map (sclB c) := by
  have e1 : atOnce (sclM c r md) (sclB c b) = atOnce md b := by
    unfold atOnce
    show ((md.sws.map (sclS c)).any _) = _
    rw [List.any_map]
    congr 1
    funext s
    exact atOnce1_scl hc b s
  have e2 : (sclM c r md).rates.zipIdx = md.rates.zipIdx.map fun p => (p.1 * r, p.2) := by
    show (md.rates.map (· * r)).zipIdx = _
    rw [List.zipIdx_map]
    rfl
  unfold flowB
  rw [e1, e2]
  split
  · rfl
  · have : ∀ (f : Int × Nat → Option (Int × Int)) (xs : List (Int × Nat)), optAll f (xs.map fun p => (p.1 * r, p.2)) = optAll (fun p => f (p.1 * r, p.2)) xs := by
      intro f xs
      induction xs with
      | nil => rfl
      | cons x xs ih =>
        rw [List.map_cons]
        unfold optAll
        rw [ih]
    rw [this]
    exact optAll_scl hc hr _ _ _ fun p _ => flow1_scl hc hr md b p
omit hr in
theorem partB_scl (b : Bx) (s : Sw) : partB (sclB c b) (sclS c s) = (partB b s).map (sclB c) := by
  have e1 : (sclS c s).up = s.up := rfl
  have e2 : (sclS c s).mark = s.mark * c := rfl
  have e3 : (sclS c s).v = s.v := rfl
  have lo : partLo (sclB c b) (sclS c s) = partLo b s * c := by
    unfold partLo
    simp only [e1, e2, e3, bxAt_scl, max_scl hc]
    split <;> rfl
  have hi : partHi (sclB c b) (sclS c s) = partHi b s * c := by
    unfold partHi
    simp only [e1, e2, e3, bxAt_scl, min_scl hc]
    split <;> rfl
  unfold partB
  simp only [lo, hi, mul_lt_i hc, e3]
  split
  · rfl
  · show some ((sclB c b).set s.v.toNat (partLo b s * c, partHi b s * c)) = some (sclB c (b.set s.v.toNat (partLo b s, partHi b s)))
    unfold sclB
    rw [List.map_set]
theorem modes_scl {w : Wk} {i : Nat} {md' : Md} (h : (sclW c r w).modes[i]? = some md') : ∃ md, w.modes[i]? = some md ∧ md' = sclM c r md := by
  have e : (sclW c r w).modes[i]? = (w.modes[i]?).map (sclM c r) := List.getElem?_map
  rw [e] at h
  cases q : w.modes[i]? with
  | none => rw [q] at h; cases h
  | some md => rw [q] at h; cases h; exact ⟨md, rfl, rfl⟩
/-- closed states scaled are closed -/
theorem closed_scl {w : Wk} {C : BSt} (h : Closed w.modes C) : Closed (sclW c r w).modes (sclSt c C) := by
  intro i md' b' hm hb
  obtain ⟨md, hmd, rfl⟩ := modes_scl hc hr hm
  rw [sclSt_at] at hb
  cases q : stAt C i with
  | none => rw [q] at hb; cases hb
  | some b =>
    rw [q] at hb
    cases hb
    obtain ⟨⟨x, x1, x2⟩, ps⟩ := h i md b hmd q
    refine ⟨⟨sclB c x, ?_, (le_scl hc).mpr x2⟩, fun s' hs' p' hp' => ?_⟩
    · show flowB (sclM c r md) (sclB c b) = _
      rw [flowB_scl hc hr, x1]
      rfl
    · obtain ⟨s, hs, rfl⟩ := List.mem_map.mp hs'
      have hp' : partB (sclB c b) (sclS c s) = some p' := hp'
      rw [partB_scl hc] at hp'
      cases qp : partB b s with
      | none => rw [qp] at hp'; cases hp'
      | some p =>
        rw [qp] at hp'
        cases hp'
        have := leO_scl hc (ps s hs p qp)
        show LeO (sclO c (some p)) (stAt (sclSt c C) s.to.toNat)
        rw [sclSt_at]
        exact this
/-! ### the greatest box below, in whole numbers -/
omit hc hr in
def innP (c : Int) (p : Int × Int) : Int × Int := (-((-p.1) / c), p.2 / c)
omit hc hr in
def innB (c : Int) (b : Bx) : Bx := b.map (innP c)
omit hc hr in
def neB : Bx → Bool
  | [] => true
  | p :: b => decide (p.1 ≤ p.2) && neB b
omit hc hr in
theorem neB_iff : ∀ {b : Bx}, neB b = true ↔ NeB b
  | [] => by simp [neB, NeB]
  | p :: b => by
    have ih := neB_iff (b := b)
    unfold neB
    rw [Bool.and_eq_true, ih]
    constructor
    · intro ⟨h1, h2⟩ i hi
      cases i with
      | zero => simpa using h1
      | succ i => exact h2 i (by simpa using hi)
    · intro h
      exact ⟨by simpa using h 0 (by simp), fun i hi => h (i + 1) (by simpa using hi)⟩
omit hc hr in
def innO (c : Int) : Option Bx → Option Bx
  | none => none
  | some b => if neB (innB c b) = true then some (innB c b) else none
omit hc hr in
theorem innO_some (c : Int) (b : Bx) : innO c (some b) = if neB (innB c b) = true then some (innB c b) else none := rfl
omit hc hr in
def innSt (c : Int) (st : BSt) : BSt := st.map (innO c)
omit hc hr in
theorem innB_at (c : Int) (b : Bx) {i : Nat} (h : i < b.length) : (innB c b).getD i (0, 0) = innP c (b.getD i (0, 0)) := by
  unfold innB
  rw [List.getD_eq_getElem?_getD, List.getElem?_map, List.getD_eq_getElem?_getD, List.getElem?_eq_getElem h]
  rfl
omit hc hr in
theorem innSt_at (c : Int) (st : BSt) (i : Nat) : stAt (innSt c st) i = innO c (stAt st i) := by
  unfold stAt innSt
  rw [List.getD_eq_getElem?_getD, List.getElem?_map, List.getD_eq_getElem?_getD]
  cases st[i]? <;> rfl
omit hr in
theorem ceil_le {x q : Int} : -((-x) / c) ≤ q ↔ x ≤ q * c := by
  have := Int.le_ediv_iff_mul_le (a := -q) (b := -x) hc
  have e : -q * c = -(q * c) := by grind
  rw [e] at this
  omega
omit hr in
theorem floor_ge {x q : Int} : q ≤ x / c ↔ q * c ≤ x := Int.le_ediv_iff_mul_le hc
omit hr in
theorem inn_iff {b' q : Bx} : LeB q (innB c b') ↔ LeB (sclB c q) b' := by
  unfold LeB
  rw [sclB_len]
  have il : (innB c b').length = b'.length := List.length_map ..
  rw [il]
  constructor
  · intro ⟨h1, h2⟩
    refine ⟨h1, fun i hi => ?_⟩
    have := h2 i hi
    rw [innB_at c b' (by omega)] at this
    rw [sclB_at]
    exact ⟨(ceil_le hc).mp this.1, (floor_ge hc).mp this.2⟩
  · intro ⟨h1, h2⟩
    refine ⟨h1, fun i hi => ?_⟩
    have := h2 i hi
    rw [sclB_at] at this
    rw [innB_at c b' (by omega)]
    exact ⟨(ceil_le hc).mpr this.1, (floor_ge hc).mpr this.2⟩
omit hc hr in
theorem ne_up {q b : Bx} (h : LeB q b) (n : NeB q) : NeB b := fun i hi => by
  have h1 := h.2 i (by have := h.1; omega)
  have h2 := n i (by have := h.1; omega)
  omega
omit hr in
theorem inn_le {q : Bx} {o : Option Bx} (n : NeB q) (h : LeO (some (sclB c q)) o) : LeO (some q) (innO c o) := by
  cases o with
  | none => exact h.elim
  | some b' =>
    have l : LeB q (innB c b') := (inn_iff hc).mpr h
    have nn := neB_iff.mpr (ne_up l n)
    rw [innO_some, if_pos nn]
    exact l
theorem inn_closed {w : Wk} {C : BSt} {n : Nat} (mn : ∀ m ∈ w.modes, MdN n m) (wd : Wide n C) (h : Closed (sclW c r w).modes C) : Closed w.modes (innSt c C) := by
  intro i md b hm hb
  rw [innSt_at] at hb
  cases q : stAt C i with
  | none => rw [q] at hb; cases hb
  | some b' =>
    rw [q] at hb
    have om := mn md (List.mem_of_getElem? hm)
    have hm' : (sclW c r w).modes[i]? = some (sclM c r md) := by
      show (w.modes.map (sclM c r))[i]? = _
      rw [List.getElem?_map, hm]
      rfl
    have om' : MdN n (sclM c r md) := ⟨by show (md.rates.map (· * r)).length = n; rw [List.length_map]; exact om.rates, fun s' hs' => by
      obtain ⟨s, hs, rfl⟩ := List.mem_map.mp hs'
      exact om.sws s hs⟩
    rw [innO_some] at hb
    split at hb
    · rename_i nn
      have hb : innB c b' = b := by simpa using hb
      subst hb
      have bl' : b'.length = n := wd _ _ q
      have sb : LeB (sclB c (innB c b')) b' := (inn_iff hc).mp (LeB.refl _)
      have bl : (innB c b').length = n := by rw [← bl']; exact List.length_map ..
      obtain ⟨⟨x, x1, x2⟩, ps⟩ := h i _ b' hm' q
      obtain ⟨y, y1, y2, y3⟩ := flowB_mono om' (by rw [sclB_len]; exact bl) sb x1
      rw [flowB_scl hc hr] at y1
      cases qf : flowB md (innB c b') with
      | none => rw [qf] at y1; cases y1
      | some b1 =>
        rw [qf] at y1
        cases y1
        refine ⟨⟨b1, qf, (inn_iff hc).mpr (y3.trans x2)⟩, fun s hs p hp => ?_⟩
        have hv := om.sws s hs
        have ps' : partB (sclB c (innB c b')) (sclS c s) = some (sclB c p) := by
          rw [partB_scl hc, hp]
          rfl
        obtain ⟨p', hp', lp⟩ := partB_mono (s := sclS c s) (by rw [sclB_len]; exact bl) hv sb ps'
        have l1 := ps (sclS c s) (List.mem_map.mpr ⟨s, hs, rfl⟩) p' hp'
        have np : NeB p := by
          have nb := neB_iff.mp nn
          unfold partB at hp
          split at hp
          · cases hp
          · rename_i c1
            cases hp
            intro j hj
            rw [List.length_set] at hj
            rw [set_at hj]
            split
            · simp only; omega
            · exact nb j hj
        have l2 : LeO (some (sclB c p)) (stAt C s.to.toNat) := LeO.trans (b := some p') lp l1
        rw [innSt_at]
        exact inn_le hc np l2
    · cases hb
omit hr in
theorem inn_st0 {w : Wk} {C : BSt} (l : LeS (st0 (sclW c r w)) C) (ml : (0 ≤ w.at_ ∧ w.at_ < w.modes.length)) : LeS (st0 w) (innSt c C) := by
  have e0 : (sclW c r w).modes.length = w.modes.length := List.length_map ..
  refine ⟨?_, fun i => ?_⟩
  · have := l.1
    rw [st0_len, e0] at this
    rw [st0_len]
    unfold innSt
    rw [List.length_map]
    exact this
  · have li := l.2 i
    rw [st0_at, e0] at li
    have ea : (sclW c r w).at_ = w.at_ := rfl
    rw [ea] at li
    rw [st0_at, innSt_at]
    by_cases q : i = w.at_.toNat ∧ w.at_.toNat < w.modes.length
    · rw [if_pos q] at li ⊢
      have el : ((sclW c r w).levels.map fun l => (l, l)) = sclB c (w.levels.map fun l => (l, l)) := by
        show ((w.levels.map (· * c)).map fun l => (l, l)) = _
        unfold sclB
        rw [List.map_map, List.map_map]
        rfl
      rw [el] at li
      refine inn_le hc (fun j hj => ?_) li
      rw [List.length_map] at hj
      rw [lev_at hj]
      exact Int.le_refl _
    · rw [if_neg q]
      trivial
omit hr in
theorem scl_st0 {w : Wk} {C : BSt} (l : LeS (st0 w) C) : LeS (st0 (sclW c r w)) (sclSt c C) := by
  have e0 : (sclW c r w).modes.length = w.modes.length := List.length_map ..
  refine ⟨?_, fun i => ?_⟩
  · have := l.1
    rw [st0_len] at this
    rw [st0_len, e0]
    unfold sclSt
    rw [List.length_map]
    exact this
  · have li := l.2 i
    rw [st0_at] at li
    have ea : (sclW c r w).at_ = w.at_ := rfl
    rw [st0_at, e0, ea, sclSt_at]
    by_cases q : i = w.at_.toNat ∧ w.at_.toNat < w.modes.length
    · rw [if_pos q] at li ⊢
      have el : ((sclW c r w).levels.map fun l => (l, l)) = sclB c (w.levels.map fun l => (l, l)) := by
        show ((w.levels.map (· * c)).map fun l => (l, l)) = _
        unfold sclB
        rw [List.map_map, List.map_map]
        rfl
      rw [el]
      exact leO_scl hc li
    · rw [if_neg q]
      trivial
omit hr in
theorem leS_scl {a b : BSt} (h : LeS a b) : LeS (sclSt c a) (sclSt c b) := by
  refine ⟨by unfold sclSt; rw [List.length_map, List.length_map]; exact h.1, fun i => ?_⟩
  rw [sclSt_at, sclSt_at]
  exact leO_scl hc (h.2 i)
omit hr in
theorem inn_back {C : BSt} : LeS (sclSt c (innSt c C)) C := by
  refine ⟨by unfold sclSt innSt; rw [List.length_map, List.length_map], fun i => ?_⟩
  rw [sclSt_at, innSt_at]
  cases stAt C i with
  | none => trivial
  | some b' =>
    rw [innO_some]
    split
    · exact (inn_iff hc).mp (LeB.refl _)
    · trivial
/-- walls scale -/
theorem walls_scl {w : Wk} (hw : okW w) (hw' : okW (sclW c r w)) {x x' : Option BSt} (W : WRes w (st0 w) x) (W' : WRes (sclW c r w) (st0 (sclW c r w)) x') : x' = x.map (sclSt c) := by
  have ml : 0 ≤ w.at_ ∧ w.at_ < w.modes.length := by have := hw.2.2.2.2.1; omega
  have mn : ∀ m ∈ w.modes, MdN w.brims.length m := fun m hm => (hw.2.2.2.1 m hm).mdN
  have bl : (sclW c r w).brims.length = w.brims.length := List.length_map ..
  cases x with
  | none =>
    cases x' with
    | none => rfl
    | some B' =>
      obtain ⟨c1, c2, c3, _, _⟩ := W'
      have wd : Wide w.brims.length B' := by rw [← bl]; exact c3.wide
      exact (W _ (inn_closed hc hr mn wd c1) (inn_st0 hc c2 ml)).elim
  | some B =>
    obtain ⟨b1, b2, b3, b4, b5⟩ := W
    cases x' with
    | none => exact (W' _ (closed_scl hc hr b1) (scl_st0 hc b2)).elim
    | some B' =>
      obtain ⟨c1, c2, c3, c4, c5⟩ := W'
      have wd : Wide w.brims.length B' := by rw [← bl]; exact c3.wide
      have l1 := c5 _ (closed_scl hc hr b1) (scl_st0 hc b2)
      have l2 := b5 _ (inn_closed hc hr mn wd c1) (inn_st0 hc c2 ml)
      have l3 := (leS_scl hc l2).trans (inn_back hc)
      rw [l1.antisymm l3]
      rfl
end
end PF

end

section
/-! P50: sums that never change: rows taken to rows. -/
namespace PF
open PySem PySem.Spec PyProof.Rows L2
def dot : List Int → List Int → Int
  | x :: xs, y :: ys => x * y + dot xs ys
  | _, _ => 0
theorem dot_smul (d : Int) : ∀ (r x : List Int), dot (r.map (d * ·)) x = d * dot r x
  | [], x => by simp [dot]
  | a :: r, [] => by simp [dot]
  | a :: r, y :: x => by
    simp only [List.map_cons, dot, dot_smul d r x, Int.mul_add, Int.mul_assoc]
theorem dot_comm : ∀ (r x : List Int), dot r x = dot x r
  | [], x => by cases x <;> rfl
  | a :: r, [] => rfl
  | a :: r, y :: x => by simp only [dot, dot_comm r x, Int.mul_comm]
theorem dot_lin (u v : Int) : ∀ (r l x : List Int), r.length = l.length → dot (List.zipWith (fun a b => a * u - b * v) r l) x = u * dot r x - v * dot l x
  | [], [], x, _ => by simp [dot]
  | a :: r, b :: l, [], _ => by simp [dot]
  | a :: r, b :: l, y :: x, h => by
    simp only [List.zipWith_cons_cons, dot, dot_lin u v r l x (by simpa using h)]
    grind
  | [], _ :: _, _, h => by cases h
  | _ :: _, [], _, h => by cases h
theorem dot_zero : ∀ (r x : List Int), (∀ a ∈ r, a = 0) → dot r x = 0
  | [], x, _ => by cases x <;> rfl
  | a :: r, [], _ => rfl
  | a :: r, y :: x, h => by
    have ha := h a (by simp)
    subst ha
    simp only [dot, dot_zero r x fun b hb => h b (by simp [hb]), Int.zero_mul, Int.zero_add]
theorem dot_set (r : List Int) (v : Int) : ∀ (x : List Int) (j : Nat), j < x.length → dot r (x.set j v) = dot r x + r.getD j 0 * (v - x.getD j 0) := by
  induction r with
  | nil => intro x j h; cases x <;> simp [dot]
  | cons a r ih =>
    intro x j h
    cases x with
    | nil => simp at h
    | cons y x =>
      cases j with
      | zero => simp only [List.set_cons_zero, dot, List.getD_cons_zero]; grind
      | succ j =>
        simp only [List.set_cons_succ, dot, List.getD_cons_succ, ih x j (by simpa using h)]
        grind
/-! ### without a common divisor -/
def gcdF (b : Nat) (row : List Int) : Nat := row.foldl (fun b x => Nat.gcd b x.natAbs) b
def gcdL (row : List Int) : Nat := gcdF 0 row
theorem gcdF_dvd : ∀ (row : List Int) (b : Nat), gcdF b row ∣ b ∧ ∀ x ∈ row, gcdF b row ∣ x.natAbs
  | [], b => ⟨Nat.dvd_refl _, by simp⟩
  | x :: row, b => by
    obtain ⟨h1, h2⟩ := gcdF_dvd row (Nat.gcd b x.natAbs)
    refine ⟨Nat.dvd_trans h1 (Nat.gcd_dvd_left _ _), fun y hy => ?_⟩
    rcases List.mem_cons.mp hy with rfl | hy
    · exact Nat.dvd_trans h1 (Nat.gcd_dvd_right _ _)
    · exact h2 y hy
theorem gcdF_snoc (b : Nat) (row : List Int) (x : Int) : gcdF b (row ++ [x]) = Nat.gcd (gcdF b row) x.natAbs := by
  unfold gcdF
  rw [List.foldl_append]
  rfl
theorem gcdL_zero {row : List Int} (h : gcdL row = 0) : ∀ x ∈ row, x = 0 := by
  intro x hx
  have := (gcdF_dvd row 0).2 x hx
  rw [show gcdF 0 row = 0 from h] at this
  have := Nat.eq_zero_of_zero_dvd this
  omega
def firstN (row : List Int) : Int := (row.filter fun x => !decide (x = 0)).headD 0
theorem firstN_mem {row : List Int} (h : gcdL row ≠ 0) : firstN row ≠ 0 ∧ ∃ r, (row.filter fun x => !decide (x = 0)) = firstN row :: r := by
  cases q : (row.filter fun x => !decide (x = 0)) with
  | nil =>
    exfalso
    apply h
    have z : ∀ x ∈ row, x = 0 := fun x hx => by
      have := List.filter_eq_nil_iff.mp q x hx
      simpa using this
    have : ∀ (l : List Int), (∀ x ∈ l, x = 0) → gcdF 0 l = 0 := by
      intro l
      induction l with
      | nil => intro _; rfl
      | cons a l ih =>
        intro hl
        have ha := hl a (by simp)
        subst ha
        unfold gcdF
        simp only [List.foldl_cons, Int.natAbs_zero, Nat.gcd_self]
        exact ih fun x hx => hl x (by simp [hx])
    exact this row z
  | cons a r =>
    have e : firstN row = a := by unfold firstN; rw [q]; rfl
    have m : a ∈ row.filter fun x => !decide (x = 0) := by rw [q]; simp
    have := (List.mem_filter.mp m).2
    refine ⟨by rw [e]; simpa using this, r, by rw [e]⟩
theorem firstN_at : ∀ (row : List Int) (i : Nat), (∀ j, j < i → row.getD j 0 = 0) → row.getD i 0 ≠ 0 → firstN row = row.getD i 0
  | [], i, _, h => by simp at h
  | a :: row, 0, _, h => by
    have h : a ≠ 0 := h
    unfold firstN
    rw [List.filter_cons_of_pos (by simp [h])]
    rfl
  | a :: row, i + 1, z, h => by
    have ha : a = 0 := z 0 (by omega)
    have ih := firstN_at row i (fun j hj => z (j + 1) (by omega)) h
    unfold firstN at ih ⊢
    rw [List.filter_cons_of_neg (by simp [ha])]
    exact ih
def divisor (row : List Int) : Int := if firstN row < 0 then -(gcdL row : Int) else (gcdL row : Int)
def prim (row : List Int) : List Int := if gcdL row = 0 then row else row.map fun x => x.fdiv (divisor row)
theorem divisor_ne {row : List Int} (h : gcdL row ≠ 0) : divisor row ≠ 0 := by unfold divisor; split <;> omega
theorem divisor_dvd {row : List Int} : ∀ x ∈ row, divisor row ∣ x := by
  intro x hx
  have h : (gcdL row : Int) ∣ x := Int.ofNat_dvd_left.mpr ((gcdF_dvd row 0).2 x hx)
  unfold divisor
  split
  · exact Int.neg_dvd.mpr h
  · exact h
theorem fdiv_exact {x d : Int} (h : d ∣ x) : d * x.fdiv d = x := by
  obtain ⟨c, rfl⟩ := h
  by_cases z : d = 0
  · subst z; simp
  · rw [Int.mul_fdiv_cancel_left c z]
theorem prim_spec (row : List Int) : ∃ d : Int, d ≠ 0 ∧ row = (prim row).map (d * ·) ∧ (0 < firstN row → 0 < d) ∧ (firstN row < 0 → d < 0) := by
  by_cases h : gcdL row = 0
  · refine ⟨if firstN row < 0 then -1 else 1, by split <;> omega, ?_, fun h => by rw [if_neg (by omega)]; omega, fun h => by rw [if_pos h]; omega⟩
    have z := gcdL_zero h
    unfold prim
    rw [if_pos h]
    have : ∀ (d : Int) (l : List Int), (∀ x ∈ l, x = 0) → l = l.map (d * ·) := by
      intro d l
      induction l with
      | nil => intro _; rfl
      | cons a l ih =>
        intro hl
        have ha := hl a (by simp)
        subst ha
        rw [List.map_cons, ← ih fun x hx => hl x (by simp [hx])]
        simp
    exact this _ row z
  · refine ⟨divisor row, divisor_ne h, ?_, fun p => by unfold divisor; rw [if_neg (by omega)]; omega, fun p => by unfold divisor; rw [if_pos p]; omega⟩
    unfold prim
    rw [if_neg h, List.map_map]
    have : row.map ((divisor row * ·) ∘ fun x => x.fdiv (divisor row)) = row.map id := List.map_congr_left fun x hx => fdiv_exact (divisor_dvd x hx)
    rw [this, List.map_id]
theorem prim_len (row : List Int) : (prim row).length = row.length := by unfold prim; split <;> simp
theorem getD_map_mul (d : Int) (r : List Int) (i : Nat) : (r.map (d * ·)).getD i 0 = d * r.getD i 0 := by
  rw [List.getD_eq_getElem?_getD, List.getElem?_map, List.getD_eq_getElem?_getD]
  cases r[i]? <;> simp
theorem prim_at (row : List Int) : ∃ d : Int, d ≠ 0 ∧ (∀ i, row.getD i 0 = d * (prim row).getD i 0) ∧ (∀ x, dot row x = d * dot (prim row) x) ∧ (0 < firstN row → 0 < d) ∧ (firstN row < 0 → d < 0) := by
  obtain ⟨d, h1, h2, h3, h4⟩ := prim_spec row
  refine ⟨d, h1, fun i => ?_, fun x => ?_, h3, h4⟩
  · conv => lhs; rw [h2]
    exact getD_map_mul d _ i
  · conv => lhs; rw [h2]
    exact dot_smul d _ x
theorem mul_zero' {d x : Int} (h : d * x = 0) (hd : d ≠ 0) : x = 0 := by
  rcases Int.mul_eq_zero.mp h with z | z
  · exact absurd z hd
  · exact z
theorem prim_zero {row : List Int} {i : Nat} : (prim row).getD i 0 = 0 ↔ row.getD i 0 = 0 := by
  obtain ⟨d, h1, h2, _⟩ := prim_at row
  constructor
  · intro z; rw [h2, z, Int.mul_zero]
  · intro z; rw [h2] at z; exact mul_zero' z h1
theorem prim_pos {row : List Int} {i : Nat} (z : ∀ j, j < i → row.getD j 0 = 0) (h : row.getD i 0 ≠ 0) : 0 < (prim row).getD i 0 := by
  obtain ⟨d, h1, h2, _, h3, h4⟩ := prim_at row
  have f := firstN_at row i z h
  have e := h2 i
  rcases Int.lt_or_gt_of_ne h with c | c
  · have d0 := h4 (by omega)
    rcases Int.lt_or_le 0 ((prim row).getD i 0) with k | k
    · exact k
    · have := Int.mul_nonneg_of_nonpos_of_nonpos (Int.le_of_lt d0) k
      omega
  · have d0 := h3 (by omega)
    rcases Int.lt_or_le 0 ((prim row).getD i 0) with k | k
    · exact k
    · have := Int.mul_nonpos_of_nonneg_of_nonpos (Int.le_of_lt d0) k
      omega
theorem prim_dot {row x : List Int} : dot (prim row) x = 0 ↔ dot row x = 0 := by
  obtain ⟨d, h1, _, h2, _⟩ := prim_at row
  constructor
  · intro z; rw [h2, z, Int.mul_zero]
  · intro z; rw [h2] at z; exact mul_zero' z h1
/-! ### cleared -/
def clrV (row lead : List Int) (p : Nat) : List Int := List.zipWith (fun a b => a * lead.getD p 0 - b * row.getD p 0) row lead
def clr (row lead : List Int) (p : Nat) : List Int := prim (clrV row lead p)
theorem clrV_len {row lead : List Int} {p : Nat} (h : row.length = lead.length) : (clrV row lead p).length = row.length := by unfold clrV; rw [List.length_zipWith]; omega
theorem clrV_at {row lead : List Int} {p : Nat} (h : row.length = lead.length) (i : Nat) : (clrV row lead p).getD i 0 = row.getD i 0 * lead.getD p 0 - lead.getD i 0 * row.getD p 0 := by
  unfold clrV
  rw [List.getD_eq_getElem?_getD, List.getElem?_zipWith]
  by_cases hi : i < row.length
  · rw [List.getElem?_eq_getElem hi, List.getElem?_eq_getElem (by omega), List.getD_eq_getElem?_getD (i := i), List.getElem?_eq_getElem hi, List.getD_eq_getElem?_getD (i := i), List.getElem?_eq_getElem (by omega)]
    rfl
  · have h1 : row[i]? = none := List.getElem?_eq_none (by omega)
    have h2 : lead[i]? = none := List.getElem?_eq_none (by omega)
    simp [List.getD_eq_getElem?_getD, h1, h2]
theorem clrV_dot {row lead : List Int} {p : Nat} (h : row.length = lead.length) (x : List Int) : dot (clrV row lead p) x = lead.getD p 0 * dot row x - row.getD p 0 * dot lead x := dot_lin _ _ row lead x h
structure Rs where
  left : List (List Int)
  piv : List (List Int × Nat)
def redS (s : Rs) (p : Nat) : Rs := match s.left.find? (fun r => !decide (r.getD p 0 = 0)) with
  | none => s
  | some lead => ⟨(s.left.filter fun r => !decide (r = lead)).map fun r => clr r lead p, (s.piv.map fun q => (clr q.1 lead p, q.2)) ++ [(prim lead, p)]⟩
def redQ (rows : List (List Int)) (n : Nat) : Rs := (List.range n).foldl redS ⟨rows, []⟩
structure Inv (rows : List (List Int)) (n : Nat) (s : Rs) (p : Nat) : Prop where
  ll : ∀ r ∈ s.left, r.length = n
  pl : ∀ q ∈ s.piv, q.1.length = n
  lz : ∀ r ∈ s.left, ∀ j, j < p → r.getD j 0 = 0
  lt : ∀ q ∈ s.piv, q.2 < p
  pos : ∀ q ∈ s.piv, 0 < q.1.getD q.2 0
  pz : ∀ q ∈ s.piv, ∀ j, j < q.2 → q.1.getD j 0 = 0
  ap : ∀ q ∈ s.piv, ∀ q' ∈ s.piv, q.2 ≠ q'.2 → q.1.getD q'.2 0 = 0
  nd : (s.piv.map (·.2)).Nodup
  orth : ∀ x, (∀ r ∈ s.left, dot r x = 0) → (∀ q ∈ s.piv, dot q.1 x = 0) → ∀ r ∈ rows, dot r x = 0
  keep : ∀ x, (∀ r ∈ rows, dot r x = 0) → (∀ r ∈ s.left, dot r x = 0) ∧ ∀ q ∈ s.piv, dot q.1 x = 0
theorem inv0 {rows : List (List Int)} {n : Nat} (h : ∀ r ∈ rows, r.length = n) : Inv rows n ⟨rows, []⟩ 0 :=
  ⟨h, by simp, fun _ _ j hj => by omega, by simp, by simp, by simp, by simp, by simp, fun x h1 _ => h1, fun x h1 => ⟨h1, by simp⟩⟩
theorem redS_inv {rows : List (List Int)} {n : Nat} {s : Rs} {p : Nat} (I : Inv rows n s p) : Inv rows n (redS s p) (p + 1) := by
  unfold redS
  cases hf : s.left.find? (fun r => !decide (r.getD p 0 = 0)) with
  | none =>
    have z : ∀ r ∈ s.left, r.getD p 0 = 0 := fun r hr => by
      have := List.find?_eq_none.mp hf r hr
      simpa using this
    exact ⟨I.ll, I.pl, fun r hr j hj => by
      rcases Nat.lt_or_ge j p with c | c
      · exact I.lz r hr j c
      · have : j = p := by omega
        rw [this]; exact z r hr, fun q hq => by have := I.lt q hq; omega, I.pos, I.pz, I.ap, I.nd, I.orth, I.keep⟩
  | some lead =>
    have lm := List.mem_of_find?_eq_some hf
    have lp : lead.getD p 0 ≠ 0 := by simpa using List.find?_some hf
    have lz := I.lz lead lm
    have ll := I.ll lead lm
    simp only
    have cl : ∀ r : List Int, r.length = n → (clr r lead p).length = n := fun r hr => by unfold clr; rw [prim_len, clrV_len (by omega), hr]
    have cz : ∀ r : List Int, r.length = n → (clr r lead p).getD p 0 = 0 := fun r hr => by
      unfold clr
      rw [prim_zero, clrV_at (by omega)]
      rw [Int.mul_comm (r.getD p 0)]
      omega
    have cb : ∀ r : List Int, r.length = n → ∀ j, j < p → (clrV r lead p).getD j 0 = r.getD j 0 * lead.getD p 0 := fun r hr j hj => by
      rw [clrV_at (by omega), lz j hj]
      omega
    have cb0 : ∀ r : List Int, r.length = n → ∀ j, j < p → r.getD j 0 = 0 → (clr r lead p).getD j 0 = 0 := fun r hr j hj z => by
      unfold clr
      rw [prim_zero, cb r hr j hj, z, Int.zero_mul]
    refine ⟨fun r hr => ?_, fun q hq => ?_, fun r hr j hj => ?_, fun q hq => ?_, fun q hq => ?_, fun q hq j hj => ?_, fun q hq q' hq' ne => ?_, ?_, fun x h1 h2 => ?_, fun x h => ?_⟩
    · obtain ⟨r', hr', rfl⟩ := List.mem_map.mp hr
      exact cl r' (I.ll r' (List.mem_filter.mp hr').1)
    · rcases List.mem_append.mp hq with h | h
      · obtain ⟨q', hq', rfl⟩ := List.mem_map.mp h
        exact cl q'.1 (I.pl q' hq')
      · rw [List.mem_singleton.mp h]
        show (prim lead).length = n
        rw [prim_len, ll]
    · obtain ⟨r', hr', rfl⟩ := List.mem_map.mp hr
      have hm := (List.mem_filter.mp hr').1
      rcases Nat.lt_or_ge j p with c | c
      · exact cb0 r' (I.ll r' hm) j c (I.lz r' hm j c)
      · have : j = p := by omega
        rw [this]; exact cz r' (I.ll r' hm)
    · rcases List.mem_append.mp hq with h | h
      · obtain ⟨q', hq', rfl⟩ := List.mem_map.mp h
        have := I.lt q' hq'
        show q'.2 < p + 1
        omega
      · rw [List.mem_singleton.mp h]
        show p < p + 1
        omega
    · rcases List.mem_append.mp hq with h | h
      · obtain ⟨q', hq', rfl⟩ := List.mem_map.mp h
        have h1 := I.lt q' hq'
        have h2 := I.pl q' hq'
        have h3 := I.pos q' hq'
        show 0 < (clr q'.1 lead p).getD q'.2 0
        unfold clr
        refine prim_pos (fun j hj => ?_) ?_
        · rw [cb q'.1 h2 j (by omega), I.pz q' hq' j hj, Int.zero_mul]
        · rw [cb q'.1 h2 q'.2 h1]
          exact Int.mul_ne_zero (by omega) lp
      · rw [List.mem_singleton.mp h]
        exact prim_pos lz lp
    · rcases List.mem_append.mp hq with h | h
      · obtain ⟨q', hq', rfl⟩ := List.mem_map.mp h
        have h1 := I.lt q' hq'
        have hj : j < q'.2 := hj
        exact cb0 q'.1 (I.pl q' hq') j (by omega) (I.pz q' hq' j hj)
      · rw [List.mem_singleton.mp h] at hj ⊢
        exact prim_zero.mpr (lz j hj)
    · rcases List.mem_append.mp hq with h | h
      · obtain ⟨r, hr, rfl⟩ := List.mem_map.mp h
        rcases List.mem_append.mp hq' with h' | h'
        · obtain ⟨r', hr', rfl⟩ := List.mem_map.mp h'
          exact cb0 r.1 (I.pl r hr) r'.2 (I.lt r' hr') (I.ap r hr r' hr' ne)
        · rw [List.mem_singleton.mp h']
          exact cz r.1 (I.pl r hr)
      · rw [List.mem_singleton.mp h] at ne ⊢
        rcases List.mem_append.mp hq' with h' | h'
        · obtain ⟨r', hr', rfl⟩ := List.mem_map.mp h'
          exact prim_zero.mpr (lz r'.2 (I.lt r' hr'))
        · rw [List.mem_singleton.mp h'] at ne
          exact absurd rfl ne
    · rw [List.map_append, List.map_map]
      have e : ((·.2) ∘ fun q : List Int × Nat => (clr q.1 lead p, q.2)) = fun q : List Int × Nat => q.2 := rfl
      rw [e]
      refine List.nodup_append.mpr ⟨I.nd, by simp, fun a ha b hb => ?_⟩
      obtain ⟨q, hq, rfl⟩ := List.mem_map.mp ha
      have := I.lt q hq
      simp at hb
      omega
    · have dl : dot lead x = 0 := prim_dot.mp (h2 (prim lead, p) (List.mem_append_right _ (List.mem_singleton.mpr rfl)))
      have back : ∀ r : List Int, r.length = n → dot (clr r lead p) x = 0 → dot r x = 0 := fun r hr h => by
        have := prim_dot.mp h
        rw [clrV_dot (by omega), dl, Int.mul_zero, Int.sub_zero] at this
        exact mul_zero' this lp
      refine I.orth x (fun r hr => ?_) fun q hq => back q.1 (I.pl q hq) (h2 (clr q.1 lead p, q.2) (List.mem_append_left _ (List.mem_map.mpr ⟨q, hq, rfl⟩)))
      by_cases c : r = lead
      · rw [c]; exact dl
      · exact back r (I.ll r hr) (h1 _ (List.mem_map.mpr ⟨r, List.mem_filter.mpr ⟨hr, by simp [c]⟩, rfl⟩))
    · obtain ⟨k1, k2⟩ := I.keep x h
      have dl := k1 lead lm
      have go : ∀ r : List Int, r.length = n → dot r x = 0 → dot (clr r lead p) x = 0 := fun r hr hz => by
        refine prim_dot.mpr ?_
        rw [clrV_dot (by omega), dl, hz]
        omega
      refine ⟨fun r hr => ?_, fun q hq => ?_⟩
      · obtain ⟨r', hr', rfl⟩ := List.mem_map.mp hr
        have hm := (List.mem_filter.mp hr').1
        exact go r' (I.ll r' hm) (k1 r' hm)
      · rcases List.mem_append.mp hq with h | h
        · obtain ⟨q', hq', rfl⟩ := List.mem_map.mp h
          exact go q'.1 (I.pl q' hq') (k2 q' hq')
        · rw [List.mem_singleton.mp h]
          exact prim_dot.mpr dl
theorem redF_inv {rows : List (List Int)} {n : Nat} (h : ∀ r ∈ rows, r.length = n) : ∀ p, Inv rows n ((List.range p).foldl redS ⟨rows, []⟩) p
  | 0 => inv0 h
  | p + 1 => by
    rw [List.range_succ, List.foldl_append]
    exact redS_inv (redF_inv h p)
theorem redQ_inv {rows : List (List Int)} {n : Nat} (h : ∀ r ∈ rows, r.length = n) : Inv rows n (redQ rows n) n := redF_inv h n
/-! ### weights -/
def wholeQ (piv : List (List Int × Nat)) : Nat := piv.foldl (fun w q => w.lcm (q.1.getD q.2 0).toNat) 1
theorem wholeF (piv : List (List Int × Nat)) (pos : ∀ q ∈ piv, 0 < q.1.getD q.2 0) : ∀ w : Nat, 0 < w → 0 < piv.foldl (fun w q => w.lcm (q.1.getD q.2 0).toNat) w ∧ w ∣ piv.foldl (fun w q => w.lcm (q.1.getD q.2 0).toNat) w ∧ ∀ q ∈ piv, (q.1.getD q.2 0).toNat ∣ piv.foldl (fun w q => w.lcm (q.1.getD q.2 0).toNat) w := by
  induction piv with
  | nil => intro w h; exact ⟨h, Nat.dvd_refl _, by simp⟩
  | cons q piv ih =>
    intro w h
    have hq := pos q (by simp)
    obtain ⟨h1, h2, h3⟩ := ih (fun q hq => pos q (by simp [hq])) (w.lcm (q.1.getD q.2 0).toNat) (Nat.lcm_pos h (by omega))
    refine ⟨h1, Nat.dvd_trans (Nat.dvd_lcm_left _ _) h2, fun q' hq' => ?_⟩
    rcases List.mem_cons.mp hq' with rfl | hq'
    · exact Nat.dvd_trans (Nat.dvd_lcm_right _ _) h2
    · exact h3 q' hq'
def wtS (free : Nat) (whole : Int) (w : List Int) (q : List Int × Nat) : List Int := w.set q.2 (0 - whole * q.1.getD free 0 / q.1.getD q.2 0)
def wts (piv : List (List Int × Nat)) (n free : Nat) : List Int := piv.foldl (wtS free (wholeQ piv)) ((List.replicate n 0).set free (wholeQ piv : Int))
theorem wtF_len (free : Nat) (whole : Int) : ∀ (piv : List (List Int × Nat)) (w : List Int), (piv.foldl (wtS free whole) w).length = w.length
  | [], w => rfl
  | q :: piv, w => by rw [List.foldl_cons, wtF_len free whole piv]; unfold wtS; simp
theorem wtF_at (free : Nat) (whole : Int) : ∀ (piv : List (List Int × Nat)) (w : List Int) (j : Nat), (∀ q ∈ piv, q.2 ≠ j) → (piv.foldl (wtS free whole) w).getD j 0 = w.getD j 0
  | [], w, j, _ => rfl
  | q :: piv, w, j, h => by
    rw [List.foldl_cons, wtF_at free whole piv _ j fun q hq => h q (by simp [hq])]
    unfold wtS
    have := h q (by simp)
    rw [List.getD_eq_getElem?_getD, List.getElem?_set, if_neg this, List.getD_eq_getElem?_getD]
theorem wtF_dot (free : Nat) (whole : Int) (r : List Int) : ∀ (piv : List (List Int × Nat)) (w : List Int), (∀ q ∈ piv, q.2 < w.length) → (∀ q ∈ piv, r.getD q.2 0 = 0) → dot r (piv.foldl (wtS free whole) w) = dot r w
  | [], w, _, _ => rfl
  | q :: piv, w, hl, h => by
    rw [List.foldl_cons, wtF_dot free whole r piv _ (fun q' hq' => by unfold wtS; rw [List.length_set]; exact hl q' (by simp [hq'])) fun q hq => h q (by simp [hq])]
    unfold wtS
    rw [dot_set r _ w q.2 (hl q (by simp)), h q (by simp), Int.zero_mul, Int.add_zero]
theorem rep_at (n j : Nat) : (List.replicate n (0 : Int)).getD j 0 = 0 := by
  rw [List.getD_eq_getElem?_getD, List.getElem?_replicate]
  split <;> rfl
theorem dot_rep (r : List Int) (n : Nat) : dot r (List.replicate n 0) = 0 := by
  rw [dot_comm]
  exact dot_zero _ _ fun a ha => List.eq_of_mem_replicate ha
theorem wts_piv {rows : List (List Int)} {n : Nat} {s : Rs} {p : Nat} (I : Inv rows n s p) (hp : p ≤ n) {free : Nat} (hf : free < n) (nf : ∀ q ∈ s.piv, q.2 ≠ free) : ∀ q ∈ s.piv, dot q.1 (wts s.piv n free) = 0 := by
  intro q hq
  obtain ⟨a, b, e⟩ := List.append_of_mem hq
  obtain ⟨w0, w1, w2⟩ := wholeF s.piv I.pos 1 (by omega)
  have dv := w2 q hq
  obtain ⟨W, hW⟩ : ∃ W : Int, W = (wholeQ s.piv : Int) := ⟨_, rfl⟩
  have ps := I.pos q hq
  have dvI : q.1.getD q.2 0 ∣ W := by
    rw [hW]
    have : ((q.1.getD q.2 0).toNat : Int) = q.1.getD q.2 0 := by omega
    rw [← this]
    exact Int.ofNat_dvd.mpr dv
  have lt := I.lt
  have nd := I.nd
  have ap := I.ap
  unfold wts
  rw [← hW]
  conv => lhs; rw [e]
  rw [List.foldl_append, List.foldl_cons]
  rw [e] at lt nd nf ap
  rw [List.map_append, List.map_cons] at nd
  obtain ⟨n1, n2, n3⟩ := List.nodup_append.mp nd
  obtain ⟨n4, n5⟩ := List.nodup_cons.mp n2
  obtain ⟨w, hw⟩ : ∃ w, w = a.foldl (wtS free W) ((List.replicate n 0).set free W) := ⟨_, rfl⟩
  have wl : w.length = n := by rw [hw, wtF_len]; simp
  have mq : q ∈ a ++ q :: b := by simp
  have ltn : ∀ q' ∈ a ++ q :: b, q'.2 < n := fun q' hq' => by have := lt q' hq'; omega
  have z0 : ∀ q' ∈ a, q.1.getD q'.2 0 = 0 := fun q' hq' => ap q mq q' (by simp [hq']) fun z => n3 q'.2 (List.mem_map.mpr ⟨q', hq', rfl⟩) q.2 (by simp) z.symm
  have z1 : ∀ q' ∈ b, q.1.getD q'.2 0 = 0 := fun q' hq' => ap q mq q' (by simp [hq']) fun z => n4 (List.mem_map.mpr ⟨q', hq', z.symm⟩)
  rw [← hw, wtF_dot free W q.1 b _ (fun q' hq' => by unfold wtS; rw [List.length_set, wl]; exact ltn q' (by simp [hq'])) z1]
  unfold wtS
  rw [dot_set q.1 _ w q.2 (by rw [wl]; exact ltn q mq)]
  have wq : w.getD q.2 0 = 0 := by
    rw [hw, wtF_at free W a _ q.2 fun q' hq' z => n3 q'.2 (List.mem_map.mpr ⟨q', hq', rfl⟩) q.2 (by simp) z]
    rw [List.getD_eq_getElem?_getD, List.getElem?_set, if_neg (fun z => nf q mq z.symm), ← List.getD_eq_getElem?_getD, rep_at]
  have dw : dot q.1 w = q.1.getD free 0 * W := by
    rw [hw, wtF_dot free W q.1 a _ (fun q' hq' => by rw [List.length_set, List.length_replicate]; exact ltn q' (by simp [hq'])) z0]
    rw [dot_set q.1 W _ free (by simpa using hf), dot_rep, rep_at, Int.sub_zero, Int.zero_add]
  rw [wq, dw]
  obtain ⟨c, hc⟩ := Int.dvd_trans dvI (Int.dvd_mul_right W (q.1.getD free 0))
  rw [hc, Int.mul_ediv_cancel_left c (by omega)]
  have e2 : q.1.getD free 0 * W = q.1.getD q.2 0 * c := by rw [Int.mul_comm, hc]
  rw [e2, Int.sub_zero, Int.zero_sub, Int.mul_neg]
  omega
def keptQ (rows : List (List Int)) (n : Nat) : List (List Int) := ((List.range n).filter fun f => !((redQ rows n).piv.map (·.2)).contains f).map fun f => prim (wts (redQ rows n).piv n f)
theorem kept_orth {rows : List (List Int)} {n : Nat} (h : ∀ r ∈ rows, r.length = n) : ∀ w ∈ keptQ rows n, w.length = n ∧ ∀ r ∈ rows, dot w r = 0 := by
  intro w hw
  obtain ⟨f, hf, rfl⟩ := List.mem_map.mp hw
  obtain ⟨f1, f2⟩ := List.mem_filter.mp hf
  have fn := List.mem_range.mp f1
  have I := redQ_inv h
  have nf : ∀ q ∈ (redQ rows n).piv, q.2 ≠ f := fun q hq z => by
    have : f ∈ (redQ rows n).piv.map (·.2) := List.mem_map.mpr ⟨q, hq, z⟩
    simp at f2
    obtain ⟨a, b⟩ := q
    exact f2 a (by rw [← z]; exact hq)
  have wl : (wts (redQ rows n).piv n f).length = n := by unfold wts; rw [wtF_len]; simp
  refine ⟨by rw [prim_len, wl], fun r hr => ?_⟩
  refine prim_dot.mpr ?_
  rw [dot_comm]
  refine I.orth _ (fun r hr => ?_) (wts_piv I (Nat.le_refl n) fn nf) r hr
  refine dot_zero _ _ fun a ha => ?_
  obtain ⟨j, hj, e⟩ : ∃ j, j < r.length ∧ a = r.getD j 0 := by
    obtain ⟨j, hj, e⟩ := List.getElem_of_mem ha
    exact ⟨j, hj, by rw [List.getD_eq_getElem?_getD, List.getElem?_eq_getElem hj, e]; rfl⟩
  rw [e]
  exact I.lz r hr j (by have := I.ll r hr; omega)
/-- where a vessel is a sum of lesser ones, some weights are told -/
theorem kept_some {rows : List (List Int)} {n f : Nat} (h : ∀ r ∈ rows, r.length = n) (hf : f < n) {x : List Int} (hx : ∀ r ∈ rows, dot r x = 0) (x1 : x.getD f 0 ≠ 0) (xz : ∀ j, f < j → x.getD j 0 = 0) (xl : x.length = n) : keptQ rows n ≠ [] := by
  have I := redQ_inv h
  have nf : ∀ q ∈ (redQ rows n).piv, q.2 ≠ f := by
    intro q hq z
    have dq := (I.keep x hx).2 q hq
    have pz := I.pz q hq
    have ps := I.pos q hq
    rw [z] at pz ps
    -- only the entry at f is left
    have one : ∀ (r x : List Int) (f : Nat), (∀ j, j < f → r.getD j 0 = 0) → (∀ j, f < j → x.getD j 0 = 0) → dot r x = r.getD f 0 * x.getD f 0 := by
      intro r
      induction r with
      | nil => intro x f _ _; cases x <;> simp [dot]
      | cons a r ih =>
        intro x f h1 h2
        cases x with
        | nil => simp [dot]
        | cons y x =>
          cases f with
          | zero =>
            have : dot r x = 0 := by
              rw [dot_comm]
              refine dot_zero _ _ fun b hb => ?_
              obtain ⟨j, hj, e⟩ := List.getElem_of_mem hb
              have := h2 (j + 1) (by omega)
              rw [List.getD_cons_succ, List.getD_eq_getElem?_getD, List.getElem?_eq_getElem hj, e] at this
              exact this
            simp only [dot, this, List.getD_cons_zero, Int.add_zero]
          | succ f =>
            have a0 : a = 0 := h1 0 (by omega)
            have := ih x f (fun j hj => h1 (j + 1) (by omega)) (fun j hj => h2 (j + 1) (by omega))
            simp only [dot, this, a0, List.getD_cons_succ, Int.zero_mul, Int.zero_add]
    rw [one q.1 x f pz xz] at dq
    rcases Int.mul_eq_zero.mp dq with c | c
    · omega
    · exact x1 c
  intro e
  unfold keptQ at e
  have e := List.map_eq_nil_iff.mp e
  have := List.filter_eq_nil_iff.mp e f (List.mem_range.mpr hf)
  simp at this
  obtain ⟨a, ha⟩ := this
  exact nf _ ha rfl
end PF

end

section
/-! P53: sums that never change, by another elimination: pure. -/
namespace PF
open PySem PySem.Spec PyProof.Rows L2
theorem dot_only : ∀ (a b : List Int) (k : Nat), (∀ j, j ≠ k → a.getD j 0 = 0 ∨ b.getD j 0 = 0) → dot a b = a.getD k 0 * b.getD k 0
  | [], b, k, _ => by simp [dot]
  | x :: a, [], k, _ => by simp [dot]
  | x :: a, y :: b, 0, h => by
    have : ∀ (a b : List Int), (∀ j, a.getD j 0 = 0 ∨ b.getD j 0 = 0) → dot a b = 0 := by
      intro a
      induction a with
      | nil => intro b _; cases b <;> rfl
      | cons x a ih =>
        intro b h
        cases b with
        | nil => rfl
        | cons y b =>
          have h0 := h 0
          simp only [List.getD_cons_zero] at h0
          have := ih b fun j => by
            have := h (j + 1)
            simpa only [List.getD_cons_succ] using this
          simp only [dot, this, Int.add_zero]
          exact Int.mul_eq_zero.mpr h0
    have := this a b fun j => by
      have := h (j + 1) (by omega)
      simpa only [List.getD_cons_succ] using this
    simp only [dot, this, List.getD_cons_zero, Int.add_zero]
  | x :: a, y :: b, k + 1, h => by
    have ih := dot_only a b k fun j hj => by
      have := h (j + 1) (by omega)
      simpa only [List.getD_cons_succ] using this
    have h0 := h 0 (by omega)
    simp only [List.getD_cons_zero] at h0
    have z : x * y = 0 := Int.mul_eq_zero.mpr h0
    simp only [dot, ih, List.getD_cons_succ, z, Int.zero_add]
theorem dot_none (a b : List Int) (h : ∀ j, a.getD j 0 = 0 ∨ b.getD j 0 = 0) : dot a b = 0 := by
  rw [dot_only a b 0 fun j _ => h j]
  exact Int.mul_eq_zero.mpr (h 0)
/-- values put at places -/
def spread (n : Nat) (ps : List Nat) (us : List Int) : List Int := (ps.zip us).foldl (fun x q => x.set q.1 q.2) (List.replicate n 0)
theorem spread_gen (r : List Int) : ∀ (ps : List Nat) (us x : List Int), ps.Nodup → (∀ p ∈ ps, p < x.length) → (∀ p ∈ ps, x.getD p 0 = 0) → ps.length = us.length →
    dot r ((ps.zip us).foldl (fun x q => x.set q.1 q.2) x) = dot r x + dot (ps.map fun p => r.getD p 0) us ∧ ((ps.zip us).foldl (fun x q => x.set q.1 q.2) x).length = x.length ∧
    (∀ j, j ∉ ps → ((ps.zip us).foldl (fun x q => x.set q.1 q.2) x).getD j 0 = x.getD j 0) ∧ ∀ k, k < ps.length → ((ps.zip us).foldl (fun x q => x.set q.1 q.2) x).getD (ps.getD k 0) 0 = us.getD k 0
  | [], [], x, _, _, _, _ => by simp [dot]
  | p :: ps, u :: us, x, nd, lt, z, hl => by
    have nd' := (List.nodup_cons.mp nd)
    have px := lt p (by simp)
    have hset : ∀ j, (x.set p u).getD j 0 = if j = p then u else x.getD j 0 := fun j => by
      rw [List.getD_eq_getElem?_getD, List.getElem?_set, List.getD_eq_getElem?_getD]
      by_cases c : p = j
      · subst c; simp [px]
      · rw [if_neg c, if_neg (fun z => c z.symm)]
    obtain ⟨i1, i2, i3, i4⟩ := spread_gen r ps us (x.set p u) nd'.2 (fun q hq => by rw [List.length_set]; exact lt q (by simp [hq])) (fun q hq => by
      rw [hset, if_neg (fun (e : q = p) => nd'.1 (by rw [← e]; exact hq))]
      exact z q (by simp [hq])) (by simpa using hl)
    simp only [List.zip_cons_cons, List.foldl_cons]
    refine ⟨?_, by rw [i2, List.length_set], fun j hj => ?_, fun k hk => ?_⟩
    · rw [i1, dot_set r u x p px, z p (by simp)]
      simp only [List.map_cons, dot, Int.sub_zero]
      omega
    · simp only [List.mem_cons, not_or] at hj
      rw [i3 j hj.2, hset, if_neg hj.1]
    · cases k with
      | zero =>
        rw [List.getD_cons_zero, List.getD_cons_zero, i3 p nd'.1, hset, if_pos rfl]
      | succ k =>
        rw [List.getD_cons_succ, List.getD_cons_succ]
        exact i4 k (by simpa using hk)
  | [], _ :: _, _, _, _, _, h => by cases h
  | _ :: _, [], _, _, _, _, h => by cases h
theorem spread_spec {n : Nat} {ps : List Nat} {us : List Int} (nd : ps.Nodup) (lt : ∀ p ∈ ps, p < n) (hl : ps.length = us.length) : (∀ r, dot r (spread n ps us) = dot (ps.map fun p => r.getD p 0) us) ∧ (spread n ps us).length = n ∧ (∀ j, j ∉ ps → (spread n ps us).getD j 0 = 0) ∧ ∀ k, k < ps.length → (spread n ps us).getD (ps.getD k 0) 0 = us.getD k 0 := by
  have S := fun r => spread_gen r ps us (List.replicate n 0) nd (by simpa using lt) (fun p _ => rep_at n p) hl
  refine ⟨fun r => ?_, ?_, fun j hj => ?_, fun k hk => ?_⟩
  · unfold spread
    rw [(S r).1, dot_rep]
    omega
  · unfold spread
    rw [(S []).2.1]
    simp
  · unfold spread
    rw [(S []).2.2.1 j hj, rep_at]
  · unfold spread
    exact (S []).2.2.2 k hk
theorem ext_getD {a b : List Int} (hl : a.length = b.length) (h : ∀ j, j < a.length → a.getD j 0 = b.getD j 0) : a = b := by
  apply List.ext_getElem hl
  intro i h1 h2
  have := h i h1
  rw [List.getD_eq_getElem?_getD, List.getElem?_eq_getElem h1, List.getD_eq_getElem?_getD, List.getElem?_eq_getElem h2] at this
  simpa using this
theorem getD_mem_ix {ps : List Nat} {j : Nat} (h : j ∈ ps) : ∃ k, k < ps.length ∧ ps.getD k 0 = j := by
  obtain ⟨k, hk, e⟩ := List.getElem_of_mem h
  exact ⟨k, hk, by rw [List.getD_eq_getElem?_getD, List.getElem?_eq_getElem hk, e]; rfl⟩
theorem getD_map0 {α : Type} (f : α → Int) (d : α) (ps : List α) {k : Nat} (h : k < ps.length) : (ps.map f).getD k 0 = f (ps.getD k d) := by
  rw [List.getD_eq_getElem?_getD, List.getElem?_map, List.getD_eq_getElem?_getD, List.getElem?_eq_getElem h]
  rfl
/-- what lies at its places alone -/
theorem spread_back {n : Nat} {ps : List Nat} {x : List Int} (nd : ps.Nodup) (lt : ∀ p ∈ ps, p < n) (xl : x.length = n) (z : ∀ j, j ∉ ps → x.getD j 0 = 0) : spread n ps (ps.map fun p => x.getD p 0) = x := by
  obtain ⟨_, s2, s3, s4⟩ := spread_spec (n := n) (us := ps.map fun p => x.getD p 0) nd lt (by simp)
  refine ext_getD (by omega) fun j hj => ?_
  by_cases c : j ∈ ps
  · obtain ⟨k, hk, e⟩ := getD_mem_ix c
    rw [← e, s4 k hk, getD_map0 _ 0 ps hk]
  · rw [s3 j c, z j c]
/-! ### rows cleared by a leading row -/
abbrev ent (t : List (List Int)) (k j : Nat) : Int := (t.getD k []).getD j 0
structure TInv (t t0 : List (List Int)) (m i b : Nat) : Prop where
  len : t.length = t0.length
  wid : ∀ r ∈ t, r.length = m + 1
  dg : ∀ k, k < i → ent t k k ≠ 0
  of : ∀ k, ∀ j, j < i → j ≠ k → ent t k j = 0
  ker : ∀ u, (∀ r ∈ t, dot r u = 0) ↔ (∀ r ∈ t0, dot r u = 0)
  bd : ∀ r ∈ t, ∀ x ∈ r, x.natAbs < 2 ^ b
theorem common_mul (f : Nat → Int) : ∀ (i : Nat), (∀ k, k < i → f k ≠ 0) → ∃ D : Int, D ≠ 0 ∧ ∀ k, k < i → f k ∣ D
  | 0, _ => ⟨1, by omega, fun k hk => by omega⟩
  | i + 1, h => by
    obtain ⟨D, d0, dv⟩ := common_mul f i fun k hk => h k (by omega)
    refine ⟨D * f i, Int.mul_ne_zero d0 (h i (by omega)), fun k hk => ?_⟩
    rcases Nat.lt_or_ge k i with c | c
    · exact Int.dvd_mul_of_dvd_left (dv k c)
    · have : k = i := by omega
      subst this
      exact Int.dvd_mul_left _ _
theorem ent_mem {t : List (List Int)} {k : Nat} (h : k < t.length) : t.getD k [] ∈ t := by
  rw [List.getD_eq_getElem?_getD, List.getElem?_eq_getElem h]
  exact List.getElem_mem h
theorem mem_ent {t : List (List Int)} {r : List Int} (h : r ∈ t) : ∃ k, k < t.length ∧ t.getD k [] = r := by
  obtain ⟨k, hk, e⟩ := List.getElem_of_mem h
  exact ⟨k, hk, by rw [List.getD_eq_getElem?_getD, List.getElem?_eq_getElem hk, e]; rfl⟩
/-- where a column has nothing below, the rows vanish at something that stands there -/
theorem TInv.solve {t t0 : List (List Int)} {m i b c : Nat} (T : TInv t t0 m i b) (hc : c ≤ m) (ic : i ≤ c) (z : ∀ k, i ≤ k → ent t k c = 0) : ∃ u : List Int, u.length = m + 1 ∧ u.getD c 0 ≠ 0 ∧ (∀ j, i ≤ j → j ≠ c → u.getD j 0 = 0) ∧ ∀ r ∈ t0, dot r u = 0 := by
  obtain ⟨D, d0, dv⟩ := common_mul (fun k => ent t k k) i T.dg
  obtain ⟨ps, hps⟩ : ∃ ps, ps = List.range i ++ [c] := ⟨_, rfl⟩
  obtain ⟨us, hus⟩ : ∃ us, us = (List.range i).map (fun k => -(ent t k c * (D / ent t k k))) ++ [D] := ⟨_, rfl⟩
  have nd : ps.Nodup := by
    rw [hps]
    refine List.nodup_append.mpr ⟨List.nodup_range, by simp, fun a ha b hb => ?_⟩
    have := List.mem_range.mp ha
    simp at hb
    omega
  have lt : ∀ p ∈ ps, p < m + 1 := fun p hp => by
    rw [hps] at hp
    rcases List.mem_append.mp hp with h | h
    · have := List.mem_range.mp h; omega
    · simp at h; omega
  have hl : ps.length = us.length := by rw [hps, hus]; simp
  obtain ⟨s1, s2, s3, s4⟩ := spread_spec (n := m + 1) nd lt hl
  have pl : ps.length = i + 1 := by rw [hps]; simp
  have pc : ps.getD i 0 = c := by
    rw [hps, List.getD_eq_getElem?_getD, List.getElem?_append_right (by simp)]
    simp
  have uc : us.getD i 0 = D := by
    rw [hus, List.getD_eq_getElem?_getD, List.getElem?_append_right (by simp)]
    simp
  have pk : ∀ k, k < i → ps.getD k 0 = k := fun k hk => by
    rw [hps, List.getD_eq_getElem?_getD, List.getElem?_append_left (by simpa using hk)]
    simp [hk]
  have uk : ∀ k, k < i → us.getD k 0 = -(ent t k c * (D / ent t k k)) := fun k hk => by
    rw [hus, List.getD_eq_getElem?_getD, List.getElem?_append_left (by simpa using hk)]
    simp [hk]
  obtain ⟨u, hu⟩ : ∃ u, u = spread (m + 1) ps us := ⟨_, rfl⟩
  rw [← hu] at s1 s2 s3 s4
  have v1 : u.getD c 0 = D := by
    have := s4 i (by omega)
    rw [pc, uc] at this
    exact this
  have v2 : ∀ k, k < i → u.getD k 0 = -(ent t k c * (D / ent t k k)) := fun k hk => by
    have := s4 k (by omega)
    rw [pk k hk, uk k hk] at this
    exact this
  refine ⟨u, s2, by rw [v1]; exact d0, fun j hj jc => s3 j ?_, (T.ker u).mp fun r hr => ?_⟩
  · rw [hps]
    intro h
    rcases List.mem_append.mp h with h | h
    · have := List.mem_range.mp h; omega
    · simp at h; omega
  · obtain ⟨k, hk, e⟩ := mem_ent hr
    rcases Nat.lt_or_ge k i with ci | ci
    · -- a row that leads: two places count
      have dk := dv k ci
      have e1 := dot_set r 0 u c (by omega)
      have e2 : dot r (u.set c 0) = r.getD k 0 * (u.set c 0).getD k 0 := dot_only _ _ k fun j hj => by
        rcases Nat.lt_or_ge j i with c1 | c1
        · left
          have := T.of k j c1 hj
          unfold ent at this
          rw [e] at this
          exact this
        · right
          rw [List.getD_eq_getElem?_getD, List.getElem?_set]
          split
          · split <;> rfl
          · rename_i ne
            rw [← List.getD_eq_getElem?_getD]
            refine s3 j ?_
            rw [hps]
            intro h
            rcases List.mem_append.mp h with h | h
            · have := List.mem_range.mp h; omega
            · simp at h; omega
      have e3 : (u.set c 0).getD k 0 = u.getD k 0 := by
        rw [List.getD_eq_getElem?_getD, List.getElem?_set, if_neg (by omega), ← List.getD_eq_getElem?_getD]
      rw [e2, e3, v2 k ci, v1] at e1
      have rk : r.getD k 0 = ent t k k := by rw [← e]
      have rc : r.getD c 0 = ent t k c := by rw [← e]
      rw [rk, rc] at e1
      obtain ⟨q, hq⟩ := dk
      have dq : D / ent t k k = q := by
        rw [hq]
        exact Int.mul_ediv_cancel_left q (T.dg k ci)
      rw [dq] at e1
      have : ent t k k * -(ent t k c * q) = -(ent t k c * D) := by rw [hq]; grind
      rw [this] at e1
      have : ent t k c * (0 - D) = -(ent t k c * D) := by grind
      rw [this] at e1
      omega
    · refine dot_none r u fun j => ?_
      rcases Nat.lt_or_ge j i with c1 | c1
      · left
        have := T.of k j c1 (by omega)
        unfold ent at this
        rw [e] at this
        exact this
      · by_cases jc : j = c
        · left
          have := z k ci
          unfold ent at this
          rw [e] at this
          rw [jc]
          exact this
        · right
          refine s3 j ?_
          rw [hps]
          intro h
          rcases List.mem_append.mp h with h | h
          · have := List.mem_range.mp h; omega
          · simp at h; omega
theorem set_row (t : List (List Int)) (i : Nat) (r : List Int) (k : Nat) (hi : i < t.length) : (t.set i r).getD k [] = if k = i then r else t.getD k [] := by
  rw [List.getD_eq_getElem?_getD, List.getElem?_set, List.getD_eq_getElem?_getD]
  by_cases c : i = k
  · subst c; simp [hi]
  · rw [if_neg c, if_neg (fun z => c z.symm)]
theorem TInv.swap {t t0 : List (List Int)} {m i b s : Nat} (T : TInv t t0 m i b) (im : i ≤ m) (is : i ≤ s) (hs : s < t.length) (ns : ent t s i ≠ 0) : TInv ((t.set i (t.getD s [])).set s (t.getD i [])) t0 m i b ∧ ent ((t.set i (t.getD s [])).set s (t.getD i [])) i i ≠ 0 := by
  obtain ⟨t', ht⟩ : ∃ t', t' = (t.set i (t.getD s [])).set s (t.getD i []) := ⟨_, rfl⟩
  rw [← ht]
  have ll : t'.length = t.length := by rw [ht]; simp
  have row : ∀ k, t'.getD k [] = if k = s then t.getD i [] else if k = i then t.getD s [] else t.getD k [] := fun k => by
    rw [ht, set_row _ s _ k (by simpa using hs), set_row _ i _ k (by omega)]
  have mem : ∀ r, r ∈ t' ↔ r ∈ t := fun r => by
    constructor
    · intro h
      obtain ⟨k, hk, e⟩ := mem_ent h
      rw [row] at e
      rw [← e]
      split
      · exact ent_mem (by omega)
      · split
        · exact ent_mem hs
        · exact ent_mem (by omega)
    · intro h
      obtain ⟨k, hk, e⟩ := mem_ent h
      by_cases c1 : k = i
      · have := row s
        rw [if_pos rfl, ← c1, e] at this
        rw [← this]
        exact ent_mem (by omega)
      · by_cases c2 : k = s
        · have := row i
          by_cases c3 : i = s
          · exact absurd (c2.trans c3.symm) c1
          · rw [if_neg c3, if_pos rfl, ← c2, e] at this
            rw [← this]
            exact ent_mem (by omega)
        · have := row k
          rw [if_neg c2, if_neg c1, e] at this
          rw [← this]
          exact ent_mem (by omega)
  refine ⟨⟨by rw [ll]; exact T.len, fun r h => T.wid r ((mem r).mp h), fun k hk => ?_, fun k j hj ne => ?_, fun u => ?_, fun r h => T.bd r ((mem r).mp h)⟩, ?_⟩
  · unfold ent
    rw [row, if_neg (by omega), if_neg (by omega)]
    exact T.dg k hk
  · unfold ent
    rw [row]
    split
    · exact T.of i j hj (by omega)
    · split
      · exact T.of s j hj (by omega)
      · exact T.of k j hj ne
  · rw [← T.ker u]
    exact ⟨fun h r hr => h r ((mem r).mpr hr), fun h r hr => h r ((mem r).mp hr)⟩
  · unfold ent
    rw [row]
    split
    · rename_i e
      rw [← e] at ns
      exact ns
    · rw [if_pos rfl]
      exact ns
theorem TInv.elim {t t' t0 : List (List Int)} {m i b : Nat} (T : TInv t t0 m i b) (im : i < m) (hi : i < t.length) (ni : ent t i i ≠ 0) (ll : t'.length = t.length) (row : ∀ k, k < t.length → t'.getD k [] = if k ≠ i ∧ ent t k i ≠ 0 then clrV (t.getD k []) (t.getD i []) i else t.getD k []) : TInv t' t0 m (i + 1) (2 * b + 1) := by
  have wd : ∀ k, k < t.length → (t.getD k []).length = m + 1 := fun k hk => T.wid _ (ent_mem hk)
  have li : ∀ k, k < t.length → (t.getD k []).length = (t.getD i []).length := fun k hk => by rw [wd k hk, wd i hi]
  have kl : ∀ k j, ent t k j ≠ 0 → k < t.length := fun k j h => by
    rcases Nat.lt_or_ge k t.length with c | c
    · exact c
    · exfalso
      apply h
      unfold ent
      rw [List.getD_eq_getElem?_getD (l := t), List.getElem?_eq_none c]
      simp
  have out : ∀ k j, t.length ≤ k → ent t' k j = 0 := fun k j h => by
    unfold ent
    rw [List.getD_eq_getElem?_getD (l := t'), List.getElem?_eq_none (by omega)]
    simp
  have en : ∀ k, k < t.length → ∀ j, ent t' k j = if k ≠ i ∧ ent t k i ≠ 0 then ent t k j * ent t i i - ent t i j * ent t k i else ent t k j := fun k hk j => by
    show (t'.getD k []).getD j 0 = _
    rw [row k hk]
    split
    · exact clrV_at (li k hk) j
    · rfl
  have same : t'.getD i [] = t.getD i [] := by rw [row i hi, if_neg (fun z => z.1 rfl)]
  refine ⟨by rw [ll]; exact T.len, fun r h => ?_, fun k hk => ?_, fun k j hj ne => ?_, fun u => ?_, fun r h x hx => ?_⟩
  · obtain ⟨k, hk, e⟩ := mem_ent h
    rw [← e, row k (by omega)]
    split
    · rw [clrV_len (li k (by omega)), wd k (by omega)]
    · exact wd k (by omega)
  · rcases Nat.lt_or_ge k i with c | c
    · have kt := kl k k (T.dg k c)
      rw [en k kt]
      split
      · rw [T.of i k c (by omega)]
        have := Int.mul_ne_zero (T.dg k c) ni
        omega
      · exact T.dg k c
    · have : k = i := by omega
      subst this
      rw [en k hi, if_neg (fun z => z.1 rfl)]
      exact ni
  · rcases Nat.lt_or_ge k t.length with kt | kt
    · rw [en k kt]
      by_cases ji : j < i
      · have z1 := T.of k j ji ne
        split
        · rename_i h
          rw [z1, T.of i j ji (by omega)]
          omega
        · exact z1
      · have : j = i := by omega
        subst this
        split
        · rw [Int.mul_comm (ent t j j)]
          omega
        · rename_i h
          rcases Classical.em (ent t k j = 0) with e | e
          · exact e
          · exact absurd ⟨fun z => ne z.symm, e⟩ h
    · exact out k j kt
  · rw [← T.ker u]
    constructor
    · intro h r hr
      obtain ⟨k, hk, e⟩ := mem_ent hr
      have di : dot (t.getD i []) u = 0 := by
        rw [← same]
        exact h _ (ent_mem (by omega))
      have dk := h _ (ent_mem (t := t') (k := k) (by omega))
      rw [row k hk] at dk
      rw [← e]
      split at dk
      · rw [clrV_dot (li k hk), di, Int.mul_zero, Int.sub_zero] at dk
        exact mul_zero' dk ni
      · exact dk
    · intro h r hr
      obtain ⟨k, hk, e⟩ := mem_ent hr
      rw [← e, row k (by omega)]
      split
      · rw [clrV_dot (li k (by omega)), h _ (ent_mem hi), h _ (ent_mem (t := t) (k := k) (by omega))]
        omega
      · exact h _ (ent_mem (by omega))
  · obtain ⟨k, hk, e⟩ := mem_ent h
    have B : ∀ k, k < t.length → ∀ j, (ent t k j).natAbs < 2 ^ b := fun k hk j => by
      rcases Nat.lt_or_ge j (m + 1) with c | c
      · exact T.bd _ (ent_mem hk) _ (getD_mem (by rw [wd k hk]; exact c))
      · have : ent t k j = 0 := by
          unfold ent
          rw [List.getD_eq_getElem?_getD, List.getElem?_eq_none (by rw [wd k hk]; omega)]
          rfl
        rw [this]
        exact Nat.two_pow_pos _
    obtain ⟨j, hj, ex⟩ := List.getElem_of_mem hx
    have xe : x = ent t' k j := by
      unfold ent
      rw [e, List.getD_eq_getElem?_getD, List.getElem?_eq_getElem hj, ex]
      rfl
    have p2 : (2 : Nat) ^ (2 * b + 1) = 2 * (2 ^ b * 2 ^ b) := by
      rw [Nat.pow_succ, Nat.mul_comm, show 2 * b = b + b by omega, Nat.pow_add]
    rw [xe, en k (by omega)]
    split
    · have m1 : (ent t k j * ent t i i).natAbs < 2 ^ b * 2 ^ b := by
        rw [Int.natAbs_mul]
        exact Nat.mul_lt_mul'' (B k (by omega) j) (B i hi i)
      have m2 : (ent t i j * ent t k i).natAbs < 2 ^ b * 2 ^ b := by
        rw [Int.natAbs_mul]
        exact Nat.mul_lt_mul'' (B i hi j) (B k (by omega) i)
      omega
    · have := B k (by omega) j
      have le : 2 ^ b ≤ 2 ^ (2 * b + 1) := Nat.pow_le_pow_right (by omega) (by omega)
      omega
/-! ### what vanishes on the rows and lies at the places of the program's rows is nothing -/
section
variable {rows : List (List Int)} {n : Nat}
def isP (rows : List (List Int)) (n : Nat) (j : Nat) : Bool := ((redQ rows n).piv.map (·.2)).contains j
theorem isP_iff {j : Nat} : isP rows n j = true ↔ ∃ q ∈ (redQ rows n).piv, q.2 = j := by
  unfold isP
  simp
theorem supp_pivot (rl : ∀ r ∈ rows, r.length = n) {x : List Int} (h : ∀ r ∈ rows, dot r x = 0) (z : ∀ j, isP rows n j = false → x.getD j 0 = 0) {j : Nat} (hj : isP rows n j = true) : x.getD j 0 = 0 := by
  have I := redQ_inv rl
  obtain ⟨q, hq, e⟩ := isP_iff.mp hj
  have d := (I.keep x h).2 q hq
  rw [dot_only q.1 x q.2 fun k hk => by
    cases c : isP rows n k with
    | false => exact .inr (z k c)
    | true =>
      obtain ⟨q', hq', e'⟩ := isP_iff.mp c
      left
      rw [← e']
      exact I.ap q hq q' hq' (by omega)] at d
  have := I.pos q hq
  rw [← e]
  rcases Int.mul_eq_zero.mp d with c | c
  · omega
  · exact c
/-- pivots below v -/
def pivs (rows : List (List Int)) (n v : Nat) : List Nat := (List.range v).filter (isP rows n)
theorem pivs_mem {v j : Nat} : j ∈ pivs rows n v ↔ j < v ∧ isP rows n j = true := by unfold pivs; simp
theorem pivs_nodup (v : Nat) : (pivs rows n v).Nodup := List.Pairwise.filter _ List.nodup_range
/-- the table that the law begins with -/
def tab0 (rows : List (List Int)) (pv : List Nat) (v : Nat) : List (List Int) := rows.map fun r => (pv.map fun p => r.getD p 0) ++ [r.getD v 0]
theorem tab0_ker {pv : List Nat} {v : Nat} (nd : (pv ++ [v]).Nodup) (lt : ∀ p ∈ pv ++ [v], p < n) {u : List Int} (ul : u.length = pv.length + 1) (h : ∀ r ∈ tab0 rows pv v, dot r u = 0) : ∃ x : List Int, x.length = n ∧ (∀ r ∈ rows, dot r x = 0) ∧ (∀ j, j ∉ pv ++ [v] → x.getD j 0 = 0) ∧ ∀ k, k < pv.length + 1 → x.getD ((pv ++ [v]).getD k 0) 0 = u.getD k 0 := by
  obtain ⟨s1, s2, s3, s4⟩ := spread_spec (n := n) (us := u) nd lt (by simp [ul])
  refine ⟨_, s2, fun r hr => ?_, s3, fun k hk => s4 k (by simpa using hk)⟩
  rw [s1]
  have := h _ (List.mem_map.mpr ⟨r, hr, rfl⟩)
  rw [List.map_append]
  exact this
theorem ker_tab0 {pv : List Nat} {v : Nat} (nd : (pv ++ [v]).Nodup) (lt : ∀ p ∈ pv ++ [v], p < n) {x : List Int} (xl : x.length = n) (z : ∀ j, j ∉ pv ++ [v] → x.getD j 0 = 0) (h : ∀ r ∈ rows, dot r x = 0) : ∀ r ∈ tab0 rows pv v, dot r ((pv ++ [v]).map fun p => x.getD p 0) = 0 := by
  intro r hr
  obtain ⟨r0, h0, rfl⟩ := List.mem_map.mp hr
  obtain ⟨s1, _⟩ := spread_spec (n := n) (us := (pv ++ [v]).map fun p => x.getD p 0) nd lt (by simp)
  have := h r0 h0
  rw [← spread_back nd lt xl z, s1, List.map_append] at this
  exact this
/-- a pivot's column has a row that leads -/
theorem lead_some (rl : ∀ r ∈ rows, r.length = n) {v : Nat} (hv : v < n) {t : List (List Int)} {i b : Nat} (T : TInv t (tab0 rows (pivs rows n v) v) (pivs rows n v).length i b) (hi : i < (pivs rows n v).length) : ∃ k, i ≤ k ∧ k < t.length ∧ ent t k i ≠ 0 := by
  refine Classical.byContradiction fun no => ?_
  have z : ∀ k, i ≤ k → ent t k i = 0 := fun k hk => by
    refine Classical.byContradiction fun ne => no ⟨k, hk, ?_, ne⟩
    refine Classical.byContradiction fun c => ne ?_
    unfold ent
    rw [List.getD_eq_getElem?_getD (l := t), List.getElem?_eq_none (by omega)]
    simp
  obtain ⟨u, ul, u1, u2, u3⟩ := T.solve (by omega) (Nat.le_refl i) z
  have nd : (pivs rows n v ++ [v]).Nodup := List.nodup_append.mpr ⟨pivs_nodup v, by simp, fun a ha b hb => by
    have := (pivs_mem.mp ha).1
    simp at hb
    omega⟩
  have lt : ∀ p ∈ pivs rows n v ++ [v], p < n := fun p hp => by
    rcases List.mem_append.mp hp with h | h
    · have := (pivs_mem.mp h).1; omega
    · simp at h; omega
  obtain ⟨x, xl, x1, x2, x3⟩ := tab0_ker nd lt ul u3
  have ap : ∀ k, k < (pivs rows n v).length → (pivs rows n v ++ [v]).getD k 0 = (pivs rows n v).getD k 0 := fun k hk => by
    rw [List.getD_eq_getElem?_getD, List.getElem?_append_left hk, List.getD_eq_getElem?_getD]
  have av : (pivs rows n v ++ [v]).getD (pivs rows n v).length 0 = v := by
    rw [List.getD_eq_getElem?_getD, List.getElem?_append_right (Nat.le_refl _)]
    simp
  have xv : x.getD v 0 = 0 := by
    have := x3 (pivs rows n v).length (by omega)
    rw [av, u2 _ (by omega) (by omega)] at this
    exact this
  have pm : (pivs rows n v).getD i 0 ∈ pivs rows n v := getD_mem hi
  have := supp_pivot rl x1 (fun j hj => by
    by_cases c : j = v
    · rw [c]; exact xv
    · refine x2 j fun m => ?_
      rcases List.mem_append.mp m with h | h
      · rw [(pivs_mem.mp h).2] at hj; cases hj
      · simp at h; exact c h) (pivs_mem.mp pm).2
  have e := x3 i (by omega)
  rw [ap i hi, this] at e
  exact u1 e.symm
/-- a pivot is no sum of those before it -/
theorem piv_none (rl : ∀ r ∈ rows, r.length = n) {v : Nat} (hv : v < n) (pv : isP rows n v = true) {t : List (List Int)} {b : Nat} (T : TInv t (tab0 rows (pivs rows n v) v) (pivs rows n v).length (pivs rows n v).length b) : ∃ k, (pivs rows n v).length ≤ k ∧ k < t.length ∧ ent t k (pivs rows n v).length ≠ 0 := by
  refine Classical.byContradiction fun no => ?_
  have z : ∀ k, (pivs rows n v).length ≤ k → ent t k (pivs rows n v).length = 0 := fun k hk => by
    refine Classical.byContradiction fun ne => no ⟨k, hk, ?_, ne⟩
    refine Classical.byContradiction fun c => ne ?_
    unfold ent
    rw [List.getD_eq_getElem?_getD (l := t), List.getElem?_eq_none (by omega)]
    simp
  obtain ⟨u, ul, u1, u2, u3⟩ := T.solve (Nat.le_refl _) (Nat.le_refl _) z
  have nd : (pivs rows n v ++ [v]).Nodup := List.nodup_append.mpr ⟨pivs_nodup v, by simp, fun a ha b hb => by
    have := (pivs_mem.mp ha).1
    simp at hb
    omega⟩
  have lt : ∀ p ∈ pivs rows n v ++ [v], p < n := fun p hp => by
    rcases List.mem_append.mp hp with h | h
    · have := (pivs_mem.mp h).1; omega
    · simp at h; omega
  obtain ⟨x, xl, x1, x2, x3⟩ := tab0_ker nd lt ul u3
  have av : (pivs rows n v ++ [v]).getD (pivs rows n v).length 0 = v := by
    rw [List.getD_eq_getElem?_getD, List.getElem?_append_right (Nat.le_refl _)]
    simp
  have := supp_pivot rl x1 (fun j hj => x2 j fun m => by
    rcases List.mem_append.mp m with h | h
    · rw [(pivs_mem.mp h).2] at hj; cases hj
    · simp at h; rw [h, pv] at hj; cases hj) pv
  have e := x3 (pivs rows n v).length (by omega)
  rw [av, this] at e
  exact u1 e.symm
end
/-! ### weights, by either way -/
theorem gcdF_smul (c : Nat) : ∀ (r : List Int) (b : Nat), gcdF (c * b) (r.map ((c : Int) * ·)) = c * gcdF b r
  | [], b => rfl
  | x :: r, b => by
    have e : Nat.gcd (c * b) ((c : Int) * x).natAbs = c * Nat.gcd b x.natAbs := by
      rw [Int.natAbs_mul, Int.natAbs_natCast, Nat.gcd_mul_left]
    show gcdF (Nat.gcd (c * b) ((c : Int) * x).natAbs) (r.map ((c : Int) * ·)) = _
    rw [e, gcdF_smul c r]
    rfl
theorem firstN_smul {c : Int} (h : c ≠ 0) : ∀ r : List Int, firstN (r.map (c * ·)) = c * firstN r
  | [] => by simp [firstN]
  | x :: r => by
    have ih := firstN_smul h r
    unfold firstN at ih ⊢
    by_cases z : x = 0
    · subst z
      rw [List.map_cons, List.filter_cons_of_neg (by simp), List.filter_cons_of_neg (by simp)]
      exact ih
    · have : c * x ≠ 0 := Int.mul_ne_zero h z
      rw [List.map_cons, List.filter_cons_of_pos (by simpa using this), List.filter_cons_of_pos (by simpa using z)]
      rfl
theorem prim_smul {c : Nat} (h : 0 < c) (r : List Int) : prim (r.map ((c : Int) * ·)) = prim r := by
  have g : gcdL (r.map ((c : Int) * ·)) = c * gcdL r := by
    have := gcdF_smul c r 0
    rw [Nat.mul_zero] at this
    exact this
  by_cases z : gcdL r = 0
  · have zz := gcdL_zero z
    have e : r.map ((c : Int) * ·) = r := by
      have : r.map ((c : Int) * ·) = r.map id := List.map_congr_left fun x hx => by
        rw [zz x hx]
        simp
      rw [this, List.map_id]
    rw [e]
  · have z' : gcdL (r.map ((c : Int) * ·)) ≠ 0 := by
      rw [g]
      exact Nat.mul_ne_zero (by omega) z
    have f := firstN_smul (c := (c : Int)) (by omega) r
    have dv : divisor (r.map ((c : Int) * ·)) = (c : Int) * divisor r := by
      unfold divisor
      rw [f, g]
      have : (c : Int) * firstN r < 0 ↔ firstN r < 0 := by
        constructor
        · intro h1
          refine Classical.byContradiction fun h2 => ?_
          have := Int.mul_nonneg (show (0 : Int) ≤ c by omega) (show 0 ≤ firstN r by omega)
          omega
        · intro h1
          exact Int.mul_neg_of_pos_of_neg (by omega) h1
      by_cases h1 : firstN r < 0
      · rw [if_pos h1, if_pos (this.mpr h1), Int.natCast_mul]
        grind
      · rw [if_neg h1, if_neg (fun z => h1 (this.mp z)), Int.natCast_mul]
    unfold prim
    rw [if_neg z, if_neg z', List.map_map, dv]
    refine List.map_congr_left fun x hx => ?_
    show ((c : Int) * x).fdiv ((c : Int) * divisor r) = x.fdiv (divisor r)
    exact Int.mul_fdiv_mul_of_pos x (divisor r) (by omega)
section
variable {rows : List (List Int)} {n : Nat}
/-- the program's weights lie at the pivots before and at the place itself -/
theorem wts_supp (rl : ∀ r ∈ rows, r.length = n) {v : Nat} (hv : v < n) (nv : isP rows n v = false) :
    (wts (redQ rows n).piv n v).length = n ∧ (∀ r ∈ rows, dot r (wts (redQ rows n).piv n v) = 0) ∧ (wts (redQ rows n).piv n v).getD v 0 = (wholeQ (redQ rows n).piv : Int) ∧ 0 < wholeQ (redQ rows n).piv ∧ ∀ j, j ∉ pivs rows n v ++ [v] → (wts (redQ rows n).piv n v).getD j 0 = 0 := by
  have I := redQ_inv rl
  have nf : ∀ q ∈ (redQ rows n).piv, q.2 ≠ v := fun q hq e => by
    rw [isP_iff.mpr ⟨q, hq, e⟩] at nv
    cases nv
  have wl : (wts (redQ rows n).piv n v).length = n := by unfold wts; rw [wtF_len]; simp
  have wp := wts_piv I (Nat.le_refl n) hv nf
  have w0 := (wholeF (redQ rows n).piv I.pos 1 (by omega)).1
  obtain ⟨w, hw⟩ : ∃ w, w = wts (redQ rows n).piv n v := ⟨_, rfl⟩
  have ker : ∀ r ∈ rows, dot r w = 0 := by
    rw [hw]
    refine I.orth _ (fun r hr => ?_) wp
    refine dot_zero _ _ fun a ha => ?_
    obtain ⟨j, hj, e⟩ := List.getElem_of_mem ha
    have := I.lz r hr j (by have := I.ll r hr; omega)
    rw [List.getD_eq_getElem?_getD, List.getElem?_eq_getElem hj, e] at this
    exact this
  have out : ∀ j, (∀ q ∈ (redQ rows n).piv, q.2 ≠ j) → w.getD j 0 = ((List.replicate n (0 : Int)).set v (wholeQ (redQ rows n).piv : Int)).getD j 0 := fun j h => by
    rw [hw]
    unfold wts
    exact wtF_at v _ _ _ j h
  have wv : w.getD v 0 = (wholeQ (redQ rows n).piv : Int) := by
    rw [out v nf, List.getD_eq_getElem?_getD, List.getElem?_set]
    simp [hv]
  have off : ∀ j, isP rows n j = false → j ≠ v → w.getD j 0 = 0 := fun j h ne => by
    rw [out j fun q hq e => by
      rw [isP_iff.mpr ⟨q, hq, e⟩] at h
      cases h]
    rw [List.getD_eq_getElem?_getD, List.getElem?_set, if_neg (fun z => ne z.symm), ← List.getD_eq_getElem?_getD]
    exact rep_at n j
  rw [← hw] at wl wp ⊢
  refine ⟨wl, ker, wv, w0, fun j hj => ?_⟩
  rw [List.mem_append, not_or] at hj
  have jv : j ≠ v := fun e => hj.2 (by simp [e])
  cases c : isP rows n j with
  | false => exact off j c jv
  | true =>
    have ge : v < j := by
      refine Classical.byContradiction fun h => hj.1 (pivs_mem.mpr ⟨by omega, c⟩)
    obtain ⟨q, hq, e⟩ := isP_iff.mp c
    have d := wp q hq
    rw [dot_only q.1 w q.2 fun k hk => by
      by_cases kv : k = v
      · left
        rw [kv]
        exact I.pz q hq v (by omega)
      · cases ck : isP rows n k with
        | false => exact .inr (off k ck kv)
        | true =>
          obtain ⟨q', hq', e'⟩ := isP_iff.mp ck
          left
          rw [← e']
          exact I.ap q hq q' hq' (by omega)] at d
    have := I.pos q hq
    rw [← e]
    rcases Int.mul_eq_zero.mp d with z | z
    · omega
    · exact z
/-- what the law's table says at a vessel that is a sum of those before it -/
theorem free_row (rl : ∀ r ∈ rows, r.length = n) {v : Nat} (hv : v < n) (nv : isP rows n v = false) {t : List (List Int)} {b : Nat} (T : TInv t (tab0 rows (pivs rows n v) v) (pivs rows n v).length (pivs rows n v).length b) :
    (∀ k, (pivs rows n v).length ≤ k → ent t k (pivs rows n v).length = 0) ∧
    ∀ (down : Nat) (row : List Int), 0 < down → row.length = n → row.getD v 0 = (down : Int) → (∀ j, j ∉ pivs rows n v ++ [v] → row.getD j 0 = 0) →
      (∀ k, k < (pivs rows n v).length → ent t k k * row.getD ((pivs rows n v).getD k 0) 0 = -(ent t k (pivs rows n v).length * down)) → prim row = prim (wts (redQ rows n).piv n v) := by
  obtain ⟨wl, wk, wv, w0, wz⟩ := wts_supp rl hv nv
  obtain ⟨w, hw⟩ : ∃ w, w = wts (redQ rows n).piv n v := ⟨_, rfl⟩
  obtain ⟨W, hW⟩ : ∃ W, W = wholeQ (redQ rows n).piv := ⟨_, rfl⟩
  rw [← hw] at wl wk wv wz ⊢
  rw [← hW] at wv w0
  obtain ⟨m, hm⟩ : ∃ m, m = (pivs rows n v).length := ⟨_, rfl⟩
  rw [← hm] at T ⊢
  have nd : (pivs rows n v ++ [v]).Nodup := List.nodup_append.mpr ⟨pivs_nodup v, by simp, fun a ha b hb => by
    have := (pivs_mem.mp ha).1
    simp at hb
    omega⟩
  have lt : ∀ p ∈ pivs rows n v ++ [v], p < n := fun p hp => by
    rcases List.mem_append.mp hp with h | h
    · have := (pivs_mem.mp h).1; omega
    · simp at h; omega
  have K := (T.ker _).mpr (ker_tab0 nd lt wl wz wk)
  obtain ⟨u, hu⟩ : ∃ u, u = (pivs rows n v ++ [v]).map fun p => w.getD p 0 := ⟨_, rfl⟩
  rw [← hu] at K
  have ap : ∀ k, k < m → (pivs rows n v ++ [v]).getD k 0 = (pivs rows n v).getD k 0 := fun k hk => by
    rw [List.getD_eq_getElem?_getD, List.getElem?_append_left (by omega), List.getD_eq_getElem?_getD]
  have av : (pivs rows n v ++ [v]).getD m 0 = v := by
    rw [List.getD_eq_getElem?_getD, hm, List.getElem?_append_right (Nat.le_refl _)]
    simp
  have uk : ∀ k, k < m → u.getD k 0 = w.getD ((pivs rows n v).getD k 0) 0 := fun k hk => by
    rw [hu, getD_map0 _ 0 _ (by simp; omega), ap k hk]
  have um : u.getD m 0 = (W : Int) := by
    rw [hu, getD_map0 _ 0 _ (by simp; omega), av, wv]
  have ul : u.length = m + 1 := by rw [hu]; simp [hm]
  have row0 : ∀ k, k < t.length → ∀ j, m < j → (t.getD k []).getD j 0 = 0 := fun k hk j hj => by
    rw [List.getD_eq_getElem?_getD, List.getElem?_eq_none (by rw [T.wid _ (ent_mem hk)]; omega)]
    rfl
  have kl : ∀ k, t.length ≤ k → ent t k m = 0 := fun k c => by
    unfold ent
    rw [List.getD_eq_getElem?_getD (l := t), List.getElem?_eq_none c]
    simp
  -- a row at u: two places count at most
  have two : ∀ k, k < t.length → (if k < m then ent t k k * u.getD k 0 else 0) + ent t k m * W = 0 := fun k hk => by
    have d := K _ (ent_mem hk)
    have e1 := dot_set (t.getD k []) 0 u m (by omega)
    rw [d, um] at e1
    have e2 : dot (t.getD k []) (u.set m 0) = if k < m then ent t k k * u.getD k 0 else 0 := by
      have us : ∀ j, (u.set m 0).getD j 0 = if j = m then 0 else u.getD j 0 := fun j => by
        rw [List.getD_eq_getElem?_getD, List.getElem?_set, List.getD_eq_getElem?_getD]
        by_cases c : m = j
        · subst c; simp [ul]
        · rw [if_neg c, if_neg (fun z => c z.symm)]
      split
      · rename_i c
        rw [dot_only _ _ k fun j hj => by
          rcases Nat.lt_or_ge j m with c1 | c1
          · exact .inl (T.of k j c1 hj)
          · rcases Nat.lt_or_ge m j with c2 | c2
            · exact .inl (row0 k hk j c2)
            · right
              rw [us, if_pos (by omega)]]
        rw [us, if_neg (by omega)]
      · rename_i c
        refine dot_none _ _ fun j => ?_
        rcases Nat.lt_or_ge j m with c1 | c1
        · exact .inl (T.of k j c1 (by omega))
        · rcases Nat.lt_or_ge m j with c2 | c2
          · exact .inl (row0 k hk j c2)
          · right
            rw [us, if_pos (by omega)]
    rw [e2] at e1
    unfold ent at e1 ⊢
    have : (t.getD k []).getD m 0 * (0 - (W : Int)) = -((t.getD k []).getD m 0 * W) := by grind
    rw [this] at e1
    omega
  refine ⟨fun k hk => ?_, fun down row d0 rlen rv rz rk => ?_⟩
  · rcases Nat.lt_or_ge k t.length with c | c
    · have := two k c
      rw [if_neg (by omega), Int.zero_add] at this
      rcases Int.mul_eq_zero.mp this with z | z
      · exact z
      · omega
    · exact kl k c
  · have e : row.map ((W : Int) * ·) = w.map ((down : Int) * ·) := by
      refine ext_getD (by simp; omega) fun j hj => ?_
      rw [List.length_map] at hj
      rw [getD_map_mul, getD_map_mul]
      by_cases c : j ∈ pivs rows n v ++ [v]
      · rcases List.mem_append.mp c with h | h
        · obtain ⟨k, hk, ek⟩ := getD_mem_ix h
          have kt : k < t.length := by
            refine Classical.byContradiction fun c => T.dg k (by omega) ?_
            unfold ent
            rw [List.getD_eq_getElem?_getD (l := t), List.getElem?_eq_none (by omega)]
            simp
          have h1 := two k kt
          rw [if_pos (by omega), uk k (by omega), ek] at h1
          have h2 := rk k (by omega)
          rw [ek] at h2
          have dk := T.dg k (by omega)
          obtain ⟨a, ha⟩ : ∃ a, a = ent t k k := ⟨_, rfl⟩
          obtain ⟨c', hc'⟩ : ∃ c', c' = ent t k m := ⟨_, rfl⟩
          rw [← ha] at h1 h2 dk
          rw [← hc'] at h1 h2
          have : a * ((W : Int) * row.getD j 0 - (down : Int) * w.getD j 0) = 0 := by
            have e1 : a * ((W : Int) * row.getD j 0 - (down : Int) * w.getD j 0) = W * (a * row.getD j 0) - down * (a * w.getD j 0) := by grind
            have e2 : a * w.getD j 0 = -(c' * W) := by omega
            rw [e1, h2, e2]
            grind
          have := mul_zero' this dk
          omega
        · have : j = v := by simpa using h
          subst this
          rw [rv, wv]
          exact Int.mul_comm _ _
      · rw [rz j c, wz j c]
        simp
    rw [← prim_smul w0 row, e, prim_smul d0 w]
end
end PF

end

section
/-! P62: sums that never change, of rows taken so many times. Pure. -/
namespace PF
open PySem PySem.Spec PyProof.Rows L2
def smR (r : Int) (row : List Int) : List Int := row.map (· * r)
theorem prim_smR {r : Int} (h : 0 < r) (row : List Int) : prim (smR r row) = prim row := by
  have e : smR r row = row.map ((r.toNat : Int) * ·) := by
    refine List.map_congr_left fun x _ => ?_
    have : (r.toNat : Int) = r := by omega
    rw [this, Int.mul_comm]
  rw [e]
  exact prim_smul (by omega) row
theorem smR_at (r : Int) (row : List Int) (i : Nat) : (smR r row).getD i 0 = row.getD i 0 * r := by
  unfold smR
  rw [List.getD_eq_getElem?_getD, List.getElem?_map, List.getD_eq_getElem?_getD]
  cases row[i]? <;> simp
theorem smR_inj {r : Int} (h : 0 < r) {a b : List Int} : smR r a = smR r b ↔ a = b := by
  constructor
  · intro e
    have hf : ∀ {xs ys : List Int}, xs.map (· * r) = ys.map (· * r) → xs = ys := by
      intro xs
      induction xs with
      | nil => intro ys e; cases ys with | nil => rfl | cons _ _ => cases e
      | cons x xs ih =>
        intro ys e
        cases ys with
        | nil => cases e
        | cons y ys =>
          simp only [List.map_cons, List.cons.injEq] at e
          rw [ih e.2, Int.eq_of_mul_eq_mul_right (by omega) e.1]
    exact hf e
  · intro e
    rw [e]
theorem clr_smR {r : Int} (h : 0 < r) (row lead : List Int) (p : Nat) : clr (smR r row) (smR r lead) p = clr row lead p := by
  have e : clrV (smR r row) (smR r lead) p = smR (r * r) (clrV row lead p) := by
    unfold clrV
    rw [smR_at, smR_at]
    unfold smR
    rw [List.zipWith_map, List.map_zipWith]
    congr 1
    funext a b
    grind
  unfold clr
  rw [e, prim_smR (Int.mul_pos h h)]
/-- the same rows, or as many times the rows while nothing leads yet -/
def RelS (r : Int) (s s' : Rs) : Prop := s'.piv = s.piv ∧ (s'.left = s.left ∨ (s'.left = s.left.map (smR r) ∧ s.piv = []))
theorem redS_rel {r : Int} (h : 0 < r) {s s' : Rs} (R : RelS r s s') (p : Nat) : RelS r (redS s p) (redS s' p) := by
  obtain ⟨e1, e2⟩ := R
  rcases e2 with e2 | ⟨e2, e3⟩
  · have : s' = s := by
      cases s; cases s'
      simp only at e1 e2
      rw [e1, e2]
    rw [this]
    exact ⟨rfl, .inl rfl⟩
  · have ef : s'.left.find? (fun row => !decide (row.getD p 0 = 0)) = (s.left.find? (fun row => !decide (row.getD p 0 = 0))).map (smR r) := by
      rw [e2, List.find?_map]
      congr 2
      funext row
      simp only [Function.comp, smR_at]
      have : row.getD p 0 * r = 0 ↔ row.getD p 0 = 0 := by
        constructor
        · intro z
          rcases Int.mul_eq_zero.mp z with q | q
          · exact q
          · omega
        · intro z
          rw [z, Int.zero_mul]
      simp only [this]
    unfold redS
    rw [ef]
    cases q : s.left.find? (fun row => !decide (row.getD p 0 = 0)) with
    | none => exact ⟨e1, .inr ⟨e2, e3⟩⟩
    | some lead =>
      refine ⟨?_, .inl ?_⟩
      · show (s'.piv.map _) ++ [(prim (smR r lead), p)] = (s.piv.map _) ++ [(prim lead, p)]
        rw [e1, e3, prim_smR h]
        rfl
      · show (s'.left.filter fun row => !decide (row = smR r lead)).map (fun row => clr row (smR r lead) p) = (s.left.filter fun row => !decide (row = lead)).map fun row => clr row lead p
        rw [e2, List.filter_map, List.map_map]
        have : ((fun row => !decide (row = smR r lead)) ∘ smR r) = fun row => !decide (row = lead) := by
          funext row
          simp only [Function.comp, smR_inj h]
        rw [this]
        refine List.map_congr_left fun row _ => ?_
        exact clr_smR h row lead p
theorem red_rel {r : Int} (h : 0 < r) (rows : List (List Int)) : ∀ n, RelS r ((List.range n).foldl redS ⟨rows, []⟩) ((List.range n).foldl redS ⟨rows.map (smR r), []⟩)
  | 0 => ⟨rfl, .inr ⟨rfl, rfl⟩⟩
  | n + 1 => by
    rw [List.range_succ, List.foldl_append, List.foldl_append]
    exact redS_rel h (red_rel h rows n) n
theorem kept_scl {r : Int} (h : 0 < r) (rows : List (List Int)) (n : Nat) : keptQ (rows.map (smR r)) n = keptQ rows n := by
  have e : (redQ (rows.map (smR r)) n).piv = (redQ rows n).piv := (red_rel h rows n).1
  unfold keptQ
  rw [e]
end PF

end

section
/-! P27: rounds and shares, pure. -/
namespace PF
open PySem PySem.Spec PyProof.Rows L2
@[simp] theorem itD_rng2 (i j : Int) : itD .rng2 (.d (.int i)) (.d (.int j)) = rngD i j := rfl
theorem rngD_off {a : Int} {n : Nat} (h0 : 0 ≤ a) (h1 : a ≤ 1000000) (h : n ≤ 1000000) {b : Int} (hb : b = a + n) : rngD a b = .ok ((List.range n).map fun (i : Nat) => PyData.int (a + (i : Int))) := by
  subst hb
  unfold rngD
  have := sizeLine_big
  rw [M.chk_pos (by omega)]
  rw [show (a + (n : Int) - a).toNat = n by omega]
theorem settle_len (w : Wk) (lv : List Rat) : ∀ (n : Nat) (pre : List Int) (m : Int), (settleQ w lv n pre m).1.length ≤ pre.length + n + 2
  | 0, pre, m => by simp [settleQ]
  | n + 1, pre, m => by
    unfold settleQ
    split
    · simp; omega
    · split
      · simp
      · rename_i s hs c
        have := settle_len w lv n (pre ++ [m]) s.to
        simp at this ⊢
        omega
theorem flo_len {w : Wk} (hw : okW w) {k : Nat} (hk : k < 400) {f : Fl} (hf : flO w k = some f) : f.ms.length ≤ 15 := by
  obtain ⟨m, h⟩ := flo_at hw hk hf
  have l := settle_len w f.lv 13 [] m
  have e : (settleQ w f.lv 13 [] m).1 = f.ms := by
    show (setQ w f.lv m).1 = f.ms
    rw [h.set]
  rw [e] at l
  simpa using l
/-! ### sums -/
def rsum : List Rat → Rat
  | [] => 0
  | x :: xs => x + rsum xs
theorem rsum_append : ∀ (xs ys : List Rat), rsum (xs ++ ys) = rsum xs + rsum ys
  | [], ys => by simp only [List.nil_append, rsum]; grind
  | x :: xs, ys => by
    simp only [List.cons_append, rsum, rsum_append xs ys]
    grind
theorem zdiv (p : Rat) : (0 : Rat) / p = 0 := by rw [Rat.div_def, Rat.zero_mul]
theorem tele (g : Nat → Rat) (p : Rat) : ∀ m, rsum ((List.range m).map fun a => (g (a + 1) - g a) / p) = (g m - g 0) / p
  | 0 => by
    simp only [List.range_zero, List.map_nil, rsum]
    have : g 0 - g 0 = 0 := by grind
    rw [this, zdiv]
  | m + 1 => by
    rw [List.range_succ, List.map_append, rsum_append, tele g p m]
    simp only [List.map_cons, List.map_nil, rsum]
    have : (g (m + 1) - g 0) / p = (g m - g 0) / p + (g (m + 1) - g m) / p := by
      rw [Rat.div_def, Rat.div_def, Rat.div_def]
      grind
    rw [this]
    grind
def wsum (c : Nat → Rat) : Nat → List Rat → Rat
  | _, [] => 0
  | k, x :: xs => c k * x + wsum c (k + 1) xs
theorem wsum_zero (c : Nat → Rat) : ∀ (n k : Nat), wsum c k (List.replicate n 0) = 0
  | 0, k => rfl
  | n + 1, k => by
    rw [List.replicate_succ]
    simp only [wsum, wsum_zero c n (k + 1)]
    grind
theorem wsum_set (c : Nat → Rat) (y : Rat) : ∀ (xs : List Rat) (k j : Nat), j < xs.length → wsum c k (xs.set j y) = wsum c k xs + c (k + j) * (y - xs.getD j 0)
  | [], k, j, h => by simp at h
  | x :: xs, k, 0, h => by
    simp only [List.set_cons_zero, wsum, Nat.add_zero, List.getD_cons_zero]
    grind
  | x :: xs, k, j + 1, h => by
    simp only [List.set_cons_succ, wsum, List.getD_cons_succ]
    rw [wsum_set c y xs (k + 1) j (by simpa using h)]
    have : k + 1 + j = k + (j + 1) := by omega
    rw [this]
    grind
/-! ### shares -/
def rl (F : Nat → Fl) (i m : Nat) : List (Fl × Rat) := (List.range m).map fun a => (F (i + a), (F (i + a + 1)).t - (F (i + a)).t)
def shStep (p : Rat) (acc : List Rat) (r : Fl × Rat) : List Rat := acc.set r.1.m.toNat (acc.getD r.1.m.toNat 0 + r.2 / p)
def shQ (n : Nat) (p : Rat) (rs : List (Fl × Rat)) : List Rat := rs.foldl (shStep p) (List.replicate n 0)
theorem shQ_snoc (n : Nat) (p : Rat) (rs : List (Fl × Rat)) (r : Fl × Rat) : shQ n p (rs ++ [r]) = shStep p (shQ n p rs) r := by
  unfold shQ
  rw [List.foldl_append]
  rfl
theorem shQ_len (n : Nat) (p : Rat) (rs : List (Fl × Rat)) : (shQ n p rs).length = n := by
  unfold shQ
  have : ∀ (rs : List (Fl × Rat)) (acc : List Rat), (rs.foldl (shStep p) acc).length = acc.length := by
    intro rs
    induction rs with
    | nil => exact fun _ => rfl
    | cons r rs ih =>
      intro acc
      rw [List.foldl_cons, ih]
      unfold shStep
      rw [List.length_set]
  rw [this, List.length_replicate]
theorem wsum_sh (c : Nat → Rat) (p : Rat) (n : Nat) : ∀ (rs : List (Fl × Rat)) (acc : List Rat), acc.length = n → (∀ r ∈ rs, r.1.m.toNat < n) → wsum c 0 (rs.foldl (shStep p) acc) = wsum c 0 acc + rsum (rs.map fun r => c r.1.m.toNat * (r.2 / p))
  | [], acc, _, _ => by simp only [List.foldl_nil, List.map_nil, rsum]; grind
  | r :: rs, acc, h, hm => by
    rw [List.foldl_cons, wsum_sh c p n rs _ (by unfold shStep; rw [List.length_set]; exact h) fun x hx => hm x (by simp [hx])]
    unfold shStep
    rw [wsum_set c _ acc 0 r.1.m.toNat (by rw [h]; exact hm r (by simp))]
    simp only [List.map_cons, rsum, Nat.zero_add]
    grind
/-- a round's numbers -/
structure Rd (w : Wk) (rs : List (Fl × Rat)) (p : Rat) (B : Nat) : Prop where
  p0 : 0 < p
  B0 : 0 < B
  Bl : B.log2 ≤ 2830
  len : rs.length < 400
  each : ∀ r ∈ rs, 0 < r.2 ∧ r.2 ≤ p ∧ Dn B (r.2 / p) ∧ (0 ≤ r.1.m ∧ r.1.m < w.modes.length) ∧ Sm r.2 ∧ L2.atI r.1.ms (-1) = some r.1.m
theorem div_in {x p : Rat} (p0 : 0 < p) (h0 : 0 < x) (h1 : x ≤ p) : 0 ≤ x / p ∧ x / p ≤ 1 := by
  have pn : p ≠ 0 := by intro z; rw [z] at p0; exact Rat.lt_irrefl p0
  have e : x / p * p = x := Rat.div_mul_cancel pn
  constructor
  · refine Rat.not_lt.mp fun z => ?_
    have := Rat.mul_lt_mul_of_pos_right z p0
    grind
  · refine Rat.not_lt.mp fun z => ?_
    have := Rat.mul_lt_mul_of_pos_right z p0
    grind
theorem sm_b {B : Nat} {x : Rat} (h : 0 < B) (l : B.log2 ≤ 2830) (d : Dn B x) (h1 : -(1000000 : Rat) ≤ x) (h2 : x ≤ 1000000) : Sm x := by
  have vb := v_big
  exact sm_v h (by omega) d (by grind) (by grind)
theorem sh_ok {w : Wk} {rs : List (Fl × Rat)} {p : Rat} {B : Nat} (R : Rd w rs p B) : ∀ (done rest : List (Fl × Rat)), rs = done ++ rest → ∀ x ∈ shQ w.modes.length p done, Dn B x ∧ 0 ≤ x ∧ x ≤ (done.length : Rat) := by
  have go : ∀ (n : Nat) (done rest : List (Fl × Rat)), done.length = n → rs = done ++ rest → ∀ x ∈ shQ w.modes.length p done, Dn B x ∧ 0 ≤ x ∧ x ≤ (done.length : Rat) := ?_
  · exact fun done rest e => go _ done rest rfl e
  intro n
  induction n with
  | zero =>
    intro done rest l _ x hx
    have : done = [] := List.eq_nil_of_length_eq_zero l
    subst this
    have := List.eq_of_mem_replicate hx
    subst this
    exact ⟨Dn.int B 0, Rat.le_refl, Rat.le_refl⟩
  | succ n ih =>
    intro done0 rest l e x hx
    obtain ⟨done, r, rfl⟩ : ∃ done r, done0 = done ++ [r] := by
      have ne : done0 ≠ [] := by intro z; rw [z] at l; simp at l
      exact ⟨done0.dropLast, done0.getLast ne, (List.dropLast_concat_getLast ne).symm⟩
    rw [shQ_snoc] at hx
    have ih := ih done ([r] ++ rest) (by simpa using l) (by rw [e]; simp)
    obtain ⟨r0, r1, r2, _⟩ := R.each r (by rw [e]; simp)
    obtain ⟨d0, d1⟩ := div_in R.p0 r0 r1
    have el : ((done ++ [r]).length : Rat) = (done.length : Rat) + 1 := by
      rw [List.length_append, List.length_singleton, Rat.natCast_add]; rfl
    rw [el]
    unfold shStep at hx
    rcases List.mem_or_eq_of_mem_set hx with q | q
    · obtain ⟨a, b, c⟩ := ih x q
      exact ⟨a, b, by grind⟩
    · subst q
      have g : Dn B ((shQ w.modes.length p done).getD r.1.m.toNat 0) ∧ 0 ≤ (shQ w.modes.length p done).getD r.1.m.toNat 0 ∧ (shQ w.modes.length p done).getD r.1.m.toNat 0 ≤ (done.length : Rat) := by
        by_cases c : r.1.m.toNat < (shQ w.modes.length p done).length
        · exact ih _ (getD_mem c)
        · have : (shQ w.modes.length p done).getD r.1.m.toNat 0 = 0 := by
            rw [List.getD_eq_getElem?_getD, List.getElem?_eq_none (by omega)]; rfl
          rw [this]
          exact ⟨Dn.int B 0, Rat.le_refl, by exact_mod_cast Nat.zero_le _⟩
      obtain ⟨a, b, c⟩ := g
      exact ⟨a.add r2, by grind, by grind⟩
theorem sh_sm {w : Wk} {rs : List (Fl × Rat)} {p : Rat} {B : Nat} (R : Rd w rs p B) {done rest : List (Fl × Rat)} (e : rs = done ++ rest) : ∀ x ∈ shQ w.modes.length p done, Sm x := by
  intro x hx
  obtain ⟨a, b, c⟩ := sh_ok R done rest e x hx
  have l := R.len
  have : done.length < 400 := by rw [e, List.length_append] at l; omega
  have : (done.length : Rat) ≤ ((400 : Nat) : Rat) := by exact_mod_cast (show done.length ≤ 400 by omega)
  have e4 : ((400 : Nat) : Rat) = 400 := rfl
  exact sm_b R.B0 R.Bl a (by grind) (by grind)
/-- the flows of a ring -/
theorem flAt_flo {w : Wk} {n k : Nat} (hk : k < n) {f : Fl} (h : flO w k = some f) : flAt (runW w n).1 k = f := flAt_of (by rw [run_get hk]; exact h)
theorem rd_of {w : Wk} (hw : okW w) {i m : Nat} {t p : Rat} (h : fateOf (runW w 400) = .ring i m t p) {F : Nat → Fl} (hF : ∀ k, k ≤ i + m → flO w k = some (F k)) : ∃ B, Rd w (rl F i m) p B := by
  obtain ⟨f, g, m0, im, hf, hg, ht, hp, p0, _, _⟩ := ring_facts hw (by omega) h
  obtain ⟨N, a, b⟩ := all_dn hw
  have df := (a.dn i (by omega) f hf).1
  have dg := (a.dn (i + m) (by omega) g hg).1
  have dp : Dn N p := by rw [← hp]; exact dg.sub df
  obtain ⟨K, hK⟩ := dp
  have Np : (0 : Rat) < (N : Rat) := by exact_mod_cast a.pos
  have K0 : 0 < K := by
    have : (0 : Rat) < (K : Rat) := by rw [← hK]; exact Rat.mul_pos p0 Np
    exact_mod_cast this
  have pv : p ≤ 399600 := by
    have F0 := flo_flow hw (by omega) hf
    have G0 := flo_flow hw (by omega) hg
    have c : ((i + m : Nat) : Rat) ≤ ((400 : Nat) : Rat) := by exact_mod_cast (show i + m ≤ 400 by omega)
    have e : ((400 : Nat) : Rat) = 400 := rfl
    rw [e] at c
    have := F0.t0
    have := G0.t9
    grind
  have KN : K.toNat ≤ 399600 * N := by
    have u := Rat.mul_le_mul_of_nonneg_right pv (Rat.le_of_lt Np)
    rw [hK] at u
    have e : (399600 : Rat) * (N : Rat) = (((399600 * N : Nat) : Int) : Rat) := by
      have : (((399600 * N : Nat) : Int) : Rat) = ((399600 * N : Nat) : Rat) := rfl
      rw [this, Rat.natCast_mul]
      rfl
    rw [e] at u
    have : K ≤ ((399600 * N : Nat) : Int) := by exact_mod_cast u
    omega
  refine ⟨K.toNat, p0, by omega, ?_, by simp [rl]; omega, fun r hr => ?_⟩
  · have l1 := log2_mono KN
    have l2 := log2_mul_le 399600 N
    have l3 : Nat.log2 399600 = 18 := by decide +kernel
    omega
  · obtain ⟨x, hx, rfl⟩ := List.mem_map.mp hr
    have hx := List.mem_range.mp hx
    have h1 := hF (i + x) (by omega)
    have h2 := hF (i + x + 1) (by omega)
    have t1 := nxt_t hw (by omega) h1 h2
    have fl1 := flo_flow hw (by omega) h1
    have le1 : f.t ≤ (F (i + x)).t := by
      by_cases c : x = 0
      · subst c
        rw [Nat.add_zero, hf] at h1
        cases h1
        exact Rat.le_refl
      · obtain ⟨d, hd⟩ : ∃ d, i + x = i + d + 1 := ⟨x - 1, by omega⟩
        rw [hd] at h1 ⊢
        exact Rat.le_of_lt (time_lt hw d (by omega) hf h1)
    have le2 : (F (i + x + 1)).t ≤ g.t := by
      by_cases c : x + 1 = m
      · have : i + x + 1 = i + m := by omega
        rw [this, hg] at h2
        injection h2 with h2
        rw [this, ← h2]
        exact Rat.le_refl
      · obtain ⟨d, hd⟩ : ∃ d, i + m = i + x + 1 + d + 1 := ⟨m - x - 2, by omega⟩
        rw [hd] at hg
        exact Rat.le_of_lt (time_lt hw d (by omega) h2 hg)
    have dw : Dn N ((F (i + x + 1)).t - (F (i + x)).t) := (a.dn _ (by omega) _ h2).1.sub (a.dn _ (by omega) _ h1).1
    have w0 : 0 < (F (i + x + 1)).t - (F (i + x)).t := by grind
    have w1 : (F (i + x + 1)).t - (F (i + x)).t ≤ p := by grind
    have vb := v_big
    obtain ⟨pre, e⟩ := fl1.ms
    refine ⟨w0, w1, ?_, fl1.m, sm_v a.pos (by omega) dw (by grind) (by grind), by
      show L2.atI (F (i + x)).ms (-1) = some (F (i + x)).m
      rw [e]; exact atI_last _ _⟩
    obtain ⟨c, hc⟩ := dw
    refine ⟨c, ?_⟩
    show ((F (i + x + 1)).t - (F (i + x)).t) / p * ((K.toNat : Nat) : Rat) = (c : Rat)
    have eK : ((K.toNat : Nat) : Rat) = (K : Rat) := by
      have : ((K.toNat : Nat) : Int) = K := by omega
      have : (((K.toNat : Nat) : Int) : Rat) = (K : Rat) := by rw [this]
      exact this
    rw [eK, ← hK, ← hc]
    have pn : p ≠ 0 := by intro z; rw [z] at p0; exact Rat.lt_irrefl p0
    rw [← Rat.mul_assoc, Rat.div_mul_cancel pn]
/-- all shares together -/
theorem sh_one {w : Wk} (hw : okW w) {i m : Nat} {t p : Rat} (h : fateOf (runW w 400) = .ring i m t p) {F : Nat → Fl} (hF : ∀ k, k ≤ i + m → flO w k = some (F k)) : wsum (fun _ => 1) 0 (shQ w.modes.length p (rl F i m)) = 1 := by
  obtain ⟨f, g, m0, im, hf, hg, ht, hp, p0, _, _⟩ := ring_facts hw (by omega) h
  obtain ⟨B, R⟩ := rd_of hw h hF
  unfold shQ
  rw [wsum_sh _ p w.modes.length _ _ (List.length_replicate) (fun r hr => by have := (R.each r hr).2.2.2.1; omega), wsum_zero]
  have e : ((rl F i m).map fun r => (1 : Rat) * (r.2 / p)) = (List.range m).map fun a => ((fun a => (F (i + a)).t) (a + 1) - (fun a => (F (i + a)).t) a) / p := by
    unfold rl
    rw [List.map_map]
    refine List.map_congr_left fun a _ => ?_
    show (1 : Rat) * (((F (i + a + 1)).t - (F (i + a)).t) / p) = ((F (i + (a + 1))).t - (F (i + a)).t) / p
    rw [Rat.one_mul]
    rfl
  rw [e, tele (fun a => (F (i + a)).t) p m]
  have h1 := hF (i + m) (by omega)
  have h0 := hF i (by omega)
  rw [hg] at h1
  rw [hf] at h0
  injection h1 with h1
  injection h0 with h0
  show 0 + ((F (i + m)).t - (F (i + 0)).t) / p = 1
  rw [Nat.add_zero, ← h1, ← h0, hp]
  have pn : p ≠ 0 := by intro z; rw [z] at p0; exact Rat.lt_irrefl p0
  have : p / p = 1 := by
    have e : p / p * p = p := Rat.div_mul_cancel pn
    have e2 : (p / p - 1) * p = 0 := by grind
    rcases Rat.mul_eq_zero.mp e2 with q | q
    · grind
    · exact absurd q pn
  rw [this]
  grind
/-- each vessel comes back -/
theorem sh_zero {w : Wk} (hw : okW w) {i m : Nat} {t p : Rat} (h : fateOf (runW w 400) = .ring i m t p) {F : Nat → Fl} (hF : ∀ k, k ≤ i + m → flO w k = some (F k)) {v : Nat} (hv : v < w.brims.length) : wsum (fun k => (((w.modes.getD k ⟨[], []⟩).rates.getD v 0 : Int) : Rat)) 0 (shQ w.modes.length p (rl F i m)) = 0 := by
  obtain ⟨f, g, m0, im, hf, hg, ht, hp, p0, s1, s2⟩ := ring_facts hw (by omega) h
  obtain ⟨B, R⟩ := rd_of hw h hF
  unfold shQ
  rw [wsum_sh _ p w.modes.length _ _ (List.length_replicate) (fun r hr => by have := (R.each r hr).2.2.2.1; omega), wsum_zero]
  have e : ((rl F i m).map fun r => (((w.modes.getD r.1.m.toNat ⟨[], []⟩).rates.getD v 0 : Int) : Rat) * (r.2 / p)) = (List.range m).map fun a => ((fun a => (F (i + a)).lv.getD v 0) (a + 1) - (fun a => (F (i + a)).lv.getD v 0) a) / p := by
    unfold rl
    rw [List.map_map]
    refine List.map_congr_left fun a ha => ?_
    have ha := List.mem_range.mp ha
    have h1 := hF (i + a) (by omega)
    have h2 := hF (i + a + 1) (by omega)
    obtain ⟨far, x1, x2, x3⟩ := (flo_nxt hw (by omega) h1 h2).ex
    have em : (F (i + a)).ms.getLastD 0 = (F (i + a)).m := rfl
    rw [em] at x1 x3
    have F1 := flo_flow hw (by omega) h1
    obtain ⟨N, l1, _⟩ := F1.lw
    have om := hw.2.2.2.1 _ (show w.md (F (i + a)).m ∈ w.modes from getD_mem (by have := F1.m; omega))
    have at_ := after_at (lv := (F (i + a)).lv) (rs := (w.md (F (i + a)).m).rates) (t := far) (i := v) (by rw [l1.l0.len]; exact hv) (by rw [om.2.1]; exact hv)
    show ((((w.modes.getD (F (i + a)).m.toNat ⟨[], []⟩).rates.getD v 0 : Int) : Rat)) * (((F (i + a + 1)).t - (F (i + a)).t) / p) = ((F (i + (a + 1))).lv.getD v 0 - (F (i + a)).lv.getD v 0) / p
    have ew : (w.modes.getD (F (i + a)).m.toNat ⟨[], []⟩) = w.md (F (i + a)).m := rfl
    rw [ew, show i + (a + 1) = i + a + 1 by omega, x3, at_, x2]
    obtain ⟨y, hy⟩ : ∃ y, y = (F (i + a)).lv.getD v 0 := ⟨_, rfl⟩
    obtain ⟨r, hr⟩ : ∃ r : Rat, r = (((w.md (F (i + a)).m).rates.getD v 0 : Int) : Rat) := ⟨_, rfl⟩
    rw [← hy, ← hr, Rat.div_def, Rat.div_def]
    grind
  rw [e, tele (fun a => (F (i + a)).lv.getD v 0) p m]
  have h1 := hF (i + m) (by omega)
  have h0 := hF i (by omega)
  rw [hg] at h1
  rw [hf] at h0
  injection h1 with h1
  injection h0 with h0
  show 0 + ((F (i + m)).lv.getD v 0 - (F (i + 0)).lv.getD v 0) / p = 0
  rw [Nat.add_zero, ← h1, ← h0, s2]
  have : f.lv.getD v 0 - f.lv.getD v 0 = 0 := by grind
  rw [this, zdiv]
  grind
end PF

end

section
/-! P26: moments by fewer flows. -/
namespace PF
open PySem PySem.Spec PyProof.Rows L2
theorem TmOk.mk' {w : Wk} (hw : okW w) {x : Rat} (x0 : 0 ≤ x) (x9 : x ≤ (VX : Rat)) (l : x.den.log2 ≤ 1000) : TmOk w x := by
  obtain ⟨N, a, b⟩ := all_dn hw
  refine ⟨x0, x9, N * x.den, a.mul x.den_pos, ?_, ?_⟩
  · have := log2_mul_le N x.den
    omega
  · have d : Dn x.den x := ⟨x.num, num_abs x⟩
    exact d.of_dvd ⟨N, Nat.mul_comm _ _⟩
theorem TmOk.sm {w : Wk} {x : Rat} (X : TmOk w x) : Sm x := by
  obtain ⟨N, a, b, c⟩ := X.dn
  have := X.x0
  have := X.x9
  have vb := v_big
  exact sm_v a.pos b c (by grind) (by grind)
structure InFl (w : Wk) (f : Fl) (x : Rat) : Prop where
  m : 0 ≤ f.m ∧ f.m < w.modes.length
  sx : Sm x
  st : Sm f.t
  sd : Sm (x - f.t)
  sl : ∀ l ∈ f.lv, Sm l
  sr : ∀ r ∈ (w.md f.m).rates, Sm ((r : Rat) * (x - f.t))
  li : L2.atI f.ms (-1) = some f.m
  ll : f.lv.length = w.brims.length
theorem in_flow {w : Wk} (hw : okW w) {n : Nat} {f : Fl} (hn : n < 400) (hf : flO w n = some f) {x : Rat} (X : TmOk w x) (le : f.t ≤ x) : InFl w f x := by
  have F := flo_flow hw hn hf
  obtain ⟨N, a, b, c⟩ := X.dn
  obtain ⟨d1, d2⟩ := a.dn n hn f hf
  have x9 := X.x9
  have t0 := F.t0
  have vb := v_big
  have om := hw.2.2.2.1 _ (show w.md f.m ∈ w.modes from getD_mem (by have := F.m; omega))
  have dd : Dn N (x - f.t) := c.sub d1
  obtain ⟨N', l1, _, l3⟩ := F.lw
  obtain ⟨pre, e⟩ := F.ms
  refine ⟨F.m, X.sm, sm_v a.pos b d1 (by grind) (by grind), sm_v a.pos b dd (by grind) (by grind), fun l hl => l1.l0.ok.sm l hl, fun r hr => ?_, by rw [e]; exact atI_last _ _, l1.l0.len⟩
  obtain ⟨r1, r2⟩ := om.1 r hr
  have d0 : 0 ≤ x - f.t := by grind
  have d9 : x - f.t ≤ (VX : Rat) := by grind
  have q1 : ((-99 : Int) : Rat) ≤ (r : Rat) := by exact_mod_cast r1
  have e99 : ((-99 : Int) : Rat) = -99 := by decide +kernel
  rw [e99] at q1
  have q2 : (r : Rat) ≤ (99 : Rat) := by exact_mod_cast r2
  have u1 := Rat.mul_le_mul_of_nonneg_right q1 d0
  have u2 := Rat.mul_le_mul_of_nonneg_right q2 d0
  exact sm_v a.pos b (dd.imul r) (by grind) (by grind)
theorem ahead_app {A G : List Fl} {x : Rat} (h : ∀ g ∈ G, x < g.t) : aheadQ (A ++ G) x = aheadQ A x := by
  unfold aheadQ
  rw [List.filter_append]
  have : (G.filter fun f => !decide (x < f.t)) = [] := List.filter_eq_nil_iff.mpr fun g hg => by simp [h g hg]
  rw [this, List.append_nil]
theorem time_le {w : Wk} (hw : okW w) {i j : Nat} {f g : Fl} (ij : i ≤ j) (hj : j < 400) (hf : flO w i = some f) (hg : flO w j = some g) : f.t ≤ g.t := by
  by_cases c : i = j
  · subst c
    rw [hf] at hg
    cases hg
    exact Rat.le_refl
  · obtain ⟨d, hd⟩ : ∃ d, j = i + d + 1 := ⟨j - i - 1, by omega⟩
    exact Rat.le_of_lt (time_lt hw d (by omega) hf (by rw [← hd]; exact hg))
theorem time_lt' {w : Wk} (hw : okW w) {i j : Nat} {f g : Fl} (ij : i < j) (hj : j < 400) (hf : flO w i = some f) (hg : flO w j = some g) : f.t < g.t := by
  obtain ⟨d, hd⟩ : ∃ d, j = i + d + 1 := ⟨j - i - 1, by omega⟩
  exact time_lt hw d (by omega) hf (by rw [← hd]; exact hg)
/-- the end is no sooner than any flow -/
theorem end_late {w : Wk} (hw : okW w) {n : Nat} (hn : n ≤ 400) {k : Nat} {f : Fl} (hk : (runW w n).1[k]? = some f) :
    (∀ t v b l, (runW w n).2 = some (.over t v b l) → f.t ≤ t) ∧ (∀ t ms l, (runW w n).2 = some (.whirl t ms l) → f.t < t) := by
  have kl := (List.getElem?_eq_some_iff.mp hk).1
  have go : ∀ {P : List Fl} {g : Fl}, (runW w n).1 = P ++ [g] → f.t ≤ g.t := by
    intro P g e
    obtain ⟨e1, _, e3⟩ := last_flow hw hn e
    rw [e, List.length_append, List.length_singleton] at kl
    exact time_le hw (by omega) (by omega) (run_flo hk) e1
  constructor
  · intro t v b l h
    obtain ⟨P, g, far, e1, e2, e3, _⟩ := runW_end h
    obtain ⟨q1, F, _⟩ := last_flow hw hn e1
    obtain ⟨N, a1, _⟩ := F.lw
    have f0 := (after_lw hw a1 F.m F.nm e2).1
    have f0 : 0 ≤ far := f0
    have := go e1
    rw [e3]
    grind
  · intro t ms l h
    obtain ⟨m, _, ⟨z, _⟩ | ⟨P, g, far, e1, e2, e3, _⟩⟩ := runW_end h
    · rw [z] at kl; simp at kl
    · obtain ⟨q1, F, _⟩ := last_flow hw hn e1
      obtain ⟨N, a1, _⟩ := F.lw
      have f0 := farP hw a1 F.m F.nm e2
      have := go e1
      rw [e3]
      grind
theorem flLast_get {L : List Fl} (h : L ≠ []) : L[L.length - 1]? = some (flLast L) := by
  unfold flLast
  rw [List.getLastD_eq_getLast?, ← List.getLast?_eq_getElem?, List.getLast?_eq_some_getLast h]
  rfl
/-- what is asked ahead of the last flow is the same by more flows -/
theorem mom_stay {w : Wk} (hw : okW w) {n : Nat} (hn : n ≤ 400) {x : Rat} (x0 : 0 ≤ x) (h : fateOf (runW w n) = .opn → x < (flLast (runW w n).1).t) : momQ w x = momR w (runW w n) x := by
  unfold momQ
  rcases run_more (w := w) hn with e | ⟨o, len, G, e⟩
  · rw [e]
  · have gi : ∀ g ∈ G, ∃ d, n + d < 400 ∧ flO w (n + d) = some g := fun g hg => by
      obtain ⟨d, hd⟩ := List.getElem?_of_mem hg
      have q : (runW w 400).1[n + d]? = some g := by rw [e, List.getElem?_append_right (by omega), len]; simpa using hd
      have := (List.getElem?_eq_some_iff.mp q).1
      have := runW_len w 400
      exact ⟨d, by omega, run_flo q⟩
    cases hr : ringQ (runW w n).1 with
    | some p =>
      have ne : fateOf (runW w n) ≠ .opn := by unfold fateOf; rw [hr]; simp
      have fs := fate_stay hn ne
      unfold momR
      rw [fs]
      obtain ⟨i, j⟩ := p
      have hF : fateOf (runW w n) = .ring i (j - i) (flAt (runW w n).1 i).t ((flAt (runW w n).1 j).t - (flAt (runW w n).1 i).t) := by unfold fateOf; rw [hr]
      rw [hF]
      obtain ⟨f, g, m0, im, hf, hg, ht, hp, p0, _, _⟩ := ring_facts hw hn hF
      obtain ⟨y, hy⟩ : ∃ y, y = turnQ x (flAt (runW w n).1 i).t ((flAt (runW w n).1 j).t - (flAt (runW w n).1 i).t) := ⟨_, rfl⟩
      have yl : y < g.t := by
        rw [hy]
        by_cases c : x < (flAt (runW w n).1 i).t
        · unfold turnQ
          rw [if_pos c]
          grind
        · have := (turn_in c p0).2
          grind
      simp only
      rw [← hy, e, ahead_app fun g' hg' => by
        obtain ⟨d, d4, hd⟩ := gi g' hg'
        have := time_lt' hw (show i + (j - i) < n + d by omega) d4 hg hd
        grind]
    | none =>
      have hF : fateOf (runW w n) = .opn := by unfold fateOf; rw [hr, o]
      have xl := h hF
      have n0 : 0 < n := by
        apply Nat.pos_of_ne_zero
        intro z
        have : (runW w n).1 = [] := List.eq_nil_of_length_eq_zero (by omega)
        rw [this] at xl
        exact Rat.not_lt.mpr x0 xl
      have ne : (runW w n).1 ≠ [] := by intro z; rw [z] at len; simp at len; omega
      have lg := flLast_get ne
      rw [len] at lg
      have lf := run_flo lg
      have aa : aheadQ (runW w 400).1 x = aheadQ (runW w n).1 x := by
        rw [e]
        refine ahead_app fun g' hg' => ?_
        obtain ⟨d, d4, hd⟩ := gi g' hg'
        have := time_lt' hw (show n - 1 < n + d by omega) d4 lf hd
        grind
      have lg4 : (runW w 400).1[n - 1]? = some (flLast (runW w n).1) := by rw [run_get (by omega)]; exact lf
      have last4 : (flLast (runW w n).1).t ≤ (flLast (runW w 400).1).t := by
        have ne4 : (runW w 400).1 ≠ [] := by intro z; rw [z] at lg4; simp at lg4
        have l4 := flLast_get ne4
        have := (List.getElem?_eq_some_iff.mp lg4).1
        have := runW_len w 400
        exact time_le hw (show n - 1 ≤ (runW w 400).1.length - 1 by omega) (by omega) lf (run_flo l4)
      obtain ⟨ov, wh⟩ := end_late hw (show 400 ≤ 400 by omega) lg4
      have goal : momR w (runW w n) x = atQ w (flLast (aheadQ (runW w n).1 x)) x := by
        unfold momR
        rw [hF]
        simp only
        rw [if_pos xl]
      rw [goal]
      unfold momR
      cases hF4 : fateOf (runW w 400) with
      | ring i m t p =>
        obtain ⟨f, g, m0, im, hf, hg, ht, hp, p0, s1, s2⟩ := ring_facts hw (by omega) hF4
        have jn : n ≤ i + m := by
          apply Nat.not_lt.mp
          intro z
          have ap := ringQ_none hr
          have := ap i (i + m) f g (by omega) (by omega) (by rw [run_get (by omega)]; exact hf) (by rw [run_get (by omega)]; exact hg)
          rw [sameF_iff.mpr ⟨s1.symm, s2.symm⟩] at this
          cases this
        have tg := time_lt' hw (show n - 1 < i + m by omega) (by omega) lf hg
        have ts : turnQ x t p = x := turn_small (by grind) p0
        simp only
        rw [ts, aa]
      | opn =>
        simp only
        rw [if_pos (by grind), aa]
      | over t v b l =>
        have := ov t v b l (fate_over hF4)
        simp only
        rw [if_neg (by grind), aa]
      | whirl t ms l =>
        have := wh t ms l (fate_whirl hF4)
        simp only
        rw [if_neg (by grind), aa]
      | rest t m l =>
        simp only
        rw [aa]
end PF

end

section
/-! P28r: the program's rounds. -/
namespace PF
open PySem PySem.Spec PyProof.Rows L2
def encFW (r : Fl × Rat) : D := .tuple [encF r.1, encQ r.2]
theorem ixN_at {n : Nat} {i : Int} (h0 : 0 ≤ i) (h1 : i < n) : L2.ixN n i = some i.toNat := by
  unfold L2.ixN
  rw [if_pos h0, if_pos h1]
theorem ne_ring {s : Str} (h : cmpD .Eq (.d (.str s)) (.d (.str "ring")) = .ok (.d (.bool false))) (hs : SeqAt.shaped (.str s) = true) : cmpD .NotEq (.d (.str s)) (.d (.str "ring")) = .ok (.d (.bool true)) := by
  have e1 : cmpD .Eq (.d (.str s)) (.d (.str "ring")) = .ok (.d (.bool (PyData.eqv (.str s) (.str "ring")))) := M.chk_pos ⟨hs, by decide +kernel⟩
  rw [e1] at h
  have h : PyData.eqv (.str s) (.str "ring") = false := by injection h with h; injection h with h; injection h
  have e2 : cmpD .NotEq (.d (.str s)) (.d (.str "ring")) = .ok (.d (.bool (!PyData.eqv (.str s) (.str "ring")))) := M.chk_pos ⟨hs, by decide +kernel⟩
  rw [e2, h]
  rfl
@[simp] theorem nr_ring : cmpD .NotEq (.d (.str "ring")) (.d (.str "ring")) = .ok (.d (.bool false)) := (M.chk_pos ⟨by decide +kernel, by decide +kernel⟩).trans (by rw [boolR_eq]; simp [PyData.eqv])
@[simp] theorem nr_over : cmpD .NotEq (.d (.str "over")) (.d (.str "ring")) = .ok (.d (.bool true)) := ne_ring tg_over_ring (by decide +kernel)
@[simp] theorem nr_rest : cmpD .NotEq (.d (.str "rest")) (.d (.str "ring")) = .ok (.d (.bool true)) := ne_ring tg_rest_ring (by decide +kernel)
@[simp] theorem nr_whirl : cmpD .NotEq (.d (.str "whirl")) (.d (.str "ring")) = .ok (.d (.bool true)) := ne_ring tg_whirl_ring (by decide +kernel)
@[simp] theorem nr_open : cmpD .NotEq (.d (.str "open")) (.d (.str "ring")) = .ok (.d (.bool true)) := ne_ring tg_open_ring (by decide +kernel)
def isRing : Ft → Bool
  | .ring _ _ _ _ => true
  | _ => false
/-- the flows of a run, by number -/
def FL (w : Wk) (k : Nat) : Fl := flAt (runW w 400).1 k
theorem FL_flo {w : Wk} (hw : okW w) {i m : Nat} {t p : Rat} (h : fateOf (runW w 400) = .ring i m t p) : ∀ k, k ≤ i + m → flO w k = some (FL w k) := by
  obtain ⟨f, g, m0, im, hf, hg, _⟩ := ring_facts hw (by omega) h
  intro k hk
  obtain ⟨q, hq⟩ := flo_pre hg hk
  rw [hq]
  unfold FL
  rw [flAt_flo (by omega) hq]
theorem ring_of_no {k : Nat} {w : Wk} (hw : okW w) (h : isRing (fateOf (runW w 400)) = false) : runF tab (k + 8) i_ring_of [encW w] = .ex x_NoRing := by
  rw [runF_of tab_ring_of rfl]
  have kf : runF tab (k + 7) i_known_fate [encW w, .int 400] = _ := known_fate_ok (k := k) hw 400 (by omega)
  cases hF : fateOf (runW w 400) with
  | ring i m t p => rw [hF] at h; cases h
  | opn => rw [hF] at kf; simp [f_ring_of, startE, checked_ok, hw, kf, encFt]
  | over e v b l => rw [hF] at kf; simp [f_ring_of, startE, checked_ok, hw, kf, encFt]
  | whirl e ms l => rw [hF] at kf; simp [f_ring_of, startE, checked_ok, hw, kf, encFt]
  | rest e ms l => rw [hF] at kf; simp [f_ring_of, startE, checked_ok, hw, kf, encFt]
theorem ring_of_ok {k : Nat} {w : Wk} (hw : okW w) {i m : Nat} {t p : Rat} (h : fateOf (runW w 400) = .ring i m t p) : runF tab (k + 8) i_ring_of [encW w] = .ok (.d (.tuple [.list ((rl (FL w) i m).map encFW), encQ p])) := by
  rw [runF_of tab_ring_of rfl]
  have kf : runF tab (k + 7) i_known_fate [encW w, .int 400] = _ := known_fate_ok (k := k) hw 400 (by omega)
  rw [h] at kf
  have fl := FL_flo hw h
  obtain ⟨f, g, m0, im, hf, hg, ht, hp, p0, _, _⟩ := ring_facts hw (by omega) h
  obtain ⟨L, hL⟩ : ∃ L, L = (runW w 400).1 := ⟨_, rfl⟩
  have at_ : ∀ k, k ≤ i + m → L2.atI L (k : Int) = some (FL w k) := fun k hk => by rw [atI_nat', hL, run_get (by omega)]; exact fl k hk
  rw [← hL] at kf
  have sl := sizeLine_big
  have rg := rngD_off (a := (i : Int)) (n := m) (by omega) (by omega) (by omega) (b := (i : Int) + m) rfl
  obtain ⟨ρ, e, s6, J⟩ := forD_inv (tg := .name 6) (b := exB (runF tab (k + 7)) b_ring_of_1) (fun (a : Nat) => PyData.int ((i : Int) + (a : Int)))
    (fun done ρ => ∃ s6 : Sl, ρ = [.val (encW w), .val (encFt (.ring i m t p)), .val (.list (L.map encF)), .val (.int i), .val (.int m), .own (done.map fun a => encFW (FL w (i + a), (FL w (i + a + 1)).t - (FL w (i + a)).t)), s6])
    (List.range m) [.val (encW w), .val (encFt (.ring i m t p)), .val (.list (L.map encF)), .val (.int i), .val (.int m), .own [], .no] ⟨_, rfl⟩ (by
      intro done x rest ρ hd ⟨s6, q⟩
      subst q
      obtain ⟨dl, hx⟩ := range_at hd
      have lt : done.length < sizeLine := by omega
      have a1 := at_ (i + x) (by omega)
      have a2 := at_ (i + x + 1) (by omega)
      rw [show ((i + x : Nat) : Int) = (i : Int) + (x : Int) by omega] at a1
      rw [show ((i + x + 1 : Nat) : Int) = (i : Int) + (x : Int) + 1 by omega] at a2
      have s1 := (time_small hw (fl (i + x) (by omega)) (by omega)).1
      have s2 := (time_small hw (fl (i + x + 1) (by omega)) (by omega)).1
      have mi := minus_ok (k := k + 4) (FL w (i + x + 1)).t (FL w (i + x)).t s2 s1
      refine ⟨[.val (encW w), .val (encFt (.ring i m t p)), .val (.list (L.map encF)), .val (.int i), .val (.int m), .own (done.map fun a => encFW (FL w (i + a), (FL w (i + a + 1)).t - (FL w (i + a)).t)), .val (.int ((i : Int) + x))], [.val (encW w), .val (encFt (.ring i m t p)), .val (.list (L.map encF)), .val (.int i), .val (.int m), .own ((done ++ [x]).map fun a => encFW (FL w (i + a), (FL w (i + a + 1)).t - (FL w (i + a)).t)), .val (.int ((i : Int) + x))], by simp, .inl ?_, _, rfl⟩
      simp [b_ring_of_1, a1, a2, encF_t, mi, lt, encFW])
  subst J
  simp [f_ring_of, startE, checked_ok, hw, kf, encFt, rg]
  simp only [encFt] at e
  rw [e]
  simp [rl]
end PF

end

section
/-! P36: means and marks, pure. -/
namespace PF
open PySem PySem.Spec PyProof.Rows L2
/-- a round within sixty flows -/
structure R60 (w : Wk) (i m : Nat) (t p : Rat) (N : Nat) : Prop where
  hw : okW w
  ring : fateOf (runW w 400) = .ring i m t p
  im : i + m < 60
  m0 : 0 < m
  p0 : 0 < p
  p9 : p ≤ 60000
  N0 : 0 < N
  Nl : N.log2 ≤ 420
  dn : ∀ k, k ≤ i + m → Dn N (FL w k).t ∧ (∀ l ∈ (FL w k).lv, Dn N l) ∧ ∃ N', Lw N' w (FL w k).lv
  dp : Dn N p
  sp : Sm p
  wt : ∀ a, a < m → 0 < (FL w (i + a + 1)).t - (FL w (i + a)).t ∧ (FL w (i + a + 1)).t - (FL w (i + a)).t ≤ p
theorem r60 {w : Wk} (hw : okW w) {i m : Nat} {t p : Rat} (h : fateOf (runW w 400) = .ring i m t p) (im : i + m < 60) : ∃ N, R60 w i m t p N := by
  have fl := FL_flo hw h
  obtain ⟨f, g, m0, _, hf, hg, ht, hp, p0, _, _⟩ := ring_facts hw (by omega) h
  obtain ⟨N, a1, a2, a3, a4⟩ := flo_dn hw (i + m) (by omega) g hg
  have df := (a4 i (by omega) f hf).1
  have dp : Dn N p := by rw [← hp]; exact a3.sub df
  have G := flo_flow hw (by omega) hg
  have Ff := flo_flow hw (by omega) hf
  have c : ((i + m : Nat) : Rat) ≤ ((60 : Nat) : Rat) := by exact_mod_cast (show i + m ≤ 60 by omega)
  have e : ((60 : Nat) : Rat) = 60 := rfl
  rw [e] at c
  have g9 := G.t9
  have f0 := Ff.t0
  have p9 : p ≤ 60000 := by grind
  have vb := v_big
  obtain ⟨B, R⟩ := rd_of hw h fl
  refine ⟨N, hw, h, im, m0, p0, p9, a2.l0.pos, by omega, fun k hk => ?_, dp, sm_v a2.l0.pos (by omega) dp (by grind) (by grind), fun a ha => ?_⟩
  · obtain ⟨x, y⟩ := a4 k hk _ (fl k hk)
    obtain ⟨N', l, _⟩ := (flo_flow hw (by omega) (fl k hk)).lw
    exact ⟨x, y, N', l⟩
  · have := R.each (FL w (i + a), (FL w (i + a + 1)).t - (FL w (i + a)).t) (List.mem_map.mpr ⟨a, List.mem_range.mpr ha, rfl⟩)
    exact ⟨this.1, this.2.1⟩
section
variable {w : Wk} {i m : Nat} {t p : Rat} {N : Nat} (R : R60 w i m t p N)
include R
theorem R60.lev {k : Nat} (hk : k ≤ i + m) {v : Nat} (hv : v < w.brims.length) : Dn N ((FL w k).lv.getD v 0) ∧ 0 ≤ (FL w k).lv.getD v 0 ∧ (FL w k).lv.getD v 0 ≤ 999 ∧ Sm ((FL w k).lv.getD v 0) ∧ L2.atI (FL w k).lv (v : Int) = some ((FL w k).lv.getD v 0) := by
  obtain ⟨_, d, N', l⟩ := R.dn k hk
  have mem : (FL w k).lv.getD v 0 ∈ (FL w k).lv := getD_mem (by rw [l.l0.len]; exact hv)
  have g : (FL w k).lv[v]? = some ((FL w k).lv.getD v 0) := by
    rw [List.getD_eq_getElem?_getD, List.getElem?_eq_getElem (by rw [l.l0.len]; exact hv)]; rfl
  exact ⟨d _ mem, l.l0.lo _ mem, l.l0.hi _ mem, l.l0.ok.sm _ mem, by rw [atI_nat', g]⟩
theorem R60.step {a : Nat} (ha : a < m) : ∃ n, InFl w (FL w (i + a)) (FL w (i + a + 1)).t ∧ afterQ (FL w (i + a)).lv (w.md (FL w (i + a)).m).rates ((FL w (i + a + 1)).t - (FL w (i + a)).t) = (FL w (i + a + 1)).lv ∧ n = a := by
  have fl := FL_flo R.hw R.ring
  have im := R.im
  have h1 := fl (i + a) (by omega)
  have h2 := fl (i + a + 1) (by omega)
  obtain ⟨far, x1, x2, x3⟩ := (flo_nxt R.hw (by omega) h1 h2).ex
  have em : (FL w (i + a)).ms.getLastD 0 = (FL w (i + a)).m := rfl
  rw [em] at x3
  obtain ⟨M, b1, b2⟩ := all_dn R.hw
  have tm := time_small R.hw h2 (by omega)
  have G := flo_flow R.hw (by omega) h2
  have X : TmOk w (FL w (i + a + 1)).t := ⟨G.t0, tm.2, M, b1, by omega, (b1.dn _ (by omega) _ h2).1⟩
  have lt := nxt_t R.hw (by omega) h1 h2
  refine ⟨a, in_flow R.hw (by omega) h1 X (by grind), ?_, rfl⟩
  rw [x3, x2]
  congr 1
  grind
end
theorem Dn.mulQ {n m : Nat} {x y : Rat} (hx : Dn n x) (hy : Dn m y) : Dn (n * m) (x * y) := by
  obtain ⟨a, ha⟩ := hx
  obtain ⟨b, hb⟩ := hy
  refine ⟨a * b, ?_⟩
  rw [Rat.natCast_mul, Rat.intCast_mul, ← ha, ← hb]
  grind
theorem Dn.half {n : Nat} {x : Rat} (hx : Dn n x) : Dn (n * 2) (x * (1 / 2)) := by
  refine hx.mulQ ⟨1, by decide +kernel⟩
/-- a quotient of two over one denominator -/
theorem dn_quot {N : Nat} {x y : Rat} (N0 : 0 < N) (hx : Dn N x) (hy : Dn N y) (y0 : 0 < y) (y9 : y ≤ 1000000) : ∃ M : Nat, 0 < M ∧ M.log2 ≤ N.log2 + 21 ∧ (M : Rat) = y * (N : Rat) ∧ Dn M (x / y) := by
  obtain ⟨K, hK⟩ := hy
  obtain ⟨c, hc⟩ := hx
  have Np : (0 : Rat) < (N : Rat) := by exact_mod_cast N0
  have K0 : 0 < K := by
    have : (0 : Rat) < (K : Rat) := by rw [← hK]; exact Rat.mul_pos y0 Np
    exact_mod_cast this
  have KN : K.toNat ≤ 1000000 * N := by
    have u := Rat.mul_le_mul_of_nonneg_right y9 (Rat.le_of_lt Np)
    rw [hK] at u
    have e : (1000000 : Rat) * (N : Rat) = (((1000000 * N : Nat) : Int) : Rat) := by
      have : (((1000000 * N : Nat) : Int) : Rat) = ((1000000 * N : Nat) : Rat) := rfl
      rw [this, Rat.natCast_mul]
      rfl
    rw [e] at u
    have : K ≤ ((1000000 * N : Nat) : Int) := by exact_mod_cast u
    omega
  have eK : ((K.toNat : Nat) : Rat) = (K : Rat) := by
    have : ((K.toNat : Nat) : Int) = K := by omega
    have : (((K.toNat : Nat) : Int) : Rat) = (K : Rat) := by rw [this]
    exact this
  refine ⟨K.toNat, by omega, ?_, by rw [eK, hK], c, ?_⟩
  · have l1 := log2_mono KN
    have l2 := log2_mul_le 1000000 N
    have l3 : Nat.log2 1000000 = 19 := by decide +kernel
    omega
  · rw [eK, ← hK, ← hc]
    have pn : y ≠ 0 := by intro z; rw [z] at y0; exact Rat.lt_irrefl y0
    rw [← Rat.mul_assoc, Rat.div_mul_cancel pn]
/-! ### means -/
def midQ (w : Wk) (i : Nat) (v a : Nat) : Rat := ((FL w (i + a)).lv.getD v 0 + (FL w (i + a + 1)).lv.getD v 0) * (1 / 2) * ((FL w (i + a + 1)).t - (FL w (i + a)).t)
def sumMid (w : Wk) (i v m : Nat) : Rat := rsum ((List.range m).map (midQ w i v))
theorem sumMid_snoc (w : Wk) (i v m : Nat) : sumMid w i v (m + 1) = sumMid w i v m + midQ w i v m := by
  unfold sumMid
  rw [List.range_succ, List.map_append, rsum_append]
  simp only [List.map_cons, List.map_nil, rsum]
  grind
theorem sumMid_ok {w : Wk} {i m : Nat} {t p : Rat} {N : Nat} (R : R60 w i m t p N) {v : Nat} (hv : v < w.brims.length) : ∀ n, n ≤ m → Dn (N * 2 * N) (sumMid w i v n) ∧ 0 ≤ sumMid w i v n ∧ sumMid w i v n ≤ 999 * ((FL w (i + n)).t - (FL w i).t)
  | 0, _ => by
    refine ⟨Dn.int _ 0, Rat.le_refl, ?_⟩
    show (0 : Rat) ≤ 999 * ((FL w (i + 0)).t - (FL w i).t)
    rw [Nat.add_zero]
    grind
  | n + 1, h => by
    obtain ⟨a, b, c⟩ := sumMid_ok R hv n (by omega)
    obtain ⟨d1, l1, h1, _, _⟩ := R.lev (k := i + n) (by omega) hv
    obtain ⟨d2, l2, h2, _, _⟩ := R.lev (k := i + n + 1) (by omega) hv
    obtain ⟨w0, w1⟩ := R.wt n (by omega)
    have dw : Dn N ((FL w (i + n + 1)).t - (FL w (i + n)).t) := (R.dn _ (by omega)).1.sub (R.dn _ (by omega)).1
    rw [sumMid_snoc]
    have dm : Dn (N * 2 * N) (midQ w i v n) := ((d1.add d2).half).mulQ dw
    unfold midQ at dm ⊢
    obtain ⟨x, hx⟩ : ∃ x, x = ((FL w (i + n)).lv.getD v 0 + (FL w (i + n + 1)).lv.getD v 0) * (1 / 2) := ⟨_, rfl⟩
    obtain ⟨y, hy⟩ : ∃ y, y = (FL w (i + n + 1)).t - (FL w (i + n)).t := ⟨_, rfl⟩
    have x0 : 0 ≤ x := by grind
    have x9 : x ≤ 999 := by grind
    rw [← hx, ← hy] at dm ⊢
    rw [← hy] at w0 w1
    have u0 := Rat.mul_nonneg x0 (Rat.le_of_lt w0)
    have u1 := Rat.mul_le_mul_of_nonneg_right x9 (Rat.le_of_lt w0)
    exact ⟨a.add dm, by grind, by rw [show i + (n + 1) = i + n + 1 by omega]; grind⟩
end PF

end

section
/-! P19a: faster and greater. -/
namespace PF
open PySem PySem.Spec PyProof.Rows L2
def timesM (n : Int) (m : Md) : Md := ⟨m.rates.map (· * n), m.sws⟩
def fasterW (n : Int) (w : Wk) : Wk := ⟨w.brims, w.modes.map (timesM n), w.at_, w.levels⟩
def timesS (n : Int) (s : Sw) : Sw := ⟨s.v, s.up, s.mark * n, s.to⟩
def greaterM (n : Int) (m : Md) : Md := ⟨m.rates.map (· * n), m.sws.map (timesS n)⟩
def greaterW (n : Int) (w : Wk) : Wk := ⟨w.brims.map (· * n), w.modes.map (greaterM n), w.at_, w.levels.map (· * n)⟩
theorem look_times_ok {k : Nat} (n : Int) (h1 : 1 ≤ n) (h2 : n ≤ 9) : runF tab (k + 2) i_look_times [.int n] = .ok (.d .none) := by
  rw [runF_of tab_look_times rfl]
  simp [f_look_times, startE, h1, h2]
theorem looked_ok {k : Nat} (w : Wk) : runF tab (k + 5) i_looked [encW w] = if okW w then .ok (.d (encW w)) else .ex x_TooBig := by
  rw [runF_of tab_looked rfl]
  simp [f_looked, startE]
theorem faster_ok {k : Nat} (w : Wk) (n : Int) (hw : okW w) (h1 : 1 ≤ n) (h2 : n ≤ 9) : runF tab (k + 6) i_faster [encW w, .int n] = if okW (fasterW n w) then .ok (.d (encW (fasterW n w))) else .ex x_TooBig := by
  rw [runF_of tab_faster rfl]
  have b1 : -18446744073709551616 < n := by omega
  have b2 : n < 18446744073709551616 := by omega
  simp [f_faster, startE, checked_ok, hw, look_times_ok n h1 h2]
  rw [compD_map1 encM (fun m => encM (timesM n m))]
  · have e : PyData.tuple [encI w.brims, PyData.tuple (List.map (fun m => encM (timesM n m)) w.modes), PyData.tuple [PyData.int w.at_, encI w.levels]] = encW (fasterW n w) := by simp [encW, fasterW]
    simp [e, looked_ok]
  · intro m hm
    simp
    rw [compD_map1 PyData.int (fun r => PyData.int (r * n))]
    · simp [timesM, encM, encI]
    · intro x hx
      simp [b1, b2]
theorem greater_1 {k : Nat} {a0 s5 s6 s7 s8 s9 s10 s11 s12 s13 : Sl} (n : Int) (h1 : 1 ≤ n) (h2 : n ≤ 9) (ms : List D) (hl : ms.length ≤ 1000) (m : Md) :
    exB (runF tab k) b_greater_1 [a0, .val (.int n), .own ms, .val (encI m.rates), .val (.tuple (m.sws.map encS)), s5, s6, s7, s8, s9, s10, s11, s12, s13] =
      .nx [a0, .val (.int n), .own (ms ++ [encM (greaterM n m)]), .val (encI m.rates), .val (.tuple (m.sws.map encS)), .val (.list (m.sws.map fun s => encS (timesS n s))), s6, s7, s8, s9, s10, s11, s12, s13] := by
  have b1 : -18446744073709551616 < n := by omega
  have b2 : n < 18446744073709551616 := by omega
  have sl := sizeLine_big
  have lt : ms.length < sizeLine := by omega
  simp [b_greater_1]
  rw [compD_map1 encS (fun s => encS (timesS n s))]
  · simp
    rw [compD_map1 PyData.int (fun r => PyData.int (r * n))]
    · simp [lt]
      simp [greaterM, encM, encI]
    · intro x hx
      simp [b1, b2]
  · intro s hs
    simp [b1, b2]
    rfl
theorem greater_ok {k : Nat} (w : Wk) (n : Int) (hw : okW w) (h1 : 1 ≤ n) (h2 : n ≤ 9) : runF tab (k + 6) i_greater [encW w, .int n] = if okW (greaterW n w) then .ok (.d (encW (greaterW n w))) else .ex x_TooBig := by
  rw [runF_of tab_greater rfl]
  have b1 : -18446744073709551616 < n := by omega
  have b2 : n < 18446744073709551616 := by omega
  have wl : w.modes.length ≤ 12 := hw.2.2.1.2
  obtain ⟨ρ1, e1, t3, t4, t5, J⟩ := forD_inv (tg := .tup [.name 3, .name 4]) (b := exB (runF tab (k + 5)) b_greater_1) encM
    (fun done ρ => ∃ s3 s4 s5 : Sl, ρ = [.val (encW w), .val (.int n), .own (done.map fun m => encM (greaterM n m)), s3, s4, s5, .no, .no, .no, .no, .no, .no, .no, .no])
    w.modes [.val (encW w), .val (.int n), .own [], .no, .no, .no, .no, .no, .no, .no, .no, .no, .no, .no] ⟨_, _, _, rfl⟩
    (by
      intro done m rest ρ hd ⟨s3, s4, s5, q⟩
      subst q
      have dl : done.length ≤ 12 := by
        have := congrArg List.length hd
        simp at this
        omega
      have g := greater_1 (k := k + 5) (a0 := .val (encW w)) (s5 := s5) (s6 := .no) (s7 := .no) (s8 := .no) (s9 := .no) (s10 := .no) (s11 := .no) (s12 := .no) (s13 := .no) n h1 h2 (done.map fun m => encM (greaterM n m)) (by simp; omega) m
      refine ⟨_, _, by simp, .inl g, _, _, _, by rw [List.map_append]; rfl⟩)
  subst J
  simp [f_greater, startE, checked_ok, hw, look_times_ok n h1 h2]
  rw [e1]
  simp
  rw [compD_map1 PyData.int (fun r => PyData.int (r * n))]
  · simp
    rw [compD_map1 PyData.int (fun r => PyData.int (r * n))]
    · simp
      have e : PyData.tuple [encI (w.brims.map fun x => x * n), PyData.tuple (List.map (fun m => encM (greaterM n m)) w.modes), PyData.tuple [PyData.int w.at_, encI (w.levels.map fun x => x * n)]] = encW (greaterW n w) := by simp [encW, greaterW]
      simp [e, looked_ok]
    · intro x hx
      simp [b1, b2]
  · intro x hx
    simp [b1, b2]
end PF

end

section
/-! P63: works taken so many times: shares, means, and what the program makes. -/
namespace PF
open PySem PySem.Spec PyProof.Rows L2
theorem faster_scl (n : Int) (w : Wk) : fasterW n w = sclW 1 n w := by
  have e1 : ∀ xs : List Int, xs.map (· * (1 : Int)) = xs := fun xs => by
    have : xs.map (· * (1 : Int)) = xs.map id := List.map_congr_left fun x _ => Int.mul_one x
    rw [this, List.map_id]
  have e2 : ∀ xs : List Sw, xs.map (sclS 1) = xs := fun xs => by
    have : xs.map (sclS 1) = xs.map id := List.map_congr_left fun s _ => by
      cases s
      show Sw.mk _ _ _ _ = _
      rw [Int.mul_one]
      rfl
    rw [this, List.map_id]
  unfold fasterW sclW
  rw [e1, e1]
  congr 1
  refine List.map_congr_left fun m _ => ?_
  unfold timesM sclM
  rw [e2]
theorem greater_scl (n : Int) (w : Wk) : greaterW n w = sclW n n w := rfl
section
variable {c r : Int} (hc : 0 < c) (hr : 0 < r)
include hc hr
theorem FL_scl (w : Wk) (k : Nat) : FL (sclW c r w) k = upF c r (FL w k) := by
  unfold FL
  rw [runW_scl hc hr]
  exact flAt_scl _ _
theorem rl_scl (w : Wk) (i m : Nat) : rl (FL (sclW c r w)) i m = (rl (FL w) i m).map fun q => (upF c r q.1, q.2 * tau c r) := by
  unfold rl
  rw [List.map_map]
  refine List.map_congr_left fun a _ => ?_
  have e1 : ∀ f : Fl, (upF c r f).t = f.t * tau c r := fun _ => rfl
  simp only [Function.comp, FL_scl hc hr, e1]
  congr 1
  grind
theorem sh_scl (n : Nat) (p : Rat) (rs : List (Fl × Rat)) : shQ n (p * tau c r) (rs.map fun q => (upF c r q.1, q.2 * tau c r)) = shQ n p rs := by
  have go : ∀ (rs : List (Fl × Rat)) (acc : List Rat), (rs.map fun q => (upF c r q.1, q.2 * tau c r)).foldl (shStep (p * tau c r)) acc = rs.foldl (shStep p) acc := by
    intro rs
    induction rs with
    | nil => intro acc; rfl
    | cons q rs ih =>
      intro acc
      rw [List.map_cons, List.foldl_cons, List.foldl_cons]
      have e : shStep (p * tau c r) acc (upF c r q.1, q.2 * tau c r) = shStep p acc q := by
        unfold shStep
        have em : (upF c r q.1).m = q.1.m := rfl
        simp only [em, quot_scl hc hr]
      rw [e]
      exact ih _
  exact go rs _
theorem mid_scl (w : Wk) (i v a : Nat) : midQ (sclW c r w) i v a = midQ w i v a * (c : Rat) * tau c r := by
  have e1 : ∀ f : Fl, (upF c r f).t = f.t * tau c r := fun _ => rfl
  have e2 : ∀ f : Fl, (upF c r f).lv = upL c f.lv := fun _ => rfl
  unfold midQ
  simp only [FL_scl hc hr, e1, e2, getD_upL]
  grind
theorem rsum_scl (k : Rat) : ∀ xs : List Rat, rsum (xs.map (· * k)) = rsum xs * k
  | [] => by simp [rsum, Rat.zero_mul]
  | x :: xs => by
    simp only [List.map_cons, rsum, rsum_scl k xs]
    grind
theorem sumMid_scl (w : Wk) (i v m : Nat) : sumMid (sclW c r w) i v m = sumMid w i v m * (c : Rat) * tau c r := by
  unfold sumMid
  have : (List.range m).map (midQ (sclW c r w) i v) = ((List.range m).map (midQ w i v)).map (· * ((c : Rat) * tau c r)) := by
    rw [List.map_map]
    refine List.map_congr_left fun a _ => ?_
    rw [mid_scl hc hr]
    simp only [Function.comp]
    grind
  rw [this, rsum_scl hc hr]
  grind
theorem mean_scl (w : Wk) (i v m : Nat) (p : Rat) : sumMid (sclW c r w) i v m / (p * tau c r) = sumMid w i v m * (c : Rat) / p := by
  rw [sumMid_scl hc hr, quot_scl hc hr]
end
end PF

end

section
/-! P51: sums that never change: what the program tells. -/
namespace PF
open PySem PySem.Spec PyProof.Rows L2
def encR (r : List Int) : D := .list (r.map PyData.int)
def Bd (b : Nat) (r : List Int) : Prop := ∀ x ∈ r, x.natAbs < 2 ^ b
theorem bd_log {x : Int} {b : Nat} (h0 : 0 < b) (h : x.natAbs < 2 ^ b) : x.natAbs.log2 < b := PySem.Flt.log2_lt_of h0 h
theorem div_m {i j : Int} (h : j ≠ 0) (h2 : j.natAbs.log2 < 9000) : binD .FloorDiv (.d (.int i)) (.d (.int j)) = .ok (.d (.int (i.fdiv j))) := by
  rw [binD_div, M.chk_pos ⟨h, h2⟩]
theorem fdiv_le (x d : Int) (h : d ∣ x) : (x.fdiv d).natAbs ≤ x.natAbs := by
  by_cases z : d = 0
  · subst z; simp
  · have e := fdiv_exact h
    have : x.natAbs = d.natAbs * (x.fdiv d).natAbs := by rw [← Int.natAbs_mul, e]
    rw [this]
    exact Nat.le_mul_of_pos_left _ (by omega)
theorem prim_bd {b : Nat} {r : List Int} (h : Bd b r) : Bd b (prim r) := by
  unfold prim
  split
  · exact h
  · intro x hx
    obtain ⟨y, hy, rfl⟩ := List.mem_map.mp hx
    exact Nat.lt_of_le_of_lt (fdiv_le y _ (divisor_dvd y hy)) (h y hy)
theorem divisor_log {b : Nat} {r : List Int} (b0 : 0 < b) (h : Bd b r) (g : gcdL r ≠ 0) : (divisor r).natAbs.log2 < b := by
  obtain ⟨f1, rr, f2⟩ := firstN_mem g
  have fm : firstN r ∈ r := by
    have : firstN r ∈ r.filter fun x => !decide (x = 0) := by rw [f2]; simp
    exact (List.mem_filter.mp this).1
  have dv := divisor_dvd (row := r) (firstN r) fm
  have le : (divisor r).natAbs ≤ (firstN r).natAbs := Nat.le_of_dvd (by omega) (Int.natAbs_dvd_natAbs.mpr dv)
  exact bd_log b0 (Nat.lt_of_le_of_lt le (h _ fm))
theorem absI_eq (i : Int) : absI i = (i.natAbs : Int) := by unfold absI; split <;> omega
theorem primitive_ok {k b : Nat} {r : List Int} (b0 : 0 < b) (b9 : b ≤ 8000) (h : Bd b r) : ∃ x : R, runF tab (k + 2) i_primitive [encR r] = .ok x ∧ x.toD = encR (prim r) := by
  rw [runF_of tab_primitive rfl]
  obtain ⟨ρ, e, s2, J⟩ := forD_inv (tg := .name 2) (b := exB (runF tab (k + 1)) b_primitive_1) PyData.int
    (fun done ρ => ∃ s2 : Sl, ρ = [.val (encR r), .val (.int (gcdF 0 done)), s2, .no]) r [.val (encR r), .val (.int 0), .no, .no] ⟨_, rfl⟩ (by
      intro done x rest ρ hd ⟨s2, q⟩
      subst q
      have c := common_ok (k := k) (gcdF 0 done) x.natAbs
      refine ⟨[.val (encR r), .val (.int (gcdF 0 done)), .val (.int x), .no], _, by simp, .inl ?_, .val (.int x), rfl⟩
      rw [gcdF_snoc]
      simp [b_primitive_1, absI_eq, c])
  subst J
  have sq : seqD (.d (encR r)) = .ok (r.map PyData.int) := rfl
  by_cases g : gcdL r = 0
  · have g' : gcdF 0 r = 0 := g
    refine ⟨.d (encR r), ?_, by unfold prim; rw [if_pos g]; rfl⟩
    simp [f_primitive, startE, sq]
    rw [e]
    simp [g']
  · have g' : ¬ gcdF 0 r = 0 := g
    obtain ⟨f1, rr, f2⟩ := firstN_mem g
    have dn := divisor_ne g
    have dl := divisor_log b0 h g
    have dm : ∀ i : Int, binD .FloorDiv (.d (.int i)) (.d (.int (divisor r))) = .ok (.d (.int (i.fdiv (divisor r)))) := fun i => div_m dn (by omega)
    refine ⟨.o ((prim r).map PyData.int), ?_, rfl⟩
    have ep : prim r = r.map fun x => x.fdiv (divisor r) := by unfold prim; rw [if_neg g]
    rw [ep]
    obtain ⟨dv, hdv⟩ : ∃ dv, dv = divisor r := ⟨_, rfl⟩
    have hdv' : dv = if firstN r < 0 then -(gcdF 0 r : Int) else (gcdF 0 r : Int) := by rw [hdv]; rfl
    rw [← hdv] at dm ⊢
    simp [f_primitive, startE, sq]
    rw [e]
    simp [g', sq]
    rw [compD_map PyData.int (fun x => !decide (x = 0)) PyData.int]
    · rw [f2]
      simp
      by_cases n : firstN r < 0
      · rw [if_pos n] at hdv'
        rw [← hdv']
        simp [n, g', sq]
        rw [compD_map1 PyData.int (fun x => PyData.int (x.fdiv dv))]
        · simp
        · intro x hx
          exact ⟨_, setT_name _ _ _, by simp, by simp [dm]⟩
      · rw [if_neg n] at hdv'
        rw [← hdv']
        simp [n, g', sq]
        rw [compD_map1 PyData.int (fun x => PyData.int (x.fdiv dv))]
        · simp
        · intro x hx
          exact ⟨_, setT_name _ _ _, by simp, by simp [dm]⟩
    · intro x hx
      exact ⟨_, setT_name _ _ _, by simp, by simp⟩
theorem clrV_bd {b : Nat} {row lead : List Int} {p : Nat} (h1 : Bd b row) (h2 : Bd b lead) : Bd (2 * b + 1) (clrV row lead p) := by
  have at_ : ∀ (l : List Int), Bd b l → (l.getD p 0).natAbs < 2 ^ b := fun l hl => by
    by_cases c : p < l.length
    · exact hl _ (getD_mem c)
    · rw [List.getD_eq_getElem?_getD, List.getElem?_eq_none (by omega)]
      exact Nat.two_pow_pos b
  have gen : ∀ (u v : Int), u.natAbs < 2 ^ b → v.natAbs < 2 ^ b → ∀ (r l : List Int), Bd b r → Bd b l → Bd (2 * b + 1) (List.zipWith (fun a b => a * u - b * v) r l) := by
    intro u v hu hv r
    induction r with
    | nil => intro l _ _ x hx; simp at hx
    | cons a r ih =>
      intro l hr hl
      cases l with
      | nil => intro x hx; simp at hx
      | cons c l =>
        intro x hx
        rw [List.zipWith_cons_cons] at hx
        rcases List.mem_cons.mp hx with rfl | hx
        · have m1 := wide_lt (hr a (by simp)) hu
          have m2 := wide_lt (hl c (by simp)) hv
          have e : 2 ^ (2 * b + 1) = 2 ^ (b + b) + 2 ^ (b + b) := by rw [show 2 * b + 1 = (b + b) + 1 by omega, Nat.pow_succ]; omega
          rw [e]
          have := Int.natAbs_sub_le (a * u) (c * v)
          omega
        · exact ih l (fun y hy => hr y (by simp [hy])) (fun y hy => hl y (by simp [hy])) x hx
  exact gen _ _ (at_ lead h2) (at_ row h1) row lead h1 h2
theorem zipII (xs ys : List Int) : ((xs.map PyData.int).zip (ys.map PyData.int)).map (fun p => PyData.tuple [p.1, p.2]) = (xs.zip ys).map fun p : Int × Int => PyData.tuple [.int p.1, .int p.2] := by
  rw [List.zip_map, List.map_map]
  rfl
theorem zipWith_zip (f : Int → Int → Int) (xs ys : List Int) : List.zipWith f xs ys = (xs.zip ys).map fun p => f p.1 p.2 := by
  rw [List.zip_eq_zipWith, List.map_zipWith]
theorem encR_ix {r : List Int} {p : Nat} (h : p < r.length) : ixD (.d (encR r)) (.d (.int p)) = .ok (.d (.int (r.getD p 0))) := by
  show (M.opt (L2.atI (r.map PyData.int) (p : Int))).bind _ = _
  rw [atI_map, atI_pos (d := (0 : Int)) (by omega) (by omega)]
  simp
theorem mul_bd {i j : Int} {a b : Nat} (h1 : i.natAbs < 2 ^ a) (h2 : j.natAbs < 2 ^ b) (h : a + b ≤ 900000) : binD .Mult (.d (.int i)) (.d (.int j)) = .ok (.d (.int (i * j))) := by
  refine mul_w ?_
  have x1 := bd_log (b := a + 1) (by omega) (Nat.lt_of_lt_of_le h1 (Nat.pow_le_pow_right (by omega) (by omega)))
  have x2 := bd_log (b := b + 1) (by omega) (Nat.lt_of_lt_of_le h2 (Nat.pow_le_pow_right (by omega) (by omega)))
  omega
theorem cleared_ok {k b p : Nat} {row lead : List Int} (b9 : b ≤ 3000) (h1 : Bd b row) (h2 : Bd b lead) (hl : row.length = lead.length) (hp : p < row.length) : ∃ x : R, runF tab (k + 3) i_cleared [encR row, encR lead, .int p] = .ok x ∧ x.toD = encR (clr row lead p) := by
  rw [runF_of tab_cleared rfl]
  obtain ⟨x, e, ex⟩ := primitive_ok (k := k) (by omega) (by omega) (clrV_bd (p := p) h1 h2)
  refine ⟨x, ?_, ex⟩
  have sq : ∀ r, seqD (.d (encR r)) = .ok (r.map PyData.int) := fun _ => rfl
  have ir := encR_ix (r := row) hp
  have il := encR_ix (r := lead) (p := p) (by omega)
  obtain ⟨u, hu⟩ : ∃ u, u = lead.getD p 0 := ⟨_, rfl⟩
  obtain ⟨v, hv⟩ : ∃ v, v = row.getD p 0 := ⟨_, rfl⟩
  have bu : u.natAbs < 2 ^ b := by rw [hu]; exact h2 _ (getD_mem (by omega))
  have bv : v.natAbs < 2 ^ b := by rw [hv]; exact h1 _ (getD_mem (by omega))
  have ec : clrV row lead p = (row.zip lead).map fun q => q.1 * u - q.2 * v := by
    unfold clrV
    rw [zipWith_zip, hu, hv]
  rw [← hu] at il
  rw [← hv] at ir
  simp [f_cleared, startE, sq, zipII]
  rw [compD_map1 (fun p : Int × Int => PyData.tuple [.int p.1, .int p.2]) (fun q => PyData.int (q.1 * u - q.2 * v))]
  · have er : PyData.list ((row.zip lead).map fun q => PyData.int (q.1 * u - q.2 * v)) = encR (clrV row lead p) := by
      rw [ec]
      unfold encR
      rw [List.map_map]
      rfl
    simp [er, e]
  · intro q hq
    have m1 := (List.of_mem_zip hq).1
    have m2 := (List.of_mem_zip hq).2
    have x1 := mul_bd (h1 _ m1) bu (by omega)
    have x2 := mul_bd (h2 _ m2) bv (by omega)
    exact ⟨_, by simp; rfl, by simp, by simp [il, ir, x1, x2]⟩
theorem encR_inj {a b : List Int} (h : encR a = encR b) : a = b := by
  unfold encR at h
  injection h with h
  have := congrArg intsD h
  rw [intsD_ints, intsD_ints] at this
  exact Option.some.inj this
theorem lay_R (r : List Int) : Lay 1 (encR r) := lay_lm _ r fun x _ => lay_i x
theorem plain_R (r : List Int) : plain (encR r) = true := plain_lm _ r fun x _ => plain_i x
theorem ne_R (a b : List Int) : cmpD .NotEq (.d (encR a)) (.d (encR b)) = .ok (.d (.bool (!decide (a = b)))) := by
  rw [ne_plain (a := .d (encR a)) (b := .d (encR b)) (lay_R a) (lay_R b) (by omega) (by omega) (plain_R a) (plain_R b)]
  congr 4
  by_cases c : a = b
  · subst c; simp
  · have : ¬ encR a = encR b := fun z => c (encR_inj z)
    simp [c, this]
/-- bits by columns -/
def bitsN : Nat → Nat
  | 0 => 7
  | p + 1 => 2 * bitsN p + 1
theorem bits_mono : ∀ p, p ≤ 4 → bitsN p ≤ 127 ∧ 7 ≤ bitsN p := by
  intro p hp
  have : p = 0 ∨ p = 1 ∨ p = 2 ∨ p = 3 ∨ p = 4 := by omega
  rcases this with rfl | rfl | rfl | rfl | rfl <;> decide
structure InB' (s : Rs) (p : Nat) : Prop where
  l : ∀ r ∈ s.left, Bd (bitsN p) r
  q : ∀ q ∈ s.piv, Bd (bitsN p) q.1
theorem Bd.mono {a b : Nat} {r : List Int} (h : Bd a r) (l : a ≤ b) : Bd b r := fun x hx => Nat.lt_of_lt_of_le (h x hx) (Nat.pow_le_pow_right (by omega) l)
theorem redS_bd {s : Rs} {p : Nat} (h : InB' s p) : InB' (redS s p) (p + 1) := by
  have le : bitsN p ≤ bitsN (p + 1) := by show bitsN p ≤ 2 * bitsN p + 1; omega
  unfold redS
  cases hf : s.left.find? (fun r => !decide (r.getD p 0 = 0)) with
  | none => exact ⟨fun r hr => (h.l r hr).mono le, fun q hq => (h.q q hq).mono le⟩
  | some lead =>
    have bl := h.l lead (List.mem_of_find?_eq_some hf)
    refine ⟨fun r hr => ?_, fun q hq => ?_⟩
    · obtain ⟨r', hr', rfl⟩ := List.mem_map.mp hr
      exact prim_bd (clrV_bd (h.l r' (List.mem_filter.mp hr').1) bl)
    · rcases List.mem_append.mp hq with c | c
      · obtain ⟨q', hq', rfl⟩ := List.mem_map.mp c
        exact prim_bd (clrV_bd (h.q q' hq') bl)
      · rw [List.mem_singleton.mp c]
        exact (prim_bd bl).mono le
theorem redS_len {s : Rs} {p : Nat} : (redS s p).left.length ≤ s.left.length ∧ (redS s p).piv.length ≤ s.piv.length + 1 := by
  unfold redS
  cases hf : s.left.find? (fun r => !decide (r.getD p 0 = 0)) with
  | none => simp
  | some lead =>
    simp only [List.length_map, List.length_append, List.length_singleton]
    exact ⟨List.length_filter_le _ _, Nat.le_refl _⟩
abbrev leftD (s : Rs) : D := .list (s.left.map encR)
abbrev foundD (s : Rs) : D := .list (s.piv.map fun q => encR q.1)
abbrev placesL (s : Rs) : List D := s.piv.map fun q => PyData.int (q.2 : Int)
theorem red_turn {k n p : Nat} {rows : List (List Int)} {s : Rs} (I : Inv rows n s p) (B : InB' s p) (hp : p < n) (n4 : n ≤ 4) (l1 : s.left.length ≤ 100) (l2 : s.piv.length ≤ 100) (a0 a2 s6 s7 : Sl) :
    ∃ t6 t7 : Sl, exB (runF tab (k + 3)) b_reduced_1 [a0, .val (leftD s), a2, .val (foundD s), .own (placesL s), .val (.int p), s6, s7] = .nx [a0, .val (leftD (redS s p)), a2, .val (foundD (redS s p)), .own (placesL (redS s p)), .val (.int p), t6, t7] := by
  obtain ⟨b1, b2⟩ := bits_mono p (by omega)
  have filt : ∀ ρ : PF.Env, 2 < ρ.length → ρ.getD 5 .no = .val (.int p) → compD (.name 2) (evc (runF tab (k + 3)) [(.cmp .NotEq (.ix (.var 2) (.var 5)) (.con (.int 0)))]) (evT (runF tab (k + 3)) (.var 2)) ρ (s.left.map encR) = .ok ((s.left.filter fun r => !decide (r.getD p 0 = 0)).map encR) := by
    intro ρ h2 h5
    refine compD_map encR _ encR s.left fun r hr => ?_
    have ir := encR_ix (r := r) (p := p) (by have := I.ll r hr; omega)
    obtain ⟨v, hv⟩ : ∃ v, v = r.getD p 0 := ⟨_, rfl⟩
    rw [← hv] at ir ⊢
    have g2 : (ρ.set 2 (.val (encR r))).getD 2 .no = .val (encR r) := by rw [List.getD_eq_getElem?_getD, List.getElem?_set]; simp [h2]
    have g5 : (ρ.set 2 (.val (encR r))).getD 5 .no = .val (.int p) := by rw [List.getD_eq_getElem?_getD, List.getElem?_set]; simp [← List.getD_eq_getElem?_getD, h5]
    refine ⟨_, setT_name _ _ _, ?_, fun _ => ?_⟩
    · rw [evc_cons]
      simp only [pk_cmp, ev_cmp, pk_ix, ev_ix, pk_var, getP_eq, g2, ev_var, getV_eq, g5, M.bind_ok, ir, pk_con, ev_con, ne_i, truthy_b]
    · rw [evT_eq, ev_var, getV_eq, g2]
      rfl
  have f0 := filt [a0, .val (leftD s), .no, .val (foundD s), .own (placesL s), .val (.int p), s6, s7] (by simp) rfl
  unfold redS
  cases hf : s.left.find? (fun r => !decide (r.getD p 0 = 0)) with
  | none =>
    have fz : s.left.filter (fun r => !decide (r.getD p 0 = 0)) = [] := by
      rw [List.filter_eq_nil_iff]
      intro r hr
      have := List.find?_eq_none.mp hf r hr
      exact this
    rw [fz] at f0
    refine ⟨.val (.list []), s7, ?_⟩
    simp [b_reduced_1]
    rw [f0]
    simp
  | some lead =>
    have lm := List.mem_of_find?_eq_some hf
    have ll := I.ll lead lm
    have bl := B.l lead lm
    obtain ⟨fr, hfr⟩ : ∃ fr, s.left.filter (fun r => !decide (r.getD p 0 = 0)) = lead :: fr := by
      cases q : s.left.filter (fun r => !decide (r.getD p 0 = 0)) with
      | nil =>
        exfalso
        have h1 := List.filter_eq_nil_iff.mp q lead lm
        have h2 := List.find?_some (p := fun r : List Int => !decide (r.getD p 0 = 0)) hf
        exact h1 h2
      | cons a fr =>
        have : s.left.find? (fun r => !decide (r.getD p 0 = 0)) = some a := by rw [← List.head?_filter, q]; rfl
        rw [hf] at this
        cases this
        exact ⟨fr, rfl⟩
    rw [hfr] at f0
    obtain ⟨px, pe, pd⟩ := primitive_ok (k := k + 1) (by omega) (by omega) bl
    have pl := I.pl
    have sqL : seqD (.d (leftD s)) = .ok (s.left.map encR) := rfl
    have sqF : seqD (.d (foundD s)) = .ok (s.piv.map fun q => encR q.1) := rfl
    have c1 : ∀ s6' : Sl, compD (.name 2) (evc (runF tab (k + 3)) [(.cmp .NotEq (.var 2) (.var 7))]) (evT (runF tab (k + 3)) (.call i_cleared [(.var 2), (.var 7), (.var 5)])) [a0, .val (leftD s), .no, .val (foundD s), .own (placesL s), .val (.int p), s6', .val (encR lead)] (s.left.map encR) = .ok ((s.left.filter fun r => !decide (r = lead)).map fun r => encR (clr r lead p)) := fun s6' =>
      compD_map encR _ (fun r => encR (clr r lead p)) s.left fun r hr => by
        obtain ⟨x, xe, xd⟩ := cleared_ok (k := k) (p := p) (by omega) (B.l r hr) bl (by rw [I.ll r hr, ll]) (by rw [I.ll r hr]; exact hp)
        refine ⟨_, setT_name _ _ _, ?_, fun _ => ?_⟩
        · simp [ne_R]
        · simp [xe, xd]
    have c2 : ∀ s6' L : Sl, compD (.name 2) (evc (runF tab (k + 3)) []) (evT (runF tab (k + 3)) (.call i_cleared [(.var 2), (.var 7), (.var 5)])) [a0, L, .no, .val (foundD s), .own (placesL s), .val (.int p), s6', .val (encR lead)] (s.piv.map fun q => encR q.1) = .ok (s.piv.map fun q => encR (clr q.1 lead p)) := fun s6' L =>
      compD_map1 (fun q : List Int × Nat => encR q.1) (fun q => encR (clr q.1 lead p)) s.piv fun q hq => by
        obtain ⟨x, xe, xd⟩ := cleared_ok (k := k) (p := p) (by omega) (B.q q hq) bl (by rw [pl q hq, ll]) (by rw [pl q hq]; exact hp)
        refine ⟨_, setT_name _ _ _, by simp, ?_⟩
        simp [xe, xd]
    have ad : ∀ xs ys : List D, xs.length + ys.length ≤ 1000000 → binD .Add (.o xs) (.o ys) = .ok (.o (xs ++ ys)) := add_ll
    have al : (s.piv.map fun q => encR (clr q.1 lead p)).length + [encR (prim lead)].length ≤ 1000000 := by simp; omega
    have ad := ad _ _ al
    have sz : s.piv.length < sizeLine := by rw [sizeLine_eq]; omega
    refine ⟨.val (.list ((lead :: fr).map encR)), .val (encR lead), ?_⟩
    simp [b_reduced_1]
    rw [f0]
    simp
    rw [c1]
    simp
    rw [c2]
    simp [pe, pd, ad, sz]
    unfold placesL
    rw [List.map_append, List.map_map]
    rfl
theorem redF_bd {rows : List (List Int)} (h : ∀ r ∈ rows, Bd 7 r) : ∀ p, InB' ((List.range p).foldl redS ⟨rows, []⟩) p ∧ ((List.range p).foldl redS ⟨rows, []⟩).left.length ≤ rows.length ∧ ((List.range p).foldl redS ⟨rows, []⟩).piv.length ≤ p
  | 0 => ⟨⟨h, by simp⟩, Nat.le_refl _, Nat.le_refl _⟩
  | p + 1 => by
    obtain ⟨a, b, c⟩ := redF_bd h p
    rw [List.range_succ, List.foldl_append]
    have l := redS_len (s := (List.range p).foldl redS ⟨rows, []⟩) (p := p)
    exact ⟨redS_bd a, Nat.le_trans l.1 b, by have := l.2; simp only [List.foldl_cons, List.foldl_nil]; omega⟩
theorem reduced_ok {k n : Nat} {rows : List (List Int)} (hl : ∀ r ∈ rows, r.length = n) (n0 : 1 ≤ n) (n4 : n ≤ 4) (hb : ∀ r ∈ rows, Bd 7 r) (r0 : 1 ≤ rows.length) (r9 : rows.length ≤ 50) : runF tab (k + 4) i_reduced [.list (rows.map encR)] = .ok (.d (.tuple [foundD (redQ rows n), .list (placesL (redQ rows n))])) := by
  rw [runF_of tab_reduced rfl]
  have i0 : ixD (.d (.list (rows.map encR))) (.d (.int 0)) = .ok (.d (encR (rows.getD 0 []))) := by
    show (M.opt (L2.atI (rows.map encR) ((0 : Nat) : Int))).bind _ = _
    rw [atI_map, atI_pos (d := ([] : List Int)) (by omega) (by omega)]
    rfl
  have l0 : bltD .len [.d (encR (rows.getD 0 []))] = .ok (.d (.int n)) := by
    show M.ok (R.d (.int (((rows.getD 0 []).map PyData.int).length : Nat))) = _
    rw [List.length_map, hl _ (getD_mem (by omega))]
  obtain ⟨x0, hx0⟩ : ∃ x, x = encR (rows.getD 0 []) := ⟨_, rfl⟩
  rw [← hx0] at i0 l0
  have rg : rngD 0 (n : Int) = .ok ((List.range n).map fun (i : Nat) => PyData.int (i : Int)) := rngD_nat (by omega)
  have main : ∀ m, m ≤ n → ∀ s2 s5 s6 s7 : Sl, ∃ t2 t5 t6 t7 : Sl, forD (.name 5) (exB (runF tab (k + 3)) b_reduced_1) ((List.range m).map fun (i : Nat) => PyData.int (i : Int)) [.val (.list (rows.map encR)), .val (leftD ⟨rows, []⟩), s2, .val (foundD ⟨rows, []⟩), .own (placesL ⟨rows, []⟩), s5, s6, s7] =
      .nx [.val (.list (rows.map encR)), .val (leftD ((List.range m).foldl redS ⟨rows, []⟩)), t2, .val (foundD ((List.range m).foldl redS ⟨rows, []⟩)), .own (placesL ((List.range m).foldl redS ⟨rows, []⟩)), t5, t6, t7] := by
    intro m hm s2 s5 s6 s7
    obtain ⟨ρ, e, s2, s5, s6, s7, J⟩ := forD_inv (tg := .name 5) (b := exB (runF tab (k + 3)) b_reduced_1) (fun (i : Nat) => PyData.int (i : Int))
      (fun done ρ => ∃ s2 s5 s6 s7 : Sl, ρ = [.val (.list (rows.map encR)), .val (leftD (done.foldl redS ⟨rows, []⟩)), s2, .val (foundD (done.foldl redS ⟨rows, []⟩)), .own (placesL (done.foldl redS ⟨rows, []⟩)), s5, s6, s7]) (List.range m) [.val (.list (rows.map encR)), .val (leftD ⟨rows, []⟩), s2, .val (foundD ⟨rows, []⟩), .own (placesL ⟨rows, []⟩), s5, s6, s7] ⟨_, _, _, _, rfl⟩ (by
        intro done x rest ρ hd ⟨s2, s5, s6, s7, q⟩
        subst q
        obtain ⟨dl, hx⟩ := range_at hd
        have ed : done = List.range x := by
          have : done = (List.range m).take done.length := by rw [hd, List.take_left]
          rw [this, List.take_range, dl]
          congr 1
          omega
        subst ed
        obtain ⟨a, b, c⟩ := redF_bd hb x
        obtain ⟨t6, t7, r⟩ := red_turn (k := k) (redF_inv hl x) a (p := x) (by omega) n4 (by omega) (by omega) (.val (.list (rows.map encR))) s2 s6 s7
        refine ⟨[.val (.list (rows.map encR)), .val (leftD ((List.range x).foldl redS ⟨rows, []⟩)), s2, .val (foundD ((List.range x).foldl redS ⟨rows, []⟩)), .own (placesL ((List.range x).foldl redS ⟨rows, []⟩)), .val (.int x), s6, s7], _, by simp, .inl r, s2, .val (.int x), t6, t7, ?_⟩
        rw [List.foldl_append]
        rfl)
    exact ⟨s2, s5, s6, s7, by rw [e, J]⟩
  obtain ⟨t2, t5, t6, t7, e⟩ := main n (Nat.le_refl n) .no .no .no .no
  have eR : redQ rows n = (List.range n).foldl redS ⟨rows, []⟩ := rfl
  rw [← eR] at e
  have z1 : foundD ⟨rows, []⟩ = .list [] := rfl
  have z2 : placesL ⟨rows, []⟩ = [] := rfl
  have z3 : leftD ⟨rows, []⟩ = .list (rows.map encR) := rfl
  rw [z1, z2, z3] at e
  have ls : ∀ r, bltD .list [.d (encR r)] = .ok (.o (r.map PyData.int)) := fun _ => rfl
  simp [f_reduced, startE]
  rw [compD_map1 encR encR]
  · simp [i0, l0, rg]
    rw [e]
    simp
  · intro r hr
    exact ⟨_, setT_name _ _ _, by simp, by simp [ls]; rfl⟩
/-! ### weights -/
theorem lcm_int (w : Nat) {r : Int} (hr : 0 < r) : ((w : Int) * r) / ((Nat.gcd w r.toNat : Nat) : Int) = ((w.lcm r.toNat : Nat) : Int) := by
  obtain ⟨v, rfl⟩ : ∃ v : Nat, r = (v : Int) := ⟨r.toNat, by omega⟩
  rw [Int.toNat_natCast]
  unfold Nat.lcm
  rw [Int.natCast_ediv, Int.natCast_mul]
theorem whole_loop {k : Nat} (a0 a1 a2 a3 a4 a5 a6 a10 a11 : Sl) : ∀ (piv : List (List Int × Nat)) (w c : Nat) (s8 s9 : Sl), (∀ q ∈ piv, q.2 < q.1.length ∧ 0 < q.1.getD q.2 0 ∧ Bd 127 q.1) → 0 < w → w < 2 ^ (127 * c) → c + piv.length ≤ 10 →
    ∃ t8 t9 : Sl, forD (.tup [.name 8, .name 9]) (exB (runF tab (k + 1)) b_kept_2) (piv.map fun q => PyData.tuple [encR q.1, .int q.2]) [a0, a1, a2, a3, a4, a5, a6, .val (.int w), s8, s9, a10, a11] =
      .nx [a0, a1, a2, a3, a4, a5, a6, .val (.int ((piv.foldl (fun (w : Nat) q => w.lcm (q.1.getD q.2 0).toNat) w : Nat) : Int)), t8, t9, a10, a11] ∧ piv.foldl (fun w q => w.lcm (q.1.getD q.2 0).toNat) w < 2 ^ (127 * (c + piv.length))
  | [], w, c, s8, s9, _, _, hw, _ => ⟨s8, s9, rfl, by simpa using hw⟩
  | q :: piv, w, c, s8, s9, h, w0, hw, hc => by
    obtain ⟨q1, q2, q3⟩ := h q (by simp)
    have ir := encR_ix q1
    obtain ⟨v, hv⟩ : ∃ v, v = q.1.getD q.2 0 := ⟨_, rfl⟩
    have bv : v.natAbs < 2 ^ 127 := by rw [hv]; exact q3 _ (getD_mem q1)
    rw [← hv] at ir q2
    have mu := mul_bd (i := (w : Int)) (j := v) (a := 127 * c) (b := 127) (by simpa using hw) bv (by simp at hc; omega)
    have co := common_ok (k := k) w v.toNat
    have ev : ((v.toNat : Nat) : Int) = v := by omega
    rw [ev] at co
    have gp : 0 < Nat.gcd w v.toNat := Nat.gcd_pos_of_pos_left _ w0
    have gl : (Nat.gcd w v.toNat) < 2 ^ 127 := Nat.lt_of_le_of_lt (Nat.le_of_dvd (by omega) (Nat.gcd_dvd_right _ _)) (by omega)
    have dv : binD .FloorDiv (.d (.int ((w : Int) * v))) (.d (.int (Nat.gcd w v.toNat : Nat))) = .ok (.d (.int ((w.lcm v.toNat : Nat) : Int))) := by
      rw [div_w (by omega) (by have := bd_log (x := ((Nat.gcd w v.toNat : Nat) : Int)) (b := 127) (by omega) (by simpa using gl); omega), lcm_int w q2]
    have lw : w.lcm v.toNat < 2 ^ (127 * (c + 1)) := by
      have : w.lcm v.toNat ≤ w * v.toNat := Nat.div_le_self _ _
      have h2 : w * v.toNat < 2 ^ (127 * c) * 2 ^ 127 := Nat.mul_lt_mul'' hw (by omega)
      rw [← Nat.pow_add] at h2
      rw [show 127 * (c + 1) = 127 * c + 127 by omega]
      omega
    obtain ⟨t8, t9, e, b⟩ := whole_loop (k := k) a0 a1 a2 a3 a4 a5 a6 a10 a11 piv (w.lcm v.toNat) (c + 1) (.val (encR q.1)) (.val (.int q.2)) (fun q hq => h q (by simp [hq])) (Nat.lcm_pos w0 (by omega)) lw (by simp at hc; omega)
    refine ⟨t8, t9, ?_, ?_⟩
    · rw [List.map_cons, forD_cons]
      simp only [setT_tup, setTs_cons, setT_name, Option.bind_some, setTs_nil, optC_some, List.set_cons_succ, List.set_cons_zero]
      have st : exB (runF tab (k + 1)) b_kept_2 [a0, a1, a2, a3, a4, a5, a6, .val (.int w), .val (encR q.1), .val (.int q.2), a10, a11] = .nx [a0, a1, a2, a3, a4, a5, a6, .val (.int ((w.lcm v.toNat : Nat) : Int)), .val (encR q.1), .val (.int q.2), a10, a11] := by
        simp [b_kept_2, ir, mu, co, dv]
      rw [st, List.foldl_cons, ← hv]
      exact e
    · rw [List.foldl_cons, ← hv, List.length_cons, show c + (piv.length + 1) = c + 1 + piv.length by omega]
      exact b
theorem wts_loop {k free W n c : Nat} (hf : free < n) (n9 : n ≤ 100) (hc : c ≤ 3000) (W9 : W < 2 ^ c) (a0 a1 a2 a3 a4 a5 a11 : Sl) : ∀ (piv : List (List Int × Nat)) (wt : List Int) (s8 s9 : Sl), (∀ q ∈ piv, q.2 < n ∧ q.1.length = n ∧ 0 < q.1.getD q.2 0 ∧ Bd 127 q.1) → wt.length = n →
    ∃ t8 t9 : Sl, forD (.tup [.name 8, .name 9]) (exB (runF tab k) b_kept_3) (piv.map fun q => PyData.tuple [encR q.1, .int q.2]) [a0, a1, a2, a3, a4, a5, .val (.int free), .val (.int W), s8, s9, .own (wt.map PyData.int), a11] =
      .nx [a0, a1, a2, a3, a4, a5, .val (.int free), .val (.int W), t8, t9, .own ((piv.foldl (wtS free W) wt).map PyData.int), a11]
  | [], wt, s8, s9, _, _ => ⟨s8, s9, rfl⟩
  | q :: piv, wt, s8, s9, h, hl => by
    obtain ⟨q1, q2, q3, q4⟩ := h q (by simp)
    have ir := encR_ix (r := q.1) (p := q.2) (by omega)
    have jr := encR_ix (r := q.1) (p := free) (by omega)
    obtain ⟨v, hv⟩ : ∃ v, v = q.1.getD q.2 0 := ⟨_, rfl⟩
    obtain ⟨u, hu⟩ : ∃ u, u = q.1.getD free 0 := ⟨_, rfl⟩
    have bv : v.natAbs < 2 ^ 127 := by rw [hv]; exact q4 _ (getD_mem (by omega))
    have bu : u.natAbs < 2 ^ 127 := by rw [hu]; exact q4 _ (getD_mem (by omega))
    rw [← hv] at ir q3
    rw [← hu] at jr
    have mu := mul_bd (i := (W : Int)) (j := u) (a := c) (b := 127) (by simpa using W9) bu (by omega)
    have dv : binD .FloorDiv (.d (.int ((W : Int) * u))) (.d (.int v)) = .ok (.d (.int ((W : Int) * u / v))) := div_w q3 (by have := bd_log (b := 127) (by omega) bv; omega)
    have ix : L2.ixN wt.length (q.2 : Int) = some q.2 := by unfold L2.ixN; rw [if_pos (by omega), if_pos (by omega)]; simp
    obtain ⟨t8, t9, e⟩ := wts_loop (k := k) hf n9 hc W9 a0 a1 a2 a3 a4 a5 a11 piv (wtS free W wt q) (.val (encR q.1)) (.val (.int q.2)) (fun q hq => h q (by simp [hq])) (by unfold wtS; rw [List.length_set, hl])
    refine ⟨t8, t9, ?_⟩
    rw [List.map_cons, forD_cons]
    simp only [setT_tup, setTs_cons, setT_name, Option.bind_some, setTs_nil, optC_some, List.set_cons_succ, List.set_cons_zero]
    have ew : (wtS free W wt q).map PyData.int = (wt.map PyData.int).set q.2 (.int (0 - (W : Int) * u / v)) := by
      unfold wtS
      rw [List.map_set, ← hu, ← hv]
    have z : (0 : Int) - (W : Int) * u / v = -((W : Int) * u / v) := by omega
    rw [z] at ew
    have st : exB (runF tab k) b_kept_3 [a0, a1, a2, a3, a4, a5, .val (.int free), .val (.int W), .val (encR q.1), .val (.int q.2), .own (wt.map PyData.int), a11] = .nx [a0, a1, a2, a3, a4, a5, .val (.int free), .val (.int W), .val (encR q.1), .val (.int q.2), .own ((wtS free W wt q).map PyData.int), a11] := by
      rw [ew]
      simp [b_kept_3, ir, jr, mu, dv, ix]
    rw [st, List.foldl_cons]
    exact e
theorem wtS_bd {free W c : Nat} (hc : 2 ≤ c) (W9 : W < 2 ^ c) : ∀ (piv : List (List Int × Nat)) (wt : List Int), (∀ q ∈ piv, 0 < q.1.getD q.2 0 ∧ (q.1.getD free 0).natAbs < 2 ^ 127) → Bd (c + 127) wt → Bd (c + 127) (piv.foldl (wtS free W) wt)
  | [], wt, _, h => h
  | q :: piv, wt, hp, h => by
    rw [List.foldl_cons]
    refine wtS_bd hc W9 piv _ (fun q hq => hp q (by simp [hq])) fun x hx => ?_
    obtain ⟨p0, b⟩ := hp q (by simp)
    unfold wtS at hx
    rcases List.mem_or_eq_of_mem_set hx with m | e
    · exact h x m
    · subst e
      have m := wide_lt (i := (W : Int)) (j := q.1.getD free 0) (a := c) (b := 127) (by simpa using W9) b
      have d : ((W : Int) * q.1.getD free 0 / q.1.getD q.2 0).natAbs ≤ ((W : Int) * q.1.getD free 0).natAbs := Int.natAbs_ediv_le_natAbs _ _
      omega
theorem kept_ok {k n : Nat} {w : Wk} (hw : okW w) (hn : w.brims.length = n) : runF tab (k + 6) i_kept [encW w] = .ok (.o ((keptQ (w.modes.map (·.rates)) n).map encR)) := by
  rw [runF_of tab_kept rfl]
  have ck := checked_ok (k := k) w
  rw [if_pos hw] at ck
  have b4 := hw.2.1
  have m12 := hw.2.2.1
  obtain ⟨rows, hr⟩ : ∃ rows, rows = w.modes.map (·.rates) := ⟨_, rfl⟩
  have rl : ∀ r ∈ rows, r.length = n := fun r h => by
    rw [hr] at h
    obtain ⟨m, hm, rfl⟩ := List.mem_map.mp h
    have := (hw.2.2.2.1 m hm).2.1
    omega
  have rb : ∀ r ∈ rows, Bd 7 r := fun r h x hx => by
    rw [hr] at h
    obtain ⟨m, hm, rfl⟩ := List.mem_map.mp h
    have := (hw.2.2.2.1 m hm).1 x hx
    omega
  have rlen : rows.length = w.modes.length := by rw [hr]; simp
  have re := reduced_ok (k := k + 1) (n := n) rl (by omega) (by omega) rb (by omega) (by omega)
  have I := redQ_inv rl
  obtain ⟨B, _, pl⟩ := redF_bd rb n
  have eR : redQ rows n = (List.range n).foldl redS ⟨rows, []⟩ := rfl
  rw [← eR] at B pl
  have b127 := (bits_mono n (by omega)).1
  obtain ⟨s, hs⟩ : ∃ s, s = redQ rows n := ⟨_, rfl⟩
  rw [← hs] at re I B pl
  have pq : ∀ q ∈ s.piv, q.2 < q.1.length ∧ 0 < q.1.getD q.2 0 ∧ Bd 127 q.1 := fun q hq => ⟨by rw [I.pl q hq]; exact I.lt q hq, I.pos q hq, (B.q q hq).mono b127⟩
  have pq' : ∀ q ∈ s.piv, q.2 < n ∧ q.1.length = n ∧ 0 < q.1.getD q.2 0 ∧ Bd 127 q.1 := fun q hq => ⟨I.lt q hq, I.pl q hq, I.pos q hq, (B.q q hq).mono b127⟩
  have zp : ((s.piv.map fun q => encR q.1).zip (placesL s)).map (fun p => PyData.tuple [p.1, p.2]) = s.piv.map fun q => PyData.tuple [encR q.1, .int q.2] := by
    unfold placesL
    rw [List.zip_map', List.map_map]
    rfl
  have ls : ∀ r : List Int, bltD .list [.d (encI r)] = .ok (.o (r.map PyData.int)) := fun _ => rfl
  have sqF : seqD (.d (foundD s)) = .ok (s.piv.map fun q => encR q.1) := rfl
  have rg : rngD 0 (n : Int) = .ok ((List.range n).map fun (i : Nat) => PyData.int (i : Int)) := rngD_nat (by omega)
  have notin : ∀ i : Nat, cmpD .NotIn (.d (.int i)) (.d (.list (placesL s))) = .ok (.d (.bool (!(s.piv.map (·.2)).contains i))) := fun i => by
    have all : (placesL s).all flatD = true := by rw [List.all_eq_true]; intro d hd; obtain ⟨q, _, rfl⟩ := List.mem_map.mp hd; rfl
    refine (M.chk_pos ⟨rfl, all⟩).trans ?_
    rw [boolR_eq]
    congr 4
    unfold inD placesL
    rw [List.any_map]
    have : ∀ l : List (List Int × Nat), l.any ((fun y => PyData.eqv y (.int i)) ∘ fun q => PyData.int (q.2 : Int)) = (l.map (·.2)).contains i := by
      intro l
      induction l with
      | nil => rfl
      | cons q l ih =>
        rw [List.any_cons, ih, List.map_cons, List.contains_cons]
        have e : ((fun y => PyData.eqv y (.int i)) ∘ fun q : List Int × Nat => PyData.int (q.2 : Int)) q = ((q.2 : Int) == (i : Int)) := by simp only [Function.comp, PyData.eqv]
        rw [e]
        have e2 : ((q.2 : Int) == (i : Int)) = (i == q.2) := by
          rw [Bool.eq_iff_iff, beq_iff_eq, beq_iff_eq]
          omega
        rw [e2]
    exact this s.piv
  obtain ⟨ρ, e, s6, s7, s8, s9, s10, s11, J⟩ := forD_inv (tg := .name 6) (b := exB (runF tab (k + 5)) b_kept_1) (fun (i : Nat) => PyData.int (i : Int))
    (fun done ρ => ∃ s6 s7 s8 s9 s10 s11 : Sl, ρ = [.val (encW w), .val (.int n), .val (foundD s), .val (.list (placesL s)), .no, .own (((done.filter fun f => !(s.piv.map (·.2)).contains f).map fun f => prim (wts s.piv n f)).map encR), s6, s7, s8, s9, s10, s11])
    (List.range n) [.val (encW w), .val (.int n), .val (foundD s), .val (.list (placesL s)), .no, .own [], .no, .no, .no, .no, .no, .no] ⟨_, _, _, _, _, _, rfl⟩ (by
      intro done x rest ρ hd ⟨s6, s7, s8, s9, s10, s11, q⟩
      subst q
      obtain ⟨dl, hx⟩ := range_at hd
      obtain ⟨L, hL⟩ : ∃ L, L = ((done.filter fun f => !(s.piv.map (·.2)).contains f).map fun f => prim (wts s.piv n f)).map encR := ⟨_, rfl⟩
      have Ll : L.length ≤ 10 := by
        rw [hL, List.length_map, List.length_map]
        have := List.length_filter_le (fun f => !(s.piv.map (·.2)).contains f) done
        omega
      have ni := notin x
      have sp : ((done ++ [x]).filter fun f => !(s.piv.map (·.2)).contains f) = (done.filter fun f => !(s.piv.map (·.2)).contains f) ++ if (!(s.piv.map (·.2)).contains x) = true then [x] else [] := by
        rw [List.filter_append, List.filter_cons, List.filter_nil]
      rw [sp, List.map_append, List.map_append, ← hL]
      obtain ⟨bo, hbo⟩ : ∃ bo, bo = (!(s.piv.map (·.2)).contains x) := ⟨_, rfl⟩
      rw [← hbo] at ni ⊢
      cases bo with
      | false =>
        refine ⟨[.val (encW w), .val (.int n), .val (foundD s), .val (.list (placesL s)), .no, .own L, .val (.int x), s7, s8, s9, s10, s11], _, by simp, .inl ?_, .val (.int x), s7, s8, s9, s10, s11, rfl⟩
        simp [b_kept_1, ni]
      | true =>
        obtain ⟨t8, t9, e1, wb⟩ := whole_loop (k := k + 4) (.val (encW w)) (.val (.int n)) (.val (foundD s)) (.val (.list (placesL s))) .no (.own L) (.val (.int x)) s10 s11 s.piv 1 1 s8 s9 pq (by omega) (by omega) (by omega)
        obtain ⟨W, hW⟩ : ∃ W, W = wholeQ s.piv := ⟨_, rfl⟩
        have eW : s.piv.foldl (fun w q => w.lcm (q.1.getD q.2 0).toNat) 1 = W := by rw [hW]; rfl
        rw [eW] at e1 wb
        have W9 : W < 2 ^ 700 := Nat.lt_of_lt_of_le wb (Nat.pow_le_pow_right (by omega) (by omega))
        obtain ⟨u8, u9, e2⟩ := wts_loop (k := k + 5) (free := x) (W := W) (n := n) hx (by omega) (c := 700) (by omega) W9 (.val (encW w)) (.val (.int n)) (.val (foundD s)) (.val (.list (placesL s))) .no (.own L) s11 s.piv ((List.replicate n 0).set x (W : Int)) t8 t9 pq' (by simp)
        have ew : s.piv.foldl (wtS x W) ((List.replicate n 0).set x (W : Int)) = wts s.piv n x := by rw [hW]; rfl
        have wbd : Bd (700 + 127) (wts s.piv n x) := by
          rw [← ew]
          refine wtS_bd (c := 700) (by omega) W9 s.piv _ (fun q hq => ⟨(pq q hq).2.1, (pq q hq).2.2 _ (getD_mem (by rw [I.pl q hq]; exact hx))⟩) fun y hy => ?_
          rcases List.mem_or_eq_of_mem_set hy with m | e
          · rw [List.eq_of_mem_replicate m]
            exact Nat.two_pow_pos _
          · subst e
            have : W < 2 ^ (700 + 127) := Nat.lt_of_lt_of_le W9 (Nat.pow_le_pow_right (by omega) (by omega))
            simpa using this
        rw [ew] at e2
        obtain ⟨px, pe, pd⟩ := primitive_ok (k := k + 3) (by omega) (by omega) wbd
        have ix : L2.ixN n (x : Int) = some x := by unfold L2.ixN; rw [if_pos (by omega), if_pos (by omega)]; simp
        have sz : L.length < sizeLine := by rw [sizeLine_eq]; omega
        refine ⟨[.val (encW w), .val (.int n), .val (foundD s), .val (.list (placesL s)), .no, .own L, .val (.int x), s7, s8, s9, s10, s11], [.val (encW w), .val (.int n), .val (foundD s), .val (.list (placesL s)), .no, .own (L ++ [encR (prim (wts s.piv n x))]), .val (.int x), .val (.int W), u8, u9, .val (encR (wts s.piv n x)), s11], by simp, .inl ?_, .val (.int x), .val (.int W), u8, u9, .val (encR (wts s.piv n x)), s11, by simp⟩
        have z1 : (1 : Int) = ((1 : Nat) : Int) := rfl
        have zc : ∀ l : List Nat, l.map (fun _ => PyData.int 0) = List.replicate l.length (PyData.int 0) := fun l => by rw [List.map_const']
        have er : ((List.replicate n (0 : Int)).set x (W : Int)).map PyData.int = (List.replicate n (PyData.int 0)).set x (.int W) := by rw [List.map_set, List.map_replicate]
        rw [er] at e2
        have e1' : forD (.tup [.name 8, .name 9]) (exB (runF tab (k + 5)) b_kept_2) (s.piv.map fun q => PyData.tuple [encR q.1, .int q.2]) [.val (encW w), .val (.int n), .val (foundD s), .val (.list (placesL s)), .no, .own L, .val (.int x), .val (.int 1), s8, s9, s10, s11] = .nx [.val (encW w), .val (.int n), .val (foundD s), .val (.list (placesL s)), .no, .own L, .val (.int x), .val (.int W), t8, t9, s10, s11] := e1
        simp [b_kept_1, ni, sqF, zp]
        rw [e1']
        simp [rg]
        rw [compD_map1 (fun (i : Nat) => PyData.int (i : Int)) (fun _ => PyData.int 0)]
        · simp [zc, ix, sqF, zp]
          rw [e2]
          have pe' : runF tab (k + 5) i_primitive [PyData.list (List.map PyData.int (wts s.piv n x))] = .ok px := pe
          have lt : L.length < sizeLine := sz
          simp [pe', pd, lt]
          rfl
        · intro i hi
          exact ⟨_, setT_name _ _ _, by simp, by simp⟩)
  subst J
  simp [f_kept, startE, ck, hn]
  rw [compD_map1 encM (fun m => encR m.rates)]
  · have em : List.map (fun m => encR m.rates) w.modes = rows.map encR := by rw [hr, List.map_map]; rfl
    rw [em]
    simp [re, rg]
    have ek : keptQ (w.modes.map (·.rates)) n = ((List.range n).filter fun f => !(s.piv.map (·.2)).contains f).map fun f => prim (wts s.piv n f) := by rw [← hr, hs]; rfl
    rw [e, ek]
    simp
  · intro m hm
    exact ⟨_, setT_name _ _ _, by simp, by simp [ls]; rfl⟩
end PF

end

section
/-! P37: the program's means. -/
namespace PF
open PySem PySem.Spec PyProof.Rows L2
theorem half_ok {k : Nat} : runF tab (k + 2) i_fraction [.int 1, .int 2] = .ok (.d (encQ (1 / 2))) := by
  have f := fraction_ok (k := k) 1 2 (by omega) (by decide +kernel)
  have e : Rat.divInt 1 2 = (1 / 2 : Rat) := by decide +kernel
  rw [e] at f
  exact f
theorem mean_2 {k : Nat} {w : Wk} {i m : Nat} {t p : Rat} {N : Nat} (R : R60 w i m t p N) (a1 a2 a3 s8 s9 : Sl) {v : Nat} (hv : v < w.brims.length) {a : Nat} (ha : a < m) :
    exB (runF tab (k + 4)) b_means_2 [.val (encW w), a1, a2, a3, .val (.int v), .val (encQ (sumMid w i v a)), .val (encF (FL w (i + a))), .val (encQ ((FL w (i + a + 1)).t - (FL w (i + a)).t)), s8, s9] =
      .nx [.val (encW w), a1, a2, a3, .val (.int v), .val (encQ (sumMid w i v (a + 1))), .val (encF (FL w (i + a))), .val (encQ ((FL w (i + a + 1)).t - (FL w (i + a)).t)), .val (encL (FL w (i + a + 1)).lv), .val (encQ (((FL w (i + a)).lv.getD v 0 + (FL w (i + a + 1)).lv.getD v 0) * (1 / 2)))] := by
  obtain ⟨_, I, e, _⟩ := R.step ha
  have la := levels_after_ok (k := k) (FL w (i + a)).lv (FL w (i + a)).m _ R.hw I.m I.sd I.sl I.sr
  rw [e] at la
  obtain ⟨d1, l1, h1, s1, t1⟩ := R.lev (k := i + a) (by omega) hv
  obtain ⟨d2, l2, h2, s2, t2⟩ := R.lev (k := i + a + 1) (by omega) hv
  obtain ⟨w0, w1⟩ := R.wt a ha
  have p9 := R.p9
  have vb := v_big
  have vb2 : (100000000 : Rat) ≤ (VX : Rat) := by decide +kernel
  have n0 := R.N0
  have nl := R.Nl
  obtain ⟨sd, s0, s9'⟩ := sumMid_ok R hv a (by omega)
  obtain ⟨se, e0, e9⟩ := sumMid_ok R hv (a + 1) (by omega)
  have tl : (FL w (i + (a + 1))).t - (FL w i).t ≤ 60000 := by
    obtain ⟨G, _⟩ : ∃ n, n = 0 := ⟨0, rfl⟩
    have fl := FL_flo R.hw R.ring
    have im := R.im
    have F1 := flo_flow R.hw (by omega) (fl (i + (a + 1)) (by omega))
    have F0 := flo_flow R.hw (by omega) (fl i (by omega))
    have c : ((i + (a + 1) : Nat) : Rat) ≤ ((60 : Nat) : Rat) := by exact_mod_cast (show i + (a + 1) ≤ 60 by omega)
    have e : ((60 : Nat) : Rat) = 60 := rfl
    rw [e] at c
    have := F1.t9
    have := F0.t0
    grind
  have li := I.li
  obtain ⟨x1, hx1⟩ : ∃ x, x = (FL w (i + a)).lv.getD v 0 := ⟨_, rfl⟩
  obtain ⟨x2, hx2⟩ : ∃ x, x = (FL w (i + a + 1)).lv.getD v 0 := ⟨_, rfl⟩
  obtain ⟨wt, hwt⟩ : ∃ x, x = (FL w (i + a + 1)).t - (FL w (i + a)).t := ⟨_, rfl⟩
  have sw : Sm wt := by rw [hwt]; exact I.sd
  have dw : Dn N wt := by rw [hwt]; exact (R.dn _ (by omega)).1.sub (R.dn _ (by omega)).1
  rw [← hx1] at d1 l1 h1 s1 t1 ⊢
  rw [← hx2] at d2 l2 h2 s2 t2 ⊢
  rw [← hwt] at la w0 w1 ⊢
  have sn := sumMid_snoc w i v a
  unfold midQ at sn
  rw [← hx1, ← hx2, ← hwt] at sn
  have pl := plus_ok (k := k + 1) x1 x2 s1 s2
  have sx : Sm (x1 + x2) := sm_v n0 (by omega) (d1.add d2) (by grind) (by grind)
  have sh : Sm (1 / 2 : Rat) := ⟨by decide +kernel, by decide +kernel⟩
  have tm := times_ok (k := k + 1) (x1 + x2) (1 / 2) sx sh
  have hf := half_ok (k := k + 2)
  obtain ⟨mid, hmid⟩ : ∃ x, x = (x1 + x2) * (1 / 2) := ⟨_, rfl⟩
  have dm : Dn (N * 2) mid := by rw [hmid]; exact (d1.add d2).half
  have m0 : 0 ≤ mid := by grind
  have m9 : mid ≤ 999 := by grind
  rw [← hmid] at tm sn ⊢
  have N2 : (N * 2).log2 ≤ 422 := by
    have := log2_mul_le N 2
    have l : Nat.log2 2 = 1 := by decide +kernel
    omega
  have N3 : (N * 2 * N).log2 ≤ 843 := by
    have := log2_mul_le (N * 2) N
    omega
  have np : 0 < N * 2 := by omega
  have np3 : 0 < N * 2 * N := Nat.mul_pos np n0
  have sm : Sm mid := sm_v np (by omega) dm (by grind) (by grind)
  have tm2 := times_ok (k := k + 1) mid wt sm sw
  have u0 := Rat.mul_nonneg m0 (Rat.le_of_lt w0)
  have u1 := Rat.mul_le_mul_of_nonneg_right m9 (Rat.le_of_lt w0)
  have sp2 : Sm (mid * wt) := sm_v np3 (by omega) (dm.mulQ dw) (by grind) (by grind)
  have ss : Sm (sumMid w i v a) := sm_v np3 (by omega) sd (by grind) (by
    have : sumMid w i v a ≤ sumMid w i v (a + 1) := by rw [sn]; grind
    grind)
  have pl2 := plus_ok (k := k + 1) (sumMid w i v a) (mid * wt) ss sp2
  rw [← sn] at pl2
  have e1 : ixD (.d (encF (FL w (i + a)))) (.d (.int 1)) = .ok (.d (encI (FL w (i + a)).ms)) := rfl
  have e2 : ixD (.d (encF (FL w (i + a)))) (.d (.int 2)) = .ok (.d (encL (FL w (i + a)).lv)) := rfl
  simp [b_means_2, e1, e2, li, la, t1, t2, pl, hf, tm, tm2, pl2]
theorem means_ok {k : Nat} {w : Wk} {i m : Nat} {t p : Rat} {N : Nat} (R : R60 w i m t p N) : runF tab (k + 9) i_means [encW w] = .ok (.o ((List.range w.brims.length).map fun v => encQ (sumMid w i v m / p))) := by
  rw [runF_of tab_means rfl]
  have r := ring_of_ok (k := k) R.hw R.ring
  have er : (rl (FL w) i m).map encFW = (List.range m).map fun a => PyData.tuple [encF (FL w (i + a)), encQ ((FL w (i + a + 1)).t - (FL w (i + a)).t)] := by
    unfold rl
    rw [List.map_map]
    rfl
  rw [er] at r
  obtain ⟨X, hX⟩ : ∃ X, X = (List.range m).map fun a => PyData.tuple [encF (FL w (i + a)), encQ ((FL w (i + a + 1)).t - (FL w (i + a)).t)] := ⟨_, rfl⟩
  rw [← hX] at r
  have b4 := R.hw.2.1.2
  have sl := sizeLine_big
  have pn : p ≠ 0 := by intro z; have := R.p0; rw [z] at this; exact Rat.lt_irrefl this
  have w0 := whole_ok (k := k + 7) 0
  have z0 : encQ ((0 : Int) : Rat) = encQ 0 := rfl
  rw [z0] at w0
  have rg := rngD_nat (n := w.brims.length) (by omega)
  obtain ⟨ρ, e, s4, s5, s6, s7, s8, s9, J⟩ := forD_inv (tg := .name 4) (b := exB (runF tab (k + 8)) b_means_1) (fun (a : Nat) => PyData.int (a : Int))
    (fun done ρ => ∃ s4 s5 s6 s7 s8 s9 : Sl, ρ = [.val (encW w), .val (.list X), .val (encQ p), .own (done.map fun v => encQ (sumMid w i v m / p)), s4, s5, s6, s7, s8, s9])
    (List.range w.brims.length) [.val (encW w), .val (.list X), .val (encQ p), .own [], .no, .no, .no, .no, .no, .no] ⟨_, _, _, _, _, _, rfl⟩ (by
      intro done v rest ρ hd ⟨s4, s5, s6, s7, s8, s9, q⟩
      subst q
      obtain ⟨dl, hv⟩ := range_at hd
      have lt : done.length < sizeLine := by omega
      obtain ⟨ρ', e', t6, t7, t8, t9, J'⟩ := forD_inv (tg := .tup [.name 6, .name 7]) (b := exB (runF tab (k + 8)) b_means_2) (fun (a : Nat) => PyData.tuple [encF (FL w (i + a)), encQ ((FL w (i + a + 1)).t - (FL w (i + a)).t)])
        (fun done2 ρ => ∃ t6 t7 t8 t9 : Sl, ρ = [.val (encW w), .val (.list X), .val (encQ p), .own (done.map fun v => encQ (sumMid w i v m / p)), .val (.int v), .val (encQ (sumMid w i v done2.length)), t6, t7, t8, t9])
        (List.range m) [.val (encW w), .val (.list X), .val (encQ p), .own (done.map fun v => encQ (sumMid w i v m / p)), .val (.int v), .val (encQ 0), s6, s7, s8, s9] ⟨_, _, _, _, rfl⟩ (by
          intro done2 a rest2 ρ hd2 ⟨t6, t7, t8, t9, q⟩
          subst q
          obtain ⟨dl2, ha⟩ := range_at hd2
          rw [List.length_append, List.length_singleton, dl2]
          exact ⟨_, _, by simp, .inl (mean_2 (k := k + 4) R _ _ _ t8 t9 hv ha), _, _, _, _, rfl⟩)
      rw [List.length_range] at J'
      subst J'
      rw [← hX] at e'
      have np3 : 0 < N * 2 * N := Nat.mul_pos (by have := R.N0; omega) R.N0
      have N3 : (N * 2 * N).log2 ≤ 843 := by
        have := log2_mul_le N 2
        have := log2_mul_le (N * 2) N
        have l : Nat.log2 2 = 1 := by decide +kernel
        have := R.Nl
        omega
      obtain ⟨sd, s0, s9'⟩ := sumMid_ok R hv m (Nat.le_refl _)
      have tl : (FL w (i + m)).t - (FL w i).t ≤ 60000 := by
        have fl := FL_flo R.hw R.ring
        have im := R.im
        have F1 := flo_flow R.hw (by omega) (fl (i + m) (by omega))
        have F0 := flo_flow R.hw (by omega) (fl i (by omega))
        have c : ((i + m : Nat) : Rat) ≤ ((60 : Nat) : Rat) := by exact_mod_cast (show i + m ≤ 60 by omega)
        have e : ((60 : Nat) : Rat) = 60 := rfl
        rw [e] at c
        have := F1.t9
        have := F0.t0
        grind
      have vb2 : (100000000 : Rat) ≤ (VX : Rat) := by decide +kernel
      have ss : Sm (sumMid w i v m) := sm_v np3 (by omega) sd (by grind) (by grind)
      have ov := over_ok (k := k + 5) (sumMid w i v m) p ss R.sp pn
      refine ⟨[.val (encW w), .val (.list X), .val (encQ p), .own (done.map fun v => encQ (sumMid w i v m / p)), .val (.int v), s5, s6, s7, s8, s9], [.val (encW w), .val (.list X), .val (encQ p), .own ((done ++ [v]).map fun v => encQ (sumMid w i v m / p)), .val (.int v), .val (encQ (sumMid w i v m)), t6, t7, t8, t9], by simp, .inl ?_, _, _, _, _, _, _, rfl⟩
      simp [b_means_1, w0]
      rw [e']
      simp [ov, lt])
  subst J
  simp [f_means, startE, r, rg]
  rw [e]
  simp
end PF

end

section
/-! P24q: the greatest. -/
namespace PF
open PySem PySem.Spec PyProof.Rows L2
def greatestQ (x : Rat) (xs : List Rat) : Rat := xs.foldl (fun f y => if f < y then y else f) x
theorem greatestQ_mem : ∀ (xs : List Rat) (x : Rat), greatestQ x xs = x ∨ greatestQ x xs ∈ xs
  | [], x => .inl rfl
  | y :: r, x => by
    have := greatestQ_mem r (if x < y then y else x)
    show greatestQ (if x < y then y else x) r = x ∨ greatestQ (if x < y then y else x) r ∈ y :: r
    rcases this with h | h
    · rw [h]
      split
      · exact .inr (by simp)
      · exact .inl rfl
    · exact .inr (List.mem_cons_of_mem _ h)
theorem greatestQ_le : ∀ (xs : List Rat) (x : Rat), x ≤ greatestQ x xs ∧ ∀ y ∈ xs, y ≤ greatestQ x xs
  | [], x => ⟨Rat.le_refl, by simp⟩
  | y :: r, x => by
    obtain ⟨h1, h2⟩ := greatestQ_le r (if x < y then y else x)
    have hx : x ≤ (if x < y then y else x) := by
      split
      · rename_i h; exact Rat.le_of_lt h
      · exact Rat.le_refl
    have hy : y ≤ (if x < y then y else x) := by
      split
      · exact Rat.le_refl
      · rename_i h; exact Rat.not_lt.mp h
    refine ⟨Rat.le_trans hx h1, fun z hz => ?_⟩
    rcases List.mem_cons.mp hz with rfl | hz
    · exact Rat.le_trans hy h1
    · exact h2 z hz
theorem greatestQ_snoc (x y : Rat) (xs : List Rat) : greatestQ x (xs ++ [y]) = if greatestQ x xs < y then y else greatestQ x xs := by
  unfold greatestQ
  rw [List.foldl_append]
  rfl
end PF

end

section
/-! P24l: reaches. -/
namespace PF
open PySem PySem.Spec PyProof.Rows L2
/-- the lowest and the highest of some -/
def lowQ : List Rat → Rat
  | [] => 0
  | x :: xs => leastQ x xs
def highQ : List Rat → Rat
  | [] => 0
  | x :: xs => greatestQ x xs
theorem lowQ_spec {xs : List Rat} (h : xs ≠ []) : lowQ xs ∈ xs ∧ ∀ y ∈ xs, lowQ xs ≤ y := by
  cases xs with
  | nil => exact absurd rfl h
  | cons x xs =>
    obtain ⟨a, b⟩ := leastQ_le xs x
    refine ⟨?_, fun y hy => ?_⟩
    · rcases leastQ_mem xs x with c | c
      · show leastQ x xs ∈ _
        rw [c]; simp
      · exact List.mem_cons_of_mem _ c
    · rcases List.mem_cons.mp hy with rfl | hy
      · exact a
      · exact b y hy
theorem highQ_spec {xs : List Rat} (h : xs ≠ []) : highQ xs ∈ xs ∧ ∀ y ∈ xs, y ≤ highQ xs := by
  cases xs with
  | nil => exact absurd rfl h
  | cons x xs =>
    obtain ⟨a, b⟩ := greatestQ_le xs x
    refine ⟨?_, fun y hy => ?_⟩
    · rcases greatestQ_mem xs x with c | c
      · show greatestQ x xs ∈ _
        rw [c]; simp
      · exact List.mem_cons_of_mem _ c
    · rcases List.mem_cons.mp hy with rfl | hy
      · exact a
      · exact b y hy
theorem lowQ_same {xs ys : List Rat} (h : xs ≠ []) (e : ∀ x, x ∈ xs ↔ x ∈ ys) : lowQ xs = lowQ ys := by
  have h' : ys ≠ [] := by
    intro z
    subst z
    have := (e _).mp (lowQ_spec h).1
    simp at this
  obtain ⟨a, b⟩ := lowQ_spec h
  obtain ⟨c, d⟩ := lowQ_spec h'
  exact Rat.le_antisymm (b _ ((e _).mpr c)) (d _ ((e _).mp a))
theorem highQ_same {xs ys : List Rat} (h : xs ≠ []) (e : ∀ x, x ∈ xs ↔ x ∈ ys) : highQ xs = highQ ys := by
  have h' : ys ≠ [] := by
    intro z
    subst z
    have := (e _).mp (highQ_spec h).1
    simp at this
  obtain ⟨a, b⟩ := highQ_spec h
  obtain ⟨c, d⟩ := highQ_spec h'
  exact Rat.le_antisymm (d _ ((e _).mp a)) (b _ ((e _).mpr c))
/-! ### the levels that count -/
def lastLv : Ft → List (List Rat)
  | .over _ _ _ l => [l]
  | .whirl _ _ l => [l]
  | _ => []
def levF (r : List Fl × Option En) : List (List Rat) := r.1.map (·.lv) ++ lastLv (fateOf r)
def isOpn : Ft → Bool
  | .opn => true
  | _ => false
theorem isOpn_iff {F : Ft} : isOpn F = true ↔ F = .opn := by cases F <;> simp [isOpn]
theorem lev_lw {w : Wk} (hw : okW w) {n : Nat} (hn : n ≤ 400) {l : List Rat} (h : l ∈ levF (runW w n)) : ∃ N, Lw N w l ∧ N.log2 ≤ 2800 := by
  rcases List.mem_append.mp h with q | q
  · obtain ⟨f, hf, rfl⟩ := List.mem_map.mp q
    obtain ⟨k, hk⟩ := List.getElem?_of_mem hf
    have hl := (List.getElem?_eq_some_iff.mp hk).1
    have := runW_len w n
    obtain ⟨N, a, _, b⟩ := (flo_flow hw (by omega) (run_flo hk)).lw
    exact ⟨N, a, by omega⟩
  · unfold fateOf at q
    cases hr : ringQ (runW w n).1 with
    | some p => rw [hr] at q; simp [lastLv] at q
    | none =>
      rw [hr] at q
      cases he : (runW w n).2 with
      | none => rw [he] at q; simp [lastLv] at q
      | some e =>
        have := end_lw hw hn he
        rw [he] at q
        cases e with
        | rest => simp [lastLv] at q
        | over t v b lv =>
          simp [lastLv] at q
          subst q
          obtain ⟨⟨N, a, _, b⟩, _⟩ := this
          exact ⟨N, a, by omega⟩
        | whirl t ms lv =>
          simp [lastLv] at q
          subst q
          obtain ⟨⟨N, a, _, b⟩, _⟩ := this
          exact ⟨N, a, by omega⟩
theorem lev_ne {w : Wk} {n : Nat} (hn : 0 < n) (ne : fateOf (runW w n) ≠ .opn) : levF (runW w n) ≠ [] := by
  intro z
  obtain ⟨a, b⟩ := List.append_eq_nil_iff.mp z
  have a : (runW w n).1 = [] := by simpa using a
  unfold fateOf at ne b
  have hr : ringQ (runW w n).1 = none := by rw [a]; rfl
  rw [hr] at ne b
  cases he : (runW w n).2 with
  | none => rw [he] at ne; exact ne rfl
  | some e =>
    have := runW_end he
    rw [he] at b
    cases e with
    | rest => obtain ⟨P, f, e, _⟩ := this; rw [a] at e; simp at e
    | over t v bb lv => simp [lastLv] at b
    | whirl t ms lv => simp [lastLv] at b
/-- by more flows, the same levels -/
theorem lev_stay {w : Wk} (hw : okW w) {n m : Nat} (h : n ≤ m) (hm : m ≤ 400) (ne : fateOf (runW w n) ≠ .opn) (l : List Rat) : l ∈ levF (runW w m) ↔ l ∈ levF (runW w n) := by
  have fs := fate_stay h ne
  rcases run_more (w := w) h with e | ⟨o, len, G, e⟩
  · rw [e]
  · cases hr : ringQ (runW w n).1 with
    | none =>
      exfalso
      unfold fateOf at ne
      rw [hr, o] at ne
      exact ne rfl
    | some p =>
      obtain ⟨i, j⟩ := p
      obtain ⟨ij, jl, _, f, g, hf, hg, sf, _⟩ := ringQ_some hr
      obtain ⟨s1, s2⟩ := sameF_iff.mp sf
      have fo : lastLv (fateOf (runW w n)) = [] := by
        unfold fateOf
        rw [hr]
        rfl
      unfold levF
      rw [fs, fo, List.append_nil, List.append_nil]
      constructor
      · intro q
        obtain ⟨x, hx, rfl⟩ := List.mem_map.mp q
        obtain ⟨k, hk⟩ := List.getElem?_of_mem hx
        have kl := (List.getElem?_eq_some_iff.mp hk).1
        have lm := runW_len w m
        have go : ∀ (k : Nat) (x : Fl), k < 400 → flO w k = some x → ∃ y ∈ (runW w n).1, y.lv = x.lv := by
          intro k
          induction k using Nat.strongRecOn with
          | _ k ih =>
            intro x hk hx
            by_cases c : k < n
            · exact ⟨x, List.mem_of_getElem? (by rw [run_get c]; exact hx), rfl⟩
            · obtain ⟨f', g', h1, h2, e1, e2, _⟩ := ring_goes hw ij (run_flo hf) (run_flo hg) s1.symm s2.symm (k - j) (by omega)
              rw [show j + (k - j) = k by omega, hx] at h2
              cases h2
              obtain ⟨y, hy, ey⟩ := ih (i + (k - j)) (by omega) f' (by omega) h1
              exact ⟨y, hy, by rw [ey, e2]⟩
        obtain ⟨y, hy, ey⟩ := go k x (by omega) (run_flo hk)
        exact List.mem_map.mpr ⟨y, hy, ey⟩
      · intro q
        obtain ⟨x, hx, rfl⟩ := List.mem_map.mp q
        exact List.mem_map.mpr ⟨x, by rw [e]; simp [hx], rfl⟩
/-! ### the program's reaches -/
def colQ (L : List (List Rat)) (v : Nat) : List Rat := L.map (·.getD v 0)
def rchQ (w : Wk) (L : List (List Rat)) : List (Rat × Rat) := (List.range w.brims.length).map fun v => (lowQ (colQ L v), highQ (colQ L v))
def encRc (p : Rat × Rat) : D := .tuple [encQ p.1, encQ p.2]
def needQ (h : Rat) : Int := max 1 (-((-h.num) / (h.den : Int)))
end PF

end

section
/-! P29: the flow in which a moment lies. -/
namespace PF
open PySem PySem.Spec PyProof.Rows L2
theorem turn_back {x t p : Rat} (p0 : 0 < p) (h : t ≤ x - p) : turnQ x t p = turnQ (x - p) t p := by
  unfold turnQ
  rw [if_neg (by grind), if_neg (Rat.not_lt.mpr h)]
  have pn : p ≠ 0 := by intro z; rw [z] at p0; exact Rat.lt_irrefl p0
  have e : (x - t) / p = (x - p - t) / p + 1 := by
    have a : (x - t) / p * p = x - t := Rat.div_mul_cancel pn
    have b : (x - p - t) / p * p = x - p - t := Rat.div_mul_cancel pn
    have c : ((x - t) / p - ((x - p - t) / p + 1)) * p = 0 := by grind
    rcases Rat.mul_eq_zero.mp c with q | q
    · grind
    · exact absurd q pn
  obtain ⟨a, b⟩ := floor_le ((x - p - t) / p)
  have f : floorQ ((x - t) / p) = floorQ ((x - p - t) / p) + 1 := by
    refine floor_of ?_ ?_
    · rw [e, Rat.intCast_add]
      have : ((1 : Int) : Rat) = 1 := rfl
      rw [this]
      grind
    · rw [e, Rat.intCast_add]
      have : ((1 : Int) : Rat) = 1 := rfl
      rw [this]
      grind
  rw [f, Rat.intCast_add]
  have : ((1 : Int) : Rat) = 1 := rfl
  rw [this]
  grind
theorem turn_rounds {x t p : Rat} (p0 : 0 < p) (h : t ≤ x) : ∀ n : Nat, turnQ (x + (n : Rat) * p) t p = turnQ x t p
  | 0 => by
    have : ((0 : Nat) : Rat) = 0 := rfl
    rw [this]
    congr 1
    grind
  | n + 1 => by
    have ih := turn_rounds p0 h n
    have e : ((n + 1 : Nat) : Rat) = (n : Rat) + 1 := by rw [Rat.natCast_add]; rfl
    have np : 0 ≤ (n : Rat) * p := Rat.mul_nonneg (by exact_mod_cast Nat.zero_le n) (Rat.le_of_lt p0)
    rw [e, turn_back p0 (by grind), ← ih]
    congr 1
    grind
theorem ahead_at {w : Wk} (hw : okW w) {n k : Nat} (hn : n ≤ 400) {f : Fl} (hf : (runW w n).1[k]? = some f) {y : Rat} (le : f.t ≤ y) (nx : ∀ g, (runW w n).1[k + 1]? = some g → y < g.t) : flLast (aheadQ (runW w n).1 y) = f := by
  obtain ⟨L, hL⟩ : ∃ L, L = (runW w n).1 := ⟨_, rfl⟩
  have kl := (List.getElem?_eq_some_iff.mp hf).1
  have ln := runW_len w n
  have e : (runW w n).1 = (runW w n).1.take (k + 1) ++ (runW w n).1.drop (k + 1) := (List.take_append_drop _ _).symm
  have late : ∀ g ∈ (runW w n).1.drop (k + 1), y < g.t := fun g hg => by
    obtain ⟨d, hd⟩ := List.getElem?_of_mem hg
    rw [List.getElem?_drop] at hd
    have dl := (List.getElem?_eq_some_iff.mp hd).1
    have h1 : (runW w n).1[k + 1]? = some ((runW w n).1[k + 1]'(by omega)) := List.getElem?_eq_getElem (by omega)
    have := nx _ h1
    have := time_le hw (show k + 1 ≤ k + 1 + d by omega) (by omega) (run_flo h1) (run_flo hd)
    grind
  rw [e, ahead_app late]
  have t : (runW w n).1.take (k + 1) = (runW w n).1.take k ++ [f] := by
    rw [List.take_succ, hf]
    rfl
  rw [t]
  unfold aheadQ
  rw [List.filter_append]
  have : [f].filter (fun f => !decide (y < f.t)) = [f] := by
    rw [List.filter_cons]
    have : ¬ y < f.t := Rat.not_lt.mpr le
    simp [this]
  rw [this]
  exact flLast_of
/-- a moment within a flow that another follows -/
theorem mom_flow {w : Wk} (hw : okW w) : ∀ (k : Nat) {f g : Fl} {y : Rat}, k + 1 < 400 → flO w k = some f → flO w (k + 1) = some g → f.t ≤ y → y < g.t → momQ w y = atQ w f y := by
  intro k
  induction k using Nat.strongRecOn with
  | _ k ih =>
    intro f g y hk hf hg le lt
    have r0 := run_get (w := w) (n := 400) (show k < 400 by omega)
    have r1 := run_get (w := w) (n := 400) (show k + 1 < 400 by omega)
    rw [hf] at r0
    rw [hg] at r1
    have last := ahead_at hw (show 400 ≤ 400 by omega) r0 le (fun g' hg' => by rw [r1] at hg'; cases hg'; exact lt)
    obtain ⟨ov, wh⟩ := end_late hw (show 400 ≤ 400 by omega) r1
    unfold momQ momR
    cases hF : fateOf (runW w 400) with
    | rest e m l => simp only; rw [last]
    | over e v b l =>
      have := ov e v b l (fate_over hF)
      simp only
      rw [if_neg (by grind), last]
    | whirl e ms l =>
      have := wh e ms l (fate_whirl hF)
      simp only
      rw [if_neg (by grind), last]
    | opn =>
      have ne4 : (runW w 400).1 ≠ [] := by intro z; rw [z] at r0; simp at r0
      have l4 := flLast_get ne4
      have := (List.getElem?_eq_some_iff.mp r1).1
      have := runW_len w 400
      have := time_le hw (show k + 1 ≤ (runW w 400).1.length - 1 by omega) (by omega) hg (run_flo l4)
      simp only
      rw [if_pos (by grind), last]
    | ring i m t p =>
      obtain ⟨a, b, m0, im, ha, hb, ht, hp, p0, s1, s2⟩ := ring_facts hw (by omega) hF
      simp only
      by_cases c : k < i + m
      · have := time_le hw (show k + 1 ≤ i + m by omega) (by omega) hg hb
        rw [turn_small (by grind) p0, last]
      · obtain ⟨f', f2, h1, h2, e1, e2, e3, _⟩ := ring_goes hw (show i < i + m by omega) ha hb s1 s2 (k - (i + m)) (by omega)
        obtain ⟨g', g2, h3, h4, _, _, e6, _⟩ := ring_goes hw (show i < i + m by omega) ha hb s1 s2 (k + 1 - (i + m)) (by omega)
        rw [show i + m + (k - (i + m)) = k by omega, hf] at h2
        cases h2
        rw [show i + m + (k + 1 - (i + m)) = k + 1 by omega, hg] at h4
        cases h4
        have r := ih (i + (k - (i + m))) (by omega) (f := f') (g := g') (y := y - p) (by omega) h1 (by rw [show i + (k - (i + m)) + 1 = i + (k + 1 - (i + m)) by omega]; exact h3) (by grind) (by grind)
        have ti : t ≤ f'.t := by
          rw [← ht]
          exact time_le hw (show i ≤ i + (k - (i + m)) by omega) (by omega) ha h1
        rw [turn_back p0 (by grind)]
        unfold momQ momR at r
        rw [hF] at r
        simp only at r
        rw [r]
        unfold atQ
        rw [e1, e2]
        congr 2
        grind
/-- the moment at which a flow begins -/
theorem mom_begin {w : Wk} (hw : okW w) {k : Nat} {f : Fl} (hk : k + 1 < 400) (hf : flO w k = some f) : momQ w f.t = atQ w f f.t := by
  cases hg : flO w (k + 1) with
  | some g => exact mom_flow hw k hk hf hg Rat.le_refl (nxt_t hw hk hf hg)
  | none =>
    have r0 := run_get (w := w) (n := 400) (show k < 400 by omega)
    have r1 := run_get (w := w) (n := 400) (show k + 1 < 400 by omega)
    rw [hf] at r0
    rw [hg] at r1
    have last := ahead_at hw (show 400 ≤ 400 by omega) r0 Rat.le_refl (fun g' hg' => by rw [r1] at hg'; cases hg')
    obtain ⟨ov, wh⟩ := end_late hw (show 400 ≤ 400 by omega) r0
    unfold momQ momR
    cases hF : fateOf (runW w 400) with
    | rest e m l => simp only; rw [last]
    | over e v b l =>
      have := ov e v b l (fate_over hF)
      simp only
      rw [if_neg (by grind), last]
    | whirl e ms l =>
      have := wh e ms l (fate_whirl hF)
      simp only
      rw [if_neg (by grind), last]
    | opn =>
      obtain ⟨o, _⟩ := fate_opn hF
      have len : (runW w 400).1.length = 400 := by rw [runW_R] at o ⊢; exact runR_open w 400 _ _ _ o
      have := List.getElem?_eq_none_iff.mp r1
      omega
    | ring i m t p =>
      obtain ⟨a, b, m0, im, ha, hb, ht, hp, p0, s1, s2⟩ := ring_facts hw (by omega) hF
      exfalso
      by_cases c : k + 1 ≤ i + m
      · obtain ⟨q, hq⟩ := flo_pre hb c
        rw [hg] at hq
        cases hq
      · obtain ⟨_, q, _, hq, _⟩ := ring_goes hw (show i < i + m by omega) ha hb s1 s2 (k + 1 - (i + m)) (by omega)
        rw [show i + m + (k + 1 - (i + m)) = k + 1 by omega, hg] at hq
        cases hq
theorem at_begin {w : Wk} (hw : okW w) {k : Nat} {f : Fl} (hk : k < 400) (hf : flO w k = some f) : atQ w f f.t = .ok f.m f.lv := by
  have F := flo_flow hw hk hf
  obtain ⟨N, l1, _⟩ := F.lw
  have om := hw.2.2.2.1 _ (show w.md f.m ∈ w.modes from getD_mem (by have := F.m; omega))
  unfold atQ
  congr 1
  have z : f.t - f.t = 0 := by grind
  rw [z]
  unfold afterQ
  have ll : f.lv.length ≤ (w.md f.m).rates.length := by rw [l1.l0.len, om.2.1]; exact Nat.le_refl _
  have : (f.lv.zip (w.md f.m).rates).map (fun p => p.1 + (p.2 : Rat) * 0) = (f.lv.zip (w.md f.m).rates).map (·.1) := by
    refine List.map_congr_left fun p _ => ?_
    grind
  rw [this]
  exact List.map_fst_zip ll
end PF

end

section
/-! P39: where a moment lies: in a flow, ahead of its end. -/
namespace PF
open PySem PySem.Spec PyProof.Rows L2
theorem ahead_where {w : Wk} (hw : okW w) {y : Rat} (y0 : 0 ≤ y) (ne : (runW w 400).1 ≠ []) : ∃ k, (runW w 400).1[k]? = some (flLast (aheadQ (runW w 400).1 y)) ∧ (flLast (aheadQ (runW w 400).1 y)).t ≤ y ∧ ∀ g, (runW w 400).1[k + 1]? = some g → y < g.t := by
  have go : ∀ (d j : Nat) (f : Fl), (runW w 400).1.length = j + d + 1 → (runW w 400).1[j]? = some f → f.t ≤ y → ∃ k g, (runW w 400).1[k]? = some g ∧ g.t ≤ y ∧ ∀ h, (runW w 400).1[k + 1]? = some h → y < h.t := by
    intro d
    induction d with
    | zero =>
      intro j f hl hf ht
      exact ⟨j, f, hf, ht, fun h hh => by
        have := (List.getElem?_eq_some_iff.mp hh).1
        omega⟩
    | succ d ih =>
      intro j f hl hf ht
      have h1 : (runW w 400).1[j + 1]? = some ((runW w 400).1[j + 1]'(by omega)) := List.getElem?_eq_getElem (by omega)
      by_cases c : y < ((runW w 400).1[j + 1]'(by omega)).t
      · exact ⟨j, f, hf, ht, fun h hh => by rw [h1] at hh; cases hh; exact c⟩
      · exact ih (j + 1) _ (by omega) h1 (Rat.not_lt.mp c)
  have len : 0 < (runW w 400).1.length := List.length_pos_iff.mpr ne
  have h0 : (runW w 400).1[0]? = some ((runW w 400).1[0]'len) := List.getElem?_eq_getElem len
  have z := (flo_0 hw (run_flo h0)).1
  obtain ⟨k, g, hg, gt, nx⟩ := go ((runW w 400).1.length - 1) 0 _ (by omega) h0 (by rw [z]; exact y0)
  have := ahead_at hw (by omega) hg gt nx
  exact ⟨k, by rw [this]; exact hg, by rw [this]; exact gt, nx⟩
/-- so long within a flow, no longer than it goes on -/
def Where (w : Wk) (f : Fl) (s : Rat) : Prop := (∀ r ∈ (w.md f.m).rates, r = 0) ∨ ∃ (far : Rat) (wh : Wh), waitQ w f.lv f.m = some (far, wh) ∧ s ≤ far ∧ afterQ f.lv (w.md f.m).rates far ∈ levF (runW w 400) ∧ (∀ v b, wh = .ov v b → ∃ e v' b' l, fateOf (runW w 400) = .over e v' b' l)
/-- a moment: in a flow, for so long, no longer than the flow goes on -/
theorem mom_where {w : Wk} (hw : okW w) {x : Rat} (x0 : 0 ≤ x) {m : Int} {lv : List Rat} (h : momQ w x = .ok m lv) : ∃ (k : Nat) (f : Fl) (s : Rat), (runW w 400).1[k]? = some f ∧ m = f.m ∧ lv = afterQ f.lv (w.md f.m).rates s ∧ 0 ≤ s ∧ (TmOk w x → TmOk w (f.t + s)) ∧
    Where w f s := by
  have l4 := runW_len w 400
  have nxt : ∀ {k f g}, (runW w 400).1[k]? = some f → (runW w 400).1[k + 1]? = some g → ∃ far, waitQ w f.lv f.m = some (far, .sw) ∧ g.t = f.t + far ∧ afterQ f.lv (w.md f.m).rates far ∈ levF (runW w 400) := by
    intro k f g hf hg
    have kl := (List.getElem?_eq_some_iff.mp hg).1
    obtain ⟨⟨far, n1, n2, n3⟩, _⟩ := flo_nxt hw (by omega) (run_flo hf) (run_flo hg)
    refine ⟨far, n1, n2, ?_⟩
    show afterQ f.lv (w.md (f.ms.getLastD 0)).rates far ∈ _
    rw [← n3]
    exact List.mem_append.mpr (.inl (List.mem_map.mpr ⟨g, List.mem_of_getElem? hg, rfl⟩))
  have main : ∀ y, 0 ≤ y → (TmOk w x → TmOk w y) → (runW w 400).1 ≠ [] → atQ w (flLast (aheadQ (runW w 400).1 y)) y = .ok m lv →
      (∀ k f, (runW w 400).1[k]? = some f → (runW w 400).1[k + 1]? = none → f.t ≤ y → Where w f (y - f.t)) →
      ∃ (k : Nat) (f : Fl) (s : Rat), (runW w 400).1[k]? = some f ∧ m = f.m ∧ lv = afterQ f.lv (w.md f.m).rates s ∧ 0 ≤ s ∧ (TmOk w x → TmOk w (f.t + s)) ∧
    Where w f s := by
    intro y y0 hT ne e lastC
    obtain ⟨k, hk, ft, nx⟩ := ahead_where hw y0 ne
    obtain ⟨f, hf⟩ : ∃ f, f = flLast (aheadQ (runW w 400).1 y) := ⟨_, rfl⟩
    rw [← hf] at hk ft e
    unfold atQ at e
    injection e with e1 e2
    refine ⟨k, f, y - f.t, hk, e1.symm, e2.symm, by grind, by rw [show f.t + (y - f.t) = y by grind]; exact hT, ?_⟩
    cases hn : (runW w 400).1[k + 1]? with
    | none => exact lastC k f hk hn ft
    | some g =>
      obtain ⟨far, n1, n2, n3⟩ := nxt hk hn
      have := nx g hn
      exact .inr ⟨far, .sw, n1, by grind, n3, fun v b z => by cases z⟩
  have lastI : ∀ {k f P g}, (runW w 400).1[k]? = some f → (runW w 400).1[k + 1]? = none → (runW w 400).1 = P ++ [g] → f = g := by
    intro k f P g hf hn e
    have kl := (List.getElem?_eq_some_iff.mp hf).1
    have kn := List.getElem?_eq_none_iff.mp hn
    rw [e] at hf kl kn
    rw [List.length_append, List.length_singleton] at kl kn
    rw [List.getElem?_append_right (by omega), show k - P.length = 0 by omega] at hf
    simpa using hf.symm
  unfold momQ momR at h
  cases hF : fateOf (runW w 400) with
  | rest e m' l =>
    rw [hF] at h
    obtain ⟨P, g, e1, e2⟩ := runW_end (fate_rest hF)
    have ne : (runW w 400).1 ≠ [] := by rw [e1]; simp
    have := main x x0 id ne h (fun k f hk hn ft => .inl (by
      rw [lastI hk hn e1]
      exact rest_rates e2))
    exact this
  | over e v b l =>
    rw [hF] at h
    obtain ⟨P, g, far, e1, e2, e3, e4⟩ := runW_end (fate_over hF)
    have ne : (runW w 400).1 ≠ [] := by rw [e1]; simp
    simp only at h
    by_cases c : e < x
    · rw [if_pos c] at h; cases h
    · rw [if_neg c] at h
      have := main x x0 id ne h (fun k f hk hn ft => .inr (by
        rw [lastI hk hn e1]
        refine ⟨far, .ov v b, e2, by grind, ?_, fun _ _ _ => ⟨e, v, b, l, hF⟩⟩
        rw [← e4]
        unfold levF
        rw [hF]
        simp [lastLv]))
      exact this
  | whirl e ms l =>
    rw [hF] at h
    simp only at h
    by_cases c : e < x ∨ e = x
    · rw [if_pos c] at h; cases h
    · rw [if_neg c] at h
      obtain ⟨m0, _, ⟨_, _, _, z⟩ | ⟨P, g, far, e1, e2, e3, e4, _⟩⟩ := runW_end (fate_whirl hF)
      · exact absurd (show e < x ∨ e = x by rw [z]; exact Rat.le_iff_lt_or_eq.mp x0) c
      · have ne : (runW w 400).1 ≠ [] := by rw [e1]; simp
        have := main x x0 id ne h (fun k f hk hn ft => .inr (by
          rw [lastI hk hn e1]
          refine ⟨far, .sw, e2, by grind, ?_, fun _ _ z => by cases z⟩
          rw [← e4]
          unfold levF
          rw [hF]
          simp [lastLv]))
        exact this
  | opn =>
    rw [hF] at h
    simp only at h
    by_cases c : x < (flLast (runW w 400).1).t
    · rw [if_pos c] at h
      have ne : (runW w 400).1 ≠ [] := by
        intro z
        rw [z] at c
        have : x < 0 := c
        grind
      have := main x x0 id ne h (fun k f hk hn ft => by
        have l := flLast_get ne
        have kl := (List.getElem?_eq_some_iff.mp hk).1
        have kn := List.getElem?_eq_none_iff.mp hn
        rw [show (runW w 400).1.length - 1 = k by omega, hk] at l
        injection l with l
        rw [← l] at c
        exact absurd c (Rat.not_lt.mpr ft))
      exact this
    · rw [if_neg c] at h; cases h
  | ring i n t p =>
    rw [hF] at h
    obtain ⟨f, g, m0, im, hf, hg, ht, hp, p0, _, _⟩ := ring_facts hw (by omega) hF
    have g4 : (runW w 400).1[i + n]? = some g := by rw [run_get (by omega)]; exact hg
    have ne : (runW w 400).1 ≠ [] := by intro z; rw [z] at g4; simp at g4
    have f0 := (flo_flow hw (by omega) hf).t0
    have y0 : 0 ≤ turnQ x t p ∧ turnQ x t p < t + p := by
      by_cases c : x < t
      · unfold turnQ
        rw [if_pos c]
        exact ⟨x0, by grind⟩
      · have := turn_in c p0
        exact ⟨by grind, this.2⟩
    have := main (turnQ x t p) y0.1 (fun X => (TmOk.turn hw (by omega) hF X).1) ne h (fun k f' hk hn ft => by
      have kl := (List.getElem?_eq_some_iff.mp hk).1
      have kn := List.getElem?_eq_none_iff.mp hn
      have gl := (List.getElem?_eq_some_iff.mp g4).1
      have := time_le hw (show i + n ≤ k by omega) (by omega) hg (run_flo hk)
      exact absurd y0.2 (Rat.not_lt.mpr (by grind)))
    exact this
/-- levels at a moment are no great fractions -/
theorem where_dn {w : Wk} (hw : okW w) {k : Nat} {f : Fl} {s : Rat} (hk : (runW w 400).1[k]? = some f) (T : TmOk w (f.t + s)) : ∃ N : Nat, 0 < N ∧ N.log2 ≤ 3880 ∧ ∀ l ∈ afterQ f.lv (w.md f.m).rates s, Dn N l := by
  obtain ⟨N, a, b, c⟩ := T.dn
  have kl := (List.getElem?_eq_some_iff.mp hk).1
  have := runW_len w 400
  obtain ⟨d1, d2⟩ := a.dn k (by omega) f (run_flo hk)
  have ds : Dn N s := by
    have := c.sub d1
    rw [show f.t + s - f.t = s by grind] at this
    exact this
  refine ⟨N, a.pos, b, fun l hl => ?_⟩
  unfold afterQ at hl
  obtain ⟨p, hp, e⟩ := List.mem_map.mp hl
  rw [← e]
  exact (d2 _ (List.of_mem_zip hp).1).add (ds.imul p.2)
theorem convex {a b s d lo hi : Rat} (r : Rat) (s0 : 0 ≤ s) (sd : s ≤ d) (e : b = a + r * d) (la : lo ≤ a) (lb : lo ≤ b) (ha : a ≤ hi) (hb : b ≤ hi) : lo ≤ a + r * s ∧ a + r * s ≤ hi := by
  by_cases c : 0 ≤ r
  · have h1 := Rat.mul_nonneg c s0
    have h2 := Rat.mul_le_mul_of_nonneg_left sd c
    constructor <;> grind
  · have c' : 0 ≤ -r := by grind
    have h1 := Rat.mul_nonneg c' s0
    have h2 := Rat.mul_le_mul_of_nonneg_left sd c'
    constructor <;> grind
end PF

end

section
/-! P28m: the program's shares. -/
namespace PF
open PySem PySem.Spec PyProof.Rows L2
theorem mode_shares_no {k : Nat} {w : Wk} (hw : okW w) (h : isRing (fateOf (runW w 400)) = false) : runF tab (k + 9) i_mode_shares [encW w] = .ex x_NoRing := by
  rw [runF_of tab_mode_shares rfl]
  have r := ring_of_no (k := k) hw h
  simp [f_mode_shares, startE, r]
theorem mode_shares_ok {k : Nat} {w : Wk} (hw : okW w) {i m : Nat} {t p : Rat} (h : fateOf (runW w 400) = .ring i m t p) : runF tab (k + 9) i_mode_shares [encW w] = .ok (.o ((shQ w.modes.length p (rl (FL w) i m)).map encQ)) := by
  rw [runF_of tab_mode_shares rfl]
  have r := ring_of_ok (k := k) hw h
  have fl := FL_flo hw h
  obtain ⟨B, R⟩ := rd_of hw h fl
  obtain ⟨_, st, sp, _, _⟩ := (TmOk.mk' hw (x := 0) Rat.le_refl (by decide +kernel) (by decide +kernel)).turn hw (by omega) h
  have pn : p ≠ 0 := by intro z; have := R.p0; rw [z] at this; exact Rat.lt_irrefl this
  obtain ⟨rs, hrs⟩ : ∃ rs, rs = rl (FL w) i m := ⟨_, rfl⟩
  rw [← hrs] at r R ⊢
  have w0 := whole_ok (k := k + 7) 0
  have z0 : encQ ((0 : Int) : Rat) = encQ 0 := rfl
  rw [z0] at w0
  obtain ⟨ρ, e, s5, s6, J⟩ := forD_inv (tg := .tup [.name 5, .name 6]) (b := exB (runF tab (k + 8)) b_mode_shares_1) encFW
    (fun done ρ => ∃ s5 s6 : Sl, ρ = [.val (encW w), .val (.list (rs.map encFW)), .val (encQ p), .own ((shQ w.modes.length p done).map encQ), .no, s5, s6])
    rs [.val (encW w), .val (.list (rs.map encFW)), .val (encQ p), .own ((List.replicate w.modes.length 0).map encQ), .no, .no, .no] ⟨_, _, rfl⟩ (by
      intro done x rest ρ hd ⟨s5, s6, q⟩
      subst q
      obtain ⟨x0, x1, xd, xm, xs, li⟩ := R.each x (by rw [hd]; simp)
      have ll := shQ_len w.modes.length p done
      obtain ⟨acc, hacc⟩ : ∃ acc, acc = shQ w.modes.length p done := ⟨_, rfl⟩
      have sm : ∀ y ∈ acc, Sm y := by rw [hacc]; exact sh_sm R hd
      rw [← hacc] at ll ⊢
      have at_ : L2.atI acc x.1.m = some (acc.getD x.1.m.toNat 0) := atI_pos xm.1 (by omega)
      have ix := ixN_at (n := acc.length) xm.1 (by omega)
      have ov := over_ok (k := k + 5) x.2 p xs sp pn
      obtain ⟨d0, d1⟩ := div_in R.p0 x0 x1
      have sq : Sm (x.2 / p) := sm_b R.B0 R.Bl xd (by grind) (by grind)
      have pl := plus_ok (k := k + 5) (acc.getD x.1.m.toNat 0) (x.2 / p) (sm _ (getD_mem (by omega))) sq
      obtain ⟨y, hy⟩ : ∃ y, y = acc.getD x.1.m.toNat 0 := ⟨_, rfl⟩
      have hst : shStep p acc x = acc.set x.1.m.toNat (y + x.2 / p) := by unfold shStep; rw [hy]
      rw [← hy] at at_ pl
      refine ⟨[.val (encW w), .val (.list (rs.map encFW)), .val (encQ p), .own (acc.map encQ), .no, .val (encF x.1), .val (encQ x.2)], [.val (encW w), .val (.list (rs.map encFW)), .val (encQ p), .own ((acc.set x.1.m.toNat (y + x.2 / p)).map encQ), .no, .val (encF x.1), .val (encQ x.2)], by simp [encFW], .inl ?_, _, _, by rw [shQ_snoc, ← hacc, hst]⟩
      have oix : ixD (.o (acc.map encQ)) (.d (.int x.1.m)) = .ok (.d (encQ y)) := by
        show (M.opt (L2.atI (acc.map encQ) x.1.m)).bind _ = _
        rw [atI_map, at_]
        rfl
      simp [b_mode_shares_1, encF, li, oix, ov, pl, ix, List.map_set])
  subst J
  simp [f_mode_shares, startE, r]
  rw [compD_map1 encM (fun _ => encQ 0)]
  · rw [List.map_const']
    simp only [List.map_replicate] at e
    simp
    rw [e]
    simp
  · intro x hx
    simp [w0]
end PF

end

section
/-! P25: moments. -/
namespace PF
open PySem PySem.Spec PyProof.Rows L2
def MoR.res : MoR → M R
  | .ok m lv => .ok (.d (encMo m lv))
  | .ov => .ex x_Over
  | .op => .ex x_Open
theorem is_fraction_ok {k : Nat} (x : Rat) (h : x.den.log2 < 9000) : runF tab (k + 3) i_is_fraction [encQ x] = .ok (.d (.bool true)) := by
  rw [runF_of tab_is_fraction rfl]
  have f := fraction_ok (k := k) x.num x.den (den_ne x) (by simpa using h)
  rw [Rat.num_divInt_den] at f
  have p := x.den_pos
  have same := same_lay (a := .d (encQ x)) (b := .d (encQ x)) (lay_Q x) rfl (by omega)
  have ty : isTy .tuple (encQ x) = .ok true := rfl
  have ln : bltD .len [.d (encQ x)] = .ok (.d (.int 2)) := rfl
  have sq : seqD (.d (encQ x)) = .ok [.int x.num, .int x.den] := rfl
  simp [f_is_fraction, startE, ty, ln, sq, forD_cons, forD_nil, b_is_fraction_1, f, same, p]
theorem last_ahead_ok {k : Nat} (L : List Fl) (x : Rat) (sx : Sm x) (sm : ∀ f ∈ L, Sm f.t) (ne : aheadQ L x ≠ []) : runF tab (k + 2) i_last_ahead [.list (L.map encF), encQ x] = .ok (.d (encF (flLast (aheadQ L x)))) := by
  rw [runF_of tab_last_ahead rfl]
  simp [f_last_ahead, startE]
  rw [compD_map encF (fun f => !decide (x < f.t)) encF]
  · have la := last_atI ne
    have e : ixD (.o ((L.filter fun f => !decide (x < f.t)).map encF)) (.d (.int (-1))) = .ok (.d (encF (flLast (aheadQ L x)))) := by
      show (M.opt (L2.atI ((aheadQ L x).map encF) (-1))).bind _ = _
      rw [atI_map, la]
      rfl
    simp [e]
  · intro f hf
    have il := is_less_ok (k := k) x f.t sx (sm f hf)
    simp [encF] 
    simp [il]
theorem turned_back_ok {k : Nat} (x t p : Rat) (sx : Sm x) (st : Sm t) (sp : Sm p) (hp : 0 < p) (sd : Sm (x - t)) (sk : ¬ x < t → Sm ((floorQ ((x - t) / p) : Int) : Rat) ∧ Sm ((floorQ ((x - t) / p) : Rat) * p)) : runF tab (k + 4) i_turned_back [encQ x, encQ t, encQ p] = .ok (.d (encQ (turnQ x t p))) := by
  rw [runF_of tab_turned_back rfl]
  have pn : p ≠ 0 := by intro z; rw [z] at hp; exact Rat.lt_irrefl hp
  have il := is_less_ok (k := k + 2) x t sx st
  by_cases c : x < t
  · simp [f_turned_back, startE, il, c, turnQ]
  · obtain ⟨s1, s2⟩ := sk c
    have mi := minus_ok (k := k) x t sx st
    have ov := over_ok (k := k) (x - t) p sd sp pn
    have tm := times_ok (k := k) ((floorQ ((x - t) / p) : Int) : Rat) p s1 sp
    have wh := whole_ok (k := k + 2) (floorQ ((x - t) / p))
    have mj := minus_ok (k := k) x ((floorQ ((x - t) / p) : Rat) * p) sx s2
    have l : ((x - t) / p).den.log2 < 9000 := by
      have e : Rat.divInt ((x - t).num * p.den) ((x - t).den * p.num) = (x - t) / p := by
        rw [Rat.div_def, Rat.inv_def, ← Rat.divInt_mul_divInt, Rat.num_divInt_den]
      have hn : p.num ≠ 0 := fun z => pn (Rat.num_eq_zero.mp z)
      have nz : ((x - t).den : Int) * p.num ≠ 0 := Int.mul_ne_zero (den_ne _) hn
      have d : ((x - t) / p).den ≤ (((x - t).den : Int) * p.num).natAbs := by
        rw [← e, Rat.den_divInt, if_neg nz]
        exact Nat.div_le_self _ _
      have := log2_mono d
      rw [Int.natAbs_mul, Int.natAbs_natCast] at this
      have := log2_mul_le (x - t).den p.num.natAbs
      have := sd.2
      have := sp.1
      omega
    have dv : binD .FloorDiv (.d (.int ((x - t) / p).num)) (.d (.int ((x - t) / p).den)) = .ok (.d (.int (((x - t) / p).num / (((x - t) / p).den : Int)))) := div_w (by have := ((x - t) / p).den_pos; omega) (by simpa using l)
    have fe : ((x - t) / p).num / (((x - t) / p).den : Int) = floorQ ((x - t) / p) := rfl
    rw [fe] at dv
    simp [f_turned_back, startE, il, c, turnQ, mi, ov, dv, wh, tm, mj]
theorem end_of_ok {k : Nat} (a : D) (F : Ft) : runF tab (k + 1) i_end_of [a, encFt F] = .ok (.d (match F with | .over t _ _ _ => encQ t | .whirl t _ _ => encQ t | _ => .none)) := by
  rw [runF_of tab_end_of rfl]
  cases F <;> simp [f_end_of, startE, encFt]
theorem at_flow_ok {k : Nat} {w : Wk} (hw : okW w) {n : Nat} {f : Fl} (F : Flow w n f) (hn : n < 400) (hf : flO w n = some f) {x : Rat} (X : TmOk w x) (le : f.t ≤ x) : runF tab (k + 5) i_at_flow [encW w, encF f, encQ x] = (atQ w f x).res := by
  rw [runF_of tab_at_flow rfl]
  obtain ⟨N, a, b, c⟩ := X.dn
  obtain ⟨d1, d2⟩ := a.dn n hn f hf
  have x9 := X.x9
  have t0 := F.t0
  have vb := v_big
  have om := hw.2.2.2.1 _ (show w.md f.m ∈ w.modes from getD_mem (by have := F.m; omega))
  have sx : Sm x := sm_v a.pos b c (by have := X.x0; grind) (by grind)
  have st : Sm f.t := sm_v a.pos b d1 (by grind) (by grind)
  have dd : Dn N (x - f.t) := c.sub d1
  have sd : Sm (x - f.t) := sm_v a.pos b dd (by grind) (by grind)
  have mi := minus_ok (k := k + 1) x f.t sx st
  obtain ⟨N', l1, _, l3⟩ := F.lw
  have la := levels_after_ok (k := k) f.lv f.m (x - f.t) hw F.m sd (fun l hl => l1.l0.ok.sm l hl) (fun r hr => by
    obtain ⟨r1, r2⟩ := om.1 r hr
    have d0 : 0 ≤ x - f.t := by grind
    have d9 : x - f.t ≤ (VX : Rat) := by grind
    have q1 : ((-99 : Int) : Rat) ≤ (r : Rat) := by exact_mod_cast r1
    have e99 : ((-99 : Int) : Rat) = -99 := by decide +kernel
    rw [e99] at q1
    have q2 : (r : Rat) ≤ (99 : Rat) := by exact_mod_cast r2
    have u1 := Rat.mul_le_mul_of_nonneg_right q1 d0
    have u2 := Rat.mul_le_mul_of_nonneg_right q2 d0
    refine sm_v a.pos b ?_ (by grind) (by grind)
    exact dd.imul r)
  obtain ⟨pre, e⟩ := F.ms
  have li : L2.atI f.ms (-1) = some f.m := by rw [e]; exact atI_last _ _
  simp [f_at_flow, startE, encF, li, mi, la, atQ, MoR.res, encMo]
theorem moment_ok {k : Nat} {w : Wk} (hw : okW w) {x : Rat} (X : TmOk w x) : runF tab (k + 8) i_moment [encW w, encQ x] = (momQ w x).res := by
  rw [runF_of tab_moment rfl]
  obtain ⟨N, a, b, c⟩ := X.dn
  have x0 := X.x0
  have x9 := X.x9
  have sx : Sm x := sm_v a.pos b c (by grind) (by grind)
  have isf := is_fraction_ok (k := k + 4) x (by have := sx.2; omega)
  have nn : ¬ x.num < 0 := by have := Rat.num_nonneg.mpr x0; omega
  have kf : runF tab (k + 7) i_known_fate [encW w, .int 400] = _ := known_fate_ok (k := k) hw 400 (by omega)
  have sm : ∀ f ∈ (runW w 400).1, Sm f.t := fun f hf => by
    obtain ⟨j, hj, e⟩ := mem_flo (by omega) hf
    exact (time_small hw e hj).1
  -- the levels at a time, where there are flows
  have body : ∀ {y : Rat}, TmOk w y → (runW w 400).1 ≠ [] → runF tab (k + 7) i_last_ahead [.list ((runW w 400).1.map encF), encQ y] = .ok (.d (encF (flLast (aheadQ (runW w 400).1 y)))) ∧ runF tab (k + 7) i_at_flow [encW w, encF (flLast (aheadQ (runW w 400).1 y)), encQ y] = (atQ w (flLast (aheadQ (runW w 400).1 y)) y).res := by
    intro y Y ne
    obtain ⟨N, a, b, c⟩ := Y.dn
    have y0 := Y.x0
    have y9 := Y.x9
    have sy : Sm y := sm_v a.pos b c (by grind) (by grind)
    refine ⟨last_ahead_ok (k := k + 5) _ y sy sm (ahead_ne hw (by omega) ne y0), ?_⟩
    obtain ⟨_, _, m, le⟩ := ahead_last hw (by omega) ne y0
    obtain ⟨j, hj, e⟩ := mem_flo (by omega) m
    exact at_flow_ok (k := k + 2) hw (flo_flow hw hj e) hj e Y le
  have en := fun F => end_of_ok (k := k + 6) (.list ((runW w 400).1.map encF)) F
  unfold momQ momR
  cases hF : fateOf (runW w 400) with
  | ring i m t p =>
    rw [hF] at kf
    obtain ⟨Y, st, sp, sd, sk⟩ := X.turn hw (by omega) hF
    obtain ⟨f, g, m0, im, hf, hg, ht, hp, p0, _, _⟩ := ring_facts hw (by omega) hF
    have tb := turned_back_ok (k := k + 3) x t p sx st sp p0 sd sk
    have ne : (runW w 400).1 ≠ [] := by
      intro z
      have := run_get (w := w) (n := 400) (k := i) (by omega)
      rw [z, hf] at this
      cases this
    obtain ⟨la, af⟩ := body Y ne
    simp [f_moment, startE, checked_ok, hw, isf, nn, kf, encFt, tb, la, af]
    cases (atQ w (flLast (aheadQ (runW w 400).1 (turnQ x t p))) (turnQ x t p)) <;> rfl
  | opn =>
    rw [hF] at kf
    obtain ⟨o, _⟩ := fate_opn hF
    have len : (runW w 400).1.length = 400 := by rw [runW_R] at o ⊢; exact runR_open w 400 _ _ _ o
    have ne : (runW w 400).1 ≠ [] := by intro z; rw [z] at len; cases len
    obtain ⟨la, af⟩ := body X ne
    have ll := last_atI ne
    have il := is_less_ok (k := k + 6) x (flLast (runW w 400).1).t sx (sm _ (flLast_mem ne))
    have en := en .opn
    simp only [encFt] at en
    by_cases c1 : x < (flLast (runW w 400).1).t
    · simp [f_moment, startE, checked_ok, hw, isf, nn, kf, encFt, ll, encF_t, il, c1, en, la, af]
      rfl
    · simp [f_moment, startE, checked_ok, hw, isf, nn, kf, encFt, ll, encF_t, il, c1]
      rfl
  | over e v b l =>
    rw [hF] at kf
    have he := fate_over hF
    obtain ⟨P, f, far, e1, _⟩ := runW_end he
    have ne : (runW w 400).1 ≠ [] := by intro z; rw [z] at e1; simp at e1
    obtain ⟨⟨N', h1⟩, h2⟩ := end_lw hw (by omega) he
    obtain ⟨se, e0⟩ := en_sm (w := w) (by omega) ⟨⟨l, N', h1⟩, h2⟩
    obtain ⟨la, af⟩ := body X ne
    have il := is_less_ok (k := k + 6) e x se sx
    have en := en (.over e v b l)
    simp only [encFt] at en
    have ee : cmpD .Eq (.d (encQ e)) (.d (encQ x)) = .ok (.d (.bool (decide (e = x)))) := by
      rw [eq_lay (a := .d (encQ e)) (b := .d (encQ x)) (lay_Q e) (lay_Q x) (by omega) (by omega)]
      congr 3
      exact eqv_Q e x
    have isn : isNoneD (encQ e) = false := rfl
    by_cases c1 : e < x
    · simp [f_moment, startE, checked_ok, hw, isf, nn, kf, encFt, en, il, c1, isn]
      rfl
    · by_cases c2 : e = x
      · subst c2
        simp [f_moment, startE, checked_ok, hw, isf, nn, kf, encFt, en, il, c1, isn, ee, la, af]
        rfl
      · simp [f_moment, startE, checked_ok, hw, isf, nn, kf, encFt, en, il, c1, isn, ee, c2, la, af]
        rfl
  | whirl e ms l =>
    rw [hF] at kf
    have he := fate_whirl hF
    have re := runW_end he
    obtain ⟨⟨N', h1⟩, h2⟩ := end_lw hw (by omega) he
    obtain ⟨se, e0⟩ := en_sm (w := w) (by omega) ⟨⟨l, N', h1⟩, h2⟩
    have il := is_less_ok (k := k + 6) e x se sx
    have en := en (.whirl e ms l)
    simp only [encFt] at en
    have ee : cmpD .Eq (.d (encQ e)) (.d (encQ x)) = .ok (.d (.bool (decide (e = x)))) := by
      rw [eq_lay (a := .d (encQ e)) (b := .d (encQ x)) (lay_Q e) (lay_Q x) (by omega) (by omega)]
      congr 3
      exact eqv_Q e x
    have isn : isNoneD (encQ e) = false := rfl
    by_cases c1 : e < x
    · simp [f_moment, startE, checked_ok, hw, isf, nn, kf, encFt, en, il, c1, isn]
      rfl
    · by_cases c2 : e = x
      · subst c2
        simp [f_moment, startE, checked_ok, hw, isf, nn, kf, encFt, en, il, c1, isn, ee]
        rfl
      · have ne : (runW w 400).1 ≠ [] := by
          intro z
          rcases re with ⟨m, _, ⟨_, _, _, t0⟩ | ⟨P, g, far, e1, _⟩⟩
          · apply c2
            rw [t0] at c1 ⊢
            exact Rat.le_antisymm x0 (Rat.not_lt.mp c1)
          · rw [z] at e1; simp at e1
        obtain ⟨la, af⟩ := body X ne
        simp [f_moment, startE, checked_ok, hw, isf, nn, kf, encFt, en, il, c1, isn, ee, c2, la, af]
        rfl
  | rest e m l =>
    rw [hF] at kf
    have he := fate_rest hF
    obtain ⟨P, f, e1, _⟩ := runW_end he
    have ne : (runW w 400).1 ≠ [] := by intro z; rw [z] at e1; simp at e1
    obtain ⟨la, af⟩ := body X ne
    have en := en (.rest e m l)
    simp only [encFt] at en
    simp [f_moment, startE, checked_ok, hw, isf, nn, kf, encFt, en, la, af]
    rfl
end PF

end

section
/-! P25f: small fractions. -/
namespace PF
open PySem PySem.Spec PyProof.Rows L2
theorem small_frac {a b : Int} (a0 : 0 ≤ a) (a9 : a ≤ 100000000) (b1 : 1 ≤ b) (b9 : b ≤ 1000) : 0 ≤ (Rat.divInt a b).num ∧ (Rat.divInt a b).num ≤ a ∧ ((Rat.divInt a b).den : Int) ≤ b ∧ 0 ≤ Rat.divInt a b ∧ Rat.divInt a b ≤ (VX : Rat) ∧ (Rat.divInt a b).den.log2 ≤ 1000 := by
  have n0 : 0 ≤ (Rat.divInt a b).num := by
    rw [Rat.num_divInt, Int.sign_eq_one_of_pos (by omega), Int.one_mul]
    exact Int.ediv_nonneg a0 (by omega)
  have n9 : (Rat.divInt a b).num ≤ a := by
    rw [Rat.num_divInt, Int.sign_eq_one_of_pos (by omega), Int.one_mul]
    exact Int.ediv_le_self _ a0
  have d9 : ((Rat.divInt a b).den : Int) ≤ b := by
    have h : (Rat.divInt a b).den ≤ b.natAbs := by
      rw [Rat.den_divInt, if_neg (by omega)]
      exact Nat.div_le_self _ _
    omega
  have x0 := Rat.num_nonneg.mp n0
  refine ⟨n0, n9, d9, x0, ?_, ?_⟩
  · obtain ⟨x, hx⟩ : ∃ x, x = Rat.divInt a b := ⟨_, rfl⟩
    rw [← hx] at n9 x0 ⊢
    have e := num_abs x
    have d1 : (1 : Rat) ≤ (x.den : Rat) := by exact_mod_cast x.den_pos
    have u := Rat.mul_le_mul_of_nonneg_left d1 x0
    have v : (100000000 : Int) ≤ (VX : Int) := by decide +kernel
    have n9' : (x.num : Rat) ≤ ((VX : Int) : Rat) := by exact_mod_cast (show x.num ≤ (VX : Int) by omega)
    have v' : ((VX : Int) : Rat) = (VX : Rat) := rfl
    rw [v'] at n9'
    grind
  · have := log2_mono (show (Rat.divInt a b).den ≤ 1000 by omega)
    have l : Nat.log2 1000 = 9 := by decide +kernel
    omega
end PF

end

section
/-! P18f: fate. -/
namespace PF
open PySem PySem.Spec PyProof.Rows L2
theorem fate_ok {k : Nat} {w : Wk} (hw : okW w) (most : Nat) (h400 : most ≤ 400) : runF tab (k + 8) i_fate [encW w, .int most] = .ok (.d (encFt (fateOf (runW w most)))) := by
  rw [runF_of tab_fate rfl]
  have r := known_fate_ok (k := k) hw most h400
  have h4 : (most : Int) ≤ 400 := by omega
  simp [f_fate, startE, checked_ok, hw, h4, r]
end PF

end

section
/-! P11e: an empty list; slices of own lists. -/
namespace PF
open PySem PySem.Spec PyProof.Rows L2
theorem eq_nil (xs : List Int) : cmpD .Eq (.d (.list (xs.map PyData.int))) (.o []) = .ok (.d (.bool xs.isEmpty)) := by
  rw [eq_lay (a := .d (.list (xs.map PyData.int))) (b := .o []) (lay_lm _ xs fun x _ => lay_i x) (lay_l (n := 0) [] (by simp)) (by omega) (by omega)]
  cases xs <;> simp [PyData.eqv, PyData.eqvAll]
@[simp] theorem sl_o (xs : List D) (l h : Option Int) : slD (.o xs) l h = .ok (.o (cutD xs l h)) := rfl
end PF

end

section
/-! P11c: the law's own common divisor. -/
namespace PF
open PySem PySem.Spec PyProof.Rows L2
theorem lcommon_loop {k : Nat} : ∀ (b a : Nat), ∃ (x : Sl), whlD (tst (runF tab k) (.cmp .NotEq (.var 1) (.con (.int 0)))) (exB (runF tab k) b__law_common_1) [.val (.int a), .val (.int b)] = .nx [.val (.int (Nat.gcd a b)), x]
  | b, a => by
    rw [whlD_step]
    by_cases h : b = 0
    · subst h
      exact ⟨.val (.int 0), by simp⟩
    · have lt : a % b < b := Nat.mod_lt _ (by omega)
      obtain ⟨x, e⟩ := lcommon_loop (k := k) (a % b) b
      refine ⟨x, ?_⟩
      have p : 0 < b := by omega
      have st : exB (runF tab k) b__law_common_1 [.val (.int a), .val (.int b)] = .nx [.val (.int b), .val (.int ((a % b : Nat) : Int))] := by
        simp [b__law_common_1, p]
      have ts : tst (runF tab k) (.cmp .NotEq (.var 1) (.con (.int 0))) [.val (.int a), .val (.int b)] = .ok true := by simp [h]
      rw [ts, st]
      simp only [M.ctl_ok, if_pos]
      rw [e, Nat.gcd_comm a b, Nat.gcd_rec b a, Nat.gcd_comm (a % b) b]
termination_by b => b
theorem lcommon_ok {k : Nat} (a b : Nat) : runF tab (k + 1) i__law_common [.int a, .int b] = .ok (.d (.int (Nat.gcd a b))) := by
  rw [runF_of tab__law_common rfl]
  obtain ⟨x, e⟩ := lcommon_loop (k := k) b a
  simp [f__law_common, startE]
  rw [e]
  simp
end PF

end

section
/-! P11a: the law's own fractions. -/
namespace PF
open PySem PySem.Spec PyProof.Rows L2
theorem lfrac_ok {k : Nat} (a b : Int) (hb : b ≠ 0) (hs : b.natAbs.log2 < 9000) : runF tab (k + 2) i__law_frac [.int a, .int b] = .ok (.d (encQ (Rat.divInt a b))) := by
  rw [runF_of tab__law_frac rfl]
  have gp : 0 < Nat.gcd a.natAbs b.natAbs := Nat.gcd_pos_of_pos_right _ (by omega)
  have gl : (Nat.gcd a.natAbs b.natAbs).log2 < 9000 := Nat.lt_of_le_of_lt (log2_mono (Nat.le_of_dvd (by omega) (Nat.gcd_dvd_right _ _))) hs
  have en : (Rat.divInt a b).num = b.sign * a / (Nat.gcd a.natAbs b.natAbs : Int) := by
    rw [Rat.num_divInt]
    show _ / ((Nat.gcd b.natAbs a.natAbs : Nat) : Int) = _
    rw [Nat.gcd_comm]
  have ed : (Rat.divInt a b).den = b.natAbs / Nat.gcd a.natAbs b.natAbs := by
    rw [Rat.den_divInt, if_neg hb]
    show b.natAbs / Nat.gcd b.natAbs a.natAbs = _
    rw [Nat.gcd_comm]
  have dv : ∀ i : Int, binD .FloorDiv (.d (.int i)) (.d (.int (Nat.gcd a.natAbs b.natAbs))) = .ok (.d (.int (i / (Nat.gcd a.natAbs b.natAbs : Int)))) := fun i => div_w (by omega) (by simpa using gl)
  have ab : ∀ i : Int, absI i = (i.natAbs : Int) := fun i => by unfold absI; split <;> omega
  by_cases h : b < 0
  · have c := lcommon_ok (k := k) a.natAbs b.natAbs
    have e1 : (-b : Int) = (b.natAbs : Int) := by omega
    have s : b.sign = -1 := Int.sign_eq_neg_one_of_neg h
    simp [f__law_frac, startE, h, ab, e1, c, dv]
    unfold encQ
    rw [en, ed, s]
    simp
  · have c := lcommon_ok (k := k) a.natAbs b.natAbs
    have e1 : (b : Int) = (b.natAbs : Int) := by omega
    have s : b.sign = 1 := Int.sign_eq_one_of_pos (by omega)
    have c' : runF tab (k + 1) i__law_common [.int a.natAbs, .int b] = .ok (.d (.int (Nat.gcd a.natAbs b.natAbs))) := by rw [e1]; exact c
    simp [f__law_frac, startE, h, ab, c', dv]
    unfold encQ
    rw [en, ed, s]
    simp
    rw [← e1]
end PF

end

section
/-! P3: the law's drawing of works. -/
namespace PF
open PySem PySem.Spec
def mixI (c p m : Int) : Int := (c * 48271 % p) ^ 3 % p % m
theorem mixI_lo (c p : Int) {m : Int} (h : 0 < m) : 0 ≤ mixI c p m := Int.emod_nonneg _ (by omega)
theorem mixI_hi (c p : Int) {m : Int} (h : 0 < m) : mixI c p m < m := Int.emod_lt_of_pos _ h
theorem mix_ok {k : Nat} (c p m : Int) (hp : 0 < p) (hp2 : p < 1000000) (hm : 0 < m) : runF tab (k + 1) i__law_mix [.int c, .int p, .int m] = .ok (.d (.int (mixI c p m))) := by
  rw [runF_of tab__law_mix rfl]
  have a1 : 0 ≤ c * 48271 % p := Int.emod_nonneg _ (by omega)
  have a2 : c * 48271 % p < p := Int.emod_lt_of_pos _ hp
  simp [f__law_mix, startE, hp, hm, pow_3 a1 (by omega), mixI]
theorem works_2 {k : Nat} {a0 a1 a2 a7 a8 s12 s13 s14 : Sl} {many size seed : Int} {brims rates : List Int} (hb : brims.length = many) (hr : rates.length = many) (hb2 : ∀ b ∈ brims, 2 ≤ b) (hs : 0 < size) (sws : List Sw) (ok : ∀ s ∈ sws, okS brims size s) (len : sws.length ≤ 1000)
    (i : Nat) (hi : (i : Int) < many) : ∃ sws' : List Sw, (∀ s ∈ sws', okS brims size s) ∧ sws'.length ≤ sws.length + 1 ∧ ∃ s12' s13' : Sl, exB (runF tab (k + 1)) b__law_works_2 [a0, a1, a2, .val (.int many), .val (.int size), .val (encI brims), .val (.int i), a7, a8, .val (.int seed), .val (encI rates), .own (sws.map encS), s12, s13, s14] =
      .nx [a0, a1, a2, .val (.int many), .val (.int size), .val (encI brims), .val (.int i), a7, a8, .val (.int seed), .val (encI rates), .own (sws'.map encS), s12', s13', s14] := by
  have e1 := atI_pos (d := (0 : Int)) (xs := brims) (i := i) (by omega) (by omega)
  have e2 := atI_pos (d := (0 : Int)) (xs := rates) (i := i) (by omega) (by omega)
  have sl := sizeLine_big
  have lt : sws.length < sizeLine := by omega
  have b2 := hb2 _ (getD_mem (d := 0) (show i < brims.length by omega))
  have d1 := mixI_lo (seed + 23 * i) 9929 (m := brims.getD i 0 - 1) (by omega)
  have d2 := mixI_hi (seed + 23 * i) 9929 (m := brims.getD i 0 - 1) (by omega)
  have d3 := mixI_lo (seed + 29 * i + 1) 9923 hs
  have d4 := mixI_hi (seed + 29 * i + 1) 9923 hs
  have b3 : 1 < brims[i]?.getD 0 := by rw [← List.getD_eq_getElem?_getD]; omega
  by_cases h1 : mixI (seed + 7 * i) 9931 7 > 0
  · by_cases h2 : rates.getD i 0 = 0
    · refine ⟨sws, ok, by omega, s12, s13, ?_⟩
      simp at e1 e2 h2
      simp [b__law_works_2, e1, e2, mix_ok, h1, h2]
    · by_cases h3 : 0 < rates.getD i 0
      · refine ⟨sws ++ [⟨i, true, max (1 + mixI (seed + 23 * i) 9929 (brims.getD i 0 - 1)) 0, mixI (seed + 29 * i + 1) 9923 size⟩], ?_, by simp, .val (wayD true), .val (.int (1 + mixI (seed + 23 * i) 9929 (brims.getD i 0 - 1))), ?_⟩
        · intro s hs'
          rcases List.mem_append.mp hs' with q | q
          · exact ok s q
          · cases List.mem_singleton.mp q
            exact ⟨⟨by simp, by simp; omega⟩, ⟨by dsimp only; omega, by simp at *; omega⟩, d3, by simp; omega⟩
        · simp at e1 e2 h2 h3
          simp [b__law_works_2, e1, e2, mix_ok, h1, h2, h3, b3, hs, lt]
          rfl
      · refine ⟨sws ++ [⟨i, false, max (brims.getD i 0 - 1 - (1 + mixI (seed + 23 * i) 9929 (brims.getD i 0 - 1))) 0, mixI (seed + 29 * i + 1) 9923 size⟩], ?_, by simp, .val (wayD false), .val (.int (brims.getD i 0 - 1 - (1 + mixI (seed + 23 * i) 9929 (brims.getD i 0 - 1)))), ?_⟩
        · intro s hs'
          rcases List.mem_append.mp hs' with q | q
          · exact ok s q
          · cases List.mem_singleton.mp q
            exact ⟨⟨by simp, by simp; omega⟩, ⟨by dsimp only; omega, by simp at *; omega⟩, d3, by simp; omega⟩
        · simp at e1 e2 h2 h3
          have h4 : ¬ 0 < rates[i]?.getD 0 := by omega
          simp [b__law_works_2, e1, e2, mix_ok, h1, h2, h4, b3, hs, lt]
          rfl
  · refine ⟨sws, ok, by omega, s12, s13, ?_⟩
    simp [b__law_works_2, mix_ok, h1]
def ratesI (seed : Int) (n : Nat) : List Int := (List.range n).map fun (i : Nat) => mixI (seed + 17 * (i : Int) * i + i) 9941 11 - 5
theorem rates_len (seed : Int) (n : Nat) : (ratesI seed n).length = n := by simp [ratesI]
theorem rates_mem {seed : Int} {n : Nat} {r : Int} (h : r ∈ ratesI seed n) : -5 ≤ r ∧ r ≤ 5 := by
  simp only [ratesI, List.mem_map] at h
  obtain ⟨i, _, rfl⟩ := h
  have := mixI_lo (seed + 17 * (i : Int) * i + i) 9941 (m := 11) (by omega)
  have := mixI_hi (seed + 17 * (i : Int) * i + i) 9941 (m := 11) (by omega)
  omega
/-- what is drawn of a mode -/
def drM (brims : List Int) (size : Int) (m : Md) : Prop := okM brims size m ∧ (∀ r ∈ m.rates, -5 ≤ r ∧ r ≤ 5) ∧ m.sws.length ≤ 4
theorem works_1 {k n z : Nat} {ns : List Int} {at_ : Int} {a2 s6 s9 s10 s11 s12 s13 s14 : Sl} {brims : List Int} (hat : 0 ≤ at_) (hb : brims.length = n) (hb2 : ∀ b ∈ brims, 2 ≤ b) (hn : 0 < n) (hn2 : n ≤ 3) (hz : 0 < z) (ms : List Md) (ok : ∀ m ∈ ms, drM brims z m) (len : ms.length ≤ 1000) (i : Nat) :
    ∃ m : Md, drM brims z m ∧ ∃ s6' s9' s10' s11' s12' s13' : Sl, exB (runF tab (k + 1)) b__law_works_1 [.val (encN ns), .val (.int at_), a2, .val (.int n), .val (.int z), .val (encI brims), s6, .own (ms.map encM), .val (.int i), s9, s10, s11, s12, s13, s14] =
      .nx [.val (encN ns), .val (.int at_), a2, .val (.int n), .val (.int z), .val (encI brims), s6', .own ((ms ++ [m]).map encM), .val (.int i), s9', s10', s11', s12', s13', s14] := by
  have sl := sizeLine_big
  have lt : ms.length < sizeLine := by omega
  obtain ⟨seed, hseed⟩ : ∃ x, x = cellI ns (at_ + 2 + i) + 61 * i := ⟨_, rfl⟩
  have rl : (ratesI seed n).length = n := rates_len seed n
  have rm : ∀ r ∈ ratesI seed n, -5 ≤ r ∧ r ≤ 5 := fun r hr => rates_mem hr
  obtain ⟨ρ1, e1, sws, J1, J2, t6, t12, t13, J3⟩ := forD_inv (tg := .name 6) (b := exB (runF tab (k + 1)) b__law_works_2) (fun (i : Nat) => PyData.int (i : Int))
    (fun done ρ => ∃ sws : List Sw, (∀ s ∈ sws, okS brims z s) ∧ sws.length ≤ done.length ∧ ∃ t6 t12 t13 : Sl, ρ = [.val (encN ns), .val (.int at_), a2, .val (.int n), .val (.int z), .val (encI brims), t6, .own (ms.map encM), .val (.int i), .val (.int seed), .val (encI (ratesI seed n)), .own (sws.map encS), t12, t13, s14])
    (List.range n) [.val (encN ns), .val (.int at_), a2, .val (.int n), .val (.int z), .val (encI brims), s6, .own (ms.map encM), .val (.int i), .val (.int seed), .val (encI (ratesI seed n)), .own [], s12, s13, s14]
    ⟨[], by simp, by simp, s6, s12, s13, rfl⟩
    (by
      intro done x rest ρ hx ⟨sws, q1, q2, t6, t12, t13, q3⟩
      subst q3
      obtain ⟨dl, hx⟩ := range_at hx
      obtain ⟨sws', w1, w2, u12, u13, w3⟩ := works_2 (k := k) (a0 := .val (encN ns)) (a1 := .val (.int at_)) (a2 := a2) (a7 := .own (ms.map encM)) (a8 := .val (.int i)) (s12 := t12) (s13 := t13) (s14 := s14) (many := n) (size := z) (seed := seed) (brims := brims) (rates := ratesI seed n) (by omega) (by omega) hb2 (by omega) sws q1 (by omega) x (by omega)
      exact ⟨_, _, by simp, .inl w3, sws', w1, by simp; omega, _, u12, u13, rfl⟩)
  subst J3
  have J2 : sws.length ≤ 3 := by simp at J2; omega
  simp [b__law_works_1, cell_ok ns (at_ + 2 + i) (by omega), rngD_nat (show n ≤ 1000000 by omega), ← hseed]
  rw [compD_map1 (fun (i : Nat) => PyData.int (i : Int)) (fun (i : Nat) => .int (mixI (seed + 17 * (i : Int) * i + i) 9941 11 - 5))]
  · simp only [M.bind_ok, tuple_o, fold_encI, M.ctl_ok, store_d, Ctl.seq_nx, evp_cons]
    have er : List.map (fun (a : Nat) => mixI (seed + 17 * (a : Int) * a + a) 9941 11 - 5) (List.range n) = ratesI seed n := rfl
    rw [er]
    simp [rngD_nat (show n ≤ 1000000 by omega)]
    rw [e1]
    by_cases h : mixI seed 9907 5 = 1
    · obtain ⟨v, hv⟩ : ∃ v, v = mixI seed 9901 n := ⟨_, rfl⟩
      have v1 := mixI_lo seed 9901 (m := n) (by omega)
      have v2 := mixI_hi seed 9901 (m := n) (by omega)
      rw [← hv] at v1 v2
      have ev := atI_pos (d := (0 : Int)) (xs := brims) (i := v) (by omega) (by omega)
      have b2 := hb2 _ (getD_mem (d := 0) (show v.toNat < brims.length by omega))
      have b3 : 0 < brims[v.toNat]?.getD 0 + 1 := by rw [← List.getD_eq_getElem?_getD]; omega
      have w1 := mixI_lo seed 9887 b3
      have w2 := mixI_hi seed 9887 b3
      have u1 := mixI_lo seed 9883 (m := 2) (by omega)
      have u2 := mixI_hi seed 9883 (m := 2) (by omega)
      have x1 := mixI_lo seed 9871 (m := z) (by omega)
      have x2 := mixI_hi seed 9871 (m := z) (by omega)
      have lt2 : sws.length < sizeLine := by omega
      have way : ∃ up, ixD (.o [wayD true, wayD false]) (.d (.int (mixI seed 9883 2))) = .ok (.d (wayD up)) := by
        rcases (show mixI seed 9883 2 = 0 ∨ mixI seed 9883 2 = 1 by omega) with q | q
        · exact ⟨true, by rw [q]; rfl⟩
        · exact ⟨false, by rw [q]; rfl⟩
      obtain ⟨up, way⟩ := way
      refine ⟨⟨ratesI seed n, sws ++ [⟨v, up, mixI seed 9887 (brims[v.toNat]?.getD 0 + 1), mixI seed 9871 z⟩]⟩, ⟨⟨?_, by simp [rl, hb], by simp; omega, ?_⟩, rm, by simp; omega⟩, ?_⟩
      · intro r hr
        have := rm r hr
        omega
      · intro s hs'
        rcases List.mem_append.mp hs' with q | q
        · exact J1 s q
        · cases List.mem_singleton.mp q
          exact ⟨⟨v1, by simp; omega⟩, ⟨w1, by simp; omega⟩, x1, by simp; omega⟩
      · simp [mix_ok, h, hn, ← hv, ev, b3, hz, way, lt, lt2]
        simp [encM, encS]
    · refine ⟨⟨ratesI seed n, sws⟩, ⟨⟨?_, by simp [rl, hb], by simp; omega, J1⟩, rm, by simp; omega⟩, ?_⟩
      · intro r hr
        have := rm r hr
        omega
      · simp [mix_ok, h, lt]
        rfl
  · intro x hx
    have : (x : Int) < 3 := by simp at hx; omega
    simp [mix_ok, show (x : Int) < 18446744073709551616 by omega, show -18446744073709551616 < (x : Int) by omega]
structure Drawn (w : Wk) : Prop where
  brims : ∀ b ∈ w.brims, 2 ≤ b ∧ b ≤ 32
  few : 1 ≤ w.brims.length ∧ w.brims.length ≤ 3
  size : 1 ≤ w.modes.length ∧ w.modes.length ≤ 4
  modes : ∀ m ∈ w.modes, drM w.brims w.modes.length m
  at_ : 0 ≤ w.at_ ∧ w.at_ < w.modes.length
  many : w.levels.length = w.brims.length
  levels : ∀ i, i < w.brims.length → 0 ≤ w.levels.getD i 0 ∧ w.levels.getD i 0 ≤ w.brims.getD i 0
theorem works_ok {k : Nat} (ns : List Int) (at_ : Int) (hat : 0 ≤ at_) : ∃ w, Drawn w ∧ runF tab (k + 2) i__law_works [encN ns, .int at_] = .ok (.d (encW w)) := by
  rw [runF_of tab__law_works rfl]
  have sl := sizeLine_big
  obtain ⟨c, hc⟩ : ∃ c, c = cellI ns at_ := ⟨_, rfl⟩
  obtain ⟨n, hn, hn1, hn2⟩ : ∃ n : Nat, (n : Int) = (if mixI (cellI ns 0 + 7 * ns.length) 9871 8 = 3 then 1 + mixI c 9973 3 else 1 + mixI c 9973 2) ∧ 0 < n ∧ n ≤ 3 := by
    have a1 := mixI_lo c 9973 (m := 3) (by omega)
    have a2 := mixI_hi c 9973 (m := 3) (by omega)
    have a3 := mixI_lo c 9973 (m := 2) (by omega)
    have a4 := mixI_hi c 9973 (m := 2) (by omega)
    split
    · exact ⟨(1 + mixI c 9973 3).toNat, by omega, by omega, by omega⟩
    · exact ⟨(1 + mixI c 9973 2).toNat, by omega, by omega, by omega⟩
  obtain ⟨z, hz, hz1, hz2⟩ : ∃ z : Nat, (z : Int) = 1 + mixI c 9967 4 ∧ 0 < z ∧ z ≤ 4 := by
    have a1 := mixI_lo c 9967 (m := 4) (by omega)
    have a2 := mixI_hi c 9967 (m := 4) (by omega)
    exact ⟨(1 + mixI c 9967 4).toNat, by omega, by omega, by omega⟩
  obtain ⟨c1, hc1⟩ : ∃ c1, c1 = cellI ns (at_ + 1) := ⟨_, rfl⟩
  obtain ⟨brims, hbr⟩ : ∃ b : List Int, b = (List.range n).map fun (i : Nat) => 8 + mixI (c1 + 13 * (i : Int)) 9949 25 := ⟨_, rfl⟩
  have bl : brims.length = n := by rw [hbr]; simp
  have bm : ∀ b ∈ brims, 8 ≤ b ∧ b ≤ 32 := by
    intro b hb
    rw [hbr] at hb
    obtain ⟨i, _, rfl⟩ := List.mem_map.mp hb
    have a1 := mixI_lo (c1 + 13 * (i : Int)) 9949 (m := 25) (by omega)
    have a2 := mixI_hi (c1 + 13 * (i : Int)) 9949 (m := 25) (by omega)
    omega
  obtain ⟨ρ1, e1, ms, J1, J2, t6, t9, t10, t11, t12, t13, J3⟩ := forD_inv (tg := .name 8) (b := exB (runF tab (k + 1)) b__law_works_1) (fun (i : Nat) => PyData.int (i : Int))
    (fun done ρ => ∃ ms : List Md, (∀ m ∈ ms, drM brims z m) ∧ ms.length = done.length ∧ ∃ t6 t8 t9 t10 t11 t12 t13 : Sl, ρ = [.val (encN ns), .val (.int at_), .val (.int c), .val (.int n), .val (.int z), .val (encI brims), t6, .own (ms.map encM), t8, t9, t10, t11, t12, t13, .no])
    (List.range z) [.val (encN ns), .val (.int at_), .val (.int c), .val (.int n), .val (.int z), .val (encI brims), .no, .own [], .no, .no, .no, .no, .no, .no, .no]
    ⟨[], by simp, by simp, _, _, _, _, _, _, _, rfl⟩
    (by
      intro done x rest ρ hx ⟨ms, q1, q2, t6, t8, t9, t10, t11, t12, t13, q3⟩
      subst q3
      obtain ⟨dl, hx⟩ := range_at hx
      obtain ⟨m, w1, u6, u9, u10, u11, u12, u13, w3⟩ := works_1 (k := k) (a2 := .val (.int c)) (s6 := t6) (s9 := t9) (s10 := t10) (s11 := t11) (s12 := t12) (s13 := t13) (s14 := .no) (ns := ns) hat bl (fun b hb => by have := bm b hb; omega) hn1 hn2 hz1 ms q1 (by omega) x
      refine ⟨_, _, by simp, .inl w3, ms ++ [m], ?_, by simp; omega, _, _, _, _, _, _, _, rfl⟩
      intro m' hm'
      rcases List.mem_append.mp hm' with q | q
      · exact q1 m' q
      · cases List.mem_singleton.mp q
        exact w1)
  obtain ⟨t13', J3⟩ := J3
  subst J3
  have J2 : ms.length = z := by simpa using J2
  have lv : ∀ i, i < n → L2.atI brims (i : Int) = some (brims.getD i 0) := fun i hi => by
    have := atI_pos (d := (0 : Int)) (xs := brims) (i := i) (by omega) (by omega)
    simpa using this
  have bp : ∀ i, i < n → 0 < brims.getD i 0 + 1 := fun i hi => by
    have := bm _ (getD_mem (d := 0) (show i < brims.length by omega))
    omega
  have m1 := mixI_lo c 9857 (m := z) (by omega)
  have m2 := mixI_hi c 9857 (m := z) (by omega)
  refine ⟨⟨brims, ms, mixI c 9857 z, (List.range n).map fun (i : Nat) => mixI (c1 + 31 * (i : Int) + 5) 9859 (brims.getD i 0 + 1)⟩, ⟨fun b hb => by have := bm b hb; omega, by dsimp only; omega, by dsimp only; omega, ?_, by dsimp only; omega, by simp [bl], ?_⟩, ?_⟩
  · dsimp only
    rw [J2]
    exact J1
  · intro i hi
    have hi : i < n := by dsimp only at hi; omega
    have a1 := mixI_lo (c1 + 31 * (i : Int) + 5) 9859 (bp i hi)
    have a2 := mixI_hi (c1 + 31 * (i : Int) + 5) 9859 (bp i hi)
    simp [hi] at a1 a2 ⊢
    omega
  simp [f__law_works, startE, cell_ok, hat, ← hc, mix_ok, ← hn, ← hz, rngD_nat (show n ≤ 1000000 by omega)]
  rw [compD_map1 (fun (i : Nat) => PyData.int (i : Int)) (fun (i : Nat) => .int (8 + mixI (c1 + 13 * (i : Int)) 9949 25))]
  · simp only [M.bind_ok, tuple_o, fold_encI, M.ctl_ok, store_d, Ctl.seq_nx, evp_cons]
    rw [← hbr]
    simp [rngD_nat (show z ≤ 1000000 by omega)]
    rw [e1]
    simp [rngD_nat (show n ≤ 1000000 by omega)]
    rw [compD_map1 (fun (i : Nat) => PyData.int (i : Int)) (fun (i : Nat) => .int (mixI (c1 + 31 * (i : Int) + 5) 9859 (brims.getD i 0 + 1)))]
    · simp [mix_ok, hz1, encW]
    · intro x hx
      have hx : x < n := by simpa using hx
      have h1 := lv x hx
      have h2 := bp x hx
      simp at h1 h2
      simp [mix_ok, cell_ok ns (at_ + 1) (by omega), ← hc1, h1, h2, show (x : Int) < 18446744073709551616 by omega, show -18446744073709551616 < (x : Int) by omega]
  · intro x hx
    have : (x : Int) < 3 := by simp at hx; omega
    simp [mix_ok, cell_ok ns (at_ + 1) (by omega), ← hc1, show (x : Int) < 18446744073709551616 by omega, show -18446744073709551616 < (x : Int) by omega]
theorem Drawn.ok {w : Wk} (h : Drawn w) : okW w := by
  refine ⟨fun b hb => ?_, by have := h.few; omega, by have := h.size; omega, fun m hm => (h.modes m hm).1, by have := h.at_; omega, fun l hl => ?_, h.many, fun i hi => ?_⟩
  · have := h.brims b hb; omega
  · obtain ⟨i, hi, rfl⟩ := List.getElem_of_mem hl
    have hi' : i < w.brims.length := by rw [← h.many]; exact hi
    have := h.levels i hi'
    have b := h.brims _ (getD_mem (d := 0) hi')
    rw [List.getD_eq_getElem?_getD, List.getElem?_eq_getElem hi] at this
    simp at this b
    omega
  · exact (h.levels i (by simpa using hi)).2
end PF

end

section
/-! P3: the law's drawing of works. -/
namespace PF
open PySem PySem.Spec
def sawLow (x : Int) : Int := mixI x 9839 6
def sawHigh (x : Int) : Int := sawLow x + 2 + mixI x 9833 9
def sawBrim (x : Int) : Int := sawHigh x + mixI x 9829 4
def sawUp (x : Int) : Int := 1 + mixI x 9817 5
def sawDn (x : Int) : Int := -1 - mixI x 9811 5
def sawLev (x : Int) : Int := sawLow x + mixI x 9803 (sawHigh x - sawLow x + 1)
structure SawF (lo hi br up dn lv : Int) : Prop where
  f1 : 0 ≤ lo ∧ lo ≤ 5
  f2 : lo + 2 ≤ hi ∧ hi ≤ lo + 10
  f3 : hi ≤ br ∧ br ≤ hi + 3
  f4 : 1 ≤ up ∧ up ≤ 5
  f5 : -5 ≤ dn ∧ dn ≤ -1
  f6 : lo ≤ lv ∧ lv ≤ hi
theorem saw_f (x : Int) : SawF (sawLow x) (sawHigh x) (sawBrim x) (sawUp x) (sawDn x) (sawLev x) := by
  have a1 := mixI_lo x 9839 (m := 6) (by omega)
  have a2 := mixI_hi x 9839 (m := 6) (by omega)
  have b1 := mixI_lo x 9833 (m := 9) (by omega)
  have b2 := mixI_hi x 9833 (m := 9) (by omega)
  have c1 := mixI_lo x 9829 (m := 4) (by omega)
  have c2 := mixI_hi x 9829 (m := 4) (by omega)
  have d1 := mixI_lo x 9817 (m := 5) (by omega)
  have d2 := mixI_hi x 9817 (m := 5) (by omega)
  have e1 := mixI_lo x 9811 (m := 5) (by omega)
  have e2 := mixI_hi x 9811 (m := 5) (by omega)
  have p : 0 < sawHigh x - sawLow x + 1 := by unfold sawHigh; omega
  have f1 := mixI_lo x 9803 p
  have f2 := mixI_hi x 9803 p
  refine ⟨?_, ?_, ?_, ?_, ?_, ?_⟩
  · unfold sawLow; omega
  · unfold sawHigh; omega
  · unfold sawBrim; omega
  · unfold sawUp; omega
  · unfold sawDn; omega
  · unfold sawLev; omega
def saw1 (lo hi br up dn lv : Int) : Wk := ⟨[br], [⟨[up], [⟨0, true, hi, 1⟩]⟩, ⟨[dn], [⟨0, false, lo, 0⟩]⟩], 0, [lv]⟩
def saw2 (lo hi br up dn lv lo' hi' br' up' dn' lv' : Int) : Wk := ⟨[br, br'], [⟨[up, up'], [⟨0, true, hi, 1⟩, ⟨1, true, hi', 2⟩]⟩, ⟨[dn, up'], [⟨0, false, lo, 0⟩, ⟨1, true, hi', 3⟩]⟩,
  ⟨[up, dn'], [⟨0, true, hi, 3⟩, ⟨1, false, lo', 0⟩]⟩, ⟨[dn, dn'], [⟨0, false, lo, 2⟩, ⟨1, false, lo', 1⟩]⟩], 0, [lv, lv']⟩
theorem saw1_dr {lo hi br up dn lv : Int} (h : SawF lo hi br up dn lv) : Drawn (saw1 lo hi br up dn lv) := by
  obtain ⟨h1, h2, h3, h4, h5, h6⟩ := h
  constructor <;> simp [saw1, drM, okM, okS] <;> omega
theorem saw2_dr {lo hi br up dn lv lo' hi' br' up' dn' lv' : Int} (h : SawF lo hi br up dn lv) (h' : SawF lo' hi' br' up' dn' lv') : Drawn (saw2 lo hi br up dn lv lo' hi' br' up' dn' lv') := by
  obtain ⟨h1, h2, h3, h4, h5, h6⟩ := h
  obtain ⟨g1, g2, g3, g4, g5, g6⟩ := h'
  constructor
  case levels =>
    intro i hi
    simp [saw2] at hi ⊢
    rcases (show i = 0 ∨ i = 1 by omega) with q | q <;> subst q <;> simp <;> omega
  all_goals simp [saw2, drM, okM, okS] <;> omega
def sawW (c : Int) : Wk := if mixI c 9851 2 = 0 then saw1 (sawLow c) (sawHigh c) (sawBrim c) (sawUp c) (sawDn c) (sawLev c) else
  saw2 (sawLow c) (sawHigh c) (sawBrim c) (sawUp c) (sawDn c) (sawLev c) (sawLow (c + 41 + 3)) (sawHigh (c + 41 + 3)) (sawBrim (c + 41 + 3)) (sawUp (c + 41 + 3)) (sawDn (c + 41 + 3)) (sawLev (c + 41 + 3))
theorem saw_ok {k : Nat} (ns : List Int) (at_ : Int) (hat : 0 ≤ at_) : runF tab (k + 2) i__law_saw [encN ns, .int at_] = .ok (.d (encW (sawW (cellI ns at_)))) := by
  rw [runF_of tab__law_saw rfl]
  have sl := sizeLine_big
  obtain ⟨c, hc⟩ : ∃ c, c = cellI ns at_ := ⟨_, rfl⟩
  have a1 := mixI_lo c 9851 (m := 2) (by omega)
  have a2 := mixI_hi c 9851 (m := 2) (by omega)
  have hi : ∀ x : Int, 0 < mixI x 9839 6 + 2 + mixI x 9833 9 - mixI x 9839 6 + 1 := fun x => by
    have := mixI_lo x 9833 (m := 9) (by omega)
    omega
  have l0 : 0 < sizeLine := by omega
  have l1 : 1 < sizeLine := by omega
  have l2 : 2 < sizeLine := by omega
  have l3 : 3 < sizeLine := by omega
  rcases (show mixI c 9851 2 = 0 ∨ mixI c 9851 2 = 1 by omega) with q | q
  · simp [f__law_saw, b__law_saw_1, b__law_saw_2, b__law_saw_3, startE, cell_ok, hat, ← hc, mix_ok, q, rng1_1, rng1_2, rng1_4, forD_nil, forD_cons, compD_nil, compD_cons, hi, l0, l1, l2, l3]
    simp [sawW, q, saw1, encW, encM, encS, encI, sawLow, sawHigh, sawBrim, sawUp, sawDn, sawLev]
  · simp [f__law_saw, b__law_saw_1, b__law_saw_2, b__law_saw_3, startE, cell_ok, hat, ← hc, mix_ok, q, rng1_1, rng1_2, rng1_4, forD_nil, forD_cons, compD_nil, compD_cons, hi, l0, l1, l2, l3]
    simp [sawW, q, saw2, encW, encM, encS, encI, sawLow, sawHigh, sawBrim, sawUp, sawDn, sawLev]
theorem sawW_dr (c : Int) : Drawn (sawW c) := by
  unfold sawW
  split
  · exact saw1_dr (saw_f c)
  · exact saw2_dr (saw_f c) (saw_f _)
theorem drawn_ok {k : Nat} (ns : List Int) (at_ : Int) (hat : 0 ≤ at_) : ∃ w, Drawn w ∧ runF tab (k + 3) i__law_drawn [encN ns, .int at_] = .ok (.d (encW w)) := by
  rw [runF_of tab__law_drawn rfl]
  obtain ⟨w, hw, e⟩ := works_ok (k := k) ns at_ hat
  by_cases h : mixI (cellI ns at_) 9791 3 = 1
  · exact ⟨sawW (cellI ns at_), sawW_dr _, by simp [f__law_drawn, startE, cell_ok, hat, mix_ok, h, saw_ok ns at_ hat]⟩
  · exact ⟨w, hw, by simp [f__law_drawn, startE, cell_ok, hat, mix_ok, h, e]⟩
end PF

end

section
/-! L20: law k20. -/
namespace PF
open PySem PySem.Spec PyProof.Rows L2
def depth : Nat := 12
def toldR : MoR → R
  | .ok m lv => .d (encMo m lv)
  | .ov => .o [.bool true, .bool false]
  | .op => .o [.bool false, .bool true]
theorem ltold_ok {k : Nat} {w : Wk} (hw : okW w) {x : Rat} (X : TmOk w x) : runF tab (k + 9) i__law_told [encW w, encQ x] = .ok (toldR (momQ w x)) := by
  rw [runF_of tab__law_told rfl]
  have r := moment_ok (k := k) hw X
  cases q : momQ w x with
  | ok m lv => rw [q] at r; simp [f__law_told, startE, r, MoR.res, toldR]
  | ov => rw [q] at r; simp [f__law_told, startE, r, MoR.res, toldR, x_Over]
  | op => rw [q] at r; simp [f__law_told, startE, r, MoR.res, toldR, x_Open]
theorem lay_Mo (m : Int) (lv : List Rat) : Lay 3 (encMo m lv) := lay_t _ fun x hx => by
  simp at hx
  rcases hx with rfl | rfl
  · exact (lay_i m).mono (by omega)
  · exact lay_L lv
theorem lay_told (t : MoR) : Lay 3 (toldR t).toD := by
  cases t with
  | ok m lv => exact lay_Mo m lv
  | ov => exact (lay_l (n := 0) _ fun x hx => by simp at hx; rcases hx with rfl | rfl <;> exact lay_b _).mono (by omega)
  | op => exact (lay_l (n := 0) _ fun x hx => by simp at hx; rcases hx with rfl | rfl <;> exact lay_b _).mono (by omega)
theorem ne_told (t : MoR) : cmpD .NotEq (toldR t) (toldR t) = .ok (.d (.bool false)) := notne_lay (lay_told t) rfl (by omega)
def kindS : Ft → Str
  | .ring _ _ _ _ => "ring"
  | .over _ _ _ _ => "over"
  | .rest _ _ _ => "rest"
  | .whirl _ _ _ => "whirl"
  | .opn => "open"
theorem ft_0 (f : Ft) : ixD (.d (encFt f)) (.d (.int 0)) = .ok (.d (.str (kindS f))) := by cases f <;> rfl
theorem kind_scl (c r : Int) (f : Ft) : kindS (upFt c r f) = kindS f := by cases f <;> rfl
theorem ne_kind (f : Ft) : cmpD .NotEq (.d (.str (kindS f))) (.d (.str (kindS f))) = .ok (.d (.bool false)) := by
  have l : Lay 0 (.str (kindS f)) := by
    cases f with
    | ring _ _ _ _ => exact (show Lay 0 (.str "ring") from ⟨by decide +kernel, Nat.le_refl _⟩)
    | over _ _ _ _ => exact (show Lay 0 (.str "over") from ⟨by decide +kernel, Nat.le_refl _⟩)
    | rest _ _ _ => exact (show Lay 0 (.str "rest") from ⟨by decide +kernel, Nat.le_refl _⟩)
    | whirl _ _ _ => exact (show Lay 0 (.str "whirl") from ⟨by decide +kernel, Nat.le_refl _⟩)
    | opn => exact (show Lay 0 (.str "open") from ⟨by decide +kernel, Nat.le_refl _⟩)
  exact notne_lay (a := .d (.str (kindS f))) (b := .d (.str (kindS f))) l rfl (by omega)
theorem upL_1 (lv : List Rat) : upL 1 lv = lv := by
  unfold upL
  have : lv.map (· * ((1 : Int) : Rat)) = lv.map id := List.map_congr_left fun x _ => Rat.mul_one x
  rw [this, List.map_id]
theorem upMo_1 (t : MoR) : upMo 1 t = t := by
  cases t with
  | ok m lv => show MoR.ok m (upL 1 lv) = _; rw [upL_1]
  | ov => rfl
  | op => rfl
theorem sclSt_1 (st : BSt) : sclSt 1 st = st := by
  have hb : ∀ b : Bx, sclB 1 b = b := fun b => by
    unfold sclB
    have : (b.map fun p : Int × Int => (p.1 * 1, p.2 * 1)) = b.map id := List.map_congr_left fun p _ => by simp
    rw [this, List.map_id]
  unfold sclSt
  have : st.map (sclO 1) = st.map id := List.map_congr_left fun o _ => by
    cases o with
    | none => rfl
    | some b => show some (sclB 1 b) = some b; rw [hb]
  rw [this, List.map_id]
theorem tau_1 {n : Int} (h : 0 < n) (x : Rat) : x * (n : Rat) * tau 1 n = x := by
  have := tau_r (c := 1) h
  have e : ((1 : Int) : Rat) = 1 := rfl
  rw [e] at this
  have : x * (n : Rat) * tau 1 n = x * (tau 1 n * (n : Rat)) := by grind
  rw [this, ‹tau 1 n * (n : Rat) = 1›, Rat.mul_one]
theorem tau_n {n : Int} (h : 0 < n) : tau n n = 1 := by
  unfold tau
  rw [Rat.div_def, Rat.mul_inv_cancel _ (rne h)]
theorem rate_bd {x n : Int} (h : -5 ≤ x ∧ x ≤ 5) (hn : 1 ≤ n ∧ n ≤ 9) : -99 ≤ x * n ∧ x * n ≤ 99 := by
  have : x.natAbs * n.natAbs ≤ 5 * 9 := Nat.mul_le_mul (by omega) (by omega)
  have e := Int.natAbs_mul x n
  omega
theorem ok_fast {w : Wk} (dr : Drawn w) {n : Int} (hn : 1 ≤ n ∧ n ≤ 9) : okW (fasterW n w) := by
  have hw := dr.ok
  refine ⟨hw.1, hw.2.1, by simpa [fasterW] using hw.2.2.1, fun m hm => ?_, by simpa [fasterW] using hw.2.2.2.2.1, hw.2.2.2.2.2⟩
  obtain ⟨m', hm', rfl⟩ := List.mem_map.mp hm
  obtain ⟨r9, rl, s6, os⟩ := hw.2.2.2.1 m' hm'
  refine ⟨fun r hr => ?_, by simpa [timesM, fasterW] using rl, s6, fun s hs => by simpa [fasterW] using os s hs⟩
  obtain ⟨x, hx, rfl⟩ := List.mem_map.mp hr
  exact rate_bd ((dr.modes m' hm').2.1 x hx) hn
theorem ok_great {w : Wk} (dr : Drawn w) {n : Int} (hn : 1 ≤ n ∧ n ≤ 9) (hb : ∀ b ∈ w.brims, b * n ≤ 999) : okW (greaterW n w) := by
  have hw := dr.ok
  have bl : (greaterW n w).brims.length = w.brims.length := List.length_map ..
  have ml : (greaterW n w).modes.length = w.modes.length := List.length_map ..
  refine ⟨fun b hb' => ?_, by rw [bl]; exact hw.2.1, by rw [ml]; exact hw.2.2.1, fun m hm => ?_, by rw [ml]; exact hw.2.2.2.2.1, fun l hl => ?_, ?_, fun i hi => ?_⟩
  · obtain ⟨x, hx, rfl⟩ := List.mem_map.mp hb'
    have h1 := hb x hx
    have h2 := (hw.1 x hx).1
    have := Int.mul_pos (show 0 < x by omega) (show 0 < n by omega)
    omega
  · obtain ⟨m', hm', rfl⟩ := List.mem_map.mp hm
    obtain ⟨r9, rl, s6, os⟩ := hw.2.2.2.1 m' hm'
    refine ⟨fun r hr => ?_, by simpa [greaterM, greaterW] using rl, by simpa [greaterM] using s6, fun s hs => ?_⟩
    · obtain ⟨x, hx, rfl⟩ := List.mem_map.mp hr
      exact rate_bd ((dr.modes m' hm').2.1 x hx) hn
    · obtain ⟨s', hs', rfl⟩ := List.mem_map.mp hs
      obtain ⟨o1, o2, o3⟩ := os s' hs'
      refine ⟨by rw [bl]; exact o1, ?_, by rw [ml]; exact o3⟩
      show 0 ≤ s'.mark * n ∧ s'.mark * n ≤ (w.brims.map (· * n)).getD s'.v.toNat 0
      rw [getD_mulI]
      exact ⟨Int.mul_nonneg o2.1 (by omega), Int.mul_le_mul_of_nonneg_right o2.2 (by omega)⟩
  · obtain ⟨x, hx, rfl⟩ := List.mem_map.mp hl
    obtain ⟨i, hi, e⟩ := mem_getD' 0 hx
    have h1 := hw.2.2.2.2.2.2.2 i (List.mem_range.mpr (by have := hw.2.2.2.2.2.2.1; omega))
    have h0 := (hw.2.2.2.2.2.1 x hx).1
    have h3 := hb (w.brims.getD i 0) (getD_mem (by have := hw.2.2.2.2.2.2.1; omega))
    have h4 : x * n ≤ w.brims.getD i 0 * n := Int.mul_le_mul_of_nonneg_right (by rw [e]; exact h1) (by omega)
    have h5 := Int.mul_nonneg h0 (show 0 ≤ n by omega)
    omega
  · show (w.levels.map (· * n)).length = (w.brims.map (· * n)).length
    rw [List.length_map, List.length_map]
    exact hw.2.2.2.2.2.2.1
  · rw [bl] at hi
    show (w.levels.map (· * n)).getD i 0 ≤ (w.brims.map (· * n)).getD i 0
    rw [getD_mulI, getD_mulI]
    exact Int.mul_le_mul_of_nonneg_right (hw.2.2.2.2.2.2.2 i hi) (by omega)
theorem frac_n (x : Rat) (n : Int) : Rat.divInt (x.num * n) x.den = x * (n : Rat) := by
  have ea : (n : Rat) = Rat.divInt n 1 := (Rat.num_divInt_den (n : Rat)).symm
  conv => rhs; rw [ea, ← Rat.num_divInt_den x]
  rw [Rat.divInt_mul_divInt, Int.mul_one]
theorem frac_d (x : Rat) {n : Int} (hn : 0 < n) : Rat.divInt x.num (x.den * n) = x * tau 1 n := by
  unfold tau
  have e1 : ((1 : Int) : Rat) / (n : Rat) = Rat.divInt 1 n := (Rat.divInt_eq_div 1 n).symm
  rw [e1]
  conv => rhs; rw [← Rat.num_divInt_den x]
  rw [Rat.divInt_mul_divInt, Int.mul_one]
theorem mom_sm' {w : Wk} (hw : okW w) {x : Rat} (X : TmOk w x) {m : Int} {lv : List Rat} (h : momQ w x = .ok m lv) : ∀ l ∈ lv, Sm l := by
  obtain ⟨k, f, s, hk, e1, e2, s0, hT, wh⟩ := mom_where hw X.x0 h
  obtain ⟨N, N0, Nl, dn⟩ := where_dn hw hk (hT X)
  rw [← e2] at dn
  have kl := (List.getElem?_eq_some_iff.mp hk).1
  have rl := runW_len w 400
  have F := flo_flow hw (by omega) (run_flo hk)
  obtain ⟨N', L, _⟩ := F.lw
  have mm : w.md f.m ∈ w.modes := getD_mem (by have := F.m; omega)
  obtain ⟨r9, rlen, _⟩ := hw.2.2.2.1 _ mm
  have x9 := (hT X).x9
  have t0 := F.t0
  have vb := v_big
  intro l hl
  obtain ⟨i, hi, e⟩ := mem_getD' 0 hl
  have ll := L.l0.len
  have ei : i < f.lv.length := by
    rw [e2] at hi
    rw [after_len (by omega)] at hi
    exact hi
  have at_ := after_at (t := s) ei (show i < (w.md f.m).rates.length by omega)
  rw [← e2, ← e] at at_
  have r99 := r9 _ (getD_mem (xs := (w.md f.m).rates) (i := i) (d := 0) (by omega))
  have lo := L.l0.lo _ (getD_mem (d := 0) ei)
  have hi' := L.l0.hi _ (getD_mem (d := 0) ei)
  obtain ⟨q, hq⟩ : ∃ q, q = (w.md f.m).rates.getD i 0 := ⟨_, rfl⟩
  rw [← hq] at at_ r99
  have q1 : (q : Rat) ≤ ((99 : Int) : Rat) := Rat.intCast_le_intCast.mpr r99.2
  have q2 : ((-99 : Int) : Rat) ≤ (q : Rat) := Rat.intCast_le_intCast.mpr r99.1
  have z9 : ((99 : Int) : Rat) = 99 := rfl
  have z9' : ((-99 : Int) : Rat) = -99 := rfl
  rw [z9] at q1
  rw [z9'] at q2
  have m1 := Rat.mul_le_mul_of_nonneg_right q1 s0
  have m2 := Rat.mul_le_mul_of_nonneg_right q2 s0
  exact sm_v N0 Nl (dn l hl) (by grind) (by grind)
theorem lay_Res (r : Option BSt) : Lay 3 (encRes r) := by
  cases r with
  | none => exact lay_n.mono (by omega)
  | some st => exact lay_St st
theorem le_maxL {xs : List Int} : ∀ y ∈ xs, y ≤ maxL xs := by
  have go : ∀ (xs : List Int) (x : Int), x ≤ xs.foldl max x ∧ ∀ y ∈ xs, y ≤ xs.foldl max x := by
    intro xs
    induction xs with
    | nil => intro x; exact ⟨Int.le_refl _, by simp⟩
    | cons a xs ih =>
      intro x
      obtain ⟨h1, h2⟩ := ih (max x a)
      refine ⟨Int.le_trans (Int.le_max_left _ _) h1, fun y hy => ?_⟩
      rcases List.mem_cons.mp hy with rfl | hy
      · exact Int.le_trans (Int.le_max_right _ _) h1
      · exact h2 y hy
  cases xs with
  | nil => simp
  | cons x xs =>
    intro y hy
    obtain ⟨h1, h2⟩ := go xs x
    rcases List.mem_cons.mp hy with rfl | hy
    · exact h1
    · exact h2 y hy
/-- what the law holds when it has come to its works -/
structure S20 (ns : List Int) (w : Wk) (n : Int) (x : Rat) : Prop where
  dr : Drawn w
  hn : 1 ≤ n ∧ n ≤ 9
  X : TmOk w x
  Xq : TmOk (fasterW n w) x
  Xn : TmOk w (x * (n : Rat))
  nm : 0 ≤ x.num ∧ x.num ≤ 1000
  zd : x.den.log2 ≤ 1000
section
variable {ns : List Int} {w : Wk} {n : Int} {x : Rat} (S : S20 ns w n x)
include S
theorem S20.hq : okW (fasterW n w) := ok_fast S.dr S.hn
theorem S20.fate : fateOf (runW (fasterW n w) 40) = upFt 1 n (fateOf (runW w 40)) := by
  rw [faster_scl, runW_scl (by omega) (by have := S.hn; omega), fate_scl (by omega) (by have := S.hn; omega)]
theorem S20.told : momQ (fasterW n w) x = momQ w (x * (n : Rat)) := by
  have hn := S.hn
  have := mom_scl (c := 1) (r := n) (by omega) (by omega) w (x * (n : Rat))
  rw [tau_1 (by omega), upMo_1] at this
  rw [faster_scl, this]
theorem s20_b (s5 s6 : Sl) : exB (runF tab 12) ((f_law.body.drop 5).take 3) [.val (encN ns), .val (encW w), .val (.int n), .val (encQ x), .val (encW (fasterW n w)), .no, .no, .no, .no, .no, .no, .no, .no, .no, .no] =
    .nx [.val (encN ns), .val (encW w), .val (.int n), .val (encQ x), .val (encW (fasterW n w)), .val (encFt (fateOf (runW w 40))), .val (encFt (upFt 1 n (fateOf (runW w 40)))), .no, .no, .no, .no, .no, .no, .no, .no] := by
  have hn := S.hn
  have hw := S.dr.ok
  have hq := S.hq
  have f1 : runF tab 12 i_fate [encW w, .int 40] = _ := fate_ok (k := 4) hw 40 (by omega)
  have f2 : runF tab 12 i_fate [encW (fasterW n w), .int 40] = _ := fate_ok (k := 4) hq 40 (by omega)
  rw [S.fate] at f2
  obtain ⟨r, wa, W⟩ := walls_ok (k := 6) hw
  obtain ⟨r', wa', W'⟩ := walls_ok (k := 6) hq
  have er : r' = r := by
    rw [faster_scl] at W'
    have := walls_scl (c := 1) (r := n) (by omega) (by omega) hw (by rw [← faster_scl]; exact hq) W W'
    rw [this]
    cases r with
    | none => rfl
    | some st => show some (sclSt 1 st) = some st; rw [sclSt_1]
  rw [er] at wa'
  have wa : runF tab 12 i_walls [encW w] = .ok (.d (encRes r)) := wa
  have wa' : runF tab 12 i_walls [encW (fasterW n w)] = .ok (.d (encRes r)) := wa'
  have nw : cmpD .NotEq (.d (encRes r)) (.d (encRes r)) = .ok (.d (.bool false)) := notne_lay (a := .d (encRes r)) (b := .d (encRes r)) (lay_Res r) rfl (by omega)
  have k1 : runF tab 12 i_kept [encW w] = _ := kept_ok (k := 6) hw rfl
  have k2 : runF tab 12 i_kept [encW (fasterW n w)] = _ := kept_ok (k := 6) hq rfl
  have ek : keptQ ((fasterW n w).modes.map (·.rates)) (fasterW n w).brims.length = keptQ (w.modes.map (·.rates)) w.brims.length := by
    have e : (fasterW n w).modes.map (·.rates) = (w.modes.map (·.rates)).map (smR n) := by
      show (w.modes.map (timesM n)).map _ = _
      rw [List.map_map, List.map_map]
      rfl
    rw [e]
    exact kept_scl (by omega) _ _
  rw [ek] at k2
  obtain ⟨L, hL⟩ : ∃ L, L = keptQ (w.modes.map (·.rates)) w.brims.length := ⟨_, rfl⟩
  rw [← hL] at k1 k2
  have nk : cmpD .NotEq (.o (L.map encR)) (.o (L.map encR)) = .ok (.d (.bool false)) := notne_lay (a := .o (L.map encR)) (b := .o (L.map encR)) (n := 2) (lay_lm _ _ fun r _ => lay_R r) rfl (by omega)
  have i1 := ft_0 (fateOf (runW w 40))
  have i2 := ft_0 (upFt 1 n (fateOf (runW w 40)))
  rw [kind_scl] at i2
  have nf := ne_kind (fateOf (runW w 40))
  simp [f_law, f1, f2, i1, i2, nf, wa, wa', nw, k1, k2, nk]
theorem s20_a (hn0 : n = 1 + cellI ns 0 % 9) (hx : x = Rat.divInt (cellI ns 1 % 281) (1 + cellI ns 0 / 9 % 7)) (e1 : runF tab 12 i__law_drawn [encN ns, .int 2] = .ok (.d (encW w))) :
    exB (runF tab 12) (f_law.body.take 5) (startE f_law.sz [encN ns]) = .nx [.val (encN ns), .val (encW w), .val (.int n), .val (encQ x), .val (encW (fasterW n w)), .no, .no, .no, .no, .no, .no, .no, .no, .no, .no] := by
  have hn := S.hn
  have hw := S.dr.ok
  have hq := S.hq
  obtain ⟨c0, hc0⟩ : ∃ c0, c0 = cellI ns 0 := ⟨_, rfl⟩
  obtain ⟨c1, hc1⟩ : ∃ c1, c1 = cellI ns 1 := ⟨_, rfl⟩
  have ce0 : runF tab 12 i__law_cell [encN ns, .int 0] = .ok (.d (.int c0)) := by rw [hc0]; exact cell_ok ns 0 (by omega)
  have ce1 : runF tab 12 i__law_cell [encN ns, .int 1] = .ok (.d (.int c1)) := by rw [hc1]; exact cell_ok ns 1 (by omega)
  rw [← hc0] at hn0 hx
  rw [← hc1] at hx
  have m9 : binD .Mod (.d (.int c0)) (.d (.int 9)) = .ok (.d (.int (c0 % 9))) := mod_r (by omega)
  have m281 : binD .Mod (.d (.int c1)) (.d (.int 281)) = .ok (.d (.int (c1 % 281))) := mod_r (by omega)
  have d9 : binD .FloorDiv (.d (.int c0)) (.d (.int 9)) = .ok (.d (.int (c0 / 9))) := div_r (by omega) (by omega)
  have m7 : binD .Mod (.d (.int (c0 / 9))) (.d (.int 7)) = .ok (.d (.int (c0 / 9 % 7))) := mod_r (by omega)
  obtain ⟨a, ha⟩ : ∃ a, a = c1 % 281 := ⟨_, rfl⟩
  obtain ⟨b, hb⟩ : ∃ b, b = 1 + c0 / 9 % 7 := ⟨_, rfl⟩
  rw [← ha, ← hb] at hx
  have l100 : Nat.log2 100 = 6 := by decide +kernel
  have lf : runF tab 12 i__law_frac [.int a, .int b] = _ := lfrac_ok (k := 10) a b (by omega) (by
    have : b.natAbs.log2 ≤ Nat.log2 100 := log2_mono (by omega)
    omega)
  rw [← hx] at lf
  have fa : runF tab 12 i_faster [encW w, .int n] = _ := faster_ok (k := 6) w n hw hn.1 hn.2
  rw [if_pos hq] at fa
  have nm := S.nm
  have mu : binD .Mult (.d (.int x.num)) (.d (.int n)) = .ok (.d (.int (x.num * n))) := mul_l (by omega) (by omega)
  have lf2 : runF tab 12 i__law_frac [.int (x.num * n), .int x.den] = _ := lfrac_ok (k := 10) (x.num * n) x.den (den_ne x) (by have := den_log S.X.sm; omega)
  rw [frac_n] at lf2
  have t1 : runF tab 12 i__law_told [encW (fasterW n w), encQ x] = _ := ltold_ok (k := 3) hq S.Xq
  have t2 : runF tab 12 i__law_told [encW w, encQ (x * (n : Rat))] = _ := ltold_ok (k := 3) hw S.Xn
  rw [S.told] at t1
  have ne := ne_told (momQ w (x * (n : Rat)))
  simp [f_law, startE, e1, ce0, ce1, m9, m281, d9, m7, ← ha, ← hb, ← hn0, lf, fa, mu, lf2, t1, t2, ne]
def envC (ns : List Int) (w : Wk) (n : Int) (x : Rat) (s7 s8 s10 : Sl) : PF.Env := [.val (encN ns), .val (encW w), .val (.int n), .val (encQ x), .val (encW (fasterW n w)), .val (encFt (fateOf (runW w 40))), .val (encFt (upFt 1 n (fateOf (runW w 40)))), s7, s8, .no, s10, .no, .no, .no, .no]
theorem s20_c : exB (runF tab 12) ((f_law.body.drop 8).take 1) (envC ns w n x .no .no .no) = .nx (envC ns w n x .no .no .no) := by
  have hn := S.hn
  have hw := S.dr.ok
  have hq := S.hq
  have n0 : 0 < n := by omega
  have i1 := ft_0 (fateOf (runW w 40))
  unfold envC
  obtain ⟨f, hf⟩ : ∃ f, f = fateOf (runW w 40) := ⟨_, rfl⟩
  have h40 := hf.symm
  rw [← hf] at i1 ⊢
  cases f with
  | over _ _ _ _ => simp [f_law, i1, kindS]
  | rest _ _ _ => simp [f_law, i1, kindS]
  | whirl _ _ _ => simp [f_law, i1, kindS]
  | opn => simp [f_law, i1, kindS]
  | ring i m t p =>
    have h400 : fateOf (runW w 400) = .ring i m t p := by
      rw [fate_stay (most := 40) (more := 400) (by omega) (by rw [h40]; intro z; cases z), h40]
    have q400 : fateOf (runW (fasterW n w) 400) = .ring i m (t * tau 1 n) (p * tau 1 n) := by
      rw [faster_scl, runW_scl (by omega) n0, fate_scl (by omega) n0, h400]
      rfl
    obtain ⟨_, _, m0, im, _⟩ := ring_facts hw (by omega) h40
    obtain ⟨N, R⟩ := r60 hw h400 (by omega)
    obtain ⟨N', R'⟩ := r60 hq q400 (by omega)
    have s1 : slD (.d (encFt (.ring i m t p))) (some 1) (some 3) = .ok (.d (.tuple [.int i, .int m])) := rfl
    have s2 : slD (.d (encFt (upFt 1 n (.ring i m t p)))) (some 1) (some 3) = .ok (.d (.tuple [.int i, .int m])) := rfl
    have l2 : Lay 1 (.tuple [.int (i : Int), .int (m : Int)]) := lay_t _ fun y hy => by simp at hy; rcases hy with rfl | rfl <;> exact lay_i _
    have n2 : cmpD .NotEq (.d (.tuple [.int (i : Int), .int (m : Int)])) (.d (.tuple [.int (i : Int), .int (m : Int)])) = .ok (.d (.bool false)) := notne_lay (a := .d (.tuple [.int (i : Int), .int (m : Int)])) (b := .d (.tuple [.int (i : Int), .int (m : Int)])) l2 rfl (by omega)
    have i4 : ixD (.d (encFt (.ring i m t p))) (.d (.int 4)) = .ok (.d (encQ p)) := rfl
    have j4 : ixD (.d (encFt (upFt 1 n (.ring i m t p)))) (.d (.int 4)) = .ok (.d (encQ (p * tau 1 n))) := rfl
    have mu : binD .Mult (.d (.int p.den)) (.d (.int n)) = .ok (.d (.int (p.den * n))) := mul_w (by
      have := den_log R.sp
      have h10 : n.natAbs.log2 ≤ Nat.log2 9 := log2_mono (by omega)
      have l9 : Nat.log2 9 = 3 := by decide +kernel
      omega)
    have lf : runF tab 12 i__law_frac [.int p.num, .int (p.den * n)] = _ := lfrac_ok (k := 10) p.num (p.den * n) (Int.mul_ne_zero (den_ne p) (by omega)) (by
      have d := den_log R.sp
      have h10 : n.natAbs.log2 ≤ Nat.log2 9 := log2_mono (by omega)
      have l9 : Nat.log2 9 = 3 := by decide +kernel
      have := log2_mul_le ((p.den : Int).natAbs) n.natAbs
      rw [Int.natAbs_mul]
      omega)
    rw [frac_d p n0] at lf
    have nq : cmpD .NotEq (.d (encQ (p * tau 1 n))) (.d (encQ (p * tau 1 n))) = .ok (.d (.bool false)) := notne_lay (a := .d (encQ (p * tau 1 n))) (b := .d (encQ (p * tau 1 n))) (lay_Q _) rfl (by omega)
    have ms1 : runF tab 12 i_mode_shares [encW w] = _ := mode_shares_ok (k := 3) hw h400
    have ms2 : runF tab 12 i_mode_shares [encW (fasterW n w)] = _ := mode_shares_ok (k := 3) hq q400
    have ml : (fasterW n w).modes.length = w.modes.length := List.length_map ..
    have es : shQ (fasterW n w).modes.length (p * tau 1 n) (rl (FL (fasterW n w)) i m) = shQ w.modes.length p (rl (FL w) i m) := by
      rw [ml, faster_scl, rl_scl (by omega) n0, sh_scl (by omega) n0]
    rw [es] at ms2
    obtain ⟨A, hA⟩ : ∃ A, A = shQ w.modes.length p (rl (FL w) i m) := ⟨_, rfl⟩
    rw [← hA] at ms1 ms2
    have nA : cmpD .NotEq (.o (A.map encQ)) (.o (A.map encQ)) = .ok (.d (.bool false)) := notne_lay (a := .o (A.map encQ)) (b := .o (A.map encQ)) (n := 2) (lay_lm _ _ fun y _ => lay_Q y) rfl (by omega)
    have me1 : runF tab 12 i_means [encW w] = _ := means_ok (k := 3) R
    have me2 : runF tab 12 i_means [encW (fasterW n w)] = _ := means_ok (k := 3) R'
    have bl : (fasterW n w).brims.length = w.brims.length := rfl
    have em : ((List.range (fasterW n w).brims.length).map fun v => encQ (sumMid (fasterW n w) i v m / (p * tau 1 n))) = (List.range w.brims.length).map fun v => encQ (sumMid w i v m / p) := by
      rw [bl]
      refine List.map_congr_left fun v _ => ?_
      rw [faster_scl, mean_scl (by omega) n0]
      congr 2
      exact Rat.mul_one _
    rw [em] at me2
    obtain ⟨B, hB⟩ : ∃ B, B = (List.range w.brims.length).map fun v => sumMid w i v m / p := ⟨_, rfl⟩
    have eB : ((List.range w.brims.length).map fun v => encQ (sumMid w i v m / p)) = B.map encQ := by rw [hB, List.map_map]; rfl
    rw [eB] at me1 me2
    have nB : cmpD .NotEq (.o (B.map encQ)) (.o (B.map encQ)) = .ok (.d (.bool false)) := notne_lay (a := .o (B.map encQ)) (b := .o (B.map encQ)) (n := 2) (lay_lm _ _ fun y _ => lay_Q y) rfl (by omega)
    simp [f_law, i1, kindS, s1, s2, n2, i4, j4, mu, lf, nq, ms1, ms2, nA, me1, me2, nB]
theorem s20_max : bltD .max1 [.d (encI w.brims)] = .ok (.d (.int (maxL w.brims))) ∧ maxL w.brims ≤ 32 ∧ 0 ≤ maxL w.brims := by
  have few := S.dr.few
  have ne : w.brims ≠ [] := fun z => by rw [z] at few; simp at few
  have mm := S.dr.brims _ (maxL_mem ne)
  refine ⟨?_, by omega, by omega⟩
  cases q : w.brims with
  | nil => exact absurd q ne
  | cons y ys => exact max1_t y ys
theorem s20_d : exB (runF tab 12) ((f_law.body.drop 9).take 1) (envC ns w n x .no .no .no) = if 999 < maxL w.brims * n then .rt (.d (.bool true)) else .nx (envC ns w n x .no .no .no) := by
  have hn := S.hn
  obtain ⟨mx, m1, m2⟩ := s20_max S
  obtain ⟨M, hM⟩ : ∃ M, M = maxL w.brims := ⟨_, rfl⟩
  rw [← hM] at mx m1 m2 ⊢
  have mu : binD .Mult (.d (.int M)) (.d (.int n)) = .ok (.d (.int (M * n))) := mul_l (by omega) (by omega)
  unfold envC
  by_cases c : 999 < M * n
  · rw [if_pos c]
    simp [f_law, mx, mu, c]
  · rw [if_neg c]
    simp [f_law, mx, mu, c]
theorem s20_hg (c : ¬ 999 < maxL w.brims * n) : okW (greaterW n w) := ok_great S.dr S.hn fun b hb => by
  have hn := S.hn
  have := Int.mul_le_mul_of_nonneg_right (le_maxL b hb) (show 0 ≤ n by omega)
  omega
theorem s20_e (c : ¬ 999 < maxL w.brims * n) : ∃ s8 : Sl, exB (runF tab 12) ((f_law.body.drop 10).take 4) (envC ns w n x .no .no .no) = .nx (envC ns w n x (.val (encW (greaterW n w))) s8 .no) := by
  have hn := S.hn
  have n0 : 0 < n := by omega
  have hw := S.dr.ok
  have hg := s20_hg S c
  have gr : runF tab 12 i_greater [encW w, .int n] = _ := greater_ok (k := 6) w n hw hn.1 hn.2
  rw [if_pos hg] at gr
  have zl : x.den.log2 ≤ 1000 ∧ x ≤ (VX : Rat) := ⟨S.zd, S.X.x9⟩
  have Xg : TmOk (greaterW n w) x := TmOk.mk' hg S.X.x0 zl.2 zl.1
  have t1 : runF tab 12 i__law_told [encW w, encQ x] = _ := ltold_ok (k := 3) hw S.X
  have t2 : runF tab 12 i__law_told [encW (greaterW n w), encQ x] = _ := ltold_ok (k := 3) hg Xg
  have em : momQ (greaterW n w) x = upMo n (momQ w x) := by
    have := mom_scl (c := n) (r := n) n0 n0 w x
    rw [tau_n n0, Rat.mul_one] at this
    exact this
  rw [em] at t2
  have f2 : runF tab 12 i_fate [encW (greaterW n w), .int 40] = _ := fate_ok (k := 4) hg 40 (by omega)
  have ef : fateOf (runW (greaterW n w) 40) = upFt n n (fateOf (runW w 40)) := by
    rw [greater_scl, runW_scl n0 n0, fate_scl n0 n0]
  rw [ef] at f2
  have i1 := ft_0 (fateOf (runW w 40))
  have i2 := ft_0 (upFt n n (fateOf (runW w 40)))
  rw [kind_scl] at i2
  have nf := ne_kind (fateOf (runW w 40))
  obtain ⟨T, hT⟩ : ∃ T, T = momQ w x := ⟨_, rfl⟩
  rw [← hT] at t1 t2
  unfold envC
  cases T with
  | ov =>
    have ne : cmpD .NotEq (.o [.bool true, .bool false]) (.d (.list [.bool true, .bool false])) = .ok (.d (.bool false)) := notne_lay (a := .o [.bool true, .bool false]) (b := .d (.list [.bool true, .bool false])) (lay_told .ov) rfl (by omega)
    have t1 : runF tab 12 i__law_told [encW w, encQ x] = .ok (.o [.bool true, .bool false]) := t1
    have t2 : runF tab 12 i__law_told [encW (greaterW n w), encQ x] = .ok (.o [.bool true, .bool false]) := t2
    have ty : isTy .tuple (.list [.bool true, .bool false]) = .ok false := rfl
    exact ⟨.val (.list [.bool true, .bool false]), by simp [f_law, gr, t1, t2, ty, ne, f2, i1, i2, nf]⟩
  | op =>
    have ne : cmpD .NotEq (.o [.bool false, .bool true]) (.d (.list [.bool false, .bool true])) = .ok (.d (.bool false)) := notne_lay (a := .o [.bool false, .bool true]) (b := .d (.list [.bool false, .bool true])) (lay_told .op) rfl (by omega)
    have t1 : runF tab 12 i__law_told [encW w, encQ x] = .ok (.o [.bool false, .bool true]) := t1
    have t2 : runF tab 12 i__law_told [encW (greaterW n w), encQ x] = .ok (.o [.bool false, .bool true]) := t2
    have ty : isTy .tuple (.list [.bool false, .bool true]) = .ok false := rfl
    exact ⟨.val (.list [.bool false, .bool true]), by simp [f_law, gr, t1, t2, ty, ne, f2, i1, i2, nf]⟩
  | ok m lv =>
    have sm := mom_sm' hw S.X hT.symm
    have t1 : runF tab 12 i__law_told [encW w, encQ x] = .ok (.d (encMo m lv)) := t1
    have t2 : runF tab 12 i__law_told [encW (greaterW n w), encQ x] = .ok (.d (encMo m (upL n lv))) := t2
    have ty : isTy .tuple (encMo m lv) = .ok true := rfl
    have j0 : ixD (.d (encMo m lv)) (.d (.int 0)) = .ok (.d (.int m)) := rfl
    have j1 : ixD (.d (encMo m lv)) (.d (.int 1)) = .ok (.d (encL lv)) := rfl
    have sq : seqD (.d (encL lv)) = .ok (lv.map encQ) := rfl
    have ne : cmpD .NotEq (.d (encMo m (upL n lv))) (.d (encMo m (upL n lv))) = .ok (.d (.bool false)) := notne_lay (a := .d (encMo m (upL n lv))) (b := .d (encMo m (upL n lv))) (lay_Mo m _) rfl (by omega)
    have eo : PyData.tuple [.int m, .tuple (lv.map fun l => encQ (l * (n : Rat)))] = encMo m (upL n lv) := by
      unfold encMo encL upL
      rw [List.map_map]
      rfl
    refine ⟨.val (encMo m (upL n lv)), ?_⟩
    simp [f_law, gr, t1, ty, j0, j1, sq]
    rw [compD_map1 encQ (fun l => encQ (l * (n : Rat)))]
    · simp [eo, t2, ne, f2, i1, i2, nf]
    · intro l hl
      have sl := sm l hl
      have mu : binD .Mult (.d (.int l.num)) (.d (.int n)) = .ok (.d (.int (l.num * n))) := mul_w (by
        have := sl.1
        have h10 : n.natAbs.log2 ≤ Nat.log2 9 := log2_mono (by omega)
        have l9 : Nat.log2 9 = 3 := by decide +kernel
        omega)
      have lf : runF tab 12 i__law_frac [.int (l.num * n), .int l.den] = _ := lfrac_ok (k := 10) (l.num * n) l.den (den_ne l) (by have := den_log sl; omega)
      rw [frac_n] at lf
      exact ⟨_, setT_name _ _ _, by simp, by simp [mu, lf]⟩
omit S in
theorem s20_loop {st : BSt} (hn : 1 ≤ n ∧ n ≤ 9) (a0 a1 a3 a4 a5 a6 a7 a8 a9 a10 : Sl) : ∀ (os : List (Option Bx)) (done : List D) (s12 s13 s14 : Sl), (∀ b, some b ∈ os → ∀ p ∈ b, (-1000 ≤ p.1 ∧ p.1 ≤ 1000) ∧ (-1000 ≤ p.2 ∧ p.2 ≤ 1000)) → done.length + os.length ≤ 100 →
    ∃ t12 t13 t14 : Sl, forD (.name 12) (exB (runF tab 12) b_law_1) (os.map encOB) [a0, a1, .val (.int n), a3, a4, a5, a6, a7, a8, a9, a10, .own done, s12, s13, s14] =
      .nx [a0, a1, .val (.int n), a3, a4, a5, a6, a7, a8, a9, a10, .own (done ++ os.map fun o => encOB (sclO n o)), t12, t13, t14]
  | [], done, s12, s13, s14, _, _ => ⟨s12, s13, s14, by simp [forD_nil]⟩
  | o :: os, done, s12, s13, s14, h, hl => by
    have hl : done.length + (os.length + 1) ≤ 100 := by simpa using hl
    obtain ⟨t12, t13, t14, ih⟩ := s20_loop (st := st) hn a0 a1 a3 a4 a5 a6 a7 a8 a9 a10 os (done ++ [encOB (sclO n o)]) (.val (encOB o)) s13 s14 (fun b hb => h b (by simp [hb])) (by simp; omega)
    refine ⟨t12, t13, t14, ?_⟩
    have sz : done.length < sizeLine := by rw [sizeLine_eq]; omega
    rw [List.map_cons, forD_cons]
    simp only [setT_name, optC_some, List.set_cons_succ, List.set_cons_zero]
    have st' : exB (runF tab 12) b_law_1 [a0, a1, .val (.int n), a3, a4, a5, a6, a7, a8, a9, a10, .own done, .val (encOB o), s13, s14] = .nx [a0, a1, .val (.int n), a3, a4, a5, a6, a7, a8, a9, a10, .own (done ++ [encOB (sclO n o)]), .val (encOB o), s13, s14] := by
      cases o with
      | none =>
        simp [b_law_1, isNoneO, sz]
        rfl
      | some b =>
        have nn : isNoneD (encBx b) = false := rfl
        have sq : seqD (.d (encBx b)) = .ok (b.map encPr) := rfl
        simp [b_law_1, encOB, nn, sq]
        rw [compD_map1 encPr (fun p => encPr (p.1 * n, p.2 * n))]
        · have e : PyData.tuple (b.map fun p => encPr (p.1 * n, p.2 * n)) = encOB (sclO n (some b)) := by
            show _ = encBx (sclB n b)
            unfold encBx sclB
            rw [List.map_map]
            rfl
          simp [sz, e]
          rfl
        · intro p hp
          obtain ⟨⟨p1, p2⟩, ⟨p3, p4⟩⟩ := h b (by simp) p hp
          have m1 : binD .Mult (.d (.int p.1)) (.d (.int n)) = .ok (.d (.int (p.1 * n))) := mul_l (by omega) (by omega)
          have m2 : binD .Mult (.d (.int p.2)) (.d (.int n)) = .ok (.d (.int (p.2 * n))) := mul_l (by omega) (by omega)
          refine ⟨_, by rw [encPr_set]; simp only [setTs_cons, setT_name, Option.bind_some, setTs_nil]; rfl, by simp, ?_⟩
          simp [m1, m2]
          rfl
    rw [st']
    simpa using ih
theorem s20_f (c : ¬ 999 < maxL w.brims * n) (s8 : Sl) : exB (runF tab 12) (f_law.body.drop 14) (envC ns w n x (.val (encW (greaterW n w))) s8 .no) = .rt (.d (.bool true)) := by
  have hn := S.hn
  have n0 : 0 < n := by omega
  have hw := S.dr.ok
  have hg := s20_hg S c
  obtain ⟨r, wa, W⟩ := walls_ok (k := 6) hw
  obtain ⟨r', wa', W'⟩ := walls_ok (k := 6) hg
  have er : r' = r.map (sclSt n) := walls_scl (c := n) (r := n) n0 n0 hw hg W W'
  have wa : runF tab 12 i_walls [encW w] = .ok (.d (encRes r)) := wa
  have wa' : runF tab 12 i_walls [encW (greaterW n w)] = .ok (.d (encRes r')) := wa'
  rw [er] at wa'
  unfold envC
  cases r with
  | none =>
    have wa : runF tab 12 i_walls [encW w] = .ok (.d .none) := wa
    have wa' : runF tab 12 i_walls [encW (greaterW n w)] = .ok (.d .none) := wa'
    simp [f_law, wa, wa']
  | some st =>
    have wa : runF tab 12 i_walls [encW w] = .ok (.d (encSt st)) := wa
    have wa' : runF tab 12 i_walls [encW (greaterW n w)] = .ok (.d (encSt (sclSt n st))) := wa'
    obtain ⟨_, _, g, sl, _⟩ := W
    have nn : isNoneD (encSt st) = false := rfl
    have sq : seqD (.d (encSt st)) = .ok (st.map encOB) := rfl
    have m12 := hw.2.2.1
    obtain ⟨t12, t13, t14, e⟩ := s20_loop (st := st) hn (.val (encN ns)) (.val (encW w)) (.val (encQ x)) (.val (encW (fasterW n w))) (.val (encFt (fateOf (runW w 40)))) (.val (encFt (upFt 1 n (fateOf (runW w 40))))) (.val (encW (greaterW n w))) s8 .no (.val (encSt st)) st [] .no .no .no (fun b hb p hp => by
      obtain ⟨i, hi⟩ := List.getElem?_of_mem hb
      have gb : GoodB w.brims b := g i b (by unfold stAt; rw [List.getD_eq_getElem?_getD, hi]; rfl)
      obtain ⟨j, hj, ej⟩ := mem_getD' (0, 0) hp
      have l := gb.1.2 j hj
      have ne := gb.2 j hj
      have gl := gb.len
      rw [fullB_at (by omega)] at l
      have b9 := hw.1 (w.brims.getD j 0) (getD_mem (by omega))
      rw [← ej] at l ne
      simp only at l
      omega) (by simp; omega)
    have eo : (st.map fun o => encOB (sclO n o)) = (sclSt n st).map encOB := by unfold sclSt; rw [List.map_map]; rfl
    rw [List.nil_append, eo] at e
    have eq : cmpD .Eq (.d (encSt (sclSt n st))) (.o ((sclSt n st).map encOB)) = .ok (.d (.bool true)) := same_lay (a := .d (encSt (sclSt n st))) (b := .o ((sclSt n st).map encOB)) (lay_St _) rfl (by omega)
    simp [f_law, wa, nn, sq]
    rw [e]
    simp [wa', eq]
end
theorem law_pure (ns : List Int) (_ : ns.length ≤ 63) : runF tab (depth + 1) i_law [.list (ns.map PyData.int)] = .ok (.d (.bool true)) := by
  show runF tab (12 + 1) i_law [encN ns] = _
  rw [runF_of tab_law rfl]
  obtain ⟨w, dr, e1⟩ := drawn_ok (k := 9) ns 2 (by omega)
  have e1 : runF tab 12 i__law_drawn [encN ns, .int 2] = _ := e1
  have hw := dr.ok
  obtain ⟨n, hn0⟩ : ∃ n, n = 1 + cellI ns 0 % 9 := ⟨_, rfl⟩
  have hn : 1 ≤ n ∧ n ≤ 9 := by omega
  obtain ⟨a, ha⟩ : ∃ a, a = cellI ns 1 % 281 := ⟨_, rfl⟩
  obtain ⟨b, hb⟩ : ∃ b, b = 1 + cellI ns 0 / 9 % 7 := ⟨_, rfl⟩
  obtain ⟨u0, u9, _, z0, z9, zl⟩ := small_frac (a := a) (b := b) (by omega) (by omega) (by omega) (by omega)
  have an0 : 0 ≤ a * n := Int.mul_nonneg (by omega) (by omega)
  have an9 : a * n ≤ 281 * 9 := Int.mul_le_mul (by omega) (by omega) (by omega) (by omega)
  obtain ⟨_, _, _, y0, y9, yl⟩ := small_frac (a := a * n) (b := b) an0 (by omega) (by omega) (by omega)
  obtain ⟨x, hx⟩ : ∃ x, x = Rat.divInt a b := ⟨_, rfl⟩
  have exn : Rat.divInt (a * n) b = x * (n : Rat) := by
    rw [hx]
    have ea : (n : Rat) = Rat.divInt n 1 := (Rat.num_divInt_den (n : Rat)).symm
    rw [ea, Rat.divInt_mul_divInt, Int.mul_one]
  rw [← hx] at u0 u9 z0 z9 zl
  rw [exn] at y0 y9 yl
  have S : S20 ns w n x := ⟨dr, hn, TmOk.mk' hw z0 z9 zl, TmOk.mk' (ok_fast dr hn) z0 z9 zl, TmOk.mk' hw y0 y9 yl, ⟨u0, by omega⟩, zl⟩
  have sp : f_law.body = f_law.body.take 5 ++ ((f_law.body.drop 5).take 3 ++ ((f_law.body.drop 8).take 1 ++ ((f_law.body.drop 9).take 1 ++ ((f_law.body.drop 10).take 4 ++ f_law.body.drop 14)))) := rfl
  rw [sp, exB_append, s20_a S hn0 (by rw [hx, ha, hb]) e1, Ctl.seq_nx, exB_append, s20_b S .no .no, Ctl.seq_nx, exB_append]
  have c := s20_c S
  unfold envC at c
  rw [c, Ctl.seq_nx, exB_append]
  have d := s20_d S
  unfold envC at d
  rw [d]
  by_cases q : 999 < maxL w.brims * n
  · rw [if_pos q]
    rfl
  · rw [if_neg q, Ctl.seq_nx, exB_append]
    obtain ⟨s8, e⟩ := s20_e S q
    have f := s20_f S q s8
    unfold envC at e f
    rw [e, Ctl.seq_nx, f]
    rfl
end PF

end

section
namespace PF
open PySem PySem.Spec PyProof.Rows L2
abbrev theRow : PySem.W.OpenRow := PySem.W.OpenLaw.row PySem.Challenge.rw_steadytanks_k20_whole_faster_and_greater
abbrev fnD : List He.DefD := List.zipWith dOf tab fts
abbrev hk : PySem.W.Hook := hookM 4 mt tab fnD
def ob (s : PySem.W.SharedT) : AlM := obsM 4 mt tab fnD (HandSHeadRun.getT s)
theorem ob_eq (s : PySem.W.SharedT) : ob s = hk.obs s.abs := obsM_eq (HandSHeadRun.getT_eq s)
def looseN : List PySem.Str := (["TankError", "BadWorks", "BadNumber", "Over", "Open", "NoRing", "TooBig", "MOST_VESSELS", "MOST_MODES", "MOST_SWITCHES", "MOST_BRIM", "MOST_RATE", "is_within", "are_numbers", "is_switch", "is_mode", "is_works", "checked", "look_times", "looked"] : List PySem.Str) ++ (["faster", "greater", "common", "fraction", "whole", "plus", "minus", "times", "over", "is_less", "least", "is_fraction", "MOST_FLOWS", "is_met", "settled", "wait_for", "levels_after", "start", "run", "ring_in"] : List PySem.Str) ++ (["known_fate", "fate", "at_flow", "last_ahead", "turned_back", "end_of", "moment", "ring_of", "mode_shares", "means", "primitive", "reduced", "cleared", "kept", "entered", "goes_at_once", "joined", "flowed", "grown", "walls"] : List PySem.Str) ++ (["_law_cell", "_law_mix", "_law_works", "_law_saw", "_law_drawn", "_law_common", "_law_frac", "_law_told"] : List PySem.Str)
theorem head_run (w : World) : HandSHeadRun.RunEq theRow (PySem.W.view theRow.prog [79]) hk ob 6000 looseN w := by
  intro os
  kernel_rfl
end PF
end
open PySem PySem.W PySem.Calls PyProof.Rows in
theorem PySem.Challenge.cw_steadytanks_k20_whole_faster_and_greater_holds : PySem.Challenge.rw_steadytanks_k20_whole_faster_and_greater.Holds := by
  w_on; o_law
  refine HandSHeadRun.head_any (r := OpenLaw.row PySem.Challenge.rw_steadytanks_k20_whole_faster_and_greater) (q := view (OpenLaw.row PySem.Challenge.rw_steadytanks_k20_whole_faster_and_greater).prog [79])
    (H := PF.hk) (ob := PF.ob) (M := 6000) (loose := PF.looseN)
    (d := HandSHeadRun.topDef (OpenLaw.row PySem.Challenge.rw_steadytanks_k20_whole_faster_and_greater).prog 79) (kwd := []) PF.ob_eq
    (by kernel_rfl) (fun s => by kernel_rfl) PF.head_run (by kernel_rfl) (by kernel_rfl) (by kernel_rfl) (by rfl)
    (by first | assumption | decide +kernel) (by decide +kernel) ⟨rfl, rfl, rfl, rfl, rfl, by decide +kernel⟩ ?hw ?hc
  case hw => w_witness2
  case hc =>
    exact PF.walk_ofM (k := PF.depth) (iL := PF.i_law) rfl (by kernel_rfl) ⟨rfl, by decide, by decide⟩
      (by kernel_rfl) rfl PF.stats PF.tab_law (ft := PF.t_law) rfl rfl PF.law_pure
