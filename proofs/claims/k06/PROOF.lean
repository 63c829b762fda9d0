import PyProof.Rows.All
import Wide.All
import OpenK.AllK
import Wide.FinOn
import PyProof.EqAt
import PyProof.EqKinds
import PyProof.TupleCall
import KE.KStateDown
import HandS.ForMost
import HandS.Flow
import HandS.Style
import HandS.IsInst
import HandS.Deep
import HandS.TupAny
import HandS.Exc
import HandS.TryOnly
import HandS.ExcOwn
import HandS.WordsExc
import HandS.ExcInit
import HandS.ExcField
import HandS.Defaults
import HandS.Rev
import HandS.More
import HandS.Walk
import HandS.Gcd
import HandS.SortRule
import HandS.SortKw
import KE.LtData
import KE.DataCmp
import KE.DataMinMax
import KE.SortData
import KE.SortKeyHeap
import KE.DataIsa
import HandS.DictComp
import HandS.TupSets
import HandS.HeadEnd
import HandS.HeadHook1
import HandS.HeadHook2
import HandS.HeadHook3
import HandS.HeadHook4
import HandS.Head0
import HandS.Head1
import HandS.Head2
import HandS.Head3
import Wide.Once
import PySem.Challenge.RW_wellstell_k06_years_of_layers_whole
import PySem.Challenge.RW_wellstell_k06_years_of_layers_whole
set_option Elab.async false
set_option linter.all false
set_option maxRecDepth 100000
set_option maxHeartbeats 4000000
/-! Sim1: the data that a value stands for -/
namespace Ws
open PySem PySem.Spec PyProof.Rows L2

abbrev D := PyData
/-- who may change an object: a slot of the running def -/
abbrev Ow := Addr → Option Nat
/-- a list that is not to be changed -/
def SL (K : PySem.W.Frag) (O : Ow) (H : Hp) (a : Addr) (xs : List V) : Prop := (Rd H a (.lst xs) ∧ O a = none) ∨
  ∃ (o : Obj) (its : Array Value) (n : Nat), K.lookup a = some o ∧ o.cls = .type "list" ∧ o.dict = none ∧ o.data = .seq its n ∧ its.size ≤ sizeLine ∧ Vals xs its.toList
theorem SL.seq {K : PySem.W.Frag} {O : Ow} {H : Hp} {a : Addr} {xs : List V} (h : SL K O H a xs) : SqL K H a xs := h.imp (fun h => h.1) fun h => h
theorem SL.of {K : PySem.W.Frag} {O : Ow} {H : Hp} {a : Addr} {xs : List V} (h : SqL K H a xs) (q : O a = none) : SL K O H a xs := h.imp (fun h => ⟨h, q⟩) fun h => h

def keyD : Key → D
  | .inl i => .int i
  | .inr x => .str x

mutual
/-- the value v stands for the data d; what is reached through it is owned by nobody -/
inductive Rp (K : PySem.W.Frag) (O : Ow) (H : Hp) : V → D → Prop
  | non : Rp K O H .non .none
  | bl (b : Bool) : Rp K O H (.bl b) (.bool b)
  | int (i : Int) : Rp K O H (.int i) (.int i)
  | str (x : Str) : PyData.strOk x = true → x.length ≤ sizeLine → Rp K O H (.str x) (.str x)
  | lst {a : Addr} {xs : List V} {ds : List D} : SL K O H a xs → xs.length ≤ sizeLine → Rps K O H xs ds → Rp K O H (.ref a) (.list ds)
  | tup {a : Addr} {xs : List V} {ds : List D} : SqT K H a xs → xs.length ≤ sizeLine → Rps K O H xs ds → Rp K O H (.ref a) (.tuple ds)
  | dk {a : Addr} {kvs : List (Key × V)} {ds : List (D × D)} : H a = some (.dK kvs) → O a = none → RpK K O H kvs ds → Rp K O H (.ref a) (.dict ds)
inductive Rps (K : PySem.W.Frag) (O : Ow) (H : Hp) : List V → List D → Prop
  | nil : Rps K O H [] []
  | cons {v : V} {vs : List V} {d : D} {ds : List D} : Rp K O H v d → Rps K O H vs ds → Rps K O H (v :: vs) (d :: ds)
inductive RpK (K : PySem.W.Frag) (O : Ow) (H : Hp) : List (Key × V) → List (D × D) → Prop
  | nil : RpK K O H [] []
  | cons {k : Key} {v : V} {vs : List (Key × V)} {d : D} {ds : List (D × D)} : Rp K O H v d → RpK K O H vs ds → RpK K O H ((k, v) :: vs) ((keyD k, d) :: ds)
end

/-- nothing that is tracked and owned by nobody is lost -/
structure Fz (O : Ow) (H : Hp) (O' : Ow) (H' : Hp) : Prop where
  keep : ∀ a o, H a = some o → O a = none → H' a = some o ∧ O' a = none
  tup : ∀ a xs, H a = some (.tup xs) → H' a = some (.tup xs)
  ftup : ∀ a o xs, H a = some (.frz o (.tup xs)) → H' a = some (.frz o (.tup xs))
theorem Fz.refl (O : Ow) (H : Hp) : Fz O H O H := ⟨fun _ _ h o => ⟨h, o⟩, fun _ _ h => h, fun _ _ _ h => h⟩
theorem Fz.trans {O O1 O2 : Ow} {H H1 H2 : Hp} (a : Fz O H O1 H1) (b : Fz O1 H1 O2 H2) : Fz O H O2 H2 :=
  ⟨fun c o h q => let ⟨h1, q1⟩ := a.keep c o h q; b.keep c o h1 q1, fun c xs h => b.tup c xs (a.tup c xs h), fun c o xs h => b.ftup c o xs (a.ftup c o xs h)⟩
theorem Fz.same {O : Ow} {H H' : Hp} (h : Same H H') : Fz O H O H' := ⟨fun a o e q => ⟨h a o e, q⟩, fun a xs e => h a _ e, fun a o xs e => h a _ e⟩
theorem Fz.rd {O O' : Ow} {H H' : Hp} (f : Fz O H O' H') {a : Addr} {u : HO} (h : Rd H a u) (q : O a = none) : Rd H' a u ∧ O' a = none := by
  rcases h with h | ⟨o, h⟩
  · obtain ⟨h1, q1⟩ := f.keep a u h q
    exact ⟨.inl h1, q1⟩
  · obtain ⟨h1, q1⟩ := f.keep a _ h q
    exact ⟨.inr ⟨o, h1⟩, q1⟩
theorem Fz.sl {K : PySem.W.Frag} {O O' : Ow} {H H' : Hp} (f : Fz O H O' H') {a : Addr} {xs : List V} (h : SL K O H a xs) : SL K O' H' a xs := by
  exact h.imp (fun h => f.rd h.1 h.2) fun h => h
theorem Fz.st {K : PySem.W.Frag} {O O' : Ow} {H H' : Hp} (f : Fz O H O' H') {a : Addr} {xs : List V} (h : SqT K H a xs) : SqT K H' a xs := by
  rcases h with (h | ⟨o, h⟩) | h
  · exact .inl (.inl (f.tup a xs h))
  · exact .inl (.inr ⟨o, f.ftup a o xs h⟩)
  · exact .inr h

section
variable {K : PySem.W.Frag} {O O' : Ow} {H H' : Hp}
mutual
theorem Rp.mv (f : Fz O H O' H') : ∀ {v : V} {d : D}, Rp K O H v d → Rp K O' H' v d
  | _, _, .non => .non
  | _, _, .bl b => .bl b
  | _, _, .int i => .int i
  | _, _, .str x h1 h2 => .str x h1 h2
  | _, _, .lst h z r => .lst (f.sl h) z (Rps.mv f r)
  | _, _, .tup h z r => .tup (f.st h) z (Rps.mv f r)
  | _, _, .dk h q r => .dk (f.keep _ _ h q).1 (f.keep _ _ h q).2 (RpK.mv f r)
theorem Rps.mv (f : Fz O H O' H') : ∀ {vs : List V} {ds : List D}, Rps K O H vs ds → Rps K O' H' vs ds
  | _, _, .nil => .nil
  | _, _, .cons h r => .cons (Rp.mv f h) (Rps.mv f r)
theorem RpK.mv (f : Fz O H O' H') : ∀ {vs : List (Key × V)} {ds : List (D × D)}, RpK K O H vs ds → RpK K O' H' vs ds
  | _, _, .nil => .nil
  | _, _, .cons h r => .cons (Rp.mv f h) (RpK.mv f r)
end
theorem Rp.same {v : V} {d : D} (h : Rp K O H v d) (s : Same H H') : Rp K O H' v d := h.mv (.same s)
theorem Rps.same {v : List V} {d : List D} (h : Rps K O H v d) (s : Same H H') : Rps K O H' v d := h.mv (.same s)
theorem RpK.same {v : List (Key × V)} {d : List (D × D)} (h : RpK K O H v d) (s : Same H H') : RpK K O H' v d := h.mv (.same s)

theorem Rps.length : ∀ {vs : List V} {ds : List D}, Rps K O H vs ds → vs.length = ds.length
  | _, _, .nil => rfl
  | _, _, .cons _ r => by simp [Rps.length r]
theorem Rps.get : ∀ {vs : List V} {ds : List D} {i : Nat} {d : D}, Rps K O H vs ds → ds[i]? = some d → ∃ v, vs[i]? = some v ∧ Rp K O H v d
  | _, _, _, _, .nil, e => by simp at e
  | _, _, 0, _, .cons r _, e => by simp at e; subst e; exact ⟨_, rfl, r⟩
  | _, _, i + 1, d, .cons _ t, e => by
    obtain ⟨u, h1, h2⟩ := Rps.get (i := i) (d := d) t (by simpa using e)
    exact ⟨u, by simpa using h1, h2⟩
theorem Rps.getV : ∀ {vs : List V} {ds : List D} {i : Nat} {v : V}, Rps K O H vs ds → vs[i]? = some v → ∃ d, ds[i]? = some d ∧ Rp K O H v d
  | _, _, _, _, .nil, e => by simp at e
  | _, _, 0, _, .cons r _, e => by simp at e; subst e; exact ⟨_, rfl, r⟩
  | _, _, i + 1, v, .cons _ t, e => by
    obtain ⟨u, h1, h2⟩ := Rps.getV (i := i) (v := v) t (by simpa using e)
    exact ⟨u, by simpa using h1, h2⟩
theorem Rps.app : ∀ {xs ys : List V} {ds es : List D}, Rps K O H xs ds → Rps K O H ys es → Rps K O H (xs ++ ys) (ds ++ es)
  | _, _, _, _, .nil, s => s
  | _, _, _, _, .cons r t, s => .cons r (Rps.app t s)
theorem Rps.take : ∀ {xs : List V} {ds : List D} (n : Nat), Rps K O H xs ds → Rps K O H (xs.take n) (ds.take n)
  | _, _, 0, _ => .nil
  | _, _, _ + 1, .nil => .nil
  | _, _, n + 1, .cons r t => .cons r (Rps.take n t)
theorem Rps.drop : ∀ {xs : List V} {ds : List D} (n : Nat), Rps K O H xs ds → Rps K O H (xs.drop n) (ds.drop n)
  | _, _, 0, r => r
  | _, _, _ + 1, .nil => .nil
  | _, _, n + 1, .cons _ t => Rps.drop n t
theorem Rps.set {v : V} {d : D} (q : Rp K O H v d) : ∀ {xs : List V} {ds : List D} (i : Nat), Rps K O H xs ds → Rps K O H (xs.set i v) (ds.set i d)
  | _, _, _, .nil => .nil
  | _, _, 0, .cons _ t => .cons q t
  | _, _, i + 1, .cons r t => .cons r (Rps.set q i t)
theorem Rps.rev {xs : List V} {ds : List D} (r : Rps K O H xs ds) : Rps K O H xs.reverse ds.reverse := by
  induction r using Rps.rec (motive_1 := fun _ _ _ => True) (motive_3 := fun _ _ _ => True) with
  | nil => exact .nil
  | cons h t _ ih => rw [List.reverse_cons, List.reverse_cons]; exact ih.app (.cons h .nil)
  | _ => trivial
theorem Rps.one {v : V} {d : D} (h : Rp K O H v d) : Rps K O H [v] [d] := .cons h .nil

mutual
theorem Rp.dp : ∀ {v : V} {d : D}, Rp K O H v d → d.canLay0 = true → Dp K H v d
  | _, _, .non, _ => .non
  | _, _, .bl b, _ => .bl b
  | _, _, .int i, _ => .int i
  | _, _, .str x _ _, _ => .str x
  | _, _, .lst h z r, c => .lst h.seq (Rps.dp r (by simpa [PyData.canLay0] using c))
  | _, _, .tup h z r, c => .tup h (Rps.dp r (by simpa [PyData.canLay0] using c))
  | _, _, .dk .., c => by simp [PyData.canLay0] at c
theorem Rps.dp : ∀ {vs : List V} {ds : List D}, Rps K O H vs ds → PyData.canLayAll0 ds = true → DpAll K H vs ds
  | _, _, .nil, _ => .nil
  | _, _, .cons h r, c => by
    have c' := c
    simp only [PyData.canLayAll0, Bool.and_eq_true] at c'
    exact .cons (Rp.dp h c'.1) (Rps.dp r c'.2)
end
end

/-- as deep as n, without dicts -/
def lim : Nat → D → Bool
  | _, .none => true
  | _, .bool _ => true
  | _, .int _ => true
  | _, .str _ => true
  | 0, _ => false
  | n + 1, .list xs => xs.all (lim n)
  | n + 1, .tuple xs => xs.all (lim n)
  | _ + 1, .dict _ => false

theorem lim_depthAll {n : Nat} (ih : ∀ d, lim n d = true → d.depth ≤ n) : ∀ ds : List D, ds.all (lim n) = true → PyData.depthAll ds ≤ n
  | [], _ => by simp [PyData.depthAll]
  | d :: ds, h => by
    simp only [List.all_cons, Bool.and_eq_true] at h
    have h1 := ih d h.1
    have h2 := lim_depthAll ih ds h.2
    simp only [PyData.depthAll]; omega
theorem lim_depth : ∀ (n : Nat) (d : D), lim n d = true → d.depth ≤ n
  | n, .none, _ => by simp [PyData.depth]
  | n, .bool _, _ => by simp [PyData.depth]
  | n, .int _, _ => by simp [PyData.depth]
  | n, .str _, _ => by simp [PyData.depth]
  | 0, .list _, h => by simp [lim] at h
  | 0, .tuple _, h => by simp [lim] at h
  | 0, .dict _, h => by simp [lim] at h
  | n + 1, .dict _, h => by simp [lim] at h
  | n + 1, .list xs, h => by
    have := lim_depthAll (lim_depth n) xs (by simpa [lim] using h)
    simp only [PyData.depth]; omega
  | n + 1, .tuple xs, h => by
    have := lim_depthAll (lim_depth n) xs (by simpa [lim] using h)
    simp only [PyData.depth]; omega

section
variable {K : PySem.W.Frag} {O : Ow} {H : Hp}
theorem lim_lays {n : Nat} (ih : ∀ (d : D) (v : V), Rp K O H v d → lim n d = true → d.canLay0 = true) : ∀ (ds : List D) (vs : List V), Rps K O H vs ds → ds.all (lim n) = true → PyData.canLayAll0 ds = true
  | [], _, _, _ => by simp [PyData.canLayAll0]
  | d :: ds, _, .cons r t, h => by
    simp only [List.all_cons, Bool.and_eq_true] at h
    simp [PyData.canLayAll0, ih d _ r h.1, lim_lays ih ds _ t h.2]
theorem lim_lay : ∀ (n : Nat) (d : D) (v : V), Rp K O H v d → lim n d = true → d.canLay0 = true
  | n, .none, _, _, _ => by simp [PyData.canLay0]
  | n, .bool _, _, _, _ => by simp [PyData.canLay0]
  | n, .int _, _, _, _ => by simp [PyData.canLay0]
  | n, .str x, _, .str _ h _, _ => by simpa [PyData.canLay0] using h
  | 0, .list _, _, _, h => by simp [lim] at h
  | 0, .tuple _, _, _, h => by simp [lim] at h
  | 0, .dict _, _, _, h => by simp [lim] at h
  | n + 1, .dict _, _, _, h => by simp [lim] at h
  | n + 1, .list xs, _, .lst _ _ r, h => by
    simp only [PyData.canLay0]
    exact lim_lays (lim_lay n) xs _ r (by simpa [lim] using h)
  | n + 1, .tuple xs, _, .tup _ _ r, h => by
    simp only [PyData.canLay0]
    exact lim_lays (lim_lay n) xs _ r (by simpa [lim] using h)
theorem lim_shaped {n : Nat} {d : D} {v : V} (r : Rp K O H v d) (h : lim n d = true) (hn : n ≤ 64) : SeqAt.shaped d = true := by
  unfold SeqAt.shaped
  rw [lim_lay n d v r h]
  have := lim_depth n d h
  simp; omega
end

/-- the root may be anybody's, what lies within is nobody's -/
def RpW (K : PySem.W.Frag) (O : Ow) (H : Hp) (v : V) (d : D) : Prop := match d with
  | .list ds => ∃ a xs, v = .ref a ∧ SqL K H a xs ∧ xs.length ≤ sizeLine ∧ Rps K O H xs ds
  | .dict ds => ∃ a kvs, v = .ref a ∧ H a = some (.dK kvs) ∧ RpK K O H kvs ds
  | d => Rp K O H v d
section
variable {K : PySem.W.Frag} {O : Ow} {H H' : Hp}
theorem Rp.weak {v : V} {d : D} (h : Rp K O H v d) : RpW K O H v d := by
  cases h with
  | lst h z r => exact ⟨_, _, rfl, h.seq, z, r⟩
  | dk h q r => exact ⟨_, _, rfl, h, r⟩
  | non => exact .non
  | bl b => exact .bl b
  | int i => exact .int i
  | str x h z => exact .str x h z
  | tup h z r => exact .tup h z r
theorem Same.rd (s : Same H H') {a : Addr} {u : HO} (h : Rd H a u) : Rd H' a u := by
  rcases h with h | ⟨o, h⟩
  · exact .inl (s _ _ h)
  · exact .inr ⟨o, s _ _ h⟩
theorem Same.sql (s : Same H H') {a : Addr} {xs : List V} (h : SqL K H a xs) : SqL K H' a xs := h.imp (fun h => Same.rd s h) fun h => h
theorem RpW.same {v : V} {d : D} (h : RpW K O H v d) (s : Same H H') : RpW K O H' v d := by
  cases d with
  | list ds => obtain ⟨a, xs, e, q, z, r⟩ := h; exact ⟨a, xs, e, Same.sql s q, z, r.same s⟩
  | dict ds => obtain ⟨a, kvs, e, q, r⟩ := h; exact ⟨a, kvs, e, s _ _ q, r.same s⟩
  | none => exact Rp.same (show Rp K O H v _ from h) s
  | bool b => exact Rp.same (show Rp K O H v _ from h) s
  | int i => exact Rp.same (show Rp K O H v _ from h) s
  | str x => exact Rp.same (show Rp K O H v _ from h) s
  | tuple ds => exact Rp.same (show Rp K O H v _ from h) s
/-- weak: HandS' own reading -/
theorem RpW.dp {v : V} {d : D} (h : RpW K O H v d) (c : d.canLay0 = true) : Dp K H v d := by
  cases d with
  | list ds => obtain ⟨a, xs, e, q, z, r⟩ := h; subst e; exact .lst q (r.dp (by simpa [PyData.canLay0] using c))
  | dict ds => simp [PyData.canLay0] at c
  | none => exact Rp.dp (show Rp K O H v _ from h) c
  | bool b => exact Rp.dp (show Rp K O H v _ from h) c
  | int i => exact Rp.dp (show Rp K O H v _ from h) c
  | str x => exact Rp.dp (show Rp K O H v _ from h) c
  | tuple ds => exact Rp.dp (show Rp K O H v _ from h) c
theorem RpW.lay {n : Nat} {v : V} {d : D} (h : RpW K O H v d) (l : lim n d = true) : d.canLay0 = true := by
  cases d with
  | list ds =>
    obtain ⟨a, xs, e, q, z, r⟩ := h
    cases n with
    | zero => simp [lim] at l
    | succ n =>
      simp only [PyData.canLay0]
      exact lim_lays (lim_lay n) ds _ r (by simpa [lim] using l)
  | dict ds => cases n <;> simp [lim] at l
  | none => exact lim_lay n _ v (show Rp K O H v _ from h) l
  | bool b => exact lim_lay n _ v (show Rp K O H v _ from h) l
  | int i => exact lim_lay n _ v (show Rp K O H v _ from h) l
  | str x => exact lim_lay n _ v (show Rp K O H v _ from h) l
  | tuple ds => exact lim_lay n _ v (show Rp K O H v _ from h) l
theorem RpW.shaped {n : Nat} {v : V} {d : D} (h : RpW K O H v d) (l : lim n d = true) (hn : n ≤ 64) : SeqAt.shaped d = true := by
  unfold SeqAt.shaped
  rw [h.lay l]
  have := lim_depth n d l
  simp; omega
end
end Ws

set_option Elab.async false
set_option linter.all false
set_option maxRecDepth 100000
set_option maxHeartbeats 4000000
/-! Sim2: the pure language and what it does -/
namespace Ws
open PySem PySem.Spec PyProof.Rows L2

/-- an answer: a datum, a BadValue with its place, or nothing is said -/
inductive Rs (α : Type) where
  | ok (a : α) | ex (d : D) | st
def Rs.bnd {α β : Type} (x : Rs α) (f : α → Rs β) : Rs β := match x with
  | .ok a => f a
  | .ex d => .ex d
  | .st => .st
@[simp] theorem Rs.bnd_ok {α β : Type} (a : α) (f : α → Rs β) : (Rs.ok a).bnd f = f a := rfl
@[simp] theorem Rs.bnd_ex {α β : Type} (d : D) (f : α → Rs β) : (Rs.ex d : Rs α).bnd f = .ex d := rfl
@[simp] theorem Rs.bnd_st {α β : Type} (f : α → Rs β) : (Rs.st : Rs α).bnd f = .st := rfl
def Rs.of {α : Type} : Option α → Rs α
  | some a => .ok a
  | none => .st
@[simp] theorem Rs.of_some {α : Type} (a : α) : Rs.of (some a) = .ok a := rfl
@[simp] theorem Rs.of_none {α : Type} : Rs.of (none : Option α) = .st := rfl

/-- a slot: not set, a datum that may be known elsewhere, a list or dict that the def alone knows -/
inductive Sl where
  | u | f (d : D) | o (d : D)
abbrev Env := List Sl

inductive Op2 where
  | add | sub | mul | fdiv | mod | pow
  deriving DecidableEq
inductive Cp where
  | eq | ne | lt | le | gt | ge | is_ | isn | in_ | nin
  deriving DecidableEq
inductive Bi where
  | len | abs | max | min | maxd | mind | sum | any | all | sorted | tuple | list | int | gcd | str
  deriving DecidableEq
inductive Ty where
  | int | bool | str | list | tuple | dict
  deriving DecidableEq
inductive Pt where
  | nm (i : Nat) | tp (ps : List Pt)

mutual
inductive E where
  | lit (d : D)
  | var (i : Nat)
  | wv (i : Nat)
  | gl (d : D)
  | bin (o : Op2) (a b : E)
  | neg (a : E)
  | not_ (a : E)
  | and_ (a b : E)
  | or_ (a b : E)
  | ite (c a b : E)
  | cmp (o : Cp) (a b : E)
  | chain (o o' : Cp) (a b c : E)
  | tup (es : List E)
  | lst (es : List E)
  | dnew
  | idx (a b : E)
  | sli (a : E) (lo hi : Option E)
  | rev (a : E)
  | lc (vs : List Nat) (elt : E) (tg : Pt) (it : It) (cond : Option E)
  | lc2 (vs vs1 : List Nat) (elt : E) (tg : Pt) (it : It) (cond : Option E) (tg1 : Pt) (it1 : It) (cond1 : Option E)
  | dc (vs : List Nat) (k v : E) (tg : Pt) (it : It) (cond : Option E)
  | call (f : Nat) (es : List E)
  | bi (b : Bi) (es : List E)
  | isi (a : E) (ts : List Ty)
  | nomut (a : E)
  | inT (ks : List Str) (neg : Bool) (a : E)
  | atT (kvs : List (Str × D)) (a : E)
  | lset (a : E)
  | dd (ks : List Key) (es : List E)
  | sortk (f : Nat) (a : E)
inductive It where
  | seq (e : E)
  | rng1 (a : E)
  | rng2 (a b : E)
  | rng3 (a b c : E)
  | rev (e : E)
end

inductive S where
  | asg (t : Pt) (e : E) (fr : Bool) (lk : List Nat)
  | par (i j : Nat) (a b : E) (lk : List Nat)
  | aug (i : Nat) (o : Op2) (e : E) (lk : List Nat)
  | seti (i : Nat) (e1 e2 : E) (lk : List Nat)
  | app (i : Nat) (e : E) (lk : List Nat)
  | ret (e : E)
  | retn
  | drop (e : E) (lk : List Nat)
  | iff (c : E) (a b : List S)
  | for_ (t : Pt) (it : It) (body : List S) (lk : List Nat)
  | whil (c : E) (body : List S)
  | brk | cont | pass
  | raise (e : E)
  | try_ (body : List S) (i : Nat) (hb : List S)
  | stuck

/-- what a def is: how many parameters, its body, how many slots -/
structure Fn where
  np : Nat
  body : List S
  n : Nat

/-! ### data -/
def truth : D → Bool
  | .none => false
  | .bool b => b
  | .int i => i != 0
  | .str x => x.length != 0
  | .list xs => !xs.isEmpty
  | .tuple xs => !xs.isEmpty
  | .dict xs => !xs.isEmpty
abbrev LIM : Nat := 16777216
def mulOk (i j : Int) : Bool := (decide (-(2 ^ 64) < i) && decide (i < 2 ^ 64)) || (decide (-(2 ^ 64) < j) && decide (j < 2 ^ 64))
def binD : Op2 → D → D → Rs D
  | .add, .int i, .int j => .ok (.int (i + j))
  | .add, .str x, .str y => if x.length + y.length ≤ LIM then .ok (.str (x ++ y)) else .st
  | .add, .list xs, .list ys => if xs.length + ys.length ≤ LIM then .ok (.list (xs ++ ys)) else .st
  | .add, .tuple xs, .tuple ys => if xs.length + ys.length ≤ LIM then .ok (.tuple (xs ++ ys)) else .st
  | .sub, .int i, .int j => .ok (.int (i - j))
  | .mul, .int i, .int j => if mulOk i j then .ok (.int (i * j)) else .st
  | .fdiv, .int i, .int j => if 0 < j ∧ j < 1073741824 then .ok (.int (i / j)) else .st
  | .mod, .int i, .int j => if 0 < j then .ok (.int (i % j)) else .st
  | .pow, .int i, .int j => if 0 ≤ j ∧ j ≤ 1000000 ∧ i.natAbs < 2 ^ 64 then .ok (.int (i ^ j.toNat)) else .st
  | _, _, _ => .st
def negD : D → Rs D
  | .int i => .ok (.int (-i))
  | _ => .st

/-- == -/
def eqD (d e : D) : Rs D := if lim 40 d && lim 40 e then .ok (.bool (PyData.eqv d e)) else .st
def isNone : D → Bool
  | .none => true
  | _ => false
def keyOf : D → Option Key
  | .int i => some (.inl i)
  | .str x => some (.inr x)
  | _ => none
def getK (kvs : List (D × D)) (k : D) : Option D := (kvs.find? fun p => PyData.eqv p.1 k).map (·.2)
def hasChar (x y : Str) : Option Bool := match x.cps.toList with
  | [c] => some (decide (c ∈ y.cps.toList))
  | _ => none
def inD (d e : D) : Rs D := match e with
  | .list ds => if lim 40 d && lim 40 (.list ds) then .ok (.bool (ds.any fun z => PyData.eqv z d)) else .st
  | .tuple ds => if lim 40 d && lim 40 (.tuple ds) then .ok (.bool (ds.any fun z => PyData.eqv z d)) else .st
  | .dict kvs => match keyOf d with
    | some _ => .ok (.bool (getK kvs d).isSome)
    | none => .st
  | .str y => match d with
    | .str x => (Rs.of (hasChar x y)).bnd fun b => .ok (.bool b)
    | _ => .st
  | _ => .st
def notD (r : Rs D) : Rs D := r.bnd fun
  | .bool b => .ok (.bool (!b))
  | _ => .st
def isD (d e : D) : Rs D := match e with
  | .none => .ok (.bool (isNone d))
  | .bool b => match d with
    | .bool c => .ok (.bool (c == b))
    | _ => .ok (.bool false)
  | _ => .st
/-- they can be told apart -/
def cmpOk (d e : D) : Bool := PySem.W.alike d e && !isNone d && lim 40 d && lim 40 e
def ltB (d e : D) : Rs D := if cmpOk d e then .ok (.bool (PySem.W.dataLt d e)) else .st
def cmpD : Cp → D → D → Rs D
  | .eq, d, e => eqD d e
  | .ne, d, e => notD (eqD d e)
  | .lt, d, e => ltB d e
  | .gt, d, e => ltB e d
  | .le, d, e => notD (ltB e d)
  | .ge, d, e => notD (ltB d e)
  | .is_, d, e => isD d e
  | .isn, d, e => notD (isD d e)
  | .in_, d, e => inD d e
  | .nin, d, e => notD (inD d e)

/-- the place that an index of any sign means -/
def ixD {α : Type} (xs : List α) (i : Int) : Option α := if 0 ≤ i then xs[i.toNat]? else if -(xs.length : Int) ≤ i then xs[(i + xs.length).toNat]? else none
def idxD (d e : D) : Rs D := match d, e with
  | .list xs, .int i => Rs.of (ixD xs i)
  | .tuple xs, .int i => Rs.of (ixD xs i)
  | .str x, .int i => (Rs.of (ixD x.cps.toList i)).bnd fun c => .ok (.str ⟨#[c]⟩)
  | .dict kvs, k => match keyOf k with
    | some _ => Rs.of (getK kvs k)
    | none => .st
  | _, _ => .st
def cutD {α : Type} (xs : List α) (lo hi : Option Int) : List α := (xs.drop (HT.sIx xs.length 0 lo)).take (HT.sIx xs.length xs.length hi - HT.sIx xs.length 0 lo)
def sliD (d : D) (lo hi : Option Int) : Rs D := match d with
  | .list xs => .ok (.list (cutD xs lo hi))
  | .tuple xs => .ok (.tuple (cutD xs lo hi))
  | _ => .st
def revD : D → Rs D
  | .list xs => .ok (.list xs.reverse)
  | .tuple xs => .ok (.tuple xs.reverse)
  | _ => .st
def intOf : D → Option Int
  | .int i => some i
  | _ => none
def bolOf : D → Option Bool
  | .bool b => some b
  | _ => none
def intsD (ds : List D) : Option (List Int) := ds.mapM intOf
def bolsD (ds : List D) : Option (List Bool) := ds.mapM bolOf
/-- all of them can be told apart -/
def allOk (xs : List D) : Bool := xs.all fun x => !isNone x && lim 40 x && xs.all fun y => PySem.W.alike x y
def isTup : D → Bool
  | .tuple [] => false
  | .tuple _ => true
  | _ => false
def isTupE : D → Bool
  | .tuple _ => true
  | _ => false
def sortOk (xs : List D) : Bool := allOk xs && (xs.all isTup || xs.all fun x => !isTupE x)
/-- stable insertion -/
def insD {α : Type} (le : α → α → Bool) (x : α) : List α → List α
  | [] => [x]
  | y :: ys => if le x y then x :: y :: ys else y :: insD le x ys
def sortD {α : Type} (le : α → α → Bool) (xs : List α) : List α := xs.foldr (insD le) []
def leT (d e : D) : Bool := !PySem.W.dataLt e d
def minL : List D → Option D
  | [] => none
  | x :: xs => some (PySem.W.minD x xs)
def maxL : List D → Option D
  | [] => none
  | x :: xs => some (PySem.W.maxD x xs)
def tyIs (t : Ty) (d : D) : Bool := match t, d with
  | .int, .int _ => true
  | .int, .bool _ => true
  | .bool, .bool _ => true
  | .str, .str _ => true
  | .list, .list _ => true
  | .tuple, .tuple _ => true
  | .dict, .dict _ => true
  | _, _ => false
mutual
def noMut : D → Bool
  | .list _ => false
  | .dict _ => false
  | .tuple xs => noMuts xs
  | _ => true
def noMuts : List D → Bool
  | [] => true
  | x :: xs => noMut x && noMuts xs
end
def biD : Bi → List D → Rs D
  | .len, [.list xs] => .ok (.int xs.length)
  | .len, [.tuple xs] => .ok (.int xs.length)
  | .len, [.str x] => .ok (.int x.length)
  | .len, [.dict x] => .ok (.int x.length)
  | .abs, [.int i] => .ok (.int (if i < 0 then -i else i))
  | .max, [.int i, .int j] => .ok (.int (if j > i then j else i))
  | .min, [.int i, .int j] => .ok (.int (if j < i then j else i))
  | .max, [.list xs] => if allOk xs then Rs.of (maxL xs) else .st
  | .min, [.list xs] => if allOk xs then Rs.of (minL xs) else .st
  | .max, [.tuple xs] => if allOk xs then Rs.of (maxL xs) else .st
  | .min, [.tuple xs] => if allOk xs then Rs.of (minL xs) else .st
  | .maxd, [.list xs, d] => if allOk xs then .ok ((maxL xs).getD d) else .st
  | .mind, [.list xs, d] => if allOk xs then .ok ((minL xs).getD d) else .st
  | .sum, [.list xs] => (Rs.of (intsD xs)).bnd fun ns => .ok (.int ns.sum)
  | .any, [.list xs] => (Rs.of (bolsD xs)).bnd fun bs => .ok (.bool (bs.any id))
  | .all, [.list xs] => (Rs.of (bolsD xs)).bnd fun bs => .ok (.bool (bs.all id))
  | .sorted, [.list xs] => if sortOk xs then .ok (.list (sortD leT xs)) else .st
  | .sorted, [.tuple xs] => if sortOk xs then .ok (.list (sortD leT xs)) else .st
  | .tuple, [.list xs] => .ok (.tuple xs)
  | .tuple, [.tuple xs] => .ok (.tuple xs)
  | .list, [.list xs] => .ok (.list xs)
  | .list, [.tuple xs] => .ok (.list xs)
  | .int, [.int i] => .ok (.int i)
  | .int, [.bool b] => .ok (.int (if b then 1 else 0))
  | .gcd, [.int a, .int b] => .ok (.int ((Nat.gcd a.natAbs b.natAbs : Nat) : Int))
  | _, _ => .st
/-- a name of a table of the module -/
def inTD (ks : List Str) (neg : Bool) : D → Rs D
  | .str x => .ok (.bool (if neg then !ks.any (fun k => decide (k = x)) else ks.any fun k => decide (k = x)))
  | _ => .st
def tabAt (kvs : List (Str × D)) (x : Str) : Option D := (kvs.find? fun p => decide (p.1 = x)).map (·.2)
def atTD (kvs : List (Str × D)) : D → Rs D
  | .str x => Rs.of (tabAt kvs x)
  | _ => .st
def tupI : D → Option (List Int)
  | .tuple ds => intsD ds
  | _ => none
/-- how many there are -/
def dnum : List (List Int) → Nat
  | [] => 0
  | x :: xs => if xs.any (fun y => decide (y = x)) then dnum xs else dnum xs + 1
/-- len(set(xs)) -/
def lsetD : D → Rs D
  | .list xs => if xs.length < 64 then (Rs.of (xs.mapM tupI)).bnd fun ks => .ok (.int (dnum ks)) else .st
  | _ => .st
/-- what is walked -/
def seqD2 : D → Rs (List D)
  | .list xs => .ok xs
  | .tuple xs => .ok xs
  | _ => .st
def seqD : D → Rs (List D)
  | .list xs => .ok xs
  | .tuple xs => .ok xs
  | .str x => .ok (x.cps.toList.map fun c => .str ⟨#[c]⟩)
  | _ => .st
def rngL (lo : Int) (n : Nat) : List D := (List.range n).map fun i => .int (lo + (i : Nat))
def rngD (lo hi : Int) : Rs (List D) := if -(2 ^ 62) ≤ lo ∧ lo < 2 ^ 62 ∧ -(2 ^ 62) ≤ hi ∧ hi < 2 ^ 62 ∧ (hi - lo).toNat ≤ LIM then .ok (rngL lo (hi - lo).toNat) else .st

/-! ### slots -/
def put (ε : Env) (i : Nat) (d : D) : Env := ε.set i (.f d)
def puto (ε : Env) (i : Nat) (d : D) : Env := ε.set i (.o d)
mutual
def bnd : Pt → D → Env → Rs Env
  | .nm i, d, ε => .ok (put ε i d)
  | .tp ps, .tuple ds, ε => bnds ps ds ε
  | .tp ps, .list ds, ε => bnds ps ds ε
  | .tp _, _, _ => .st
def bnds : List Pt → List D → Env → Rs Env
  | [], [], ε => .ok ε
  | p :: ps, d :: ds, ε => (bnd p d ε).bnd fun ε' => bnds ps ds ε'
  | _, _, _ => .st
end
def wipeE (ε : Env) : List Nat → Env
  | [] => ε
  | v :: vs => (wipeE ε vs).set v .u
def frzS : Sl → Sl
  | .o d => .f d
  | s => s
/-- the slots ls are known elsewhere from now on -/
def frzE (ε : Env) : List Nat → Env
  | [] => ε
  | i :: is => match ε[i]? with
    | some (.o d) => frzE (ε.set i (.f d)) is
    | _ => frzE ε is

/-! ### what an expression says -/
section
variable (φ : Nat → List D → Rs D)
/-- no error comes out of a comprehension's block -/
def Rs.nx {α : Type} : Rs α → Rs α
  | .ok a => .ok a
  | _ => .st
@[simp] theorem Rs.nx_ok {α : Type} (a : α) : (Rs.ok a).nx = .ok a := rfl
@[simp] theorem Rs.nx_st {α : Type} : (Rs.st : Rs α).nx = .st := rfl
/-- [elt ..]: what the turns give -/
def lcL (turn : D → Rs (List D)) : List D → Rs (List D)
  | [] => .ok []
  | x :: xs => (turn x).nx.bnd fun ys => (lcL turn xs).bnd fun zs => .ok (ys ++ zs)
/-- a key of each -/
def keysL (f : D → Rs D) : List D → Rs (List D)
  | [] => .ok []
  | x :: xs => (f x).nx.bnd fun y => (keysL f xs).bnd fun ys => .ok (y :: ys)
/-- sorted by keys -/
def sortK (xs ks : List D) : List D := (sortD (fun a b : D × D => leT a.2 b.2) (xs.zip ks)).map Prod.fst
def sortkD (f : D → Rs D) (d : D) : Rs D := match d with
  | .list xs => (keysL f xs).bnd fun ks => if sortOk ks then .ok (.list (sortK xs ks)) else .st
  | _ => .st
/-- {k: v ..} -/
def putD (kvs : List (D × D)) (k v : D) : List (D × D) := if (getK kvs k).isSome then kvs.map fun p => if PyData.eqv p.1 k then (p.1, v) else p else kvs ++ [(k, v)]
/-- only what holds no list and no dict -/
def nmR : Rs D → Rs D
  | .ok x => if noMut x then .ok x else .st
  | .ex x => if noMut x then .ex x else .st
  | .st => .st
mutual
def ev : E → Env → Rs D
  | .lit d, _ => .ok d
  | .gl d, _ => .ok d
  | .var i, ε => match ε[i]? with
    | some (.f d) => .ok d
    | _ => .st
  | .wv i, ε => match ε[i]? with
    | some (.f d) => .ok d
    | some (.o d) => .ok d
    | _ => .st
  | .bin o a b, ε => (ev a ε).bnd fun x => (ev b ε).bnd fun y => binD o x y
  | .neg a, ε => (ev a ε).bnd negD
  | .not_ a, ε => (ev a ε).bnd fun x => .ok (.bool (!truth x))
  | .and_ a b, ε => (ev a ε).bnd fun x => if truth x then ev b ε else .ok x
  | .or_ a b, ε => (ev a ε).bnd fun x => if truth x then .ok x else ev b ε
  | .ite c a b, ε => (ev c ε).bnd fun x => if truth x then ev a ε else ev b ε
  | .cmp o a b, ε => (ev a ε).bnd fun x => (ev b ε).bnd fun y => cmpD o x y
  | .chain o o' a b c, ε => (ev a ε).bnd fun x => (ev b ε).bnd fun y => (cmpD o x y).bnd fun
    | .bool true => (ev c ε).bnd fun z => cmpD o' y z
    | .bool false => .ok (.bool false)
    | _ => .st
  | .tup es, ε => (evs es ε).bnd fun ds => .ok (.tuple ds)
  | .lst es, ε => (evs es ε).bnd fun ds => .ok (.list ds)
  | .dnew, _ => .ok (.dict [])
  | .idx a b, ε => (ev a ε).bnd fun x => (ev b ε).bnd fun y => idxD x y
  | .sli a lo hi, ε => (ev a ε).bnd fun x => (evo lo ε).bnd fun l => (evo hi ε).bnd fun h => sliD x l h
  | .rev a, ε => (ev a ε).bnd revD
  | .lc vs elt tg it cond, ε => (evi it ε).bnd fun ds => (lcL (fun x => (bnd tg x (wipeE ε vs)).bnd fun ε' =>
      (evc cond ε').bnd fun b => if b then (ev elt ε').bnd fun y => .ok [y] else .ok []) ds).bnd fun ys => .ok (.list ys)
  | .lc2 vs vs1 elt tg it cond tg1 it1 cond1, ε => (evi it ε).bnd fun ds => (lcL (fun x => (bnd tg x (wipeE ε vs)).bnd fun ε' =>
      (evc cond ε').bnd fun b => if b then (evi it1 ε').bnd fun ds1 => lcL (fun x1 => (bnd tg1 x1 (wipeE ε' vs1)).bnd fun ε'' =>
        (evc cond1 ε'').bnd fun b1 => if b1 then (ev elt ε'').bnd fun y => .ok [y] else .ok []) ds1 else .ok []) ds).bnd fun ys => if ys.length ≤ LIM then .ok (.list ys) else .st
  | .dc vs k v tg it cond, ε => (evi it ε).bnd fun ds => (lcL (fun x => (bnd tg x (wipeE ε vs)).bnd fun ε' =>
      (evc cond ε').bnd fun b => if b then (ev k ε').bnd fun y => (Rs.of (keyOf y)).bnd fun _ => (ev v ε').bnd fun z => .ok [.tuple [y, z]] else .ok []) ds).bnd fun ys =>
        .ok (.dict (ys.foldl (fun acc p => match p with | .tuple [y, z] => putD acc y z | _ => acc) []))
  | .call f es, ε => (evs es ε).bnd fun ds => φ f ds
  | .bi b es, ε => (evs es ε).bnd fun ds => biD b ds
  | .isi a ts, ε => (ev a ε).bnd fun x => .ok (.bool (ts.any fun t => tyIs t x))
  | .inT ks neg a, ε => (ev a ε).bnd (inTD ks neg)
  | .atT kvs a, ε => (ev a ε).bnd (atTD kvs)
  | .lset a, ε => (ev a ε).bnd lsetD
  | .dd ks es, ε => (evs es ε).bnd fun ds => .ok (.dict ((ks.zip ds).foldl (fun acc p => putD acc (keyD p.1) p.2) []))
  | .nomut a, ε => nmR (ev a (ε.map frzS))
  | .sortk f a, ε => (ev a ε).bnd fun x => sortkD (fun y => φ f [y]) x
def evs : List E → Env → Rs (List D)
  | [], _ => .ok []
  | e :: es, ε => (ev e ε).bnd fun x => (evs es ε).bnd fun xs => .ok (x :: xs)
/-- a slice's part -/
def evo : Option E → Env → Rs (Option Int)
  | none, _ => .ok none
  | some e, ε => (ev e ε).bnd fun x => (Rs.of (intOf x)).bnd fun i => .ok (some i)
/-- a condition -/
def evc : Option E → Env → Rs Bool
  | none, _ => .ok true
  | some e, ε => (ev e ε).bnd fun x => .ok (truth x)
def evi : It → Env → Rs (List D)
  | .seq e, ε => (ev e ε).bnd seqD
  | .rng1 a, ε => (ev a ε).bnd fun x => (Rs.of (intOf x)).bnd fun i => rngD 0 i
  | .rng2 a b, ε => (ev a ε).bnd fun x => (ev b ε).bnd fun y => (Rs.of (intOf x)).bnd fun i => (Rs.of (intOf y)).bnd fun j => rngD i j
  | .rng3 a b c, ε => (ev a ε).bnd fun x => (ev b ε).bnd fun y => (ev c ε).bnd fun z => (Rs.of (intOf x)).bnd fun i => (Rs.of (intOf y)).bnd fun j => (Rs.of (intOf z)).bnd fun k =>
      if k = -1 ∧ -1 ≤ j ∧ -1 ≤ i then (rngD (j + 1) (i + 1)).bnd fun ds => .ok ds.reverse else .st
  | .rev e, ε => (ev e ε).bnd fun x => (seqD2 x).bnd fun ds => .ok ds.reverse
end

/-! ### what a statement does -/
inductive Fl where
  | nx | br | ct | rt (d : D)
def putF (ε : Env) (t : Pt) (d : D) (fr : Bool) : Rs Env := if fr then (match t, d with
    | .nm i, .list ds => .ok (puto ε i (.list ds))
    | .nm i, .dict ds => .ok (puto ε i (.dict ds))
    | t, d => bnd t d ε) else bnd t d ε
def setD (d k v : D) : Rs D := match d with
  | .list xs => (Rs.of (intOf k)).bnd fun i => (Rs.of (ixN xs.length i)).bnd fun j => .ok (.list (xs.set j v))
  | .dict kvs => match keyOf k with
    | some _ => if kvs.length < LIM then .ok (.dict (putD kvs k v)) else .st
    | none => .st
  | _ => .st
def lstD : D → Rs (List D)
  | .list xs => .ok xs
  | _ => .st
def own (ε : Env) (i : Nat) : Rs D := match ε[i]? with
  | some (.o d) => .ok d
  | _ => .st
def exFor (step : D → Env → Rs (Fl × Env)) : List D → Env → Rs (Fl × Env)
  | [], ε => .ok (.nx, ε)
  | x :: xs, ε => (step x ε).bnd fun
    | (.nx, ε') => exFor step xs ε'
    | (.ct, ε') => exFor step xs ε'
    | (.br, ε') => .ok (.nx, ε')
    | (.rt d, ε') => .ok (.rt d, ε')
def exWh (c : Env → Rs Bool) (step : Env → Rs (Fl × Env)) : Nat → Env → Rs (Fl × Env)
  | 0, _ => .st
  | n + 1, ε => (c ε).bnd fun b => if b then (step ε).bnd fun
    | (.nx, ε') => exWh c step n ε'
    | (.ct, ε') => exWh c step n ε'
    | (.br, ε') => .ok (.nx, ε')
    | (.rt d, ε') => .ok (.rt d, ε') else .ok (.nx, ε)
abbrev WH : Nat := 1000000
mutual
def exS : S → Env → Rs (Fl × Env)
  | .asg t e fr lk, ε => (ev φ e (frzE ε lk)).bnd fun d => (putF (frzE ε lk) t d fr).bnd fun ε' => .ok (.nx, ε')
  | .par i j a b lk, ε => (ev φ a (frzE ε lk)).bnd fun x => (ev φ b (frzE ε lk)).bnd fun y => .ok (.nx, put (put (frzE ε lk) i x) j y)
  | .aug i o e lk, ε => (ev φ (.var i) (frzE ε lk)).bnd fun x => (ev φ e (frzE ε lk)).bnd fun y => (binD o x y).bnd fun z => match z with
    | .int n => .ok (.nx, put (frzE ε lk) i (.int n))
    | _ => .st
  | .seti i e1 e2 lk, ε => (ev φ e2 (frzE ε lk)).bnd fun v => (own (frzE ε lk) i).bnd fun d => (ev φ e1 (frzE ε lk)).bnd fun k => (setD d k v).bnd fun d' => .ok (.nx, puto (frzE ε lk) i d')
  | .app i e lk, ε => (own (frzE ε lk) i).bnd fun d => (lstD d).bnd fun xs => (ev φ e (frzE ε lk)).bnd fun v => if xs.length < LIM then .ok (.nx, puto (frzE ε lk) i (.list (xs ++ [v]))) else .st
  | .ret e, ε => (ev φ e (ε.map frzS)).bnd fun d => .ok (.rt d, ε)
  | .retn, ε => .ok (.rt .none, ε)
  | .drop e lk, ε => (ev φ e (frzE ε lk)).bnd fun _ => .ok (.nx, frzE ε lk)
  | .iff c a b, ε => (ev φ c (ε.map frzS)).bnd fun x => if truth x then exSs a ε else exSs b ε
  | .for_ t it body lk, ε => (evi φ it (frzE ε lk)).bnd fun ds => exFor (fun x ε' => (bnd t x ε').bnd fun ε'' => exSs body ε'') ds (frzE ε lk)
  | .whil c body, ε => exWh (fun ε' => (ev φ c (ε'.map frzS)).bnd fun x => .ok (truth x)) (fun ε' => exSs body ε') WH ε
  | .brk, ε => .ok (.br, ε)
  | .cont, ε => .ok (.ct, ε)
  | .pass, ε => .ok (.nx, ε)
  | .raise e, ε => (ev φ e (ε.map frzS)).bnd fun d => .ex d
  | .stuck, _ => .st
  | .try_ _ _ _, _ => .st
def exSs : List S → Env → Rs (Fl × Env)
  | [], ε => .ok (.nx, ε)
  | s :: ss, ε => (exS s ε).bnd fun
    | (.nx, ε') => exSs ss ε'
    | (f, ε') => .ok (f, ε')
end
end
/-- what a body's end tells -/
def retv : Fl × Env → Rs D
  | (.rt d, _) => .ok d
  | (.nx, _) => .ok .none
  | _ => .st
/-- a def, called -/
def run (φ : Nat → List D → Rs D) (f : Fn) (ds : List D) : Rs D := if ds.length = f.np then
    (exSs φ f.body (ds.map .f ++ List.replicate (f.n - f.np) .u)).bnd retv else .st
def call (fs : List Fn) : Nat → Nat → List D → Rs D
  | 0, _, _ => .st
  | k + 1, i, ds => match fs[i]? with
    | some f => run (call fs k) f ds
    | none => .st
end Ws

set_option Elab.async false
set_option linter.all false
set_option maxRecDepth 100000
set_option maxHeartbeats 4000000
/-! Sim3: from the text to the pure language -/
namespace Ws
open PySem PySem.Spec PyProof.Rows L2

/-- what is known of the names -/
structure Cfg where
  /-- the def's slots -/
  N : List Str
  /-- the module's defs -/
  fns : List Str
  /-- the module's constants -/
  cs : List (Str × D)
  /-- the built-in names that the module leaves as they are -/
  bl : List Str
  /-- defs whose answers hold no list and no dict -/
  pu : List Str
  /-- math.gcd stands at gcd -/
  gcd : Bool := false
  /-- the module's tables by texts -/
  tabs : List (Str × List (Str × D)) := []
  /-- names whose lists and dicts are never changed in place, by the def's slots -/
  ro : List (List Str × List Str) := []
/-- what is stored to y may be changed in place -/
def Cfg.fr (c : Cfg) (y : Str) : Bool := match c.ro.find? (fun p => decide (p.1 = c.N)) with
  | some p => !p.2.any fun z => decide (z = y)
  | none => true

def slotIx (N : List Str) (x : Str) : Option Nat := N.findIdx? fun y => decide (y = x)
def slotOf (c : Cfg) (sc : Scope) (x : Str) : Option Nat := match sc.names.lookup x with
  | some .local => slotIx c.N x
  | some .cell => slotIx c.N x
  | some .free => slotIx c.N x
  | _ => none
def glob (sc : Scope) (x : Str) : Bool := match sc.names.lookup x with
  | some .globalImplicit => !decide (x = "__debug__")
  | _ => false
def op2Of : Operator → Option Op2
  | .Add => some .add
  | .Sub => some .sub
  | .Mult => some .mul
  | .FloorDiv => some .fdiv
  | .Mod => some .mod
  | .Pow => some .pow
  | _ => none
def cpOf : CmpOp → Cp
  | .Eq => .eq | .NotEq => .ne | .Lt => .lt | .LtE => .le | .Gt => .gt | .GtE => .ge
  | .Is => .is_ | .IsNot => .isn | .In => .in_ | .NotIn => .nin
def biOf (x : Str) : Option Bi :=
  if x = "len" then some .len else if x = "abs" then some .abs else if x = "max" then some .max else if x = "min" then some .min else
  if x = "sum" then some .sum else if x = "any" then some .any else if x = "all" then some .all else if x = "sorted" then some .sorted else
  if x = "tuple" then some .tuple else if x = "list" then some .list else if x = "int" then some .int else none
def tyOf (x : Str) : Option Ty :=
  if x = "int" then some .int else if x = "bool" then some .bool else if x = "str" then some .str else if x = "list" then some .list else
  if x = "tuple" then some .tuple else if x = "dict" then some .dict else none
def ownOf (N : List Str) (scope : Scope) : List (Str × Nat) := scope.names.filterMap fun (n, k) => match k with
  | .local => (slotIx N n).map fun i => (n, i)
  | .cell => (slotIx N n).map fun i => (n, i)
  | _ => none
def noStar : List Expr → Bool
  | [] => true
  | .Starred _ _ :: _ => false
  | _ :: es => noStar es
/-- no display stands there -/
def walkable : Expr → Bool
  | .Name _ _ => true
  | .Call (.Name f _) _ _ _ => !decide (f = "range") && !decide (f = "reversed")
  | .Subscript _ _ _ => true
  | .ListComp _ _ _ _ => true
  | .BinOp _ _ _ _ => true
  | .List _ _ => true
  | .Tuple _ _ _ => true
  | .IfExp _ _ _ _ => true
  | _ => false
mutual
/-- a target: names and tuples of names (the scope as the text has it) -/
def compT (c : Cfg) (sc : Scope) : Nat → Expr → Option Pt
  | 0, _ => none
  | n + 1, .Name x _ => match sc.names.lookup x with
    | some .local => (slotIx c.N x).map .nm
    | some .cell => (slotIx c.N x).map .nm
    | _ => none
  | n + 1, .Tuple es _ _ => if noStar es then (compTs c sc n es).map .tp else none
  | _, _ => none
def compTs (c : Cfg) (sc : Scope) : Nat → List Expr → Option (List Pt)
  | 0, _ => none
  | n + 1, [] => some []
  | n + 1, e :: es => do some ((← compT c sc n e) :: (← compTs c sc n es))
end
mutual
def Pt.sl : Pt → List Nat
  | .nm i => [i]
  | .tp ps => Pt.sls ps
def Pt.sls : List Pt → List Nat
  | [] => []
  | p :: ps => p.sl ++ Pt.sls ps
end
def Pt.isin (p : Pt) (vs : List Nat) : Bool := p.sl.all fun i => decide (i ∈ vs)
def tabE (c : Cfg) (sc : Scope) : Expr → Option (List (Str × D))
  | .Name x _ => if glob sc x then c.tabs.lookup x else none
  | _ => none
/-- a written key -/
def keyE : Option Expr → Option Key
  | some (.Constant (.str x) _ _) => some (.inr x)
  | some (.Constant (.int i) _ _) => some (.inl i)
  | _ => none
def wk : E → E
  | .var i => .wv i
  | e => e
def lone : Expr → Bool
  | .Starred _ _ => false
  | _ => true
/-- a list's places: behind a subscript no slice, no tuple -/
def plainIx : Expr → Bool
  | .Slice _ _ _ _ => false
  | .Tuple _ _ _ => false
  | _ => true
mutual
def compE (c : Cfg) : Nat → Scope → Expr → Option E
  | 0, _, _ => none
  | n + 1, sc, e => match e with
    | .Constant (.int i) _ _ => some (.lit (.int i))
    | .Constant (.bool b) _ _ => some (.lit (.bool b))
    | .Constant .none _ _ => some (.lit .none)
    | .Constant (.str x) _ _ => if PyData.strOk x && decide (x.length ≤ LIM) then some (.lit (.str x)) else none
    | .Name x _ => if decide (x = "__debug__") || decide (x = "__classdict__") then none else match slotOf c sc x with
      | some i => some (.var i)
      | none => if glob sc x then (c.cs.lookup x).map .gl else none
    | .BinOp a o b _ => do some (.bin (← op2Of o) (wk (← compE c n sc a)) (wk (← compE c n sc b)))
    | .UnaryOp .USub a _ => do some (.neg (wk (← compE c n sc a)))
    | .UnaryOp .Not a _ => do some (.not_ (wk (← compE c n sc a)))
    | .BoolOp o vs _ => if 2 ≤ vs.length then compB c n sc o vs else none
    | .IfExp t a b _ => do some (.ite (wk (← compE c n sc t)) (← compE c n sc a) (← compE c n sc b))
    | .Compare a [o] [b] _ => if behindInMarks o b then none else match tabE c sc b with
      | some kvs => (match o with
        | .In => do some (.inT (kvs.map (·.1)) false (wk (← compE c n sc a)))
        | .NotIn => do some (.inT (kvs.map (·.1)) true (wk (← compE c n sc a)))
        | _ => none)
      | none => do some (.cmp (cpOf o) (wk (← compE c n sc a)) (wk (← compE c n sc b)))
    | .Compare a [o, o'] [b, d] _ => if lastMarks [o, o'] [b, d] then none else do some (.chain (cpOf o) (cpOf o') (wk (← compE c n sc a)) (wk (← compE c n sc b)) (wk (← compE c n sc d)))
    | .Tuple es _ _ => if es.length ≤ 1000000 then do some (.tup (← compEs c n sc es)) else none
    | .List es _ => if es.length ≤ 1000000 then do some (.lst (← compEs c n sc es)) else none
    | .Dict [] [] _ => some .dnew
    | .Dict (k :: ks) es _ => if decide ((k :: ks).length = es.length) && decide (es.length ≤ 15) then do
        let kk ← (k :: ks).mapM keyE
        some (.dd kk (← compEs c n sc es)) else none
    | .Subscript a (.Slice none none (some (.UnaryOp .USub (.Constant (.int 1) _ _) _)) _) _ => do some (.rev (wk (← compE c n sc a)))
    | .Subscript a (.Slice lo hi none _) _ => do some (.sli (wk (← compE c n sc a)) (← compO c n sc lo) (← compO c n sc hi))
    | .Subscript a b _ => if plainIx b then match tabE c sc a with
      | some kvs => do some (.atT kvs (wk (← compE c n sc b)))
      | none => do some (.idx (wk (← compE c n sc a)) (wk (← compE c n sc b))) else none
    | .ListComp elt [⟨tg, iter, ifs, 0⟩] scope _ => if blkC c.N sc scope (ownOf c.N scope) then do
        let it ← compI c n sc true iter
        let t ← compT c scope n tg
        let x ← compE c n (relS scope sc) elt
        let cd ← compC c n (relS scope sc) ifs
        if t.isin ((ownOf c.N scope).map (·.2)) then some (.lc ((ownOf c.N scope).map (·.2)) x t it cd) else none else none
    | .ListComp elt [⟨tg, iter, ifs, 0⟩, ⟨tg1, iter1, ifs1, 0⟩] scope _ => if blkC c.N sc scope (ownOf c.N scope) then do
        let it ← compI c n sc true iter
        let t ← compT c scope n tg
        let cd ← compC c n (relS scope sc) ifs
        let it1 ← compI c n (relS scope sc) false iter1
        let t1 ← compT c scope n tg1
        let cd1 ← compC c n (relS scope sc) ifs1
        let x ← compE c n (relS scope sc) elt
        if t.isin ((ownOf c.N scope).map (·.2)) && t1.isin ((ownOf c.N scope).map (·.2)) then some (.lc2 ((ownOf c.N scope).map (·.2)) t1.sl x t it cd t1 it1 cd1) else none else none
    | .DictComp kx vx [⟨tg, iter, ifs, 0⟩] scope _ => if blkC c.N sc scope (ownOf c.N scope) then do
        let it ← compI c n sc true iter
        let t ← compT c scope n tg
        let kk ← compE c n (relS scope sc) kx
        let x ← compE c n (relS scope sc) vx
        let cd ← compC c n (relS scope sc) ifs
        if t.isin ((ownOf c.N scope).map (·.2)) then some (.dc ((ownOf c.N scope).map (·.2)) kk x t it cd) else none else none
    | .Call (.Name "len" _) [.Call (.Name "set" _) [a] [] _] [] _ => if glob sc "len" && decide (("len" : Str) ∈ c.bl) && glob sc "set" && decide (("set" : Str) ∈ c.bl) && lone a then do some (.lset (wk (← compE c n sc a))) else none
    | .Call (.Name f _) [e] [⟨some x, d, _⟩] _ => if glob sc f && decide (f ∈ c.bl) && decide (x = "default") && lone e then (if f = "min" then do some (.bi .mind [wk (← compE c n sc e), ← compE c n sc d]) else if f = "max" then do some (.bi .maxd [wk (← compE c n sc e), ← compE c n sc d]) else none)
        else if glob sc f && decide (f ∈ c.bl) && decide (x = "key") && decide (f = "sorted") && lone e then (match d with
          | .Name y _ => if glob sc y then (match c.fns.findIdx? fun z => decide (z = y) with
            | some i => do some (.sortk i (wk (← compE c n sc e)))
            | none => none) else none
          | _ => none) else none
    | .Call (.Name f _) es [] _ => if glob sc f then (match c.fns.findIdx? fun y => decide (y = f) with
        | some i => do
          let ds ← compEs c n sc es
          some (if decide (f ∈ c.pu) then .nomut (.call i ds) else .call i ds)
        | none => if decide (f ∈ c.bl) && !es.isEmpty then (if f = "isinstance" then compIs c n sc es else do
            let b ← biOf f
            let ds ← compWs c n sc es
            some (.bi b ds)) else if c.gcd && decide (f = "gcd") && !es.isEmpty then do
            let ds ← compWs c n sc es
            some (.bi .gcd ds) else none) else none
    | _ => none
def compIs (c : Cfg) : Nat → Scope → List Expr → Option E
  | 0, _, _ => none
  | n + 1, sc, [e, .Name t _] => if lone e && glob sc t && decide (t ∈ c.bl) then do some (.isi (wk (← compE c n sc e)) [← tyOf t]) else none
  | n + 1, sc, [e, .Tuple [.Name t _, .Name u _] _ _] => if lone e && glob sc t && decide (t ∈ c.bl) && glob sc u && decide (u ∈ c.bl) then do some (.isi (wk (← compE c n sc e)) [← tyOf t, ← tyOf u]) else none
  | _, _, _ => none
def compB (c : Cfg) : Nat → Scope → BoolOp → List Expr → Option E
  | 0, _, _, _ => none
  | n + 1, sc, o, [] => none
  | n + 1, sc, o, [e] => compE c n sc e
  | n + 1, sc, .And, e :: e' :: es => do some (.and_ (← compE c n sc e) (← compB c n sc .And (e' :: es)))
  | n + 1, sc, .Or, e :: e' :: es => do some (.or_ (← compE c n sc e) (← compB c n sc .Or (e' :: es)))
def compEs (c : Cfg) : Nat → Scope → List Expr → Option (List E)
  | 0, _, _ => none
  | n + 1, sc, [] => some []
  | n + 1, sc, e :: es => if lone e then do some ((← compE c n sc e) :: (← compEs c n sc es)) else none
def compWs (c : Cfg) : Nat → Scope → List Expr → Option (List E)
  | 0, _, _ => none
  | n + 1, sc, [] => some []
  | n + 1, sc, e :: es => if lone e then do some (wk (← compE c n sc e) :: (← compWs c n sc es)) else none
def compO (c : Cfg) : Nat → Scope → Option Expr → Option (Option E)
  | 0, _, _ => none
  | n + 1, sc, none => some none
  | n + 1, sc, some e => do some (some (wk (← compE c n sc e)))
def compC (c : Cfg) : Nat → Scope → List Expr → Option (Option E)
  | 0, _, _ => none
  | n + 1, sc, [] => some none
  | n + 1, sc, [e] => do some (some (wk (← compE c n sc e)))
  | _, _, _ => none
/-- what is walked; w: its list may be a list that the def alone knows -/
def compI (c : Cfg) : Nat → Scope → Bool → Expr → Option It
  | 0, _, _, _ => none
  | n + 1, sc, w, .Call (.Name "range" _) [a] [] _ => if glob sc "range" && decide (("range" : Str) ∈ c.bl) && lone a then do some (.rng1 (wk (← compE c n sc a))) else none
  | n + 1, sc, w, .Call (.Name "range" _) [a, b] [] _ => if glob sc "range" && decide (("range" : Str) ∈ c.bl) && lone a && lone b then do some (.rng2 (wk (← compE c n sc a)) (wk (← compE c n sc b))) else none
  | n + 1, sc, w, .Call (.Name "range" _) [a, b, d] [] _ => if glob sc "range" && decide (("range" : Str) ∈ c.bl) && lone a && lone b && lone d then do some (.rng3 (wk (← compE c n sc a)) (wk (← compE c n sc b)) (wk (← compE c n sc d))) else none
  | n + 1, sc, w, .Call (.Name "reversed" _) [a] [] _ => if glob sc "reversed" && decide (("reversed" : Str) ∈ c.bl) && lone a then do
      let e ← compE c n sc a
      some (.rev (if w then wk e else e)) else none
  | n + 1, sc, w, e => if walkable e then do
      let e ← compE c n sc e
      some (.seq (if w then wk e else e)) else none
end

/-! ### statements -/
mutual
/-- the slots whose lists may be known elsewhere behind it -/
def E.sv : E → List Nat
  | .lit _ => [] | .gl _ => [] | .wv _ => [] | .dnew => []
  | .var i => [i]
  | .bin _ a b => a.sv ++ b.sv
  | .neg a => a.sv
  | .not_ a => a.sv
  | .and_ a b => a.sv ++ b.sv
  | .or_ a b => a.sv ++ b.sv
  | .ite c a b => c.sv ++ (a.sv ++ b.sv)
  | .cmp _ a b => a.sv ++ b.sv
  | .chain _ _ a b c => a.sv ++ (b.sv ++ c.sv)
  | .tup es => E.svs es
  | .lst es => E.svs es
  | .idx a b => a.sv ++ b.sv
  | .sli a _ _ => a.sv
  | .rev a => a.sv
  | .lc _ e _ it _ => e.sv ++ it.sv
  | .lc2 _ _ e _ it _ _ it1 _ => e.sv ++ (it.sv ++ it1.sv)
  | .dc _ k v _ it _ => k.sv ++ (v.sv ++ it.sv)
  | .call _ es => E.svs es
  | .bi _ es => E.svs es
  | .isi a _ => a.sv
  | .nomut _ => []
  | .inT _ _ a => a.sv
  | .atT _ a => a.sv
  | .lset a => a.sv
  | .dd _ es => E.svs es
  | .sortk _ a => a.sv
def E.svs : List E → List Nat
  | [] => []
  | e :: es => e.sv ++ E.svs es
def It.sv : It → List Nat
  | .seq e => e.sv
  | .rng1 a => a.sv
  | .rng2 a b => a.sv ++ b.sv
  | .rng3 a b c => a.sv ++ (b.sv ++ c.sv)
  | .rev e => e.sv
end
/-- its lists and dicts are new -/
def biFr : Bi → Bool
  | .max => false | .min => false | .maxd => false | .mind => false | _ => true
def frE : E → Bool
  | .lit _ => false | .var _ => false | .wv _ => false | .gl _ => false
  | .and_ _ _ => false | .or_ _ _ => false | .ite _ _ _ => false | .idx _ _ => false
  | .call _ _ => false | .nomut _ => false
  | .bi b _ => biFr b
  | .atT _ _ => false
  | _ => true
def starV : Expr → Bool
  | .Starred _ _ => true
  | _ => false
def nmS (kind : Str → Option NameKind) (line : Nat) : Expr → Option Str
  | .Name id pos => if kind id == some .local && pos.line == line then some id else none
  | _ => none
/-- the pair that is stored without a tuple: none: nothing is said -/
def swT (kind : Str → Option NameKind) (ts vs : List Expr) : Option (Option (List Str)) :=
    if !(ts.length == 2 || ts.length == 3) || vs.length != ts.length then some none else
    if vs.any starV then some none else
    if (ts.filterMap (nmS kind ((ts.head?.map (·.pos.line)).getD 0))).length != ts.length || (ts.filterMap (nmS kind ((ts.head?.map (·.pos.line)).getD 0))).eraseDups.length != (ts.filterMap (nmS kind ((ts.head?.map (·.pos.line)).getD 0))).length then some none else
    if vs.all (foldedForSure 8) then some none else
    if vs.all (constantsAlone 8) then none else some (some (ts.filterMap (nmS kind ((ts.head?.map (·.pos.line)).getD 0))))
def swS (sc : Scope) (ts : List Expr) (value : Expr) : Option (Option (List Str)) := match value with
  | .Tuple vs _ _ => swT (fun x => sc.names.lookup x) ts vs
  | _ => some none
def isFun (sc : Scope) : Bool := match sc.kind with
  | .function => true
  | _ => false
/-- no comprehension: its place is not reused -/
def noComp : Expr → Bool
  | .ListComp _ _ _ _ => false
  | .SetComp _ _ _ _ => false
  | .DictComp _ _ _ _ _ => false
  | _ => true
/-- name = [..]: the name is stored in the comprehension's own block -/
def inComp (sc : Scope) (e : Expr) (y : Str) (py : Pos) : Bool := match e with
  | .ListComp _ _ s p => sc.names.lookup y == some .local && (py.line == p.line) && !(s.names.any fun (n, k) => n == y && (k == .local || k == .cell))
  | _ => false
mutual
def compS (c : Cfg) (sc : Scope) : Nat → Stmt → Option S
  | 0, _ => none
  | n + 1, st => match st with
    | .Pass _ => some .pass
    | .Break _ => some .brk
    | .Continue _ => some .cont
    | .Return none _ => some .retn
    | .Return (some e) _ => do some (.ret (← compE c n sc e))
    | .If t a b _ => do some (.iff (wk (← compE c n sc t)) (← compSs c sc n a) (← compSs c sc n b))
    | .For tg it body [] _ => do
        let i ← compI c n sc false it
        let t ← compT c sc n tg
        some (.for_ t i (← compSs c sc n body) i.sv)
    | .While t body [] _ => do some (.whil (wk (← compE c n sc t)) (← compSs c sc n body))
    | .Assign [.Subscript (.Name x _) ix _] e _ => if noComp e && decide (x ≠ "__debug__") && decide (x ≠ "__classdict__") then do
        let i ← slotOf c sc x
        let k ← compE c n sc ix
        let v ← compE c n sc e
        some (.seti i (wk k) v (v.sv)) else none
    | .Assign [.Name y py] e _ => if inComp sc e y py then (match e with
        | .ListComp elt [⟨tg, iter, ifs, 0⟩] scope pos => do
          let x ← compE c n sc (.ListComp elt [⟨tg, iter, ifs, 0⟩] scope pos)
          let i ← slotIx c.N y
          some (.asg (.nm i) x (c.fr y) x.sv)
        | .ListComp elt [⟨tg, iter, ifs, 0⟩, ⟨tg1, iter1, ifs1, 0⟩] scope pos => do
          let x ← compE c n sc (.ListComp elt [⟨tg, iter, ifs, 0⟩, ⟨tg1, iter1, ifs1, 0⟩] scope pos)
          let i ← slotIx c.N y
          some (.asg (.nm i) x (c.fr y) x.sv)
        | _ => none) else match e with
        | .DictComp _ _ _ _ _ => none
        | .SetComp _ _ _ _ => none
        | _ => do
          let x ← compE c n sc e
          let t ← compT c sc n (.Name y py)
          some (.asg t x (frE x && c.fr y) x.sv)
    | .Assign [.Tuple ts kk tp] e _ => if noComp e then (match swS sc ts e with
        | some none => do
          let x ← compE c n sc e
          let t ← compT c sc n (.Tuple ts kk tp)
          some (.asg t x false x.sv)
        | some (some [x, y]) => (match ts, e with
          | [.Name x' _, .Name y' _], .Tuple [a, b] _ _ => if decide (x' = x) && decide (y' = y) && decide (x ≠ y) && lone a && lone b then do
              let i ← slotIx c.N x
              let j ← slotIx c.N y
              let a' ← compE c n sc a
              let b' ← compE c n sc b
              if decide (sc.names.lookup x = some .local) && decide (sc.names.lookup y = some .local) then some (.par i j a' b' (a'.sv ++ b'.sv)) else none else none
          | _, _ => none)
        | _ => none) else none
    | .AugAssign (.Name x _) .Add e _ => if decide (sc.names.lookup x = some .local) || decide (sc.names.lookup x = some .cell) then do some (.aug (← slotIx c.N x) .add (wk (← compE c n sc e)) []) else none
    | .AugAssign (.Name x _) .Sub e _ => if decide (sc.names.lookup x = some .local) || decide (sc.names.lookup x = some .cell) then do some (.aug (← slotIx c.N x) .sub (wk (← compE c n sc e)) []) else none
    | .Expr (.Call (.Attribute (.Name x _) "append" ap) [e] [] cp) _ => if decide (x ≠ "__debug__") && decide (x ≠ "__classdict__") && lone e && (ap.endLine == cp.line) then do
        let i ← slotOf c sc x
        let v ← compE c n sc e
        some (.app i v v.sv) else none
    | .Expr (.Constant (.str _) _ _) _ => some .pass
    | .Expr (.Call (.Name f p) es [] cp) _ => do
        let x ← compE c n sc (.Call (.Name f p) es [] cp)
        some (.drop x x.sv)
    | .Raise _ _ _ => some .stuck
    | _ => none
def compSs (c : Cfg) (sc : Scope) : Nat → List Stmt → Option (List S)
  | 0, _ => none
  | n + 1, [] => some []
  | n + 1, s :: ss => do some ((← compS c sc n s) :: (← compSs c sc n ss))
end
end Ws

set_option Elab.async false
set_option linter.all false
set_option maxRecDepth 100000
set_option maxHeartbeats 4000000
/-! Sim4: operations on data are what the machine does -/
namespace Ws
open PySem PySem.Spec PyProof.Rows L2

/-- what is owned is tracked -/
def OT (O : Ow) (H : Hp) : Prop := ∀ a i, O a = some i → ∃ o, H a = some o
theorem OT.none {O : Ow} {H : Hp} (t : OT O H) {a : Addr} (h : H a = none) : O a = none := by
  cases e : O a with
  | none => rfl
  | some i =>
    obtain ⟨o, q⟩ := t a i e
    rw [h] at q; cases q
theorem OT.same {O : Ow} {H H' : Hp} (t : OT O H) (s : Same H H') : OT O H' := fun a i e => let ⟨o, q⟩ := t a i e; ⟨o, s a o q⟩

/-- a new list or dict, that nobody knows yet; other data as ever -/
def Fr (K : PySem.W.Frag) (O : Ow) (H H' : Hp) (v : V) (d : D) : Prop := match d with
  | .list ds => ∃ p xs, v = .ref p ∧ H p = none ∧ H' p = some (.lst xs) ∧ xs.length ≤ sizeLine ∧ ∀ O' : Ow, (∀ a, a ≠ p → O' a = O a) → Rps K O' H' xs ds
  | .dict ds => ∃ p kvs, v = .ref p ∧ H p = none ∧ H' p = some (.dK kvs) ∧ ∀ O' : Ow, (∀ a, a ≠ p → O' a = O a) → RpK K O' H' kvs ds
  | d => Rp K O H' v d
section
variable {K : PySem.W.Frag} {O : Ow} {H H' : Hp}
theorem Fr.rp {v : V} {d : D} (t : OT O H) (h : Fr K O H H' v d) : Rp K O H' v d := by
  cases d with
  | list ds => obtain ⟨p, xs, e, n, q, z, r⟩ := h; subst e; exact .lst (.inl ⟨.inl q, t.none n⟩) z (r O fun _ _ => rfl)
  | dict ds => obtain ⟨p, kvs, e, n, q, r⟩ := h; subst e; exact .dk q (t.none n) (r O fun _ _ => rfl)
  | none => exact h
  | bool b => exact h
  | int i => exact h
  | str x => exact h
  | tuple ds => exact h

/-- what lies in H stays data in a heap with one new object more, whoever owns that one -/
theorem Fz.new {p : Addr} {o : HO} (n : H p = none) {O' : Ow} (h : ∀ a, a ≠ p → O' a = O a) : Fz O H O' (upd H p o) :=
  ⟨fun a u e q => by
    have ne : a ≠ p := fun z => by rw [z, n] at e; cases e
    exact ⟨by rw [upd_ne ne]; exact e, by rw [h a ne]; exact q⟩,
   fun a xs e => by rw [upd_ne (ne_of_none e n)]; exact e, fun a u xs e => by rw [upd_ne (ne_of_none e n)]; exact e⟩
theorem same_new {p : Addr} {o : HO} (n : H p = none) : Same H (upd H p o) := fun a u e => by rw [upd_ne (ne_of_none e n)]; exact e
theorem Fr.newL {p : Addr} {xs : List V} {ds : List D} (n : H p = none) (r : Rps K O H xs ds) (z : xs.length ≤ sizeLine) : Fr K O H (upd H p (.lst xs)) (.ref p) (.list ds) :=
  ⟨p, xs, rfl, n, upd_same, z, fun O' h => r.mv (Fz.new n h)⟩
theorem Rp.newT {p : Addr} {xs : List V} {ds : List D} (n : H p = none) (r : Rps K O H xs ds) (z : xs.length ≤ sizeLine) : Rp K O (upd H p (.tup xs)) (.ref p) (.tuple ds) :=
  .tup (.inl (.inl upd_same)) z (r.mv (Fz.new n fun _ _ => rfl))
/-- Same backwards at the start: what is new stays new -/
theorem Fr.same0 {H0 : Hp} {v : V} {d : D} (s : Same H0 H) (h : Fr K O H H' v d) : Fr K O H0 H' v d := by
  cases d with
  | list ds => obtain ⟨p, xs, e, n, q, z, r⟩ := h; exact ⟨p, xs, e, s.free n, q, z, r⟩
  | dict ds => obtain ⟨p, kvs, e, n, q, r⟩ := h; exact ⟨p, kvs, e, s.free n, q, r⟩
  | none => exact h
  | bool b => exact h
  | int i => exact h
  | str x => exact h
  | tuple ds => exact h
end

/-- an operation's end: no error comes -/
def PoF (K : PySem.W.Frag) (O : Ow) (H : Hp) (r : Rs D) (Q : VK) : Prop := match r with
  | .ok d => ∀ v H', Same H H' → Fr K O H H' v d → Q v H'
  | _ => False

section
variable {X : Cx}
abbrev rIn2 (K : PySem.W.Frag) (f : D → D → Rs D) : R2 := fun x y H Q => ∃ O d e, OT O H ∧ RpW K O H x d ∧ RpW K O H y e ∧ PoF K O H (f d e) Q
theorem PoF.int {K : PySem.W.Frag} {O : Ow} {H : Hp} {i : Int} {Q : VK} (h : PoF K O H (.ok (.int i)) Q) : Q (.int i) H := h _ H (Same.refl H) (Rp.int i)
theorem PoF.bool {K : PySem.W.Frag} {O : Ow} {H : Hp} {b : Bool} {Q : VK} (h : PoF K O H (.ok (.bool b)) Q) : Q (.bl b) H := h _ H (Same.refl H) (Rp.bl b)

/-! ### list + list, whether frozen or not -/
theorem op_catR : OpR X (binaryOp .Add) (fun x y H Q => ∃ l b xs zs, x = .ref l ∧ y = .ref b ∧ SqL X.K H l xs ∧ SqL X.K H b zs ∧ xs.length + zs.length ≤ sizeLine ∧ ∀ p, H p = none → Q (.ref p) (upd H p (.lst (xs ++ zs)))) := by
  intro pins s σ H x y v u Q I rx ry h
  obtain ⟨l, b, xs, zs, rfl, rfl, hH, hB, hz, q⟩ := h
  cases rx
  cases ry
  obtain ⟨its, r, e, hzz⟩ := I.list hH
  obtain ⟨its2, r2, e2, hzz2⟩ := I.list hB
  have hl := r.length
  have hl2 := r2.length
  have ea : its.toArray ++ its2.toArray = (its ++ its2).toArray := by simp
  obtain ⟨⟨cls, dd, data, sl⟩, ho, hc, n, hd⟩ := e.isList
  obtain ⟨⟨cls2, dd2, data2, sl2⟩, ho2, hc2, n2, hd2⟩ := e2.isList
  simp only at hc hd hc2 hd2
  subst hc hd hc2 hd2
  refine concat_meets ⟨_, ho, rfl⟩ ⟨_, ho2, rfl⟩ noFill_list_add seq_list_add PySem.F.slot_list_add PySem.F.entry_list_add (PySem.F.args_list_add_2 _ _) (list_addW l b its.toArray its2.toArray n n2 dd dd2 sl sl2 (by simp only [List.size_toArray]; omega)) ⟨ho, ho2, ?_⟩
  rw [ea]
  exact ⟨.ref _, _, I.lnew (t' := s.toks) (r.append r2) (by rw [List.length_append]; omega), rfl, q _ I.fresh⟩

def opOf : Op2 → Operator
  | .add => .Add | .sub => .Sub | .mul => .Mult | .fdiv => .FloorDiv | .mod => .Mod | .pow => .Pow
theorem op2Of_eq {o : Operator} {o' : Op2} (h : op2Of o = some o') : o = opOf o' := by
  cases o <;> simp [op2Of] at h <;> subst h <;> rfl
theorem lim_line : LIM = sizeLine := by rw [sizeLine_eq]
theorem strOk_app {x y : Str} (hx : PyData.strOk x = true) (hy : PyData.strOk y = true) : PyData.strOk (x ++ y) = true := by
  unfold PyData.strOk at *
  have e : (x ++ y).cps = x.cps ++ y.cps := rfl
  rw [e, Array.all_append, hx, hy]; rfl
theorem str_len_app (x y : Str) : (x ++ y).length = x.length + y.length := by
  show (x.cps ++ y.cps).size = _
  rw [Array.size_append]; rfl

theorem bin_ok (o : Op2) : OpR X (binaryOp (opOf o)) (rIn2 X.K (binD o)) := by
  intro pins s σ H x y v u Q I rx ry h
  obtain ⟨O, d, e, ot, hd, he, q⟩ := h
  cases o with
  | add =>
    cases d <;> cases e <;> try exact (show False from q).elim
    · -- ints
      cases (show Rp X.K O H x _ from hd); cases (show Rp X.K O H y _ from he)
      exact op_add pins s σ H _ _ v u Q I rx ry ⟨_, _, rfl, rfl, q.int⟩
    · -- texts
      rename_i z z'
      cases (show Rp X.K O H x _ from hd) with | str _ h1 h2 =>
      cases (show Rp X.K O H y _ from he) with | str _ h3 h4 =>
      simp only [binD] at q
      split at q
      · rename_i hl
        refine op_add_str pins s σ H _ _ v u Q I rx ry ⟨_, _, rfl, rfl, by rw [← lim_line]; exact hl, q _ H (Same.refl H) (Rp.str _ (strOk_app h1 h3) ?_)⟩
        rw [str_len_app, ← lim_line]; exact hl
      · exact (show False from q).elim
    · -- lists
      obtain ⟨a, xs, rfl, ha, za, ra⟩ := hd
      obtain ⟨b, ys, rfl, hb, zb, rb⟩ := he
      simp only [binD] at q
      split at q
      · rename_i hl
        rw [← ra.length, ← rb.length, lim_line] at hl
        exact op_catR pins s σ H _ _ v u Q I rx ry ⟨a, b, xs, ys, rfl, rfl, ha, hb, hl, fun p hp => q _ _ (same_new hp) (Fr.newL hp (ra.app rb) (by rw [List.length_append]; exact hl))⟩
      · exact (show False from q).elim
    · -- tuples
      cases (show Rp X.K O H x _ from hd) with | tup ha za ra =>
      cases (show Rp X.K O H y _ from he) with | tup hb zb rb =>
      simp only [binD] at q
      split at q
      · rename_i hl
        rw [← ra.length, ← rb.length, lim_line] at hl
        refine op_catA pins s σ H _ _ v u Q I rx ry ⟨_, _, _, _, rfl, rfl, ha, hb, hl, fun e => ?_, fun _ e => ?_, fun _ _ p hp => ?_⟩
        · subst e; cases ra
          exact q _ H (Same.refl H) (Rp.tup hb zb rb)
        · subst e; cases rb
          exact q _ H (Same.refl H) (by rw [List.append_nil]; exact Rp.tup ha za ra)
        · exact q _ _ (same_new hp) (Rp.newT hp (ra.app rb) (by rw [List.length_append]; exact hl))
      · exact (show False from q).elim
  | sub =>
    cases d <;> cases e <;> try exact (show False from q).elim
    cases (show Rp X.K O H x _ from hd); cases (show Rp X.K O H y _ from he)
    exact op_sub pins s σ H _ _ v u Q I rx ry ⟨_, _, rfl, rfl, q.int⟩
  | mul =>
    cases d <;> cases e <;> try exact (show False from q).elim
    cases (show Rp X.K O H x _ from hd); cases (show Rp X.K O H y _ from he)
    simp only [binD] at q
    split at q
    · rename_i hm
      unfold mulOk at hm
      simp only [Bool.or_eq_true, Bool.and_eq_true, decide_eq_true_eq] at hm
      exact op_mul pins s σ H _ _ v u Q I rx ry ⟨_, _, rfl, rfl, hm, q.int⟩
    · exact (show False from q).elim
  | fdiv =>
    cases d <;> cases e <;> try exact (show False from q).elim
    cases (show Rp X.K O H x _ from hd); cases (show Rp X.K O H y _ from he)
    simp only [binD] at q
    split at q
    · rename_i hm
      exact op_fdiv pins s σ H _ _ v u Q I rx ry ⟨_, _, rfl, rfl, hm, q.int⟩
    · exact (show False from q).elim
  | mod =>
    cases d <;> cases e <;> try exact (show False from q).elim
    cases (show Rp X.K O H x _ from hd); cases (show Rp X.K O H y _ from he)
    simp only [binD] at q
    split at q
    · rename_i hm
      exact op_mod pins s σ H _ _ v u Q I rx ry ⟨_, _, rfl, rfl, hm, q.int⟩
    · exact (show False from q).elim
  | pow =>
    cases d <;> cases e <;> try exact (show False from q).elim
    cases (show Rp X.K O H x _ from hd); cases (show Rp X.K O H y _ from he)
    simp only [binD] at q
    split at q
    · rename_i hm
      exact op_pow pins s σ H _ _ v u Q I rx ry ⟨_, _, rfl, rfl, hm, q.int⟩
    · exact (show False from q).elim

theorem neg_ok : UnR X (unaryOp .USub) (fun x H Q => ∃ O d, OT O H ∧ RpW X.K O H x d ∧ PoF X.K O H (negD d) Q) := by
  intro pins s σ H x v Q I rx h
  obtain ⟨O, d, ot, hd, q⟩ := h
  cases d <;> try exact (show False from q).elim
  cases (show Rp X.K O H x _ from hd)
  exact un_neg pins s σ H _ v Q I rx ⟨_, rfl, q.int⟩
end
end Ws

set_option Elab.async false
set_option linter.all false
set_option maxRecDepth 100000
set_option maxHeartbeats 4000000
/-! Sim5: comparisons, subscripts -/
namespace Ws
open PySem PySem.Spec PyProof.Rows L2
section
variable {X : Cx}

theorem PoF.bl {K : PySem.W.Frag} {O : Ow} {H : Hp} {b : Bool} {r : Rs D} {Q : VK} (h : PoF K O H r Q) (e : r = .ok (.bool b)) : Q (.bl b) H := by
  subst e; exact h.bool
theorem notD_ok {K : PySem.W.Frag} {O : Ow} {H : Hp} {r : Rs D} {Q : VK} (h : PoF K O H (notD r) Q) : ∃ b, r = .ok (.bool b) ∧ Q (.bl (!b)) H := by
  cases r with
  | ok d =>
    cases d <;> try exact (show False from h).elim
    rename_i b
    exact ⟨b, rfl, PoF.bool (b := !b) h⟩
  | ex d => exact (show False from h).elim
  | st => exact (show False from h).elim
theorem eqD_of {d e : D} {b : Bool} (h : eqD d e = .ok (.bool b)) : lim 40 d = true ∧ lim 40 e = true ∧ b = PyData.eqv d e := by
  unfold eqD at h
  split at h
  · rename_i c
    simp only [Bool.and_eq_true] at c
    injection h with h; injection h with h
    exact ⟨c.1, c.2, h.symm⟩
  · cases h
theorem PoF.st {K : PySem.W.Frag} {O : Ow} {H : Hp} {Q : VK} (h : PoF K O H .st Q) : False := h
theorem eqD_ok {K : PySem.W.Frag} {O : Ow} {H : Hp} {d e : D} {Q : VK} (h : PoF K O H (eqD d e) Q) : lim 40 d = true ∧ lim 40 e = true ∧ Q (.bl (PyData.eqv d e)) H := by
  unfold eqD at h
  split at h
  · rename_i c
    simp only [Bool.and_eq_true] at c
    exact ⟨c.1, c.2, h.bool⟩
  · exact h.st.elim
theorem ltB_of {d e : D} {b : Bool} (h : ltB d e = .ok (.bool b)) : cmpOk d e = true ∧ b = PySem.W.dataLt d e := by
  unfold ltB at h
  split at h
  · rename_i c
    injection h with h; injection h with h
    exact ⟨c, h.symm⟩
  · cases h
theorem ltB_ok {K : PySem.W.Frag} {O : Ow} {H : Hp} {d e : D} {Q : VK} (h : PoF K O H (ltB d e) Q) : cmpOk d e = true ∧ Q (.bl (PySem.W.dataLt d e)) H := by
  unfold ltB at h
  split at h
  · rename_i c
    exact ⟨c, h.bool⟩
  · exact h.st.elim
theorem isNone_iff {d : D} (h : isNone d = false) : d ≠ .none := by rintro rfl; cases h

/-- two data that may be told apart, as the machine reads them -/
theorem reads2 {pins : List (Addr × Obj)} {s : Shared} {σ : L2.St} {H : Hp} {x : V} {v : Value} {O : Ow} {d : D} (I : Inv X pins σ H s) (rx : RelV x v) (h : RpW X.K O H x d) (l : lim 40 d = true) :
    ∃ as, Reads s.heap v d as := Dp.reads I d x v (h.dp (h.lay l)) rx

theorem eq_ok (hu : X.A.units + 64 < cLine) : OpR X (compareOp .Eq) (rIn2 X.K eqD) := by
  intro pins s σ H x y v u Q I rx ry h
  obtain ⟨O, d, e, ot, hd, he, q⟩ := h
  obtain ⟨l1, l2, q⟩ := eqD_ok q
  exact op_eqD hu pins s σ H x y v u Q I rx ry ⟨d, e, hd.dp (hd.lay l1), he.dp (he.lay l2), hd.shaped l1 (by decide), he.shaped l2 (by decide), q⟩
theorem ne_ok (hu : X.A.units + 64 < cLine) : OpR X (compareOp .NotEq) (rIn2 X.K fun d e => notD (eqD d e)) := by
  intro pins s σ H x y v u Q I rx ry h
  obtain ⟨O, d, e, ot, hd, he, q⟩ := h
  obtain ⟨b, eb, q⟩ := notD_ok q
  obtain ⟨l1, l2, rfl⟩ := eqD_of eb
  exact op_neD hu pins s σ H x y v u Q I rx ry ⟨d, e, hd.dp (hd.lay l1), he.dp (he.lay l2), hd.shaped l1 (by decide), he.shaped l2 (by decide), q⟩
theorem cmpOk_of {d e : D} (h : cmpOk d e = true) : PySem.W.alike d e = true ∧ d ≠ .none ∧ lim 40 d = true ∧ lim 40 e = true := by
  unfold cmpOk at h
  simp only [Bool.and_eq_true, Bool.not_eq_true'] at h
  exact ⟨h.1.1.1, isNone_iff h.1.1.2, h.1.2, h.2⟩
theorem room_of {d e : D} {A : Around} (hu : A.units + 64 < cLine) (l : lim 40 d = true) : A.units + min d.depth e.depth < cLine := by
  have h1 := lim_depth 40 d l
  have h2 : min d.depth e.depth ≤ d.depth := Nat.min_le_left _ _
  omega
theorem fin2 {pins : List (Addr × Obj)} {s : Shared} {σ : L2.St} {H : Hp} {Q : VK} {b : Bool} (I : Inv X pins σ H s) (q : Q (.bl b) H) : EP X pins σ Q (.bool b) s := ⟨.bl b, H, I, rfl, q⟩
theorem lt_ok (hu : X.A.units + 64 < cLine) : OpR X (compareOp .Lt) (rIn2 X.K ltB) := by
  intro pins s σ H x y v u Q I rx ry h
  obtain ⟨O, d, e, ot, hd, he, q⟩ := h
  obtain ⟨c, q⟩ := ltB_ok q
  obtain ⟨al, nn, l1, l2⟩ := cmpOk_of c
  obtain ⟨as, r1⟩ := reads2 I rx hd l1
  obtain ⟨bs, r2⟩ := reads2 I ry he l2
  exact PySem.W.lt_data r1 r2 al nn (room_of hu l1) (fin2 I q)
theorem gt_ok (hu : X.A.units + 64 < cLine) : OpR X (compareOp .Gt) (rIn2 X.K fun d e => ltB e d) := by
  intro pins s σ H x y v u Q I rx ry h
  obtain ⟨O, d, e, ot, hd, he, q⟩ := h
  obtain ⟨c, q⟩ := ltB_ok q
  obtain ⟨al, nn, l2, l1⟩ := cmpOk_of c
  obtain ⟨as, r1⟩ := reads2 I rx hd l1
  obtain ⟨bs, r2⟩ := reads2 I ry he l2
  have al' : PySem.W.alike d e = true := by rw [PySem.W.alike_comm]; exact al
  exact PySem.W.gt_data r1 r2 al' (PySem.W.ne_none_both al nn) (room_of hu l1) (fin2 I q)
theorem le_ok (hu : X.A.units + 64 < cLine) : OpR X (compareOp .LtE) (rIn2 X.K fun d e => notD (ltB e d)) := by
  intro pins s σ H x y v u Q I rx ry h
  obtain ⟨O, d, e, ot, hd, he, q⟩ := h
  obtain ⟨b, eb, q⟩ := notD_ok q
  obtain ⟨c, rfl⟩ := ltB_of eb
  obtain ⟨al, nn, l2, l1⟩ := cmpOk_of c
  obtain ⟨as, r1⟩ := reads2 I rx hd l1
  obtain ⟨bs, r2⟩ := reads2 I ry he l2
  have al' : PySem.W.alike d e = true := by rw [PySem.W.alike_comm]; exact al
  exact PySem.W.le_data r1 r2 al' (PySem.W.ne_none_both al nn) (room_of hu l1) (fin2 I q)
theorem ge_ok (hu : X.A.units + 64 < cLine) : OpR X (compareOp .GtE) (rIn2 X.K fun d e => notD (ltB d e)) := by
  intro pins s σ H x y v u Q I rx ry h
  obtain ⟨O, d, e, ot, hd, he, q⟩ := h
  obtain ⟨b, eb, q⟩ := notD_ok q
  obtain ⟨c, rfl⟩ := ltB_of eb
  obtain ⟨al, nn, l1, l2⟩ := cmpOk_of c
  obtain ⟨as, r1⟩ := reads2 I rx hd l1
  obtain ⟨bs, r2⟩ := reads2 I ry he l2
  exact PySem.W.ge_data r1 r2 al nn (room_of hu l1) (fin2 I q)

/-! ### is, is not -/
theorem is_bool_gen {M : Model} {A : Around} {E : Value → Shared → Prop} {s : Shared} {Q : Value → Shared → Prop} {v : Value} {b : Bool} (h : Q (.bool (v == .bool b)) s) (hv : absV v ≠ none) : wpAny M A (compareOp .Is v (.bool b)) Q E s := by
  cases v <;> first | exact wpAny_pure h | exact absurd rfl hv
theorem isnot_bool_gen {M : Model} {A : Around} {E : Value → Shared → Prop} {s : Shared} {Q : Value → Shared → Prop} {v : Value} {b : Bool} (h : Q (.bool (!(v == .bool b))) s) (hv : absV v ≠ none) : wpAny M A (compareOp .IsNot v (.bool b)) Q E s := by
  cases v <;> first | exact wpAny_pure h | exact absurd rfl hv
theorem rel_abs {x : V} {v : Value} (r : RelV x v) : absV v ≠ none := by rw [r.abs]; simp
theorem rel_bool {K : PySem.W.Frag} {O : Ow} {H : Hp} {x : V} {v : Value} {d : D} {b : Bool} (r : RelV x v) (h : RpW K O H x d) : isD d (.bool b) = .ok (.bool (v == .bool b)) := by
  cases d with
  | list ds => obtain ⟨a, xs, e, _⟩ := h; subst e; cases r; rfl
  | dict ds => obtain ⟨a, xs, e, _⟩ := h; subst e; cases r; rfl
  | none => cases (show Rp K O H x _ from h); cases r; rfl
  | bool c =>
    cases (show Rp K O H x _ from h); cases r
    show (Rs.ok (PyData.bool (c == b)) : Rs D) = _
    congr 2
    rw [Bool.eq_iff_iff]; simp
  | int i => cases (show Rp K O H x _ from h); obtain ⟨t, rfl⟩ := r; rfl
  | str z => cases (show Rp K O H x _ from h); obtain ⟨t, rfl⟩ := r; rfl
  | tuple ds => cases (show Rp K O H x _ from h); cases r; rfl
theorem rel_none {K : PySem.W.Frag} {O : Ow} {H : Hp} {x : V} {d : D} (h : RpW K O H x d) : isNone d = decide (x = .non) := by
  cases d with
  | list ds => obtain ⟨a, xs, e, _⟩ := h; subst e; rfl
  | dict ds => obtain ⟨a, xs, e, _⟩ := h; subst e; rfl
  | none => cases (show Rp K O H x _ from h); rfl
  | bool c => cases (show Rp K O H x _ from h); rfl
  | int i => cases (show Rp K O H x _ from h); rfl
  | str z => cases (show Rp K O H x _ from h); rfl
  | tuple ds => cases (show Rp K O H x _ from h); rfl
theorem is_ok : OpR X (compareOp .Is) (rIn2 X.K isD) := by
  intro pins s σ H x y v u Q I rx ry h
  obtain ⟨O, d, e, ot, hd, he, q⟩ := h
  cases e <;> try exact (show False from q).elim
  · cases (show Rp X.K O H y _ from he)
    have q' : Q (.bl (isNone d)) H := PoF.bool q
    rw [rel_none hd] at q'
    exact op_isN pins s σ H x _ v u Q I rx ry ⟨rfl, q'⟩
  · cases (show Rp X.K O H y _ from he)
    cases ry
    rw [rel_bool rx hd] at q
    exact is_bool_gen (fin2 I q.bool) (rel_abs rx)
theorem isn_ok : OpR X (compareOp .IsNot) (rIn2 X.K fun d e => notD (isD d e)) := by
  intro pins s σ H x y v u Q I rx ry h
  obtain ⟨O, d, e, ot, hd, he, q⟩ := h
  obtain ⟨b, eb, q⟩ := notD_ok q
  cases e <;> try (cases eb; done)
  · cases (show Rp X.K O H y _ from he)
    have e1 : isNone d = b := by
      have : Rs.ok (PyData.bool (isNone d)) = Rs.ok (PyData.bool b) := eb
      injection this with h1; injection h1
    rw [rel_none hd] at e1
    subst e1
    exact op_notN pins s σ H x _ v u Q I rx ry ⟨rfl, q⟩
  · cases (show Rp X.K O H y _ from he)
    cases ry
    rw [rel_bool rx hd] at eb
    injection eb with h1; injection h1 with h2
    subst h2
    exact isnot_bool_gen (fin2 I q) (rel_abs rx)
end
end Ws

set_option Elab.async false
set_option linter.all false
set_option maxRecDepth 100000
set_option maxHeartbeats 4000000
/-! Sim6: in, subscripts, slices -/
namespace Ws
open PySem PySem.Spec PyProof.Rows L2

theorem eqv_key (k k' : Key) : PyData.eqv (keyD k) (keyD k') = decide (k = k') := by
  cases k <;> cases k'
  · rw [key_ll]; rfl
  · rw [key_lr]; rfl
  · rw [key_rl]; rfl
  · rename_i a b
    rw [key_rr]
    show (a == b) = _
    rw [Bool.beq_eq_decide_eq]
theorem keyOf_D (k : Key) : keyOf (keyD k) = some k := by cases k <;> rfl
theorem keyOf_inv {d : D} {k : Key} (h : keyOf d = some k) : d = keyD k := by
  cases d <;> simp [keyOf] at h <;> subst h <;> rfl
section
variable {K : PySem.W.Frag} {O : Ow} {H : Hp}
theorem RpK.val : ∀ {kvs : List (Key × V)} {ds : List (D × D)}, RpK K O H kvs ds → ∀ k : Key,
    (∃ v d, valV kvs k = some v ∧ getK ds (keyD k) = some d ∧ Rp K O H v d) ∨ (valV kvs k = none ∧ getK ds (keyD k) = none)
  | _, _, .nil, k => .inr ⟨rfl, rfl⟩
  | _, _, .cons (k := k0) (v := v) (vs := vs) (d := d) (ds := ds) h r, k => by
    by_cases e : k0 = k
    · refine .inl ⟨v, d, valV_pos (p := (k0, v)) e, ?_, h⟩
      unfold getK
      rw [List.find?_cons]
      have : PyData.eqv (keyD k0) (keyD k) = true := by rw [eqv_key]; exact decide_eq_true e
      simp only [this]; rfl
    · have h2 : valV ((k0, v) :: vs) k = valV vs k := valV_neg (p := (k0, v)) e
      have h3 : getK ((keyD k0, d) :: ds) (keyD k) = getK ds (keyD k) := by
        unfold getK
        rw [List.find?_cons]
        have : PyData.eqv (keyD k0) (keyD k) = false := by rw [eqv_key]; exact decide_eq_false e
        simp only [this]
      rw [h2, h3]
      exact RpK.val r k
theorem RpK.length : ∀ {kvs : List (Key × V)} {ds : List (D × D)}, RpK K O H kvs ds → kvs.length = ds.length
  | _, _, .nil => rfl
  | _, _, .cons _ r => by simp [RpK.length r]
theorem RpK.map {k : Key} {v : V} {d : D} (q : Rp K O H v d) : ∀ {kvs : List (Key × V)} {ds : List (D × D)}, RpK K O H kvs ds →
    RpK K O H (kvs.map fun kv => if kv.1 = k then (kv.1, v) else kv) (ds.map fun p => if PyData.eqv p.1 (keyD k) then (p.1, d) else p)
  | _, _, .nil => .nil
  | _, _, .cons (k := k0) h r => by
    simp only [List.map_cons]
    rw [eqv_key]
    by_cases e : k0 = k
    · rw [if_pos e, if_pos (decide_eq_true e)]; exact .cons q (RpK.map q r)
    · rw [if_neg e, if_neg (by simpa using e)]; exact .cons h (RpK.map q r)
theorem RpK.snoc {k : Key} {v : V} {d : D} (q : Rp K O H v d) : ∀ {kvs : List (Key × V)} {ds : List (D × D)}, RpK K O H kvs ds → RpK K O H (kvs ++ [(k, v)]) (ds ++ [(keyD k, d)])
  | _, _, .nil => .cons q .nil
  | _, _, .cons h r => .cons h (RpK.snoc q r)
theorem RpK.put {k : Key} {v : V} {d : D} (q : Rp K O H v d) {kvs : List (Key × V)} {ds : List (D × D)} (r : RpK K O H kvs ds) : RpK K O H (putK kvs k v) (putD ds (keyD k) d) := by
  unfold putK putD
  rw [valV_any]
  rcases r.val k with ⟨v', d', h1, h2, _⟩ | ⟨h1, h2⟩
  · rw [h1, h2]; exact r.map q
  · rw [h1, h2]; exact r.snoc q
/-- what the dict holds at a key -/
theorem RpW.dget {x y : V} {kvs : List (D × D)} {k : Key} (h : RpW K O H x (.dict kvs)) (hy : RpW K O H y (keyD k)) : ∃ a o, x = .ref a ∧ DGet H a y o ∧ ((∃ v d, o = some v ∧ getK kvs (keyD k) = some d ∧ Rp K O H v d) ∨ (o = none ∧ getK kvs (keyD k) = none)) := by
  obtain ⟨a, vs, rfl, ha, r⟩ := h
  have ey : y = kV k := by
    cases k with
    | inl i => cases (show Rp K O H y (.int i) from hy); rfl
    | inr z => cases (show Rp K O H y (.str z) from hy); rfl
  refine ⟨a, valV vs k, rfl, .inl ⟨vs, k, .inl ha, ey, rfl⟩, ?_⟩
  rcases r.val k with ⟨v, d, h1, h2, h3⟩ | ⟨h1, h2⟩
  · exact .inl ⟨v, d, h1, h2, h3⟩
  · exact .inr ⟨h1, h2⟩
end

section
variable {X : Cx}
theorem inD_of {d e : D} {b : Bool} (h : inD d e = .ok (.bool b)) : ((∃ ds, (e = .list ds ∨ e = .tuple ds) ∧ lim 40 d = true ∧ lim 40 e = true ∧ b = ds.any fun z => PyData.eqv z d) ∨
    (∃ kvs k, e = .dict kvs ∧ d = keyD k ∧ b = (getK kvs d).isSome) ∨ ∃ y x, e = .str y ∧ d = .str x ∧ hasChar x y = some b) := by
  cases e with
  | list ds =>
    simp only [inD] at h
    split at h
    · rename_i c
      simp only [Bool.and_eq_true] at c
      injection h with h; injection h with h
      exact .inl ⟨ds, .inl rfl, c.1, c.2, h.symm⟩
    · cases h
  | tuple ds =>
    simp only [inD] at h
    split at h
    · rename_i c
      simp only [Bool.and_eq_true] at c
      injection h with h; injection h with h
      exact .inl ⟨ds, .inr rfl, c.1, c.2, h.symm⟩
    · cases h
  | dict kvs =>
    simp only [inD] at h
    split at h
    · rename_i k e
      injection h with h; injection h with h
      exact .inr (.inl ⟨kvs, k, rfl, keyOf_inv e, h.symm⟩)
    · cases h
  | str y =>
    cases d <;> simp only [inD] at h <;> try (cases h; done)
    rename_i x
    cases e : hasChar x y with
    | none => rw [e] at h; cases h
    | some c => rw [e] at h; simp at h; subst h; exact .inr (.inr ⟨y, x, rfl, rfl, e⟩)
  | none => cases h
  | bool c => cases h
  | int i => cases h
theorem PoF.boolOf {K : PySem.W.Frag} {O : Ow} {H : Hp} {d e : D} {Q : VK} (h : PoF K O H (inD d e) Q) : ∃ b, inD d e = .ok (.bool b) ∧ Q (.bl b) H := by
  cases e with
  | list ds =>
    simp only [inD] at h ⊢
    split at h
    · rename_i c; rw [if_pos c]; exact ⟨_, rfl, h.bool⟩
    · exact h.st.elim
  | tuple ds =>
    simp only [inD] at h ⊢
    split at h
    · rename_i c; rw [if_pos c]; exact ⟨_, rfl, h.bool⟩
    · exact h.st.elim
  | dict kvs =>
    simp only [inD] at h ⊢
    split at h
    · rename_i k c; exact ⟨_, rfl, h.bool⟩
    · exact h.st.elim
  | str y =>
    cases d <;> simp only [inD] at h ⊢ <;> try exact (show False from h).elim
    rename_i x
    cases e : hasChar x y with
    | none => rw [e] at h; exact (show False from h).elim
    | some c => rw [e] at h; exact ⟨c, rfl, h.bool⟩
  | none => exact (show False from h).elim
  | bool c => exact (show False from h).elim
  | int i => exact (show False from h).elim
theorem hasChar_of {x y : Str} {b : Bool} (h : hasChar x y = some b) : ∃ c, x = ⟨#[c]⟩ ∧ b = decide (c ∈ y.cps.toList) := by
  unfold hasChar at h
  split at h
  · rename_i c e
    refine ⟨c, ?_, (Option.some.inj h).symm⟩
    obtain ⟨⟨l⟩⟩ := x
    simp at e; subst e; rfl
  · cases h
theorem lim_all {d : D} {ds : List D} (h : d = .list ds ∨ d = .tuple ds) (l : lim 40 d = true) : ds.all (lim 39) = true := by
  rcases h with rfl | rfl <;> simpa [lim] using l
theorem in_gen {pins : List (Addr × Obj)} {s : Shared} {σ : L2.St} {H : Hp} {x y : V} {v u : Value} {Q : VK} {O : Ow} {d e : D} {b : Bool} {neg : Bool} (hu : X.A.units + 65 < cLine) (I : Inv X pins σ H s) (rx : RelV x v) (ry : RelV y u)
    (hd : RpW X.K O H x d) (he : RpW X.K O H y e) (hb : inD d e = .ok (.bool b)) (q : Q (.bl (if neg then !b else b)) H) :
    wpAny (model X.prog X.w) X.A (compareOp (if neg then .NotIn else .In) v u) (EP X pins σ Q) X.xe s := by
  rcases inD_of hb with ⟨ds, eq, l1, l2, rfl⟩ | ⟨kvs, k, rfl, rfl, rfl⟩ | ⟨z, z', rfl, rfl, hc⟩
  · have r1 := reads2 I rx hd l1
    have r2 := reads2 I ry he l2
    obtain ⟨as, r1⟩ := r1
    obtain ⟨bs, r2⟩ := r2
    have c1 := hd.lay l1
    have c2 := he.lay l2
    have dep := lim_depth 40 d l1
    have room : ∀ n : Nat, X.A.units + 1 + min n d.depth < cLine := fun n => by
      have := Nat.min_le_right n d.depth
      omega
    rcases eq with rfl | rfl
    · have c2' : PyData.canLayAll0 ds = true := by simpa [PyData.canLay0] using c2
      cases neg
      · exact SeqAt.in_list_reads r2 r1 c2' c1 (by first | exact room _ | (have := room 0; omega) | omega) (fin2 I q)
      · exact SeqAt.notIn_list_reads r2 r1 c2' c1 (by first | exact room _ | (have := room 0; omega) | omega) (fin2 I q)
    · have c2' : PyData.canLayAll0 ds = true := by simpa [PyData.canLay0] using c2
      cases neg
      · exact SeqAt.in_tuple_reads r2 r1 c2' c1 (by first | exact room _ | (have := room 0; omega) | omega) (fin2 I q)
      · exact SeqAt.notIn_tuple_reads r2 r1 c2' c1 (by first | exact room _ | (have := room 0; omega) | omega) (fin2 I q)
  · obtain ⟨a, o, rfl, g, ho⟩ := RpW.dget he hd
    cases ry
    have eo : o.isSome = (getK kvs (keyD k)).isSome := by
      rcases ho with ⟨v', d', rfl, h2, _⟩ | ⟨rfl, h2⟩ <;> rw [h2] <;> rfl
    cases neg
    · exact d_in (by omega) I g rx fun s3 I3 => ⟨.bl o.isSome, H, I3, rfl, by rw [eo]; exact q⟩
    · exact d_notIn (by omega) I g rx fun s3 I3 => ⟨.bl (!o.isSome), H, I3, rfl, by rw [eo]; exact q⟩
  · obtain ⟨c, rfl, rfl⟩ := hasChar_of hc
    cases (show Rp X.K O H x _ from hd)
    cases (show Rp X.K O H y _ from he)
    cases neg
    · exact op_in_sign pins s σ H _ _ v u Q I rx ry ⟨c, _, rfl, rfl, q⟩
    · exact op_notIn_sign pins s σ H _ _ v u Q I rx ry ⟨c, _, rfl, rfl, q⟩
theorem in_ok (hu : X.A.units + 65 < cLine) : OpR X (compareOp .In) (rIn2 X.K inD) := by
  intro pins s σ H x y v u Q I rx ry h
  obtain ⟨O, d, e, ot, hd, he, q⟩ := h
  obtain ⟨b, hb, q⟩ := q.boolOf
  exact in_gen (neg := false) hu I rx ry hd he hb q
theorem nin_ok (hu : X.A.units + 65 < cLine) : OpR X (compareOp .NotIn) (rIn2 X.K fun d e => notD (inD d e)) := by
  intro pins s σ H x y v u Q I rx ry h
  obtain ⟨O, d, e, ot, hd, he, q⟩ := h
  obtain ⟨b, hb, q⟩ := notD_ok q
  exact in_gen (neg := true) hu I rx ry hd he hb q
/-- every comparison -/
theorem cmp_ok (hu : X.A.units + 65 < cLine) (o : CmpOp) : OpR X (compareOp o) (rIn2 X.K (cmpD (cpOf o))) := by
  have hu' : X.A.units + 64 < cLine := by omega
  cases o with
  | Eq => exact eq_ok hu'
  | NotEq => exact ne_ok hu'
  | Lt => exact lt_ok hu'
  | LtE => exact le_ok hu'
  | Gt => exact gt_ok hu'
  | GtE => exact ge_ok hu'
  | Is => exact is_ok
  | IsNot => exact isn_ok
  | In => exact in_ok hu
  | NotIn => exact nin_ok hu

/-! ### subscripts -/
theorem atI_eq {α : Type} (xs : List α) (i : Int) : atI xs i = ixD xs i := by
  unfold atI ixN ixD
  by_cases h : 0 ≤ i
  · rw [if_pos h, if_pos h]
    by_cases h2 : i < xs.length
    · rw [if_pos h2]; rfl
    · rw [if_neg h2]
      exact (List.getElem?_eq_none_iff.mpr (by omega)).symm
  · rw [if_neg h, if_neg h]
    by_cases h2 : -(xs.length : Int) ≤ i
    · rw [if_pos h2, if_pos h2]; rfl
    · rw [if_neg h2, if_neg h2]; rfl
theorem Rps.at {K : PySem.W.Frag} {O : Ow} {H : Hp} {vs : List V} {ds : List D} {i : Int} {d : D} (r : Rps K O H vs ds) (h : ixD ds i = some d) : ∃ v, atI vs i = some v ∧ Rp K O H v d := by
  rw [atI_eq]
  unfold ixD at *
  rw [r.length]
  split at h
  · rename_i c; rw [if_pos c]; exact r.get h
  · rename_i c; rw [if_neg c]
    split at h
    · rename_i c2; rw [if_pos c2]; exact r.get h
    · cases h
theorem PoF.of {K : PySem.W.Frag} {O : Ow} {H : Hp} {o : Option D} {Q : VK} (h : PoF K O H (Rs.of o) Q) : ∃ d, o = some d ∧ PoF K O H (.ok d) Q := by
  cases o with
  | none => exact (show False from h).elim
  | some d => exact ⟨d, rfl, h⟩
/-- an answer that stands in H already -/
def Po (K : PySem.W.Frag) (O : Ow) (H : Hp) (r : Rs D) (Q : VK) : Prop := match r with
  | .ok d => ∀ v H', Same H H' → Rp K O H' v d → Q v H'
  | _ => False
theorem Po.of {K : PySem.W.Frag} {O : Ow} {H : Hp} {o : Option D} {Q : VK} (h : Po K O H (Rs.of o) Q) : ∃ d, o = some d ∧ Po K O H (.ok d) Q := by
  cases o with
  | none => exact (show False from h).elim
  | some d => exact ⟨d, rfl, h⟩
theorem strOk_one {z : Str} {c : Nat} {i : Int} (h : PyData.strOk z = true) (e : ixD z.cps.toList i = some c) : PyData.strOk ⟨#[c]⟩ = true := by
  have hm : c ∈ z.cps.toList := by
    unfold ixD at e
    split at e
    · exact List.mem_of_getElem? e
    · split at e
      · exact List.mem_of_getElem? e
      · cases e
  unfold PyData.strOk at *
  rw [← Array.all_toList] at h
  have := List.all_eq_true.mp h c hm
  simp at this ⊢; exact this
theorem idx_ok (hu : X.A.units + 65 < cLine) : IxR X (fun x y H Q => ∃ O d e, OT O H ∧ RpW X.K O H x d ∧ RpW X.K O H y e ∧ Po X.K O H (idxD d e) Q) := by
  intro value slice pins s σ H x y v u Q I rx ry h hs
  obtain ⟨O, d, e, ot, hd, he, q⟩ := h
  cases d with
  | list ds =>
    cases e <;> try exact (show False from q).elim
    rename_i i
    obtain ⟨a, xs, rfl, ha, za, ra⟩ := hd
    cases (show Rp X.K O H y _ from he)
    obtain ⟨d, hd, q⟩ := Po.of q
    obtain ⟨w, hw, rw'⟩ := ra.at hd
    exact ix_list value slice pins s σ H _ _ v u Q I rx ry ⟨a, xs, i, w, rfl, rfl, ha, hw, q w H (Same.refl H) rw'⟩ hs
  | tuple ds =>
    cases e <;> try exact (show False from q).elim
    rename_i i
    cases (show Rp X.K O H x _ from hd) with | tup ha za ra =>
    cases (show Rp X.K O H y _ from he)
    obtain ⟨d, hd, q⟩ := Po.of q
    obtain ⟨w, hw, rw'⟩ := ra.at hd
    exact ix_tup value slice pins s σ H _ _ v u Q I rx ry ⟨_, _, i, w, rfl, rfl, ha, hw, q w H (Same.refl H) rw'⟩ hs
  | str z =>
    cases e <;> try exact (show False from q).elim
    rename_i i
    cases (show Rp X.K O H x _ from hd) with | str _ h1 h2 =>
    cases (show Rp X.K O H y _ from he)
    simp only [idxD] at q
    cases e : ixD z.cps.toList i with
    | none => rw [e] at q; exact (show False from q).elim
    | some c =>
      rw [e] at q
      refine ix_str value slice pins s σ H _ _ v u Q I rx ry ⟨z, i, c, rfl, rfl, h2, by rw [atI_eq]; exact e, ?_⟩ hs
      exact q (.str ⟨#[c]⟩) H (Same.refl H) (.str _ (strOk_one h1 e) (by show (1 : Nat) ≤ sizeLine; rw [sizeLine_eq]; decide))
  | dict kvs =>
    simp only [idxD] at q
    split at q
    · rename_i k ek
      have := keyOf_inv ek
      subst this
      obtain ⟨d, hd', q⟩ := Po.of q
      obtain ⟨a, o, rfl, g, ho⟩ := RpW.dget hd he
      rcases ho with ⟨w, d', rfl, h2, h3⟩ | ⟨rfl, h2⟩
      · rw [hd'] at h2
        cases h2
        cases rx
        unfold subscriptTail
        refine wpAny_bind ?_
        rw [getitemInPython_of_ne (dict_typeIs I g).not_modules]
        refine wpAny_bind (wpAny_specialOf (dict_typeIs I g) PySem.F.slot_dict_getitem.lookup ?_)
        have fin : wpAny (model X.prog X.w) X.A (subscripted slice false (.ref a) u) (fun r s₃ => wpAny (model X.prog X.w) X.A (letTemporaryGo value (.ref a) r >>= fun _ => pure r) (EP X pins σ Q) X.xe s₃) X.xe s := by
          rw [hs]
          exact wpAny_operating (d_getItem (by omega) I g ry fun w' s3 I3 rw' => wpAny_bind (wpAny_letTemporaryGo (wpAny_pure ⟨w, H, I3, rw', q w H (Same.refl H) h3⟩)))
        first
          | exact wpAny_pure (wpAny_bind fin)
          | exact wpAny_bind (wpAny_pure (wpAny_bind fin))
          | exact wpAny_bind fin
      · rw [hd'] at h2; cases h2
    · exact (show False from q).elim
  | none => cases e <;> exact (show False from q).elim
  | bool b => cases e <;> exact (show False from q).elim
  | int i => cases e <;> exact (show False from q).elim

/-! ### slices -/
theorem Rps.cut {K : PySem.W.Frag} {O : Ow} {H : Hp} {vs : List V} {ds : List D} (r : Rps K O H vs ds) (lo hi : Option Int) : Rps K O H (cutV vs lo hi) (cutD ds lo hi) := by
  unfold cutV cutD
  rw [r.length]
  exact (r.drop _).take _
theorem sli_ok : SlR X (fun x lo hi H Q => ∃ O d, OT O H ∧ RpW X.K O H x d ∧ PoF X.K O H (sliD d lo hi) Q) := by
  intro pins s σ H x v vl vu lo hi sl Q I rx hs pl pu h
  obtain ⟨O, d, ot, hd, q⟩ := h
  cases d with
  | list ds =>
    obtain ⟨a, xs, rfl, ha, za, ra⟩ := hd
    exact sl_list pins s σ H _ v vl vu lo hi sl Q I rx hs pl pu ⟨a, xs, rfl, ha, fun p hp => q _ _ (same_new hp) (Fr.newL hp (ra.cut lo hi) (Nat.le_trans (cutV_length _ _ _) za))⟩
  | tuple ds =>
    cases (show Rp X.K O H x _ from hd) with | tup ha za ra =>
    rename_i a xs
    refine sl_tupA pins s σ H _ v vl vu lo hi sl Q I rx hs pl pu ⟨a, xs, rfl, ha, fun hw => ?_, fun _ p hp => q _ _ (same_new hp) (Rp.newT hp (ra.cut lo hi) (Nat.le_trans (cutV_length _ _ _) za))⟩
    refine q _ H (Same.refl H) (Rp.tup ha za ?_)
    have e : cutD ds lo hi = ds := by
      unfold cutD
      rw [← ra.length, hw.1, hw.2]
      simp [ra.length]
    rw [e]; exact ra
  | none => exact (show False from q).elim
  | bool b => exact (show False from q).elim
  | int i => exact (show False from q).elim
  | str z => exact (show False from q).elim
  | dict kvs => exact (show False from q).elim
end
end Ws

set_option Elab.async false
set_option linter.all false
set_option maxRecDepth 100000
set_option maxHeartbeats 4000000
/-! Sim7: the built-in functions -/
namespace Ws
open PySem PySem.Spec PyProof.Rows L2

/-! ### sorting: by insertion -/
theorem insD_at {α : Type} {le : α → α → Bool} {a : α} : ∀ {l r : List α}, (∀ b ∈ l, le a b = false) → (∀ b ∈ r.head?, le a b = true) → insD le a (l ++ r) = l ++ a :: r
  | [], [], _, _ => rfl
  | [], b :: r, _, h => by
    show (if le a b = true then _ else _) = _
    rw [if_pos (h b rfl)]; rfl
  | b :: l, r, h, h' => by
    show (if le a b = true then _ else _) = _
    rw [if_neg (by rw [h b List.mem_cons_self]; decide)]
    exact congrArg (b :: ·) (insD_at (l := l) (fun c hc => h c (List.mem_cons_of_mem _ hc)) h')
theorem sortD_merge {α : Type} {le : α → α → Bool} (tr : ∀ a b c, le a b = true → le b c = true → le a c = true) (tot : ∀ a b, (le a b || le b a) = true) : ∀ xs : List α, xs.mergeSort le = sortD le xs
  | [] => by simp [sortD]
  | a :: xs => by
    obtain ⟨l1, l2, e1, e2, h⟩ := List.mergeSort_cons tr tot a xs
    have ih := sortD_merge tr tot xs
    show _ = insD le a (sortD le xs)
    rw [← ih, e2, e1]
    refine (insD_at (fun b hb => by simpa using h b hb) fun b hb => ?_).symm
    have s : ((a :: xs).mergeSort le).Pairwise fun x y => le x y = true := List.pairwise_mergeSort tr tot (a :: xs)
    rw [e1] at s
    have s2 := (List.pairwise_append.mp s).2.1
    refine (List.pairwise_cons.mp s2).1 b ?_
    cases l2 with
    | nil => cases hb
    | cons c r => simp at hb; subst hb; exact List.mem_cons_self
theorem leT_eq : PySem.W.dataLe false (fun d : D => d) = leT := by
  funext a b
  rw [PySem.W.dataLe_eq]; rfl
theorem sortD_data (xs : List D) : xs.mergeSort (PySem.W.dataLe false fun d : D => d) = sortD leT xs := by
  rw [← leT_eq]
  have t := PySem.W.sortLe_total (PyProof.Rows.listOrd itemOrd) false fun d : D => PySem.W.keyToks d
  exact sortD_merge t.trans (fun a b => by rw [Bool.or_eq_true]; exact t.total a b) xs
theorem sortD_perm {α : Type} {le : α → α → Bool} : ∀ xs : List α, (sortD le xs).Perm xs
  | [] => .nil
  | a :: xs => by
    have ins : ∀ (l : List α), (insD le a l).Perm (a :: l) := fun l => by
      induction l with
      | nil => exact .refl _
      | cons b l ih =>
        show (if le a b = true then _ else _ : List α).Perm _
        split
        · exact .refl _
        · exact (ih.cons b).trans (.swap a b l)
    exact (ins _).trans ((sortD_perm xs).cons a)

theorem allOk_of {xs : List D} (h : allOk xs = true) : PySem.W.AllAlike xs ∧ (∀ d ∈ xs, d ≠ .none) ∧ ∀ d ∈ xs, lim 40 d = true := by
  unfold allOk at h
  rw [List.all_eq_true] at h
  refine ⟨fun d hd e he => ?_, fun d hd => ?_, fun d hd => ?_⟩
  · have := h d hd
    simp only [Bool.and_eq_true, List.all_eq_true] at this
    exact this.2 e he
  · have := h d hd
    simp only [Bool.and_eq_true, Bool.not_eq_true'] at this
    exact isNone_iff this.1.1
  · have := h d hd
    simp only [Bool.and_eq_true] at this
    exact this.1.2
theorem sortOk_of {xs : List D} (h : sortOk xs = true) : PySem.W.AllAlike xs ∧ PySem.W.Sortable xs ∧ ∀ d ∈ xs, lim 40 d = true := by
  unfold sortOk at h
  simp only [Bool.and_eq_true, Bool.or_eq_true] at h
  obtain ⟨h1, h2⟩ := h
  obtain ⟨a, n, l⟩ := allOk_of h1
  refine ⟨a, ?_, l⟩
  rcases h2 with h2 | h2
  · refine .inl fun d hd => ?_
    have := List.all_eq_true.mp h2 d hd
    cases d <;> simp [isTup] at this
    rename_i ys
    cases ys with
    | nil => simp [isTup] at this
    | cons y r => exact ⟨y, r, rfl⟩
  · refine .inr fun d hd => ⟨n d hd, fun ys e => ?_⟩
    have := List.all_eq_true.mp h2 d hd
    subst e
    simp [isTupE] at this

section
variable {K : PySem.W.Frag} {O : Ow} {H : Hp}
/-- the values behind a list's items: what they stand for -/
def RV (K : PySem.W.Frag) (O : Ow) (H : Hp) (u : Value) (d : D) : Prop := ∃ x, RelV x u ∧ Rp K O H x d
theorem rv_each : ∀ {xs : List V} {us : List Value} {ds : List D}, Vals xs us → Rps K O H xs ds → PySem.W.EachIs (RV K O H) us ds
  | _, _, _, .nil, .nil => .nil
  | _, _, _, .cons r rs, .cons h hs => .cons ⟨_, r, h⟩ (rv_each rs hs)
theorem rv_back : ∀ {us : List Value} {ds : List D}, PySem.W.EachIs (RV K O H) us ds → ∃ xs, Vals xs us ∧ Rps K O H xs ds
  | _, _, .nil => ⟨[], .nil, .nil⟩
  | _, _, .cons ⟨x, r, h⟩ t => by
    obtain ⟨xs, rs, hs⟩ := rv_back t
    exact ⟨x :: xs, .cons r rs, .cons h hs⟩
inductive RpWs (K : PySem.W.Frag) (O : Ow) (H : Hp) : List V → List D → Prop
  | nil : RpWs K O H [] []
  | cons {v : V} {vs : List V} {d : D} {ds : List D} : RpW K O H v d → RpWs K O H vs ds → RpWs K O H (v :: vs) (d :: ds)
theorem Rps.weak : ∀ {vs : List V} {ds : List D}, Rps K O H vs ds → RpWs K O H vs ds
  | _, _, .nil => .nil
  | _, _, .cons h r => .cons h.weak (Rps.weak r)
theorem RpWs.same {H' : Hp} (s : Same H H') : ∀ {vs : List V} {ds : List D}, RpWs K O H vs ds → RpWs K O H' vs ds
  | _, _, .nil => .nil
  | _, _, .cons h r => .cons (h.same s) (RpWs.same s r)
end

section
variable {X : Cx} {pins : List (Addr × Obj)} {s : Shared} {σ : L2.St} {H : Hp}
theorem reads_each (I : Inv X pins σ H s) {O : Ow} : ∀ {xs : List V} {us : List Value} {ds : List D}, Vals xs us → Rps X.K O H xs ds → (∀ d ∈ ds, lim 40 d = true) → PySem.W.EachIs (fun v d => ∃ as, Reads s.heap v d as) us ds
  | _, _, _, .nil, .nil, _ => .nil
  | _, _, _, .cons r rs, .cons h hs, l => .cons (reads2 I r h.weak (l _ List.mem_cons_self)) (reads_each I rs hs fun d hd => l d (List.mem_cons_of_mem _ hd))
theorem reads_all (I : Inv X pins σ H s) {O : Ow} : ∀ {xs : List V} {us : List Value} {ds : List D}, Vals xs us → Rps X.K O H xs ds → (∀ d ∈ ds, lim 40 d = true) → ∃ as, ReadsAll s.heap us ds as
  | _, _, _, .nil, .nil, _ => ⟨_, .nil⟩
  | _, _, _, .cons r rs, .cons h hs, l => by
    obtain ⟨as, h1⟩ := reads2 I r h.weak (l _ List.mem_cons_self)
    obtain ⟨bs, h2⟩ := reads_all I rs hs fun d hd => l d (List.mem_cons_of_mem _ hd)
    exact ⟨_, .cons h1 h2⟩
theorem depths_all {ds : List D} (l : ∀ d ∈ ds, lim 40 d = true) : PyData.depthAll ds ≤ 40 := by
  induction ds with
  | nil => simp [PyData.depthAll]
  | cons d ds ih =>
    have h1 := lim_depth 40 d (l d List.mem_cons_self)
    have h2 := ih fun e he => l e (List.mem_cons_of_mem _ he)
    simp only [PyData.depthAll]; omega
end

/-- what stands for the built-in -/
def biVal : Bi → Value
  | .len => .builtin "len" | .abs => .builtin "abs" | .max => .builtin "max" | .min => .builtin "min" | .maxd => .builtin "max" | .mind => .builtin "min"
  | .sum => .builtin "sum" | .any => .builtin "any" | .all => .builtin "all" | .sorted => .builtin "sorted"
  | .tuple => .type "tuple" | .list => .type "list" | .int => .type "int" | .gcd => .builtin "math.gcd" | .str => .type "str"
/-- its answer is new -/
abbrev biNew : Bi → Bool := biFr
/-- an answer, new or not -/
def PoB (fr : Bool) (K : PySem.W.Frag) (O : Ow) (H : Hp) (r : Rs D) (Q : VK) : Prop := match fr with
  | true => PoF K O H r Q
  | false => Po K O H r Q
abbrev rBi (K : PySem.W.Frag) (b : Bi) : List V → Hp → VK → Prop := fun xs H Q => ∃ O ds, OT O H ∧ RpWs K O H xs ds ∧ PoB (biNew b) K O H (biD b ds) Q

section
variable {X : Cx}
theorem intsD_some {K : PySem.W.Frag} {O : Ow} {H : Hp} : ∀ {xs : List V} {ds : List D} {ns : List Int}, Rps K O H xs ds → intsD ds = some ns → xs = ns.map V.int
  | _, _, ns, .nil, h => by simp [intsD] at h; subst h; rfl
  | _, _, ns, .cons (d := d) (ds := ds) h r, e => by
    have e' : (intOf d).bind (fun i => (intsD ds).map (i :: ·)) = some ns := by
      unfold intsD at e ⊢
      rw [List.mapM_cons] at e
      cases h1 : intOf d with
      | none => rw [h1] at e; cases e
      | some i =>
        rw [h1] at e
        cases h2 : ds.mapM intOf with
        | none => rw [h2] at e; cases e
        | some l => rw [h2] at e; exact e
    cases d <;> try (cases e'; done)
    rename_i i
    cases h
    cases h2 : intsD ds with
    | none => rw [h2] at e'; cases e'
    | some l =>
      rw [h2] at e'
      cases e'
      rw [intsD_some r h2]; rfl
theorem bolsD_some {K : PySem.W.Frag} {O : Ow} {H : Hp} : ∀ {xs : List V} {ds : List D} {ns : List Bool}, Rps K O H xs ds → bolsD ds = some ns → xs = ns.map V.bl
  | _, _, ns, .nil, h => by simp [bolsD] at h; subst h; rfl
  | _, _, ns, .cons (d := d) (ds := ds) h r, e => by
    have e' : (bolOf d).bind (fun i => (bolsD ds).map (i :: ·)) = some ns := by
      unfold bolsD at e ⊢
      rw [List.mapM_cons] at e
      cases h1 : bolOf d with
      | none => rw [h1] at e; cases e
      | some i =>
        rw [h1] at e
        cases h2 : ds.mapM bolOf with
        | none => rw [h2] at e; cases e
        | some l => rw [h2] at e; exact e
    cases d <;> try (cases e'; done)
    rename_i i
    cases h
    cases h2 : bolsD ds with
    | none => rw [h2] at e'; cases e'
    | some l =>
      rw [h2] at e'
      cases e'
      rw [bolsD_some r h2]; rfl
theorem listW {K : PySem.W.Frag} {O : Ow} {H : Hp} {v : V} {ds : List D} (h : RpW K O H v (.list ds)) : ∃ a xs, v = .ref a ∧ SqL K H a xs ∧ xs.length ≤ sizeLine ∧ Rps K O H xs ds := h
theorem tupW {K : PySem.W.Frag} {O : Ow} {H : Hp} {v : V} {ds : List D} (h : RpW K O H v (.tuple ds)) : ∃ a xs, v = .ref a ∧ SqT K H a xs ∧ xs.length ≤ sizeLine ∧ Rps K O H xs ds := by
  cases (show Rp K O H v _ from h) with
  | tup ha z r => exact ⟨_, _, rfl, ha, z, r⟩
theorem intW {K : PySem.W.Frag} {O : Ow} {H : Hp} {v : V} {i : Int} (h : RpW K O H v (.int i)) : v = .int i := by
  cases (show Rp K O H v _ from h); rfl
theorem boolW {K : PySem.W.Frag} {O : Ow} {H : Hp} {v : V} {b : Bool} (h : RpW K O H v (.bool b)) : v = .bl b := by
  cases (show Rp K O H v _ from h); rfl
theorem strW {K : PySem.W.Frag} {O : Ow} {H : Hp} {v : V} {x : Str} (h : RpW K O H v (.str x)) : v = .str x ∧ PyData.strOk x = true ∧ x.length ≤ sizeLine := by
  cases (show Rp K O H v _ from h) with
  | str _ h1 h2 => exact ⟨rfl, h1, h2⟩
theorem one_of {K : PySem.W.Frag} {O : Ow} {H : Hp} {xs : List V} {d : D} (h : RpWs K O H xs [d]) : ∃ x, xs = [x] ∧ RpW K O H x d := by
  cases h with
  | cons h t => cases t; exact ⟨_, rfl, h⟩
theorem two_of {K : PySem.W.Frag} {O : Ow} {H : Hp} {xs : List V} {d e : D} (h : RpWs K O H xs [d, e]) : ∃ x y, xs = [x, y] ∧ RpW K O H x d ∧ RpW K O H y e := by
  cases h with
  | cons h t =>
    cases t with
    | cons h2 t2 => cases t2; exact ⟨_, _, rfl, h, h2⟩

theorem bi_len : CallR X (.builtin "len") (rBi X.K .len) := by
  intro pins s σ H xs us Q I r h
  obtain ⟨O, ds, ot, hd, q⟩ := h
  have q : PoF X.K O H (biD .len ds) Q := q
  match ds, hd, q with
  | [.list ds], hd, q =>
    obtain ⟨x, rfl, h1⟩ := one_of hd
    obtain ⟨a, ys, rfl, ha, z, ra⟩ := listW h1
    refine call_len pins s σ H _ us Q I r ⟨_, ys.length, rfl, .inl ⟨ys, ha, rfl⟩, ?_⟩
    rw [ra.length]; exact PoF.int q
  | [.tuple ds], hd, q =>
    obtain ⟨x, rfl, h1⟩ := one_of hd
    obtain ⟨a, ys, rfl, ha, z, ra⟩ := tupW h1
    refine call_len pins s σ H _ us Q I r ⟨_, ys.length, rfl, .inr ⟨ys, ha, rfl⟩, ?_⟩
    rw [ra.length]; exact PoF.int q
  | [.str z], hd, q =>
    obtain ⟨x, rfl, h1⟩ := one_of hd
    obtain ⟨rfl, h2, h3⟩ := strW h1
    exact call_len pins s σ H _ us Q I r ⟨_, z.length, rfl, ⟨h3, rfl⟩, PoF.int q⟩
  | [.dict kvs], hd, q =>
    obtain ⟨x, rfl, h1⟩ := one_of hd
    obtain ⟨a, vs, rfl, ha, ra⟩ := h1
    obtain ⟨u, rfl, ru⟩ := vals1 r
    cases ru
    have e := ra.length
    exact d_len I (.inl ha) fun t s' I' => ⟨.int vs.length, H, I', ⟨_, rfl⟩, by rw [e]; exact PoF.int q⟩
  | [], _, q => exact q.st.elim
  | [.none], _, q => exact q.st.elim
  | [.bool _], _, q => exact q.st.elim
  | [.int _], _, q => exact q.st.elim
  | _ :: _ :: _, _, q => exact (show False by simpa [biD, PoF] using q).elim
theorem bi_abs : CallR X (.builtin "abs") (rBi X.K .abs) := by
  intro pins s σ H xs us Q I r h
  obtain ⟨O, ds, ot, hd, q⟩ := h
  have q : PoF X.K O H (biD .abs ds) Q := q
  match ds, hd, q with
  | [.int i], hd, q =>
    obtain ⟨x, rfl, h1⟩ := one_of hd
    cases intW h1
    exact call_abs pins s σ H _ us Q I r ⟨i, rfl, PoF.int q⟩
  | [], _, q => exact q.st.elim
  | [.none], _, q => exact q.st.elim
  | [.bool _], _, q => exact q.st.elim
  | [.str _], _, q => exact q.st.elim
  | [.list _], _, q => exact q.st.elim
  | [.tuple _], _, q => exact q.st.elim
  | [.dict _], _, q => exact q.st.elim
  | _ :: _ :: _, _, q => exact (show False by simpa [biD, PoF] using q).elim
theorem bi_int : CallR X (.type "int") (rBi X.K .int) := by
  intro pins s σ H xs us Q I r h
  obtain ⟨O, ds, ot, hd, q⟩ := h
  have q : PoF X.K O H (biD .int ds) Q := q
  match ds, hd, q with
  | [.int i], hd, q =>
    obtain ⟨x, rfl, h1⟩ := one_of hd
    cases intW h1
    exact call_int1 pins s σ H _ us Q I r (.inl ⟨i, rfl, PoF.int q⟩)
  | [.bool b], hd, q =>
    obtain ⟨x, rfl, h1⟩ := one_of hd
    cases boolW h1
    exact call_int1 pins s σ H _ us Q I r (.inr ⟨b, rfl, PoF.int q⟩)
  | [], _, q => exact q.st.elim
  | [.none], _, q => exact q.st.elim
  | [.str _], _, q => exact q.st.elim
  | [.list _], _, q => exact q.st.elim
  | [.tuple _], _, q => exact q.st.elim
  | [.dict _], _, q => exact q.st.elim
  | _ :: _ :: _, _, q => exact (show False by simpa [biD, PoF] using q).elim
theorem biD_gcd (ds : List D) : (∃ a b, ds = [.int a, .int b]) ∨ biD .gcd ds = .st := by
  unfold biD; split <;> first | (exact .inl ⟨_, _, rfl⟩) | (exact .inr rfl) | simp_all
theorem bi_gcd : CallR X (.builtin "math.gcd") (rBi X.K .gcd) := by
  intro pins s σ H xs us Q I r h
  obtain ⟨O, ds, ot, hd, q⟩ := h
  have q : PoF X.K O H (biD .gcd ds) Q := q
  rcases biD_gcd ds with ⟨a, b, rfl⟩ | e
  · obtain ⟨x, y, rfl, h1, h2⟩ := two_of hd
    cases intW h1; cases intW h2
    exact cr_gcd pins s σ H _ us Q I r ⟨a, b, rfl, PoF.int q⟩
  · rw [e] at q; exact q.st.elim
end
end Ws

set_option Elab.async false
set_option linter.all false
set_option maxRecDepth 100000
set_option maxHeartbeats 4000000
/-! Sim8: the built-in functions of lists -/
namespace Ws
open PySem PySem.Spec PyProof.Rows L2
section
variable {X : Cx}
theorem biD_sum (ds : List D) : (∃ xs, ds = [.list xs]) ∨ biD .sum ds = .st := by
  unfold biD; split <;> first | (exact .inl ⟨_, rfl⟩) | (exact .inr rfl) | simp_all
theorem biD_any (ds : List D) : (∃ xs, ds = [.list xs]) ∨ biD .any ds = .st := by
  unfold biD; split <;> first | (exact .inl ⟨_, rfl⟩) | (exact .inr rfl) | simp_all
theorem biD_all (ds : List D) : (∃ xs, ds = [.list xs]) ∨ biD .all ds = .st := by
  unfold biD; split <;> first | (exact .inl ⟨_, rfl⟩) | (exact .inr rfl) | simp_all
theorem biD_tuple (ds : List D) : (∃ xs, ds = [.list xs]) ∨ (∃ xs, ds = [.tuple xs]) ∨ biD .tuple ds = .st := by
  unfold biD; split <;> first | (exact .inl ⟨_, rfl⟩) | (exact .inr (.inl ⟨_, rfl⟩)) | (exact .inr (.inr rfl)) | simp_all
theorem biD_list (ds : List D) : (∃ xs, ds = [.list xs]) ∨ (∃ xs, ds = [.tuple xs]) ∨ biD .list ds = .st := by
  unfold biD; split <;> first | (exact .inl ⟨_, rfl⟩) | (exact .inr (.inl ⟨_, rfl⟩)) | (exact .inr (.inr rfl)) | simp_all
theorem biD_sorted (ds : List D) : (∃ xs, ds = [.list xs]) ∨ (∃ xs, ds = [.tuple xs]) ∨ biD .sorted ds = .st := by
  unfold biD; split <;> first | (exact .inl ⟨_, rfl⟩) | (exact .inr (.inl ⟨_, rfl⟩)) | (exact .inr (.inr rfl)) | simp_all
theorem biD_max (ds : List D) : (∃ i j, ds = [.int i, .int j]) ∨ (∃ xs, ds = [.list xs]) ∨ (∃ xs, ds = [.tuple xs]) ∨ biD .max ds = .st := by
  unfold biD; split <;> first | (exact .inl ⟨_, _, rfl⟩) | (exact .inr (.inl ⟨_, rfl⟩)) | (exact .inr (.inr (.inl ⟨_, rfl⟩))) | (exact .inr (.inr (.inr rfl))) | simp_all
theorem biD_min (ds : List D) : (∃ i j, ds = [.int i, .int j]) ∨ (∃ xs, ds = [.list xs]) ∨ (∃ xs, ds = [.tuple xs]) ∨ biD .min ds = .st := by
  unfold biD; split <;> first | (exact .inl ⟨_, _, rfl⟩) | (exact .inr (.inl ⟨_, rfl⟩)) | (exact .inr (.inr (.inl ⟨_, rfl⟩))) | (exact .inr (.inr (.inr rfl))) | simp_all

theorem bi_sum (hc : X.calm = true) : CallR X (.builtin "sum") (rBi X.K .sum) := by
  intro pins s σ H xs us Q I r h
  obtain ⟨O, ds, ot, hd, q⟩ := h
  have q : PoF X.K O H (biD .sum ds) Q := q
  rcases biD_sum ds with ⟨es, rfl⟩ | e
  · obtain ⟨x, rfl, h1⟩ := one_of hd
    obtain ⟨a, ys, rfl, ha, z, ra⟩ := listW h1
    have q : PoF X.K O H ((Rs.of (intsD es)).bnd fun ns => .ok (.int ns.sum)) Q := q
    cases e : intsD es with
    | none => rw [e] at q; exact q.st.elim
    | some ns =>
      rw [e] at q
      have := intsD_some ra e
      subst this
      exact cr_sum hc pins s σ H _ us Q I r ⟨a, ns, rfl, ha, PoF.int q⟩
  · rw [e] at q; exact q.st.elim
theorem bi_any (hc : X.calm = true) : CallR X (.builtin "any") (rBi X.K .any) := by
  intro pins s σ H xs us Q I r h
  obtain ⟨O, ds, ot, hd, q⟩ := h
  have q : PoF X.K O H (biD .any ds) Q := q
  rcases biD_any ds with ⟨es, rfl⟩ | e
  · obtain ⟨x, rfl, h1⟩ := one_of hd
    obtain ⟨a, ys, rfl, ha, z, ra⟩ := listW h1
    have q : PoF X.K O H ((Rs.of (bolsD es)).bnd fun ns => .ok (.bool (ns.any id))) Q := q
    cases e : bolsD es with
    | none => rw [e] at q; exact q.st.elim
    | some ns =>
      rw [e] at q
      have := bolsD_some ra e
      subst this
      exact cr_any hc pins s σ H _ us Q I r ⟨a, ns, rfl, ha, PoF.bool q⟩
  · rw [e] at q; exact q.st.elim
theorem bi_all (hc : X.calm = true) : CallR X (.builtin "all") (rBi X.K .all) := by
  intro pins s σ H xs us Q I r h
  obtain ⟨O, ds, ot, hd, q⟩ := h
  have q : PoF X.K O H (biD .all ds) Q := q
  rcases biD_all ds with ⟨es, rfl⟩ | e
  · obtain ⟨x, rfl, h1⟩ := one_of hd
    obtain ⟨a, ys, rfl, ha, z, ra⟩ := listW h1
    have q : PoF X.K O H ((Rs.of (bolsD es)).bnd fun ns => .ok (.bool (ns.all id))) Q := q
    cases e : bolsD es with
    | none => rw [e] at q; exact q.st.elim
    | some ns =>
      rw [e] at q
      have := bolsD_some ra e
      subst this
      exact cr_all hc pins s σ H _ us Q I r ⟨a, ns, rfl, ha, PoF.bool q⟩
  · rw [e] at q; exact q.st.elim
theorem bi_tuple : CallR X (.type "tuple") (rBi X.K .tuple) := by
  intro pins s σ H xs us Q I r h
  obtain ⟨O, ds, ot, hd, q⟩ := h
  have q : PoF X.K O H (biD .tuple ds) Q := q
  rcases biD_tuple ds with ⟨es, rfl⟩ | ⟨es, rfl⟩ | e
  · obtain ⟨x, rfl, h1⟩ := one_of hd
    obtain ⟨a, ys, rfl, ha, z, ra⟩ := listW h1
    exact call_tuple_of pins s σ H _ us Q I r ⟨a, ys, rfl, .inl ⟨ha, fun l hl => q _ _ (same_new hl) (Rp.newT hl ra z)⟩⟩
  · obtain ⟨x, rfl, h1⟩ := one_of hd
    obtain ⟨a, ys, rfl, ha, z, ra⟩ := tupW h1
    exact call_tuple_of pins s σ H _ us Q I r ⟨a, ys, rfl, .inr ⟨ha, q _ H (Same.refl H) (Rp.tup ha z ra)⟩⟩
  · rw [e] at q; exact q.st.elim
theorem bi_list : CallR X (.type "list") (rBi X.K .list) := by
  intro pins s σ H xs us Q I r h
  obtain ⟨O, ds, ot, hd, q⟩ := h
  have q : PoF X.K O H (biD .list ds) Q := q
  rcases biD_list ds with ⟨es, rfl⟩ | ⟨es, rfl⟩ | e
  · obtain ⟨x, rfl, h1⟩ := one_of hd
    obtain ⟨a, ys, rfl, ha, z, ra⟩ := listW h1
    exact call_list_of pins s σ H _ us Q I r ⟨a, ys, rfl, .inl ha, fun l hl => q _ _ (same_new hl) (Fr.newL hl ra z)⟩
  · obtain ⟨x, rfl, h1⟩ := one_of hd
    obtain ⟨a, ys, rfl, ha, z, ra⟩ := tupW h1
    exact call_list_of pins s σ H _ us Q I r ⟨a, ys, rfl, .inr ha, fun l hl => q _ _ (same_new hl) (Fr.newL hl ra z)⟩
  · rw [e] at q; exact q.st.elim

/-! ### sorted -/
/-- the new list behind sorted -/
theorem sorted_end {pins : List (Addr × Obj)} {s : Shared} {σ : L2.St} {H : Hp} {O : Ow} {es : List D} {vs out : List Value} {Q : VK} (I : Inv X pins σ H s) (hz : es.length ≤ sizeLine) (hl : out.length = es.length)
    (eo : PySem.W.EachIs (RV X.K O H) out (es.mergeSort (PySem.W.dataLe false fun d : D => d))) (q : PoF X.K O H (.ok (.list (sortD leT es))) Q) :
    EP X pins σ Q (.ref (s.heap.objs.size + 1)) { s with heap := sortedAll s.heap vs out.toArray } := by
  rw [sortD_data] at eo
  obtain ⟨xs, r1, r2⟩ := rv_back eo
  obtain ⟨c, hc⟩ := sortedAll_at s.heap vs out.toArray
  have hn : H (s.heap.objs.size + 1) = none := I.hok.fresh (Nat.le_succ _)
  have hx : xs.length ≤ sizeLine := by rw [r1.length, hl]; exact hz
  refine ⟨.ref (s.heap.objs.size + 1), upd H (s.heap.objs.size + 1) (.lst xs), I.laid (t' := s.toks) (fun b o e => sortedAll_old e) (Nat.le_succ _) ⟨hx, out, c, r1, hc⟩, rfl, ?_⟩
  exact q _ _ (same_new hn) (Fr.newL hn r2 hx)
/-- as list.sort and sorted begin: a new list of a tuple's items -/
theorem collect_tup {prog : Program} {w : World} {A : Around} {E : Value → Shared → Prop} {s : Shared} {l : Addr} {vs : List Value} {Q : List Value → Shared → Prop} (hl : IsTup s.heap l vs.toArray) (hsz : vs.length ≤ sizeLine)
    (h : Q vs { s with heap := (s.heap.push (seqObj "list" #[] 0)).update s.heap.objs.size (Obj.mapSeq (· ++ vs.toArray)) }) : wpAny (model prog w) A (collect (.ref l)) Q E s := by
  obtain ⟨o, ho, hc, n, hd⟩ := id hl
  unfold collect
  refine wpAny_bind (wpAny_runValue (codeAny_builtin entry_proto_collect' ?_))
  show wpAny _ _ (do again (.builtin "list.__iadd__" ⟨[← newList [], .ref l], []⟩)) _ _ s
  refine wpAny_bind (wpAny_newList (wpAny_pure ⟨Code.quiet_builtin _ (by decide +kernel), codeAny_builtin entry_list_iadd' ?_⟩))
  have ho2 : (s.heap.push (seqObj "list" #[] 0)).get? l = some o := Heap.get?_push_of_some _ ho
  have hnew := Heap.get?_push_size s.heap (o := seqObj "list" #[] 0) rfl
  show wpAny _ _ (Builtin.List.listExtendWith (.ref s.heap.objs.size) (.ref l) (.ref s.heap.objs.size)) _ _ { s with heap := s.heap.push (seqObj "list" #[] 0) }
  unfold Builtin.List.listExtendWith
  refine wpAny_bind (wpAny_typeOf (T := "tuple") ⟨o, ho2, hc⟩ ?_)
  have ht : (Value.type "tuple" == Value.type "tuple") = true := rfl
  rw [if_pos (by rw [ht]; simp)]
  refine wpAny_bind (listItems_at ho2 hd (wpAny_bind (listItems_at (xs := #[]) (n := 0) hnew rfl ?_)))
  rw [if_neg (by simp)]
  refine wpAny_bind (listUpdate_at (xs := #[]) (n := 0) hnew rfl (wpAny_pure ?_) (Nat.zero_le _) (by show (#[] ++ vs.toArray).size ≤ sizeLine + 1; simp only [Array.size_append, List.size_toArray, List.length_nil]; omega))
  refine wpAny_bind (wpAny_load (get?_update_seq hnew _) ?_)
  have e : ((#[] : Array Value) ++ vs.toArray).toList = vs := by simp
  show wpAny _ _ (pure ((#[] : Array Value) ++ vs.toArray).toList) Q E _
  rw [e]
  exact wpAny_pure h
theorem map_idD (ds : List D) : ds.map (fun d : D => d) = ds := List.map_id' ds
theorem sorted_tup {prog : Program} {w : World} {A : Around} {E : Value → Shared → Prop} {s : Shared} {R : Value → D → Prop} {l : Addr} {vs : List Value} {bs : List D} {Q : Value → Shared → Prop} (hl : IsTup s.heap l vs.toArray) (e : PySem.W.EachIs R vs bs)
    (er : PySem.W.EachIs (fun v d => ∃ as, Reads s.heap v d as) vs bs) (hal : PySem.W.AllAlike bs) (hk : PySem.W.Sortable bs) (hL : bs.length ≤ sizeLine) (hu : ∀ b, b ∈ bs → A.units + 2 + b.depth < cLine)
    (h : ∀ out, out.length = bs.length → PySem.W.EachIs R out (bs.mergeSort (PySem.W.dataLe false fun d : D => d)) → Q (.ref (s.heap.objs.size + 1)) { s with heap := sortedAll s.heap vs (List.toArray out) }) :
    wpAny (model prog w) A (PySem.call (.builtin "sorted") [.ref l]) Q E s := by
  have hz : vs.length ≤ sizeLine := by rw [e.length]; exact hL
  have er' : PySem.W.EachIs (fun v d => ∃ as, Reads (PySem.W.sortingHeap (PySem.W.copyHeap s.heap vs) (s.heap.objs.size + 1) vs) v d as) vs bs := er.mono fun _ _ ⟨as, r⟩ => ⟨as, PyProof.Rows.Reads.keeps (fun _ _ => PySem.W.sorting_copy_old) r⟩
  have S := PySem.W.SortsAt.data (prog := prog) (w := w) (A := A.in1.in1) (s := { s with heap := PySem.W.sortingHeap (PySem.W.copyHeap s.heap vs) (s.heap.objs.size + 1) vs }) er' hal hk (fun d hd => hu d hd)
  refine call_function_entry_kw kind_sorted plain_sorted entry_sorted (args_sorted1 _) ?_
  unfold Builtin.«sorted»
  refine wpAny_bind (m := checkCount "sorted" 1 1 _) (wpAny_pure (wpAny_bind (collect_tup hl hz (wpAny_bind (wpAny_newList ?_ hz)))))
  have hsz : ((s.heap.push (seqObj "list" #[] 0)).update s.heap.objs.size (Obj.mapSeq (· ++ vs.toArray))).objs.size = s.heap.objs.size + 1 := by
    rw [Heap.size_update, size_push']
  show wpAny _ _ _ _ _ { s with heap := PySem.W.copyHeap s.heap vs }
  rw [hsz]
  have hat := PySem.W.copyHeap_at s.heap vs
  refine wpAny_bind (wpAny_holding (wpAny_call_entry_kw slot_list_sort ⟨_, hat, rfl⟩ entry_list_sort (PySem.W.list_sort_vals (s := { s with heap := PySem.W.copyHeap s.heap vs }) hat S hz ⟨_, rfl, ?_⟩) (args_list_sort _)))
  refine wpAny_pure ⟨_, rfl, h _ ?_ ?_⟩
  · rw [PySem.W.sortVals_length false rfl]; exact e.length
  · have z := PySem.W.sortVals_data (enc := fun d : D => d) false e (by exact er') (by rw [List.map_id']; exact hal)
    rw [map_idD] at z
    exact z
theorem bi_sorted (hu : X.A.units + 64 < cLine) : CallR X (.builtin "sorted") (rBi X.K .sorted) := by
  intro pins s σ H xs us Q I r h
  obtain ⟨O, ds, ot, hd, q⟩ := h
  have q : PoF X.K O H (biD .sorted ds) Q := q
  rcases biD_sorted ds with ⟨es, rfl⟩ | ⟨es, rfl⟩ | e
  · obtain ⟨x, rfl, h1⟩ := one_of hd
    obtain ⟨a, ys, rfl, ha, z, ra⟩ := listW h1
    have q : PoF X.K O H (if sortOk es then .ok (.list (sortD leT es)) else .st) Q := q
    split at q
    · rename_i ok
      obtain ⟨al, so, li⟩ := sortOk_of ok
      obtain ⟨u, rfl, ru⟩ := vals1 r
      obtain rfl : u = Value.ref a := ru
      obtain ⟨its, rv, hl, _⟩ := I.list ha
      have hz : es.length ≤ sizeLine := by rw [← ra.length]; exact z
      exact PySem.W.sorted_data (enc := fun d : D => d) hl.isList (rv_each rv ra) (reads_each I rv ra li) (by rw [map_idD]; exact al) (by rw [map_idD]; exact so) hz
        (fun b hb => by have := lim_depth 40 b (li b hb); show X.A.units + 2 + b.depth < cLine; omega) fun out ho eo => sorted_end I hz ho eo q
    · exact q.st.elim
  · obtain ⟨x, rfl, h1⟩ := one_of hd
    obtain ⟨a, ys, rfl, ha, z, ra⟩ := tupW h1
    have q : PoF X.K O H (if sortOk es then .ok (.list (sortD leT es)) else .st) Q := q
    split at q
    · rename_i ok
      obtain ⟨al, so, li⟩ := sortOk_of ok
      obtain ⟨u, rfl, ru⟩ := vals1 r
      obtain rfl : u = Value.ref a := ru
      obtain ⟨its, rv, hl, _⟩ := I.tuple ha
      have hz : es.length ≤ sizeLine := by rw [← ra.length]; exact z
      exact sorted_tup hl (rv_each rv ra) (reads_each I rv ra li) al so hz
        (fun b hb => by have := lim_depth 40 b (li b hb); omega) fun out ho eo => sorted_end I hz ho eo q
    · exact q.st.elim
  · rw [e] at q; exact q.st.elim

/-! ### max, min -/
theorem alike_of {es : List D} (ok : allOk es = true) : PySem.W.AlikeAll es ∧ ∀ d ∈ es, lim 40 d = true := by
  obtain ⟨al, nn, li⟩ := allOk_of ok
  exact ⟨⟨al, nn⟩, li⟩
theorem best_end {pins : List (Addr × Obj)} {s : Shared} {σ : L2.St} {H : Hp} {O : Ow} {ys : List V} {its : List Value} {es : List D} {Q : VK} {d : D} {i : Nat} {v : Value} {h' : Heap} {tk : Nat} {bs : List Addr} (I : Inv X pins σ H s) (rv : Vals ys its) (ra : Rps X.K O H ys es)
    (al : PySem.W.AlikeAll es) (li : ∀ d ∈ es, lim 40 d = true) (hd : d ∈ es) (hv : its.toArray[i]? = some v) (rd : Reads h' v d bs) (k : ∀ b o, s.heap.get? b = some o → h'.get? b = some o) (q : Po X.K O H (.ok d) Q) :
    EP X pins σ Q v { s with heap := h', toks := tk } := by
  have hv' : its[i]? = some v := by simpa using hv
  have hi : i < its.length := by
    rcases Nat.lt_or_ge i its.length with h | h
    · exact h
    · rw [List.getElem?_eq_none h] at hv'; cases hv'
  have hlen := rv.length
  obtain ⟨y, hy⟩ : ∃ y, ys[i]? = some y := ⟨ys[i]'(by omega), by simp⟩
  obtain ⟨u, hu, ry⟩ := rv.get hy
  rw [hv'] at hu; cases hu
  obtain ⟨e, he, re⟩ := ra.getV hy
  have hm : e ∈ es := List.mem_of_getElem? he
  have I' : Inv X pins σ H { s with heap := h', toks := tk } := I.kept k
  obtain ⟨as, r2⟩ := reads2 I' ry re.weak (li e hm)
  have : e = d := PySem.W.alike_unique e d v as bs (al.1 e hm d hd) r2 rd
  subst this
  exact ⟨y, H, I', ry, q y H (Same.refl H) re⟩
theorem minD_mem : ∀ (xs : List D) (x : D), PySem.W.minD x xs ∈ x :: xs := by
  intro xs
  induction xs with
  | nil => intro x; exact List.mem_cons_self
  | cons y ys ih =>
    intro x
    show PySem.W.minD (if PySem.W.dataLt y x then y else x) ys ∈ _
    have := ih (if PySem.W.dataLt y x then y else x)
    rcases List.mem_cons.mp this with e | e
    · rw [e]
      split
      · exact List.mem_cons_of_mem _ List.mem_cons_self
      · exact List.mem_cons_self
    · exact List.mem_cons_of_mem _ (List.mem_cons_of_mem _ e)
theorem maxD_mem : ∀ (xs : List D) (x : D), PySem.W.maxD x xs ∈ x :: xs := by
  intro xs
  induction xs with
  | nil => intro x; exact List.mem_cons_self
  | cons y ys ih =>
    intro x
    show PySem.W.maxD (if PySem.W.dataLt x y then y else x) ys ∈ _
    have := ih (if PySem.W.dataLt x y then y else x)
    rcases List.mem_cons.mp this with e | e
    · rw [e]
      split
      · exact List.mem_cons_of_mem _ List.mem_cons_self
      · exact List.mem_cons_self
    · exact List.mem_cons_of_mem _ (List.mem_cons_of_mem _ e)
theorem Po.int {K : PySem.W.Frag} {O : Ow} {H : Hp} {i : Int} {Q : VK} (h : Po K O H (.ok (.int i)) Q) : Q (.int i) H := h _ H (Same.refl H) (Rp.int i)
theorem bi_min (hc : X.calm = true) (hu : X.A.units + 64 < cLine) : CallR X (.builtin "min") (rBi X.K .min) := by
  intro pins s σ H xs us Q I r h
  obtain ⟨O, ds, ot, hd, q⟩ := h
  have q : Po X.K O H (biD .min ds) Q := q
  rcases biD_min ds with ⟨i, j, rfl⟩ | ⟨es, rfl⟩ | ⟨es, rfl⟩ | e
  · obtain ⟨x, y, rfl, h1, h2⟩ := two_of hd
    cases intW h1; cases intW h2
    exact call_min2 hc pins s σ H _ us Q I r ⟨i, j, rfl, Po.int q⟩
  · obtain ⟨x, rfl, h1⟩ := one_of hd
    obtain ⟨a, ys, rfl, ha, z, ra⟩ := listW h1
    have q : Po X.K O H (if allOk es then Rs.of (minL es) else .st) Q := q
    split at q
    · rename_i ok
      obtain ⟨al, li⟩ := alike_of ok
      obtain ⟨u, rfl, ru⟩ := vals1 r
      obtain rfl : u = Value.ref a := ru
      obtain ⟨its, rv, hl, _⟩ := I.list ha
      obtain ⟨as, rr⟩ := reads_all I rv ra li
      have dp := depths_all li
      cases es with
      | nil => exact (show False from q).elim
      | cons e es => exact PySem.W.min_list_data (I.ok.hd hc) hl.isList (by simpa using rr) al (by omega) fun i v h' tk bs hv rd k => best_end I rv ra al li (minD_mem es e) hv rd k q
    · exact (show False from q).elim
  · obtain ⟨x, rfl, h1⟩ := one_of hd
    obtain ⟨a, ys, rfl, ha, z, ra⟩ := tupW h1
    have q : Po X.K O H (if allOk es then Rs.of (minL es) else .st) Q := q
    split at q
    · rename_i ok
      obtain ⟨al, li⟩ := alike_of ok
      obtain ⟨u, rfl, ru⟩ := vals1 r
      obtain rfl : u = Value.ref a := ru
      obtain ⟨its, rv, hl, _⟩ := I.tuple ha
      obtain ⟨as, rr⟩ := reads_all I rv ra li
      have dp := depths_all li
      cases es with
      | nil => exact (show False from q).elim
      | cons e es => exact PySem.W.min_tuple_data (I.ok.hd hc) hl (by simpa using rr) al (by omega) fun i v h' tk bs hv rd k => best_end I rv ra al li (minD_mem es e) hv rd k q
    · exact (show False from q).elim
  · rw [e] at q; exact (show False from q).elim
theorem bi_max (hc : X.calm = true) (hu : X.A.units + 64 < cLine) : CallR X (.builtin "max") (rBi X.K .max) := by
  intro pins s σ H xs us Q I r h
  obtain ⟨O, ds, ot, hd, q⟩ := h
  have q : Po X.K O H (biD .max ds) Q := q
  rcases biD_max ds with ⟨i, j, rfl⟩ | ⟨es, rfl⟩ | ⟨es, rfl⟩ | e
  · obtain ⟨x, y, rfl, h1, h2⟩ := two_of hd
    cases intW h1; cases intW h2
    exact call_max2 hc pins s σ H _ us Q I r ⟨i, j, rfl, Po.int q⟩
  · obtain ⟨x, rfl, h1⟩ := one_of hd
    obtain ⟨a, ys, rfl, ha, z, ra⟩ := listW h1
    have q : Po X.K O H (if allOk es then Rs.of (maxL es) else .st) Q := q
    split at q
    · rename_i ok
      obtain ⟨al, li⟩ := alike_of ok
      obtain ⟨u, rfl, ru⟩ := vals1 r
      obtain rfl : u = Value.ref a := ru
      obtain ⟨its, rv, hl, _⟩ := I.list ha
      obtain ⟨as, rr⟩ := reads_all I rv ra li
      have dp := depths_all li
      cases es with
      | nil => exact (show False from q).elim
      | cons e es => exact PySem.W.max_list_data (I.ok.hd hc) hl.isList (by simpa using rr) al (by omega) fun i v h' tk bs hv rd k => best_end I rv ra al li (maxD_mem es e) hv rd k q
    · exact (show False from q).elim
  · obtain ⟨x, rfl, h1⟩ := one_of hd
    obtain ⟨a, ys, rfl, ha, z, ra⟩ := tupW h1
    have q : Po X.K O H (if allOk es then Rs.of (maxL es) else .st) Q := q
    split at q
    · rename_i ok
      obtain ⟨al, li⟩ := alike_of ok
      obtain ⟨u, rfl, ru⟩ := vals1 r
      obtain rfl : u = Value.ref a := ru
      obtain ⟨its, rv, hl, _⟩ := I.tuple ha
      obtain ⟨as, rr⟩ := reads_all I rv ra li
      have dp := depths_all li
      cases es with
      | nil => exact (show False from q).elim
      | cons e es => exact PySem.W.max_tuple_data (I.ok.hd hc) hl (by simpa using rr) al (by omega) fun i v h' tk bs hv rd k => best_end I rv ra al li (maxD_mem es e) hv rd k q
    · exact (show False from q).elim
  · rw [e] at q; exact (show False from q).elim
/-- min(xs, default=d), max(xs, default=d) -/
abbrev rBiD (K : PySem.W.Frag) (b : Bi) : List V → List V → Hp → VK → Prop := fun vs zs H Q => ∃ O x z d e, vs = [x] ∧ zs = [z] ∧ OT O H ∧ RpW K O H x d ∧ Rp K O H z e ∧ Po K O H (biD b [d, e]) Q
theorem biD_mind (d e : D) : (∃ xs, d = .list xs) ∨ biD .mind [d, e] = .st := by
  cases d <;> first | exact .inl ⟨_, rfl⟩ | exact .inr rfl
theorem biD_maxd (d e : D) : (∃ xs, d = .list xs) ∨ biD .maxd [d, e] = .st := by
  cases d <;> first | exact .inl ⟨_, rfl⟩ | exact .inr rfl
theorem bi_mind (hc : X.calm = true) (hu : X.A.units + 64 < cLine) : CallRK X (.builtin "min") [Str.ofString "default"] (rBiD X.K .mind) := by
  intro pins s σ H xs zs us ws Q I r rz h
  obtain ⟨O, x, z, d, e, rfl, rfl, ot, h1, h2, q⟩ := h
  rcases biD_mind d e with ⟨es, rfl⟩ | e0
  · obtain ⟨a, ys, rfl, ha, zz, ra⟩ := listW h1
    have q : Po X.K O H (if allOk es then .ok ((minL es).getD e) else .st) Q := q
    split at q
    · rename_i ok
      obtain ⟨al, li⟩ := alike_of ok
      obtain ⟨u, rfl, ru⟩ := vals1 r
      obtain rfl : u = Value.ref a := ru
      obtain ⟨w, rfl, rw⟩ := vals1 rz
      obtain ⟨its, rv, hl, _⟩ := I.list ha
      obtain ⟨as, rr⟩ := reads_all I rv ra li
      have dp := depths_all li
      refine PySem.W.min_list_default (I.ok.hd hc) hl.isList (by simpa using rr) al (by omega) (fun h0 h' tk k => ?_) fun y es' i v h' tk bs he hv rd k => ?_
      · subst h0
        exact ⟨z, H, I.kept k, rw, q _ _ (Same.refl H) h2⟩
      · subst he
        exact best_end I rv ra al li (minD_mem es' y) hv rd k q
    · exact (show False from q).elim
  · rw [e0] at q; exact (show False from q).elim
theorem bi_maxd (hc : X.calm = true) (hu : X.A.units + 64 < cLine) : CallRK X (.builtin "max") [Str.ofString "default"] (rBiD X.K .maxd) := by
  intro pins s σ H xs zs us ws Q I r rz h
  obtain ⟨O, x, z, d, e, rfl, rfl, ot, h1, h2, q⟩ := h
  rcases biD_maxd d e with ⟨es, rfl⟩ | e0
  · obtain ⟨a, ys, rfl, ha, zz, ra⟩ := listW h1
    have q : Po X.K O H (if allOk es then .ok ((maxL es).getD e) else .st) Q := q
    split at q
    · rename_i ok
      obtain ⟨al, li⟩ := alike_of ok
      obtain ⟨u, rfl, ru⟩ := vals1 r
      obtain rfl : u = Value.ref a := ru
      obtain ⟨w, rfl, rw⟩ := vals1 rz
      obtain ⟨its, rv, hl, _⟩ := I.list ha
      obtain ⟨as, rr⟩ := reads_all I rv ra li
      have dp := depths_all li
      refine PySem.W.max_list_default (I.ok.hd hc) hl.isList (by simpa using rr) al (by omega) (fun h0 h' tk k => ?_) fun y es' i v h' tk bs he hv rd k => ?_
      · subst h0
        exact ⟨z, H, I.kept k, rw, q _ _ (Same.refl H) h2⟩
      · subst he
        exact best_end I rv ra al li (maxD_mem es' y) hv rd k q
    · exact (show False from q).elim
  · rw [e0] at q; exact (show False from q).elim
/-- a built-in that comp knows by its name -/
theorem bi_ok (hc : X.calm = true) (hu : X.A.units + 64 < cLine) {x : Str} {b : Bi} (h : biOf x = some b) : CallR X (biVal b) (rBi X.K b) ∧ bootBuiltins x = some (biVal b) ∧ x ≠ "__name__" ∧ (x == ("__debug__" : Str)) = false ∧
    ((∃ id, biVal b = .builtin id) ∨ ∃ T, biVal b = .type T) := by
  unfold biOf at h
  split at h
  · rename_i e; cases h; subst e; exact ⟨bi_len, by decide +kernel, by decide +kernel, by decide +kernel, .inl ⟨_, rfl⟩⟩
  split at h
  · rename_i e; cases h; subst e; exact ⟨bi_abs, by decide +kernel, by decide +kernel, by decide +kernel, .inl ⟨_, rfl⟩⟩
  split at h
  · rename_i e; cases h; subst e; exact ⟨bi_max hc hu, by decide +kernel, by decide +kernel, by decide +kernel, .inl ⟨_, rfl⟩⟩
  split at h
  · rename_i e; cases h; subst e; exact ⟨bi_min hc hu, by decide +kernel, by decide +kernel, by decide +kernel, .inl ⟨_, rfl⟩⟩
  split at h
  · rename_i e; cases h; subst e; exact ⟨bi_sum hc, by decide +kernel, by decide +kernel, by decide +kernel, .inl ⟨_, rfl⟩⟩
  split at h
  · rename_i e; cases h; subst e; exact ⟨bi_any hc, by decide +kernel, by decide +kernel, by decide +kernel, .inl ⟨_, rfl⟩⟩
  split at h
  · rename_i e; cases h; subst e; exact ⟨bi_all hc, by decide +kernel, by decide +kernel, by decide +kernel, .inl ⟨_, rfl⟩⟩
  split at h
  · rename_i e; cases h; subst e; exact ⟨bi_sorted hu, by decide +kernel, by decide +kernel, by decide +kernel, .inl ⟨_, rfl⟩⟩
  split at h
  · rename_i e; cases h; subst e; exact ⟨bi_tuple, by decide +kernel, by decide +kernel, by decide +kernel, .inr ⟨_, rfl⟩⟩
  split at h
  · rename_i e; cases h; subst e; exact ⟨bi_list, by decide +kernel, by decide +kernel, by decide +kernel, .inr ⟨_, rfl⟩⟩
  split at h
  · rename_i e; cases h; subst e; exact ⟨bi_int, by decide +kernel, by decide +kernel, by decide +kernel, .inr ⟨_, rfl⟩⟩
  · cases h
end
end Ws

set_option Elab.async false
set_option linter.all false
set_option maxRecDepth 100000
set_option maxHeartbeats 4000000
/-! Sim9: readings by the pure language -/
namespace Ws
open PySem PySem.Spec PyProof.Rows L2

def atS : Str := "at"
/-- the slots hold what the pure slots say -/
def ER (K : PySem.W.Frag) (O : Ow) (H : Hp) (σ : L2.St) (ε : Env) : Prop := ε.length ≤ σ.length ∧ ∀ (i : Nat) (s : Sl), ε[i]? = some s → match s with
  | .u => True
  | .f d => ∃ v, σ[i]? = some (some v) ∧ Rp K O H v d
  | .o d => ∃ v, σ[i]? = some (some v) ∧ RpW K O H v d
theorem ER.same {K : PySem.W.Frag} {O : Ow} {H H' : Hp} {σ : L2.St} {ε : Env} (h : ER K O H σ ε) (s : Same H H') : ER K O H' σ ε := ⟨h.1, fun i x e => by
  have := h.2 i x e
  cases x with
  | u => trivial
  | f d => obtain ⟨v, h1, h2⟩ := this; exact ⟨v, h1, h2.same s⟩
  | o d => obtain ⟨v, h1, h2⟩ := this; exact ⟨v, h1, h2.same s⟩⟩

/-- what is wanted of a BadValue with this place -/
def exW (K : PySem.W.Frag) (C : Addr) (W : WX) (O : Ow) (σ : L2.St) (H : Hp) (d : D) : Prop :=
  ∀ dx v H', Same H H' → H' dx = some (.xd [(atS, v)]) → Rp K O H' v d → W (.ref C) (some dx) σ H'
theorem exW.same {K : PySem.W.Frag} {C : Addr} {W : WX} {O : Ow} {σ : L2.St} {H H' : Hp} {d : D} (h : exW K C W O σ H d) (s : Same H H') : exW K C W O σ H' d :=
  fun dx v H2 s2 e r => h dx v H2 (s.trans s2) e r

/-- an answer's use -/
def Res {α : Type} (K : PySem.W.Frag) (C : Addr) (W : WX) (O : Ow) (σ : L2.St) (H : Hp) (r : Rs α) (k : α → Prop) : Prop := match r with
  | .ok a => k a
  | .ex d => exW K C W O σ H d
  | .st => False
abbrev kD (K : PySem.W.Frag) (O : Ow) (H : Hp) (Q : VK) : D → Prop := fun d => ∀ v H', Same H H' → Rp K O H' v d → Q v H'
abbrev kW (K : PySem.W.Frag) (O : Ow) (H : Hp) (Q : VK) : D → Prop := fun d => ∀ v H', Same H H' → RpW K O H' v d → Q v H'
abbrev kF (K : PySem.W.Frag) (O : Ow) (H : Hp) (Q : VK) : D → Prop := fun d => ∀ v H', Same H H' → Fr K O H H' v d → Q v H'
abbrev kT (H : Hp) (Q : Bool → Hp → Prop) : D → Prop := fun d => ∀ H', Same H H' → Q (truth d) H'
abbrev kL (K : PySem.W.Frag) (O : Ow) (H : Hp) (Q : List V → Hp → Prop) : List D → Prop := fun ds => ∀ vs H', Same H H' → Rps K O H' vs ds → Q vs H'
abbrev kLW (K : PySem.W.Frag) (O : Ow) (H : Hp) (Q : List V → Hp → Prop) : List D → Prop := fun ds => ∀ vs H', Same H H' → RpWs K O H' vs ds → Q vs H'

section
variable (K : PySem.W.Frag) (φ : Nat → List D → Rs D) (C : Addr) (W : WX)
def tD (e : E) : TE := fun σ H Q => ∃ O ε, ER K O H σ ε ∧ OT O H ∧ Res K C W O σ H (ev φ e ε) (kD K O H Q)
def tW (e : E) : TE := fun σ H Q => ∃ O ε, ER K O H σ ε ∧ OT O H ∧ Res K C W O σ H (ev φ e ε) (kW K O H Q)
def tF (e : E) : TE := fun σ H Q => ∃ O ε, ER K O H σ ε ∧ OT O H ∧ Res K C W O σ H (ev φ e ε) (kF K O H Q)
def tT (e : E) : TT := fun σ H Q => ∃ O ε, ER K O H σ ε ∧ OT O H ∧ Res K C W O σ H (ev φ e ε) (kT H Q)
def tA (es : List E) : TA := fun σ H Q => ∃ O ε, ER K O H σ ε ∧ OT O H ∧ Res K C W O σ H (evs φ es ε) (kL K O H Q)
def tAW (es : List E) : TA := fun σ H Q => ∃ O ε, ER K O H σ ε ∧ OT O H ∧ Res K C W O σ H (evs φ es ε) (kLW K O H Q)
end

section
variable {K : PySem.W.Frag} {φ : Nat → List D → Rs D} {C : Addr} {W : WX} {O : Ow} {ε : Env} {σ : L2.St} {H : Hp}
/-- through the first part of an answer -/
theorem Res.bind {α β : Type} {r : Rs α} {f : α → Rs β} {k : β → Prop} {k' : α → Prop} (h : Res K C W O σ H (r.bnd f) k) (g : ∀ a, r = .ok a → Res K C W O σ H (f a) k → k' a) : Res K C W O σ H r k' := by
  cases r with
  | ok a => exact g a rfl h
  | ex d => exact h
  | st => exact h
theorem Res.imp {α : Type} {r : Rs α} {k k' : α → Prop} (h : Res K C W O σ H r k) (g : ∀ a, r = .ok a → k a → k' a) : Res K C W O σ H r k' := by
  cases r with
  | ok a => exact g a rfl h
  | ex d => exact h
  | st => exact h
theorem Res.same {α : Type} {r : Rs α} {k k' : α → Prop} {H' : Hp} (h : Res K C W O σ H r k) (s : Same H H') (g : ∀ a, k a → k' a) : Res K C W O σ H' r k' := by
  cases r with
  | ok a => exact g a h
  | ex d => exact exW.same h s
  | st => exact h
theorem Res.sD {r : Rs D} {Q : VK} {H' : Hp} (h : Res K C W O σ H r (kD K O H Q)) (s : Same H H') : Res K C W O σ H' r (kD K O H' Q) := h.same s fun _ k v H2 s2 r => k v H2 (s.trans s2) r
theorem Res.sW {r : Rs D} {Q : VK} {H' : Hp} (h : Res K C W O σ H r (kW K O H Q)) (s : Same H H') : Res K C W O σ H' r (kW K O H' Q) := h.same s fun _ k v H2 s2 r => k v H2 (s.trans s2) r
theorem Res.sF {r : Rs D} {Q : VK} {H' : Hp} (h : Res K C W O σ H r (kF K O H Q)) (s : Same H H') : Res K C W O σ H' r (kF K O H' Q) := h.same s fun _ k v H2 s2 r => k v H2 (s.trans s2) (r.same0 s)
theorem Res.sT {r : Rs D} {Q : Bool → Hp → Prop} {H' : Hp} (h : Res K C W O σ H r (kT H Q)) (s : Same H H') : Res K C W O σ H' r (kT H' Q) := h.same s fun _ k H2 s2 => k H2 (s.trans s2)
theorem Res.sL {r : Rs (List D)} {Q : List V → Hp → Prop} {H' : Hp} (h : Res K C W O σ H r (kL K O H Q)) (s : Same H H') : Res K C W O σ H' r (kL K O H' Q) := h.same s fun _ k v H2 s2 r => k v H2 (s.trans s2) r
theorem Res.sLW {r : Rs (List D)} {Q : List V → Hp → Prop} {H' : Hp} (h : Res K C W O σ H r (kLW K O H Q)) (s : Same H H') : Res K C W O σ H' r (kLW K O H' Q) := h.same s fun _ k v H2 s2 r => k v H2 (s.trans s2) r

/-- r never is an error -/
def NoEx {α : Type} (r : Rs α) : Prop := ∀ d, r ≠ .ex d
theorem Res.poF {r : Rs D} {Q : VK} (n : NoEx r) (ot : OT O H) (h : Res K C W O σ H r (kD K O H Q)) : PoF K O H r Q := by
  cases r with
  | ok d => exact fun v H' s f => h v H' s (f.rp ot |> fun x => x)
  | ex d => exact absurd rfl (n d)
  | st => exact h
theorem Res.poF' {r : Rs D} {Q : VK} (n : NoEx r) (h : Res K C W O σ H r (kF K O H Q)) : PoF K O H r Q := by
  cases r with
  | ok d => exact h
  | ex d => exact absurd rfl (n d)
  | st => exact h
theorem Res.po {r : Rs D} {Q : VK} (n : NoEx r) (h : Res K C W O σ H r (kD K O H Q)) : Po K O H r Q := by
  cases r with
  | ok d => exact h
  | ex d => exact absurd rfl (n d)
  | st => exact h
theorem NoEx.ok {α : Type} (a : α) : NoEx (Rs.ok a) := fun _ h => by cases h
theorem NoEx.st {α : Type} : NoEx (Rs.st : Rs α) := fun _ h => by cases h
theorem NoEx.of {α : Type} (o : Option α) : NoEx (Rs.of o) := by cases o <;> exact fun _ h => by cases h
theorem NoEx.bnd {α β : Type} {r : Rs α} {f : α → Rs β} (h : NoEx r) (g : ∀ a, NoEx (f a)) : NoEx (r.bnd f) := by
  cases r with
  | ok a => exact g a
  | ex d => exact absurd rfl (h d)
  | st => exact NoEx.st
theorem NoEx.ite {α : Type} {c : Prop} [Decidable c] {a b : Rs α} (h : NoEx a) (g : NoEx b) : NoEx (if c then a else b) := by split <;> assumption
theorem binD_noex (o : Op2) (d e : D) : NoEx (binD o d e) := by
  unfold binD; split <;> first | exact NoEx.ok _ | exact NoEx.st | exact NoEx.ite (NoEx.ok _) NoEx.st
theorem negD_noex (d : D) : NoEx (negD d) := by cases d <;> first | exact NoEx.ok _ | exact NoEx.st
theorem notD_noex {r : Rs D} (h : NoEx r) : NoEx (notD r) := h.bnd fun d => by cases d <;> first | exact NoEx.ok _ | exact NoEx.st
theorem eqD_noex (d e : D) : NoEx (eqD d e) := NoEx.ite (NoEx.ok _) NoEx.st
theorem ltB_noex (d e : D) : NoEx (ltB d e) := NoEx.ite (NoEx.ok _) NoEx.st
theorem inD_noex (d e : D) : NoEx (inD d e) := by
  unfold inD
  split
  · exact NoEx.ite (NoEx.ok _) NoEx.st
  · exact NoEx.ite (NoEx.ok _) NoEx.st
  · split <;> first | exact NoEx.ok _ | exact NoEx.st
  · split
    · exact (NoEx.of _).bnd fun _ => NoEx.ok _
    · exact NoEx.st
  · exact NoEx.st
theorem isD_noex (d e : D) : NoEx (isD d e) := by
  unfold isD
  split
  · exact NoEx.ok _
  · split <;> exact NoEx.ok _
  · exact NoEx.st
theorem cmpD_noex (o : Cp) (d e : D) : NoEx (cmpD o d e) := by
  cases o
  · exact eqD_noex d e
  · exact notD_noex (eqD_noex d e)
  · exact ltB_noex d e
  · exact notD_noex (ltB_noex e d)
  · exact ltB_noex e d
  · exact notD_noex (ltB_noex d e)
  · exact isD_noex d e
  · exact notD_noex (isD_noex d e)
  · exact inD_noex d e
  · exact notD_noex (inD_noex d e)
theorem idxD_noex (d e : D) : NoEx (idxD d e) := by
  unfold idxD
  split
  · exact NoEx.of _
  · exact NoEx.of _
  · exact (NoEx.of _).bnd fun _ => NoEx.ok _
  · split
    · exact NoEx.of _
    · exact NoEx.st
  · exact NoEx.st
theorem sliD_noex (d : D) (lo hi : Option Int) : NoEx (sliD d lo hi) := by cases d <;> first | exact NoEx.ok _ | exact NoEx.st
theorem revD_noex (d : D) : NoEx (revD d) := by cases d <;> first | exact NoEx.ok _ | exact NoEx.st
theorem biD_noex (b : Bi) (ds : List D) : NoEx (biD b ds) := by
  unfold biD
  split <;> first
    | exact NoEx.ok _
    | exact NoEx.st
    | exact NoEx.ite (NoEx.of _) NoEx.st
    | exact NoEx.ite (NoEx.ok _) NoEx.st
    | exact (NoEx.of _).bnd fun _ => NoEx.ok _
/-- a comparison gives a truth value -/
theorem cmpD_bool {o : Cp} {d e x : D} (h : cmpD o d e = .ok x) : ∃ b, x = .bool b := by
  have nb : ∀ {r : Rs D} {x : D}, notD r = .ok x → ∃ b, x = .bool b := by
    intro r x h
    cases r with
    | ok z => cases z <;> first | (cases h; done) | (injection h with h; exact ⟨_, h.symm⟩)
    | ex z => cases h
    | st => cases h
  have eb : ∀ {d e x : D}, eqD d e = .ok x → ∃ b, x = .bool b := by
    intro d e x h; unfold eqD at h; split at h
    · injection h with h; exact ⟨_, h.symm⟩
    · cases h
  have lb : ∀ {d e x : D}, ltB d e = .ok x → ∃ b, x = .bool b := by
    intro d e x h; unfold ltB at h; split at h
    · injection h with h; exact ⟨_, h.symm⟩
    · cases h
  have ib : ∀ {d e x : D}, isD d e = .ok x → ∃ b, x = .bool b := by
    intro d e x h; unfold isD at h; split at h
    · injection h with h; exact ⟨_, h.symm⟩
    · split at h <;> (injection h with h; exact ⟨_, h.symm⟩)
    · cases h
  have nn : ∀ {d e x : D}, inD d e = .ok x → ∃ b, x = .bool b := by
    intro d e x h; unfold inD at h; split at h
    · split at h
      · injection h with h; exact ⟨_, h.symm⟩
      · cases h
    · split at h
      · injection h with h; exact ⟨_, h.symm⟩
      · cases h
    · split at h
      · injection h with h; exact ⟨_, h.symm⟩
      · cases h
    · split at h
      · rename_i y _ z
        cases hc : hasChar z y with
        | none => rw [hc] at h; cases h
        | some b => rw [hc] at h; injection h with h; exact ⟨_, h.symm⟩
      · cases h
    · cases h
  cases o
  · exact eb h
  · exact nb h
  · exact lb h
  · exact nb h
  · exact lb h
  · exact nb h
  · exact ib h
  · exact nb h
  · exact nn h
  · exact nb h
end
end Ws

set_option Elab.async false
set_option linter.all false
set_option maxRecDepth 100000
set_option maxHeartbeats 4000000
/-! Sim9b: t[::-1] -/
namespace Ws
open PySem PySem.Spec PyProof.Rows L2
section
variable {prog : Program} {w : World} {A : Around} {E : Value → Shared → Prop} {s : Shared}
theorem rev_places (n : Nat) : Builtin.Slice.slicePlaces ((n : Int) - 1) (-1) (-1) = n := by
  unfold Builtin.Slice.slicePlaces
  have h1 : ¬ ((-1 : Int) > 0) := by omega
  simp only [h1, if_false]
  by_cases h : n = 0
  · subst h; rfl
  · have h2 : (-1 : Int) < (n : Int) - 1 := by omega
    simp only [h2, if_true]
    first
      | omega
      | (rw [show (- -1 : Int) = 1 by decide, Int.ediv_one]; omega)
theorem rev_pick (xs : Array Value) : ((List.range xs.size).filterMap fun (m : Nat) => xs[((xs.size : Int) - 1 + (m : Int) * -1).toNat]?).toArray = xs.toList.reverse.toArray := by
  congr 1
  have e : (List.range xs.size).filterMap (fun (m : Nat) => xs[((xs.size : Int) - 1 + (m : Int) * -1).toNat]?) = ((List.range xs.size).map fun k => xs.size - 1 - k).filterMap (xs[·]?) := by
    rw [List.filterMap_map]
    have : ∀ l : List Nat, (∀ k ∈ l, k < xs.size) → l.filterMap (fun (m : Nat) => xs[((xs.size : Int) - 1 + (m : Int) * -1).toNat]?) = l.filterMap ((fun x => xs[x]?) ∘ fun k => xs.size - 1 - k) := fun l h => by
      induction l with
      | nil => rfl
      | cons a l ih =>
        have h1 := h a List.mem_cons_self
        rw [List.filterMap_cons, List.filterMap_cons, ih fun k hk => h k (List.mem_cons_of_mem _ hk)]
        have : ((xs.size : Int) - 1 + (a : Int) * -1).toNat = xs.size - 1 - a := by omega
        simp only [this, Function.comp]
    exact this _ fun k hk => List.mem_range.mp hk
  rw [e, PySem.W.krv_range, List.filterMap_reverse, PySem.W.krv_all]
theorem getItem_tuple_rev {t sl : Addr} {items : Array Value} {vs : Value} {Q : Value → Shared → Prop} (ht : IsTup s.heap t items) (hs : s.heap.IsSliceOf sl .none .none vs) (ps : IsPart vs (some (-1)))
    (h : Q (.ref s.heap.objs.size) { s with heap := s.heap.push { cls := .type "tuple", data := .seq items.toList.reverse.toArray } })
    (hsz : items.size ≤ sizeLine) : wpAny (model prog w) A (getItem (.ref t) (.ref sl)) Q E s := by
  have htake : sizeOk (.seq items.toList.reverse.toArray) := by
    show items.toList.reverse.toArray.size ≤ sizeLine
    rw [List.size_toArray, List.length_reverse, Array.length_toList]
    exact hsz
  obtain ⟨os, hos, hcs, hds⟩ := id hs
  have hTs : s.TypeIs (.ref sl) "slice" := ⟨os, hos, hcs⟩
  unfold getItem
  try with_reducible refine wpAny_holding ?_
  first | refine wpAny_bind (wpAny_pure ?_) | skip
  refine wpAny_bind (wpAny_sequenceKey ht.typeIs (by decide) ?_)
  refine wpAny_bind (wpAny_callSpecial?_slot (name := Str.ofString "__getitem__") ht.typeIs PyProof.Rows.slot_tuple_getitem
    (wpAny_call_entry PyProof.Rows.slot_tuple_getitem ht.typeIs entry_tuple_getitem ?_ (args_tuple_getitem _ _)))
  show wpAny _ _ (Builtin.Tuple.tupleItemsOf (.ref t) >>= _) _ _ s
  refine wpAny_bind (tupleItemsOf_ ht ?_)
  refine wpAny_bind (wpAny_typeOf hTs ?_)
  rw [if_pos (by decide)]
  refine wpAny_bind (m := Builtin.Slice.sliceApplied (.ref sl) (pure (items.size : Int))) ?_
  unfold Builtin.Slice.sliceApplied Builtin.Slice.sliceFields
  refine wpAny_bind (wpAny_bind (wpAny_field hos hds (x := .none) rfl (wpAny_bind (wpAny_field hos hds (x := .none) rfl (wpAny_bind (wpAny_field hos hds (x := vs) rfl (wpAny_pure ?_)))))))
  refine wpAny_bind (HT.slicePart_ ps ?_)
  show wpAny _ _ (if ((-1 : Int) == 0) = true then _ else _) _ _ s
  rw [if_neg (by decide)]
  refine wpAny_bind (slicePart_none (wpAny_bind (slicePart_none (wpAny_bind (wpAny_pure ?_)))))
  show wpAny _ _ (pure ((items.size : Int) - 1, (-1 : Int), Builtin.Slice.slicePlaces ((items.size : Int) - 1) (-1) (-1))) _ _ s
  rw [rev_places]
  refine wpAny_pure ?_
  show wpAny _ _ (if (((items.size : Int) - 1) == 0 && (-1 : Int) == 1 && items.size == items.size) = true then _ else _) _ _ s
  rw [if_neg (by rw [show ((-1 : Int) == 1) = false by decide]; simp), rev_pick]
  first
    | exact wpAny_bind (m := Builtin.Tuple.tupleExact _) (wpAny_newObj_type (wpAny_pure ⟨_, rfl, wpAny_pure h⟩) htake)
    | exact wpAny_bind (m := Builtin.Tuple.tupleExact _) (wpAny_newObj_type (wpAny_bind (wpAny_pure (wpAny_pure ⟨_, rfl, wpAny_pure h⟩))) htake)
    | exact wpAny_bind (wpAny_bind (m := Builtin.Tuple.tupleExact _) (wpAny_newObj_type (wpAny_pure (wpAny_pure ⟨_, rfl, wpAny_pure h⟩)) htake))
    | exact wpAny_bind (wpAny_bind (m := Builtin.Tuple.tupleExact _) (wpAny_newObj_type (wpAny_pure ⟨_, rfl, wpAny_pure h⟩) htake))
end
section
variable {X : Cx}
/-- xs[::-1], t[::-1] -/
def tRev2 (K : PySem.W.Frag) (te : TE) : TE := fun σ H Q => te σ H fun x H1 => (∃ a xs, x = .ref a ∧ SqL K H1 a xs ∧ ∀ p, H1 p = none → Q (.ref p) (upd H1 p (.lst xs.reverse))) ∨ (∃ a xs, x = .ref a ∧ SqT K H1 a xs ∧ ∀ p, H1 p = none → Q (.ref p) (upd H1 p (.tup xs.reverse)))
theorem pe_rev2 {e : Expr} {te : TE} {k : Nat} {p1 p2 p3 pos : Pos} (he : PE X e te) : PE X (.Subscript e (.Slice none none (some (.UnaryOp .USub (.Constant (.int 1) k p1) p2)) p3) pos) (tRev2 X.K te) := by
  refine ⟨fun pins s σ H Q I h => ?_⟩
  refine Subscript_ (thn (he.run pins s σ H _ I h) fun v s1 ⟨x, H1, I1, r1, q1⟩ => ?_)
  have hst : PO X (some (.UnaryOp .USub (.Constant (.int 1) k p1) p2)) (tPart (tUn (rU fun i => .int (-i)) (L2.tC (.int 1)))) := po_some (pe_un un_neg pe_int)
  refine wpAny_Slice (thn (po_none.run pins s1 σ H1 (fun o H2 => o = none ∧ H2 = H1) I1 ⟨rfl, rfl⟩) fun vl s2 ⟨l, H2, I2, pl, el, e2⟩ => ?_)
  subst el e2
  refine thn (po_none.run pins s2 σ H2 (fun o H3 => o = none ∧ H3 = H2) I2 ⟨rfl, rfl⟩) fun vu s3 ⟨u, H3, I3, pu, eu, e3⟩ => ?_
  subst eu e3
  refine thn (hst.run pins s3 σ H3 (fun o H4 => o = some (-1) ∧ H4 = H3) I3 ⟨1, rfl, -1, rfl, rfl, rfl⟩) fun vs s4 ⟨o, H4, I4, ps, eo, e4⟩ => ?_
  subst eo e4
  cases pl
  cases pu
  have I5 : Inv X pins σ H4 { s4 with heap := s4.heap.push { cls := .type "slice", data := .fields #[.none, .none, vs] } } := I4.kept (t' := s4.toks) fun b ob q => Heap.get?_push_of_some _ q
  show wpAny (model X.prog X.w) X.A (subscriptTail e (.Slice none none (some (.UnaryOp .USub (.Constant (.int 1) k p1) p2)) p3) v (.ref s4.heap.objs.size)) (EP X pins σ Q) X.xe { s4 with heap := s4.heap.push { cls := .type "slice", data := .fields #[.none, .none, vs] } }
  rcases q1 with ⟨a, xs, rfl, hx, q⟩ | ⟨a, xs, rfl, hx, q⟩
  · cases r1
    obtain ⟨its, r, ht, hz⟩ := I5.list hx
    have hlen := r.length
    refine tail_any (ops := [.ref a, .ref s4.heap.objs.size]) ht.isList.typeIs (PySem.slot_list_getitem.lookup) ?_ (by with_unfolding_all rfl)
    refine wpAny_getItem_list_slice ht.isList (Heap.IsSliceOf.new ..) .none .none ps (by decide) ?_ (by rw [List.size_toArray]; omega)
    rw [PySem.W.krv_pick]
    refine ⟨.ref _, _, I5.laid (t' := s4.toks) (o := .lst xs.reverse) (fun b ob q => Heap.get?_push_of_some _ q) (Nat.le_refl _) ?_, rfl, q _ (I5.hok.fresh (Nat.le_refl _))⟩
    exact ⟨by rw [List.length_reverse]; exact hz, _, 0, r.reverse, Heap.get?_push_size _ rfl⟩
  · cases r1
    obtain ⟨its, r, ht, hz⟩ := I5.tuple hx
    have hlen := r.length
    refine tail_any (ops := [.ref a, .ref s4.heap.objs.size]) ht.typeIs (PyProof.Rows.slot_tuple_getitem.lookup) ?_ (by with_unfolding_all rfl)
    refine getItem_tuple_rev ht (Heap.IsSliceOf.new ..) ps ?_ (by rw [List.size_toArray]; omega)
    refine ⟨.ref _, _, I5.laid (t' := s4.toks) (o := .tup xs.reverse) (fun b ob q => Heap.get?_push_of_some _ q) (Nat.le_refl _) ?_, rfl, q _ (I5.hok.fresh (Nat.le_refl _))⟩
    exact ⟨by rw [List.length_reverse]; exact hz, _, r.reverse, IsTup.new _ _⟩

end
end Ws

set_option Elab.async false
set_option linter.all false
set_option maxRecDepth 100000
set_option maxHeartbeats 4000000
/-! Sim10: each construct, from its parts -/
namespace Ws
open PySem PySem.Spec PyProof.Rows L2

theorem pem {X : Cx} {e : Expr} {t t' : TE} (h : PE X e t) (f : ∀ σ H Q, t' σ H Q → t σ H Q) : PE X e t' := ⟨fun p s σ H Q I q => h.run p s σ H Q I (f σ H Q q)⟩
theorem ptm {X : Cx} {e : Expr} {t t' : TT} (h : PT X e t) (f : ∀ σ H Q, t' σ H Q → t σ H Q) : PT X e t' := ⟨fun p s σ H Q I q => h.run p s σ H Q I (f σ H Q q)⟩
theorem pwm {X : Cx} {e : Expr} {t t' : TT} (h : PW X e t) (f : ∀ σ H Q, t' σ H Q → t σ H Q) : PW X e t' := ⟨fun w p s σ H Q I q => h.run w p s σ H Q I (f σ H Q q)⟩
theorem pam {X : Cx} {e : List Expr} {t t' : TA} (h : PA X e t) (f : ∀ σ H Q, t' σ H Q → t σ H Q) : PA X e t' := ⟨fun pos p s σ H Q I q => h.run pos p s σ H Q I (f σ H Q q)⟩
theorem pom {X : Cx} {e : Option Expr} {t t' : TO} (h : PO X e t) (f : ∀ σ H Q, t' σ H Q → t σ H Q) : PO X e t' := ⟨fun p s σ H Q I q => h.run p s σ H Q I (f σ H Q q)⟩

section
variable {X : Cx} {φ : Nat → List D → Rs D} {C : Addr} {W : WX}

/-- through a part that is read weakly -/
theorem tW_in {a : E} {O : Ow} {ε : Env} {σ : L2.St} {H : Hp} {Q : VK} {β : Type} {f : D → Rs β} {k : β → Prop} (er : ER X.K O H σ ε) (ot : OT O H) (h : Res X.K C W O σ H ((ev φ a ε).bnd f) k)
    (g : ∀ d v H', Same H H' → RpW X.K O H' v d → Res X.K C W O σ H (f d) k → Q v H') : (tW X.K φ C W) a σ H Q :=
  ⟨O, ε, er, ot, h.bind fun d _ q v H' s r => g d v H' s r q⟩
theorem tD_in {a : E} {O : Ow} {ε : Env} {σ : L2.St} {H : Hp} {Q : VK} {β : Type} {f : D → Rs β} {k : β → Prop} (er : ER X.K O H σ ε) (ot : OT O H) (h : Res X.K C W O σ H ((ev φ a ε).bnd f) k)
    (g : ∀ d v H', Same H H' → Rp X.K O H' v d → Res X.K C W O σ H (f d) k → Q v H') : (tD X.K φ C W) a σ H Q :=
  ⟨O, ε, er, ot, h.bind fun d _ q v H' s r => g d v H' s r q⟩
theorem tT_in {a : E} {O : Ow} {ε : Env} {σ : L2.St} {H : Hp} {Q : Bool → Hp → Prop} {β : Type} {f : D → Rs β} {k : β → Prop} (er : ER X.K O H σ ε) (ot : OT O H) (h : Res X.K C W O σ H ((ev φ a ε).bnd f) k)
    (g : ∀ d H', Same H H' → Res X.K C W O σ H (f d) k → Q (truth d) H') : (tT X.K φ C W) a σ H Q :=
  ⟨O, ε, er, ot, h.bind fun d _ q H' s => g d H' s q⟩
theorem tL_in {a : List E} {O : Ow} {ε : Env} {σ : L2.St} {H : Hp} {Q : List V → Hp → Prop} {β : Type} {f : List D → Rs β} {k : β → Prop} (er : ER X.K O H σ ε) (ot : OT O H) (h : Res X.K C W O σ H ((evs φ a ε).bnd f) k)
    (g : ∀ d v H', Same H H' → Rps X.K O H' v d → Res X.K C W O σ H (f d) k → Q v H') : (tA X.K φ C W) a σ H Q :=
  ⟨O, ε, er, ot, h.bind fun d _ q v H' s r => g d v H' s r q⟩
theorem tLW_in {a : List E} {O : Ow} {ε : Env} {σ : L2.St} {H : Hp} {Q : List V → Hp → Prop} {β : Type} {f : List D → Rs β} {k : β → Prop} (er : ER X.K O H σ ε) (ot : OT O H) (h : Res X.K C W O σ H ((evs φ a ε).bnd f) k)
    (g : ∀ d v H', Same H H' → RpWs X.K O H' v d → Res X.K C W O σ H (f d) k → Q v H') : (tAW X.K φ C W) a σ H Q :=
  ⟨O, ε, er, ot, h.bind fun d _ q v H' s r => g d v H' s r q⟩

theorem pe_FD {e : Expr} {a : E} (h : PE X e ((tF X.K φ C W) a)) : PE X e ((tD X.K φ C W) a) := pem h fun σ H Q ⟨O, ε, er, ot, q⟩ => ⟨O, ε, er, ot, q.imp fun d _ k v H' s r => k v H' s (r.rp ot)⟩
theorem pe_DW {e : Expr} {a : E} (h : PE X e ((tD X.K φ C W) a)) : PE X e ((tW X.K φ C W) a) := pem h fun σ H Q ⟨O, ε, er, ot, q⟩ => ⟨O, ε, er, ot, q.imp fun d _ k v H' s r => k v H' s r.weak⟩

/-! ### names and constants -/
theorem s_var {i : Nat} {x : Str} {pos : Pos} (hN : X.N[i]? = some x) (hv : Vis X.env.scope x) (hd : (x == ("__debug__" : Str)) = false) (hc : (x == ("__classdict__" : Str)) = false) : PE X (.Name x pos) ((tD X.K φ C W) (.var i)) ∧ PE X (.Name x pos) ((tW X.K φ C W) (.wv i)) := by
  refine ⟨pem (pe_var hN hv hd hc) fun σ H Q ⟨O, ε, er, ot, q⟩ => ?_, pem (pe_var hN hv hd hc) fun σ H Q ⟨O, ε, er, ot, q⟩ => ?_⟩
  · simp only [ev] at q
    split at q
    · rename_i d e
      obtain ⟨v, h1, h2⟩ := er.2 i _ e
      exact ⟨v, h1, q v H (Same.refl H) h2⟩
    · exact (show False from q).elim
  · simp only [ev] at q
    split at q
    · rename_i d e
      obtain ⟨v, h1, h2⟩ := er.2 i _ e
      exact ⟨v, h1, q v H (Same.refl H) h2.weak⟩
    · rename_i d e
      obtain ⟨v, h1, h2⟩ := er.2 i _ e
      exact ⟨v, h1, q v H (Same.refl H) h2⟩
    · exact (show False from q).elim
theorem s_lit {e : Expr} {v : V} {d : D} (h : PE X e (tC v)) (r : ∀ O H, Rp X.K O H v d) : PE X e ((tD X.K φ C W) (.lit d)) := pem h fun σ H Q ⟨O, ε, er, ot, q⟩ => by
  simp only [ev] at q
  exact q v H (Same.refl H) (r O H)
theorem s_gl {x : Str} {u : Value} {v : V} {d : D} {pos : Pos} (hg : Gl X x) (hm : X.mg x = some u) (rv : RelV v u) (r : ∀ O H, Rp X.K O H v d) (hd : (x == ("__debug__" : Str)) = false) : PE X (.Name x pos) ((tD X.K φ C W) (.gl d)) :=
  pem (pe_glob hg hm rv hd) fun σ H Q ⟨O, ε, er, ot, q⟩ => by
    simp only [ev] at q
    exact q v H (Same.refl H) (r O H)

/-! ### operators -/
theorem s_bin {a b : Expr} {a' b' : E} {o : Op2} {pos : Pos} (ha : PE X a ((tW X.K φ C W) a')) (hb : PE X b ((tW X.K φ C W) b')) : PE X (.BinOp a (opOf o) b pos) ((tF X.K φ C W) (.bin o a' b')) :=
  pem (pe_op (bin_ok o) ha hb) fun σ H Q ⟨O, ε, er, ot, q⟩ => by
    simp only [ev] at q
    refine tW_in er ot q fun x v H1 s1 r1 q1 => ?_
    refine tW_in (er.same s1) (ot.same s1) (Res.sF q1 s1) fun y u H2 s2 r2 q2 => ?_
    exact ⟨O, x, y, (ot.same s1).same s2, r1.same s2, r2, Res.poF' (binD_noex _ _ _) (Res.sF q2 s2)⟩
theorem s_neg {a : Expr} {a' : E} {pos : Pos} (ha : PE X a ((tW X.K φ C W) a')) : PE X (.UnaryOp .USub a pos) ((tF X.K φ C W) (.neg a')) :=
  pem (pe_un neg_ok ha) fun σ H Q ⟨O, ε, er, ot, q⟩ => by
    simp only [ev] at q
    refine tW_in er ot q fun x v H1 s1 r1 q1 => ?_
    exact ⟨O, x, ot.same s1, r1, Res.poF' (negD_noex _) (Res.sF q1 s1)⟩
/-- a value's truth -/
theorem RpW.tru {K : PySem.W.Frag} {O : Ow} {H : Hp} {v : V} {d : D} (h : RpW K O H v d) : TruV K v H (truth d) := by
  cases d with
  | none => cases (show Rp K O H v _ from h); rfl
  | bool b => cases (show Rp K O H v _ from h); rfl
  | int i => cases (show Rp K O H v _ from h); rfl
  | str x =>
    obtain ⟨rfl, _, h2⟩ := strW h
    refine ⟨h2, ?_⟩
    show (x.length != 0) = ((x.length : Int) != 0)
    cases x.length <;> rfl
  | list ds =>
    obtain ⟨a, xs, rfl, ha, z, r⟩ := listW h
    refine .inl ⟨xs, ha, ?_⟩
    cases r <;> rfl
  | tuple ds =>
    obtain ⟨a, xs, rfl, ha, z, r⟩ := tupW h
    refine .inr (.inl ⟨xs, ha, ?_⟩)
    cases r <;> rfl
  | dict kvs =>
    obtain ⟨a, vs, rfl, ha, r⟩ := h
    refine .inr (.inr ⟨vs, ha, ?_⟩)
    cases r <;> rfl

theorem s_notV {a : Expr} {a' : E} {pos : Pos} (ha : PE X a ((tW X.K φ C W) a')) : PE X (.UnaryOp .Not a pos) ((tF X.K φ C W) (.not_ a')) :=
  pem (pe_notT ha) fun σ H Q ⟨O, ε, er, ot, q⟩ => by
    simp only [ev] at q
    refine tW_in er ot q fun x v H1 s1 r1 q1 => ?_
    exact ⟨_, r1.tru, q1 _ H1 s1 (Rp.bl _)⟩
theorem s_notT {a : Expr} {a' : E} {pos : Pos} (ha : PT X a ((tT X.K φ C W) a')) : PT X (.UnaryOp .Not a pos) ((tT X.K φ C W) (.not_ a')) :=
  ptm (pt_not ha) fun σ H Q ⟨O, ε, er, ot, q⟩ => by
    simp only [ev] at q
    exact tT_in er ot q fun x H1 s1 q1 => q1 H1 s1
theorem s_andV {a b : Expr} {rest : List Expr} {a' b' : E} {pos : Pos} (ha : PE X a ((tD X.K φ C W) a')) (hb : PE X (.BoolOp .And (b :: rest) pos) ((tD X.K φ C W) b')) : PE X (.BoolOp .And (a :: b :: rest) pos) ((tD X.K φ C W) (.and_ a' b')) :=
  pem (pe_andT ha hb) fun σ H Q ⟨O, ε, er, ot, q⟩ => by
    simp only [ev] at q
    refine tD_in er ot q fun x v H1 s1 r1 q1 => ⟨_, r1.weak.tru, ?_⟩
    by_cases c : truth x = true
    · rw [if_pos c] at q1 ⊢
      exact ⟨O, ε, er.same s1, ot.same s1, Res.sD q1 s1⟩
    · rw [if_neg c] at q1 ⊢
      exact q1 v H1 s1 r1
theorem s_orV {a b : Expr} {rest : List Expr} {a' b' : E} {pos : Pos} (ha : PE X a ((tD X.K φ C W) a')) (hb : PE X (.BoolOp .Or (b :: rest) pos) ((tD X.K φ C W) b')) : PE X (.BoolOp .Or (a :: b :: rest) pos) ((tD X.K φ C W) (.or_ a' b')) :=
  pem (pe_orT ha hb) fun σ H Q ⟨O, ε, er, ot, q⟩ => by
    simp only [ev] at q
    refine tD_in er ot q fun x v H1 s1 r1 q1 => ⟨_, r1.weak.tru, ?_⟩
    by_cases c : truth x = true
    · rw [if_pos c] at q1 ⊢
      exact q1 v H1 s1 r1
    · rw [if_neg c] at q1 ⊢
      exact ⟨O, ε, er.same s1, ot.same s1, Res.sD q1 s1⟩
theorem s_andT {a b : Expr} {rest : List Expr} {a' b' : E} {pos : Pos} (ha : PT X a ((tT X.K φ C W) a')) (hb : PW X (.BoolOp .And (b :: rest) pos) ((tT X.K φ C W) b')) : PW X (.BoolOp .And (a :: b :: rest) pos) ((tT X.K φ C W) (.and_ a' b')) :=
  pwm (pw_and ha hb) fun σ H Q ⟨O, ε, er, ot, q⟩ => by
    simp only [ev] at q
    refine tT_in er ot q fun x H1 s1 q1 => ?_
    by_cases c : truth x = true
    · rw [if_pos c] at q1 ⊢
      exact ⟨O, ε, er.same s1, ot.same s1, Res.sT q1 s1⟩
    · rw [if_neg c] at q1 ⊢
      have c' : truth x = false := by simpa using c
      have := q1 H1 s1
      rwa [c'] at this
theorem s_orT {a b : Expr} {rest : List Expr} {a' b' : E} {pos : Pos} (ha : PT X a ((tT X.K φ C W) a')) (hb : PW X (.BoolOp .Or (b :: rest) pos) ((tT X.K φ C W) b')) : PW X (.BoolOp .Or (a :: b :: rest) pos) ((tT X.K φ C W) (.or_ a' b')) :=
  pwm (pw_or ha hb) fun σ H Q ⟨O, ε, er, ot, q⟩ => by
    simp only [ev] at q
    refine tT_in er ot q fun x H1 s1 q1 => ?_
    by_cases c : truth x = true
    · rw [if_pos c] at q1 ⊢
      have := q1 H1 s1
      rwa [c] at this
    · rw [if_neg c] at q1 ⊢
      exact ⟨O, ε, er.same s1, ot.same s1, Res.sT q1 s1⟩
theorem s_ifV {c a b : Expr} {c' a' b' : E} {pos : Pos} (hc : PT X c ((tT X.K φ C W) c')) (ha : PE X a ((tD X.K φ C W) a')) (hb : PE X b ((tD X.K φ C W) b')) : PE X (.IfExp c a b pos) ((tD X.K φ C W) (.ite c' a' b')) :=
  pem (pe_ifExp hc ha hb) fun σ H Q ⟨O, ε, er, ot, q⟩ => by
    simp only [ev] at q
    refine tT_in er ot q fun x H1 s1 q1 => ?_
    by_cases c : truth x = true
    · rw [if_pos c] at q1 ⊢
      exact ⟨O, ε, er.same s1, ot.same s1, Res.sD q1 s1⟩
    · rw [if_neg c] at q1 ⊢
      exact ⟨O, ε, er.same s1, ot.same s1, Res.sD q1 s1⟩
theorem pt_if {c a b : Expr} {tc ta tb : TT} {pos : Pos} (hc : PT X c tc) (ha : PT X a ta) (hb : PT X b tb) : PT X (.IfExp c a b pos) (fun σ H Q => tc σ H fun k H1 => if k = true then ta σ H1 Q else tb σ H1 Q) := by
  refine ⟨fun pins s σ H Q I h => ?_⟩
  rw [arm_isTrue_IfExp]
  refine wpAny_bind (thn (hc.run pins s σ H _ I h) fun k s1 ⟨H1, I1, q1⟩ => ?_)
  cases k with
  | true => exact ha.run pins s1 σ H1 Q I1 q1
  | false => exact hb.run pins s1 σ H1 Q I1 q1
theorem s_ifT {c a b : Expr} {c' a' b' : E} {pos : Pos} (hc : PT X c ((tT X.K φ C W) c')) (ha : PT X a ((tT X.K φ C W) a')) (hb : PT X b ((tT X.K φ C W) b')) : PT X (.IfExp c a b pos) ((tT X.K φ C W) (.ite c' a' b')) :=
  ptm (pt_if hc ha hb) fun σ H Q ⟨O, ε, er, ot, q⟩ => by
    simp only [ev] at q
    refine tT_in er ot q fun x H1 s1 q1 => ?_
    by_cases c : truth x = true
    · rw [if_pos c] at q1 ⊢
      exact ⟨O, ε, er.same s1, ot.same s1, Res.sT q1 s1⟩
    · rw [if_neg c] at q1 ⊢
      exact ⟨O, ε, er.same s1, ot.same s1, Res.sT q1 s1⟩
/-- a test by its value -/
theorem s_truth {a : Expr} {a' : E} (ha : PE X a ((tW X.K φ C W) a')) (he : ∀ whole, isTrue a X.env whole = (do let v ← whole; standAt a.pos; holding [v] (truthy v))) : PT X a ((tT X.K φ C W) a') :=
  ptm (pt_truth ha he) fun σ H Q ⟨O, ε, er, ot, q⟩ => ⟨O, ε, er, ot, q.imp fun d _ k v H' s r => ⟨_, r.tru, k H' s⟩⟩

theorem s_cmp (hu : X.A.units + 65 < cLine) {a b : Expr} {a' b' : E} {o : CmpOp} {pos : Pos} (ha : PE X a ((tW X.K φ C W) a')) (hb : PE X b ((tW X.K φ C W) b')) (hm : behindInMarks o b = false) : PE X (.Compare a [o] [b] pos) ((tF X.K φ C W) (.cmp (cpOf o) a' b')) :=
  pem (pe_cmpR (cmp_ok hu o) ha hb hm) fun σ H Q ⟨O, ε, er, ot, q⟩ => by
    simp only [ev] at q
    refine tW_in er ot q fun x v H1 s1 r1 q1 => ?_
    refine tW_in (er.same s1) (ot.same s1) (Res.sF q1 s1) fun y u H2 s2 r2 q2 => ?_
    exact ⟨O, x, y, (ot.same s1).same s2, r1.same s2, r2, Res.poF' (cmpD_noex _ _ _) (Res.sF q2 s2)⟩
theorem s_cmpT (hu : X.A.units + 65 < cLine) {a b : Expr} {a' b' : E} {o : CmpOp} {pos : Pos} (ha : PE X a ((tW X.K φ C W) a')) (hb : PE X b ((tW X.K φ C W) b')) (hm : behindInMarks o b = false) : PT X (.Compare a [o] [b] pos) ((tT X.K φ C W) (.cmp (cpOf o) a' b')) :=
  ptm (pt_cmpR (cmp_ok hu o) ha hb hm) fun σ H Q ⟨O, ε, er, ot, q⟩ => by
    simp only [ev] at q
    refine tW_in er ot q fun x v H1 s1 r1 q1 => ?_
    refine tW_in (er.same s1) (ot.same s1) (Res.sT q1 s1) fun y u H2 s2 r2 q2 => ?_
    refine ⟨O, x, y, (ot.same s1).same s2, r1.same s2, r2, ?_⟩
    have q3 := Res.sT q2 s2
    cases e : cmpD (cpOf o) x y with
    | ok d =>
      rw [e] at q3
      obtain ⟨b, rfl⟩ := cmpD_bool e
      exact fun v H' s f => by cases (show Rp X.K O H' v _ from f); exact ⟨b, rfl, q3 H' s⟩
    | ex d => exact absurd e (cmpD_noex _ _ _ d)
    | st => rw [e] at q3; exact q3
theorem s_chain (hu : X.A.units + 65 < cLine) {a b d : Expr} {a' b' d' : E} {o o2 : CmpOp} {pos : Pos} (ha : PE X a ((tW X.K φ C W) a')) (hb : PE X b ((tW X.K φ C W) b')) (hd : PE X d ((tW X.K φ C W) d')) (hm : lastMarks [o, o2] [b, d] = false) :
    PE X (.Compare a [o, o2] [b, d] pos) ((tF X.K φ C W) (.chain (cpOf o) (cpOf o2) a' b' d')) :=
  pem (pe_chain (cmp_ok hu o) (cmp_ok hu o2) ha hb hd hm) fun σ H Q ⟨O, ε, er, ot, q⟩ => by
    simp only [ev] at q
    refine tW_in er ot q fun x v H1 s1 r1 q1 => ?_
    refine tW_in (er.same s1) (ot.same s1) (Res.sF q1 s1) fun y u H2 s2 r2 q2 => ?_
    refine ⟨O, x, y, (ot.same s1).same s2, r1.same s2, r2, ?_⟩
    have q3 := Res.sF q2 s2
    cases e : cmpD (cpOf o) x y with
    | ok z =>
      rw [e] at q3
      obtain ⟨k, rfl⟩ := cmpD_bool e
      refine fun w H3 s3 f => ?_
      cases (show Rp X.K O H3 w _ from f)
      refine ⟨k, rfl, ?_⟩
      cases k with
      | true =>
        rw [if_pos rfl]
        refine tW_in (((er.same s1).same s2).same s3) (((ot.same s1).same s2).same s3) (Res.sF q3 s3) fun z t H4 s4 r4 q4 => ?_
        exact ⟨O, y, z, (((ot.same s1).same s2).same s3).same s4, (r2.same s3).same s4, r4, Res.poF' (cmpD_noex _ _ _) (Res.sF q4 s4)⟩
      | false =>
        rw [if_neg Bool.false_ne_true]
        exact q3 _ H3 s3 (Rp.bl false)
    | ex z => exact absurd e (cmpD_noex _ _ _ z)
    | st => rw [e] at q3; exact q3
theorem s_chainT (hu : X.A.units + 65 < cLine) {a b d : Expr} {a' b' d' : E} {o o2 : CmpOp} {pos : Pos} (ha : PE X a ((tW X.K φ C W) a')) (hb : PE X b ((tW X.K φ C W) b')) (hd : PE X d ((tW X.K φ C W) d')) (hm : lastMarks [o, o2] [b, d] = false) :
    PT X (.Compare a [o, o2] [b, d] pos) ((tT X.K φ C W) (.chain (cpOf o) (cpOf o2) a' b' d')) :=
  ptm (pt_chain (cmp_ok hu o) (cmp_ok hu o2) ha hb hd hm) fun σ H Q ⟨O, ε, er, ot, q⟩ => by
    simp only [ev] at q
    refine tW_in er ot q fun x v H1 s1 r1 q1 => ?_
    refine tW_in (er.same s1) (ot.same s1) (Res.sT q1 s1) fun y u H2 s2 r2 q2 => ?_
    refine ⟨O, x, y, (ot.same s1).same s2, r1.same s2, r2, ?_⟩
    have q3 := Res.sT q2 s2
    cases e : cmpD (cpOf o) x y with
    | ok z =>
      rw [e] at q3
      obtain ⟨k, rfl⟩ := cmpD_bool e
      refine fun w H3 s3 f => ?_
      cases (show Rp X.K O H3 w _ from f)
      refine ⟨k, rfl, ?_⟩
      cases k with
      | true =>
        rw [if_pos rfl]
        refine tW_in (((er.same s1).same s2).same s3) (((ot.same s1).same s2).same s3) (Res.sT q3 s3) fun z t H4 s4 r4 q4 => ?_
        refine ⟨O, y, z, (((ot.same s1).same s2).same s3).same s4, (r2.same s3).same s4, r4, ?_⟩
        have q5 := Res.sT q4 s4
        cases e2 : cmpD (cpOf o2) y z with
        | ok z2 =>
          rw [e2] at q5
          obtain ⟨k2, rfl⟩ := cmpD_bool e2
          exact fun v5 H5 s5 f5 => by cases (show Rp X.K O H5 v5 _ from f5); exact ⟨k2, rfl, q5 H5 s5⟩
        | ex z2 => exact absurd e2 (cmpD_noex _ _ _ z2)
        | st => rw [e2] at q5; exact q5
      | false =>
        rw [if_neg Bool.false_ne_true]
        exact ⟨false, rfl, q3 H3 s3⟩
    | ex z => exact absurd e (cmpD_noex _ _ _ z)
    | st => rw [e] at q3; exact q3

/-! ### displays, subscripts -/
theorem s_nil : PA X [] ((tA X.K φ C W) []) := pam pa_nil fun σ H Q ⟨O, ε, er, ot, q⟩ => by
  simp only [evs] at q
  exact q [] H (Same.refl H) .nil
theorem s_cons {a : Expr} {es : List Expr} {a' : E} {es' : List E} (ha : PE X a ((tD X.K φ C W) a')) (hr : PA X es ((tA X.K φ C W) es')) (hs : starEach (a :: es) X.env = (false, eval a X.env) :: starEach es X.env) : PA X (a :: es) ((tA X.K φ C W) (a' :: es')) :=
  pam (pa_cons ha hr hs) fun σ H Q ⟨O, ε, er, ot, q⟩ => by
    simp only [evs] at q
    refine tD_in er ot q fun x v H1 s1 r1 q1 => ?_
    refine tL_in (er.same s1) (ot.same s1) (Res.sL q1 s1) fun xs vs H2 s2 r2 q2 => ?_
    exact q2 (v :: vs) H2 s2 (.cons (r1.same s2) r2)
theorem s_nilW : PA X [] ((tAW X.K φ C W) []) := pam pa_nil fun σ H Q ⟨O, ε, er, ot, q⟩ => by
  simp only [evs] at q
  exact q [] H (Same.refl H) .nil
theorem s_consW {a : Expr} {es : List Expr} {a' : E} {es' : List E} (ha : PE X a ((tW X.K φ C W) a')) (hr : PA X es ((tAW X.K φ C W) es')) (hs : starEach (a :: es) X.env = (false, eval a X.env) :: starEach es X.env) : PA X (a :: es) ((tAW X.K φ C W) (a' :: es')) :=
  pam (pa_cons ha hr hs) fun σ H Q ⟨O, ε, er, ot, q⟩ => by
    simp only [evs] at q
    refine tW_in er ot q fun x v H1 s1 r1 q1 => ?_
    refine tLW_in (er.same s1) (ot.same s1) (Res.sLW q1 s1) fun xs vs H2 s2 r2 q2 => ?_
    exact q2 (v :: vs) H2 s2 (.cons (r1.same s2) r2)
theorem s_tup {es : List Expr} {es' : List E} {k : Nat} {pos : Pos} (hl : es'.length ≤ 1000000) (h : PA X es ((tA X.K φ C W) es')) (hlen : ∀ ε ds, evs φ es' ε = .ok ds → ds.length = es'.length) : PE X (.Tuple es k pos) ((tF X.K φ C W) (.tup es')) :=
  pem (pe_tup h) fun σ H Q ⟨O, ε, er, ot, q⟩ => by
    simp only [ev] at q
    refine ⟨O, ε, er, ot, q.bind fun ds e k vs H1 s1 r1 => ?_⟩
    have hz : vs.length ≤ sizeLine := by rw [r1.length, hlen ε ds e, sizeLine_eq]; omega
    exact ⟨hz, fun p hp => k _ _ (s1.trans (same_new hp)) (Rp.newT hp r1 hz)⟩
theorem s_lst {es : List Expr} {es' : List E} {pos : Pos} (hl : es'.length ≤ 1000000) (h : PA X es ((tA X.K φ C W) es')) (hlen : ∀ ε ds, evs φ es' ε = .ok ds → ds.length = es'.length) : PE X (.List es pos) ((tF X.K φ C W) (.lst es')) :=
  pem (pe_lst h) fun σ H Q ⟨O, ε, er, ot, q⟩ => by
    simp only [ev] at q
    refine ⟨O, ε, er, ot, q.bind fun ds e k vs H1 s1 r1 => ?_⟩
    have hz : vs.length ≤ sizeLine := by rw [r1.length, hlen ε ds e, sizeLine_eq]; omega
    exact ⟨hz, fun p hp => k _ _ (s1.trans (same_new hp)) ((Fr.newL hp r1 hz).same0 s1)⟩
theorem s_dnew {pos : Pos} : PE X (.Dict [] [] pos) ((tF X.K φ C W) .dnew) :=
  pem pe_dnewK fun σ H Q ⟨O, ε, er, ot, q⟩ => by
    simp only [ev] at q
    exact fun p hp => q _ _ (same_new hp) ⟨p, [], rfl, hp, upd_same, fun _ _ => .nil⟩
theorem s_idx (hu : X.A.units + 65 < cLine) {a b : Expr} {a' b' : E} {pos : Pos} (ha : PE X a ((tW X.K φ C W) a')) (hb : PE X b ((tW X.K φ C W) b')) (hs : PlainIx b) : PE X (.Subscript a b pos) ((tD X.K φ C W) (.idx a' b')) :=
  pem (pe_ix (idx_ok hu) ha hb hs) fun σ H Q ⟨O, ε, er, ot, q⟩ => by
    simp only [ev] at q
    refine tW_in er ot q fun x v H1 s1 r1 q1 => ?_
    refine tW_in (er.same s1) (ot.same s1) (Res.sD q1 s1) fun y u H2 s2 r2 q2 => ?_
    exact ⟨O, x, y, (ot.same s1).same s2, r1.same s2, r2, Res.po (idxD_noex _ _) (Res.sD q2 s2)⟩
/-- a slice's part -/
def tOO (K : PySem.W.Frag) (φ : Nat → List D → Rs D) (C : Addr) (W : WX) (e : Option E) : TO := fun σ H Q => ∃ O ε, ER K O H σ ε ∧ OT O H ∧ Res K C W O σ H (evo φ e ε) fun o => ∀ H', Same H H' → Q o H'
theorem s_po0 : PO X none (tOO X.K φ C W none) := pom po_none fun σ H Q ⟨O, ε, er, ot, q⟩ => by
  simp only [evo] at q
  exact q H (Same.refl H)
theorem s_po1 {e : Expr} {e' : E} (h : PE X e ((tW X.K φ C W) e')) : PO X (some e) (tOO X.K φ C W (some e')) := pom (po_some h) fun σ H Q ⟨O, ε, er, ot, q⟩ => by
  simp only [evo] at q
  refine tW_in er ot q fun x v H1 s1 r1 q1 => ?_
  cases x <;> try exact (show False from q1).elim
  rename_i i
  cases intW r1
  exact ⟨i, rfl, q1 H1 s1⟩
theorem tO_in {a : Option E} {O : Ow} {ε : Env} {σ : L2.St} {H : Hp} {Q : Option Int → Hp → Prop} {β : Type} {f : Option Int → Rs β} {k : β → Prop} (er : ER X.K O H σ ε) (ot : OT O H) (h : Res X.K C W O σ H ((evo φ a ε).bnd f) k)
    (g : ∀ d H', Same H H' → Res X.K C W O σ H (f d) k → Q d H') : tOO X.K φ C W a σ H Q :=
  ⟨O, ε, er, ot, h.bind fun d _ q H' s => g d H' s q⟩
theorem s_sli {a : Expr} {lo hi : Option Expr} {a' : E} {lo' hi' : Option E} {p2 pos : Pos} (ha : PE X a ((tW X.K φ C W) a')) (hl : PO X lo (tOO X.K φ C W lo')) (hh : PO X hi (tOO X.K φ C W hi')) : PE X (.Subscript a (.Slice lo hi none p2) pos) ((tF X.K φ C W) (.sli a' lo' hi')) :=
  pem (pe_slice sli_ok ha hl hh) fun σ H Q ⟨O, ε, er, ot, q⟩ => by
    simp only [ev] at q
    refine tW_in er ot q fun x v H1 s1 r1 q1 => ?_
    refine tO_in (er.same s1) (ot.same s1) (Res.sF q1 s1) fun l H2 s2 q2 => ?_
    refine tO_in ((er.same s1).same s2) ((ot.same s1).same s2) (Res.sF q2 s2) fun h H3 s3 q3 => ?_
    exact ⟨O, x, ((ot.same s1).same s2).same s3, (r1.same s2).same s3, Res.poF' (sliD_noex _ _ _) (Res.sF q3 s3)⟩
theorem s_rev {a : Expr} {a' : E} {k : Nat} {p1 p2 p3 pos : Pos} (ha : PE X a ((tW X.K φ C W) a')) : PE X (.Subscript a (.Slice none none (some (.UnaryOp .USub (.Constant (.int 1) k p1) p2)) p3) pos) ((tF X.K φ C W) (.rev a')) :=
  pem (pe_rev2 ha) fun σ H Q ⟨O, ε, er, ot, q⟩ => by
    simp only [ev] at q
    refine tW_in er ot q fun x v H1 s1 r1 q1 => ?_
    cases x <;> try exact (show False from q1).elim
    · obtain ⟨b, xs, rfl, hb, z, r⟩ := listW r1
      exact .inl ⟨b, xs, rfl, hb, fun p hp => q1 _ _ (s1.trans (same_new hp)) ((Fr.newL hp r.rev (by rw [List.length_reverse]; exact z)).same0 s1)⟩
    · obtain ⟨b, xs, rfl, hb, z, r⟩ := tupW r1
      exact .inr ⟨b, xs, rfl, hb, fun p hp => q1 _ _ (s1.trans (same_new hp)) (Rp.newT hp r.rev (by rw [List.length_reverse]; exact z))⟩
mutual
theorem Rp.nm {K : PySem.W.Frag} {O O' : Ow} {H : Hp} : ∀ {v : V} {d : D}, Rp K O H v d → noMut d = true → Rp K O' H v d
  | _, _, .non, _ => .non
  | _, _, .bl b, _ => .bl b
  | _, _, .int i, _ => .int i
  | _, _, .str x a b, _ => .str x a b
  | _, _, .lst h z r, c => by simp [noMut] at c
  | _, _, .tup h z r, c => .tup h z (Rps.nm r (by simpa [noMut] using c))
  | _, _, .dk .., c => by simp [noMut] at c
theorem Rps.nm {K : PySem.W.Frag} {O O' : Ow} {H : Hp} : ∀ {vs : List V} {ds : List D}, Rps K O H vs ds → noMuts ds = true → Rps K O' H vs ds
  | _, _, .nil, _ => .nil
  | _, _, .cons h r, c => by
    simp only [noMuts, Bool.and_eq_true] at c
    exact .cons (Rp.nm h c.1) (Rps.nm r c.2)
end
/-- all that is owned counts as nobody's -/
def On : Ow := fun _ => none
theorem fzOn {O : Ow} {H : Hp} : Fz O H On H := ⟨fun _ _ e _ => ⟨e, rfl⟩, fun _ _ e => e, fun _ _ _ e => e⟩
theorem ER.frzAll {K : PySem.W.Frag} {O O' : Ow} {H : Hp} {σ : L2.St} {ε : Env} (er : ER K O H σ ε) (f : Fz O H O' H) (n : ∀ (i : Nat) (p : Addr) (d : D), ε[i]? = some (Sl.o d) → σ[i]? = some (some (V.ref p)) → O' p = none) : ER K O' H σ (ε.map frzS) := by
  refine ⟨by rw [List.length_map]; exact er.1, fun i s e => ?_⟩
  rw [List.getElem?_map] at e
  cases h : ε[i]? with
  | none => rw [h] at e; cases e
  | some s' =>
    rw [h] at e
    cases e
    have q := er.2 i s' h
    cases s' with
    | u => trivial
    | f d => obtain ⟨v, h1, h2⟩ := q; exact ⟨v, h1, h2.mv f⟩
    | o d =>
      obtain ⟨v, h1, h2⟩ := q
      refine ⟨v, h1, ?_⟩
      cases d with
      | list ds => obtain ⟨a, xs, e, q, z, r⟩ := h2; subst e; exact .lst (.of q (n i a _ h h1)) z (r.mv f)
      | dict ds => obtain ⟨a, kvs, e, q, r⟩ := h2; subst e; exact .dk q (n i a _ h h1) (r.mv f)
      | none => exact Rp.mv f (show Rp K O H v _ from h2)
      | bool b => exact Rp.mv f (show Rp K O H v _ from h2)
      | int i => exact Rp.mv f (show Rp K O H v _ from h2)
      | str x => exact Rp.mv f (show Rp K O H v _ from h2)
      | tuple ds => exact Rp.mv f (show Rp K O H v _ from h2)
theorem s_nomut {a : Expr} {a' : E} (ha : PE X a ((tD X.K φ C W) a')) : PE X a ((tD X.K φ C W) (.nomut a')) :=
  pem ha fun σ H Q ⟨O, ε, er, ot, q⟩ => by
    simp only [ev] at q
    refine ⟨On, ε.map frzS, er.frzAll fzOn fun _ _ _ _ _ => rfl, (fun a i e => by cases e), ?_⟩
    cases e : ev φ a' (ε.map frzS) with
    | ok x =>
      rw [e] at q
      by_cases c : noMut x = true
      · have q : Res X.K C W O σ H (if noMut x = true then .ok x else .st) (kD X.K O H Q) := q
        rw [if_pos c] at q
        exact fun v H' s r => q v H' s (r.nm c)
      · have q : Res X.K C W O σ H (if noMut x = true then .ok x else .st) (kD X.K O H Q) := q
        rw [if_neg c] at q; exact q.elim
    | ex x =>
      rw [e] at q
      by_cases c : noMut x = true
      · have q : Res X.K C W O σ H (if noMut x = true then .ex x else .st) (kD X.K O H Q) := q
        rw [if_pos c] at q
        exact fun dx v H' s a r => q dx v H' s a (r.nm c)
      · have q : Res X.K C W O σ H (if noMut x = true then .ex x else .st) (kD X.K O H Q) := q
        rw [if_neg c] at q; exact q.elim
    | st => rw [e] at q; exact q.elim
end
end Ws

set_option Elab.async false
set_option linter.all false
set_option maxRecDepth 100000
set_option maxHeartbeats 4000000
/-! Sim11: calls, walks, targets -/
namespace Ws
open PySem PySem.Spec PyProof.Rows L2

section
variable {K : PySem.W.Frag} {O O' : Ow} {H H' : Hp} {σ : L2.St} {ε : Env}
theorem ER.mvS (h : ER K O H σ ε) (f : Fz O H O' H') (s : Same H H') : ER K O' H' σ ε := ⟨h.1, fun i x e => by
  have := h.2 i x e
  cases x with
  | u => trivial
  | f d => obtain ⟨v, h1, h2⟩ := this; exact ⟨v, h1, h2.mv f⟩
  | o d =>
    obtain ⟨v, h1, h2⟩ := this
    refine ⟨v, h1, ?_⟩
    cases d with
    | list ds => obtain ⟨a, xs, e, q, z, r⟩ := h2; exact ⟨a, xs, e, Same.sql s q, z, r.mv f⟩
    | dict ds => obtain ⟨a, kvs, e, q, r⟩ := h2; exact ⟨a, kvs, e, s _ _ q, r.mv f⟩
    | none => exact Rp.mv f (show Rp K O H v _ from h2)
    | bool b => exact Rp.mv f (show Rp K O H v _ from h2)
    | int i => exact Rp.mv f (show Rp K O H v _ from h2)
    | str x => exact Rp.mv f (show Rp K O H v _ from h2)
    | tuple ds => exact Rp.mv f (show Rp K O H v _ from h2)⟩
theorem ER.set {i : Nat} {v : V} {d : D} (h : ER K O H σ ε) (r : Rp K O H v d) : ER K O H (σ.set i (some v)) (put ε i d) := by
  refine ⟨by simp only [put, List.length_set]; exact h.1, fun j s e => ?_⟩
  unfold put at e
  by_cases ij : i = j
  · subst ij
    have lt : i < ε.length := by
      have := (List.getElem?_eq_some_iff.mp e).1
      rwa [List.length_set] at this
    rw [List.getElem?_set_self lt] at e
    injection e with e; subst e
    exact ⟨v, by rw [List.getElem?_set_self (Nat.lt_of_lt_of_le lt h.1)], r⟩
  · rw [List.getElem?_set_ne ij] at e
    have := h.2 j s e
    cases s with
    | u => trivial
    | f d => obtain ⟨w, h1, h2⟩ := this; exact ⟨w, by rw [List.getElem?_set_ne ij]; exact h1, h2⟩
    | o d => obtain ⟨w, h1, h2⟩ := this; exact ⟨w, by rw [List.getElem?_set_ne ij]; exact h1, h2⟩
theorem ER.wipe (h : ER K O H σ ε) : ∀ vs : List Nat, ER K O H (L2.wipe σ vs) (wipeE ε vs)
  | [] => h
  | v :: vs => by
    have ih := ER.wipe h vs
    unfold L2.wipe wipeE
    refine ⟨by simp only [List.length_set]; exact ih.1, fun j s e => ?_⟩
    by_cases ij : v = j
    · subst ij
      have lt : v < (wipeE ε vs).length := by
        have := (List.getElem?_eq_some_iff.mp e).1
        rwa [List.length_set] at this
      rw [List.getElem?_set_self lt] at e
      injection e with e; subst e; trivial
    · rw [List.getElem?_set_ne ij] at e
      have := ih.2 j s e
      cases s with
      | u => trivial
      | f d => obtain ⟨w, h1, h2⟩ := this; exact ⟨w, by rw [List.getElem?_set_ne ij]; exact h1, h2⟩
      | o d => obtain ⟨w, h1, h2⟩ := this; exact ⟨w, by rw [List.getElem?_set_ne ij]; exact h1, h2⟩
theorem wipe_set {v : Option V} {i : Nat} : ∀ {vs : List Nat}, i ∈ vs → L2.wipe (σ.set i v) vs = L2.wipe σ vs
  | j :: vs, h => by
    unfold L2.wipe
    by_cases m : i ∈ vs
    · rw [wipe_set m]
    · have e : i = j := by
        rcases List.mem_cons.mp h with h | h
        · exact h
        · exact absurd h m
      subst e
      refine List.ext_getElem? fun n => ?_
      by_cases hn : i = n
      · subst hn
        rw [List.getElem?_set, List.getElem?_set, wipe_length, wipe_length, List.length_set]
        simp
      · rw [List.getElem?_set_ne hn, List.getElem?_set_ne hn]
        by_cases m2 : n ∈ vs
        · have aux : ∀ (us : List Nat) (τ : L2.St), n ∈ us → (L2.wipe τ us)[n]? = if n < τ.length then some none else none := by
            intro us
            induction us with
            | nil => intro τ h; cases h
            | cons a us ih =>
              intro τ h
              unfold L2.wipe
              rw [List.getElem?_set, wipe_length]
              by_cases an : a = n
              · rw [if_pos an]; subst an; rfl
              · rw [if_neg an]
                rcases List.mem_cons.mp h with h | h
                · exact absurd h.symm an
                · exact ih τ h
          rw [aux vs _ m2, aux vs _ m2, List.length_set]
        · rw [wipe_out m2, wipe_out m2, List.getElem?_set_ne hn]
theorem wipe_wipe' : ∀ {us vs : List Nat}, (∀ i ∈ us, i ∈ vs) → L2.wipe (L2.wipe σ us) vs = L2.wipe σ vs
  | [], vs, _ => rfl
  | u :: us, vs, h => by
    have e : L2.wipe σ (u :: us) = (L2.wipe σ us).set u none := rfl
    rw [e, wipe_set (h u List.mem_cons_self), wipe_wipe' fun i hi => h i (List.mem_cons_of_mem _ hi)]
theorem wipe_wipe {vs : List Nat} : L2.wipe (L2.wipe σ vs) vs = L2.wipe σ vs := wipe_wipe' fun _ h => h
end

/-! ### calls -/
/-- what a def promises -/
def spD (K : PySem.W.Frag) (φ : Nat → List D → Rs D) (C : Addr) (i n : Nat) : Sp := fun vs H Q E => ∃ O ds, OT O H ∧ Rps K O H vs ds ∧ vs.length = n ∧ (match φ i ds with
  | .ok d => ∀ v H', Same H H' → Rp K O H' v d → Q v H'
  | .ex d => ∀ dx v H', Same H H' → H' dx = some (.xd [(atS, v)]) → Rp K O H' v d → E (.ref C) (some dx) H'
  | .st => False)
/-- a table of the module by texts -/
def TabIs (K : PySem.W.Frag) (w : World) (mg : Str → Option Value) (T : Str) (kvs : List (Str × D)) : Prop :=
  ∃ a es n, mg T = some (.ref a) ∧ KDict K w a es n ∧ ∀ z : Str, (∀ d, tabAt kvs z = some d → ∃ u v, PySem.W.nsIn K a z = some (some u) ∧ RelV v u ∧ ∀ O H, Rp K O H v d) ∧ (tabAt kvs z = none → PySem.W.nsIn K a z = some none)
/-- what the body's context gives -/
structure Good (c : Cfg) (φ : Nat → List D → Rs D) (C : Addr) (k : Nat) (X : Cx) : Prop where
  hN : X.N = c.N
  nd : X.N.Nodup
  calm : X.calm = true
  room : Room (3 * k + 2) X.A
  fns : ∀ i x, c.fns[i]? = some x → ∃ f fd ps, X.mg x = some (.ref f) ∧ PySem.W.keepIn X.K (.ref f) = true ∧ Binds X.K fd ps [] ∧ FnOk X.prog X.w X.K X.mg X.base (L2.CX X.prog X.w) (3 * k) f fd ps (spD X.K φ C i ps.length) ∧ (∀ ds, φ i ds ≠ .st → ds.length = ps.length)
  cs : ∀ x d, c.cs.lookup x = some d → ∃ u v, X.mg x = some u ∧ RelV v u ∧ ∀ O H, Rp X.K O H v d
  bl : ∀ x, x ∈ c.bl → X.mg x = none
  gcd : c.gcd = true → X.mg "gcd" = some (.builtin "math.gcd")
  tabs : ∀ T kvs, c.tabs.lookup T = some kvs → TabIs X.K X.w X.mg T kvs
theorem Good.hu {c : Cfg} {φ : Nat → List D → Rs D} {C : Addr} {k : Nat} {X : Cx} (g : Good c φ C k X) : X.A.units + 65 < cLine := by
  have := g.room.un; omega
theorem Good.blk {c : Cfg} {φ : Nat → List D → Rs D} {C : Addr} {k : Nat} {X : Cx} (g : Good c φ C k X) (s : Shared) (H : Hp) (scope : Scope) (ce : PySem.Env) (fp : List Addr) : Good c φ C k (X.blk s H scope ce fp) :=
  ⟨g.hN, g.nd, g.calm, g.room, g.fns, g.cs, g.bl, g.gcd, g.tabs⟩
abbrev W0 : WX := fun _ _ _ _ => False
theorem starCons {e : Expr} {es : List Expr} {env : PySem.Env} (h : lone e = true) : starEach (e :: es) env = (false, eval e env) :: starEach es env := by
  cases e <;> first | rfl | (simp [lone] at h; done)
def lones : List Expr → Bool
  | [] => true
  | e :: es => lone e && lones es
theorem starNone {env : PySem.Env} {pos : Pos} : ∀ {es : List Expr}, lones es = true → (backTo pos (starEach es env)).any (·.1) = false := by
  have aux : ∀ {es : List Expr}, lones es = true → (starEach es env).any (·.1) = false := by
    intro es
    induction es with
    | nil => intro _; rfl
    | cons e es ih =>
      intro h
      simp only [lones, Bool.and_eq_true] at h
      rw [starCons h.1]
      simpa using ih h.2
  intro es h
  have h := aux h
  first
    | simpa [backTo] using h
    | (unfold backTo; split <;> simp_all)
    | simp_all

section
variable {X : Cx} {φ : Nat → List D → Rs D} {C : Addr} {W : WX} {c : Cfg} {k : Nat}
theorem pe_callS0 {CX : CXT} {f : Addr} {fd : FuncData} {ps : List Str} {sp : Sp} {E : L2.St → XK} {x : Str} {p pos : Pos} (F : FnOk X.prog X.w X.K X.mg X.base CX k f fd ps sp) (hr : Room k X.A) (hg : Gl X x) (hm : X.mg x = some (.ref f)) (hk : PySem.W.keepIn X.K (.ref f) = true) (hb : Binds X.K fd ps []) (hx : ∀ σ, PassesAt CX X σ (E σ))
    (hdb : (x == ("__debug__" : Str)) = false) : PE X (.Call (.Name x p) [] [] pos) (tCallS sp E tNil) := by
  refine ⟨fun pins s σ H Q I h => ?_⟩
  refine wpAny_Call_Name_kw (ld_glob I hg hm ?_ hdb)
  exact PySem.W.callWith_K0 I.kIn hk (run_fnS (us := []) F hr hb (hx σ) I .nil h)
theorem sp_in {i n : Nat} {es : List E} {O : Ow} {ε : Env} {σ : L2.St} {H : Hp} {Q : VK} (ot : OT O H) (hl : ∀ ds, φ i ds ≠ .st → ds.length = n) {ds : List D} {vs : List V} {H1 : Hp} (s1 : Same H H1) (r1 : Rps X.K O H1 vs ds)
    (q : Res X.K C W O σ H (φ i ds) (kD X.K O H Q)) : spD X.K φ C i n vs H1 Q (WE W σ) := by
  refine ⟨O, ds, ot.same s1, r1, ?_, ?_⟩
  · rw [r1.length]
    refine hl ds fun e => ?_
    rw [e] at q; exact q
  · cases e : φ i ds with
    | ok d => rw [e] at q; exact fun v H' s r => q v H' (s1.trans s) r
    | ex d => rw [e] at q; exact fun dx v H' s a r => q dx v H' (s1.trans s) a r
    | st => rw [e] at q; exact q
theorem s_call (g : Good c φ C k X) (tk : Takes X W) {i : Nat} {x : Str} {es : List Expr} {es' : List E} {p pos : Pos} (hi : c.fns[i]? = some x) (hg : Gl X x) (hd : (x == ("__debug__" : Str)) = false) (ha : PA X es ((tA X.K φ C W) es')) (hl : lones es = true) (h0 : es = [] → es' = []) :
    PE X (.Call (.Name x p) es [] pos) ((tD X.K φ C W) (.call i es')) := by
  obtain ⟨f, fd, ps, hm, hk, hb, F, hn⟩ := g.fns i x hi
  cases es with
  | nil =>
    rw [h0 rfl]
    refine pem (pe_callS0 F (g.room.mono (by omega)) hg hm hk hb (passAt tk) hd) fun σ H Q ⟨O, ε, er, ot, q⟩ => ?_
    simp only [ev, evs, Rs.bnd_ok] at q
    exact sp_in (es := []) (ε := ε) ot hn (Same.refl H) .nil q
  | cons e es =>
    simp only [lones, Bool.and_eq_true] at hl
    refine pem (pe_callS F (g.room.mono (by omega)) hg hm hk hb (passAt tk) ha hd (starCons hl.1) (starNone hl.2)) fun σ H Q ⟨O, ε, er, ot, q⟩ => ?_
    simp only [ev] at q
    exact tL_in er ot q fun ds vs H1 s1 r1 q1 => sp_in (es := es') (ε := ε) ot hn s1 r1 q1
theorem Good.bi (g : Good c φ C k X) {x : Str} {b : Bi} (h : biOf x = some b) : CallR X (biVal b) (rBi X.K b) := (bi_ok g.calm (by have := g.hu; omega) h).1
theorem s_biG {b : Bi} {es : List Expr} {es' : List E} {x : Str} {p pos : Pos} (h : PE X (.Call (.Name x p) es [] pos) (tCB (rBi X.K b) ((tAW X.K φ C W) es'))) :
    PE X (.Call (.Name x p) es [] pos) ((tD X.K φ C W) (.bi b es')) ∧ (biNew b = true → PE X (.Call (.Name x p) es [] pos) ((tF X.K φ C W) (.bi b es'))) := by
  refine ⟨pem h fun σ H Q ⟨O, ε, er, ot, q⟩ => ?_, fun nw => pem h fun σ H Q ⟨O, ε, er, ot, q⟩ => ?_⟩
  · simp only [ev] at q
    refine tLW_in er ot q fun ds vs H1 s1 r1 q1 => ⟨O, ds, ot.same s1, r1, ?_⟩
    have q2 := Res.sD q1 s1
    unfold PoB
    split
    · exact Res.poF (biD_noex _ _) (ot.same s1) q2
    · exact Res.po (biD_noex _ _) q2
  · simp only [ev] at q
    refine tLW_in er ot q fun ds vs H1 s1 r1 q1 => ⟨O, ds, ot.same s1, r1, ?_⟩
    have q2 := Res.sF q1 s1
    rw [nw]
    exact Res.poF' (biD_noex _ _) q2
theorem s_bi (g : Good c φ C k X) {x : Str} {b : Bi} (hb : biOf x = some b) {e : Expr} {es : List Expr} {es' : List E} {p pos : Pos} (hg : Gl X x) (hm : X.mg x = none) (ha : PA X (e :: es) ((tAW X.K φ C W) es')) (hl : lones (e :: es) = true) :
    PE X (.Call (.Name x p) (e :: es) [] pos) ((tD X.K φ C W) (.bi b es')) ∧ (biNew b = true → PE X (.Call (.Name x p) (e :: es) [] pos) ((tF X.K φ C W) (.bi b es'))) := by
  obtain ⟨cr, hv, hn, hd, hk⟩ := bi_ok g.calm (by have := g.hu; omega) hb
  simp only [lones, Bool.and_eq_true] at hl
  refine s_biG ?_
  rcases hk with ⟨id, hid⟩ | ⟨T, hT⟩
  · rw [hid] at cr hv
    exact pe_callB cr hg hm hv ha hn hd (starCons hl.1) (starNone hl.2)
  · rw [hT] at cr hv
    exact pe_callTy cr hg hm hv ha hn hd (starCons hl.1) (starNone hl.2)
theorem s_gcd (g : Good c φ C k X) (hc : c.gcd = true) {e : Expr} {es : List Expr} {es' : List E} {p pos : Pos} (hg : Gl X "gcd") (ha : PA X (e :: es) ((tAW X.K φ C W) es')) (hl : lones (e :: es) = true) :
    PE X (.Call (.Name "gcd" p) (e :: es) [] pos) ((tD X.K φ C W) (.bi .gcd es')) ∧ (biNew .gcd = true → PE X (.Call (.Name "gcd" p) (e :: es) [] pos) ((tF X.K φ C W) (.bi .gcd es'))) := by
  simp only [lones, Bool.and_eq_true] at hl
  exact s_biG (pe_callBfun bi_gcd hg (g.gcd hc) ha (by decide +kernel) (starCons hl.1) (starNone hl.2))

/-- min(xs, default=d) -/
theorem s_biD (g : Good c φ C k X) {f : Str} {b : Bi} {id : String} (hb : CallRK X (.builtin id) [Str.ofString "default"] (rBiD X.K b)) (hv : bootBuiltins f = some (.builtin id)) (hn : f ≠ "__name__") (hdb : (f == ("__debug__" : Str)) = false) {e d : Expr} {e' d' : E} {p pos kp : Pos} (hg : Gl X f) (hm : X.mg f = none) (he : PE X e ((tW X.K φ C W) e')) (hd : PE X d ((tD X.K φ C W) d')) (hl : lone e = true) :
    PE X (.Call (.Name f p) [e] [⟨some (Str.ofString "default"), d, kp⟩] pos) ((tD X.K φ C W) (.bi b [e', d'])) := by
  refine pem (pe_callBK (t := tCons ((tW X.K φ C W) e') tNil) (tk := tCons ((tD X.K φ C W) d') tNil) hb hg hm hv (pa_cons he pa_nil (starCons hl)) (pk_cons hd pk_nil) hn hdb (by rw [starCons hl]; rfl) (starNone (by simp [lones, hl]))) fun σ H Q ⟨O, ε, er, ot, q⟩ => ?_
  simp only [ev, evs] at q
  have q' : Res X.K C W O σ H ((ev φ e' ε).bnd fun x => (ev φ d' ε).bnd fun y => biD b [x, y]) (kD X.K O H Q) := by
    cases h1 : ev φ e' ε <;> rw [h1] at q
    · simp only [Rs.bnd_ok] at q ⊢
      cases h2 : ev φ d' ε <;> rw [h2] at q <;> exact q
    · exact q
    · exact q
  refine tW_in er ot q' fun x v H1 s1 r1 q1 => ?_
  refine tD_in (er.same s1) (ot.same s1) (Res.sD q1 s1) fun y w H2 s2 r2 q2 => ?_
  exact ⟨O, v, w, x, y, rfl, rfl, (ot.same s1).same s2, r1.same s2, r2, Res.po (biD_noex _ _) (Res.sD q2 s2)⟩

/-! ### isinstance -/
def tyN : Ty → String
  | .int => "int" | .bool => "bool" | .str => "str" | .list => "list" | .tuple => "tuple" | .dict => "dict"
def tyD : D → String
  | .none => "NoneType" | .bool _ => "bool" | .int _ => "int" | .str _ => "str" | .list _ => "list" | .tuple _ => "tuple" | .dict _ => "dict"
theorem tyOf_eq {x : Str} {t : Ty} (h : tyOf x = some t) : bootBuiltins x = some (.type (tyN t)) ∧ x ≠ "__name__" ∧ (x == ("__debug__" : Str)) = false := by
  unfold tyOf at h
  split at h
  · rename_i e; cases h; subst e; exact ⟨by decide +kernel, by decide +kernel, by decide +kernel⟩
  split at h
  · rename_i e; cases h; subst e; exact ⟨by decide +kernel, by decide +kernel, by decide +kernel⟩
  split at h
  · rename_i e; cases h; subst e; exact ⟨by decide +kernel, by decide +kernel, by decide +kernel⟩
  split at h
  · rename_i e; cases h; subst e; exact ⟨by decide +kernel, by decide +kernel, by decide +kernel⟩
  split at h
  · rename_i e; cases h; subst e; exact ⟨by decide +kernel, by decide +kernel, by decide +kernel⟩
  split at h
  · rename_i e; cases h; subst e; exact ⟨by decide +kernel, by decide +kernel, by decide +kernel⟩
  · cases h
theorem tyX {K : PySem.W.Frag} {O : Ow} {H : Hp} {v : V} {d : D} (h : RpW K O H v d) : TyX K H v (.type (tyD d)) := by
  cases d with
  | list ds =>
    obtain ⟨a, xs, rfl, q, z, r⟩ := h
    rcases q with (q | ⟨o, q⟩) | ⟨o, its, n, q1, q2, q3⟩
    · exact .base (.lst q)
    · exact .base (.frz q)
    · exact .kList q1 q2
  | dict ds => obtain ⟨a, kvs, rfl, q, r⟩ := h; exact .base (.dK q)
  | none => cases (show Rp K O H v _ from h); exact .base .non
  | bool b => cases (show Rp K O H v _ from h); exact .base (.bl b)
  | int i => cases (show Rp K O H v _ from h); exact .base (.int i)
  | str x => cases (show Rp K O H v _ from h); exact .base (.str x)
  | tuple ds =>
    obtain ⟨a, xs, rfl, q, z, r⟩ := tupW h
    rcases q with (q | ⟨o, q⟩) | ⟨o, its, n, q1, q2, q3⟩
    · exact .base (.tup q)
    · exact .fTuple q
    · exact .kTuple q1 q2
def tyS (s : String) (t : Ty) : Bool := match t with
  | .int => s == "int" || s == "bool"
  | t => s == tyN t
theorem tyIs_S (t : Ty) (d : D) : tyIs t d = tyS (tyD d) t := by
  cases d <;> cases t <;> simp [tyIs, tyS, tyD, tyN]
theorem kit7 : ∀ s ∈ ["NoneType", "bool", "int", "str", "list", "tuple", "dict"], ∀ t ∈ [Ty.int, .bool, .str, .list, .tuple, .dict], kitB s (tyN t) = some (tyS s t) := by decide +kernel
theorem kitD (K : PySem.W.Frag) (d : D) (t : Ty) : PySem.W.kitOne K (.type (tyD d)) (.type (tyN t)) = some (tyIs t d) := by
  refine kit_ty ?_
  rw [tyIs_S]
  exact kit7 _ (by cases d <;> simp [tyD]) _ (by cases t <;> simp)
theorem s_ty {x : Str} {t : Ty} {pos : Pos} (h : tyOf x = some t) (hg : Gl X x) (hm : X.mg x = none) : PE X (.Name x pos) (tC (.ty (tyN t))) := by
  obtain ⟨h1, h2, h3⟩ := tyOf_eq h
  exact pe_bltn hg hm h1 rfl h2 h3
theorem s_isi1 {e : Expr} {e' : E} {x : Str} {t : Ty} {p p2 pos : Pos} (he : PE X e ((tW X.K φ C W) e')) (hl : lone e = true) (ht : tyOf x = some t) (hgx : Gl X x) (hmx : X.mg x = none) (hg : Gl X "isinstance") (hm : X.mg "isinstance" = none) :
    PE X (.Call (.Name "isinstance" p) [e, .Name x p2] [] pos) ((tF X.K φ C W) (.isi e' [t])) := by
  have ha : PA X [e, .Name x p2] (tCons ((tW X.K φ C W) e') (tCons (tC (.ty (tyN t))) tNil)) := pa_cons he (pa_cons (s_ty ht hgx hmx) pa_nil rfl) (starCons hl)
  refine pem (pe_callB call_isi hg hm (by decide +kernel) ha (by decide +kernel) (by decide +kernel) (starCons hl) (starNone (es := [_]) rfl)) fun σ H Q ⟨O, ε, er, ot, q⟩ => ?_
  simp only [ev] at q
  refine tW_in er ot q fun d v H1 s1 r1 q1 => ?_
  refine ⟨v, .ty (tyN t), _, _, tyIs t d, rfl, .ty _, tyX r1, kitD _ _ _, ?_⟩
  refine q1 (.bl _) H1 s1 ?_
  simp only [List.any_cons, List.any_nil, Bool.or_false]
  exact Rp.bl _
theorem s_isi2 {e : Expr} {e' : E} {x y : Str} {t u : Ty} {kk : Nat} {p p2 p3 p4 pos : Pos} (he : PE X e ((tW X.K φ C W) e')) (hl : lone e = true) (ht : tyOf x = some t) (hu : tyOf y = some u) (hgx : Gl X x) (hmx : X.mg x = none) (hgy : Gl X y) (hmy : X.mg y = none) (hg : Gl X "isinstance") (hm : X.mg "isinstance" = none) :
    PE X (.Call (.Name "isinstance" p) [e, .Tuple [.Name x p2, .Name y p3] kk p4] [] pos) ((tF X.K φ C W) (.isi e' [t, u])) := by
  have hT : PE X (.Tuple [.Name x p2, .Name y p3] kk p4) (tTup (tCons (tC (.ty (tyN t))) (tCons (tC (.ty (tyN u))) tNil))) := pe_tup (pa_cons (s_ty ht hgx hmx) (pa_cons (s_ty hu hgy hmy) pa_nil rfl) rfl)
  have ha : PA X [e, .Tuple [.Name x p2, .Name y p3] kk p4] (tCons ((tW X.K φ C W) e') (tCons (tTup (tCons (tC (.ty (tyN t))) (tCons (tC (.ty (tyN u))) tNil))) tNil)) := pa_cons he (pa_cons hT pa_nil rfl) (starCons hl)
  refine pem (pe_callB call_isiT hg hm (by decide +kernel) ha (by decide +kernel) (by decide +kernel) (starCons hl) (starNone (es := [_]) rfl)) fun σ H Q ⟨O, ε, er, ot, q⟩ => ?_
  simp only [ev] at q
  refine tW_in er ot q fun d v H1 s1 r1 q1 => ?_
  refine ⟨by show 2 ≤ sizeLine; rw [sizeLine_eq]; omega, fun T hT => ?_⟩
  have s2 := same_new (o := .tup [.ty (tyN t), .ty (tyN u)]) hT
  refine ⟨v, T, _, _, _, tyIs t d || tyIs u d, rfl, upd_same, .cons (.ty _) (.cons (.ty _) .nil), tyX (r1.same s2), kitAny_cons (kitD _ d t) (b := tyIs t d) (fun e => kitAny_cons (kitD _ d u) (fun e2 => ?_) (fun e2 => ?_)) (fun e => ?_), ?_⟩
  · rw [e, e2]; exact kitAny_nil
  · rw [e, e2]; rfl
  · rw [e]; rfl
  · refine q1 (.bl _) _ (s1.trans s2) ?_
    simp only [List.any_cons, List.any_nil, Bool.or_false]
    exact Rp.bl _
end
end Ws

set_option Elab.async false
set_option linter.all false
set_option maxRecDepth 100000
set_option maxHeartbeats 4000000
/-! Sim12: walks, targets, comprehensions -/
namespace Ws
open PySem PySem.Spec PyProof.Rows L2

/-- a walk over the data ds, whoever owns what -/
structure WkA (K : PySem.W.Frag) (O : Ow) (H : Hp) (J : L2.It) (ds : List D) : Prop where
  go : ∀ i d, ds[i]? = some d → J.go i H
  yld : ∀ i d x H', ds[i]? = some d → J.yld i H x H' → H' = H ∧ Rp K O H x d
  stop : J.stop ds.length H
section
variable {K : PySem.W.Frag} {O : Ow} {H : Hp} {a : Addr} {xs : List V} {ds : List D}
theorem lt_of_some {α : Type} {l : List α} {i : Nat} {d : α} (h : l[i]? = some d) : i < l.length := (List.getElem?_eq_some_iff.mp h).1
theorem wka_list (q : SqL K H a xs) (r : Rps K O H xs ds) : WkA K O H (Itl K a) ds where
  go i d e := walk_list.goes i H (by rw [r.length]; exact lt_of_some e) q
  yld i d x H' e y := by
    obtain ⟨h1, h2⟩ := walk_list.yields i H x H' (by rw [r.length]; exact lt_of_some e) q y
    obtain ⟨v, h3, h4⟩ := r.get e
    rw [h2] at h3; cases h3
    exact ⟨h1, h4⟩
  stop := by rw [← r.length]; exact walk_list.stops H q
theorem wka_tup (q : SqT K H a xs) (r : Rps K O H xs ds) : WkA K O H (Itt K a) ds where
  go i d e := walk_tup.goes i H (by rw [r.length]; exact lt_of_some e) q
  yld i d x H' e y := by
    obtain ⟨h1, h2⟩ := walk_tup.yields i H x H' (by rw [r.length]; exact lt_of_some e) q y
    obtain ⟨v, h3, h4⟩ := r.get e
    rw [h2] at h3; cases h3
    exact ⟨h1, h4⟩
  stop := by rw [← r.length]; exact walk_tup.stops H q
theorem wka_str {z : Str} (hz : PyData.strOk z = true) : WkA K O H (Its z) (z.cps.toList.map fun c => .str ⟨#[c]⟩) where
  go i d e := by
    have lt := lt_of_some e
    rw [List.length_map] at lt
    exact lt
  yld i d x H' e y := by
    obtain ⟨h1, c, h2, h3⟩ := (show H' = H ∧ ∃ c, z.cps[i]? = some c ∧ x = .str ⟨#[c]⟩ from y)
    subst h3
    rw [List.getElem?_map] at e
    have h2' : z.cps.toList[i]? = some c := by rw [Array.getElem?_toList]; exact h2
    rw [h2'] at e
    cases e
    refine ⟨h1, .str _ ?_ (by show 1 ≤ sizeLine; rw [sizeLine_eq]; omega)⟩
    refine strOk_one (i := (i : Int)) hz ?_
    unfold ixD
    rw [if_pos (by omega)]
    exact h2'
  stop := by rw [List.length_map]; exact Nat.le_refl _
theorem rev_get {α : Type} {l : List α} {i : Nat} {d : α} (h : l.reverse[i]? = some d) : l[l.length - 1 - i]? = some d := by
  have lt := lt_of_some h
  rw [List.length_reverse] at lt
  rwa [List.getElem?_reverse lt] at h
theorem wka_rev (q : SqL K H a xs) (r : Rps K O H xs ds) : WkA K O H (Itv K a xs.length) ds.reverse where
  go i d e := walk_rev.goes i H (by rw [r.length, ← List.length_reverse]; exact lt_of_some e) q
  yld i d x H' e y := by
    have lt := lt_of_some e
    rw [List.length_reverse] at lt
    obtain ⟨h1, h2⟩ := walk_rev.yields i H x H' (by rw [r.length]; exact lt) q y
    have e2 := rev_get e
    rw [← r.length] at e2
    obtain ⟨v, h3, h4⟩ := r.get e2
    rw [h2] at h3; cases h3
    exact ⟨h1, h4⟩
  stop := by rw [List.length_reverse, ← r.length]; exact walk_rev.stops H q
theorem wka_revT (q : SqT K H a xs) (r : Rps K O H xs ds) : WkA K O H (RT.ItvT K a xs.length) ds.reverse where
  go i d e := by
    have lt := lt_of_some e
    rw [List.length_reverse] at lt
    have e2 := rev_get e
    rw [← r.length] at e2
    obtain ⟨v, h3, h4⟩ := r.get e2
    exact ⟨by rw [r.length]; exact lt, xs, v, q, h3⟩
  yld i d x H' e y := by
    have e2 := rev_get e
    rw [← r.length] at e2
    obtain ⟨v, h3, h4⟩ := r.get e2
    obtain ⟨h1, h2⟩ := (show H' = H ∧ _ from y)
    have h2 := h2 xs q
    rw [h2] at h3; cases h3
    exact ⟨h1, h4⟩
  stop := by rw [List.length_reverse, ← r.length]; exact Nat.le_refl _
theorem rngL_get {lo : Int} {n i : Nat} {d : D} (h : (rngL lo n)[i]? = some d) : i < n ∧ d = .int (lo + (i : Nat)) := by
  have lt := lt_of_some h
  have lt' : i < n := by simpa [rngL] using lt
  unfold rngL at h
  rw [List.getElem?_map, List.getElem?_range lt'] at h
  cases h
  exact ⟨lt', rfl⟩
theorem rngL_len {lo : Int} {n : Nat} : (rngL lo n).length = n := by simp [rngL]
theorem wka_rng {lo : Int} {n : Nat} : WkA K O H (Itr lo n) (rngL lo n) where
  go i d e := (rngL_get e).1
  yld i d x H' e y := by
    obtain ⟨h1, h2⟩ := (show H' = H ∧ x = .int (lo + i) from y)
    obtain ⟨_, e2⟩ := rngL_get e
    subst e2; subst h2
    exact ⟨h1, .int _⟩
  stop := by rw [rngL_len]; exact Nat.le_refl _
theorem rngR_get {lo : Int} {n i : Nat} {d : D} (e : (rngL lo n).reverse[i]? = some d) : i < n ∧ d = .int (lo + n - 1 - i) := by
  have hl : i < (rngL lo n).reverse.length := (List.getElem?_eq_some_iff.mp e).1
  rw [List.length_reverse, rngL_len] at hl
  rw [List.getElem?_reverse (by rw [rngL_len]; exact hl), rngL_len] at e
  obtain ⟨h1, h2⟩ := rngL_get e
  refine ⟨hl, ?_⟩
  rw [h2]
  congr 1
  omega
theorem wka_rngR {lo : Int} {n : Nat} : WkA K O H (Itc (lo + n - 1) (-1) n) (rngL lo n).reverse where
  go i d e := (rngR_get e).1
  yld i d x H' e y := by
    obtain ⟨h1, h2⟩ := (show H' = H ∧ x = .int (lo + n - 1 + (i : Nat) * (-1)) from y)
    obtain ⟨_, e2⟩ := rngR_get e
    subst e2; subst h2
    refine ⟨h1, ?_⟩
    rw [show lo + (n : Int) - 1 + (i : Nat) * (-1) = lo + n - 1 - i by omega]
    exact .int _
  stop := by rw [List.length_reverse, rngL_len]; exact Nat.le_refl _
end

/-- an iterator over what `it` says; F: whoever owns what later, else only while all stands -/
def tI (F : Bool) (K : PySem.W.Frag) (φ : Nat → List D → Rs D) (C : Addr) (W : WX) (it : It) : TI := fun σ H R => ∃ O ε, ER K O H σ ε ∧ OT O H ∧ Res K C W O σ H (evi φ it ε) fun ds =>
  ∀ J H1, Same H H1 → ds.length ≤ sizeLine → (∀ O' H', (F = false → Same H1 H') → Fz O H1 O' H' → WkA K O' H' J ds) → R J H1
theorem pim {X : Cx} {tg e : Expr} {t t' : TI} (h : PI X tg e t) (f : ∀ σ H Q, t' σ H Q → t σ H Q) : PI X tg e t' := ⟨fun p s σ H Q I q => h.run p s σ H Q I (f σ H Q q)⟩
theorem pgm {X : Cx} {e : Expr} {t t' : TG} (h : PG X e t) (f : ∀ v σ H Q, t' v σ H Q → t v σ H Q) : PG X e t' := ⟨fun p s σ H v u Q I r q => h.run p s σ H v u Q I r (f v σ H Q q)⟩
theorem pgsm {X : Cx} {e : List Expr} {t t' : TGs} (h : PGs X e t) (f : ∀ v σ H Q, t' v σ H Q → t v σ H Q) : PGs X e t' := ⟨fun p s σ H v u Q I r q => h.run p s σ H v u Q I r (f v σ H Q q)⟩

def iSeq (K : PySem.W.Frag) (tl : TE) : TI := fun σ H R => tl σ H fun x H1 => (∃ a xs, x = .ref a ∧ ((SqL K H1 a xs ∧ R (Itl K a) H1) ∨ (SqT K H1 a xs ∧ R (Itt K a) H1))) ∨ ∃ z, x = .str z ∧ R (Its z) H1
theorem pi_seq {X : Cx} {tg l : Expr} {tl : TE} (hl : PE X l tl) : PI X tg l (iSeq X.K tl) := by
  refine ⟨fun pins s σ H R I h => ?_⟩
  refine thn (hl.run pins s σ H _ I h) fun v s1 ⟨x, H1, I1, r1, q1⟩ => ?_
  rcases q1 with q1 | ⟨z, rfl, q⟩
  rotate_left
  · obtain ⟨t, rfl⟩ := r1
    cases ha : z.cps.all (· < 128)
    · exact wpAny_pyIter_wide ha (pi_one (tk := s1.toks) I1 _ (turn_str _ z t "str_iterator" (.inr rfl)) ⟨_, Heap.get?_push_size _ rfl, rfl, rfl⟩ q)
    · exact wpAny_pyIter_ascii ha (pi_one (tk := s1.toks) I1 _ (turn_str _ z t "str_ascii_iterator" (.inl rfl)) ⟨_, Heap.get?_push_size _ rfl, rfl, rfl⟩ q)
  obtain ⟨a, xs, e, q⟩ := q1
  subst e
  cases r1
  have fin : ∀ b ∈ [s1.heap.objs.size], FpOk X pins H1 b := fun b hb => by
    have e : b = s1.heap.objs.size := by simpa using hb
    subst e
    exact I1.fpOk (Nat.le_refl _) (I1.hok.fresh (Nat.le_refl _))
  rcases q with ⟨hq, q⟩ | ⟨hq, q⟩
  · obtain ⟨its, rv, p, hz⟩ := I1.list hq
    refine wpAny_pyIter_list p.isList ?_
    exact ⟨s1.heap.objs.size, [s1.heap.objs.size], _, _, H1, rfl, I1.kept (t' := s1.toks) fun b o e => Heap.get?_push_of_some _ e, turn_list a _, ⟨_, Heap.get?_push_size _ rfl, rfl, rfl⟩, fin, q⟩
  · obtain ⟨its, rv, p, hz⟩ := I1.tuple hq
    refine wpAny_pyIter_tuple (show s1.heap.IsTuple a its.toArray from p) ?_
    exact ⟨s1.heap.objs.size, [s1.heap.objs.size], _, _, H1, rfl, I1.kept (t' := s1.toks) fun b o e => Heap.get?_push_of_some _ e, turn_tuple a _, ⟨_, Heap.get?_push_size _ rfl, rfl, rfl⟩, fin, q⟩

section
variable {X : Cx} {φ : Nat → List D → Rs D} {C : Addr} {W : WX} {c : Cfg} {k : Nat} {tg : Expr}
theorem seqD_noex (d : D) : NoEx (seqD d) := by cases d <;> first | exact NoEx.ok _ | exact NoEx.st
/-- what a reading gives for a walk; weak readings only where all stands -/
def Rd2 (F : Bool) (K : PySem.W.Frag) (O : Ow) (H : Hp) (v : V) (d : D) : Prop := if F = true then Rp K O H v d else RpW K O H v d
theorem Rd2.list {F : Bool} {K : PySem.W.Frag} {O : Ow} {H : Hp} {v : V} {ds : List D} (h : Rd2 F K O H v (.list ds)) : ∃ a xs, v = .ref a ∧ SqL K H a xs ∧ xs.length ≤ sizeLine ∧ Rps K O H xs ds ∧ ∀ O' H', (F = false → Same H H') → Fz O H O' H' → SqL K H' a xs := by
  cases F with
  | true =>
    cases (show Rp K O H v _ from h) with
    | lst q z r => exact ⟨_, _, rfl, q.seq, z, r, fun O' H' _ f => (f.sl q).seq⟩
  | false =>
    obtain ⟨a, xs, e, q, z, r⟩ := (show RpW K O H v (.list ds) from h)
    exact ⟨a, xs, e, q, z, r, fun O' H' s _ => Same.sql (s rfl) q⟩
theorem Rd2.tup {F : Bool} {K : PySem.W.Frag} {O : Ow} {H : Hp} {v : V} {ds : List D} (h : Rd2 F K O H v (.tuple ds)) : ∃ a xs, v = .ref a ∧ SqT K H a xs ∧ xs.length ≤ sizeLine ∧ Rps K O H xs ds := by
  refine tupW (O := O) (?_ : RpW K O H v (.tuple ds))
  cases F with
  | true => exact Rp.weak (show Rp K O H v _ from h)
  | false => exact (show RpW K O H v _ from h)
def tR (F : Bool) (K : PySem.W.Frag) (φ : Nat → List D → Rs D) (C : Addr) (W : WX) (e : E) : TE := if F = true then tD K φ C W e else tW K φ C W e
theorem tR_in {F : Bool} {K : PySem.W.Frag} {a : E} {O : Ow} {ε : Env} {σ : L2.St} {H : Hp} {Q : VK} {β : Type} {f : D → Rs β} {k : β → Prop} (er : ER K O H σ ε) (ot : OT O H) (h : Res K C W O σ H ((ev φ a ε).bnd f) k)
    (g : ∀ d v H', Same H H' → Rd2 F K O H' v d → Res K C W O σ H (f d) k → Q v H') : tR F K φ C W a σ H Q := by
  cases F with
  | true => exact ⟨O, ε, er, ot, h.bind fun d _ q v H' s r => g d v H' s r q⟩
  | false => exact ⟨O, ε, er, ot, h.bind fun d _ q v H' s r => g d v H' s r q⟩
theorem s_seq {F : Bool} {e : Expr} {e' : E} (he : PE X e (tR F X.K φ C W e')) : PI X tg e (tI F X.K φ C W (.seq e')) :=
  pim (pi_seq he) fun σ H R ⟨O, ε, er, ot, q⟩ => by
    simp only [evi] at q
    refine tR_in er ot q fun d v H1 s1 r1 q1 => ?_
    cases d <;> try exact (show False from q1).elim
    · rename_i z
      have r2 : RpW X.K O H1 v (.str z) := by
        cases F with
        | true => exact Rp.weak (show Rp X.K O H1 v _ from r1)
        | false => exact (show RpW X.K O H1 v (.str z) from r1)
      obtain ⟨e, hz, hl⟩ := strW r2
      exact .inr ⟨z, e, q1 _ H1 s1 (by rw [List.length_map]; exact hl) fun O' H' s f => wka_str hz⟩
    · obtain ⟨a, xs, e, hq, z, r, mv⟩ := r1.list
      exact .inl ⟨a, xs, e, .inl ⟨hq, q1 _ H1 s1 (by rw [← r.length]; exact z) fun O' H' s f => wka_list (mv O' H' s f) (r.mv f)⟩⟩
    · obtain ⟨a, xs, e, hq, z, r⟩ := r1.tup
      exact .inl ⟨a, xs, e, .inr ⟨hq, q1 _ H1 s1 (by rw [← r.length]; exact z) fun O' H' s f => wka_tup (f.st hq) (r.mv f)⟩⟩
theorem s_revI {F : Bool} (g : Good c φ C k X) {e : Expr} {e' : E} {p pos : Pos} (hg : Gl X "reversed") (hm : X.mg "reversed" = none) (hl : lone e = true) (he : PE X e (tR F X.K φ C W e')) : PI X tg (.Call (.Name "reversed" p) [e] [] pos) (tI F X.K φ C W (.rev e')) :=
  pim (RT.pi_revA hg hm he (starCons hl)) fun σ H R ⟨O, ε, er, ot, q⟩ => by
    simp only [evi] at q
    refine tR_in er ot q fun d v H1 s1 r1 q1 => ?_
    cases d <;> try exact (show False from q1).elim
    · obtain ⟨a, xs, e, hq, z, r, mv⟩ := r1.list
      exact ⟨a, xs, e, .inl ⟨hq, q1 _ H1 s1 (by rw [List.length_reverse, ← r.length]; exact z) fun O' H' s f => wka_rev (mv O' H' s f) (r.mv f)⟩⟩
    · obtain ⟨a, xs, e, hq, z, r⟩ := r1.tup
      exact ⟨a, xs, e, .inr ⟨hq, q1 _ H1 s1 (by rw [List.length_reverse, ← r.length]; exact z) fun O' H' s f => wka_revT (f.st hq) (r.mv f)⟩⟩
theorem rngD_of {lo hi : Int} {β : Type} {f : List D → Rs β} {O : Ow} {σ : L2.St} {H : Hp} {k : β → Prop} (h : Res X.K C W O σ H ((rngD lo hi).bnd f) k) : -(2 ^ 62) ≤ lo ∧ lo < 2 ^ 62 ∧ -(2 ^ 62) ≤ hi ∧ hi < 2 ^ 62 ∧ (hi - lo).toNat ≤ LIM ∧ Res X.K C W O σ H (f (rngL lo (hi - lo).toNat)) k := by
  unfold rngD at h
  split at h
  · rename_i c
    obtain ⟨c1, c2, c3, c4, c5⟩ := c
    exact ⟨c1, c2, c3, c4, c5, h⟩
  · exact (show False from h).elim
theorem Rs.bnd_ok' {α : Type} (r : Rs α) : r.bnd .ok = r := by cases r <;> rfl
theorem s_rng1 {F : Bool} {e : Expr} {e' : E} {p pos : Pos} (hg : Gl X "range") (hm : X.mg "range" = none) (hl : lone e = true) (he : PE X e ((tW X.K φ C W) e')) : PI X tg (.Call (.Name "range" p) [e] [] pos) (tI F X.K φ C W (.rng1 e')) :=
  pim (pi_range1 hg hm (ta := tCons ((tW X.K φ C W) e') tNil) (pa_cons he pa_nil (starCons hl)) (by rw [starCons hl]; rfl)) fun σ H R ⟨O, ε, er, ot, q⟩ => by
    simp only [evi] at q
    refine tW_in er ot q fun d v H1 s1 r1 q1 => ?_
    cases d <;> try exact (show False from q1).elim
    rename_i i
    cases intW r1
    have q1 : Res X.K C W O σ H (rngD 0 i) _ := q1
    rw [← Rs.bnd_ok' (rngD 0 i)] at q1
    obtain ⟨_, _, c3, c4, c5, q2⟩ := rngD_of q1
    rw [Int.sub_zero] at c5 q2
    exact ⟨i, rfl, c3, c4, (show ∀ J H1, Same H H1 → _ → _ → R J H1 from q2) _ H1 s1 (by rw [rngL_len, ← lim_line]; exact c5) fun O' H' _ _ => wka_rng⟩
theorem s_rng2 {F : Bool} {e e2 : Expr} {e' e2' : E} {p pos : Pos} (hg : Gl X "range") (hm : X.mg "range" = none) (hl : lone e = true) (hl2 : lone e2 = true) (he : PE X e ((tW X.K φ C W) e')) (he2 : PE X e2 ((tW X.K φ C W) e2')) : PI X tg (.Call (.Name "range" p) [e, e2] [] pos) (tI F X.K φ C W (.rng2 e' e2')) :=
  pim (pi_range2 hg hm (ta := tCons ((tW X.K φ C W) e') (tCons ((tW X.K φ C W) e2') tNil)) (pa_cons he (pa_cons he2 pa_nil (starCons hl2)) (starCons hl)) (by rw [starCons hl, starCons hl2]; rfl) (by rw [starCons hl2]; rfl)) fun σ H R ⟨O, ε, er, ot, q⟩ => by
    simp only [evi] at q
    refine tW_in er ot q fun d v H1 s1 r1 q1 => ?_
    refine tW_in (er.same s1) (ot.same s1) (q1.same s1 (k' := fun ds => ∀ J H2, Same H1 H2 → ds.length ≤ sizeLine → (∀ O' H', (F = false → Same H2 H') → Fz O H2 O' H' → WkA X.K O' H' J ds) → R J H2) fun ds k J H2 s => k J H2 (s1.trans s)) fun d2 v2 H2 s2 r2 q2 => ?_
    cases d <;> try exact (show False from q2).elim
    cases d2 <;> try exact (show False from q2).elim
    rename_i i j
    cases intW r1; cases intW r2
    have q2 : Res X.K C W O σ H1 (rngD i j) _ := q2
    rw [← Rs.bnd_ok' (rngD i j)] at q2
    obtain ⟨c1, c2, c3, c4, c5, q3⟩ := rngD_of q2
    exact ⟨i, j, rfl, ⟨c1, c2, c3, c4⟩, (show ∀ J H2, Same H1 H2 → _ → _ → R J H2 from q3) _ H2 s2 (by rw [rngL_len, ← lim_line]; exact c5) fun O' H' _ _ => wka_rng⟩
theorem s_rng3 {F : Bool} {e e2 e3 : Expr} {e' e2' e3' : E} {p pos : Pos} (hg : Gl X "range") (hm : X.mg "range" = none) (hl : lone e = true) (hl2 : lone e2 = true) (hl3 : lone e3 = true) (he : PE X e ((tW X.K φ C W) e')) (he2 : PE X e2 ((tW X.K φ C W) e2')) (he3 : PE X e3 ((tW X.K φ C W) e3')) : PI X tg (.Call (.Name "range" p) [e, e2, e3] [] pos) (tI F X.K φ C W (.rng3 e' e2' e3')) :=
  pim (pi_range3 hg hm (ta := tCons ((tW X.K φ C W) e') (tCons ((tW X.K φ C W) e2') (tCons ((tW X.K φ C W) e3') tNil))) (pa_cons he (pa_cons he2 (pa_cons he3 pa_nil (starCons hl3)) (starCons hl2)) (starCons hl)) (by rw [starCons hl]) (by rw [starCons hl2, starCons hl3]; rfl)) fun σ H R ⟨O, ε, er, ot, q⟩ => by
    simp only [evi] at q
    refine tW_in er ot q fun d v H1 s1 r1 q1 => ?_
    refine tW_in (er.same s1) (ot.same s1) (q1.same s1 (k' := fun ds => ∀ J H2, Same H1 H2 → ds.length ≤ sizeLine → (∀ O' H', (F = false → Same H2 H') → Fz O H2 O' H' → WkA X.K O' H' J ds) → R J H2) fun ds k J H2 s => k J H2 (s1.trans s)) fun d2 v2 H2 s2 r2 q2 => ?_
    refine tW_in ((er.same s1).same s2) ((ot.same s1).same s2) (q2.same s2 (k' := fun ds => ∀ J H3, Same H2 H3 → ds.length ≤ sizeLine → (∀ O' H', (F = false → Same H3 H') → Fz O H3 O' H' → WkA X.K O' H' J ds) → R J H3) fun ds k J H3 s => k J H3 (s2.trans s)) fun d3 v3 H3 s3 r3 q3 => ?_
    cases d <;> try exact (show False from q3).elim
    cases d2 <;> try exact (show False from q3).elim
    cases d3 <;> try exact (show False from q3).elim
    rename_i i j k
    cases intW r1; cases intW r2; cases intW r3
    have q6 : Res X.K C W O σ H2 (if k = -1 ∧ -1 ≤ j ∧ -1 ≤ i then (rngD (j + 1) (i + 1)).bnd fun ds => .ok ds.reverse else .st) _ := q3
    split at q6
    · rename_i hk
      obtain ⟨hk, hj, hi⟩ := hk
      subst hk
      obtain ⟨c1, c2, c3, c4, c5, q4⟩ := rngD_of q6
      have en : (i + 1 - (j + 1)).toNat = (i - j).toNat := by congr 1; omega
      rw [en] at c5 q4
      refine ⟨i, j, -1, (i - j).toNat, rfl, RgC.neg (by omega) (by omega) (by omega) (by omega), ?_⟩
      have q5 := (show ∀ J H3, Same H2 H3 → _ → _ → R J H3 from q4) (Itc i (-1) (i - j).toNat) H3 s3 (by rw [List.length_reverse, rngL_len, ← lim_line]; exact c5) fun O' H' _ _ => by
        by_cases hp : 0 ≤ i - j
        · have w := wka_rngR (K := X.K) (O := O') (H := H') (lo := j + 1) (n := (i - j).toNat)
          rwa [show j + 1 + ((i - j).toNat : Int) - 1 = i by omega] at w
        · have e0 : (i - j).toNat = 0 := by omega
          rw [e0]
          exact ⟨fun i d e => by simp [rngL] at e, fun i d x H' e y => by simp [rngL] at e, Nat.le_refl _⟩
      exact q5
    · exact (show False from q6).elim
end

/-! ### targets -/
/-- a target takes what stands for d -/
def gP (K : PySem.W.Frag) (t : Pt) : TG := fun v σ H Q => ∃ O d ε ε', Rp K O H v d ∧ bnd t d ε = .ok ε' ∧ ∀ σ', (∀ O' H', Fz O H O' H' → ER K O' H' σ ε → ER K O' H' σ' ε') → (∀ vs, (∀ i ∈ t.sl, i ∈ vs) → L2.wipe σ' vs = L2.wipe σ vs) → Q σ' H
def gPs (K : PySem.W.Frag) (ts : List Pt) : TGs := fun xs σ H Q => ∃ O ds ε ε', Rps K O H xs ds ∧ bnds ts ds ε = .ok ε' ∧ ∀ σ', (∀ O' H', Fz O H O' H' → ER K O' H' σ ε → ER K O' H' σ' ε') → (∀ vs, (∀ i ∈ Pt.sls ts, i ∈ vs) → L2.wipe σ' vs = L2.wipe σ vs) → Q σ' H
/-- what the scope of the text says of a target's names holds in the frame -/
def TgOk (X : Cx) (sc : Scope) : Prop := ∀ x, (sc.names.lookup x = some .local → X.env.scope.names.lookup x = some .local) ∧ (sc.names.lookup x = some .cell → X.env.scope.names.lookup x = some .cell ∧ X.fn x = true)
theorem slotIx_get {N : List Str} {x : Str} {i : Nat} (h : slotIx N x = some i) : N[i]? = some x := by
  unfold slotIx at h
  obtain ⟨lt, e, _⟩ := List.findIdx?_eq_some_iff_getElem.mp h
  rw [List.getElem?_eq_getElem lt]
  simp at e; rw [e]
theorem assignEach_len {env : PySem.Env} : ∀ {es : List Expr}, (assignEach es env).length = es.length
  | [] => rfl
  | e :: es => by cases e <;> (show (_ :: assignEach es env).length = _; rw [List.length_cons, assignEach_len]; rfl)
theorem assignEach_star {env : PySem.Env} : ∀ {es : List Expr}, noStar es = true → (assignEach es env).findIdx? (·.1) = none
  | [], _ => rfl
  | e :: es, h => by
    cases e <;> first
      | (simp [noStar] at h; done)
      | (show List.findIdx? _ ((false, _) :: assignEach es env) = none
         rw [List.findIdx?_cons]
         have h : noStar es = true := h
         simp [assignEach_star h])
def gUn (K : PySem.W.Frag) (n : Nat) (t : TGs) : TG := fun v σ H Q => ∃ a xs, v = .ref a ∧ (SqT K H a xs ∨ SqL K H a xs) ∧ xs.length = n ∧ t xs σ H Q
theorem pg_un {X : Cx} {es : List Expr} {kk : Nat} {t : TGs} {n : Nat} {pos : Pos} (hc : X.calm = true) (h : PGs X es t) (hn : (assignEach es X.env).length = n) (hst : (assignEach es X.env).findIdx? (·.1) = none) : PG X (.Tuple es kk pos) (gUn X.K n t) := by
  refine ⟨fun pins s σ H v u Q I r hw => ?_⟩
  obtain ⟨a, xs, e1, hq | hq, hl, hw⟩ := hw
  · exact (pg_tup hc h hn hst).run pins s σ H v u Q I r ⟨a, xs, e1, hq, hl, hw⟩
  · exact (pg_lst hc h hn hst).run pins s σ H v u Q I r ⟨a, xs, e1, hq, hl, hw⟩
theorem bnds_len : ∀ {ps : List Pt} {ds : List D} {ε ε' : Env}, bnds ps ds ε = .ok ε' → ds.length = ps.length
  | [], [], _, _, _ => rfl
  | [], _ :: _, _, _, h => by simp [bnds] at h
  | _ :: _, [], _, _, h => by simp [bnds] at h
  | p :: ps, d :: ds, ε, ε', h => by
    simp only [bnds] at h
    cases e : bnd p d ε with
    | ok ε2 => rw [e] at h; rw [List.length_cons, List.length_cons, bnds_len (ε := ε2) (ε' := ε') h]
    | ex z => rw [e] at h; cases h
    | st => rw [e] at h; cases h
theorem Rs.bnd_of {α β : Type} {r : Rs α} {f : α → Rs β} {b : β} (h : r.bnd f = .ok b) : ∃ a, r = .ok a ∧ f a = .ok b := by
  cases r with
  | ok a => exact ⟨a, rfl, h⟩
  | ex d => cases h
  | st => cases h
section
variable {X : Cx} {c : Cfg} {sc : Scope}
mutual
theorem pg_sound (hN : X.N = c.N) (nd : X.N.Nodup) (hc : X.calm = true) (tk : TgOk X sc) : ∀ (n : Nat) (e : Expr) (t : Pt), compT c sc n e = some t → PG X e (gP X.K t)
  | 0, _, _, h => by simp [compT] at h
  | n + 1, e, t, h => by
    cases e <;> try (simp [compT] at h; done)
    · rename_i x pos
      have nm : ∀ i, slotIx c.N x = some i → Loc X.env.scope x → (X.fn x = true ∨ X.env.scope.names.lookup x = some .local) → PG X (.Name x pos) (gP X.K (.nm i)) := fun i hi hl hf => by
        refine pgm (pg_name nd (by rw [hN]; exact slotIx_get hi) hl hf) fun v σ H Q ⟨O, d, ε, ε', r, b, q⟩ => ?_
        simp only [bnd] at b
        injection b with b
        subst b
        exact q _ (fun O' H' f er => er.set (r.mv f)) fun vs hv => wipe_set (hv i (by simp [Pt.sl]))
      simp only [compT] at h
      split at h
      · rename_i e
        cases hs : slotIx c.N x with
        | none => rw [hs] at h; cases h
        | some i =>
          rw [hs] at h; cases h
          exact nm i hs (.inl ((tk x).1 e)) (.inr ((tk x).1 e))
      · rename_i e
        cases hs : slotIx c.N x with
        | none => rw [hs] at h; cases h
        | some i =>
          rw [hs] at h; cases h
          exact nm i hs (.inr ((tk x).2 e).1) (.inl ((tk x).2 e).2)
      · cases h
    · rename_i es kk pos
      simp only [compT] at h
      split at h
      · rename_i hst
        cases hs : compTs c sc n es with
        | none => rw [hs] at h; cases h
        | some ts =>
          rw [hs] at h; cases h
          refine pgm (pg_un hc (pgs_sound hN nd hc tk n es ts hs).1 (n := ts.length) (by rw [assignEach_len]; exact (pgs_sound hN nd hc tk n es ts hs).2.symm) (assignEach_star hst)) fun v σ H Q ⟨O, d, ε, ε', r, b, q⟩ => ?_
          cases d <;> try (simp [bnd] at b; done)
          · simp only [bnd] at b
            cases r with
            | lst q1 z r => exact ⟨_, _, rfl, .inr q1.seq, by rw [r.length]; exact bnds_len b, O, _, ε, ε', r, b, fun σ' e' w => q σ' e' fun vs hv => w vs fun i hi => hv i (by simpa [Pt.sl] using hi)⟩
          · simp only [bnd] at b
            cases r with
            | tup q1 z r => exact ⟨_, _, rfl, .inl q1, by rw [r.length]; exact bnds_len b, O, _, ε, ε', r, b, fun σ' e' w => q σ' e' fun vs hv => w vs fun i hi => hv i (by simpa [Pt.sl] using hi)⟩
      · cases h
theorem pgs_sound (hN : X.N = c.N) (nd : X.N.Nodup) (hc : X.calm = true) (tk : TgOk X sc) : ∀ (n : Nat) (es : List Expr) (ts : List Pt), compTs c sc n es = some ts → PGs X es (gPs X.K ts) ∧ ts.length = es.length
  | 0, _, _, h => by simp [compTs] at h
  | n + 1, [], ts, h => by
    simp only [compTs] at h
    cases h
    refine ⟨pgsm pgs_nil fun v σ H Q ⟨O, ds, ε, ε', r, b, q⟩ => ?_, rfl⟩
    cases ds with
    | nil =>
      cases r
      simp only [bnds] at b
      injection b with b; subst b
      exact ⟨rfl, q σ (fun _ _ _ er => er) fun _ _ => rfl⟩
    | cons d ds => simp [bnds] at b
  | n + 1, e :: es, ts, h => by
    simp only [compTs] at h
    cases h1 : compT c sc n e with
    | none => rw [h1] at h; cases h
    | some t =>
      cases h2 : compTs c sc n es with
      | none => rw [h1, h2] at h; cases h
      | some us =>
        rw [h1, h2] at h
        cases h
        obtain ⟨p2, l2⟩ := pgs_sound hN nd hc tk n es us h2
        refine ⟨pgsm (pgs_cons (pg_sound hN nd hc tk n e t h1) p2 ?_) fun v σ H Q ⟨O, ds, ε, ε', r, b, q⟩ => ?_, by rw [List.length_cons, List.length_cons, l2]⟩
        · cases n with
          | zero => simp [compT] at h1
          | succ m => cases e <;> first | rfl | (simp [compT] at h1; done)
        · cases r with
          | nil => simp [bnds] at b
          | cons r rs =>
            simp only [bnds] at b
            obtain ⟨ε2, b1, b2⟩ := Rs.bnd_of b
            refine ⟨_, _, rfl, O, _, ε, ε2, r, b1, fun σ1 er1 w1 => ⟨O, _, ε2, ε', rs, b2, fun σ2 er2 w2 => q σ2 (fun O' H' f er => er2 O' H' f (er1 O' H' f er)) fun vs hv => ?_⟩⟩
            rw [w2 vs fun i hi => hv i (by simp [Pt.sls, hi]), w1 vs fun i hi => hv i (by simp [Pt.sls, hi])]
end
end
end Ws

set_option Elab.async false
set_option linter.all false
set_option maxRecDepth 100000
set_option maxHeartbeats 4000000
/-! Sim13: comprehensions -/
namespace Ws
open PySem PySem.Spec PyProof.Rows L2

/-- a condition -/
def tC (K : PySem.W.Frag) (φ : Nat → List D → Rs D) (C : Addr) (W : WX) (cd : Option E) : TT := fun σ H Q => ∃ O ε, ER K O H σ ε ∧ OT O H ∧ Res K C W O σ H (evc φ cd ε) fun b => ∀ H', Same H H' → Q b H'
theorem lcL_noex {t : D → Rs (List D)} : ∀ ds, NoEx (lcL t ds)
  | [] => NoEx.ok _
  | d :: ds => by
    unfold lcL
    refine NoEx.bnd ?_ fun ys => (lcL_noex ds).bnd fun _ => NoEx.ok _
    cases t d <;> first | exact NoEx.ok _ | exact NoEx.st
theorem lcL_cons {t : D → Rs (List D)} {d : D} {ds zs : List D} (h : lcL t (d :: ds) = .ok zs) : ∃ ys ws, t d = .ok ys ∧ lcL t ds = .ok ws ∧ zs = ys ++ ws := by
  unfold lcL at h
  obtain ⟨ys, h1, h⟩ := Rs.bnd_of h
  obtain ⟨ws, h2, h⟩ := Rs.bnd_of h
  injection h with h
  refine ⟨ys, ws, ?_, h2, h.symm⟩
  cases e : t d with
  | ok a => rw [e] at h1; exact h1
  | ex z => rw [e] at h1; cases h1
  | st => rw [e] at h1; cases h1
theorem Res.of_noex {α : Type} {K : PySem.W.Frag} {C : Addr} {W : WX} {O : Ow} {σ : L2.St} {H : Hp} {r : Rs α} {k : α → Prop} (n : NoEx r) (h : Res K C W O σ H r k) : ∃ a, r = .ok a ∧ k a := by
  cases r with
  | ok a => exact ⟨a, rfl, h⟩
  | ex d => exact absurd rfl (n d)
  | st => exact h.elim

/-- the owners while a comprehension's list grows -/
def O1 (O : Ow) (p : Addr) : Ow := fun a => if a = p then some 0 else O a
section
variable {K : PySem.W.Frag} {O : Ow} {H H' : Hp} {p : Addr}
theorem fzO1 (hp : H p = none) (s : Same H H') : Fz O H (O1 O p) H' :=
  ⟨fun a o e q => ⟨s a o e, by
    have ne : a ≠ p := fun z => by rw [z, hp] at e; cases e
    unfold O1; rw [if_neg ne]; exact q⟩, fun a xs e => s a _ e, fun a o xs e => s a _ e⟩
theorem otO1 (ot : OT O H) (s : Same H H') (h : ∃ o, H' p = some o) : OT (O1 O p) H' := fun a i e => by
  unfold O1 at e
  split at e
  · rename_i z; rw [z]; exact h
  · obtain ⟨o, q⟩ := ot a i e; exact ⟨o, s a o q⟩
theorem fzUp {acc : List V} {o : HO} (h : H p = some (.lst acc)) : Fz (O1 O p) H (O1 O p) (upd H p o) := by
  refine ⟨fun a u e q => ?_, fun a xs e => ?_, fun a u xs e => ?_⟩
  · have ne : a ≠ p := fun z => by unfold O1 at q; rw [if_pos z] at q; cases q
    exact ⟨by rw [upd_ne ne]; exact e, q⟩
  · have ne : a ≠ p := fun z => by rw [z, h] at e; cases e
    rw [upd_ne ne]; exact e
  · have ne : a ≠ p := fun z => by rw [z, h] at e; cases e
    rw [upd_ne ne]; exact e
theorem sameUp {H0 : Hp} {o : HO} (hp : H0 p = none) (s : Same H0 H) : Same H0 (upd H p o) := fun a u e => by
  have ne : a ≠ p := fun z => by rw [z, hp] at e; cases e
  rw [upd_ne ne]; exact s a u e
theorem fzOff {o : HO} (h : ∃ acc, H p = some (.lst acc)) {O' : Ow} (g : ∀ a, a ≠ p → O' a = O a) : Fz (O1 O p) H O' H := by
  refine ⟨fun a u e q => ⟨e, ?_⟩, fun a xs e => e, fun a u xs e => e⟩
  have ne : a ≠ p := fun z => by unfold O1 at q; rw [if_pos z] at q; cases q
  rw [g a ne]
  unfold O1 at q; rwa [if_neg ne] at q
end
theorem drop_cons {α : Type} {l : List α} {i : Nat} {d : α} (h : l[i]? = some d) : l.drop i = d :: l.drop (i + 1) := by
  obtain ⟨lt, e⟩ := List.getElem?_eq_some_iff.mp h
  rw [List.drop_eq_getElem_cons lt, e]
theorem isin_of {t : Pt} {vs : List Nat} (h : t.isin vs = true) : ∀ i ∈ t.sl, i ∈ vs := fun i hi => by
  unfold Pt.isin at h
  rw [List.all_eq_true] at h
  simpa using h i hi

section
variable {X : Cx} {φ : Nat → List D → Rs D} {C : Addr} {W : WX} {c : Cfg} {k : Nat}
theorem lc_rd {own : List (Str × Nat)} {t : Pt} {it : It} {cd : Option E} {x : E} (hin : t.isin (own.map (·.2)) = true) {σ : L2.St} {H : Hp} {Q : VK} (h : (tF X.K φ C W) (.lc (own.map (·.2)) x t it cd) σ H Q) :
    tLc (tI false X.K φ C W it) (gP X.K t) (tC X.K φ C W0 cd) (tD X.K φ C W0 x) (own.map (·.2)) σ H Q := by
    obtain ⟨O, ε, er, ot, q⟩ := h
    simp only [ev] at q
    refine ⟨O, ε, er, ot, q.bind fun ds _ q1 J H1 s1 hz wk Dd hD => ?_⟩
    revert q1
    generalize htn : (fun x_1 => (bnd t x_1 (wipeE ε (own.map (·.2)))).bnd fun ε' => (evc φ cd ε').bnd fun b => if b then (ev φ x ε').bnd fun y => Rs.ok [y] else Rs.ok []) = turn
    intro q1
    obtain ⟨tot, e1, q2⟩ := Res.of_noex (lcL_noex ds) (q1.bind fun ys _ q2 => q2)
    have q2 : kF X.K O H Q (.list tot) := q2
    have er1 := er.same s1
    have ot1 := ot.same s1
    refine ⟨fun i m H' => m = ds.length - i ∧ i ≤ ds.length ∧ ∃ acc dacc rest, H' Dd = some (.lst acc) ∧ Same H1 H' ∧ acc.length ≤ i ∧ Rps X.K (O1 O Dd) H' acc dacc ∧ lcL turn (ds.drop i) = .ok rest ∧ dacc ++ rest = tot,
      ⟨ds.length, by simp, Nat.zero_le _, [], [], tot, upd_same, sameUp hD (Same.refl _), Nat.le_refl _, .nil, by simpa using e1, rfl⟩, ?_⟩
    rintro i m H' ⟨rfl, hi, acc, dacc, rest, hA, sH, hl, ra, er', et⟩
    have w := wk (O1 O Dd) H' (fun _ => sH) (fzO1 hD sH)
    by_cases lt : i < ds.length
    · have hd : ds[i]? = some ds[i] := List.getElem?_eq_getElem lt
      rw [drop_cons hd] at er'
      obtain ⟨ys, ws, t1, t2, t3⟩ := lcL_cons er'
      rw [← htn] at t1
      obtain ⟨ε', b1, t1⟩ := Rs.bnd_of t1
      obtain ⟨b, b2, t1⟩ := Rs.bnd_of t1
      refine .inr ⟨w.go i _ hd, fun H' => i + 1 ≤ ds.length ∧ ∃ acc dacc rest, H' Dd = some (.lst acc) ∧ Same H1 H' ∧ acc.length ≤ i + 1 ∧ Rps X.K (O1 O Dd) H' acc dacc ∧ lcL turn (ds.drop (i + 1)) = .ok rest ∧ dacc ++ rest = tot, fun H'' hN => ⟨ds.length - (i + 1), ?_, rfl, hN⟩, fun z H'' y => ?_⟩
      · omega
      obtain ⟨e, rz⟩ := w.yld i _ z H'' hd y
      subst e
      refine ⟨O1 O Dd, _, _, ε', rz, b1, fun σ2 er2 w2 => ⟨by rw [w2 _ (isin_of hin), wipe_wipe], ?_⟩⟩
      have er3 := er2 _ _ (Fz.refl _ _) ((er1.mvS (fzO1 hD sH) sH).wipe _)
      have ot3 := otO1 (p := Dd) ot1 sH ⟨_, hA⟩
      refine ⟨O1 O Dd, ε', er3, ot3, ?_⟩
      rw [b2]
      refine fun H3 s3 => ?_
      cases b with
      | true =>
        rw [if_pos rfl] at t1 ⊢
        obtain ⟨dy, b3, t1⟩ := Rs.bnd_of t1
        injection t1 with t1
        refine ⟨O1 O Dd, ε', er3.same s3, ot3.same s3, ?_⟩
        rw [b3]
        refine fun yv H4 s4 ry => ⟨acc, s4 _ _ (s3 _ _ hA), by omega, lt, acc ++ [yv], dacc ++ [dy], ws, upd_same, sameUp hD ((sH.trans s3).trans s4), by rw [List.length_append]; simp; omega, ?_, t2, ?_⟩
        · exact (((ra.same s3).same s4).app (.cons ry .nil)).mv (fzUp (s4 _ _ (s3 _ _ hA)))
        · rw [← et, t3, ← t1]; simp
      | false =>
        rw [if_neg Bool.false_ne_true] at t1 ⊢
        injection t1 with t1
        refine ⟨lt, acc, dacc, ws, s3 _ _ hA, sH.trans s3, by omega, ra.same s3, t2, ?_⟩
        rw [← et, t3, ← t1]; rfl
    · have e : i = ds.length := by omega
      subst e
      refine .inl ⟨w.stop, q2 _ H' (s1.trans sH) ?_⟩
      rw [List.drop_length] at er'
      have er' : Rs.ok [] = Rs.ok rest := er'
      injection er' with er'
      subst er'
      rw [List.append_nil] at et
      subst et
      exact ⟨Dd, acc, rfl, s1.free hD, hA, by omega, fun O' h => ra.mv (fzOff (o := .lst []) ⟨_, hA⟩ h)⟩
theorem s_lc (g : Good c φ C k X) {elt tg iter : Expr} {ifs : List Expr} {scope : Scope} {own : List (Str × Nat)} {pos : Pos} {t : Pt} {it : It} {cd : Option E} {x : E} (ok : BlkOk X.N X.env.scope scope own) (hi : PI X tg iter (tI false X.K φ C W it)) (hs : ∀ x, foldedSetIterable iter X.env x = pure x)
    (hg : ∀ (s : Shared) (H : Hp) (Cc : Addr) (cl : List (Str × Addr)) (fp : List Addr), PG (X.blk s H scope (compEnvC scope cl Cc X.env) fp) tg (gP X.K t)) (ht : ∀ (s : Shared) (H : Hp) (Cc : Addr) (cl : List (Str × Addr)) (fp : List Addr), PTs (X.blk s H scope (compEnvC scope cl Cc X.env) fp) ifs (tC X.K φ C W0 cd))
    (he : ∀ (s : Shared) (H : Hp) (Cc : Addr) (cl : List (Str × Addr)) (fp : List Addr), PE (X.blk s H scope (compEnvC scope cl Cc X.env) fp) elt (tD X.K φ C W0 x)) (hin : t.isin (own.map (·.2)) = true) :
    PE X (.ListComp elt [⟨tg, iter, ifs, 0⟩] scope pos) ((tF X.K φ C W) (.lc (own.map (·.2)) x t it cd)) :=
  pem (pe_lc g.calm g.nd hi ok hg ht he hs) fun σ H Q h => lc_rd hin h
theorem lc2_rd {own : List (Str × Nat)} {t t1 : Pt} {it it1 : It} {cd cd1 : Option E} {x : E} (hin : t.isin (own.map (·.2)) = true) (hin1 : t1.isin (own.map (·.2)) = true) {σ : L2.St} {H : Hp} {Q : VK} (h : (tF X.K φ C W) (.lc2 (own.map (·.2)) t1.sl x t it cd t1 it1 cd1) σ H Q) :
    tLc2 (tI false X.K φ C W it) (gP X.K t) (tC X.K φ C W0 cd) (tI true X.K φ C W0 it1) (gP X.K t1) (tC X.K φ C W0 cd1) (tD X.K φ C W0 x) (own.map (·.2)) t1.sl σ H Q := by
    obtain ⟨O, ε, er, ot, q⟩ := h
    simp only [ev] at q
    refine ⟨O, ε, er, ot, q.bind fun ds _ q1 J H1 s1 hz wk Dd hD => ?_⟩
    revert q1
    generalize htn1 : (fun (ε' : Env) (x1 : D) => (bnd t1 x1 (wipeE ε' t1.sl)).bnd fun ε'' => (evc φ cd1 ε'').bnd fun b1 => if b1 then (ev φ x ε'').bnd fun y => Rs.ok [y] else Rs.ok []) = turn1
    have ht' : ∀ ε', (fun (x1 : D) => (bnd t1 x1 (wipeE ε' t1.sl)).bnd fun ε'' => (evc φ cd1 ε'').bnd fun b1 => if b1 then (ev φ x ε'').bnd fun y => Rs.ok [y] else Rs.ok []) = turn1 ε' := fun ε' => by rw [← htn1]
    simp only [ht']
    generalize htn : (fun x_1 => (bnd t x_1 (wipeE ε (own.map (·.2)))).bnd fun ε' => (evc φ cd ε').bnd fun b => if b then (evi φ it1 ε').bnd fun ds1 => lcL (turn1 ε') ds1 else Rs.ok []) = turn
    intro q1
    obtain ⟨tot, e1, q2⟩ := Res.of_noex (lcL_noex ds) (q1.bind fun ys _ q2 => q2)
    have hT : tot.length ≤ LIM := by
      by_cases z : tot.length ≤ LIM
      · exact z
      · have q2 : Res X.K C W O σ H (if tot.length ≤ LIM then _ else _) _ := q2
        rw [if_neg z] at q2; exact q2.elim
    have q2 : Res X.K C W O σ H (if tot.length ≤ LIM then _ else _) _ := q2
    rw [if_pos hT] at q2
    have q2 : kF X.K O H Q (.list tot) := q2
    rw [lim_line] at hT
    have er1 := er.same s1
    have ot1 := ot.same s1
    refine ⟨fun i m H' => m = ds.length - i ∧ i ≤ ds.length ∧ ∃ acc dacc rest, H' Dd = some (.lst acc) ∧ Same H1 H' ∧ Rps X.K (O1 O Dd) H' acc dacc ∧ lcL turn (ds.drop i) = .ok rest ∧ dacc ++ rest = tot,
      ⟨ds.length, by simp, Nat.zero_le _, [], [], tot, upd_same, sameUp hD (Same.refl _), .nil, by simpa using e1, rfl⟩, ?_⟩
    rintro i m H' ⟨rfl, hi, acc, dacc, rest, hA, sH, ra, er', et⟩
    have w := wk (O1 O Dd) H' (fun _ => sH) (fzO1 hD sH)
    by_cases lt : i < ds.length
    · have hd : ds[i]? = some ds[i] := List.getElem?_eq_getElem lt
      rw [drop_cons hd] at er'
      obtain ⟨ys, ws, t1', t2, t3⟩ := lcL_cons er'
      rw [← htn] at t1'
      obtain ⟨ε', b1, t1'⟩ := Rs.bnd_of t1'
      obtain ⟨b, b2, t1'⟩ := Rs.bnd_of t1'
      refine .inr ⟨w.go i _ hd, fun H' => i + 1 ≤ ds.length ∧ ∃ acc dacc rest, H' Dd = some (.lst acc) ∧ Same H1 H' ∧ Rps X.K (O1 O Dd) H' acc dacc ∧ lcL turn (ds.drop (i + 1)) = .ok rest ∧ dacc ++ rest = tot, fun H'' hN => ⟨ds.length - (i + 1), ?_, rfl, hN⟩, fun z H'' y => ?_⟩
      · omega
      obtain ⟨e, rz⟩ := w.yld i _ z H'' hd y
      subst e
      refine ⟨O1 O Dd, _, _, ε', rz, b1, fun σ2 er2 w2 => ⟨by rw [w2 _ (isin_of hin), wipe_wipe], ?_⟩⟩
      have er3 := er2 _ _ (Fz.refl _ _) ((er1.mvS (fzO1 hD sH) sH).wipe _)
      have ot3 := otO1 (p := Dd) ot1 sH ⟨_, hA⟩
      refine ⟨O1 O Dd, ε', er3, ot3, ?_⟩
      rw [b2]
      refine fun H3 s3 => ?_
      cases b with
      | true =>
        rw [if_pos rfl] at t1' ⊢
        obtain ⟨ds1, b3, t1'⟩ := Rs.bnd_of t1'
        refine ⟨O1 O Dd, ε', er3.same s3, ot3.same s3, ?_⟩
        rw [b3]
        refine fun J1 H4 s4 hz1 wk1 => ?_
        refine ⟨fun j m H5 => m = ds1.length - j ∧ j ≤ ds1.length ∧ ∃ acc dacc rest, H5 Dd = some (.lst acc) ∧ Same H1 H5 ∧ Fz (O1 O Dd) H'' (O1 O Dd) H5 ∧ Fz (O1 O Dd) H4 (O1 O Dd) H5 ∧ Rps X.K (O1 O Dd) H5 acc dacc ∧ lcL (turn1 ε') (ds1.drop j) = .ok rest ∧ dacc ++ rest ++ ws = tot,
          ⟨ds1.length, by simp, Nat.zero_le _, acc, dacc, ys, s4 _ _ (s3 _ _ hA), (sH.trans s3).trans s4, .same (s3.trans s4), .refl _ _, (ra.same s3).same s4, by simpa using t1', by rw [← et, t3, List.append_assoc]⟩, ?_⟩
        rintro j m1 H5 ⟨rfl, hj, acc5, dacc5, rest5, hA5, sH5, f5, f45, ra5, er5, et5⟩
        have w5 := wk1 (O1 O Dd) H5 (fun z => by cases z) f45
        by_cases lt5 : j < ds1.length
        · have hd5 : ds1[j]? = some ds1[j] := List.getElem?_eq_getElem lt5
          rw [drop_cons hd5] at er5
          obtain ⟨ys5, ws5, u1, u2, u3⟩ := lcL_cons er5
          rw [← htn1] at u1
          obtain ⟨ε5, c1, u1⟩ := Rs.bnd_of u1
          obtain ⟨bb, c2, u1⟩ := Rs.bnd_of u1
          refine .inr ⟨w5.go j _ hd5, fun H5 => j + 1 ≤ ds1.length ∧ ∃ acc dacc rest, H5 Dd = some (.lst acc) ∧ Same H1 H5 ∧ Fz (O1 O Dd) H'' (O1 O Dd) H5 ∧ Fz (O1 O Dd) H4 (O1 O Dd) H5 ∧ Rps X.K (O1 O Dd) H5 acc dacc ∧ lcL (turn1 ε') (ds1.drop (j + 1)) = .ok rest ∧ dacc ++ rest ++ ws = tot, fun H6 hN => ⟨ds1.length - (j + 1), ?_, rfl, hN⟩, fun z5 H6 y5 => ?_⟩
          · omega
          obtain ⟨e6, rz5⟩ := w5.yld j _ z5 H6 hd5 y5
          subst e6
          refine ⟨O1 O Dd, _, _, ε5, rz5, c1, fun σ3 er6 w6 => ⟨by rw [w6 _ fun i hi => hi, wipe_wipe], ?_⟩⟩
          have er7 := er6 _ _ (Fz.refl _ _) ((er2 _ _ f5 ((er1.mvS (fzO1 hD sH5) sH5).wipe _)).wipe _)
          have ot7 := otO1 (p := Dd) ot1 sH5 ⟨_, hA5⟩
          refine ⟨O1 O Dd, ε5, er7, ot7, ?_⟩
          rw [c2]
          refine fun H7 s7 => ?_
          cases bb with
          | true =>
            rw [if_pos rfl] at u1 ⊢
            obtain ⟨dy, c3, u1⟩ := Rs.bnd_of u1
            injection u1 with u1
            refine ⟨O1 O Dd, ε5, er7.same s7, ot7.same s7, ?_⟩
            rw [c3]
            refine fun yv H8 s8 ry => ⟨acc5, s8 _ _ (s7 _ _ hA5), ?_, lt5, acc5 ++ [yv], dacc5 ++ [dy], ws5, upd_same, sameUp hD ((sH5.trans s7).trans s8), ?_, ?_, ?_, u2, ?_⟩
            · have h1 := congrArg List.length et5
              rw [u3, ← u1] at h1
              have h2 := ra5.length
              simp only [List.length_append, List.length_cons, List.length_nil] at h1
              omega
            · exact (f5.trans (.same (s7.trans s8))).trans (fzUp (s8 _ _ (s7 _ _ hA5)))
            · exact (f45.trans (.same (s7.trans s8))).trans (fzUp (s8 _ _ (s7 _ _ hA5)))
            · exact (((ra5.same s7).same s8).app (.cons ry .nil)).mv (fzUp (s8 _ _ (s7 _ _ hA5)))
            · rw [← et5, u3, ← u1]; simp
          | false =>
            rw [if_neg Bool.false_ne_true] at u1 ⊢
            injection u1 with u1
            refine ⟨lt5, acc5, dacc5, ws5, s7 _ _ hA5, sH5.trans s7, f5.trans (.same s7), f45.trans (.same s7), ra5.same s7, u2, ?_⟩
            rw [← et5, u3, ← u1]; rfl
        · have e : j = ds1.length := by omega
          subst e
          rw [List.drop_length] at er5
          have er5 : Rs.ok [] = Rs.ok rest5 := er5
          injection er5 with er5
          subst er5
          rw [List.append_nil] at et5
          exact .inl ⟨w5.stop, lt, acc5, dacc5, ws, hA5, sH5, ra5, t2, et5⟩
      | false =>
        rw [if_neg Bool.false_ne_true] at t1' ⊢
        injection t1' with t1'
        refine ⟨lt, acc, dacc, ws, s3 _ _ hA, sH.trans s3, ra.same s3, t2, ?_⟩
        rw [← et, t3, ← t1']; rfl
    · have e : i = ds.length := by omega
      subst e
      refine .inl ⟨w.stop, q2 _ H' (s1.trans sH) ?_⟩
      rw [List.drop_length] at er'
      have er' : Rs.ok [] = Rs.ok rest := er'
      injection er' with er'
      subst er'
      rw [List.append_nil] at et
      subst et
      exact ⟨Dd, acc, rfl, s1.free hD, hA, by rw [ra.length]; exact hT, fun O' h => ra.mv (fzOff (o := .lst []) ⟨_, hA⟩ h)⟩
theorem s_lc2 (g : Good c φ C k X) {elt tg iter tg1 iter1 : Expr} {ifs ifs1 : List Expr} {scope : Scope} {own : List (Str × Nat)} {pos : Pos} {t t1 : Pt} {it it1 : It} {cd cd1 : Option E} {x : E} (ok : BlkOk X.N X.env.scope scope own) (hi : PI X tg iter (tI false X.K φ C W it)) (hs : ∀ x, foldedSetIterable iter X.env x = pure x) (hs1 : ∀ env x, foldedSetIterable iter1 env x = pure x)
    (hg : ∀ (s : Shared) (H : Hp) (Cc : Addr) (cl : List (Str × Addr)) (fp : List Addr), PG (X.blk s H scope (compEnvC scope cl Cc X.env) fp) tg (gP X.K t)) (ht : ∀ (s : Shared) (H : Hp) (Cc : Addr) (cl : List (Str × Addr)) (fp : List Addr), PTs (X.blk s H scope (compEnvC scope cl Cc X.env) fp) ifs (tC X.K φ C W0 cd))
    (hi1 : ∀ (s : Shared) (H : Hp) (Cc : Addr) (cl : List (Str × Addr)) (fp : List Addr), PI (X.blk s H scope (compEnvC scope cl Cc X.env) fp) tg1 iter1 (tI true X.K φ C W0 it1))
    (hg1 : ∀ (s : Shared) (H : Hp) (Cc : Addr) (cl : List (Str × Addr)) (fp : List Addr), PG (X.blk s H scope (compEnvC scope cl Cc X.env) fp) tg1 (gP X.K t1)) (ht1 : ∀ (s : Shared) (H : Hp) (Cc : Addr) (cl : List (Str × Addr)) (fp : List Addr), PTs (X.blk s H scope (compEnvC scope cl Cc X.env) fp) ifs1 (tC X.K φ C W0 cd1))
    (he : ∀ (s : Shared) (H : Hp) (Cc : Addr) (cl : List (Str × Addr)) (fp : List Addr), PE (X.blk s H scope (compEnvC scope cl Cc X.env) fp) elt (tD X.K φ C W0 x)) (hin : t.isin (own.map (·.2)) = true) (hin1 : t1.isin (own.map (·.2)) = true) :
    PE X (.ListComp elt [⟨tg, iter, ifs, 0⟩, ⟨tg1, iter1, ifs1, 0⟩] scope pos) ((tF X.K φ C W) (.lc2 (own.map (·.2)) t1.sl x t it cd t1 it1 cd1)) :=
  pem (pe_lc2 g.calm g.nd hi ok (isin_of hin1) hg ht hi1 hg1 ht1 he hs hs1) fun σ H Q h => lc2_rd hin hin1 h
end
end Ws

set_option Elab.async false
set_option linter.all false
set_option maxRecDepth 100000
set_option maxHeartbeats 4000000
/-! Sim13b: sorted(xs, key=f), f a def -/
namespace Ws
open PySem PySem.Spec PyProof.Rows L2
/-- the context inside the sort -/
def Xk (X : Cx) : Cx := { X with A := X.A.in1.in1, xe := fun _ _ => False }
theorem xk_ok {X : Cx} (ok : X.Ok) : (Xk X).Ok :=
  ⟨ok.mod, ok.kind, ok.glob, ok.blt, ok.above, ok.inj, ok.has, ok.cab, ok.hd, ok.frames, ok.stk, ok.exf, ok.bs, ok.bsz, ok.noex, ok.exfs, ok.funs, ok.frf⟩
section
variable {X : Cx} {pins : List (Addr × Obj)} {σ : L2.St} {H : Hp} {s : Shared}
theorem Xk.to (I : Inv X pins σ H s) : Inv (Xk X) pins σ H s := ⟨xk_ok I.ok, I.os, I.bare, I.base, I.loc, I.cell, I.free, I.freeC, I.pin, I.hok, I.len⟩
theorem Xk.back (ok : X.Ok) (I : Inv (Xk X) pins σ H s) : Inv X pins σ H s := ⟨ok, I.os, I.bare, I.base, I.loc, I.cell, I.free, I.freeC, I.pin, I.hok, I.len⟩
/-- a list object that nobody tracks has turned -/
theorem turned2 {pins' : List (Addr × Obj)} {h' : Heap} {t' : Nat} {a kS : Addr} {o : HO} (I : Inv X (pins' ++ pins) σ H s) (pa : ∀ p ∈ pins', p.1 = a ∨ p.1 = kS)
    (ha : ∃ e x, s.heap.get? a = some (seqObj "list" x e)) (hk : ∃ e x, s.heap.get? kS = some (seqObj "list" x e)) (hna : H a = none) (hnk : H kS = none)
    (ga : X.s_0.heap.objs.size ≤ a ∧ a ≠ X.env.locals) (gk : X.s_0.heap.objs.size ≤ kS ∧ kS ≠ X.env.locals) (np : ∀ p ∈ X.pn ++ pins, p.1 ≠ a ∧ p.1 ≠ kS)
    (keep : ∀ b u, b ≠ a → b ≠ kS → s.heap.get? b = some u → h'.get? b = some u) (new : ObjOk X.prog X.w (upd H a o) h' a o) : Inv X pins σ (upd H a o) { s with heap := h', toks := t' } := by
  have I0 : Inv X pins σ H s := I.pins_of fun p hp => I.pin p (List.mem_append_right _ (List.mem_append_right _ hp))
  have cell : ∀ c, (∃ e x, s.heap.get? c = some (seqObj "list" x e)) → ∀ x c', X.env.cells.lookup x = some c' → c' ≠ c := fun c ⟨e, y, ho⟩ x c' hc z => by
    subst z
    obtain ⟨v, o', ho', hd⟩ := I.cell x c' hc
    rw [ho] at ho'; cases ho'
    cases hd
  have nit : ∀ b u, H b = some u → b ≠ a ∧ b ≠ kS := fun b u e => ⟨fun z => (by rw [z, hna] at e; cases e), fun z => (by rw [z, hnk] at e; cases e)⟩
  refine I0.step (g' := s.gens) (d' := s.drawn) (ch := [a, kS]) (fun b hb => ?_) (fun b u _ _ hc e _ => keep b u (fun z => hc (z ▸ List.mem_cons_self)) (fun z => hc (z ▸ List.mem_cons_of_mem _ List.mem_cons_self)) e) (fun b u _ _ hc e _ => ⟨u.slots, keep b u (fun z => hc (z ▸ List.mem_cons_self)) (fun z => hc (z ▸ List.mem_cons_of_mem _ List.mem_cons_self)) e⟩)
    (fun b u hc e n => by rw [upd_ne (fun z => hc (by simp [z]))]; exact n) (fun b u hc e => ⟨u, keep b u (fun z => hc (by simp [z])) (fun z => hc (by simp [z])) e⟩)
    (fun b xs e => by rw [upd_ne (nit b _ e).1]; exact e) (fun b u xs e => by rw [upd_ne (nit b _ e).1]; exact e) (fun b ps e => ⟨#[], by rw [upd_ne (nit b _ e).1, e]; simp⟩) (fun m hm => ?_) (fun b u e => ?_) I.bare
  · rcases List.mem_cons.mp hb with e | hb
    · subst e
      exact ⟨.inr ga.1, ga.2, cell _ ha, fun p hp => (np p hp).1⟩
    · rcases List.mem_cons.mp hb with e | hb
      · subst e
        exact ⟨.inr gk.1, gk.2, cell _ hk, fun p hp => (np p hp).2⟩
      · cases hb
  · obtain ⟨u, es, ep, ho, r⟩ := hm
    exact ⟨u, es, ep, keep _ u ga.2.symm gk.2.symm ho, r⟩
  · by_cases hb : b = a
    · subst hb
      rw [upd_same] at e; cases e
      exact new
    · rw [upd_ne hb] at e
      refine (I.hok b u e).stay (fun c v hc q => keep c v ?_ ?_ q) (fun c q => ?_) fun c xs q => ?_
      · rcases hc with z | z
        · rw [z]; exact hb
        · exact (nit c _ z).1
      · rcases hc with z | z
        · rw [z]; exact (nit b u e).2
        · exact (nit c _ z).2
      · rw [upd_ne (nit c _ q).1]; exact q
      · rw [upd_ne (nit c _ q).1]; exact q
theorem pin_turn {Y : Cx} {rest : List (Addr × Obj)} {s : Shared} {h' : Heap} {kS : Addr} {xk xk' : Array Value} {ek ek' : Nat} (I : Inv Y ((kS, seqObj "list" xk ek) :: rest) σ H s) (gk : Y.s_0.heap.objs.size ≤ kS) (np : ∀ p ∈ Y.pn ++ rest, p.1 ≠ kS)
    (keep : ∀ b u, b ≠ kS → s.heap.get? b = some u → h'.get? b = some u) (new : h'.get? kS = some (seqObj "list" xk' ek')) : Inv Y ((kS, seqObj "list" xk' ek') :: rest) σ H { s with heap := h' } := by
  obtain ⟨h1, h2, h3, h4, h5⟩ := I.pin (kS, seqObj "list" xk ek) (List.mem_append_right _ List.mem_cons_self)
  have I0 : Inv Y rest σ H s := I.pins_of fun p hp => I.pin p (List.mem_append_right _ (List.mem_cons_of_mem _ hp))
  have cell : ∀ x c, Y.env.cells.lookup x = some c → c ≠ kS := fun x c hc z => by
    subst z
    obtain ⟨v, o', ho', hd⟩ := I.cell x c hc
    rw [h1] at ho'; cases ho'
    cases hd
  have I1 : Inv Y rest σ H { s with heap := h' } := I0.turned (t' := s.toks) keep h2 h3 (.inr gk) cell np
  refine I1.pins_of fun p hp => ?_
  rcases List.mem_cons.mp hp with e | hp
  · subst e
    exact ⟨new, h2, h3, h4, fun v z => by cases z⟩
  · exact I1.pin p (List.mem_append_right _ hp)
theorem key_rest {Y : Cx} {f : Value} {O : Ow} {a kS : Addr} {e1 : Nat} {vs : List Value} {xs : List V} {ks : List D} (rv : Vals xs vs) (hl : ks.length = xs.length) (hz : xs.length ≤ sizeLine)
    (turn : ∀ (j : Nat) (x : V) (u : Value) (kd : D), RelV x u → xs[j]? = some x → ks[j]? = some kd → ∀ (pins : List (Addr × Obj)) (H' : Hp) (s' : Shared), Same H H' → Inv Y pins σ H' s' → wpAny (model Y.prog Y.w) Y.A (PySem.call f [u]) (EP Y pins σ fun v H'' => Same H' H'' ∧ Rp Y.K O H'' v kd) (fun _ _ => False) s')
    (gk : Y.s_0.heap.objs.size ≤ kS) (np : ∀ p ∈ Y.pn ++ ((a, seqObj "list" #[] e1) :: pins), p.1 ≠ kS)
    (so : sortOk ks = true) (hu : Y.A.units + 40 < cLine) {P : PySem.Fin → Shared → Prop}
    (I : Inv Y ((kS, seqObj "list" #[] 0) :: (a, seqObj "list" #[] e1) :: pins) σ H s)
    (h : ∀ (s' : Shared) (H' : Hp) (kA : Array Value) (e : Nat), Inv Y ((kS, seqObj "list" kA e) :: (a, seqObj "list" #[] e1) :: pins) σ H' s' → Same H H' → ∀ h' tk out c, (∀ b u, b ≠ a → b ≠ kS → s'.heap.get? b = some u → h'.get? b = some u) → h'.get? a = some (seqObj "list" (List.toArray out) c) → PySem.W.KeyedOut false ks vs out → P (.done (.ret .none)) { s' with heap := h', toks := tk }) :
    wpAny (model Y.prog Y.w) Y.A (ksk_rest a f false vs.toArray e1 (.ref kS)) P (fun _ _ => False) s := by
  obtain ⟨al, sk, li⟩ := sortOk_of so
  unfold ksk_rest
  refine wpAny_bind (wpAny_rule ?_)
  first
    | rw [List.forIn_toArray]
    | (rw [← Array.forIn_toList]; simp only [List.toList_toArray])
    | rw [← Array.forIn_toList]
  refine wpAny_bind (ksk_fold (fun i s' => ∃ H' kA e, Inv Y ((kS, seqObj "list" kA e) :: (a, seqObj "list" #[] e1) :: pins) σ H' s' ∧ Same H H' ∧ ∃ kvs, Vals kvs kA.toList ∧ Rps Y.K O H' kvs (ks.take i)) vs 0 s
    ⟨H, #[], 0, I, Same.refl _, [], .nil, .nil⟩ ?step ?done)
  case step =>
    rintro j u s' hj ⟨H', kA, e, I', sm, kvs, rk, rr⟩
    simp only [Nat.zero_add] at rr ⊢
    have hjl : j < vs.length := (List.getElem?_eq_some_iff.mp hj).1
    have hxl : xs.length = vs.length := rv.length
    obtain ⟨x, hx, rx⟩ : ∃ x, xs[j]? = some x ∧ RelV x u := by
      have hx : xs[j]? = some xs[j] := List.getElem?_eq_getElem (by omega)
      obtain ⟨u', h1, h2⟩ := rv.get hx
      rw [hj] at h1; cases h1
      exact ⟨_, hx, h2⟩
    obtain ⟨kd, hk⟩ : ∃ kd, ks[j]? = some kd := ⟨_, List.getElem?_eq_getElem (by omega)⟩
    refine wpAny_bind (wpAny_attempt (wpAny_mono (turn j x u kd rx hx hk _ H' s' sm I') (fun v s'' he => ?_) fun _ _ hF => hF.elim))
    obtain ⟨y, H'', I2, ry, sm2, rp⟩ := he
    try dsimp only
    have nk2 := (I2.pin (kS, seqObj "list" kA e) (List.mem_append_right _ List.mem_cons_self)).1
    have s1 := Heap.SameBut.update s''.heap kS (Obj.mapSeq (·.push v))
    obtain ⟨c2, hc2⟩ : ∃ c2, (s''.heap.update kS (Obj.mapSeq (·.push v))).get? kS = some (seqObj "list" (kA.push v) c2) := ⟨_, get?_update_seq nk2 (·.push v)⟩
    have hka : kA.size ≤ sizeLine := by
      have h1 : kvs.length = kA.toList.length := Vals.length rk
      have h2 : kvs.length = (ks.take j).length := Rps.length rr
      have h4 : kA.toList.length = kA.size := Array.length_toList
      rw [List.length_take] at h2
      omega
    refine wpAny_bind (listUpdate_at nk2 rfl ?_ hka (Nat.le_trans (Nat.le_of_eq (Array.size_push ..)) (Nat.succ_le_succ hka)))
    refine wpAny_pure ⟨rfl, H'', kA.push v, c2, pin_turn I2 gk np (fun b o hb q => (s1.2 b hb).trans q) hc2, sm.trans sm2, kvs ++ [y], ?_, ?_⟩
    · rw [Array.toList_push]
      exact rk.append (.cons ry .nil)
    · have ek : ks.take (j + 1) = ks.take j ++ [kd] := by rw [List.take_add_one, hk]; simp
      rw [ek]
      exact (rr.same sm2).app (.cons rp .nil)
  case done =>
    rintro s' ⟨H', kA, e, I', sm, kvs, rk, rr⟩
    have e3 : ks.take (0 + vs.length) = ks := List.take_of_length_le (by have := rv.length; omega)
    rw [e3] at rr
    obtain ⟨nk, _, _⟩ := I'.pin (kS, seqObj "list" kA e) (List.mem_append_right _ List.mem_cons_self)
    obtain ⟨na, _, _⟩ := I'.pin (a, seqObj "list" #[] e1) (List.mem_append_right _ (List.mem_cons_of_mem _ List.mem_cons_self))
    have hsz : kA.size = vs.length := by
      have h1 : kvs.length = kA.toList.length := Vals.length rk
      have h2 : kvs.length = ks.length := Rps.length rr
      have h3 := rv.length
      have h4 : kA.toList.length = kA.size := Array.length_toList
      omega
    have hka : kS ≠ a := fun z => np (a, seqObj "list" #[] e1) (List.mem_append_right _ List.mem_cons_self) z.symm
    have re := reads_each I' rk rr li
    try dsimp only
    refine wpAny_bind (listItems_at nk rfl ?_)
    exact PySem.W.keyH_end (κ := PySem.W.dataKind s'.heap ks) (h₁ := PySem.W.hideAll s'.heap [kS]) (fun b o _ q => PySem.W.of_hideAll _ q) (PySem.W.hideAll_none _ List.mem_cons_self) nk na hka (PySem.W.SortsAt.data re al sk (fun d hd => by have := lim_depth 40 d (li d hd); omega)) hsz (by have := rv.length; omega)
      fun h3 tk3 c k3 n3 => h s' H' kA e I' sm h3 tk3 _ c (fun b u hb hk q => k3 b u hb (PySem.W.hideAll_get _ q (by simpa using hk))) n3 ⟨s'.heap, kA.toList, al, rfl, re⟩
theorem each_vals : ∀ {xs : List V} {us : List Value} {ps : List (D × D)} {O : Ow} {K : PySem.W.Frag} {H : Hp}, Vals xs us → Rps K O H xs (ps.map Prod.fst) → PySem.W.EachIs (fun u p => RV K O H u p.1) us ps
  | _, _, [], _, _, _, .nil, _ => .nil
  | _, _, p :: ps, _, _, _, .cons r rs, .cons h hs => .cons ⟨_, r, h⟩ (each_vals rs hs)
  | _, _, _ :: _, _, _, _, .nil, h => by cases h
  | _, _, [], _, _, _, .cons _ _, h => by cases h
theorem each_back : ∀ {us : List Value} {ps : List (D × D)} {O : Ow} {K : PySem.W.Frag} {H : Hp}, PySem.W.EachIs (fun u p => RV K O H u p.1) us ps → ∃ xs, Vals xs us ∧ Rps K O H xs (ps.map Prod.fst)
  | _, _, _, _, _, .nil => ⟨[], .nil, .nil⟩
  | _, _, _, _, _, .cons ⟨x, r, h⟩ t => by
    obtain ⟨xs, rs, hs⟩ := each_back t
    exact ⟨x :: xs, .cons r rs, .cons h hs⟩
theorem leT_eq2 : PySem.W.dataLe false (fun p : D × D => p.2) = fun a b => leT a.2 b.2 := by
  funext a b
  rw [PySem.W.dataLe_eq]; rfl
theorem sortK_data (ps : List (D × D)) : ps.mergeSort (PySem.W.dataLe false fun p : D × D => p.2) = sortD (fun a b => leT a.2 b.2) ps := by
  rw [← leT_eq2]
  have t := PySem.W.sortLe_total (PyProof.Rows.listOrd itemOrd) false fun p : D × D => PySem.W.keyToks p.2
  exact sortD_merge t.trans (fun a b => by rw [Bool.or_eq_true]; exact t.total a b) ps
/-- sorted(xs, key=f) -/
theorem key_sorted {f l : Addr} {O : Ow} {xs : List V} {ds ks : List D} {Q : VK} (I : Inv X pins σ H s) (hS : SqL X.K H l xs) (ra : Rps X.K O H xs ds) (hl : ks.length = ds.length) (hz : xs.length ≤ sizeLine)
    (turn : ∀ (j : Nat) (x : V) (u : Value) (kd : D), RelV x u → xs[j]? = some x → ks[j]? = some kd → ∀ (pins : List (Addr × Obj)) (H' : Hp) (s' : Shared), Same H H' → Inv (Xk X) pins σ H' s' → wpAny (model X.prog X.w) X.A.in1.in1 (PySem.call (.ref f) [u]) (EP (Xk X) pins σ fun v H'' => Same H' H'' ∧ Rp X.K O H'' v kd) (fun _ _ => False) s')
    (so : sortOk ks = true) (hu : X.A.units + 64 < cLine) (q : ∀ v H', Same H H' → Fr X.K O H H' v (.list (sortK ds ks)) → Q v H') :
    wpAny (model X.prog X.w) X.A (PySem.call (.builtin "sorted") [.ref l] [(Str.ofString "key", .ref f)]) (EP X pins σ Q) X.xe s := by
  obtain ⟨vs, rv, hL, hz2⟩ := I.list hS
  have hvl : xs.length = vs.length := Vals.length rv
  refine PySem.W.sorted_of_sort hL.isList (by omega) (ksk_s1 _ _) (fun x => ksk_l1 _ _) fun E' => ?_
  rw [ksk_t1]
  have hat := PySem.W.copyHeap_at s.heap vs
  have old : ∀ b o, s.heap.get? b = some o → (PySem.W.copyHeap s.heap vs).get? b = some o := fun b o e => PySem.W.copyHeap_old e
  have hf : s.heap.get? (s.heap.objs.size + 1) = none := Heap.get?_none_of_le (Nat.le_succ _)
  refine wpAny_mono ?_ (fun _ _ h => h) fun _ _ h => False.elim h
  unfold ksk_tree
  obtain ⟨e1, ho1⟩ : ∃ e1, ((PySem.W.copyHeap s.heap vs).update (s.heap.objs.size + 1) (Obj.mapSeq fun _ => (#[] : Array Value))).get? (s.heap.objs.size + 1) = some (seqObj "list" #[] e1) := ⟨_, get?_update_seq hat fun _ => #[]⟩
  refine wpAny_bind (listItems_at hat rfl ?_)
  refine wpAny_bind (listUpdate_at hat rfl ?_ (by rw [List.size_toArray]; omega) (Nat.zero_le _))
  refine wpAny_bind (seqEpoch_at ho1 rfl ?_)
  refine wpAny_bind (wpAny_newTuple ?_ (by show vs.length ≤ _; omega))
  refine wpAny_bind (wpAny_newList ?_ (Nat.zero_le _))
  refine wpAny_holding ?_
  have hsz : (PySem.W.copyHeap s.heap vs).objs.size = s.heap.objs.size + 2 := by
    unfold PySem.W.copyHeap
    rw [size_push', Heap.size_update, size_push']
  have hkS : (((PySem.W.copyHeap s.heap vs).update (s.heap.objs.size + 1) (Obj.mapSeq fun _ => (#[] : Array Value))).push (seqObj "tuple" vs.toArray 0)).objs.size = s.heap.objs.size + 3 := by rw [size_push', Heap.size_update, hsz]
  have hold : ∀ b o, s.heap.get? b = some o → ((((PySem.W.copyHeap s.heap vs).update (s.heap.objs.size + 1) (Obj.mapSeq fun _ => (#[] : Array Value))).push (seqObj "tuple" vs.toArray 0)).push (seqObj "list" #[] 0)).get? b = some o := fun b o e => by
    have lt := Heap.lt_size e
    refine Heap.get?_push_of_some _ (Heap.get?_push_of_some _ ?_)
    rw [Heap.get?_update_ne _ _ _ _ (Nat.ne_of_lt (Nat.lt_succ_of_lt lt))]
    exact old b o e
  have hna : ((((PySem.W.copyHeap s.heap vs).update (s.heap.objs.size + 1) (Obj.mapSeq fun _ => (#[] : Array Value))).push (seqObj "tuple" vs.toArray 0)).push (seqObj "list" #[] 0)).get? (s.heap.objs.size + 1) = some (seqObj "list" #[] e1) := Heap.get?_push_of_some _ (Heap.get?_push_of_some _ ho1)
  have hnk : ((((PySem.W.copyHeap s.heap vs).update (s.heap.objs.size + 1) (Obj.mapSeq fun _ => (#[] : Array Value))).push (seqObj "tuple" vs.toArray 0)).push (seqObj "list" #[] 0)).get? (s.heap.objs.size + 3) = some (seqObj "list" #[] 0) := by
    rw [← hkS]; exact Heap.get?_push_size _ rfl
  show wpAny (model X.prog X.w) X.A.in1.in1 (ksk_rest (s.heap.objs.size + 1) (.ref f) false vs.toArray e1 (.ref (((PySem.W.copyHeap s.heap vs).update (s.heap.objs.size + 1) (Obj.mapSeq fun _ => (#[] : Array Value))).push (seqObj "tuple" vs.toArray 0)).objs.size)) _ _ { s with heap := (((PySem.W.copyHeap s.heap vs).update (s.heap.objs.size + 1) (Obj.mapSeq fun _ => (#[] : Array Value))).push (seqObj "tuple" vs.toArray 0)).push (seqObj "list" #[] 0) }
  rw [hkS]
  have I1 : Inv (Xk X) pins σ H { s with heap := (((PySem.W.copyHeap s.heap vs).update (s.heap.objs.size + 1) (Obj.mapSeq fun _ => (#[] : Array Value))).push (seqObj "tuple" vs.toArray 0)).push (seqObj "list" #[] 0) } := Xk.to (I.kept (t' := s.toks) hold)
  have lt0 : @LT.lt Nat instLTNat X.env.locals s.heap.objs.size := I.lt
  have ne3 : s.heap.objs.size + 3 ≠ X.env.locals := fun z => Nat.lt_irrefl (s.heap.objs.size + 3) (Nat.lt_of_lt_of_le (z ▸ lt0 : s.heap.objs.size + 3 < s.heap.objs.size) (Nat.le_add_right _ _))
  have ne1 : s.heap.objs.size + 1 ≠ X.env.locals := fun z => Nat.lt_irrefl (s.heap.objs.size + 1) (Nat.lt_of_lt_of_le (z ▸ lt0 : s.heap.objs.size + 1 < s.heap.objs.size) (Nat.le_add_right _ _))
  have sz0 := I.sz
  have fn : ∀ j, H (s.heap.objs.size + j) = none := fun j => I.hok.fresh (Nat.le_add_right _ _)
  have I2 : Inv (Xk X) ((s.heap.objs.size + 3, seqObj "list" #[] 0) :: (s.heap.objs.size + 1, seqObj "list" #[] e1) :: pins) σ H { s with heap := (((PySem.W.copyHeap s.heap vs).update (s.heap.objs.size + 1) (Obj.mapSeq fun _ => (#[] : Array Value))).push (seqObj "tuple" vs.toArray 0)).push (seqObj "list" #[] 0) } := I1.pins_of fun p hp => by
    rcases List.mem_cons.mp hp with e | hp
    · subst e
      exact ⟨hnk, fn 3, ne3, I.nofs (Nat.le_add_right _ _), fun v z => by cases z⟩
    · rcases List.mem_cons.mp hp with e | hp
      · subst e
        exact ⟨hna, fn 1, ne1, I.nofs (Nat.le_add_right _ _), fun v z => by cases z⟩
      · exact I1.pin p (List.mem_append_right _ hp)
  have pl : ∀ p ∈ X.pn ++ pins, ∀ j, p.1 ≠ s.heap.objs.size + j := fun p hp j => Nat.ne_of_lt (Nat.lt_of_lt_of_le (Heap.lt_size (I.pin p hp).1) (Nat.le_add_right _ _))
  refine key_rest (Y := Xk X) (xs := xs) (O := O) rv (by rw [hl, Rps.length ra]) hz turn (Nat.le_trans sz0 (Nat.le_add_right _ _)) (fun p hp => ?_) so (by show X.A.units + 2 + 40 < _; omega) I2 ?_
  · rcases List.mem_append.mp hp with hp | hp
    · exact pl p (List.mem_append_left _ hp) 3
    · rcases List.mem_cons.mp hp with e | hp
      · subst e
        show s.heap.objs.size + 1 ≠ s.heap.objs.size + 3
        omega
      · exact pl p (List.mem_append_right _ hp) 3
  · intro s' H' kA e I' sm h' tk out c keep na KO
    refine ⟨rfl, ?_⟩
    have z1 : (ds.zip ks).map Prod.snd = ks := List.map_snd_zip (by omega)
    have z2 : (ds.zip ks).map Prod.fst = ds := List.map_fst_zip (by omega)
    have eo := PySem.W.keyedOut_each (R := fun u p => RV X.K O H' u p.1) (bs := ds.zip ks) Prod.snd (by rw [z1]; exact KO) (each_vals rv (by rw [z2]; exact ra.same sm))
    rw [sortK_data] at eo
    obtain ⟨ys, r1, r2⟩ := each_back eo
    have hn : H' (s.heap.objs.size + 1) = none := (I'.pin (s.heap.objs.size + 1, seqObj "list" #[] e1) (List.mem_append_right _ (List.mem_cons_of_mem _ List.mem_cons_self))).2.1
    have hnk' := (I'.pin (s.heap.objs.size + 3, seqObj "list" kA e) (List.mem_append_right _ List.mem_cons_self))
    have hna' := (I'.pin (s.heap.objs.size + 1, seqObj "list" #[] e1) (List.mem_append_right _ (List.mem_cons_of_mem _ List.mem_cons_self)))
    have hy : ys.length ≤ sizeLine := by
      rw [Rps.length r2, List.length_map, (sortD_perm (ds.zip ks)).length_eq, List.length_zip]
      have := Rps.length ra
      omega
    have I3 := turned2 (t' := tk) (h' := h') (o := .lst ys) (pins' := [(s.heap.objs.size + 3, seqObj "list" kA e), (s.heap.objs.size + 1, seqObj "list" #[] e1)]) (a := s.heap.objs.size + 1) (kS := s.heap.objs.size + 3) (Xk.back I.ok I') (fun p hp => by
        rcases List.mem_cons.mp hp with e | hp
        · subst e; exact .inr rfl
        · rcases List.mem_cons.mp hp with e | hp
          · subst e; exact .inl rfl
          · cases hp) ⟨_, _, hna'.1⟩ ⟨_, _, hnk'.1⟩ hn hnk'.2.1 ⟨Nat.le_trans sz0 (Nat.le_add_right _ _), hna'.2.2.1⟩ ⟨Nat.le_trans sz0 (Nat.le_add_right _ _), hnk'.2.2.1⟩ (fun p hp => ⟨pl p hp 1, pl p hp 3⟩) keep ⟨hy, out, c, r1, na⟩
    refine ⟨.ref (s.heap.objs.size + 1), _, I3, rfl, q _ _ (sm.trans (same_new hn)) ?_⟩
    obtain ⟨a, zs, h1, h2, h3, h4, h5⟩ := Fr.newL (K := X.K) (O := O) hn r2 hy
    exact ⟨a, zs, h1, sm.free h2, h3, h4, h5⟩
end
theorem keysL_at {f : D → Rs D} : ∀ {xs ks : List D}, keysL f xs = .ok ks → ks.length = xs.length ∧ ∀ (j : Nat) (x y : D), xs[j]? = some x → ks[j]? = some y → f x = .ok y
  | [], ks, h => by
    have h : Rs.ok [] = Rs.ok ks := h
    injection h with h
    subst h
    exact ⟨rfl, fun j x y e => by simp at e⟩
  | x :: xs, ks, h => by
    unfold keysL at h
    obtain ⟨y, h1, h⟩ := Rs.bnd_of h
    obtain ⟨ys, h2, h⟩ := Rs.bnd_of h
    injection h with h
    subst h
    obtain ⟨q1, q2⟩ := keysL_at h2
    refine ⟨by simp [q1], fun j x' y' e1 e2 => ?_⟩
    cases j with
    | zero =>
      simp at e1 e2
      subst e1; subst e2
      cases e : f x with
      | ok a => rw [e] at h1; exact h1
      | ex z => rw [e] at h1; cases h1
      | st => rw [e] at h1; cases h1
    | succ j => exact q2 j x' y' (by simpa using e1) (by simpa using e2)
theorem keysL_noex {f : D → Rs D} : ∀ xs, NoEx (keysL f xs)
  | [] => NoEx.ok _
  | x :: xs => by
    unfold keysL
    refine NoEx.bnd ?_ fun ys => (keysL_noex xs).bnd fun _ => NoEx.ok _
    cases f x <;> first | exact NoEx.ok _ | exact NoEx.st
section
variable {X : Cx} {φ : Nat → List D → Rs D} {C : Addr} {W : WX} {c : Cfg} {k : Nat}
def rKey (K : PySem.W.Frag) (φ : Nat → List D → Rs D) (i : Nat) (f : Addr) : List V → List V → Hp → VK → Prop := fun vs zs H Q => ∃ O a xs ds ks, vs = [V.ref a] ∧ zs = [V.ref f] ∧ OT O H ∧ SqL K H a xs ∧ xs.length ≤ sizeLine ∧ Rps K O H xs ds ∧ keysL (fun y => φ i [y]) ds = .ok ks ∧ sortOk ks = true ∧
  ∀ v H', Same H H' → Fr K O H H' v (.list (sortK ds ks)) → Q v H'
theorem no_cx {P : Program} {w : World} {outer : List PySem.Env} {H : Hp} {s : Shared} {e : Value} {s' : Shared} (c : L2.CX P w outer H s (fun _ _ _ => False) e s') : False := by
  obtain ⟨_, _, _, _, _, _, _, _, _, _, _, _, z⟩ := c
  exact z
theorem cr_key (g : Good c φ C k X) {i : Nat} {y : Str} (hi : c.fns[i]? = some y) : ∃ f, X.mg y = some (.ref f) ∧ PySem.W.keepIn X.K (.ref f) = true ∧ CallRK X (.builtin "sorted") [Str.ofString "key"] (rKey X.K φ i f) := by
  obtain ⟨f, fd, ps, hm, hk, hb, F, hn⟩ := g.fns i y hi
  refine ⟨f, hm, hk, ?_⟩
  intro pins s σ H vs zs us ws Q I r1 r2 h
  obtain ⟨O, a, xs, ds, ks, rfl, rfl, ot, hS, hz, ra, hks, so, q⟩ := h
  obtain ⟨u, rfl, ru⟩ := vals1 r1
  obtain ⟨w, rfl, rw'⟩ := vals1 r2
  obtain rfl : u = Value.ref a := ru
  obtain rfl : w = Value.ref f := rw'
  obtain ⟨hl, hat⟩ := keysL_at hks
  have room := g.room
  refine key_sorted I hS ra hl hz (fun j x u kd rx hx hkd pins' H' s' sm I' => ?_) so (by have := g.hu; omega) q
  obtain ⟨d, hd, rd⟩ := ra.getV hx
  have e := hat j d kd hd hkd
  have hp : 1 = ps.length := hn [d] (by show φ i [d] ≠ .st; rw [show φ i [d] = .ok kd from e]; exact fun z => by cases z)
  have hr : Room (3 * k) (Xk X).A := Room.in1 (Room.in1 room)
  refine run_fnS (X := Xk X) (E := fun _ _ _ _ => False) F hr hb (fun _ _ _ _ _ _ c => no_cx c) I' (.cons rx .nil) ?_
  refine ⟨O, [d], ot.same sm, .cons (rd.same sm) .nil, hp, ?_⟩
  rw [show φ i [d] = .ok kd from e]
  exact fun v H'' s2 r2 => ⟨s2, r2⟩
theorem s_sortk (g : Good c φ C k X) {i : Nat} {y : Str} {e : Expr} {e' : E} {p pos kp yp : Pos} (hi : c.fns[i]? = some y) (hgy : Gl X y) (hdy : (y == ("__debug__" : Str)) = false) (hg : Gl X "sorted") (hm : X.mg "sorted" = none) (he : PE X e ((tW X.K φ C W) e')) (hl : lone e = true) :
    PE X (.Call (.Name "sorted" p) [e] [⟨some (Str.ofString "key"), .Name y yp, kp⟩] pos) ((tF X.K φ C W) (.sortk i e')) := by
  obtain ⟨f, hmf, hkf, cr⟩ := cr_key g hi
  have hf : PE X (.Name y yp) (L2.tC (.ref f)) := pe_glob hgy hmf (show RelV (.ref f) (.ref f) from rfl) hdy
  refine pem (pe_callBK (t := tCons ((tW X.K φ C W) e') tNil) (tk := tCons (L2.tC (.ref f)) tNil) cr hg hm (by decide +kernel) (pa_cons he pa_nil (starCons hl)) (pk_cons hf pk_nil) (by decide +kernel) (by decide +kernel) (by rw [starCons hl]; rfl) (starNone (by simp [lones, hl]))) fun σ H Q ⟨O, ε, er, ot, q⟩ => ?_
  simp only [ev] at q
  refine tW_in er ot q fun x v H1 s1 r1 q1 => ?_
  cases x with
  | list ds =>
    obtain ⟨a, xs, rfl, hS, hz, ra⟩ := r1
    have q1 : Res X.K C W O σ H ((keysL (fun y => φ i [y]) ds).bnd fun ks => if sortOk ks then .ok (.list (sortK ds ks)) else .st) (kF X.K O H Q) := q1
    obtain ⟨ks, e1, q2⟩ := Res.of_noex (keysL_noex ds) (q1.bind fun ys _ q2 => q2)
    have q2 : Res X.K C W O σ H (if sortOk ks then .ok (.list (sortK ds ks)) else .st) (kF X.K O H Q) := q2
    cases so : sortOk ks with
    | false => rw [so] at q2; exact q2.elim
    | true =>
      rw [so] at q2
      have q2 : kF X.K O H Q (.list (sortK ds ks)) := q2
      exact ⟨O, a, xs, ds, ks, rfl, rfl, ot.same s1, hS, hz, ra, e1, so, fun v H' s2 r2 => q2 v H' (s1.trans s2) (r2.same0 s1)⟩
  | _ => exact q1.elim
/-! ### {k: v for ..} -/
theorem fzUpK {O : Ow} {H : Hp} {p : Addr} {acc : List (Key × V)} {o : HO} (h : H p = some (.dK acc)) : Fz (O1 O p) H (O1 O p) (upd H p o) := by
  refine ⟨fun a u e q => ?_, fun a xs e => ?_, fun a u xs e => ?_⟩
  · have ne : a ≠ p := fun z => by unfold O1 at q; rw [if_pos z] at q; cases q
    exact ⟨by rw [upd_ne ne]; exact e, q⟩
  · have ne : a ≠ p := fun z => by rw [z, h] at e; cases e
    rw [upd_ne ne]; exact e
  · have ne : a ≠ p := fun z => by rw [z, h] at e; cases e
    rw [upd_ne ne]; exact e
theorem fzOffK {O : Ow} {H : Hp} {p : Addr} {O' : Ow} (g : ∀ a, a ≠ p → O' a = O a) : Fz (O1 O p) H O' H := by
  refine ⟨fun a u e q => ⟨e, ?_⟩, fun a xs e => e, fun a u xs e => e⟩
  have ne : a ≠ p := fun z => by unfold O1 at q; rw [if_pos z] at q; cases q
  rw [g a ne]
  unfold O1 at q; rwa [if_neg ne] at q
theorem dc_rd {own : List (Str × Nat)} {t : Pt} {it : It} {cd : Option E} {kx x : E} (hin : t.isin (own.map (·.2)) = true) {σ : L2.St} {H : Hp} {Q : VK} (h : (tF X.K φ C W) (.dc (own.map (·.2)) kx x t it cd) σ H Q) :
    tDc (tI false X.K φ C W it) (gP X.K t) (tC X.K φ C W0 cd) (tD X.K φ C W0 kx) (tD X.K φ C W0 x) (own.map (·.2)) σ H Q := by
    obtain ⟨O, ε, er, ot, q⟩ := h
    simp only [ev] at q
    refine ⟨O, ε, er, ot, q.bind fun ds _ q1 J H1 s1 hz wk Dd hD => ?_⟩
    revert q1
    generalize htn : (fun x_1 => (bnd t x_1 (wipeE ε (own.map (·.2)))).bnd fun ε' => (evc φ cd ε').bnd fun b => if b then (ev φ kx ε').bnd fun y => (Rs.of (keyOf y)).bnd fun _ => (ev φ x ε').bnd fun z => Rs.ok [PyData.tuple [y, z]] else Rs.ok []) = turn
    intro q1
    obtain ⟨tot, e1, q2⟩ := Res.of_noex (lcL_noex ds) (q1.bind fun ys _ q2 => q2)
    generalize hfl : (fun (acc : List (D × D)) (p : D) => match p with | .tuple [y, z] => putD acc y z | _ => acc) = fl at q2
    have q2 : kF X.K O H Q (.dict (tot.foldl fl [])) := by rw [← hfl]; rw [← hfl] at q2; exact q2
    have er1 := er.same s1
    have ot1 := ot.same s1
    refine ⟨fun i m H' => m = ds.length - i ∧ i ≤ ds.length ∧ ∃ acc dacc rest, H' Dd = some (.dK acc) ∧ Same H1 H' ∧ acc.length ≤ i ∧ RpK X.K (O1 O Dd) H' acc dacc ∧ lcL turn (ds.drop i) = .ok rest ∧ rest.foldl fl dacc = tot.foldl fl [],
      ⟨ds.length, by simp, Nat.zero_le _, [], [], tot, upd_same, sameUp hD (Same.refl _), Nat.le_refl _, .nil, by simpa using e1, rfl⟩, ?_⟩
    rintro i m H' ⟨rfl, hi, acc, dacc, rest, hA, sH, hl, ra, er', et⟩
    have w := wk (O1 O Dd) H' (fun _ => sH) (fzO1 hD sH)
    by_cases lt : i < ds.length
    · have hd : ds[i]? = some ds[i] := List.getElem?_eq_getElem lt
      rw [drop_cons hd] at er'
      obtain ⟨ys, ws, t1, t2, t3⟩ := lcL_cons er'
      rw [← htn] at t1
      obtain ⟨ε', b1, t1⟩ := Rs.bnd_of t1
      obtain ⟨b, b2, t1⟩ := Rs.bnd_of t1
      refine .inr ⟨w.go i _ hd, fun H' => i + 1 ≤ ds.length ∧ ∃ acc dacc rest, H' Dd = some (.dK acc) ∧ Same H1 H' ∧ acc.length ≤ i + 1 ∧ RpK X.K (O1 O Dd) H' acc dacc ∧ lcL turn (ds.drop (i + 1)) = .ok rest ∧ rest.foldl fl dacc = tot.foldl fl [], fun H'' hN => ⟨ds.length - (i + 1), ?_, rfl, hN⟩, fun z H'' y => ?_⟩
      · omega
      obtain ⟨e, rz⟩ := w.yld i _ z H'' hd y
      subst e
      refine ⟨O1 O Dd, _, _, ε', rz, b1, fun σ2 er2 w2 => ⟨by rw [w2 _ (isin_of hin), wipe_wipe], ?_⟩⟩
      have er3 := er2 _ _ (Fz.refl _ _) ((er1.mvS (fzO1 hD sH) sH).wipe _)
      have ot3 := otO1 (p := Dd) ot1 sH ⟨_, hA⟩
      refine ⟨O1 O Dd, ε', er3, ot3, ?_⟩
      rw [b2]
      refine fun H3 s3 => ?_
      cases b with
      | true =>
        rw [if_pos rfl] at t1 ⊢
        obtain ⟨dy, b3, t1⟩ := Rs.bnd_of t1
        obtain ⟨kk, b4, t1⟩ := Rs.bnd_of t1
        obtain ⟨dz, b5, t1⟩ := Rs.bnd_of t1
        injection t1 with t1
        have hk : keyOf dy = some kk := by
          cases e : keyOf dy with
          | none => rw [e] at b4; cases b4
          | some z => rw [e] at b4; cases b4; rfl
        obtain rfl := keyOf_inv hk
        refine ⟨O1 O Dd, ε', er3.same s3, ot3.same s3, ?_⟩
        rw [b3]
        refine fun kv H4 s4 rk => ⟨O1 O Dd, ε', (er3.same s3).same s4, (ot3.same s3).same s4, ?_⟩
        rw [b5]
        refine fun zv H5 s5 rz5 => ⟨acc, kk, ?_, s5 _ _ (s4 _ _ (s3 _ _ hA)), by omega, lt, putK acc kk zv, putD dacc (keyD kk) dz, ws, upd_same, sameUp hD (((sH.trans s3).trans s4).trans s5), ?_, ?_, t2, ?_⟩
        · cases kk with
          | inl i => cases rk; rfl
          | inr s => cases rk; rfl
        · have := length_putK acc kk zv; omega
        · exact (RpK.put rz5 (((ra.same s3).same s4).same s5)).mv (fzUpK (s5 _ _ (s4 _ _ (s3 _ _ hA))))
        · rw [← et, t3, ← t1, ← hfl]; rfl
      | false =>
        rw [if_neg Bool.false_ne_true] at t1 ⊢
        injection t1 with t1
        refine ⟨lt, acc, dacc, ws, s3 _ _ hA, sH.trans s3, by omega, ra.same s3, t2, ?_⟩
        rw [← et, t3, ← t1]; rfl
    · have e : i = ds.length := by omega
      subst e
      refine .inl ⟨w.stop, q2 _ H' (s1.trans sH) ?_⟩
      rw [List.drop_length] at er'
      have er' : Rs.ok [] = Rs.ok rest := er'
      injection er' with er'
      subst er'
      rw [← et]
      exact ⟨Dd, acc, rfl, s1.free hD, hA, fun O' h => ra.mv (fzOffK h)⟩
theorem s_dc (g : Good c φ C k X) {kx elt tg iter : Expr} {ifs : List Expr} {scope : Scope} {own : List (Str × Nat)} {pos : Pos} {t : Pt} {it : It} {cd : Option E} {y x : E} (ok : BlkOk X.N X.env.scope scope own) (hi : PI X tg iter (tI false X.K φ C W it)) (hs : ∀ x, foldedSetIterable iter X.env x = pure x)
    (hg : ∀ (s : Shared) (H : Hp) (Cc : Addr) (cl : List (Str × Addr)) (fp : List Addr), PG (X.blk s H scope (compEnvC scope cl Cc X.env) fp) tg (gP X.K t)) (ht : ∀ (s : Shared) (H : Hp) (Cc : Addr) (cl : List (Str × Addr)) (fp : List Addr), PTs (X.blk s H scope (compEnvC scope cl Cc X.env) fp) ifs (tC X.K φ C W0 cd))
    (hk : ∀ (s : Shared) (H : Hp) (Cc : Addr) (cl : List (Str × Addr)) (fp : List Addr), PE (X.blk s H scope (compEnvC scope cl Cc X.env) fp) kx (tD X.K φ C W0 y))
    (he : ∀ (s : Shared) (H : Hp) (Cc : Addr) (cl : List (Str × Addr)) (fp : List Addr), PE (X.blk s H scope (compEnvC scope cl Cc X.env) fp) elt (tD X.K φ C W0 x)) (hin : t.isin (own.map (·.2)) = true) :
    PE X (.DictComp kx elt [⟨tg, iter, ifs, 0⟩] scope pos) ((tF X.K φ C W) (.dc (own.map (·.2)) y x t it cd)) :=
  pem (pe_dc g.calm g.nd hi ok hg ht hk he hs) fun σ H Q h => dc_rd hin h
end
end Ws

set_option Elab.async false
set_option linter.all false
set_option maxRecDepth 100000
set_option maxHeartbeats 4000000
/-! Sim14: the pure language says what the text does: expressions -/
namespace Ws
open PySem PySem.Spec PyProof.Rows L2

theorem ev_wk {φ : Nat → List D → Rs D} {K : PySem.W.Frag} {C : Addr} {W : WX} {O : Ow} {σ : L2.St} {H : Hp} {k : D → Prop} : ∀ {a : E} {ε : Env}, Res K C W O σ H (ev φ a ε) k → Res K C W O σ H (ev φ (wk a) ε) k := by
  intro a ε h
  cases a <;> try exact h
  rename_i i
  simp only [ev, wk] at h ⊢
  cases hh : ε[i]? with
  | none => rw [hh] at h; exact h.elim
  | some s => cases s <;> (rw [hh] at h; first | exact h | exact h.elim)
structure SE (X : Cx) (φ : Nat → List D → Rs D) (C : Addr) (W : WX) (e : Expr) (a : E) : Prop where
  d : PE X e (tD X.K φ C W a)
  w : PE X e (tW X.K φ C W (wk a))
  f : frE a = true → PE X e (tF X.K φ C W a)
  t : PT X e (tT X.K φ C W (wk a))
section
variable {X : Cx} {φ : Nat → List D → Rs D} {C : Addr} {W : WX} {e : Expr} {a : E}
theorem SE.r (h : SE X φ C W e a) (F : Bool) : PE X e (tR F X.K φ C W (if F = true then a else wk a)) := by
  cases F with
  | true => exact h.d
  | false => exact h.w
theorem SE.ofF (h : PE X e (tF X.K φ C W a)) (hw : wk a = a) (he : ∀ whole, isTrue e X.env whole = (do let v ← whole; standAt e.pos; holding [v] (truthy v))) : SE X φ C W e a :=
  ⟨pe_FD h, by rw [hw]; exact pe_DW (pe_FD h), fun _ => h, by rw [hw]; exact s_truth (pe_DW (pe_FD h)) he⟩
theorem SE.ofD (h : PE X e (tD X.K φ C W a)) (hw : wk a = a) (hf : frE a = false) (he : ∀ whole, isTrue e X.env whole = (do let v ← whole; standAt e.pos; holding [v] (truthy v))) : SE X φ C W e a :=
  ⟨h, by rw [hw]; exact pe_DW h, fun z => absurd z (by rw [hf]; decide), by rw [hw]; exact s_truth (pe_DW h) he⟩
theorem ptwk (h : PT X e (tT X.K φ C W (wk a))) : PT X e (tT X.K φ C W a) := ptm h fun σ H Q ⟨O, ε, er, ot, q⟩ => ⟨O, ε, er, ot, ev_wk q⟩
theorem pwwk (h : PW X e (tT X.K φ C W (wk a))) : PW X e (tT X.K φ C W a) := pwm h fun σ H Q ⟨O, ε, er, ot, q⟩ => ⟨O, ε, er, ot, ev_wk q⟩
end
theorem evs_len {φ : Nat → List D → Rs D} : ∀ {es : List E} {ε : Env} {ds : List D}, evs φ es ε = .ok ds → ds.length = es.length
  | [], ε, ds, h => by simp only [evs] at h; injection h with h; subst h; rfl
  | e :: es, ε, ds, h => by
    simp only [evs] at h
    obtain ⟨x, _, h⟩ := Rs.bnd_of h
    obtain ⟨xs, h2, h⟩ := Rs.bnd_of h
    injection h with h
    subst h
    rw [List.length_cons, List.length_cons, evs_len h2]
theorem slot_of {c : Cfg} {X : Cx} {sc : Scope} {x : Str} {i : Nat} (hN : X.N = c.N) (hs : X.env.scope = sc) (h : slotOf c sc x = some i) : X.N[i]? = some x ∧ Vis X.env.scope x := by
  unfold slotOf at h
  rw [hN, hs]
  split at h
  · exact ⟨slotIx_get h, .inl (by assumption)⟩
  · exact ⟨slotIx_get h, .inr (.inl (by assumption))⟩
  · exact ⟨slotIx_get h, .inr (.inr (by assumption))⟩
  · cases h
theorem glob_of {X : Cx} {sc : Scope} {x : Str} (hs : X.env.scope = sc) (h : glob sc x = true) : Gl X x ∧ (x == ("__debug__" : Str)) = false := by
  unfold glob at h
  split at h
  · rename_i e
    simp only [Bool.not_eq_true', decide_eq_false_iff_not] at h
    exact ⟨by show X.env.scope.names.lookup x = _; rw [hs]; exact e, by simpa using h⟩
  · cases h
theorem relS_tg {X : Cx} {sc scope : Scope} (s : Shared) (H : Hp) (Cc : Addr) (cl : List (Str × Addr)) (fp : List Addr) (hs : X.env.scope = sc) : TgOk (X.blk s H scope (compEnvC scope cl Cc X.env) fp) scope := fun x => by
  refine ⟨fun h => ?_, fun h => ⟨?_, ?_⟩⟩
  · exact lookup_relS_keep (sc := X.env.scope) (by decide) h
  · exact lookup_relS_keep (sc := X.env.scope) (by decide) h
  · show (scope.names.lookup x == some NameKind.cell) = true
    rw [h]; rfl
theorem fix_of {l : List Str} {x : Str} {i : Nat} (h : (l.findIdx? fun y => decide (y = x)) = some i) : l[i]? = some x := slotIx_get (N := l) h
theorem folded_of {e : Expr} (h : walkable e = true) : ∀ (env : PySem.Env) (x : Value), foldedSetIterable e env x = pure x := by
  cases e <;> first | (simp [walkable] at h; done) | (intro _ _; rfl)

structure SN (c : Cfg) (φ : Nat → List D → Rs D) (C : Addr) (k n : Nat) : Prop where
  e : ∀ {X : Cx} {W : WX} {sc : Scope} {e : Expr} {a : E}, Good c φ C k X → Takes X W → X.env.scope = sc → compE c n sc e = some a → SE X φ C W e a
  is_ : ∀ {X : Cx} {W : WX} {sc : Scope} {es : List Expr} {a : E}, Good c φ C k X → Takes X W → X.env.scope = sc → compIs c n sc es = some a → glob sc "isinstance" = true → ("isinstance" : Str) ∈ c.bl → (∀ p pos, PE X (.Call (.Name "isinstance" p) es [] pos) (tF X.K φ C W a)) ∧ wk a = a
  b : ∀ {X : Cx} {W : WX} {sc : Scope} {o : BoolOp} {es : List Expr} {a : E}, Good c φ C k X → Takes X W → X.env.scope = sc → compB c n sc o es = some a → ∀ pos, PE X (.BoolOp o es pos) (tD X.K φ C W a) ∧ PW X (.BoolOp o es pos) (tT X.K φ C W (wk a)) ∧ (2 ≤ es.length → wk a = a ∧ frE a = false)
  es : ∀ {X : Cx} {W : WX} {sc : Scope} {es : List Expr} {as : List E}, Good c φ C k X → Takes X W → X.env.scope = sc → compEs c n sc es = some as → PA X es (tA X.K φ C W as) ∧ lones es = true ∧ as.length = es.length ∧ (es = [] → as = []) ∧ Paired (fun e a => PE X e (tD X.K φ C W a)) es as
  ws : ∀ {X : Cx} {W : WX} {sc : Scope} {es : List Expr} {as : List E}, Good c φ C k X → Takes X W → X.env.scope = sc → compWs c n sc es = some as → PA X es (tAW X.K φ C W as) ∧ lones es = true
  o : ∀ {X : Cx} {W : WX} {sc : Scope} {e : Option Expr} {a : Option E}, Good c φ C k X → Takes X W → X.env.scope = sc → compO c n sc e = some a → PO X e (tOO X.K φ C W a)
  cd : ∀ {X : Cx} {W : WX} {sc : Scope} {es : List Expr} {a : Option E}, Good c φ C k X → Takes X W → X.env.scope = sc → compC c n sc es = some a → PTs X es (tC X.K φ C W a)
  i : ∀ {X : Cx} {W : WX} {sc : Scope} {w : Bool} {e : Expr} {a : It}, Good c φ C k X → Takes X W → X.env.scope = sc → compI c n sc w e = some a → (∀ tg, PI X tg e (tI (!w) X.K φ C W a)) ∧ ∀ (env : PySem.Env) (x : Value), foldedSetIterable e env x = pure x
theorem bndO {α β : Type} {o : Option α} {f : α → Option β} {b : β} (h : o.bind f = some b) : ∃ a, o = some a ∧ f a = some b := by
  cases o with
  | none => cases h
  | some a => exact ⟨a, rfl, h⟩
theorem plain_of {b : Expr} (h : plainIx b = true) : PlainIx b := by
  intro o i
  cases b <;> first | (simp [plainIx] at h; done) | rfl

variable {c : Cfg} {φ : Nat → List D → Rs D} {C : Addr} {k : Nat}
theorem sn_is {n : Nat} (ih : SN c φ C k n) {X : Cx} {W : WX} {sc : Scope} {es : List Expr} {a : E} (g : Good c φ C k X) (tk : Takes X W) (hs : X.env.scope = sc) (h : compIs c (n + 1) sc es = some a) (hg : glob sc "isinstance" = true) (hb : ("isinstance" : Str) ∈ c.bl) :
    (∀ p pos, PE X (.Call (.Name "isinstance" p) es [] pos) (tF X.K φ C W a)) ∧ wk a = a := by
  obtain ⟨hgi, _⟩ := glob_of hs hg
  have hmi := g.bl _ hb
  unfold compIs at h
  split at h
  · cases h
  · rename_i nn e t p0 hn; cases hn
    split at h
    · rename_i cnd
      simp only [Bool.and_eq_true, decide_eq_true_eq] at cnd
      obtain ⟨e', h1, h⟩ := bndO h
      obtain ⟨t', h2, h⟩ := bndO h
      cases h
      exact ⟨fun p pos => s_isi1 (ih.e g tk hs h1).w cnd.1.1 h2 (glob_of hs cnd.1.2).1 (g.bl _ cnd.2) hgi hmi, rfl⟩
    · cases h
  · rename_i nn e t p0 u p1 kk p2 hn; cases hn
    split at h
    · rename_i cnd
      simp only [Bool.and_eq_true, decide_eq_true_eq] at cnd
      obtain ⟨e', h1, h⟩ := bndO h
      obtain ⟨t', h2, h⟩ := bndO h
      obtain ⟨u', h3, h⟩ := bndO h
      cases h
      exact ⟨fun p pos => s_isi2 (ih.e g tk hs h1).w cnd.1.1.1.1 h2 h3 (glob_of hs cnd.1.1.1.2).1 (g.bl _ cnd.1.1.2) (glob_of hs cnd.1.2).1 (g.bl _ cnd.2) hgi hmi, rfl⟩
    · cases h
  · cases h
theorem pw_one' {X : Cx} {o : BoolOp} {e : Expr} {t : TT} {pos : Pos} (h : PT X e t) : PW X (.BoolOp o [e] pos) t := by
  cases o with
  | And => exact pw_and1 h
  | Or => exact pw_or1 h
theorem sn_b {n : Nat} (ih : SN c φ C k n) {X : Cx} {W : WX} {sc : Scope} {o : BoolOp} {es : List Expr} {a : E} (g : Good c φ C k X) (tk : Takes X W) (hs : X.env.scope = sc) (h : compB c (n + 1) sc o es = some a) (pos : Pos) :
    PE X (.BoolOp o es pos) (tD X.K φ C W a) ∧ PW X (.BoolOp o es pos) (tT X.K φ C W (wk a)) ∧ (2 ≤ es.length → wk a = a ∧ frE a = false) := by
  unfold compB at h
  split at h
  · cases h
  · cases h
  · rename_i nn e hn; cases hn
    have se := ih.e g tk hs h
    exact ⟨pe_one se.d, pw_one' se.t, fun z => by simp at z⟩
  · rename_i nn e e' es hn; cases hn
    obtain ⟨a1, h1, h⟩ := bndO h
    obtain ⟨b1, h2, h⟩ := bndO h
    cases h
    have se := ih.e g tk hs h1
    obtain ⟨q1, q2, _⟩ := ih.b g tk hs h2 pos
    exact ⟨s_andV se.d q1, s_andT (ptwk se.t) (pwwk q2), fun _ => ⟨rfl, rfl⟩⟩
  · rename_i nn e e' es hn; cases hn
    obtain ⟨a1, h1, h⟩ := bndO h
    obtain ⟨b1, h2, h⟩ := bndO h
    cases h
    have se := ih.e g tk hs h1
    obtain ⟨q1, q2, _⟩ := ih.b g tk hs h2 pos
    exact ⟨s_orV se.d q1, s_orT (ptwk se.t) (pwwk q2), fun _ => ⟨rfl, rfl⟩⟩
theorem sn_es {n : Nat} (ih : SN c φ C k n) {X : Cx} {W : WX} {sc : Scope} {es : List Expr} {as : List E} (g : Good c φ C k X) (tk : Takes X W) (hs : X.env.scope = sc) (h : compEs c (n + 1) sc es = some as) :
    PA X es (tA X.K φ C W as) ∧ lones es = true ∧ as.length = es.length ∧ (es = [] → as = []) ∧ Paired (fun e a => PE X e (tD X.K φ C W a)) es as := by
  unfold compEs at h
  split at h
  · cases h
  · cases h; exact ⟨s_nil, rfl, rfl, fun _ => rfl, .nil⟩
  · rename_i nn e es hn; cases hn
    split at h
    · rename_i hl
      obtain ⟨a1, h1, h⟩ := bndO h
      obtain ⟨b1, h2, h⟩ := bndO h
      cases h
      obtain ⟨q1, q2, q3, _, q5⟩ := ih.es g tk hs h2
      exact ⟨s_cons (ih.e g tk hs h1).d q1 (starCons hl), by simp only [lones, hl, q2, Bool.and_true], by rw [List.length_cons, List.length_cons, q3], fun z => (by cases z), .cons (ih.e g tk hs h1).d q5⟩
    · cases h
theorem sn_ws {n : Nat} (ih : SN c φ C k n) {X : Cx} {W : WX} {sc : Scope} {es : List Expr} {as : List E} (g : Good c φ C k X) (tk : Takes X W) (hs : X.env.scope = sc) (h : compWs c (n + 1) sc es = some as) :
    PA X es (tAW X.K φ C W as) ∧ lones es = true := by
  unfold compWs at h
  split at h
  · cases h
  · cases h; exact ⟨s_nilW, rfl⟩
  · rename_i nn e es hn; cases hn
    split at h
    · rename_i hl
      obtain ⟨a1, h1, h⟩ := bndO h
      obtain ⟨b1, h2, h⟩ := bndO h
      cases h
      obtain ⟨q1, q2⟩ := ih.ws g tk hs h2
      exact ⟨s_consW (ih.e g tk hs h1).w q1 (starCons hl), by simp only [lones, hl, q2, Bool.and_true]⟩
    · cases h
theorem sn_o {n : Nat} (ih : SN c φ C k n) {X : Cx} {W : WX} {sc : Scope} {e : Option Expr} {a : Option E} (g : Good c φ C k X) (tk : Takes X W) (hs : X.env.scope = sc) (h : compO c (n + 1) sc e = some a) : PO X e (tOO X.K φ C W a) := by
  unfold compO at h
  split at h
  · cases h
  · cases h; exact s_po0
  · rename_i nn e hn; cases hn
    obtain ⟨a1, h1, h⟩ := bndO h
    cases h
    exact s_po1 (ih.e g tk hs h1).w
theorem sn_cd {n : Nat} (ih : SN c φ C k n) {X : Cx} {W : WX} {sc : Scope} {es : List Expr} {a : Option E} (g : Good c φ C k X) (tk : Takes X W) (hs : X.env.scope = sc) (h : compC c (n + 1) sc es = some a) : PTs X es (tC X.K φ C W a) := by
  unfold compC at h
  split at h
  · cases h
  · cases h
    exact ⟨fun p s σ H Q I ⟨O, ε, er, ot, q⟩ => pts_nil.run p s σ H Q I (by simp only [evc] at q; exact q H (Same.refl H))⟩
  · rename_i nn e hn; cases hn
    obtain ⟨a1, h1, h⟩ := bndO h
    cases h
    exact ⟨fun p s σ H Q I ⟨O, ε, er, ot, q⟩ => (pts_one (ih.e g tk hs h1).t).run p s σ H Q I (by simp only [evc] at q; exact tT_in er ot q fun d H' s q1 => q1 H' s)⟩
  · cases h
theorem sn_i {n : Nat} (ih : SN c φ C k n) {X : Cx} {W : WX} {sc : Scope} {w : Bool} {e : Expr} {a : It} (g : Good c φ C k X) (tk : Takes X W) (hs : X.env.scope = sc) (h : compI c (n + 1) sc w e = some a) :
    (∀ tg, PI X tg e (tI (!w) X.K φ C W a)) ∧ ∀ (env : PySem.Env) (x : Value), foldedSetIterable e env x = pure x := by
  have hw : ∀ a1 : E, (if (!w) = true then a1 else wk a1) = (if w = true then wk a1 else a1) := fun a1 => by cases w <;> rfl
  unfold compI at h
  split at h
  · cases h
  · rename_i nn a1 p pos hn; cases hn
    split at h
    · rename_i cnd
      simp only [Bool.and_eq_true, decide_eq_true_eq] at cnd
      obtain ⟨e', h1, h⟩ := bndO h
      cases h
      exact ⟨fun tg => s_rng1 (glob_of hs cnd.1.1).1 (g.bl _ cnd.1.2) cnd.2 (ih.e g tk hs h1).w, fun _ _ => rfl⟩
    · cases h
  · rename_i nn a1 b1 p pos hn; cases hn
    split at h
    · rename_i cnd
      simp only [Bool.and_eq_true, decide_eq_true_eq] at cnd
      obtain ⟨e', h1, h⟩ := bndO h
      obtain ⟨e2', h2, h⟩ := bndO h
      cases h
      exact ⟨fun tg => s_rng2 (glob_of hs cnd.1.1.1).1 (g.bl _ cnd.1.1.2) cnd.1.2 cnd.2 (ih.e g tk hs h1).w (ih.e g tk hs h2).w, fun _ _ => rfl⟩
    · cases h
  · rename_i nn a1 b1 d1 p pos hn; cases hn
    split at h
    · rename_i cnd
      simp only [Bool.and_eq_true, decide_eq_true_eq] at cnd
      obtain ⟨e', h1, h⟩ := bndO h
      obtain ⟨e2', h2, h⟩ := bndO h
      obtain ⟨e3', h3, h⟩ := bndO h
      cases h
      exact ⟨fun tg => s_rng3 (glob_of hs cnd.1.1.1.1).1 (g.bl _ cnd.1.1.1.2) cnd.1.1.2 cnd.1.2 cnd.2 (ih.e g tk hs h1).w (ih.e g tk hs h2).w (ih.e g tk hs h3).w, fun _ _ => rfl⟩
    · cases h
  · rename_i nn a1 p pos hn; cases hn
    split at h
    · rename_i cnd
      simp only [Bool.and_eq_true, decide_eq_true_eq] at cnd
      obtain ⟨e', h1, h⟩ := bndO h
      cases h
      refine ⟨fun tg => s_revI g (glob_of hs cnd.1.1).1 (g.bl _ cnd.1.2) cnd.2 ?_, fun _ _ => rfl⟩
      rw [← hw]
      exact (ih.e g tk hs h1).r _
    · cases h
  · rename_i nn e hn n1 n2 n3 n4; cases hn
    split at h
    · rename_i hwk
      obtain ⟨e', h1, h⟩ := bndO h
      cases h
      refine ⟨fun tg => s_seq ?_, folded_of hwk⟩
      rw [← hw]
      exact (ih.e g tk hs h1).r _
    · cases h
end Ws

set_option Elab.async false
set_option linter.all false
set_option maxRecDepth 100000
set_option maxHeartbeats 4000000
/-! Sim14b: tables of the module; len(set(..)); dict displays -/
namespace Ws
open PySem PySem.Spec PyProof.Rows L2

section
variable {X : Cx} {φ : Nat → List D → Rs D} {C : Addr} {W : WX} {c : Cfg} {k : Nat}
theorem tab_some {kvs : List (Str × D)} {x : Str} : (kvs.map (·.1)).any (fun k => decide (k = x)) = (tabAt kvs x).isSome := by
  unfold tabAt
  rw [Option.isSome_map]
  induction kvs with
  | nil => rfl
  | cons p r ih =>
    rw [List.map_cons, List.any_cons, List.find?_cons, ih]
    by_cases e : p.1 = x
    · simp [e]
    · simp [e]
theorem inTD_noex (ks : List Str) (n : Bool) (d : D) : NoEx (inTD ks n d) := by cases d <;> first | exact NoEx.ok _ | exact NoEx.st
theorem s_inT {a : Expr} {a' : E} {T : Str} {kvs : List (Str × D)} {p pos : Pos} (g : Good c φ C k X) (hT : c.tabs.lookup T = some kvs) (hg : Gl X T) (hd : (T == ("__debug__" : Str)) = false) (ha : PE X a (tW X.K φ C W a')) :
    PE X (.Compare a [.In] [.Name T p] pos) (tF X.K φ C W (.inT (kvs.map (·.1)) false a')) ∧ PE X (.Compare a [.NotIn] [.Name T p] pos) (tF X.K φ C W (.inT (kvs.map (·.1)) true a')) := by
  obtain ⟨ad, es, n, hm, D0, hz⟩ := g.tabs T kvs hT
  have hb : PE X (.Name T p) (L2.tC (V.ref ad)) := pe_glob (v := V.ref ad) hg hm (show RelV (V.ref ad) (Value.ref ad) from rfl) hd
  refine ⟨pem (pe_cmpR (op_in_kd D0) ha hb rfl) fun σ H Q ⟨O, ε, er, ot, q⟩ => ?_, pem (pe_cmpR (op_notIn_kd D0) ha hb rfl) fun σ H Q ⟨O, ε, er, ot, q⟩ => ?_⟩
  · simp only [ev] at q
    refine tW_in er ot q fun d v H1 s1 r1 q1 => ?_
    cases d <;> try exact (show False from q1).elim
    rename_i x
    obtain ⟨rfl, _, _⟩ := strW r1
    have q1 : kF X.K O H Q (.bool ((kvs.map (·.1)).any fun k => decide (k = x))) := q1
    rw [tab_some] at q1
    cases e : tabAt kvs x with
    | none => rw [e] at q1; exact ⟨x, none, rfl, rfl, (hz x).2 e, q1 _ H1 s1 (Rp.bl _)⟩
    | some d =>
      obtain ⟨u, w, h1, _⟩ := (hz x).1 d e
      rw [e] at q1
      exact ⟨x, some u, rfl, rfl, h1, q1 _ H1 s1 (Rp.bl _)⟩
  · simp only [ev] at q
    refine tW_in er ot q fun d v H1 s1 r1 q1 => ?_
    cases d <;> try exact (show False from q1).elim
    rename_i x
    obtain ⟨rfl, _, _⟩ := strW r1
    have q1 : kF X.K O H Q (.bool (!(kvs.map (·.1)).any fun k => decide (k = x))) := q1
    rw [tab_some] at q1
    cases e : tabAt kvs x with
    | none => rw [e] at q1; exact ⟨x, none, rfl, rfl, (hz x).2 e, q1 _ H1 s1 (Rp.bl _)⟩
    | some d =>
      obtain ⟨u, w, h1, _⟩ := (hz x).1 d e
      rw [e] at q1
      exact ⟨x, some u, rfl, rfl, h1, q1 _ H1 s1 (Rp.bl _)⟩
theorem s_inTT {a : Expr} {a' : E} {T : Str} {kvs : List (Str × D)} {p pos : Pos} (g : Good c φ C k X) (hT : c.tabs.lookup T = some kvs) (hg : Gl X T) (hd : (T == ("__debug__" : Str)) = false) (ha : PE X a (tW X.K φ C W a')) :
    PT X (.Compare a [.In] [.Name T p] pos) (tT X.K φ C W (.inT (kvs.map (·.1)) false a')) ∧ PT X (.Compare a [.NotIn] [.Name T p] pos) (tT X.K φ C W (.inT (kvs.map (·.1)) true a')) := by
  obtain ⟨ad, es, n, hm, D0, hz⟩ := g.tabs T kvs hT
  have hb : PE X (.Name T p) (L2.tC (V.ref ad)) := pe_glob (v := V.ref ad) hg hm (show RelV (V.ref ad) (Value.ref ad) from rfl) hd
  refine ⟨ptm (pt_cmpR (op_in_kd D0) ha hb rfl) fun σ H Q ⟨O, ε, er, ot, q⟩ => ?_, ptm (pt_cmpR (op_notIn_kd D0) ha hb rfl) fun σ H Q ⟨O, ε, er, ot, q⟩ => ?_⟩
  · simp only [ev] at q
    refine tW_in er ot q fun d v H1 s1 r1 q1 => ?_
    cases d <;> try exact (show False from q1).elim
    rename_i x
    obtain ⟨rfl, _, _⟩ := strW r1
    have q1 : ∀ H', Same H H' → Q ((kvs.map (·.1)).any fun k => decide (k = x)) H' := q1
    rw [tab_some] at q1
    cases e : tabAt kvs x with
    | none => rw [e] at q1; exact ⟨x, none, rfl, rfl, (hz x).2 e, _, rfl, q1 H1 s1⟩
    | some d =>
      obtain ⟨u, w, h1, _⟩ := (hz x).1 d e
      rw [e] at q1
      exact ⟨x, some u, rfl, rfl, h1, _, rfl, q1 H1 s1⟩
  · simp only [ev] at q
    refine tW_in er ot q fun d v H1 s1 r1 q1 => ?_
    cases d <;> try exact (show False from q1).elim
    rename_i x
    obtain ⟨rfl, _, _⟩ := strW r1
    have q1 : ∀ H', Same H H' → Q (!(kvs.map (·.1)).any fun k => decide (k = x)) H' := q1
    rw [tab_some] at q1
    cases e : tabAt kvs x with
    | none => rw [e] at q1; exact ⟨x, none, rfl, rfl, (hz x).2 e, _, rfl, q1 H1 s1⟩
    | some d =>
      obtain ⟨u, w, h1, _⟩ := (hz x).1 d e
      rw [e] at q1
      exact ⟨x, some u, rfl, rfl, h1, _, rfl, q1 H1 s1⟩
theorem s_atT {b : Expr} {b' : E} {T : Str} {kvs : List (Str × D)} {p pos : Pos} (g : Good c φ C k X) (hT : c.tabs.lookup T = some kvs) (hg : Gl X T) (hd : (T == ("__debug__" : Str)) = false) (hb : PE X b (tW X.K φ C W b')) (hs : NoSl b) :
    PE X (.Subscript (.Name T p) b pos) (tD X.K φ C W (.atT kvs b')) := by
  obtain ⟨ad, es, n, hm, D0, hz⟩ := g.tabs T kvs hT
  have ha : PE X (.Name T p) (L2.tC (V.ref ad)) := pe_glob (v := V.ref ad) hg hm (show RelV (V.ref ad) (Value.ref ad) from rfl) hd
  refine ⟨fun pins s σ H Q I ⟨O, ε, er, ot, q⟩ => ?_⟩
  simp only [ev] at q
  refine subD_of PySem.F.slot_dict_getitem.lookup hs (thn (ha.run pins s σ H (fun x H1 => x = .ref ad ∧ H1 = H) I ⟨rfl, rfl⟩) fun u s1 ⟨x, H1, I1, rx, ex, eH⟩ => ?_)
  subst ex eH
  refine thn (hb.run pins s1 σ H1 (fun y H2 => ∃ (z : Str) (u0 : Value) (v0 : V), y = .str z ∧ PySem.W.nsIn X.K ad z = some (some u0) ∧ RelV v0 u0 ∧ Q v0 H2) I1 ?_) fun iv s2 ⟨y, H2, I2, ry, z, u0, v0, ey, hn, r0, q0⟩ => ?_
  · refine tW_in er ot q fun d v H2 s2 r1 q1 => ?_
    cases d <;> try exact (show False from q1).elim
    rename_i x
    obtain ⟨rfl, _, _⟩ := strW r1
    cases e : tabAt kvs x with
    | none =>
      have q1 : Res X.K C W O σ H1 (Rs.of (tabAt kvs x)) (kD X.K O H1 Q) := q1
      rw [e] at q1; exact q1.elim
    | some d =>
      have q1 : Res X.K C W O σ H1 (Rs.of (tabAt kvs x)) (kD X.K O H1 Q) := q1
      rw [e] at q1
      obtain ⟨u, w, h1, h2, h3⟩ := (hz x).1 d e
      exact ⟨x, u, w, rfl, h1, h2, q1 w H2 s2 (h3 O H2)⟩
  · subst ey
    obtain rfl : u = Value.ref ad := rx
    exact ⟨kd_type D0 I2, op_item_kd D0 pins s2 σ H2 (.ref ad) (.str z) (.ref ad) iv Q I2 rfl ry ⟨z, u0, v0, rfl, rfl, hn, r0, q0⟩⟩

/-! ### len(set(xs)), xs a list of tuples of ints -/
theorem dnum_eq : ∀ (ks L : List (List Int)), L.Nodup → (∀ x ∈ L, x ∈ ks) → (∀ x ∈ ks, x ∈ L) → L.length = dnum ks
  | [], L, _, h1, _ => by
    cases L with
    | nil => rfl
    | cons x L => exact absurd (h1 x List.mem_cons_self) (by simp)
  | k :: ks, L, nd, h1, h2 => by
    unfold dnum
    by_cases m : k ∈ ks
    · rw [if_pos (by rw [List.any_eq_true]; exact ⟨k, m, by simp⟩)]
      refine dnum_eq ks L nd (fun x hx => ?_) fun x hx => h2 x (List.mem_cons_of_mem _ hx)
      rcases List.mem_cons.mp (h1 x hx) with e | e
      · rw [e]; exact m
      · exact e
    · rw [if_neg (by rw [List.any_eq_true]; rintro ⟨y, hy, e⟩; exact m (by simpa [← of_decide_eq_true e] using hy))]
      have hk : k ∈ L := h2 k List.mem_cons_self
      have e1 : (L.erase k).length + 1 = L.length := by
        rw [List.length_erase_of_mem hk]
        have := List.length_pos_of_mem hk
        omega
      rw [← e1, dnum_eq ks (L.erase k) (nd.erase k) (fun x hx => ?_) fun x hx => ?_]
      · have hx' := List.mem_of_mem_erase hx
        rcases List.mem_cons.mp (h1 x hx') with e | e
        · exfalso
          subst e
          exact (nd.mem_erase_iff.mp hx).1 rfl
        · exact e
      · refine nd.mem_erase_iff.mpr ⟨fun e => m (e ▸ hx), h2 x (List.mem_cons_of_mem _ hx)⟩
theorem tups_of {K : PySem.W.Frag} {O : Ow} {H : Hp} : ∀ {xs : List V} {ds : List D} {ks : List (List Int)}, Rps K O H xs ds → ds.mapM tupI = some ks → ∃ ps : List (Addr × List Int), xs = ps.map (fun p => V.ref p.1) ∧ ps.map (·.2) = ks ∧ ∀ p ∈ ps, SqT K H p.1 (p.2.map V.int)
  | _, _, ks, .nil, h => by simp at h; subst h; exact ⟨[], rfl, rfl, by simp⟩
  | _, _, ks, .cons (d := d) (ds := ds) r rs, h => by
    rw [List.mapM_cons] at h
    cases h1 : tupI d with
    | none => rw [h1] at h; cases h
    | some k1 =>
      rw [h1] at h
      cases h2 : ds.mapM tupI with
      | none => rw [h2] at h; cases h
      | some k2 =>
        rw [h2] at h
        cases h
        obtain ⟨ps, e1, e2, e3⟩ := tups_of rs h2
        cases d <;> try (cases h1; done)
        rename_i ys
        cases r with
        | tup q z rr =>
          have ei := intsD_some rr h1
          subst ei
          refine ⟨(_, k1) :: ps, by rw [e1]; rfl, by rw [List.map_cons, e2], fun p hp => ?_⟩
          rcases List.mem_cons.mp hp with rfl | hp
          · exact q
          · exact e3 p hp
theorem s_lset {a : Expr} {a' : E} {p p2 q pos : Pos} (g : Good c φ C k X) (hg : Gl X "len") (hm : X.mg "len" = none) (hg2 : Gl X "set") (hm2 : X.mg "set" = none) (ha : PE X a (tW X.K φ C W a')) (hl : lone a = true) :
    PE X (.Call (.Name "len" p) [.Call (.Name "set" p2) [a] [] q] [] pos) (tF X.K φ C W (.lset a')) := by
  have na : starEach [a] X.env = (false, eval a X.env) :: starEach [] X.env := starCons hl
  refine ⟨fun pins s σ H Q I ⟨O, ε, er, ot, q⟩ => ?_⟩
  simp only [ev] at q
  refine Call_ (ld_blt I hg hm PySem.boot_len ?_)
  refine PyProof.Rows.callWith_builtin1 (PyProof.Rows.args_cons ?_ rfl) rfl rfl
  refine Call_ (ld_blt I hg2 hm2 PyProof.Rows.boot_set ?_)
  refine PyProof.Rows.callWith_type1 (PyProof.Rows.args_cons (thn (ha.run pins s σ H (fun x H1 => ∃ (l : Addr) (ks : List (Addr × List Int)), x = V.ref l ∧ SqL X.K H1 l (ks.map fun p => V.ref p.1) ∧ (∀ p ∈ ks, SqT X.K H1 p.1 (p.2.map V.int)) ∧ ks.length < 64 ∧ Q (.int (dnum (ks.map (·.2)))) H1) I ?_) fun v s1 ⟨x, H1, I1, r1, q1⟩ => PyProof.Rows.args_nil ?_) na) na rfl
  · refine tW_in er ot q fun d v H1 s1 r1 q1 => ?_
    cases d <;> try exact (show False from q1).elim
    rename_i ds
    obtain ⟨b, xs, rfl, hb, z, r⟩ := listW r1
    have q1 : Res X.K C W O σ H (if ds.length < 64 then (Rs.of (ds.mapM tupI)).bnd fun ks => .ok (.int (dnum ks)) else .st) (kF X.K O H Q) := q1
    by_cases lt : ds.length < 64
    · rw [if_pos lt] at q1
      cases e : ds.mapM tupI with
      | none => rw [e] at q1; exact q1.elim
      | some ks =>
        rw [e] at q1
        obtain ⟨ps, e1, e2, e3⟩ := tups_of r e
        subst e1
        refine ⟨b, ps, rfl, hb, e3, ?_, ?_⟩
        · have := r.length
          rw [List.length_map] at this; omega
        · rw [e2]; exact q1 _ H1 s1 (Rp.int _)
    · rw [if_neg lt] at q1; exact q1.elim
  · obtain ⟨l, ks, rfl, hq, hk, h64, q1⟩ := q1
    cases r1
    obtain ⟨its, rv, pl, hz⟩ := I1.list hq
    have hu := g.hu
    refine call_set_tups (P := X.prog) (w := X.w) ks (I1.ok.hd g.calm) pl.isList (by simpa using refs_of_vals rv) (fun p hp => I1.isT (hk p hp)) h64 (by omega) fun h' tk L es ep t R gt kp => ?_
    refine PyProof.Rows.args_nil ?_
    obtain ⟨o, ho, hex, hd⟩ := R.ob
    have sz := SetTR.size (s := { s1 with heap := h', toks := tk }) R
    have ft := SetTR.fits (s := { s1 with heap := h', toks := tk }) R
    have hsz : es.size = dnum (ks.map (·.2)) := by
      rw [sz, ← List.length_map (f := (·.2))]
      refine dnum_eq _ _ R.nd (fun x hx => ?_) fun x hx => ?_
      · obtain ⟨p, hp, rfl⟩ := List.mem_map.mp hx
        exact List.mem_map.mpr ⟨p, List.mem_of_mem_take (gt.sub p hp), rfl⟩
      · obtain ⟨p, hp, rfl⟩ := List.mem_map.mp hx
        exact gt.all p (by rw [List.take_length]; exact hp)
    have I2 : Inv X pins σ H1 { s1 with heap := h', toks := tk } := I1.kept kp
    refine call_len_set ho hex hd ft (by rw [sz]; have := R.few; omega) ⟨.int (dnum (ks.map (·.2))), H1, I2.tok _, ⟨_, by rw [hsz]⟩, q1⟩

/-! ### {k: v, ..} -/
theorem pps_of {pos : Pos} : ∀ {keys : List (Option Expr)} {kk : List Key} {es : List Expr} {as : List E}, keys.mapM keyE = some kk → Paired (fun e a => PE X e (tD X.K φ C W a)) es as → keys.length = es.length →
    PPs X pos keys es ((kk.zip as).map fun p => (L2.tC (kV p.1), tD X.K φ C W p.2))
  | [], kk, es, as, h, pr, hl => by
    simp at h; subst h
    cases pr with
    | nil => exact pps_nil
    | cons _ _ => simp at hl
  | k :: ks, kk, es, as, h, pr, hl => by
    rw [List.mapM_cons] at h
    obtain ⟨k1, h1, h⟩ := bndO h
    obtain ⟨k2, h2, h⟩ := bndO h
    cases h
    cases pr with
    | nil => simp at hl
    | cons pe pr =>
      have ih := pps_of (pos := pos) h2 pr (by simpa using hl)
      cases k with
      | none => simp [keyE] at h1
      | some ke =>
        have hk : PE X ke (L2.tC (kV k1)) := by
          unfold keyE at h1
          split at h1
          · rename_i x j p e0
            cases e0; cases h1
            exact pe_str
          · rename_i i j p e0
            cases e0; cases h1
            exact pe_int
          · cases h1
        exact pps_cons hk pe ih
theorem tPairs_in {O : Ow} {ε : Env} {σ : L2.St} : ∀ {kk : List Key} {as : List E} {H : Hp} {Q : List (V × V) → Hp → Prop}, kk.length = as.length → ER X.K O H σ ε → OT O H →
    Res X.K C W O σ H (evs φ as ε) (fun ds => ∀ vs H', Same H H' → Rps X.K O H' vs ds → Q ((kk.zip vs).map fun p => (kV p.1, p.2)) H') → tPairs ((kk.zip as).map fun p => (L2.tC (kV p.1), tD X.K φ C W p.2)) σ H Q
  | [], [], H, Q, _, er, ot, q => by
    simp only [evs] at q
    exact q [] H (Same.refl H) .nil
  | k :: kk, a :: as, H, Q, hl, er, ot, q => by
    simp only [evs] at q
    show tD X.K φ C W a σ H fun y H2 => tPairs ((kk.zip as).map fun p => (L2.tC (kV p.1), tD X.K φ C W p.2)) σ H2 fun ps H3 => Q ((kV k, y) :: ps) H3
    refine tD_in er ot q fun d v H1 s1 r1 q1 => ?_
    refine tPairs_in (O := O) (ε := ε) (by simpa using hl) (er.same s1) (ot.same s1) ?_
    have q2 := q1.same s1 (k' := fun ds => ∀ vs H', Same H1 H' → Rps X.K O H' vs ds → Q (((k :: kk).zip vs).map fun p => (kV p.1, p.2)) H') fun ds kq vs H' s r => kq vs H' (s1.trans s) r
    exact q2.bind fun ds _ q3 vs H' s r => q3 (v :: vs) H' s (.cons (r1.same s) r)
  | [], _ :: _, _, _, hl, _, _, _ => by simp at hl
  | _ :: _, [], _, _, hl, _, _, _ => by simp at hl
theorem RpK.merge {K : PySem.W.Frag} {O : Ow} {H : Hp} : ∀ {kk : List Key} {vs : List V} {ds : List D} {kvs : List (Key × V)} {es : List (D × D)}, Rps K O H vs ds → RpK K O H kvs es → RpK K O H (mergeK kvs (kk.zip vs)) ((kk.zip ds).foldl (fun acc p => putD acc (keyD p.1) p.2) es)
  | [], _, _, _, _, _, r => by simpa [mergeK] using r
  | _ :: _, _, _, _, _, .nil, r => by simpa [mergeK] using r
  | k :: kk, _, _, _, _, .cons h t, r => RpK.merge (kk := kk) t (r.put h)
theorem s_dd {keys : List (Option Expr)} {kk : List Key} {es : List Expr} {as : List E} {pos : Pos} (hk : keys.mapM keyE = some kk) (pr : Paired (fun e a => PE X e (tD X.K φ C W a)) es as) (hl : keys.length = es.length) (h0 : keys ≠ []) (h15 : es.length ≤ 15) :
    PE X (.Dict keys es pos) (tF X.K φ C W (.dd kk as)) := by
  have hkl : ∀ {l : List (Option Expr)} {kk : List Key}, l.mapM keyE = some kk → kk.length = l.length ∧ l.all (·.isSome) = true := by
    intro l
    induction l with
    | nil => intro kk h; simp at h; subst h; exact ⟨rfl, rfl⟩
    | cons k l ih =>
      intro kk h
      rw [List.mapM_cons] at h
      obtain ⟨k1, h1, h⟩ := bndO h
      obtain ⟨k2, h2, h⟩ := bndO h
      cases h
      obtain ⟨i1, i2⟩ := ih h2
      refine ⟨by rw [List.length_cons, List.length_cons, i1], ?_⟩
      rw [List.all_cons, i2, Bool.and_true]
      cases k with
      | none => simp [keyE] at h1
      | some _ => rfl
  obtain ⟨e1, e2⟩ := hkl hk
  have hpl : es.length = as.length := by
    have : ∀ {es : List Expr} {as : List E}, Paired (fun e a => PE X e (tD X.K φ C W a)) es as → es.length = as.length := by
      intro es as h
      induction h with
      | nil => rfl
      | cons _ _ ih => rw [List.length_cons, List.length_cons, ih]
    exact this pr
  refine pem (pe_disp (pps_of hk pr hl) e2 hl h0 (by omega)) fun σ H Q ⟨O, ε, er, ot, q⟩ p hp => ?_
  simp only [ev] at q
  have s0 : Same H (upd H p (.dK [])) := same_new hp
  have f0 := fzO1 (O := O) hp s0
  refine tPairs_in (O := O1 O p) (ε := ε) (by omega) (er.mvS f0 s0) (otO1 ot s0 ⟨_, upd_same⟩) ?_
  have q1 : Res X.K C W O σ H (evs φ as ε) fun ds => kF X.K O H Q (.dict ((kk.zip ds).foldl (fun acc p => putD acc (keyD p.1) p.2) [])) := q.bind fun ds _ k => k
  cases hev : evs φ as ε with
  | st => rw [hev] at q1; exact q1.elim
  | ex d =>
    rw [hev] at q1
    exact fun dx v H' s a r => q1 dx v H' (s0.trans s) a (r.mv (fzOffK fun _ _ => rfl))
  | ok ds =>
    rw [hev] at q1
    refine fun vs H' s r => ?_
    have hH : H' p = some (.dK []) := s _ _ upd_same
    refine ⟨hH, kk.zip vs, rfl, ?_, q1 _ _ (sameUp hp (s0.trans s)) ?_⟩
    · rw [List.length_zip]; omega
    · have r2 := RpK.merge (kk := kk) r (RpK.nil (K := X.K) (O := O1 O p) (H := H'))
      exact ⟨p, _, rfl, hp, upd_same, fun O' g => (r2.mv (fzUpK hH)).mv (fzOffK g)⟩
end
end Ws

set_option Elab.async false
set_option linter.all false
set_option maxRecDepth 100000
set_option maxHeartbeats 4000000
/-! Sim15: the pure language says what the text does: expressions, all of them -/
namespace Ws
open PySem PySem.Spec PyProof.Rows L2

variable {c : Cfg} {φ : Nat → List D → Rs D} {C : Addr} {k : Nat}
theorem compI_fold {n : Nat} {sc : Scope} {w : Bool} {e : Expr} {a : It} (h : compI c n sc w e = some a) : ∀ (env : PySem.Env) (x : Value), foldedSetIterable e env x = pure x := by
  cases n with
  | zero => simp [compI] at h
  | succ n =>
    unfold compI at h
    split at h
    · cases h
    · exact fun _ _ => rfl
    · exact fun _ _ => rfl
    · exact fun _ _ => rfl
    · exact fun _ _ => rfl
    · split at h
      · rename_i hwk
        exact folded_of hwk
      · cases h
theorem tabE_of {c : Cfg} {sc : Scope} {e : Expr} {kvs : List (Str × D)} (h : tabE c sc e = some kvs) : ∃ T p, e = .Name T p ∧ glob sc T = true ∧ c.tabs.lookup T = some kvs := by
  unfold tabE at h
  split at h
  · rename_i x p
    split at h
    · rename_i hg
      exact ⟨x, p, rfl, hg, h⟩
    · cases h
  · cases h
theorem sn_e {n : Nat} (ih : SN c φ C k n) {X : Cx} {W : WX} {sc : Scope} {e : Expr} {a : E} (g : Good c φ C k X) (tk : Takes X W) (hs : X.env.scope = sc) (h : compE c (n + 1) sc e = some a) : SE X φ C W e a := by
  have blk : ∀ (s : Shared) (H : Hp) (scope : Scope) (Cc : Addr) (cl : List (Str × Addr)) (fp : List Addr), Good c φ C k (X.blk s H scope (compEnvC scope cl Cc X.env) fp) := fun s H scope Cc cl fp => g.blk s H scope _ fp
  have hsc : ∀ (s : Shared) (H : Hp) (scope : Scope) (Cc : Addr) (cl : List (Str × Addr)) (fp : List Addr), (X.blk s H scope (compEnvC scope cl Cc X.env) fp).env.scope = relS scope sc := fun s H scope Cc cl fp => by rw [← hs]; rfl
  unfold compE at h
  split at h
  · -- int
    cases h
    exact .ofD (s_lit pe_int fun _ _ => .int _) rfl rfl fun _ => rfl
  · cases h
    exact .ofD (s_lit pe_bl fun _ _ => .bl _) rfl rfl fun _ => rfl
  · cases h
    exact .ofD (s_lit pe_non fun _ _ => .non) rfl rfl fun _ => rfl
  · -- text
    split at h
    · rename_i cnd
      simp only [Bool.and_eq_true, decide_eq_true_eq] at cnd
      cases h
      exact .ofD (s_lit pe_str fun _ _ => .str _ cnd.1 (by rw [← lim_line]; exact cnd.2)) rfl rfl fun _ => rfl
    · cases h
  · -- a name
    rename_i x pos
    split at h
    · cases h
    · rename_i nd
      simp only [Bool.or_eq_true, decide_eq_true_eq, not_or] at nd
      have d1 : (x == ("__debug__" : Str)) = false := by simpa using nd.1
      have d2 : (x == ("__classdict__" : Str)) = false := by simpa using nd.2
      split at h
      · rename_i i hi
        cases h
        obtain ⟨h1, h2⟩ := slot_of g.hN hs hi
        obtain ⟨q1, q2⟩ := s_var (φ := φ) (C := C) (W := W) (pos := pos) h1 h2 d1 d2
        exact ⟨q1, q2, fun z => (by cases z), s_truth q2 fun _ => rfl⟩
      · split at h
        · rename_i hgl
          cases hl : c.cs.lookup x with
          | none => rw [hl] at h; cases h
          | some d =>
            rw [hl] at h
            cases h
            obtain ⟨u, v, h1, h2, h3⟩ := g.cs x d hl
            exact .ofD (s_gl (glob_of hs hgl).1 h1 h2 h3 d1) rfl rfl fun _ => rfl
        · cases h
  · -- a op b
    rename_i a1 o b1 pos
    obtain ⟨o', h1, h⟩ := bndO h
    obtain ⟨a', h2, h⟩ := bndO h
    obtain ⟨b', h3, h⟩ := bndO h
    cases h
    rw [op2Of_eq h1]
    exact .ofF (s_bin (ih.e g tk hs h2).w (ih.e g tk hs h3).w) rfl fun _ => rfl
  · obtain ⟨a', h2, h⟩ := bndO h
    cases h
    exact .ofF (s_neg (ih.e g tk hs h2).w) rfl fun _ => rfl
  · obtain ⟨a', h2, h⟩ := bndO h
    cases h
    have se := ih.e g tk hs h2
    exact ⟨pe_FD (s_notV se.w), pe_DW (pe_FD (s_notV se.w)), fun _ => s_notV se.w, s_notT se.t⟩
  · -- and, or
    rename_i o vs pos
    split at h
    · rename_i z
      obtain ⟨q1, q2, q3⟩ := ih.b g tk hs h pos
      have wa := (q3 z).1
      refine ⟨q1, by rw [wa]; exact pe_DW q1, fun f => ?_, q2.pt⟩
      rw [(q3 z).2] at f; cases f
    · cases h
  · -- a if c else b
    obtain ⟨t', h1, h⟩ := bndO h
    obtain ⟨a', h2, h⟩ := bndO h
    obtain ⟨b', h3, h⟩ := bndO h
    cases h
    have st := ih.e g tk hs h1
    have sa := ih.e g tk hs h2
    have sb := ih.e g tk hs h3
    exact ⟨s_ifV st.t sa.d sb.d, pe_DW (s_ifV st.t sa.d sb.d), fun z => (by cases z), s_ifT st.t (ptwk sa.t) (ptwk sb.t)⟩
  · -- a op b
    split at h
    · cases h
    · rename_i hm
      split at h
      · rename_i kvs htab
        obtain ⟨T, pT, rfl, hgT, hlT⟩ := tabE_of htab
        obtain ⟨gT, dT⟩ := glob_of hs hgT
        split at h
        · obtain ⟨a', h2, h⟩ := bndO h
          cases h
          have q := fun p pos => (s_inT (p := p) (pos := pos) g hlT gT dT (ih.e g tk hs h2).w).1
          exact ⟨pe_FD (q _ _), pe_DW (pe_FD (q _ _)), fun _ => q _ _, (s_inTT g hlT gT dT (ih.e g tk hs h2).w).1⟩
        · obtain ⟨a', h2, h⟩ := bndO h
          cases h
          have q := fun p pos => (s_inT (p := p) (pos := pos) g hlT gT dT (ih.e g tk hs h2).w).2
          exact ⟨pe_FD (q _ _), pe_DW (pe_FD (q _ _)), fun _ => q _ _, (s_inTT g hlT gT dT (ih.e g tk hs h2).w).2⟩
        · cases h
      obtain ⟨a', h2, h⟩ := bndO h
      obtain ⟨b', h3, h⟩ := bndO h
      cases h
      have sa := ih.e g tk hs h2
      have sb := ih.e g tk hs h3
      have hm := (Bool.not_eq_true _).mp hm
      have q := fun p => s_cmp (pos := p) g.hu sa.w sb.w hm
      exact ⟨pe_FD (q _), pe_DW (pe_FD (q _)), fun _ => q _, s_cmpT g.hu sa.w sb.w hm⟩
  · -- a op b op d
    split at h
    · cases h
    · rename_i hm
      obtain ⟨a', h2, h⟩ := bndO h
      obtain ⟨b', h3, h⟩ := bndO h
      obtain ⟨d', h4, h⟩ := bndO h
      cases h
      have sa := ih.e g tk hs h2
      have sb := ih.e g tk hs h3
      have sd := ih.e g tk hs h4
      have hm := (Bool.not_eq_true _).mp hm
      have q := fun p => s_chain (pos := p) g.hu sa.w sb.w sd.w hm
      exact ⟨pe_FD (q _), pe_DW (pe_FD (q _)), fun _ => q _, s_chainT g.hu sa.w sb.w sd.w hm⟩
  · -- a tuple
    split at h
    · rename_i z
      obtain ⟨as, h2, h⟩ := bndO h
      cases h
      obtain ⟨q1, q2, q3, _, _⟩ := ih.es g tk hs h2
      exact .ofF (s_tup (by rw [q3]; exact z) q1 fun ε ds e => evs_len e) rfl fun _ => rfl
    · cases h
  · -- a list
    split at h
    · rename_i z
      obtain ⟨as, h2, h⟩ := bndO h
      cases h
      obtain ⟨q1, q2, q3, _, _⟩ := ih.es g tk hs h2
      exact .ofF (s_lst (by rw [q3]; exact z) q1 fun ε ds e => evs_len e) rfl fun _ => rfl
    · cases h
  · cases h
    exact .ofF s_dnew rfl fun _ => rfl
  · -- {k: v, ..}
    split at h
    · rename_i cnd
      simp only [Bool.and_eq_true, decide_eq_true_eq] at cnd
      obtain ⟨kk, h1, h⟩ := bndO h
      obtain ⟨as, h2, h⟩ := bndO h
      cases h
      obtain ⟨_, _, _, _, q5⟩ := ih.es g tk hs h2
      exact .ofF (s_dd h1 q5 cnd.1 (by simp) cnd.2) rfl fun _ => rfl
    · cases h
  · obtain ⟨a', h2, h⟩ := bndO h
    cases h
    exact .ofF (s_rev (ih.e g tk hs h2).w) rfl fun _ => rfl
  · obtain ⟨a', h2, h⟩ := bndO h
    obtain ⟨l', h3, h⟩ := bndO h
    obtain ⟨u', h4, h⟩ := bndO h
    cases h
    exact .ofF (s_sli (ih.e g tk hs h2).w (ih.o g tk hs h3) (ih.o g tk hs h4)) rfl fun _ => rfl
  · split at h
    · rename_i hp
      split at h
      · rename_i kvs htab
        obtain ⟨T, pT, rfl, hgT, hlT⟩ := tabE_of htab
        obtain ⟨gT, dT⟩ := glob_of hs hgT
        obtain ⟨b', h3, h⟩ := bndO h
        cases h
        exact .ofD (s_atT g hlT gT dT (ih.e g tk hs h3).w (plain_of hp)) rfl rfl fun _ => rfl
      obtain ⟨a', h2, h⟩ := bndO h
      obtain ⟨b', h3, h⟩ := bndO h
      cases h
      exact .ofD (s_idx g.hu (ih.e g tk hs h2).w (ih.e g tk hs h3).w (plain_of hp)) rfl rfl fun _ => rfl
    · cases h
  · -- [.. for ..]
    rename_i elt tg iter ifs scope pos
    split at h
    · rename_i hb
      obtain ⟨it, h1, h⟩ := bndO h
      obtain ⟨t, h2, h⟩ := bndO h
      obtain ⟨x, h3, h⟩ := bndO h
      obtain ⟨cd, h4, h⟩ := bndO h
      split at h
      · rename_i hin
        cases h
        obtain ⟨i1, i2⟩ := ih.i g tk hs h1
        have ok : BlkOk X.N X.env.scope scope (ownOf c.N scope) := by rw [g.hN, hs]; exact blkOk_by hb
        refine .ofF (s_lc g ok (i1 _) (i2 _) (fun s H Cc cl fp => pg_sound (X := X.blk s H scope (compEnvC scope cl Cc X.env) fp) (c := c) g.hN g.nd g.calm (relS_tg s H Cc cl fp rfl) n _ t h2) (fun s H Cc cl fp => ih.cd (blk s H _ Cc cl fp) takes0 (hsc s H _ Cc cl fp) h4) (fun s H Cc cl fp => (ih.e (blk s H _ Cc cl fp) takes0 (hsc s H _ Cc cl fp) h3).d) hin) rfl fun _ => rfl
      · cases h
    · cases h
  · rename_i elt tg iter ifs tg1 iter1 ifs1 scope pos
    split at h
    · rename_i hb
      obtain ⟨it, h1, h⟩ := bndO h
      obtain ⟨t, h2, h⟩ := bndO h
      obtain ⟨cd, h4, h⟩ := bndO h
      obtain ⟨it1, h5, h⟩ := bndO h
      obtain ⟨t1, h6, h⟩ := bndO h
      obtain ⟨cd1, h7, h⟩ := bndO h
      obtain ⟨x, h3, h⟩ := bndO h
      split at h
      · rename_i hin
        simp only [Bool.and_eq_true] at hin
        cases h
        obtain ⟨i1, i2⟩ := ih.i g tk hs h1
        have ok : BlkOk X.N X.env.scope scope (ownOf c.N scope) := by rw [g.hN, hs]; exact blkOk_by hb
        have i5 := fun (s : Shared) (H : Hp) (Cc : Addr) (cl : List (Str × Addr)) (fp : List Addr) => ih.i (blk s H _ Cc cl fp) takes0 (hsc s H _ Cc cl fp) h5
        refine .ofF (s_lc2 g ok (i1 _) (i2 _) (compI_fold h5) (fun s H Cc cl fp => pg_sound (X := X.blk s H scope (compEnvC scope cl Cc X.env) fp) (c := c) g.hN g.nd g.calm (relS_tg s H Cc cl fp rfl) n _ t h2) (fun s H Cc cl fp => ih.cd (blk s H _ Cc cl fp) takes0 (hsc s H _ Cc cl fp) h4)
          (fun s H Cc cl fp => (i5 s H Cc cl fp).1 _) (fun s H Cc cl fp => pg_sound (X := X.blk s H scope (compEnvC scope cl Cc X.env) fp) (c := c) g.hN g.nd g.calm (relS_tg s H Cc cl fp rfl) n _ t1 h6) (fun s H Cc cl fp => ih.cd (blk s H _ Cc cl fp) takes0 (hsc s H _ Cc cl fp) h7)
          (fun s H Cc cl fp => (ih.e (blk s H _ Cc cl fp) takes0 (hsc s H _ Cc cl fp) h3).d) hin.1 hin.2) rfl fun _ => rfl
      · cases h
    · cases h
  · -- {.. for ..}
    rename_i kx elt tg iter ifs scope pos
    split at h
    · rename_i hb
      obtain ⟨it, h1, h⟩ := bndO h
      obtain ⟨t, h2, h⟩ := bndO h
      obtain ⟨y, h5, h⟩ := bndO h
      obtain ⟨x, h3, h⟩ := bndO h
      obtain ⟨cd, h4, h⟩ := bndO h
      split at h
      · rename_i hin
        cases h
        obtain ⟨i1, i2⟩ := ih.i g tk hs h1
        have ok : BlkOk X.N X.env.scope scope (ownOf c.N scope) := by rw [g.hN, hs]; exact blkOk_by hb
        refine .ofF (s_dc g ok (i1 _) (i2 _) (fun s H Cc cl fp => pg_sound (X := X.blk s H scope (compEnvC scope cl Cc X.env) fp) (c := c) g.hN g.nd g.calm (relS_tg s H Cc cl fp rfl) n _ t h2) (fun s H Cc cl fp => ih.cd (blk s H _ Cc cl fp) takes0 (hsc s H _ Cc cl fp) h4) (fun s H Cc cl fp => (ih.e (blk s H _ Cc cl fp) takes0 (hsc s H _ Cc cl fp) h5).d) (fun s H Cc cl fp => (ih.e (blk s H _ Cc cl fp) takes0 (hsc s H _ Cc cl fp) h3).d) hin) rfl fun _ => rfl
      · cases h
    · cases h
  · -- len(set(..))
    split at h
    · rename_i cnd
      simp only [Bool.and_eq_true, decide_eq_true_eq] at cnd
      obtain ⟨a', h2, h⟩ := bndO h
      cases h
      exact .ofF (s_lset g (glob_of hs cnd.1.1.1.1).1 (g.bl _ cnd.1.1.1.2) (glob_of hs cnd.1.1.2).1 (g.bl _ cnd.1.2) (ih.e g tk hs h2).w cnd.2) rfl fun _ => rfl
    · cases h
  · -- min(.., default=..)
    rename_i f p e1 x d1 kp pos
    split at h
    · rename_i cnd
      simp only [Bool.and_eq_true, decide_eq_true_eq] at cnd
      obtain ⟨gl, gd⟩ := glob_of hs cnd.1.1.1
      have hu : X.A.units + 64 < cLine := by have := g.hu; omega
      obtain rfl := cnd.1.2
      split at h
      · rename_i hf
        subst hf
        obtain ⟨a', h2, h⟩ := bndO h
        obtain ⟨b', h3, h⟩ := bndO h
        cases h
        exact .ofD (s_biD g (bi_mind g.calm hu) (by decide +kernel) (by decide +kernel) (by decide +kernel) gl (g.bl _ cnd.1.1.2) (ih.e g tk hs h2).w (ih.e g tk hs h3).d cnd.2) rfl rfl fun _ => rfl
      · split at h
        · rename_i hf
          subst hf
          obtain ⟨a', h2, h⟩ := bndO h
          obtain ⟨b', h3, h⟩ := bndO h
          cases h
          exact .ofD (s_biD g (bi_maxd g.calm hu) (by decide +kernel) (by decide +kernel) (by decide +kernel) gl (g.bl _ cnd.1.1.2) (ih.e g tk hs h2).w (ih.e g tk hs h3).d cnd.2) rfl rfl fun _ => rfl
        · cases h
    · split at h
      · rename_i cnd
        simp only [Bool.and_eq_true, decide_eq_true_eq] at cnd
        obtain ⟨⟨⟨⟨c1, c2⟩, c3⟩, c4⟩, c5⟩ := cnd
        subst c3
        subst c4
        obtain ⟨gl, gd⟩ := glob_of hs c1
        split at h
        · rename_i y yp
          split at h
          · rename_i hgy
            obtain ⟨gy, dy⟩ := glob_of hs hgy
            split at h
            · rename_i i hi
              obtain ⟨a', h2, h⟩ := bndO h
              cases h
              exact .ofF (s_sortk g (fix_of hi) gy dy gl (g.bl _ c2) (ih.e g tk hs h2).w c5) rfl fun _ => rfl
            · cases h
          · cases h
        · cases h
      · cases h
  · -- a call
    rename_i f p es pos hneg
    split at h
    · rename_i hgl
      obtain ⟨gl, gd⟩ := glob_of hs hgl
      split at h
      · rename_i i hi
        obtain ⟨ds, h1, h⟩ := bndO h
        obtain ⟨q1, q2, q3, q4, _⟩ := ih.es g tk hs h1
        have q := s_call (pos := pos) (p := p) g tk (fix_of hi) gl gd q1 q2 q4
        injection h with h
        subst h
        split
        · exact .ofD (s_nomut q) rfl rfl fun _ => rfl
        · exact .ofD q rfl rfl fun _ => rfl
      · split at h
        · rename_i hb
          simp only [Bool.and_eq_true, decide_eq_true_eq] at hb
          split at h
          · rename_i hf
            subst hf
            obtain ⟨q1, q2⟩ := ih.is_ g tk hs h hgl hb.1
            exact .ofF (q1 p pos) q2 fun _ => rfl
          · obtain ⟨b, h1, h⟩ := bndO h
            obtain ⟨ds, h2, h⟩ := bndO h
            obtain ⟨q1, q2⟩ := ih.ws g tk hs h2
            cases h
            cases es with
            | nil => simp at hb
            | cons e es =>
              obtain ⟨r1, r2⟩ := s_bi (p := p) (pos := pos) g h1 gl (g.bl _ hb.1) q1 q2
              exact ⟨r1, pe_DW r1, fun z => r2 z, s_truth (pe_DW r1) fun _ => rfl⟩
        · split at h
          · rename_i hb
            simp only [Bool.and_eq_true, decide_eq_true_eq] at hb
            obtain ⟨ds, h2, h⟩ := bndO h
            obtain ⟨q1, q2⟩ := ih.ws g tk hs h2
            cases h
            cases es with
            | nil => simp at hb
            | cons e es =>
              obtain ⟨⟨hb1, hb2⟩, hb3⟩ := hb
              subst hb2
              obtain ⟨r1, r2⟩ := s_gcd (p := p) (pos := pos) g hb1 gl q1 q2
              exact ⟨r1, pe_DW r1, fun z => r2 z, s_truth (pe_DW r1) fun _ => rfl⟩
          · cases h
    · cases h
  · cases h
theorem sn : ∀ n, SN c φ C k n
  | 0 => ⟨fun _ _ _ h => by simp [compE] at h, fun _ _ _ h => by simp [compIs] at h, fun _ _ _ h => by simp [compB] at h, fun _ _ _ h => by simp [compEs] at h, fun _ _ _ h => by simp [compWs] at h, fun _ _ _ h => by simp [compO] at h, fun _ _ _ h => by simp [compC] at h, fun _ _ _ h => by simp [compI] at h⟩
  | n + 1 => ⟨sn_e (sn n), sn_is (sn n), sn_b (sn n), sn_es (sn n), sn_ws (sn n), sn_o (sn n), sn_cd (sn n), sn_i (sn n)⟩
end Ws

set_option Elab.async false
set_option linter.all false
set_option maxRecDepth 100000
set_option maxHeartbeats 4000000
/-! Sim16: states between statements -/
namespace Ws
open PySem PySem.Spec PyProof.Rows L2

/-- a list or dict that slot i alone knows -/
def OwnAt (K : PySem.W.Frag) (O : Ow) (H : Hp) (p : Addr) : D → Prop
  | .list ds => ∃ xs, H p = some (.lst xs) ∧ xs.length ≤ sizeLine ∧ Rps K O H xs ds
  | .dict ds => ∃ kvs, H p = some (.dK kvs) ∧ RpK K O H kvs ds
  | _ => False
theorem OwnAt.mv {K : PySem.W.Frag} {O O' : Ow} {H H' : Hp} {p : Addr} {d : D} (h : OwnAt K O H p d) (f : Fz O H O' H') (e : ∀ o, H p = some o → H' p = some o) : OwnAt K O' H' p d := by
  cases d with
  | list ds => obtain ⟨xs, q, z, r⟩ := h; exact ⟨xs, e _ q, z, r.mv f⟩
  | dict ds => obtain ⟨xs, q, r⟩ := h; exact ⟨xs, e _ q, r.mv f⟩
  | none => exact h
  | bool b => exact h
  | int i => exact h
  | str x => exact h
  | tuple ds => exact h
theorem OwnAt.rp {K : PySem.W.Frag} {O : Ow} {H : Hp} {p : Addr} {d : D} (h : OwnAt K O H p d) : RpW K O H (.ref p) d := by
  cases d with
  | list ds => obtain ⟨xs, q, z, r⟩ := h; exact ⟨p, xs, rfl, .inl (.inl q), z, r⟩
  | dict ds => obtain ⟨xs, q, r⟩ := h; exact ⟨p, xs, rfl, q, r⟩
  | none => exact h.elim
  | bool b => exact h.elim
  | int i => exact h.elim
  | str x => exact h.elim
  | tuple ds => exact h.elim
theorem OwnAt.at {K : PySem.W.Frag} {O : Ow} {H : Hp} {p : Addr} {d : D} (h : OwnAt K O H p d) : (∃ xs, H p = some (.lst xs)) ∨ ∃ kvs, H p = some (.dK kvs) := by
  cases d <;> first | exact (show False from h).elim | (obtain ⟨xs, q, _⟩ := h; first | exact .inl ⟨_, q⟩ | exact .inr ⟨_, q⟩)
structure SR (X : Cx) (O0 O : Ow) (H : Hp) (σ : L2.St) (ε : Env) : Prop where
  er : ER X.K O H σ ε
  ot : OT O H
  ow : ∀ (i : Nat) (d : D), ε[i]? = some (.o d) → ∃ p, σ[i]? = some (some (.ref p)) ∧ O p = some i ∧ X.H_0 p = none ∧ OwnAt X.K O H p d
  sm : Same X.H_0 H
  o0 : ∀ a o, X.H_0 a = some o → O a = O0 a
  ot0 : OT O0 X.H_0
section
variable {X : Cx} {O0 O : Ow} {H H' : Hp} {σ : L2.St} {ε : Env}
theorem OwnAt.same {K : PySem.W.Frag} {p : Addr} {d : D} (h : OwnAt K O H p d) (s : Same H H') : OwnAt K O H' p d := h.mv (.same s) fun o e => s _ _ e
theorem SR.same (h : SR X O0 O H σ ε) (s : Same H H') : SR X O0 O H' σ ε :=
  ⟨h.er.same s, h.ot.same s, fun i d e => let ⟨p, h1, h2, h3, h4⟩ := h.ow i d e; ⟨p, h1, h2, h3, h4.same s⟩, h.sm.trans s, h.o0, h.ot0⟩
theorem SR.fz0 (h : SR X O0 O H σ ε) : Fz O H O0 H := ⟨fun a o e q => ⟨e, by
  cases z : X.H_0 a with
  | none => exact h.ot0.none z
  | some u => rw [← h.o0 a u z]; exact q⟩, fun _ _ e => e, fun _ _ _ e => e⟩
/-- as it looks when all is known elsewhere -/
theorem SR.all (h : SR X O0 O H σ ε) : ER X.K O0 H σ (ε.map frzS) ∧ OT O0 H :=
  ⟨h.er.frzAll h.fz0 fun i p d e e2 => by
    obtain ⟨p', h1, h2, h3, _⟩ := h.ow i d e
    rw [e2] at h1; cases h1
    exact h.ot0.none h3, h.ot0.same h.sm⟩
theorem SR.put {i : Nat} {v : V} {d : D} (h : SR X O0 O H σ ε) (r : Rp X.K O H v d) : SR X O0 O H (σ.set i (some v)) (put ε i d) :=
  ⟨h.er.set r, h.ot, fun j d' e => by
    unfold Ws.put at e
    by_cases ij : i = j
    · subst ij
      by_cases lt : i < ε.length
      · rw [List.getElem?_set_self lt] at e; cases e
      · rw [List.getElem?_eq_none (by rw [List.length_set]; omega)] at e; cases e
    · rw [List.getElem?_set_ne ij] at e ⊢
      exact h.ow j d' e, h.sm, h.o0, h.ot0⟩
/-- a new list or dict in slot i -/
theorem SR.newo {i : Nat} {v : V} {d : D} {Hs : Hp} (h : SR X O0 O H σ ε) (s : Same H Hs) (hd : (∃ ds, d = .list ds) ∨ ∃ ds, d = .dict ds) (f : Fr X.K O H Hs v d) : ∃ O', SR X O0 O' Hs (σ.set i (some v)) (Ws.puto ε i d) ∧ Fz O H O' Hs := by
  have hs := h.same s
  obtain ⟨p, hv, hn, ho⟩ : ∃ p, v = .ref p ∧ H p = none ∧ ∀ O' : Ow, (∀ a, a ≠ p → O' a = O a) → OwnAt X.K O' Hs p d := by
    rcases hd with ⟨ds, rfl⟩ | ⟨ds, rfl⟩
    · obtain ⟨p, xs, e, n, q, z, r⟩ := f
      exact ⟨p, e, n, fun O' g => ⟨xs, q, z, r O' g⟩⟩
    · obtain ⟨p, kvs, e, n, q, r⟩ := f
      exact ⟨p, e, n, fun O' g => ⟨kvs, q, r O' g⟩⟩
  subst hv
  have g : ∀ a, a ≠ p → (fun a => if a = p then some i else O a) a = O a := fun a ne => by simp [ne]
  have f0 : Fz O H (fun a => if a = p then some i else O a) Hs := ⟨fun a o e q => ⟨s a o e, by
    have ne : a ≠ p := fun z => by rw [z, hn] at e; cases e
    exact (g a ne).trans q⟩, fun a xs e => s a _ e, fun a o xs e => s a _ e⟩
  refine ⟨fun a => if a = p then some i else O a, ⟨?_, ?_, fun j d' e => ?_, hs.sm, fun a o e => ?_, h.ot0⟩, f0⟩
  · have er := h.er.mvS f0 s
    refine ⟨by simp only [Ws.puto, List.length_set]; exact er.1, fun j sl e => ?_⟩
    unfold Ws.puto at e
    by_cases ij : i = j
    · subst ij
      have lt : i < ε.length := by
        have := (List.getElem?_eq_some_iff.mp e).1
        rwa [List.length_set] at this
      rw [List.getElem?_set_self lt] at e
      cases e
      exact ⟨_, by rw [List.getElem?_set_self (Nat.lt_of_lt_of_le lt er.1)], (ho _ g).rp⟩
    · rw [List.getElem?_set_ne ij] at e ⊢
      exact er.2 j sl e
  · intro a j e
    by_cases z : a = p
    · subst z
      rcases (ho _ g).at with ⟨u, e⟩ | ⟨u, e⟩ <;> exact ⟨_, e⟩
    · have e : (if a = p then some i else O a) = some j := e
      rw [if_neg z] at e
      exact hs.ot a j e
  · unfold Ws.puto at e
    by_cases ij : i = j
    · subst ij
      have lt : i < ε.length := by
        have := (List.getElem?_eq_some_iff.mp e).1
        rwa [List.length_set] at this
      rw [List.getElem?_set_self lt] at e
      cases e
      exact ⟨p, by rw [List.getElem?_set_self (Nat.lt_of_lt_of_le lt h.er.1)], by simp, h.sm.free hn, ho _ g⟩
    · rw [List.getElem?_set_ne ij] at e ⊢
      obtain ⟨p', h1, h2, h3, h4⟩ := h.ow j d' e
      refine ⟨p', h1, ?_, h3, h4.mv f0 fun o e => s _ _ e⟩
      have ne : p' ≠ p := fun z => by
        obtain ⟨o, q⟩ := h.ot p' j h2
        rw [z, hn] at q; cases q
      rw [← h2]; exact g p' ne
  · have ne : a ≠ p := fun z => by
      have := h.sm a o e
      rw [z, hn] at this; cases this
    rw [← h.o0 a o e]; exact g a ne
theorem fzOwn {p : Addr} {i : Nat} {o u : HO} (h : O p = some i) (e : H p = some u) (hu : (∃ xs, u = .lst xs) ∨ ∃ kvs, u = .dK kvs) : Fz O H O (upd H p o) := by
  refine ⟨fun a w q z => ?_, fun a xs q => ?_, fun a w xs q => ?_⟩
  · have ne : a ≠ p := fun y => by rw [y, h] at z; cases z
    exact ⟨by rw [upd_ne ne]; exact q, z⟩
  · have ne : a ≠ p := fun y => by
      rw [y, e] at q
      rcases hu with ⟨_, rfl⟩ | ⟨_, rfl⟩ <;> cases q
    rw [upd_ne ne]; exact q
  · have ne : a ≠ p := fun y => by
      rw [y, e] at q
      rcases hu with ⟨_, rfl⟩ | ⟨_, rfl⟩ <;> cases q
    rw [upd_ne ne]; exact q
/-- what slot i alone knows is changed -/
theorem SR.chg {i : Nat} {p : Addr} {d d' : D} {o : HO} (h : SR X O0 O H σ ε) (hi : ε[i]? = some (.o d)) (hp : σ[i]? = some (some (.ref p))) (ho : OwnAt X.K O (upd H p o) p d') : SR X O0 O (upd H p o) σ (Ws.puto ε i d') ∧ Fz O H O (upd H p o) := by
  obtain ⟨p', h1, h2, h3, h4⟩ := h.ow i d hi
  rw [hp] at h1; cases h1
  have f : Fz O H O (upd H p o) := by
    rcases h4.at with ⟨u, e⟩ | ⟨u, e⟩
    · exact fzOwn h2 e (.inl ⟨_, rfl⟩)
    · exact fzOwn h2 e (.inr ⟨_, rfl⟩)
  have lt := lt_of_some hi
  have hne : ∀ (j : Nat) (d2 : D) (p2 : Addr), j ≠ i → O p2 = some j → p2 ≠ p := fun j d2 p2 ji e z => by
    rw [z, h2] at e; cases e; exact ji rfl
  refine ⟨⟨⟨by simp only [Ws.puto, List.length_set]; exact h.er.1, fun j sl e => ?_⟩, ?_, fun j d2 e => ?_, ?_, h.o0, h.ot0⟩, f⟩
  · unfold Ws.puto at e
    by_cases ij : i = j
    · subst ij
      rw [List.getElem?_set_self lt] at e
      cases e
      exact ⟨_, hp, ho.rp⟩
    · rw [List.getElem?_set_ne ij] at e
      have q := h.er.2 j sl e
      cases sl with
      | u => trivial
      | f d => obtain ⟨v, q1, q2⟩ := q; exact ⟨v, q1, q2.mv f⟩
      | o d2 =>
        obtain ⟨v, q1, q2⟩ := q
        refine ⟨v, q1, ?_⟩
        obtain ⟨p2, k1, k2, k3, k4⟩ := h.ow j d2 e
        rw [k1] at q1; cases q1
        have ne := hne j d2 p2 (fun z => ij z.symm) k2
        exact (k4.mv f fun o e => by rw [upd_ne ne]; exact e).rp
  · intro a j e
    by_cases z : a = p
    · subst z; exact ⟨_, upd_same⟩
    · obtain ⟨u, q⟩ := h.ot a j e
      exact ⟨u, by rw [upd_ne z]; exact q⟩
  · unfold Ws.puto at e
    by_cases ij : i = j
    · subst ij
      rw [List.getElem?_set_self lt] at e
      cases e
      exact ⟨p, hp, h2, h3, ho⟩
    · rw [List.getElem?_set_ne ij] at e
      obtain ⟨p2, k1, k2, k3, k4⟩ := h.ow j d2 e
      have ne := hne j d2 p2 (fun z => ij z.symm) k2
      exact ⟨p2, k1, k2, k3, k4.mv f fun o e => by rw [upd_ne ne]; exact e⟩
  · exact sameUp h3 h.sm
/-- slot i is known elsewhere from now on -/
theorem SR.frz1 {i : Nat} {d : D} (h : SR X O0 O H σ ε) (hi : ε[i]? = some (.o d)) : ∃ O', SR X O0 O' H σ (ε.set i (.f d)) ∧ Fz O H O' H := by
  obtain ⟨p, h1, h2, h3, h4⟩ := h.ow i d hi
  have f : Fz O H (fun a => if a = p then none else O a) H := ⟨fun a o e q => ⟨e, by
    show (if a = p then none else O a) = none
    split
    · rfl
    · exact q⟩, fun _ _ e => e, fun _ _ _ e => e⟩
  have lt := lt_of_some hi
  refine ⟨fun a => if a = p then none else O a, ⟨⟨by rw [List.length_set]; exact h.er.1, fun j sl e => ?_⟩, fun a j e => ?_, fun j d2 e => ?_, h.sm, fun a o e => ?_, h.ot0⟩, f⟩
  · by_cases ij : i = j
    · subst ij
      rw [List.getElem?_set_self lt] at e
      cases e
      refine ⟨_, h1, ?_⟩
      cases d with
      | list ds => obtain ⟨xs, e2, z, r⟩ := h4; exact .lst (.inl ⟨.inl e2, by simp⟩) z (r.mv f)
      | dict ds => obtain ⟨xs, e2, r⟩ := h4; exact .dk e2 (by simp) (r.mv f)
      | none => exact h4.elim
      | bool b => exact h4.elim
      | int i => exact h4.elim
      | str x => exact h4.elim
      | tuple ds => exact h4.elim
    · rw [List.getElem?_set_ne ij] at e
      have er := h.er.mvS f (Same.refl H)
      exact er.2 j sl e
  · have e : (if a = p then none else O a) = some j := e
    split at e
    · cases e
    · exact h.ot a j e
  · by_cases ij : i = j
    · subst ij
      rw [List.getElem?_set_self lt] at e; cases e
    · rw [List.getElem?_set_ne ij] at e
      obtain ⟨p2, k1, k2, k3, k4⟩ := h.ow j d2 e
      refine ⟨p2, k1, ?_, k3, k4.mv f fun o e => e⟩
      have ne : p2 ≠ p := fun z => by rw [z, h2] at k2; cases k2; exact ij rfl
      show (if p2 = p then none else O p2) = _
      rw [if_neg ne]; exact k2
  · have ne : a ≠ p := fun z => by rw [z, h3] at e; cases e
    show (if a = p then none else O a) = _
    rw [if_neg ne]; exact h.o0 a o e
theorem SR.frz : ∀ (lk : List Nat) {O : Ow} {ε : Env}, SR X O0 O H σ ε → ∃ O', SR X O0 O' H σ (frzE ε lk) ∧ Fz O H O' H
  | [], O, ε, h => ⟨O, h, .refl _ _⟩
  | i :: is, O, ε, h => by
    unfold frzE
    split
    · rename_i d e
      obtain ⟨O1, h1, f1⟩ := h.frz1 e
      obtain ⟨O2, h2, f2⟩ := SR.frz is h1
      exact ⟨O2, h2, f1.trans f2⟩
    · exact SR.frz is h
end

/-! ### targets -/
theorem bnd_nm {j : Nat} (i : Nat) (d : D) (ε ε' : Env) (h : bnd (.nm i) d ε = .ok ε') : (j ∉ (Pt.nm i).sl → ε'[j]? = ε[j]?) ∧ (∀ x, j ∈ (Pt.nm i).sl → ε'[j]? ≠ some (.o x)) := by
    simp only [bnd] at h
    injection h with h
    subst h
    unfold put
    refine ⟨fun n => ?_, fun x m => ?_⟩
    · rw [List.getElem?_set_ne (fun z => n (by simp [Pt.sl, z]))]
    · have m1 : j = i := by simpa [Pt.sl] using m
      have e : i = j := m1.symm
      subst e
      by_cases lt : i < ε.length
      · rw [List.getElem?_set_self lt]; simp
      · rw [List.getElem?_eq_none (by rw [List.length_set]; omega)]; simp
theorem bnd_out {j : Nat} : (∀ (t : Pt) (d : D) (ε ε' : Env), bnd t d ε = .ok ε' → (j ∉ t.sl → ε'[j]? = ε[j]?) ∧ (∀ x, j ∈ t.sl → ε'[j]? ≠ some (.o x))) ∧
    ∀ (ts : List Pt) (ds : List D) (ε ε' : Env), bnds ts ds ε = .ok ε' → (j ∉ Pt.sls ts → ε'[j]? = ε[j]?) ∧ (∀ x, j ∈ Pt.sls ts → ε'[j]? ≠ some (.o x)) := by
  have nm := bnd_nm (j := j)
  have nil : ∀ (ds : List D) (ε ε' : Env), bnds [] ds ε = .ok ε' → (j ∉ Pt.sls [] → ε'[j]? = ε[j]?) ∧ (∀ x, j ∈ Pt.sls [] → ε'[j]? ≠ some (.o x)) := fun ds ε ε' h => by
    cases ds with
    | nil => simp only [bnds] at h; injection h with h; subst h; exact ⟨fun _ => rfl, fun x m => by simp [Pt.sls] at m⟩
    | cons d ds => simp [bnds] at h
  refine ⟨fun t => ?_, fun ts => ?_⟩
  · refine Pt.rec (motive_1 := fun t => ∀ (d : D) (ε ε' : Env), bnd t d ε = .ok ε' → (j ∉ t.sl → ε'[j]? = ε[j]?) ∧ (∀ x, j ∈ t.sl → ε'[j]? ≠ some (.o x)))
      (motive_2 := fun ts => ∀ (ds : List D) (ε ε' : Env), bnds ts ds ε = .ok ε' → (j ∉ Pt.sls ts → ε'[j]? = ε[j]?) ∧ (∀ x, j ∈ Pt.sls ts → ε'[j]? ≠ some (.o x))) nm ?_ nil ?_ t
    · intro ps ih d ε ε' h
      cases d <;> try (simp [bnd] at h; done)
      · exact ih _ ε ε' (by simpa only [bnd] using h)
      · exact ih _ ε ε' (by simpa only [bnd] using h)
    · intro p ps ih1 ih2 ds ε ε' h
      cases ds with
      | nil => simp [bnds] at h
      | cons d ds =>
        simp only [bnds] at h
        obtain ⟨ε1, h1, h2⟩ := Rs.bnd_of h
        obtain ⟨a1, b1⟩ := ih1 d ε ε1 h1
        obtain ⟨a2, b2⟩ := ih2 ds ε1 ε' h2
        refine ⟨fun n => ?_, fun x m => ?_⟩
        · simp only [Pt.sls, List.mem_append, not_or] at n
          rw [a2 n.2, a1 n.1]
        · by_cases z : j ∈ Pt.sls ps
          · exact b2 x z
          · rw [a2 z]
            simp only [Pt.sls, List.mem_append] at m
            exact b1 x (m.resolve_right z)
  · refine Pt.rec_1 (motive_1 := fun t => ∀ (d : D) (ε ε' : Env), bnd t d ε = .ok ε' → (j ∉ t.sl → ε'[j]? = ε[j]?) ∧ (∀ x, j ∈ t.sl → ε'[j]? ≠ some (.o x)))
      (motive_2 := fun ts => ∀ (ds : List D) (ε ε' : Env), bnds ts ds ε = .ok ε' → (j ∉ Pt.sls ts → ε'[j]? = ε[j]?) ∧ (∀ x, j ∈ Pt.sls ts → ε'[j]? ≠ some (.o x))) nm ?_ nil ?_ ts
    · intro ps ih d ε ε' h
      cases d <;> try (simp [bnd] at h; done)
      · exact ih _ ε ε' (by simpa only [bnd] using h)
      · exact ih _ ε ε' (by simpa only [bnd] using h)
    · intro p ps ih1 ih2 ds ε ε' h
      cases ds with
      | nil => simp [bnds] at h
      | cons d ds =>
        simp only [bnds] at h
        obtain ⟨ε1, h1, h2⟩ := Rs.bnd_of h
        obtain ⟨a1, b1⟩ := ih1 d ε ε1 h1
        obtain ⟨a2, b2⟩ := ih2 ds ε1 ε' h2
        refine ⟨fun n => ?_, fun x m => ?_⟩
        · simp only [Pt.sls, List.mem_append, not_or] at n
          rw [a2 n.2, a1 n.1]
        · by_cases z : j ∈ Pt.sls ps
          · exact b2 x z
          · rw [a2 z]
            simp only [Pt.sls, List.mem_append] at m
            exact b1 x (m.resolve_right z)
theorem SR.bnd {X : Cx} {O0 O : Ow} {H : Hp} {σ σ' : L2.St} {ε ε' : Env} {t : Pt} {d : D} (h : SR X O0 O H σ ε) (b : Ws.bnd t d ε = .ok ε') (er : ∀ O' H', Fz O H O' H' → ER X.K O' H' σ ε → ER X.K O' H' σ' ε') (w : ∀ vs, (∀ i ∈ t.sl, i ∈ vs) → L2.wipe σ' vs = L2.wipe σ vs) : SR X O0 O H σ' ε' :=
  ⟨er O H (.refl _ _) h.er, h.ot, fun j d' e => by
    obtain ⟨a1, b1⟩ := (bnd_out (j := j)).1 t d ε ε' b
    by_cases z : j ∈ t.sl
    · exact absurd e (b1 d' z)
    · rw [a1 z] at e
      have q := congrArg (fun l => l[j]?) (w t.sl fun i hi => hi)
      simp only [wipe_out z] at q
      rw [q]; exact h.ow j d' e, h.sm, h.o0, h.ot0⟩
end Ws

set_option Elab.async false
set_option linter.all false
set_option maxRecDepth 100000
set_option maxHeartbeats 4000000
/-! Sim17: statements -/
namespace Ws
open PySem PySem.Spec PyProof.Rows L2

theorem psm {X : Cx} {e : Stmt} {t t' : TS} (h : PS X e t) (f : ∀ D σ H, t' D σ H → t D σ H) : PS X e t' := ⟨fun p s σ H D I q => h.run p s σ H D I (f D σ H q)⟩
theorem pssm {X : Cx} {e : List Stmt} {t t' : TS} (h : PSs X e t) (f : ∀ D σ H, t' D σ H → t D σ H) : PSs X e t' := ⟨fun p s σ H D I q => h.run p s σ H D I (f D σ H q)⟩
/-- what is wanted behind a statement's answer -/
def sRes (X : Cx) (C : Addr) (O0 : Ow) (Ek : XK) (O : Ow) (H : Hp) (D : Ends) : Rs (Fl × Env) → Prop
  | .ok (.nx, ε') => ∀ O' σ' H', SR X O0 O' H' σ' ε' → Fz O H O' H' → D.nx σ' H'
  | .ok (.br, ε') => ∀ O' σ' H', SR X O0 O' H' σ' ε' → Fz O H O' H' → D.bk σ' H'
  | .ok (.ct, ε') => ∀ O' σ' H', SR X O0 O' H' σ' ε' → Fz O H O' H' → D.ct σ' H'
  | .ok (.rt d, _) => ∀ v H', Same X.H_0 H' → Rp X.K O0 H' v d → D.rt v H'
  | .ex d => ∀ dx v H', Same X.H_0 H' → H' dx = some (.xd [(atS, v)]) → Rp X.K O0 H' v d → Ek (.ref C) (some dx) H'
  | .st => False
def tSt (X : Cx) (C : Addr) (O0 : Ow) (Ek : XK) (f : Env → Rs (Fl × Env)) : TS := fun D σ H => ∃ O ε, SR X O0 O H σ ε ∧ sRes X C O0 Ek O H D (f ε)
abbrev WK (Ek : XK) : WX := fun cls d _ H => Ek cls d H
section
variable {X : Cx} {C : Addr} {O0 O O2 : Ow} {Ek : XK} {H H2 : Hp} {D : Ends} {σ : L2.St} {ε : Env}
theorem sRes.mono {r : Rs (Fl × Env)} (h : sRes X C O0 Ek O H D r) (f : Fz O H O2 H2) : sRes X C O0 Ek O2 H2 D r := by
  cases r with
  | ex d => exact h
  | st => exact h
  | ok p =>
    obtain ⟨fl, ε'⟩ := p
    cases fl with
    | nx => exact fun O' σ' H' s g => h O' σ' H' s (f.trans g)
    | br => exact fun O' σ' H' s g => h O' σ' H' s (f.trans g)
    | ct => exact fun O' σ' H' s g => h O' σ' H' s (f.trans g)
    | rt d => exact h
theorem SR.exW {d : Ws.D} (sr : SR X O0 O H σ ε) (h : ∀ dx v H', Same X.H_0 H' → H' dx = some (.xd [(atS, v)]) → Rp X.K O0 H' v d → Ek (.ref C) (some dx) H') : Ws.exW X.K C (WK Ek) O σ H d :=
  fun dx v H' s e r => h dx v H' (sr.sm.trans s) e (r.mv (sr.same s).fz0)
/-- through an expression -/
theorem sRes.rd {α : Type} {r : Rs α} {f : α → Rs (Fl × Env)} {k : α → Prop} (h : sRes X C O0 Ek O H D (r.bnd f)) (sr : SR X O0 O2 H2 σ ε) (g : ∀ a, r = .ok a → sRes X C O0 Ek O H D (f a) → k a) : Res X.K C (WK Ek) O2 σ H2 r k := by
  cases r with
  | ok a => exact g a rfl h
  | ex d => exact sr.exW h
  | st => exact h
/-- .. with all known elsewhere -/
theorem sRes.rdA {α : Type} {r : Rs α} {f : α → Rs (Fl × Env)} {k : α → Prop} (h : sRes X C O0 Ek O H D (r.bnd f)) (sr : SR X O0 O2 H2 σ ε) (g : ∀ a, r = .ok a → sRes X C O0 Ek O H D (f a) → k a) : Res X.K C (WK Ek) O0 σ H2 r k := by
  cases r with
  | ok a => exact g a rfl h
  | ex d => exact fun dx v H' s e r => h dx v H' (sr.sm.trans s) e r
  | st => exact h
end

/-- what a body's context gives -/
structure GS (c : Cfg) (φ : Nat → List D → Rs D) (C : Addr) (k : Nat) (X : Cx) (sc : Scope) (Ek : XK) : Prop where
  g : Good c φ C k X
  tk : Takes X (WK Ek)
  po : PassesOwn (model X.prog X.w) X.A X.env X.xe
  hs : X.env.scope = sc
  tg : TgOk X sc
  fn : X.env.scope.kind = .function

/-! ### places reused -/
theorem sw_no {e : Expr} {tg : Option Expr} {l : Nat} {env : PySem.Env} (h : noComp e = true) : swapsWith e tg l env = pure false := by
  cases e <;> first | (simp [noComp] at h; done) | rfl
theorem blockKind_fn {env : PySem.Env} (h : env.scope.kind = .function) : env.blockKind = .function := by unfold Env.blockKind; rw [h]; rfl
theorem sw_sub {e : Expr} {a i : Expr} {p : Pos} {l : Nat} {env : PySem.Env} : swapsWith e (some (.Subscript a i p)) l env = pure false := by cases e <;> rfl
theorem sw_tup {e : Expr} {ts : List Expr} {k : Nat} {p : Pos} {l : Nat} {env : PySem.Env} : swapsWith e (some (.Tuple ts k p)) l env = pure false := by cases e <;> rfl
theorem sw_name {e : Expr} {y : Str} {py : Pos} {l : Nat} {env : PySem.Env} {sc : Scope} (hs : env.scope = sc) (hk : env.scope.kind = .function) (h1 : ∀ a b c d f, e ≠ .DictComp a b c d f) (h2 : ∀ a b c d, e ≠ .SetComp a b c d) (h : inComp sc e y py = false) : swapsWith e (some (.Name y py)) l env = pure false := by
  cases e <;> first | rfl | exact absurd rfl (h1 _ _ _ _ _) | exact absurd rfl (h2 _ _ _ _) | skip
  rename_i elt gs s p
  unfold swapsWith
  have hb := blockKind_fn hk
  have ky : env.kindOf y = sc.names.lookup y := by rw [← hs]; rfl
  simp only [hb, ky, Expr.pos]
  have h : ((sc.names.lookup y == some .local) && (py.line == p.line) && !(s.names.any fun (n, k) => n == y && (k == .local || k == .cell))) = false := h
  simp only [beq_self_eq_true, Bool.true_and]
  rw [h]
theorem sw_key {ts vs : List Expr} {kk k2 : Nat} {tp p2 : Pos} {env : PySem.Env} : swappedStores [.Tuple ts kk tp] (.Tuple vs k2 p2) env =
    (if (!(ts.length == 2 || ts.length == 3) || vs.length != ts.length || env.blockKind != .function) = true then pure none else
     if (vs.any starV) = true then pure none else
     if ((ts.filterMap (nmS env.kindOf ((ts.head?.map (·.pos.line)).getD 0))).length != ts.length || (ts.filterMap (nmS env.kindOf ((ts.head?.map (·.pos.line)).getD 0))).eraseDups.length != (ts.filterMap (nmS env.kindOf ((ts.head?.map (·.pos.line)).getD 0))).length) = true then pure none else
     if (vs.all (foldedForSure 8)) = true then pure none else
     if (vs.all (constantsAlone 8)) = true then (do unsupported "assign.tuple-of-constant-expressions:order-of-the-stores"; pure (some (ts.filterMap (nmS env.kindOf ((ts.head?.map (·.pos.line)).getD 0))))) else pure (some (ts.filterMap (nmS env.kindOf ((ts.head?.map (·.pos.line)).getD 0))))) := rfl
theorem sw_st {ts : List Expr} {kk : Nat} {tp : Pos} {e : Expr} {env : PySem.Env} {sc : Scope} {r : Option (List Str)} (hs : env.scope = sc) (hk : env.scope.kind = .function) (h : swS sc ts e = some r) : swappedStores [.Tuple ts kk tp] e env = pure r := by
  have hb := blockKind_fn hk
  have ky : env.kindOf = fun y => sc.names.lookup y := by funext y; rw [← hs]; rfl
  cases e <;> first | (cases h; rfl) | skip
  rename_i vs k2 p2
  have h : swT (fun x => sc.names.lookup x) ts vs = some r := h
  rw [sw_key, hb, ky, bne_self_eq_false, Bool.or_false]
  unfold swT at h
  split at h
  · rename_i c1; cases h; rw [if_pos c1]
  rename_i c1
  rw [if_neg c1]
  split at h
  · rename_i c1; cases h; rw [if_pos c1]
  rename_i c1
  rw [if_neg c1]
  split at h
  · rename_i c1; cases h; rw [if_pos c1]
  rename_i c1
  rw [if_neg c1]
  split at h
  · rename_i c1; cases h; rw [if_pos c1]
  rename_i c1
  rw [if_neg c1]
  split at h
  · cases h
  rename_i c1
  cases h
  rw [if_neg c1]
end Ws

set_option Elab.async false
set_option linter.all false
set_option maxRecDepth 100000
set_option maxHeartbeats 4000000
/-! Sim18: each statement, from its parts -/
namespace Ws
open PySem PySem.Spec PyProof.Rows L2

theorem bnd_noex : (∀ (t : Pt) (d : D) (ε : Env), NoEx (bnd t d ε)) ∧ ∀ (ts : List Pt) (ds : List D) (ε : Env), NoEx (bnds ts ds ε) := by
  have nm : ∀ (i : Nat) (d : D) (ε : Env), NoEx (bnd (.nm i) d ε) := fun i d ε => by simp only [bnd]; exact NoEx.ok _
  have nil : ∀ (ds : List D) (ε : Env), NoEx (bnds [] ds ε) := fun ds ε => by cases ds <;> simp only [bnds] <;> first | exact NoEx.ok _ | exact NoEx.st
  have tp : ∀ (ps : List Pt), (∀ (ds : List D) (ε : Env), NoEx (bnds ps ds ε)) → ∀ (d : D) (ε : Env), NoEx (bnd (.tp ps) d ε) := fun ps ih d ε => by
    cases d <;> simp only [bnd] <;> first | exact NoEx.st | exact ih _ _
  have cons : ∀ (p : Pt) (ps : List Pt), (∀ (d : D) (ε : Env), NoEx (bnd p d ε)) → (∀ (ds : List D) (ε : Env), NoEx (bnds ps ds ε)) → ∀ (ds : List D) (ε : Env), NoEx (bnds (p :: ps) ds ε) := fun p ps ih1 ih2 ds ε => by
    cases ds with
    | nil => simp only [bnds]; exact NoEx.st
    | cons d ds => simp only [bnds]; exact (ih1 d ε).bnd fun _ => ih2 _ _
  exact ⟨fun t => Pt.rec (motive_1 := fun t => ∀ (d : D) (ε : Env), NoEx (bnd t d ε)) (motive_2 := fun ts => ∀ (ds : List D) (ε : Env), NoEx (bnds ts ds ε)) nm tp nil cons t,
    fun ts => Pt.rec_1 (motive_1 := fun t => ∀ (d : D) (ε : Env), NoEx (bnd t d ε)) (motive_2 := fun ts => ∀ (ds : List D) (ε : Env), NoEx (bnds ts ds ε)) nm tp nil cons ts⟩
section
variable {X : Cx} {φ : Nat → List D → Rs D} {C : Addr} {c : Cfg} {k : Nat} {sc : Scope} {O0 : Ow} {Ek : XK}
theorem sRes.ok_of {α : Type} {O : Ow} {H : Hp} {D : Ends} {r : Rs α} {f : α → Rs (Fl × Env)} (h : sRes X C O0 Ek O H D (r.bnd f)) (n : NoEx r) : ∃ a, r = .ok a ∧ sRes X C O0 Ek O H D (f a) := by
  cases r with
  | ok a => exact ⟨a, rfl, h⟩
  | ex d => exact absurd rfl (n d)
  | st => exact h.elim
theorem s_pass {pos : Pos} : PS X (.Pass pos) (tSt X C O0 Ek (exS φ .pass)) := psm ps_pass fun D σ H ⟨O, ε, sr, q⟩ => by
  simp only [exS] at q
  exact q O σ H sr (.refl _ _)
theorem s_doc {x : Str} {j : Nat} {p pos : Pos} : PS X (.Expr (.Constant (.str x) j p) pos) (tSt X C O0 Ek (exS φ .pass)) := psm ps_doc fun D σ H ⟨O, ε, sr, q⟩ => by
  simp only [exS] at q
  exact q O σ H sr (.refl _ _)
theorem s_brk {pos : Pos} : PS X (.Break pos) (tSt X C O0 Ek (exS φ .brk)) := psm ps_break fun D σ H ⟨O, ε, sr, q⟩ => by
  simp only [exS] at q
  exact q O σ H sr (.refl _ _)
theorem s_cont {pos : Pos} : PS X (.Continue pos) (tSt X C O0 Ek (exS φ .cont)) := psm ps_continue fun D σ H ⟨O, ε, sr, q⟩ => by
  simp only [exS] at q
  exact q O σ H sr (.refl _ _)
theorem s_stuck {st : Stmt} : PS X st (tSt X C O0 Ek (exS φ .stuck)) := ⟨fun _ _ _ _ _ _ ⟨O, ε, sr, q⟩ => by simp only [exS] at q; exact q.elim⟩
theorem s_retn {pos : Pos} : PS X (.Return none pos) (tSt X C O0 Ek (exS φ .retn)) := psm ps_retN fun D σ H ⟨O, ε, sr, q⟩ => by
  simp only [exS] at q
  exact q .non H sr.sm .non
theorem s_ret {e : Expr} {a : E} {pos : Pos} (he : PE X e ((tD X.K φ C (WK Ek)) a)) : PS X (.Return (some e) pos) (tSt X C O0 Ek (exS φ (.ret a))) := psm (ps_ret he) fun D σ H ⟨O, ε, sr, q⟩ => by
  simp only [exS] at q
  obtain ⟨er0, ot0⟩ := sr.all
  exact ⟨O0, ε.map frzS, er0, ot0, q.rdA sr fun d _ k v H' s r => k v H' (sr.sm.trans s) r⟩
theorem s_iff {e : Expr} {a : E} {p q : List Stmt} {p' q' : List S} {pos : Pos} (he : PT X e ((tT X.K φ C (WK Ek)) a)) (hp : PSs X p (tSt X C O0 Ek (exSs φ p'))) (hq : PSs X q (tSt X C O0 Ek (exSs φ q'))) : PS X (.If e p q pos) (tSt X C O0 Ek (exS φ (.iff a p' q'))) :=
  psm (ps_if he hp hq) fun D σ H ⟨O, ε, sr, q⟩ => by
    simp only [exS] at q
    obtain ⟨er0, ot0⟩ := sr.all
    refine ⟨O0, ε.map frzS, er0, ot0, q.rdA sr fun d _ k H' s => ?_⟩
    by_cases cc : truth d = true
    · rw [if_pos cc] at k ⊢
      exact ⟨O, ε, sr.same s, k.mono (.same s)⟩
    · rw [if_neg cc] at k ⊢
      exact ⟨O, ε, sr.same s, k.mono (.same s)⟩
/-- behind a value that goes into a target -/
theorem asg_end {O O1 : Ow} {H H1 : Hp} {D : Ends} {σ : L2.St} {ε : Env} {t : Pt} {d : Ws.D} {v : V} (sr : SR X O0 O1 H1 σ ε) (f : Fz O H O1 H1) (r : Rp X.K O1 H1 v d) (q : sRes X C O0 Ek O H D ((bnd t d ε).bnd fun ε' => .ok (.nx, ε'))) : gP X.K t v σ H1 D.nx := by
  obtain ⟨ε', h1, h2⟩ := q.ok_of (bnd_noex.1 t d ε)
  exact ⟨O1, d, ε, ε', r, h1, fun σ' er' w' => h2 O1 σ' H1 (sr.bnd h1 er' w') f⟩
theorem s_asg {tg e : Expr} {a : E} {t : Pt} {lk : List Nat} {pos : Pos} (he : PE X e ((tD X.K φ C (WK Ek)) a)) (hg : PG X tg (gP X.K t)) (hs : swapsWithSole [tg] e pos.line X.env = pure false) (hw : swappedStores [tg] e X.env = pure none) (h1 : (assignEach [tg] X.env).map (·.2) = [assign tg X.env]) :
    PS X (.Assign [tg] e pos) (tSt X C O0 Ek (exS φ (.asg t a false lk))) := psm (ps_asg he hg hs hw h1) fun D σ H ⟨O, ε, sr, q⟩ => by
  simp only [exS] at q
  obtain ⟨O1, sr1, f1⟩ := sr.frz lk
  refine ⟨O1, frzE ε lk, sr1.er, sr1.ot, q.rd sr1 fun d _ k v H1 s r => ?_⟩
  exact asg_end (sr1.same s) (f1.trans (.same s)) r k
/-- .. a new one goes into a name -/
theorem asgF_end {O O1 : Ow} {H H0 H1 : Hp} {D : Ends} {σ : L2.St} {ε : Env} {i : Nat} {d : Ws.D} {v : V} (sr : SR X O0 O1 H0 σ ε) (f : Fz O H O1 H0) (s : Same H0 H1) (r : Fr X.K O1 H0 H1 v d) (q : sRes X C O0 Ek O H D ((putF ε (.nm i) d true).bnd fun ε' => .ok (.nx, ε'))) : D.nx (σ.set i (some v)) H1 := by
  have plain : Rp X.K O1 H1 v d → (putF ε (.nm i) d true = .ok (put ε i d)) → D.nx (σ.set i (some v)) H1 := fun r e => by
    rw [e] at q
    exact q O1 _ H1 ((sr.same s).put r) (f.trans (.same s))
  have new : ((∃ ds, d = .list ds) ∨ ∃ ds, d = .dict ds) → (putF ε (.nm i) d true = .ok (puto ε i d)) → D.nx (σ.set i (some v)) H1 := fun hd e => by
    rw [e] at q
    obtain ⟨O', sr', f'⟩ := sr.newo s hd r
    exact q O' _ H1 sr' (f.trans f')
  cases d with
  | list ds => exact new (.inl ⟨_, rfl⟩) (by simp [putF])
  | dict ds => exact new (.inr ⟨_, rfl⟩) (by simp [putF])
  | none => exact plain r (by simp [putF, bnd])
  | bool b => exact plain r (by simp [putF, bnd])
  | int i => exact plain r (by simp [putF, bnd])
  | str x => exact plain r (by simp [putF, bnd])
  | tuple ds => exact plain r (by simp [putF, bnd])
theorem asgG_end {fr : Bool} {O O1 : Ow} {H H0 H1 : Hp} {D : Ends} {σ : L2.St} {ε : Env} {i : Nat} {d : Ws.D} {v : V} (sr : SR X O0 O1 H0 σ ε) (f : Fz O H O1 H0) (s : Same H0 H1) (r : Fr X.K O1 H0 H1 v d) (q : sRes X C O0 Ek O H D ((putF ε (.nm i) d fr).bnd fun ε' => .ok (.nx, ε'))) : D.nx (σ.set i (some v)) H1 := by
  cases fr with
  | true => exact asgF_end sr f s r q
  | false =>
    have e : putF ε (.nm i) d false = .ok (put ε i d) := by simp [putF, bnd]
    rw [e] at q
    exact q O1 _ H1 ((sr.same s).put (r.rp sr.ot)) (f.trans (.same s))
theorem s_asgF {x : Str} {e : Expr} {a : E} {i : Nat} {lk : List Nat} {px pos : Pos} (hN : X.N.Nodup) (hi : X.N[i]? = some x) (hx : Loc X.env.scope x) (hf : X.fn x = true ∨ X.env.scope.names.lookup x = some .local) (he : PE X e ((tF X.K φ C (WK Ek)) a)) (hs : swapsWith e (some (.Name x px)) pos.line X.env = pure false) :
    PS X (.Assign [.Name x px] e pos) (tSt X C O0 Ek (exS φ (.asg (.nm i) a true lk))) := psm (ps_set hN hi hx he hs hf) fun D σ H ⟨O, ε, sr, q⟩ => by
  simp only [exS] at q
  obtain ⟨O1, sr1, f1⟩ := sr.frz lk
  refine ⟨O1, frzE ε lk, sr1.er, sr1.ot, q.rd sr1 fun d _ k v H1 s r => ?_⟩
  exact asgF_end sr1 f1 s r k
theorem s_drop {e : Expr} {a : E} {lk : List Nat} {pos : Pos} (he : PE X e ((tD X.K φ C (WK Ek)) a)) (hs : swapsWith e none pos.line X.env = pure false) : PS X (.Expr e pos) (tSt X C O0 Ek (exS φ (.drop a lk))) := psm (ps_expr he hs) fun D σ H ⟨O, ε, sr, q⟩ => by
  simp only [exS] at q
  obtain ⟨O1, sr1, f1⟩ := sr.frz lk
  refine ⟨O1, frzE ε lk, sr1.er, sr1.ot, q.rd sr1 fun d _ k v H1 s r => ?_⟩
  exact k O1 σ H1 (sr1.same s) (f1.trans (.same s))
theorem s_par {x y : Str} {a b : Expr} {a' b' : E} {i j : Nat} {lk : List Nat} {px py pt pos pt2 : Pos} {kt k2 : Nat} (hc : X.calm = true) (hN : X.N.Nodup) (hi : X.N[i]? = some x) (hj : X.N[j]? = some y) (hij : i ≠ j) (hx : X.env.scope.names.lookup x = some .local) (hy : X.env.scope.names.lookup y = some .local)
    (ha : PA X [a, b] ((tA X.K φ C (WK Ek)) [a', b'])) (hw : swappedStores [.Tuple [.Name x px, .Name y py] kt pt] (.Tuple [a, b] k2 pt2) X.env = pure (some [x, y])) :
    PS X (.Assign [.Tuple [.Name x px, .Name y py] kt pt] (.Tuple [a, b] k2 pt2) pos) (tSt X C O0 Ek (exS φ (.par i j a' b' lk))) := psm (ps_par hc hN hi hj hij hx hy ha hw (by rfl)) fun D σ H ⟨O, ε, sr, q⟩ => by
  simp only [exS] at q
  obtain ⟨O1, sr1, f1⟩ := sr.frz lk
  refine ⟨O1, frzE ε lk, sr1.er, sr1.ot, ?_⟩
  have q' : sRes X C O0 Ek O H D ((evs φ [a', b'] (frzE ε lk)).bnd fun ds => match ds with | [x, y] => .ok (.nx, put (put (frzE ε lk) i x) j y) | _ => .st) := by
    simp only [evs]
    cases e1 : ev φ a' (frzE ε lk) with
    | ok d1 =>
      rw [e1] at q
      simp only [Rs.bnd_ok] at q ⊢
      cases e2 : ev φ b' (frzE ε lk) with
      | ok d2 => rw [e2] at q; exact q
      | ex d2 => rw [e2] at q; exact q
      | st => rw [e2] at q; exact q
    | ex d1 => rw [e1] at q; exact q
    | st => rw [e1] at q; exact q
  refine q'.rd sr1 fun ds _ k vs H1 s r => ?_
  match ds, r, k with
  | [d1, d2], .cons r1 (.cons r2 .nil), k =>
    exact ⟨_, _, rfl, k O1 _ H1 (((sr1.same s).put r1).put r2) (f1.trans (.same s))⟩
  | [], .nil, k => exact k.elim
  | [_], .cons _ .nil, k => exact k.elim
  | _ :: _ :: _ :: _, .cons _ (.cons _ (.cons _ _)), k => exact k.elim
theorem s_aug {x : Str} {e : Expr} {a : E} {i : Nat} {o : Op2} {op : Operator} {f : Int → Int → Int} {px pos : Pos} (hN : X.N.Nodup) (hi : X.N[i]? = some x) (hx : Loc X.env.scope x) (hf : X.fn x = true ∨ X.env.scope.names.lookup x = some .local) (he : PE X e ((tW X.K φ C (WK Ek)) a)) (ho : PIp X op (ipI f))
    (hb : ∀ d1 d2 n, binD o d1 d2 = .ok (.int n) → ∃ i1 i2, d1 = .int i1 ∧ d2 = .int i2 ∧ n = f i1 i2) :
    PS X (.AugAssign (.Name x px) op e pos) (tSt X C O0 Ek (exS φ (.aug i o a []))) := psm (ps_aug hN hi hx he ho hf) fun D σ H ⟨O, ε, sr, q⟩ => by
  simp only [exS, frzE] at q
  have h0 : ∃ d, ev φ (.var i) ε = .ok d := by
    cases e1 : ev φ (.var i) ε with
    | ok d => exact ⟨d, rfl⟩
    | ex d => simp only [ev] at e1; split at e1 <;> cases e1
    | st => rw [e1] at q; exact q.elim
  obtain ⟨d1, e1⟩ := h0
  rw [e1] at q
  simp only [Rs.bnd_ok] at q
  have e1' := e1
  simp only [ev] at e1
  cases e0 : ε[i]? with
  | none => rw [e0] at e1; cases e1
  | some sl =>
    rw [e0] at e1
    cases sl <;> try (cases e1; done)
    rename_i dd
    injection e1 with e1
    subst e1
    obtain ⟨v, hv, rv⟩ := sr.er.2 i _ e0
    refine ⟨v, hv, O, ε, sr.er, sr.ot, q.rd sr fun d2 _ k w H1 s r => ?_⟩
    obtain ⟨z, hz, k⟩ := k.ok_of (binD_noex _ _ _)
    cases z <;> try exact k.elim
    rename_i n
    obtain ⟨i1, i2, rfl, rfl, rfl⟩ := hb _ _ _ hz
    cases rv
    cases intW r
    refine ⟨i1, i2, rfl, rfl, ?_⟩
    exact k O _ H1 ((sr.same s).put (.int _)) (.same s)
theorem own_of {O : Ow} {H : Hp} {D : Ends} {ε : Env} {i : Nat} {f : Ws.D → Rs (Fl × Env)} (q : sRes X C O0 Ek O H D ((own ε i).bnd f)) : ∃ d, ε[i]? = some (.o d) ∧ sRes X C O0 Ek O H D (f d) := by
  unfold own at q
  cases e : ε[i]? with
  | none => rw [e] at q; exact q.elim
  | some sl =>
    rw [e] at q
    cases sl with
    | u => exact q.elim
    | f d => exact q.elim
    | o d => exact ⟨d, rfl, q⟩
theorem ownRp {O : Ow} {H : Hp} {σ : L2.St} {ε : Env} {i : Nat} {d : Ws.D} (sr : SR X O0 O H σ ε) (e : ε[i]? = some (.o d)) : ∃ p, σ[i]? = some (some (.ref p)) ∧ O p = some i ∧ OwnAt X.K O H p d := by
  obtain ⟨p, h1, h2, h3, h4⟩ := sr.ow i d e
  exact ⟨p, h1, h2, h4⟩
theorem s_app {x : Str} {e : Expr} {a : E} {i : Nat} {lk : List Nat} {px ap cp pos : Pos} (hi : X.N[i]? = some x) (hv : Vis X.env.scope x) (hd : (x == ("__debug__" : Str)) = false) (hcd : (x == ("__classdict__" : Str)) = false) (he : PE X e ((tD X.K φ C (WK Ek)) a)) (hl : lone e = true) (hline : (ap.endLine == cp.line) = true) :
    PS X (.Expr (.Call (.Attribute (.Name x px) "append" ap) [e] [] cp) pos) (tSt X C O0 Ek (exS φ (.app i a lk))) := by
  have hs1 : starEach [e] X.env = (false, eval e X.env) :: starEach [] X.env := starCons hl
  have hfew : ((backTo cp (starEach [e] X.env)).all (fun x => !x.1) && (backToKw cp (keywordEach [] X.env)).all (fun x => x.1.isSome)
      && decide ([e].length + ([] : List Keyword).length + (if ([] : List Keyword).isEmpty then 0 else 1) < 30)) = true := by
    rw [hs1]; rfl
  refine psm (ps_expr (pe_bm (cpos := cp) PySem.F.plainAttrs_list PySem.F.slot_list_append PySem.F.type_list_append mt_append (pe_var hi hv hd hcd) (pa_cons he pa_nil hs1) (by rfl) hfew hline hs1 (by rfl)) (by rfl)) fun D σ H ⟨O, ε, sr, q⟩ => ?_
  simp only [exS] at q
  obtain ⟨O1, sr1, f1⟩ := sr.frz lk
  obtain ⟨d, hd, q⟩ := own_of q
  obtain ⟨p, hp, hO, how⟩ := ownRp sr1 hd
  obtain ⟨ds, hx, q2⟩ := q.ok_of (r := lstD d) (by cases d <;> first | exact NoEx.ok _ | exact NoEx.st)
  clear q
  have hx : d = .list ds := by cases d <;> first | (cases hx; done) | (cases hx; rfl)
  subst hx
  obtain ⟨ys, hH, z, rs⟩ := how
  refine ⟨_, hp, .inl ⟨rfl, ys, .inl (.inl hH)⟩, ?_⟩
  refine ⟨O1, frzE ε lk, sr1.er, sr1.ot, q2.rd sr1 fun v _ k w H1 s r => ?_⟩
  by_cases lt : ds.length < LIM
  · rw [if_pos lt] at k
    rw [← rs.length, lim_line] at lt
    refine ⟨_, ys, w, rfl, rfl, s _ _ hH, lt, ?_⟩
    have sr2 := sr1.same s
    have f2 : Fz O1 H1 O1 (upd H1 p (.lst (ys ++ [w]))) := fzOwn hO (s _ _ hH) (.inl ⟨_, rfl⟩)
    obtain ⟨sr3, f3⟩ := sr2.chg (d' := .list (ds ++ [v])) (o := .lst (ys ++ [w])) hd hp ⟨_, upd_same, by rw [List.length_append]; simp; omega, (((rs.same s).app (.cons r .nil)).mv f2)⟩
    exact k O1 σ _ sr3 ((f1.trans (.same s)).trans f3)
  · rw [if_neg lt] at k; exact k.elim
def sPut (td ty tv : TE) : TS := fun D σ H => tv σ H fun v H1 => td σ H1 fun x H2 => ty σ H2 fun y H3 => ∃ a, x = .ref a ∧ ((∃ H4, DPut H3 a y v H4 ∧ D.nx σ H4) ∨ rSetL (.ref a) y v H3 fun H4 => D.nx σ H4)
theorem ps_put {o i value : Expr} {pos pos' : Pos} {td ty tv : TE} (hu : X.A.units + 1 < cLine) (ho : PE X o td) (hi : PE X i ty) (hv : PE X value tv) (hs : swapsWith value (some (.Subscript o i pos')) pos.line X.env = pure false) :
    PS X (.Assign [.Subscript o i pos'] value pos) (sPut td ty tv) := by
  refine ⟨fun pins s σ H D I h => ?_⟩
  refine wpAny_Assign_Subscript (thn (hv.run pins s σ H _ I h) fun r s1 ⟨v, H1, I1, rv, q1⟩ => thn (ho.run pins s1 σ H1 _ I1 q1) fun u s2 ⟨x, H2, I2, rx, q2⟩ => thn (hi.run pins s2 σ H2 _ I2 q2) fun iv s3 ⟨y, H3, I3, ry, a, ex, g⟩ => ?_) hs
  subst ex
  obtain rfl : u = Value.ref a := rx
  rcases g with ⟨H4, g, q3⟩ | g
  · exact d_setItem hu I3 g ry rv fun s4 I4 => ⟨σ, H4, I4, q3⟩
  · exact thn (set_list pins s3 σ H3 (V.ref a) y v (Value.ref a) iv r _ I3 (show RelV (V.ref a) (Value.ref a) from rfl) ry rv g) fun _ s4 ⟨H4, I4, q4⟩ => ⟨σ, H4, I4, q4⟩
theorem setD_noex (d k v : Ws.D) : NoEx (setD d k v) := by
  unfold setD
  split
  · exact (NoEx.of _).bnd fun _ => (NoEx.of _).bnd fun _ => NoEx.ok _
  · split
    · exact NoEx.ite (NoEx.ok _) NoEx.st
    · exact NoEx.st
  · exact NoEx.st
theorem keyRp {K : PySem.W.Frag} {O : Ow} {H : Hp} {y : V} {kk : Key} (h : RpW K O H y (keyD kk)) : y = kV kk := by
  cases kk with
  | inl i => exact intW h
  | inr x => exact (strW h).1
theorem s_seti {x : Str} {ix e : Expr} {a b : E} {i : Nat} {lk : List Nat} {px pp pos : Pos} (hu : X.A.units + 65 < cLine) (hi : X.N[i]? = some x) (hv : Vis X.env.scope x) (hd : (x == ("__debug__" : Str)) = false) (hcd : (x == ("__classdict__" : Str)) = false) (hk : PE X ix ((tW X.K φ C (WK Ek)) a)) (he : PE X e ((tD X.K φ C (WK Ek)) b))
    (hs : swapsWith e (some (.Subscript (.Name x px) ix pp)) pos.line X.env = pure false) : PS X (.Assign [.Subscript (.Name x px) ix pp] e pos) (tSt X C O0 Ek (exS φ (.seti i a b lk))) := by
  refine psm (ps_put (by omega) (pe_var hi hv hd hcd) hk he hs) fun D σ H ⟨O, ε, sr, q⟩ => ?_
  simp only [exS] at q
  obtain ⟨O1, sr1, f1⟩ := sr.frz lk
  refine ⟨O1, frzE ε lk, sr1.er, sr1.ot, q.rd sr1 fun v _ q w H1 s r => ?_⟩
  have sr2 := sr1.same s
  obtain ⟨d, hd, q⟩ := own_of q
  obtain ⟨p, hp, hO, how⟩ := ownRp sr2 hd
  refine ⟨_, hp, O1, frzE ε lk, sr2.er, sr2.ot, q.rd sr2 fun kd _ q y H2 s2 ry => ?_⟩
  have sr3 := sr2.same s2
  obtain ⟨d', hset, q⟩ := q.ok_of (setD_noex _ _ _)
  have how := how.same s2
  refine ⟨p, rfl, ?_⟩
  rcases (show (∃ ds, d = .list ds) ∨ ∃ ds, d = .dict ds from by cases d <;> first | exact .inl ⟨_, rfl⟩ | exact .inr ⟨_, rfl⟩ | exact how.elim) with ⟨ds, rfl⟩ | ⟨ds, rfl⟩
  · -- a list
    obtain ⟨ys, hH, z, rs⟩ := how
    simp only [setD] at hset
    obtain ⟨i0, rfl⟩ : ∃ i0, kd = .int i0 := by cases kd <;> first | (cases hset; done) | exact ⟨_, rfl⟩
    obtain ⟨m, hm, hset2⟩ := Rs.bnd_of (show (Rs.of (ixN ds.length i0)).bnd _ = _ from hset)
    cases intW ry
    have hset2 : Rs.ok (PyData.list (ds.set m v)) = Rs.ok d' := hset2
    injection hset2 with hset2
    subst hset2
    have hm' : ixN ys.length i0 = some m := by
      rw [rs.length]
      cases e : ixN ds.length i0 with
      | none => rw [e] at hm; cases hm
      | some m' => rw [e] at hm; cases hm; rfl
    refine .inr ⟨p, ys, i0, m, rfl, rfl, hH, hm', ?_⟩
    have f2 : Fz O1 H2 O1 (upd H2 p (.lst (ys.set m w))) := fzOwn hO hH (.inl ⟨_, rfl⟩)
    obtain ⟨sr4, f3⟩ := sr3.chg (d' := .list (ds.set m v)) (o := .lst (ys.set m w)) hd hp ⟨_, upd_same, by rw [List.length_set]; exact z, (rs.set (r.same s2) m).mv f2⟩
    exact q O1 σ _ sr4 (((f1.trans (.same s)).trans (.same s2)).trans f3)
  · -- a dict
    obtain ⟨vs, hH, rs⟩ := how
    simp only [setD] at hset
    cases hk : keyOf kd with
    | none => rw [hk] at hset; cases hset
    | some kk =>
      rw [hk] at hset
      have ek := keyOf_inv hk
      subst ek
      simp only at hset
      by_cases lt : ds.length < LIM
      · rw [if_pos lt] at hset
        injection hset with hset
        subst hset
        rw [← rs.length, lim_line] at lt
        have ey := keyRp ry
        subst ey
        refine .inl ⟨_, DPut.k hH lt, ?_⟩
        have f2 : Fz O1 H2 O1 (upd H2 p (.dK (putK vs kk w))) := fzOwn hO hH (.inr ⟨_, rfl⟩)
        obtain ⟨sr4, f3⟩ := sr3.chg (d' := .dict (putD ds (keyD kk) v)) (o := .dK (putK vs kk w)) hd hp ⟨_, upd_same, (rs.put (r.same s2)).mv f2⟩
        exact q O1 σ _ sr4 (((f1.trans (.same s)).trans (.same s2)).trans f3)
      · rw [if_neg lt] at hset; cases hset
end
end Ws

set_option Elab.async false
set_option linter.all false
set_option maxRecDepth 100000
set_option maxHeartbeats 4000000
/-! Sim19: loops; the pure language says what the text does: statements -/
namespace Ws
open PySem PySem.Spec PyProof.Rows L2

theorem Rs.bnd_assoc {α β γ : Type} (r : Rs α) (f : α → Rs β) (g : β → Rs γ) : (r.bnd f).bnd g = r.bnd fun x => (f x).bnd g := by cases r <;> rfl
section
variable {X : Cx} {φ : Nat → List D → Rs D} {C : Addr} {c : Cfg} {k : Nat} {sc : Scope} {O0 : Ow} {Ek : XK}
theorem s_for (po : PassesOwn (model X.prog X.w) X.A X.env X.xe) (hc : X.calm = true) {tg it : Expr} {body : List Stmt} {t : Pt} {it' : It} {body' : List S} {lk : List Nat} {pos : Pos} (hi : PI X tg it (tI true X.K φ C (WK Ek) it')) (hg : PG X tg (gP X.K t)) (hb : PSs X body (tSt X C O0 Ek (exSs φ body')))
    (hs : ∀ x, foldedSetIterable it X.env x = pure x) : PS X (.For tg it body [] pos) (tSt X C O0 Ek (exS φ (.for_ t it' body' lk))) := psm (ps_for po hc hi hg hb hs) fun D σ H ⟨O, ε, sr, q⟩ => by
  simp only [exS] at q
  obtain ⟨O1, sr1, f1⟩ := sr.frz lk
  refine ⟨O1, frzE ε lk, sr1.er, sr1.ot, q.rd sr1 fun ds _ q J H1 s1 hz wk => ?_⟩
  revert q
  generalize hst : (fun x ε' => (bnd t x ε').bnd fun ε'' => exSs φ body' ε'') = step
  intro q
  have sr2 := sr1.same s1
  have q := q.mono (f1.trans (.same s1))
  refine ⟨fun i m σ' H' => m = ds.length - i ∧ i ≤ ds.length ∧ ∃ O' ε', SR X O0 O' H' σ' ε' ∧ Fz O1 H1 O' H' ∧ sRes X C O0 Ek O' H' D (exFor step (ds.drop i) ε'),
    ⟨ds.length, by simp, Nat.zero_le _, O1, frzE ε lk, sr2, .refl _ _, by simpa using q⟩, ?_⟩
  rintro i m σ' H' ⟨rfl, hi, O', ε', sr', f', q'⟩
  have w := wk O' H' (fun z => by cases z) f'
  by_cases lt : i < ds.length
  · have hd : ds[i]? = some ds[i] := List.getElem?_eq_getElem lt
    rw [drop_cons hd] at q'
    simp only [exFor] at q'
    refine .inr ⟨w.go i _ hd, fun σ' H' => i + 1 ≤ ds.length ∧ ∃ O' ε', SR X O0 O' H' σ' ε' ∧ Fz O1 H1 O' H' ∧ sRes X C O0 Ek O' H' D (exFor step (ds.drop (i + 1)) ε'), fun σ2 H2 hN => ⟨ds.length - (i + 1), by omega, rfl, hN⟩, fun x H2 y => ?_⟩
    obtain ⟨e, rx⟩ := w.yld i _ x H2 hd y
    subst e
    rw [← hst] at q'
    simp only [Rs.bnd_assoc] at q'
    rw [hst] at q'
    obtain ⟨ε2, hb2, q2⟩ := q'.ok_of (bnd_noex.1 t ds[i] ε')
    refine ⟨O', ds[i], ε', ε2, rx, hb2, fun σ2 er2 w2 => ⟨O', ε2, sr'.bnd hb2 er2 w2, ?_⟩⟩
    cases e3 : exSs φ body' ε2 with
    | ex d => rw [e3] at q2; exact q2
    | st => rw [e3] at q2; exact q2
    | ok p =>
      obtain ⟨fl, ε3⟩ := p
      rw [e3] at q2
      cases fl with
      | nx => exact fun O4 σ4 H4 s4 f4 => ⟨lt, O4, ε3, s4, f'.trans f4, sRes.mono q2 f4⟩
      | ct => exact fun O4 σ4 H4 s4 f4 => ⟨lt, O4, ε3, s4, f'.trans f4, sRes.mono q2 f4⟩
      | br => exact q2
      | rt d => exact q2
  · have e : i = ds.length := by omega
    subst e
    rw [List.drop_length] at q'
    simp only [exFor] at q'
    exact .inl ⟨w.stop, q' O' σ' H' sr' (.refl _ _)⟩
theorem s_while (po : PassesOwn (model X.prog X.w) X.A X.env X.xe) {e : Expr} {a : E} {body : List Stmt} {body' : List S} {pos : Pos} (he : PT X e (tT X.K φ C (WK Ek) a)) (hb : PSs X body (tSt X C O0 Ek (exSs φ body'))) :
    PS X (.While e body [] pos) (tSt X C O0 Ek (exS φ (.whil a body'))) := psm (ps_while po he hb) fun D σ H ⟨O, ε, sr, q⟩ => by
  simp only [exS] at q
  generalize WH = n0 at q
  refine ⟨fun m σ' H' => ∃ O' ε', SR X O0 O' H' σ' ε' ∧ sRes X C O0 Ek O' H' D (exWh (fun ε' => (ev φ a (ε'.map frzS)).bnd fun x => .ok (truth x)) (fun ε' => exSs φ body' ε') m ε'), ⟨n0, O, ε, sr, q⟩, ?_⟩
  rintro m σ' H' ⟨O', ε', sr', q'⟩
  cases m with
  | zero => simp only [exWh] at q'; exact q'.elim
  | succ m =>
    simp only [exWh, Rs.bnd_assoc, Rs.bnd_ok] at q'
    obtain ⟨er0, ot0⟩ := sr'.all
    refine ⟨O0, ε'.map frzS, er0, ot0, q'.rdA sr' fun d _ k H1 s => ?_⟩
    by_cases cc : truth d = true
    · rw [if_pos cc] at k ⊢
      refine ⟨fun σ' H' => ∃ O' ε', SR X O0 O' H' σ' ε' ∧ sRes X C O0 Ek O' H' D (exWh (fun ε' => (ev φ a (ε'.map frzS)).bnd fun x => .ok (truth x)) (fun ε' => exSs φ body' ε') m ε'), fun σ2 H2 hN => ⟨m, Nat.lt_succ_self m, hN⟩, O', ε', sr'.same s, ?_⟩
      have k := k.mono (.same s)
      cases e3 : exSs φ body' ε' with
      | ex d => rw [e3] at k; exact k
      | st => rw [e3] at k; exact k
      | ok p =>
        obtain ⟨fl, ε3⟩ := p
        rw [e3] at k
        cases fl with
        | nx => exact fun O4 σ4 H4 s4 f4 => ⟨O4, ε3, s4, sRes.mono k f4⟩
        | ct => exact fun O4 σ4 H4 s4 f4 => ⟨O4, ε3, s4, sRes.mono k f4⟩
        | br => exact k
        | rt d => exact k
    · rw [if_neg cc] at k ⊢
      exact k O' σ' H1 (sr'.same s) (.same s)

structure SM (c : Cfg) (φ : Nat → List D → Rs D) (C : Addr) (k n : Nat) : Prop where
  s : ∀ {X : Cx} {sc : Scope} {O0 : Ow} {Ek : XK} {st : Stmt} {a : S}, GS c φ C k X sc Ek → compS c sc n st = some a → PS X st (tSt X C O0 Ek (exS φ a))
  ss : ∀ {X : Cx} {sc : Scope} {O0 : Ow} {Ek : XK} {sts : List Stmt} {as : List S}, GS c φ C k X sc Ek → compSs c sc n sts = some as → PSs X sts (tSt X C O0 Ek (exSs φ as))
theorem sm_ss {n : Nat} (ih : SM c φ C k n) (g : GS c φ C k X sc Ek) {sts : List Stmt} {as : List S} (h : compSs c sc (n + 1) sts = some as) : PSs X sts (tSt X C O0 Ek (exSs φ as)) := by
  unfold compSs at h
  split at h
  · cases h
  · cases h
    exact pssm pss_nil fun D σ H ⟨O, ε, sr, q⟩ => by
      simp only [exSs] at q
      exact q O σ H sr (.refl _ _)
  · rename_i nn st sts hn
    cases hn
    obtain ⟨a, h1, h⟩ := bndO h
    obtain ⟨as, h2, h⟩ := bndO h
    cases h
    refine pssm (pss_cons (ih.s (O0 := O0) g h1) (ih.ss (O0 := O0) g h2)) fun D σ H ⟨O, ε, sr, q⟩ => ⟨O, ε, sr, ?_⟩
    simp only [exSs] at q
    cases e3 : exS φ a ε with
    | ex d => rw [e3] at q; exact q
    | st => rw [e3] at q; exact q
    | ok p =>
      obtain ⟨fl, ε3⟩ := p
      rw [e3] at q
      cases fl with
      | nx => exact fun O4 σ4 H4 s4 f4 => ⟨O4, ε3, s4, sRes.mono q f4⟩
      | ct => exact q
      | br => exact q
      | rt d => exact q
theorem loc_of {x : Str} (g : GS c φ C k X sc Ek) (h : sc.names.lookup x = some .local ∨ sc.names.lookup x = some .cell) : Loc X.env.scope x ∧ (X.fn x = true ∨ X.env.scope.names.lookup x = some .local) := by
  rcases h with h | h
  · have := (g.tg x).1 h
    exact ⟨.inl this, .inr this⟩
  · obtain ⟨h1, h2⟩ := (g.tg x).2 h
    exact ⟨.inr h1, .inl h2⟩
theorem nm_of {n : Nat} {y : Str} {p : Pos} {t : Pt} (h : compT c sc n (.Name y p) = some t) : ∃ i, t = .nm i ∧ slotIx c.N y = some i ∧ (sc.names.lookup y = some .local ∨ sc.names.lookup y = some .cell) := by
  cases n with
  | zero => simp [compT] at h
  | succ n =>
    simp only [compT] at h
    split at h
    · rename_i e
      cases hs : slotIx c.N y with
      | none => rw [hs] at h; cases h
      | some i => rw [hs] at h; cases h; exact ⟨i, rfl, rfl, .inl e⟩
    · rename_i e
      cases hs : slotIx c.N y with
      | none => rw [hs] at h; cases h
      | some i => rw [hs] at h; cases h; exact ⟨i, rfl, rfl, .inr e⟩
    · cases h
theorem inComp_of {elt : Expr} {gs : List Comprehension} {scope : Scope} {p py : Pos} {y : Str} (h : inComp sc (.ListComp elt gs scope p) y py = true) : sc.names.lookup y = some .local ∧ (py.line == p.line) = true ∧ (scope.names.any fun (n, k) => n == y && (k == .local || k == .cell)) = false := by
  have h : ((sc.names.lookup y == some .local) && (py.line == p.line) && !(scope.names.any fun (n, k) => n == y && (k == .local || k == .cell))) = true := h
  simp only [Bool.and_eq_true, Bool.not_eq_true'] at h
  exact ⟨by simpa using h.1.1, h.1.2, h.2⟩
theorem lc_of {m : Nat} {elt tg iter : Expr} {ifs : List Expr} {scope : Scope} {p : Pos} {x : E} (h : compE c (m + 1) sc (.ListComp elt [⟨tg, iter, ifs, 0⟩] scope p) = some x) : ∃ it t x1 cd, compI c m sc true iter = some it ∧ compT c scope m tg = some t ∧ compE c m (relS scope sc) elt = some x1 ∧ compC c m (relS scope sc) ifs = some cd ∧
    t.isin ((ownOf c.N scope).map (·.2)) = true ∧ blkC c.N sc scope (ownOf c.N scope) = true ∧ x = .lc ((ownOf c.N scope).map (·.2)) x1 t it cd := by
  unfold compE at h
  simp only at h
  split at h
  · rename_i hb
    obtain ⟨it, h1, h⟩ := bndO h
    obtain ⟨t, h2, h⟩ := bndO h
    obtain ⟨x1, h3, h⟩ := bndO h
    obtain ⟨cd, h4, h⟩ := bndO h
    split at h
    · rename_i hin
      cases h
      exact ⟨it, t, x1, cd, h1, h2, h3, h4, hin, hb, rfl⟩
    · cases h
  · cases h
theorem lc2_of {m : Nat} {elt tg iter tg1 iter1 : Expr} {ifs ifs1 : List Expr} {scope : Scope} {p : Pos} {x : E} (h : compE c (m + 1) sc (.ListComp elt [⟨tg, iter, ifs, 0⟩, ⟨tg1, iter1, ifs1, 0⟩] scope p) = some x) : ∃ it t x1 cd it1 t1 cd1, compI c m sc true iter = some it ∧ compT c scope m tg = some t ∧ compE c m (relS scope sc) elt = some x1 ∧ compC c m (relS scope sc) ifs = some cd ∧
    compI c m (relS scope sc) false iter1 = some it1 ∧ compT c scope m tg1 = some t1 ∧ compC c m (relS scope sc) ifs1 = some cd1 ∧ t.isin ((ownOf c.N scope).map (·.2)) = true ∧ t1.isin ((ownOf c.N scope).map (·.2)) = true ∧ blkC c.N sc scope (ownOf c.N scope) = true ∧ x = .lc2 ((ownOf c.N scope).map (·.2)) t1.sl x1 t it cd t1 it1 cd1 := by
  unfold compE at h
  simp only at h
  split at h
  · rename_i hb
    obtain ⟨it, h1, h⟩ := bndO h
    obtain ⟨t, h2, h⟩ := bndO h
    obtain ⟨cd, h4, h⟩ := bndO h
    obtain ⟨it1, h5, h⟩ := bndO h
    obtain ⟨t1, h6, h⟩ := bndO h
    obtain ⟨cd1, h7, h⟩ := bndO h
    obtain ⟨x1, h3, h⟩ := bndO h
    split at h
    · rename_i hin
      simp only [Bool.and_eq_true] at hin
      cases h
      exact ⟨it, t, x1, cd, it1, t1, cd1, h1, h2, h3, h4, h5, h6, h7, hin.1, hin.2, hb, rfl⟩
    · cases h
  · cases h
theorem sm_s {n : Nat} (ih : SM c φ C k n) (g : GS c φ C k X sc Ek) {st : Stmt} {a : S} (h : compS c sc (n + 1) st = some a) : PS X st (tSt X C O0 Ek (exS φ a)) := by
  have E0 := sn (c := c) (φ := φ) (C := C) (k := k) n
  unfold compS at h
  split at h
  · cases h; exact s_pass
  · cases h; exact s_brk
  · cases h; exact s_cont
  · cases h; exact s_retn
  · obtain ⟨x, h1, h⟩ := bndO h
    cases h
    exact s_ret (E0.e g.g g.tk g.hs h1).d
  · obtain ⟨x, h1, h⟩ := bndO h
    obtain ⟨p, h2, h⟩ := bndO h
    obtain ⟨q, h3, h⟩ := bndO h
    cases h
    exact s_iff (E0.e g.g g.tk g.hs h1).t (ih.ss g h2) (ih.ss g h3)
  · obtain ⟨i, h1, h⟩ := bndO h
    obtain ⟨t, h2, h⟩ := bndO h
    obtain ⟨b, h3, h⟩ := bndO h
    cases h
    obtain ⟨i1, i2⟩ := E0.i g.g g.tk g.hs h1
    exact s_for g.po g.g.calm (i1 _) (pg_sound g.g.hN g.g.nd g.g.calm g.tg n _ t h2) (ih.ss g h3) (i2 _)
  · obtain ⟨x, h1, h⟩ := bndO h
    obtain ⟨b, h3, h⟩ := bndO h
    cases h
    exact s_while g.po (E0.e g.g g.tk g.hs h1).t (ih.ss g h3)
  · -- x[i] = e
    split at h
    · rename_i cnd
      simp only [Bool.and_eq_true, decide_eq_true_eq] at cnd
      obtain ⟨i, h1, h⟩ := bndO h
      obtain ⟨kx, h2, h⟩ := bndO h
      obtain ⟨v, h3, h⟩ := bndO h
      cases h
      obtain ⟨q1, q2⟩ := slot_of g.g.hN g.hs h1
      exact s_seti g.g.hu q1 q2 (by simpa using cnd.1.2) (by simpa using cnd.2) (E0.e g.g g.tk g.hs h2).w (E0.e g.g g.tk g.hs h3).d sw_sub
    · cases h
  · -- y = e
    rename_i y py e pos
    split at h
    · rename_i hic
      split at h
      · rename_i elt tg iter ifs scope p2
        obtain ⟨x, h1, h⟩ := bndO h
        obtain ⟨i, hi, h⟩ := bndO h
        cases h
        obtain ⟨ic1, ic2, ic3⟩ := inComp_of hic
        cases n with
        | zero => simp [compE] at h1
        | succ m =>
          obtain ⟨it, t, x1, cd, k1, k2, k3, k4, k5, hb, rfl⟩ := lc_of h1
          have E1 := sn (c := c) (φ := φ) (C := C) (k := k) m
          obtain ⟨i1, i2⟩ := E1.i g.g g.tk g.hs k1
          have ok : BlkOk X.N X.env.scope scope (ownOf c.N scope) := by rw [g.g.hN, g.hs]; exact blkOk_by hb
          have blk : ∀ (s : Shared) (H : Hp) (Cc : Addr) (cl : List (Str × Addr)) (fp : List Addr), Good c φ C k (X.blk s H scope (compEnvC scope cl Cc X.env) fp) := fun s H Cc cl fp => g.g.blk s H scope _ fp
          have hsc : ∀ (s : Shared) (H : Hp) (Cc : Addr) (cl : List (Str × Addr)) (fp : List Addr), (X.blk s H scope (compEnvC scope cl Cc X.env) fp).env.scope = relS scope sc := fun s H Cc cl fp => by rw [← g.hs]; rfl
          refine psm (ps_setLc (i := i) (g := gP X.K t) (te := tD X.K φ C W0 x1) (tt := tC X.K φ C W0 cd) g.g.calm g.g.nd (by rw [g.g.hN]; exact slotIx_get hi) (by rw [g.hs]; exact ic1) (sw_true g.fn (by rw [g.hs]; exact ic1) ic2 ic3) (i1 _) ok
            (fun s H Cc cl fp => pg_sound (X := X.blk s H scope (compEnvC scope cl Cc X.env) fp) (c := c) g.g.hN g.g.nd g.g.calm (relS_tg s H Cc cl fp rfl) m _ t k2) (fun s H Cc cl fp => E1.cd (blk s H Cc cl fp) takes0 (hsc s H Cc cl fp) k4) (fun s H Cc cl fp => (E1.e (blk s H Cc cl fp) takes0 (hsc s H Cc cl fp) k3).d) (i2 _)) fun D σ H ⟨O, ε, sr, q⟩ => ?_
          simp only [exS] at q
          obtain ⟨O1, sr1, f1⟩ := sr.frz (E.lc ((ownOf c.N scope).map (·.2)) x1 t it cd).sv
          exact lc_rd k5 ⟨O1, _, sr1.er, sr1.ot, q.rd sr1 fun d _ k v H1 s r => asgG_end sr1 f1 s r k⟩
      · rename_i elt tg iter ifs tg1 iter1 ifs1 scope p2
        obtain ⟨x, h1, h⟩ := bndO h
        obtain ⟨i, hi, h⟩ := bndO h
        cases h
        obtain ⟨ic1, ic2, ic3⟩ := inComp_of hic
        cases n with
        | zero => simp [compE] at h1
        | succ m =>
          obtain ⟨it, t, x1, cd, it1, t1, cd1, k1, k2, k3, k4, k5, k6, k7, k8, k9, hb, rfl⟩ := lc2_of h1
          have E1 := sn (c := c) (φ := φ) (C := C) (k := k) m
          obtain ⟨i1, i2⟩ := E1.i g.g g.tk g.hs k1
          have ok : BlkOk X.N X.env.scope scope (ownOf c.N scope) := by rw [g.g.hN, g.hs]; exact blkOk_by hb
          have blk : ∀ (s : Shared) (H : Hp) (Cc : Addr) (cl : List (Str × Addr)) (fp : List Addr), Good c φ C k (X.blk s H scope (compEnvC scope cl Cc X.env) fp) := fun s H Cc cl fp => g.g.blk s H scope _ fp
          have hsc : ∀ (s : Shared) (H : Hp) (Cc : Addr) (cl : List (Str × Addr)) (fp : List Addr), (X.blk s H scope (compEnvC scope cl Cc X.env) fp).env.scope = relS scope sc := fun s H Cc cl fp => by rw [← g.hs]; rfl
          have tgx : ∀ (s : Shared) (H : Hp) (Cc : Addr) (cl : List (Str × Addr)) (fp : List Addr) (tg : Expr) (t : Pt), compT c scope m tg = some t → PG (X.blk s H scope (compEnvC scope cl Cc X.env) fp) tg (gP X.K t) := fun s H Cc cl fp tg t z => pg_sound (X := X.blk s H scope (compEnvC scope cl Cc X.env) fp) (c := c) g.g.hN g.g.nd g.g.calm (relS_tg s H Cc cl fp rfl) m _ t z
          refine psm (ps_setLc2 (i := i) (vs1 := t1.sl) (g := gP X.K t) (g1 := gP X.K t1) (te := tD X.K φ C W0 x1) (tt := tC X.K φ C W0 cd) (tt1 := tC X.K φ C W0 cd1) (wi1 := tI true X.K φ C W0 it1) g.g.calm g.g.nd (by rw [g.g.hN]; exact slotIx_get hi) (by rw [g.hs]; exact ic1) (sw_true g.fn (by rw [g.hs]; exact ic1) ic2 ic3) (i1 _) ok (isin_of k9)
            (fun s H Cc cl fp => tgx s H Cc cl fp _ _ k2) (fun s H Cc cl fp => E1.cd (blk s H Cc cl fp) takes0 (hsc s H Cc cl fp) k4)
            (fun s H Cc cl fp => (E1.i (blk s H Cc cl fp) takes0 (hsc s H Cc cl fp) k5).1 _) (fun s H Cc cl fp => tgx s H Cc cl fp _ _ k6) (fun s H Cc cl fp => E1.cd (blk s H Cc cl fp) takes0 (hsc s H Cc cl fp) k7)
            (fun s H Cc cl fp => (E1.e (blk s H Cc cl fp) takes0 (hsc s H Cc cl fp) k3).d) (i2 _) (compI_fold k5)) fun D σ H ⟨O, ε, sr, q⟩ => ?_
          simp only [exS] at q
          obtain ⟨O1, sr1, f1⟩ := sr.frz (E.lc2 ((ownOf c.N scope).map (·.2)) t1.sl x1 t it cd t1 it1 cd1).sv
          exact lc2_rd k8 k9 ⟨O1, _, sr1.er, sr1.ot, q.rd sr1 fun d _ k v H1 s r => asgG_end sr1 f1 s r k⟩
      · cases h
    · rename_i hic
      have hic := (Bool.not_eq_true _).mp hic
      split at h
      · cases h
      · cases h
      · rename_i n1 n2
        obtain ⟨x, h1, h⟩ := bndO h
        obtain ⟨t, h2, h⟩ := bndO h
        obtain ⟨i, rfl, hi, hl⟩ := nm_of h2
        obtain ⟨l1, l2⟩ := loc_of g hl
        have se := E0.e g.g g.tk g.hs h1
        have sw : swapsWith e (some (.Name y py)) pos.line X.env = pure false := sw_name g.hs g.fn (fun a b c d f z => n1 a b c d f z) (fun a b c d z => n2 a b c d z) hic
        injection h with h
        subst h
        by_cases hf : (frE x && c.fr y) = true
        · rw [hf]
          exact s_asgF g.g.nd (by rw [g.g.hN]; exact slotIx_get hi) l1 l2 (se.f (Bool.and_eq_true_iff.mp hf).1) sw
        · rw [(Bool.not_eq_true _).mp hf]
          exact s_asg se.d (pg_sound g.g.hN g.g.nd g.g.calm g.tg n _ _ h2) sw rfl rfl
  · -- (..) = e
    rename_i ts kk tp e pos
    split at h
    · rename_i hnc
      split at h
      · rename_i hsw
        obtain ⟨x, h1, h⟩ := bndO h
        obtain ⟨t, h2, h⟩ := bndO h
        cases h
        exact s_asg (E0.e g.g g.tk g.hs h1).d (pg_sound g.g.hN g.g.nd g.g.calm g.tg n _ _ h2) (sw_tup (env := X.env) (l := pos.line) (ts := ts) (k := kk) (p := tp) (e := e)) (sw_st g.hs g.fn hsw) rfl
      · rename_i x y hsw
        split at h
        · rename_i x' p1 y' p2 a b k2 p3
          split at h
          · rename_i cnd
            simp only [Bool.and_eq_true, decide_eq_true_eq] at cnd
            obtain ⟨⟨⟨⟨e1, e2⟩, ne⟩, l1⟩, l2⟩ := cnd
            subst e1 e2
            obtain ⟨i, h1, h⟩ := bndO h
            obtain ⟨j, h2, h⟩ := bndO h
            obtain ⟨a', h3, h⟩ := bndO h
            obtain ⟨b', h4, h⟩ := bndO h
            split at h
            · rename_i lo
              simp only [Bool.and_eq_true, decide_eq_true_eq] at lo
              cases h
              have hi : X.N[i]? = some x' := by rw [g.g.hN]; exact slotIx_get h1
              have hj : X.N[j]? = some y' := by rw [g.g.hN]; exact slotIx_get h2
              refine s_par g.g.calm g.g.nd hi hj (fun z => ?_) ((g.tg _).1 lo.1) ((g.tg _).1 lo.2) (s_cons (E0.e g.g g.tk g.hs h3).d (s_cons (E0.e g.g g.tk g.hs h4).d s_nil (starCons l2)) (starCons l1)) (sw_st g.hs g.fn hsw)
              subst z
              rw [hi] at hj; cases hj; exact ne rfl
            · cases h
          · cases h
        · cases h
      · cases h
    · cases h
  · -- +=
    rename_i x p1 e pos
    split at h
    · rename_i lo
      simp only [Bool.or_eq_true, decide_eq_true_eq] at lo
      obtain ⟨i, h1, h⟩ := bndO h
      obtain ⟨x, h2, h⟩ := bndO h
      cases h
      obtain ⟨l1, l2⟩ := loc_of g lo
      refine s_aug g.g.nd (by rw [g.g.hN]; exact slotIx_get h1) l1 l2 (E0.e g.g g.tk g.hs h2).w ip_add fun d1 d2 n hb => ?_
      cases d1 <;> cases d2 <;> first | (cases hb; exact ⟨_, _, rfl, rfl, rfl⟩) | (simp only [binD] at hb; split at hb <;> cases hb; done) | (cases hb; done)
    · cases h
  · rename_i x p1 e pos
    split at h
    · rename_i lo
      simp only [Bool.or_eq_true, decide_eq_true_eq] at lo
      obtain ⟨i, h1, h⟩ := bndO h
      obtain ⟨x, h2, h⟩ := bndO h
      cases h
      obtain ⟨l1, l2⟩ := loc_of g lo
      refine s_aug g.g.nd (by rw [g.g.hN]; exact slotIx_get h1) l1 l2 (E0.e g.g g.tk g.hs h2).w ip_sub fun d1 d2 n hb => ?_
      cases d1 <;> cases d2 <;> first | (cases hb; exact ⟨_, _, rfl, rfl, rfl⟩) | (cases hb; done)
    · cases h
  · -- x.append(e)
    split at h
    · rename_i cnd
      simp only [Bool.and_eq_true, decide_eq_true_eq] at cnd
      obtain ⟨i, h1, h⟩ := bndO h
      obtain ⟨v, h2, h⟩ := bndO h
      cases h
      obtain ⟨q1, q2⟩ := slot_of g.g.hN g.hs h1
      exact s_app q1 q2 (by simpa using cnd.1.1.1) (by simpa using cnd.1.1.2) (E0.e g.g g.tk g.hs h2).d cnd.1.2 cnd.2
    · cases h
  · cases h; exact s_doc
  · obtain ⟨x, h2, h⟩ := bndO h
    cases h
    exact s_drop (E0.e g.g g.tk g.hs h2).d rfl
  · cases h; exact s_stuck
  · cases h
theorem smA : ∀ n, SM c φ C k n
  | 0 => ⟨fun _ h => by simp [compS] at h, fun _ h => by simp [compSs] at h⟩
  | n + 1 => ⟨fun g h => sm_s (smA n) g h, fun g h => sm_ss (smA n) g h⟩
end
end Ws

set_option Elab.async false
set_option linter.all false
set_option maxRecDepth 100000
set_option maxHeartbeats 4000000
/-! Sim20: the defs keep what the pure language says -/
namespace Ws
open PySem PySem.Spec PyProof.Rows L2

theorem call_len {fs : List Fn} {k i : Nat} {ds : List D} (h : call fs k i ds ≠ .st) : ∃ f, fs[i]? = some f ∧ ds.length = f.np := by
  cases k with
  | zero => exact absurd rfl h
  | succ k =>
    unfold call at h
    cases e : fs[i]? with
    | none => rw [e] at h; exact absurd rfl h
    | some f =>
      rw [e] at h
      refine ⟨f, rfl, ?_⟩
      by_cases z : ds.length = f.np
      · exact z
      · exfalso; apply h; show run _ f ds = _; unfold run; rw [if_neg z]

/-- what is known of a program's defs, whatever the level -/
structure Defs (P : Program) (w : World) (K : PySem.W.Frag) (mg : Str → Option Value) (c0 : Cfg) (fs : List Fn) : Prop where
  fn : ∀ (i : Nat) (x : Str), c0.fns[i]? = some x → ∃ (f : Addr) (fd : FuncData) (N ps : List Str) (qual : Str) (params : Arguments) (body : List Stmt) (scope : Scope) (b : List S) (n : Nat), mg x = some (.ref f) ∧ FunD K x qual params body scope [] [] f fd ∧ FnScope N ps scope ∧ Binds K fd ps [] ∧
    compSs { c0 with N := N } scope n body = some b ∧ fs[i]? = some ⟨ps.length, b, N.length⟩
  cs : ∀ x d, c0.cs.lookup x = some d → ∃ u v, mg x = some u ∧ RelV v u ∧ ∀ O H, Rp K O H v d
  bl : ∀ x, x ∈ c0.bl → mg x = none
  gcd : c0.gcd = true → mg "gcd" = some (.builtin "math.gcd")
  tabs : ∀ T kvs, c0.tabs.lookup T = some kvs → TabIs K w mg T kvs
/-- the def at level k -/
def FnAt (P : Program) (w : World) (K : PySem.W.Frag) (mg : Str → Option Value) (base : Heap) (fs : List Fn) (C : Addr) (k i : Nat) (x : Str) : Prop :=
  ∃ f fd ps, mg x = some (.ref f) ∧ PySem.W.keepIn K (.ref f) = true ∧ Binds K fd ps [] ∧ FnOk P w K mg base (L2.CX P w) (3 * k) f fd ps (spD K (call fs k) C i ps.length) ∧ (∀ ds, call fs k i ds ≠ .st → ds.length = ps.length)
theorem start_er {K : PySem.W.Frag} {O : Ow} {H : Hp} {N : List Str} {vs : List V} {ds : List D} (r : Rps K O H vs ds) : ER K O H (L2.start N vs) (ds.map .f ++ List.replicate (N.length - ds.length) .u) := by
  have hl := r.length
  refine ⟨by simp only [L2.start, List.length_append, List.length_map, List.length_replicate]; omega, fun i s e => ?_⟩
  by_cases lt : i < ds.length
  · rw [List.getElem?_append_left (by simpa using lt), List.getElem?_map] at e
    have hd : ds[i]? = some ds[i] := List.getElem?_eq_getElem lt
    rw [hd] at e
    cases e
    obtain ⟨v, h1, h2⟩ := r.get hd
    refine ⟨v, ?_, h2⟩
    unfold L2.start
    rw [List.getElem?_append_left (by rw [List.length_map, hl]; exact lt), List.getElem?_map, h1]
    rfl
  · rw [List.getElem?_append_right (by simpa using lt)] at e
    rw [List.getElem?_replicate] at e
    split at e
    · cases e; trivial
    · cases e
theorem start_no {α : Prop} {ds : List D} {n i : Nat} {d : D} (e : (ds.map Sl.f ++ List.replicate n Sl.u)[i]? = some (.o d)) : α := by
  exfalso
  have m := List.mem_of_getElem? e
  rw [List.mem_append] at m
  rcases m with m | m
  · rw [List.mem_map] at m
    obtain ⟨_, _, z⟩ := m
    cases z
  · have := List.eq_of_mem_replicate m
    cases this
theorem start_sr {X : Cx} {O0 : Ow} {N : List Str} {vs : List V} {ds : List D} (ot : OT O0 X.H_0) (r : Rps X.K O0 X.H_0 vs ds) : SR X O0 O0 X.H_0 (L2.start N vs) (ds.map .f ++ List.replicate (N.length - ds.length) .u) :=
  ⟨start_er r, ot, fun i d e => start_no (ds := ds) (n := N.length - ds.length) e, Same.refl _, fun _ _ _ => rfl, ot⟩
section
variable {P : Program} {w : World} {K : PySem.W.Frag} {mg : Str → Option Value} {base : Heap} {c0 : Cfg} {fs : List Fn} {C : Addr}
theorem fn_zero {f : Addr} {fd : FuncData} {N ps : List Str} {x qual : Str} {params : Arguments} {body : List Stmt} {scope : Scope} {i : Nat} (F : FunD K x qual params body scope [] [] f fd) (S : FnScope N ps scope) : FnOk P w K mg base (L2.CX P w) 0 f fd ps (spD K (call fs 0) C i ps.length) := by
  refine ⟨?_, ?_⟩
  · rintro vs H Q E ⟨O, ds, ot, r, hl, m⟩; exact hl
  · rintro A outer s H args us vs Q E hr e0 hb rv ⟨O, ds, ot, r, hl, m⟩; exact m.elim
theorem fn_succ (h : Defs P w K mg c0 fs) {k : Nat} (ih : ∀ (i : Nat) (x : Str), c0.fns[i]? = some x → FnAt P w K mg base fs C k i x)
    {f : Addr} {fd : FuncData} {N ps : List Str} {x qual : Str} {params : Arguments} {body : List Stmt} {scope : Scope} {b : List S} {n i : Nat} (F : FunD K x qual params body scope [] [] f fd) (S : FnScope N ps scope)
    (hc : compSs { c0 with N := N } scope n body = some b) (hf : fs[i]? = some ⟨ps.length, b, N.length⟩) : FnOk P w K mg base (L2.CX P w) (3 * (k + 1)) f fd ps (spD K (call fs (k + 1)) C i ps.length) := by
  show FnOk P w K mg base (L2.CX P w) (3 * k + 2 + 1) f fd ps (spD K (call fs (k + 1)) C i ps.length)
  refine F.ok S (fun vs H Q E z => ?_) fun cdv A outer s H vs Q E hr z => ?_
  · obtain ⟨O, ds, ot, r, hl, m⟩ := z; exact hl
  · obtain ⟨O0, ds, ot, r, hl, m⟩ := z
    generalize hX : cxOf (L2.CX P w) P w K mg base N qual scope f cdv A outer s H E = X
    have g : GS { c0 with N := N } (call fs k) C k X scope E := by
      subst hX
      exact ⟨⟨rfl, S.nd, rfl, hr, fun j y hj => ih j y hj, h.cs, h.bl, h.gcd, h.tabs⟩, takes_of rfl rfl rfl (E₁ := fun e' s'' => L2.CX P w outer H s E e' s'') rfl, passes_of (K := fun e s'' => L2.CX P w outer H s E e s'') (E₁ := fun e' s'' => L2.CX P w outer H s E e' s'') rfl, rfl, fun y => ⟨fun e => e, fun e => ⟨e, rfl⟩⟩, S.kind⟩
    refine ⟨tSt X C O0 E (exSs (call fs k) b), (smA n).ss g hc, O0, _, (?_ : SR X O0 O0 H (L2.start N vs) (ds.map .f ++ List.replicate (N.length - ds.length) .u)), ?_⟩
    · subst hX
      exact start_sr (X := cxOf (L2.CX P w) P w K mg base N qual scope f cdv A outer s H E) ot r
    · have hH : X.H_0 = H := by subst hX; rfl
      have hK : X.K = K := by subst hX; rfl
      have hl' : ds.length = ps.length := by rw [← r.length]; exact hl
      have m' := m
      unfold call at m'
      rw [hf] at m'
      simp only [run] at m'
      rw [if_pos hl', ← hl'] at m'
      cases e : exSs (call fs k) b (ds.map .f ++ List.replicate (N.length - ds.length) .u) with
      | st => rw [e] at m'; exact m'.elim
      | ex d =>
        rw [e] at m'
        intro dx v H' s1 a1 r1
        rw [hH] at s1
        rw [hK] at r1
        exact m' dx v H' s1 a1 r1
      | ok p =>
        obtain ⟨fl, ε'⟩ := p
        rw [e] at m'
        cases fl with
        | nx =>
          intro O' σ' H' sr f'
          have s1 := sr.sm
          rw [hH] at s1
          exact m' .non H' s1 .non
        | rt d =>
          intro v H' s1 r1
          rw [hH] at s1
          rw [hK] at r1
          exact m' v H' s1 r1
        | br => exact m'.elim
        | ct => exact m'.elim
theorem fn_all (h : Defs P w K mg c0 fs) : ∀ (k i : Nat) (x : Str), c0.fns[i]? = some x → FnAt P w K mg base fs C k i x
  | 0, i, x, hi => by
    obtain ⟨f, fd, N, ps, qual, params, body, scope, b, n, hm, F, S, B, hc, hf⟩ := h.fn i x hi
    exact ⟨f, fd, ps, hm, F.kp, B, fn_zero F S, fun ds z => absurd rfl z⟩
  | k + 1, i, x, hi => by
    have ih := fn_all h k
    obtain ⟨f, fd, N, ps, qual, params, body, scope, b, n, hm, F, S, B, hc, hf⟩ := h.fn i x hi
    refine ⟨f, fd, ps, hm, F.kp, B, fn_succ h ih F S hc hf, fun ds z => ?_⟩
    obtain ⟨f', h1, h2⟩ := call_len z
    rw [hf] at h1
    cases h1
    exact h2
theorem fn_top (h : Defs P w K mg c0 fs) {k : Nat} {f : Addr} {fd : FuncData} {N ps : List Str} {x qual : Str} {params : Arguments} {body : List Stmt} {scope : Scope} {b : List S} {n i : Nat} (F : FunD K x qual params body scope [] [] f fd) (S : FnScope N ps scope)
    (hc : compSs { c0 with N := N } scope n body = some b) (hf : fs[i]? = some ⟨ps.length, b, N.length⟩) : FnOk P w K mg base (L2.CX P w) (3 * (k + 1)) f fd ps (spD K (call fs (k + 1)) C i ps.length) := fn_succ h (fn_all h k) F S hc hf
end

/-! ### a law's end -/
/-- an exception of any world -/
def CXa (P : Program) : CXT := fun outer H s E e s' => ∃ w, L2.CX P w outer H s E e s'
theorem FnOk.any {P : Program} {w : World} {K : PySem.W.Frag} {mg : Str → Option Value} {base : Heap} {k : Nat} {f : Addr} {fd : FuncData} {ps : List Str} {sp : Sp} (F : FnOk P w K mg base (L2.CX P w) k f fd ps sp) : FnOk P w K mg base (CXa P) k f fd ps sp :=
  ⟨F.len, fun A outer s H args us vs Q E hr e0 hb rv h => codeAny_mono (F.run A outer s H args us vs Q E hr e0 hb rv h) fun r s' q => by
    cases r with
    | error e => exact ⟨w, q⟩
    | ok fl => cases fl <;> exact q⟩
theorem ints_rps {K : PySem.W.Frag} {O : Ow} {H : Hp} : ∀ ns : List Int, Rps K O H (ns.map V.int) (ns.map .int)
  | [] => .nil
  | n :: ns => .cons (.int n) (ints_rps ns)
/-- the law's def: what the pure language says of every script is True -/
theorem law_sp {K : PySem.W.Frag} {fs : List Fn} {C : Addr} {k i n : Nat} {H : Hp} {a : Addr} {ns : List Int} (hl : ns.length ≤ n) (hn : n ≤ sizeLine) (hS : SqL K H a (ns.map V.int)) (h : call fs k i [.list (ns.map .int)] = .ok (.bool true)) :
    spD K (call fs k) C i 1 [.ref a] H (fun v _ => v = .bl true) fun _ _ _ => False := by
  refine ⟨fun _ => none, [.list (ns.map .int)], fun a i e => (by cases e), .cons (.lst (.of hS rfl) (by rw [List.length_map]; omega) (ints_rps ns)) .nil, rfl, ?_⟩
  rw [h]
  intro v H' s r
  cases r; rfl
theorem cxa_end {P : Program} : ∀ (H : Hp) (s : Shared) (e : Value) (s' : Shared), CXa P [] H s (fun _ _ _ => False) e s' → False := fun H s e s' ⟨w, c⟩ => by
  obtain ⟨_, _, _, _, _, _, _, _, _, _, _, _, z⟩ := c
  exact z
end Ws

set_option Elab.async false
set_option linter.all false
set_option maxRecDepth 100000
set_option maxHeartbeats 4000000
/-! Sim21: rows for walking through the pure language -/
namespace Ws
open PySem

theorem call_at {fs : List Fn} {k i : Nat} {f : Fn} {ds : List D} (h : fs[i]? = some f) (hl : ds.length = f.np) : call fs (k + 1) i ds = (exSs (call fs k) f.body (ds.map .f ++ List.replicate (f.n - f.np) .u)).bnd retv := by
  show (match fs[i]? with | some f => run (call fs k) f ds | none => .st) = _
  rw [h]
  show run _ f ds = _
  unfold run
  rw [if_pos hl]
theorem dataLt_int (a b : Int) : PySem.W.dataLt (.int a) (.int b) = decide (a < b) := by
  unfold PySem.W.dataLt
  simp only [PySem.W.keyToks]
  by_cases h : a = b
  · subst h
    simp only [PyProof.Rows.lexLt]
    simp [PyProof.Rows.itemOrd, PyProof.Rows.itemLt]
  · simp only [PyProof.Rows.lexLt]
    simp [PyProof.Rows.itemOrd, PyProof.Rows.itemLt, h]
@[simp] theorem lim_int (n : Nat) (i : Int) : lim n (.int i) = true := by cases n <;> rfl
@[simp] theorem lim_bool (n : Nat) (i : Bool) : lim n (.bool i) = true := by cases n <;> rfl
@[simp] theorem lim_none (n : Nat) : lim n .none = true := by cases n <;> rfl
@[simp] theorem lim_str (n : Nat) (i : Str) : lim n (.str i) = true := by cases n <;> rfl
theorem ltB_int (a b : Int) : ltB (.int a) (.int b) = .ok (.bool (decide (a < b))) := by
  unfold ltB cmpOk
  simp [PySem.W.alike, isNone, dataLt_int]
@[simp] theorem cmp_lt (a b : Int) : cmpD .lt (.int a) (.int b) = .ok (.bool (decide (a < b))) := ltB_int a b
@[simp] theorem cmp_gt (a b : Int) : cmpD .gt (.int a) (.int b) = .ok (.bool (decide (b < a))) := ltB_int b a
@[simp] theorem cmp_le (a b : Int) : cmpD .le (.int a) (.int b) = .ok (.bool (decide (a ≤ b))) := by
  show notD (ltB (.int b) (.int a)) = _
  rw [ltB_int]
  show Rs.ok (PyData.bool (!decide (b < a))) = _
  congr 2
  by_cases h : a ≤ b <;> simp [h] <;> omega
@[simp] theorem cmp_ge (a b : Int) : cmpD .ge (.int a) (.int b) = .ok (.bool (decide (b ≤ a))) := cmp_le b a
theorem eqD_int (a b : Int) : eqD (.int a) (.int b) = .ok (.bool (decide (a = b))) := by
  unfold eqD
  simp [PyData.eqv]
  rfl
/-- a list or a tuple -/
def sq (t : Bool) (xs : List D) : D := if t then .tuple xs else .list xs
@[simp] theorem len_sq (t : Bool) (xs : List D) : biD .len [sq t xs] = .ok (.int xs.length) := by cases t <;> rfl
@[simp] theorem seqD_sq (t : Bool) (xs : List D) : seqD (sq t xs) = .ok xs := by cases t <;> rfl
@[simp] theorem seqD2_sq (t : Bool) (xs : List D) : seqD2 (sq t xs) = .ok xs := by cases t <;> rfl
@[simp] theorem idx_sq (t : Bool) (xs : List D) (i : Int) : idxD (sq t xs) (.int i) = Rs.of (ixD xs i) := by cases t <;> rfl
@[simp] theorem truth_bool (b : Bool) : truth (.bool b) = b := rfl
theorem lcL_map {α : Type} {turn : D → Rs (List D)} {enc f : α → D} : ∀ {l : List α}, (∀ a ∈ l, turn (enc a) = .ok [f a]) → lcL turn (l.map enc) = .ok (l.map f)
  | [], _ => rfl
  | a :: l, h => by
    rw [List.map_cons, lcL, h a List.mem_cons_self, lcL_map fun b hb => h b (List.mem_cons_of_mem _ hb)]
    rfl
theorem lcL_flat {α : Type} {turn : D → Rs (List D)} {enc : α → D} {f : α → List D} : ∀ {l : List α}, (∀ a ∈ l, turn (enc a) = .ok (f a)) → lcL turn (l.map enc) = .ok (l.flatMap f)
  | [], _ => rfl
  | a :: l, h => by
    rw [List.map_cons, lcL, h a List.mem_cons_self, lcL_flat fun b hb => h b (List.mem_cons_of_mem _ hb)]
    rfl
theorem bolsD_map {α : Type} {p : α → Bool} : ∀ {l : List α}, bolsD (l.map fun a => .bool (p a)) = some (l.map p)
  | [] => rfl
  | a :: l => by
    have ih := bolsD_map (p := p) (l := l)
    unfold bolsD at ih ⊢
    rw [List.map_cons, List.mapM_cons, ih]; rfl
@[simp] theorem all_map {α : Type} {p : α → Bool} {l : List α} : biD .all [.list (l.map fun a => .bool (p a))] = .ok (.bool (l.all p)) := by
  show (Rs.of (bolsD _)).bnd _ = _
  rw [bolsD_map]
  show Rs.ok (PyData.bool ((l.map p).any id |> fun _ => (l.map p).all id)) = _
  rw [List.all_map]; rfl
@[simp] theorem any_map' {α : Type} {p : α → Bool} {l : List α} : biD .any [.list (l.map fun a => .bool (p a))] = .ok (.bool (l.any p)) := by
  show (Rs.of (bolsD _)).bnd _ = _
  rw [bolsD_map]
  show Rs.ok (PyData.bool ((l.map p).any id)) = _
  rw [List.any_map]; rfl
theorem intsD_map {α : Type} {p : α → Int} : ∀ {l : List α}, intsD (l.map fun a => .int (p a)) = some (l.map p)
  | [] => rfl
  | a :: l => by
    have ih := intsD_map (p := p) (l := l)
    unfold intsD at ih ⊢
    rw [List.map_cons, List.mapM_cons, ih]; rfl
@[simp] theorem sum_map' {α : Type} {p : α → Int} {l : List α} : biD .sum [.list (l.map fun a => .int (p a))] = .ok (.int (l.map p).sum) := by
  show (Rs.of (intsD _)).bnd _ = _
  rw [intsD_map]; rfl
theorem rngL_eq (lo : Int) (n : Nat) : rngL lo n = (List.range n).map fun i => .int (lo + (i : Nat)) := rfl
theorem rngD_ok {lo hi : Int} {n : Nat} (hn : hi = lo + n) (h1 : -(2 ^ 62) ≤ lo) (h2 : hi < 2 ^ 62) (h3 : n ≤ LIM) : rngD lo hi = .ok ((List.range n).map fun i => .int (lo + (i : Nat))) := by
  unfold rngD
  have e : (hi - lo).toNat = n := by omega
  rw [if_pos ⟨h1, by omega, by omega, h2, by omega⟩, e]; rfl
theorem cut_nat {α : Type} {xs : List α} {i j : Nat} (hi : i ≤ xs.length) (hj : j ≤ xs.length) : cutD xs (some (i : Int)) (some (j : Int)) = (xs.drop i).take (j - i) := by
  unfold cutD HT.sIx
  simp only
  rw [if_neg (by omega), if_neg (by omega), Int.toNat_natCast, Int.toNat_natCast, Nat.min_eq_left hi, Nat.min_eq_left hj]
@[simp] theorem sli_sq (q : Bool) (xs : List D) (lo hi : Option Int) : sliD (sq q xs) lo hi = .ok (sq q (cutD xs lo hi)) := by cases q <;> rfl
theorem cut_map {α β : Type} (f : α → β) (xs : List α) (lo hi : Option Int) : cutD (xs.map f) lo hi = (cutD xs lo hi).map f := by
  unfold cutD
  rw [List.length_map, List.map_take, List.map_drop]
/-- a slot that a new list or tuple stands in -/
def slq (q : Bool) (xs : List D) : Sl := if q then .f (.tuple xs) else .o (.list xs)
@[simp high] theorem putF_sq (ε : Env) (i : Nat) (q : Bool) (xs : List D) : putF ε (.nm i) (sq q xs) true = .ok (ε.set i (slq q xs)) := by cases q <;> rfl
@[simp] theorem frz_slq (q : Bool) (xs : List D) : frzS (slq q xs) = .f (sq q xs) := by cases q <;> rfl
@[simp] theorem putF_f (ε : Env) (t : Pt) (d : D) : putF ε t d false = bnd t d ε := rfl
@[simp] theorem putF_l (ε : Env) (i : Nat) (xs : List D) : putF ε (.nm i) (.list xs) true = .ok (ε.set i (.o (.list xs))) := rfl
@[simp] theorem putF_d (ε : Env) (i : Nat) (xs : List (D × D)) : putF ε (.nm i) (.dict xs) true = .ok (ε.set i (.o (.dict xs))) := rfl
@[simp] theorem putF_i (ε : Env) (i : Nat) (n : Int) : putF ε (.nm i) (.int n) true = .ok (ε.set i (.f (.int n))) := rfl
@[simp] theorem putF_b (ε : Env) (i : Nat) (n : Bool) : putF ε (.nm i) (.bool n) true = .ok (ε.set i (.f (.bool n))) := rfl
@[simp] theorem putF_s (ε : Env) (i : Nat) (n : Str) : putF ε (.nm i) (.str n) true = .ok (ε.set i (.f (.str n))) := rfl
@[simp] theorem putF_t (ε : Env) (i : Nat) (n : List D) : putF ε (.nm i) (.tuple n) true = .ok (ε.set i (.f (.tuple n))) := rfl
@[simp] theorem putF_n (ε : Env) (i : Nat) : putF ε (.nm i) .none true = .ok (ε.set i (.f .none)) := rfl
@[simp] theorem frz_o (d : D) : frzS (.o d) = .f d := rfl
@[simp] theorem frz_f (d : D) : frzS (.f d) = .f d := rfl
@[simp] theorem frz_u : frzS .u = .u := rfl
/-- a loop that looks for the first and returns -/
theorem exFor_find {α : Type} {enc : α → D} {step : D → Env → Rs (Fl × Env)} {p : α → Bool} {r : α → D} {I : Env → Prop} : ∀ {l : List α} {ε : Env}, I ε → (∀ a ∈ l, ∀ ε, I ε → ∃ ε', I ε' ∧ step (enc a) ε = .ok (if p a = true then .rt (r a) else .nx, ε')) →
    ∃ ε', I ε' ∧ exFor step (l.map enc) ε = .ok ((match l.find? p with | some a => .rt (r a) | none => .nx), ε')
  | [], ε, hi, _ => ⟨ε, hi, rfl⟩
  | a :: l, ε, hi, h => by
    obtain ⟨ε1, i1, e1⟩ := h a List.mem_cons_self ε hi
    rw [List.map_cons, exFor, e1, List.find?_cons]
    cases hp : p a with
    | true => exact ⟨ε1, i1, rfl⟩
    | false =>
      obtain ⟨ε2, i2, e2⟩ := exFor_find (l := l) i1 fun b hb => h b (List.mem_cons_of_mem _ hb)
      exact ⟨ε2, i2, e2⟩
/-- a loop that goes through -/
theorem exFor_fold {α β : Type} {enc : α → D} {step : D → Env → Rs (Fl × Env)} {f : β → α → β} {I : β → Env → Prop} : ∀ {l : List α} {b : β} {ε : Env}, I b ε → (∀ a ∈ l, ∀ b ε, I b ε → ∃ ε', I (f b a) ε' ∧ step (enc a) ε = .ok (.nx, ε')) →
    ∃ ε', I (l.foldl f b) ε' ∧ exFor step (l.map enc) ε = .ok (.nx, ε')
  | [], b, ε, hi, _ => ⟨ε, hi, rfl⟩
  | a :: l, b, ε, hi, h => by
    obtain ⟨ε1, i1, e1⟩ := h a List.mem_cons_self b ε hi
    obtain ⟨ε2, i2, e2⟩ := exFor_fold (l := l) i1 fun c hc => h c (List.mem_cons_of_mem _ hc)
    refine ⟨ε2, i2, ?_⟩
    rw [List.map_cons, exFor, e1]
    exact e2
def forStep (φ : Nat → List D → Rs D) (t : Pt) (body : List S) (x : D) (ε : Env) : Rs (Fl × Env) := (bnd t x ε).bnd fun ε' => exSs φ body ε'
section
variable (φ : Nat → List D → Rs D) (t : Pt) (it : It) (body a b : List S) (lk : List Nat) (ε : Env) (e e1 e2 : E) (fr : Bool) (i j : Nat) (o : Op2)
@[simp] theorem exS_for : exS φ (.for_ t it body lk) ε = (evi φ it (frzE ε lk)).bnd fun ds => exFor (forStep φ t body) ds (frzE ε lk) := by
  simp only [exS]
  rfl
@[simp] theorem exS_asg : exS φ (.asg t e fr lk) ε = (ev φ e (frzE ε lk)).bnd fun d => (putF (frzE ε lk) t d fr).bnd fun ε' => .ok (.nx, ε') := by simp only [exS]
@[simp] theorem exS_par : exS φ (.par i j e1 e2 lk) ε = (ev φ e1 (frzE ε lk)).bnd fun x => (ev φ e2 (frzE ε lk)).bnd fun y => .ok (.nx, put (put (frzE ε lk) i x) j y) := by simp only [exS]
@[simp] theorem exS_seti : exS φ (.seti i e1 e2 lk) ε = (ev φ e2 (frzE ε lk)).bnd fun v => (own (frzE ε lk) i).bnd fun d => (ev φ e1 (frzE ε lk)).bnd fun k => (setD d k v).bnd fun d' => .ok (.nx, puto (frzE ε lk) i d') := by simp only [exS]
@[simp] theorem exS_app : exS φ (.app i e lk) ε = (own (frzE ε lk) i).bnd fun d => (lstD d).bnd fun xs => (ev φ e (frzE ε lk)).bnd fun v => if xs.length < LIM then .ok (.nx, puto (frzE ε lk) i (.list (xs ++ [v]))) else .st := by simp only [exS]
@[simp] theorem exS_ret : exS φ (.ret e) ε = (ev φ e (ε.map frzS)).bnd fun d => .ok (.rt d, ε) := by simp only [exS]
@[simp] theorem exS_retn : exS φ .retn ε = .ok (.rt .none, ε) := by simp only [exS]
@[simp] theorem exS_drop : exS φ (.drop e lk) ε = (ev φ e (frzE ε lk)).bnd fun _ => .ok (.nx, frzE ε lk) := by simp only [exS]
@[simp] theorem exS_iff : exS φ (.iff e a b) ε = (ev φ e (ε.map frzS)).bnd fun x => if truth x then exSs φ a ε else exSs φ b ε := by simp only [exS]
@[simp] theorem exS_brk : exS φ .brk ε = .ok (.br, ε) := by simp only [exS]
@[simp] theorem exS_cont : exS φ .cont ε = .ok (.ct, ε) := by simp only [exS]
@[simp] theorem exS_pass : exS φ .pass ε = .ok (.nx, ε) := by simp only [exS]
@[simp] theorem exS_stuck : exS φ .stuck ε = .st := by simp only [exS]
end
@[simp] theorem bnd_nm1 (i : Nat) (d : D) (ε : Env) : bnd (.nm i) d ε = .ok (ε.set i (.f d)) := by simp only [bnd, put]
@[simp] theorem bnd_tt (ps : List Pt) (ds : List D) (ε : Env) : bnd (.tp ps) (.tuple ds) ε = bnds ps ds ε := by simp only [bnd]
@[simp] theorem bnd_tl (ps : List Pt) (ds : List D) (ε : Env) : bnd (.tp ps) (.list ds) ε = bnds ps ds ε := by simp only [bnd]
@[simp] theorem bnd_sq (ps : List Pt) (q : Bool) (ds : List D) (ε : Env) : bnd (.tp ps) (sq q ds) ε = bnds ps ds ε := by cases q <;> simp [sq]
@[simp] theorem bnds_n (ε : Env) : bnds [] [] ε = .ok ε := by simp only [bnds]
@[simp] theorem bnds_c (p : Pt) (ps : List Pt) (d : D) (ds : List D) (ε : Env) : bnds (p :: ps) (d :: ds) ε = (bnd p d ε).bnd fun ε' => bnds ps ds ε' := by simp only [bnds]
@[simp] theorem truth_list (xs : List D) : truth (.list xs) = !xs.isEmpty := rfl
@[simp] theorem truth_tup (xs : List D) : truth (.tuple xs) = !xs.isEmpty := rfl
@[simp] theorem truth_none : truth .none = false := rfl
@[simp] theorem truth_sq (q : Bool) (xs : List D) : truth (sq q xs) = !xs.isEmpty := by cases q <;> rfl
theorem lset_map {α : Type} {f g : α → Int} {l : List α} (h : l.length < 64) : lsetD (.list (l.map fun a => .tuple [.int (f a), .int (g a)])) = .ok (.int (dnum (l.map fun a => [f a, g a]))) := by
  have e : (l.map fun a => PyData.tuple [.int (f a), .int (g a)]).mapM tupI = some (l.map fun a => [f a, g a]) := by
    clear h
    induction l with
    | nil => rfl
    | cons a l ih => rw [List.map_cons, List.mapM_cons, ih]; rfl
  show (if (l.map _).length < 64 then _ else _) = _
  rw [List.length_map, if_pos h, e]; rfl
theorem eqD_int' (a b : Int) : cmpD .eq (.int a) (.int b) = .ok (.bool (decide (a = b))) := eqD_int a b
theorem eqD_str (a b : Str) : cmpD .eq (.str a) (.str b) = .ok (.bool (decide (a = b))) := by
  show eqD _ _ = _
  unfold eqD
  simp [PyData.eqv]
  rfl
@[simp] theorem nmR_ok (x : D) : nmR (.ok x) = if noMut x then .ok x else .st := rfl
/-- a loop that appends one a turn -/
theorem exFor_app {α : Type} {enc g : α → D} {step : D → Env → Rs (Fl × Env)} {N : Nat} {I : List D → Env → Prop} : ∀ {l : List α} {b : List D} {ε : Env}, b.length + l.length ≤ N → I b ε → (∀ a ∈ l, ∀ b ε, b.length < N → I b ε → ∃ ε', I (b ++ [g a]) ε' ∧ step (enc a) ε = .ok (.nx, ε')) →
    ∃ ε', I (b ++ l.map g) ε' ∧ exFor step (l.map enc) ε = .ok (.nx, ε')
  | [], b, ε, _, hi, _ => ⟨ε, by simpa using hi, rfl⟩
  | a :: l, b, ε, hN, hi, h => by
    rw [List.length_cons] at hN
    obtain ⟨ε1, i1, e1⟩ := h a List.mem_cons_self b ε (by omega) hi
    obtain ⟨ε2, i2, e2⟩ := exFor_app (l := l) (b := b ++ [g a]) (by rw [List.length_append, List.length_singleton]; omega) i1 fun c hc => h c (List.mem_cons_of_mem _ hc)
    refine ⟨ε2, by simpa using i2, ?_⟩
    rw [List.map_cons, exFor, e1]
    exact e2
end Ws

set_option Elab.async false
set_option linter.all false
set_option maxRecDepth 100000
set_option maxHeartbeats 4000000
/-! Sim22: the module's constants and tables, looked at -/
namespace Ws
open PySem PySem.Spec PyProof.Rows L2

def atomB (u : Value) : D → Bool
  | .none => He.relB .non u
  | .bool b => He.relB (.bl b) u
  | .int i => He.relB (.int i) u
  | .str x => He.relB (.str x) u && (PyData.strOk x && decide (x.length ≤ sizeLine))
  | _ => false
def all2 (f : Value → D → Bool) : List Value → List D → Bool
  | [], [] => true
  | u :: us, d :: ds => f u d && all2 f us ds
  | _, _ => false
def tupB (f : Value → D → Bool) (o : Option Obj) (ds : List D) : Bool := match o with
  | some ⟨.type c, _, .seq its _, _⟩ => decide (c = "tuple") && (decide (its.size ≤ sizeLine) && all2 f its.toList ds)
  | _ => false
def rpB (K : PySem.W.Frag) : Nat → Value → D → Bool
  | n + 1, .ref a, .tuple ds => tupB (rpB K n) (K.lookup a) ds
  | _, u, d => atomB u d
theorem atomB_ok {K : PySem.W.Frag} {u : Value} {d : D} (h : atomB u d = true) : ∃ v, RelV v u ∧ ∀ O H, Rp K O H v d := by
  cases d with
  | none => exact ⟨.non, He.relB_ok h, fun _ _ => .non⟩
  | bool b => exact ⟨.bl b, He.relB_ok h, fun _ _ => .bl b⟩
  | int i => exact ⟨.int i, He.relB_ok h, fun _ _ => .int i⟩
  | str x =>
    have h : (He.relB (.str x) u && (PyData.strOk x && decide (x.length ≤ sizeLine))) = true := h
    rw [Bool.and_eq_true, Bool.and_eq_true, decide_eq_true_eq] at h
    exact ⟨.str x, He.relB_ok h.1, fun _ _ => .str x h.2.1 h.2.2⟩
  | list _ => cases h
  | tuple _ => cases h
  | dict _ => cases h
theorem all2_ok {K : PySem.W.Frag} {f : Value → D → Bool} (hf : ∀ u d, f u d = true → ∃ v, RelV v u ∧ ∀ O H, Rp K O H v d) : ∀ {us : List Value} {ds : List D}, all2 f us ds = true → ∃ vs, Vals vs us ∧ ∀ O H, Rps K O H vs ds
  | [], [], _ => ⟨[], .nil, fun _ _ => .nil⟩
  | u :: us, d :: ds, h => by
    have h : (f u d && all2 f us ds) = true := h
    rw [Bool.and_eq_true] at h
    obtain ⟨v, a1, a2⟩ := hf u d h.1
    obtain ⟨vs, b1, b2⟩ := all2_ok hf h.2
    exact ⟨v :: vs, .cons a1 b1, fun O H => .cons (a2 O H) (b2 O H)⟩
  | [], _ :: _, h => by cases h
  | _ :: _, [], h => by cases h
theorem tupB_ok {K : PySem.W.Frag} {f : Value → D → Bool} (hf : ∀ u d, f u d = true → ∃ v, RelV v u ∧ ∀ O H, Rp K O H v d) {a : Addr} {ds : List D} (h : tupB f (K.lookup a) ds = true) : ∃ v, RelV v (.ref a) ∧ ∀ O H, Rp K O H v (.tuple ds) := by
  cases q : K.lookup a with
  | none => rw [q] at h; cases h
  | some o =>
    rw [q] at h
    obtain ⟨oc, od, dt, sl⟩ := o
    cases oc with
    | type c =>
      cases dt with
      | seq its m =>
        have h : (decide (c = "tuple") && (decide (its.size ≤ sizeLine) && all2 f its.toList ds)) = true := h
        rw [Bool.and_eq_true, Bool.and_eq_true, decide_eq_true_eq, decide_eq_true_eq] at h
        obtain ⟨rfl, h1, h2⟩ := h
        obtain ⟨vs, r1, r2⟩ := all2_ok hf h2
        refine ⟨.ref a, rfl, fun O H => .tup (.inr ⟨_, its, m, q, rfl, rfl, h1, r1⟩) ?_ (r2 O H)⟩
        rw [Vals.length r1]
        simpa using h1
      | _ => cases h
    | _ => cases h
theorem rpB_ok {K : PySem.W.Frag} : ∀ {n : Nat} (u : Value) (d : D), rpB K n u d = true → ∃ v, RelV v u ∧ ∀ O H, Rp K O H v d := by
  intro n
  induction n with
  | zero => intro u d h; exact atomB_ok h
  | succ n ih =>
    intro u d h
    by_cases c : ∃ a ds, u = .ref a ∧ d = .tuple ds
    · obtain ⟨a, ds, rfl, rfl⟩ := c
      exact tupB_ok ih h
    · have e : rpB K (n + 1) u d = atomB u d := by
        unfold rpB
        split
        · exact absurd ⟨_, _, rfl, rfl⟩ c
        · rfl
      rw [e] at h
      exact atomB_ok h
/-- the constants are these -/
def csB (K : PySem.W.Frag) (cs : List (Str × D)) : Bool := cs.all fun p => match PySem.W.nsIn K mainGlobals p.1 with
  | some (some u) => rpB K 5 u p.2
  | _ => false
theorem csB_ok {K : PySem.W.Frag} {h : Heap} {mg : Str → Option Value} (X : K.In h) (G : h.Ns mainGlobals mg) : ∀ {cs : List (Str × D)}, csB K cs = true → ∀ x d, cs.lookup x = some d → ∃ u v, mg x = some u ∧ RelV v u ∧ ∀ O H, Rp K O H v d
  | [], _, x, d, e => by cases e
  | (y, z) :: cs, h, x, d, e => by
    have h : ((match PySem.W.nsIn K mainGlobals y with
      | some (some u) => rpB K 5 u z
      | _ => false) && csB K cs) = true := h
    rw [Bool.and_eq_true] at h
    rw [List.lookup_cons] at e
    split at e
    · rename_i q
      have q : x = y := by simpa using q
      injection e with e
      subst q e
      have h1 := h.1
      split at h1
      · rename_i u hu
        obtain ⟨v, a1, a2⟩ := rpB_ok _ _ h1
        exact ⟨u, v, PySem.W.mg_of X G hu, a1, a2⟩
      · cases h1
    · exact csB_ok X G h.2 x d e
def esB (K : PySem.W.Frag) : List DictEntry → List (Str × D) → Bool
  | [], [] => true
  | e :: es, (k, d) :: kvs => (match e.key with
    | .str x _ => decide (x = k)
    | _ => false) && (rpB K 5 e.val d && esB K es kvs)
  | _, _ => false
theorem esB_ok {K : PySem.W.Frag} : ∀ {es : List DictEntry} {kvs : List (Str × D)}, esB K es kvs = true → ∀ z : Str,
    (∀ d, tabAt kvs z = some d → ∃ e, es.find? (fun e => e.key.isStr z) = some e ∧ rpB K 5 e.val d = true) ∧ (tabAt kvs z = none → es.find? (fun e => e.key.isStr z) = none ∧ es.any (·.refKey) = false)
  | [], [], _, z => ⟨fun d e => (by cases e), fun _ => ⟨rfl, rfl⟩⟩
  | [], _ :: _, h, _ => by simp [esB] at h
  | _ :: _, [], h, _ => by simp [esB] at h
  | e :: es, (k, d0) :: kvs, h, z => by
    have h : ((match e.key with
    | .str x _ => decide (x = k)
    | _ => false) && (rpB K 5 e.val d0 && esB K es kvs)) = true := h
    rw [Bool.and_eq_true, Bool.and_eq_true] at h
    obtain ⟨h1, h2, h3⟩ := h
    obtain ⟨i1, i2⟩ := esB_ok h3 z
    split at h1
    · rename_i x t q
      have q2 : x = k := by simpa using h1
      subst q2
      have rk : e.refKey = false := by unfold DictEntry.refKey; rw [q]
      have is : e.key.isStr z = (x == z) := by rw [q]; rfl
      by_cases c : x = z
      · subst c
        have t1 : tabAt ((x, d0) :: kvs) x = some d0 := by
          unfold tabAt; rw [List.find?_cons]; simp
        refine ⟨fun d hd => ?_, fun hd => by rw [t1] at hd; cases hd⟩
        rw [t1] at hd
        injection hd with hd
        subst hd
        exact ⟨e, by rw [List.find?_cons, is]; simp, h2⟩
      · have t1 : tabAt ((x, d0) :: kvs) z = tabAt kvs z := by
          unfold tabAt; rw [List.find?_cons]; simp [c]
        have f1 : (e :: es).find? (fun e => e.key.isStr z) = es.find? (fun e => e.key.isStr z) := by
          rw [List.find?_cons, is]
          have : (x == z) = false := by simpa using c
          rw [this]
        rw [t1, f1]
        exact ⟨i1, fun hd => ⟨(i2 hd).1, by rw [List.any_cons, rk, (i2 hd).2]; rfl⟩⟩
    · cases h1
def tabB (K : PySem.W.Frag) (T : Str) (kvs : List (Str × D)) : Bool := eqO' (PySem.W.nsIn K mainGlobals T) && (match K.lookup (He.ga K T) with
  | some ⟨_, _, .dict es _, _⟩ => esB K es.toList kvs
  | _ => false)
where eqO' : Option (Option Value) → Bool := fun o => He.eqO o (some (some (.ref (He.ga K T))))
theorem tab_is {K : PySem.W.Frag} {w : World} {h : Heap} {mg : Str → Option Value} (X : K.In h) (G : h.Ns mainGlobals mg) {T : Str} {kvs : List (Str × D)} {es : Array DictEntry} {n : Nat} (kd : KDict K w (He.ga K T) es n) (c : tabB K T kvs = true) : TabIs K w mg T kvs := by
  unfold tabB at c
  rw [Bool.and_eq_true] at c
  obtain ⟨c1, c2⟩ := c
  have lk := kd.at_
  rw [lk] at c2
  have c2 : esB K es.toList kvs = true := c2
  refine ⟨He.ga K T, es, n, PySem.W.mg_of X G (He.eqO_ok c1), kd, fun z => ?_⟩
  obtain ⟨i1, i2⟩ := esB_ok c2 z
  have nn : ∀ r, es.toList.find? (fun e => e.key.isStr z) = r → PySem.W.nsIn K (He.ga K T) z = (match r with
      | some e => some (some e.val)
      | none => if es.toList.any (·.refKey) then none else some none) := by
    rintro r rfl
    unfold PySem.W.nsIn
    rw [lk]
    rfl
  refine ⟨fun d hd => ?_, fun hd => ?_⟩
  · obtain ⟨e, e1, e2⟩ := i1 d hd
    obtain ⟨v, a1, a2⟩ := rpB_ok _ _ e2
    exact ⟨e.val, v, nn _ e1, a1, a2⟩
  · obtain ⟨e1, e2⟩ := i2 hd
    rw [nn _ e1, e2]; rfl
end Ws

set_option Elab.async false
set_option linter.all false
set_option maxRecDepth 100000
set_option maxHeartbeats 4000000
/-! Sim23: a law from its rows -/
namespace Ws
open PySem PySem.Spec PyProof.Rows L2

/-- a def of the module: its name, its text, its slots, its parameters, what it compiles to -/
structure DRow where
  x : Str
  st : Stmt
  N : List Str
  ps : List Str
  b : List S
def DRow.dd (r : DRow) : He.DefD := ⟨(r.x, none), r.x, r.x, defArgs r.st, defBody r.st, defScope r.st, [], []⟩
def DRow.fn (r : DRow) : Fn := ⟨r.ps.length, r.b, r.N.length⟩
structure DRowOk (c0 : Cfg) (r : DRow) : Prop where
  sc : FnScope r.N r.ps (defScope r.st)
  bs : ∀ (kV doc pm : Value) (an : Option Addr) (cdv ct : Value) (us : List Value), us.length = r.ps.length → bindArgs (PySem.W.fnOf r.x r.x (defArgs r.st) (defBody r.st) (defScope r.st) .none kV doc pm an cdv ct) ⟨us, []⟩ = pure (r.ps.zip us)
  cb : compSs { c0 with N := r.N } (defScope r.st) 200 (defBody r.st) = some r.b
theorem fact_of {fa : List He.Fa} {fn : List He.DefD} {K : PySem.W.Frag} (c : He.SaysD fa fn K) {f : He.Fa} (h : f ∈ fa) : f.ok K = true := by
  obtain ⟨i, hi⟩ := List.getElem?_of_mem h
  exact c.fact i hi
theorem row_def {fa : List He.Fa} {K : PySem.W.Frag} {rows : List DRow} (c : He.SaysD fa (rows.map DRow.dd) K) {i : Nat} {r : DRow} (hi : rows[i]? = some r) : ∃ fd, FunD K r.x r.x (defArgs r.st) (defBody r.st) (defScope r.st) [] [] (He.ga K r.x) fd := by
  obtain ⟨fd, F⟩ := c.def_ i (d := r.dd) (by rw [List.getElem?_map, hi]; rfl)
  exact ⟨fd, F⟩
theorem defs_of {P : Program} {w : World} {K : PySem.W.Frag} {h : Heap} {mg : Str → Option Value} {fa : List He.Fa} {rows : List DRow} {c0 : Cfg} (X : K.In h) (G : h.Ns mainGlobals mg) (c : He.SaysD fa (rows.map DRow.dd) K)
    (hfns : c0.fns = rows.map (·.x)) (ok : ∀ r ∈ rows, DRowOk c0 r) (hglo : ∀ r ∈ rows, He.Fa.glo r.x ∈ fa) (hbl : ∀ x ∈ c0.bl, He.Fa.free x ∈ fa) (hcs : csB K c0.cs = true) (hgcd : c0.gcd = true → mg "gcd" = some (.builtin "math.gcd"))
    (htb : ∀ T kvs, c0.tabs.lookup T = some kvs → TabIs K w mg T kvs) : Defs P w K mg c0 (rows.map DRow.fn) := by
  refine ⟨fun i x hi => ?_, csB_ok X G hcs, fun x hx => He.free_ok X G (fact_of c (hbl x hx)), hgcd, htb⟩
  rw [hfns, List.getElem?_map] at hi
  cases e : rows[i]? with
  | none => rw [e] at hi; cases hi
  | some r =>
    rw [e] at hi
    have hi : r.x = x := by injection hi
    subst hi
    have hr := List.mem_of_getElem? e
    obtain ⟨fd, F⟩ := row_def c e
    exact ⟨_, fd, r.N, r.ps, r.x, _, _, _, r.b, 200, He.glo_ok X G (fact_of c (hglo r hr)), F, (ok r hr).sc, F.bindsN (ok r hr).bs, (ok r hr).cb, by rw [List.getElem?_map, e]; rfl⟩
theorem lk_one {T a : Str} {v kvs : List (Str × D)} (h : List.lookup T [(a, v)] = some kvs) : T = a ∧ v = kvs := by
  rw [List.lookup_cons] at h
  split at h
  · rename_i q
    injection h with h
    exact ⟨by simpa using q, h⟩
  · cases h
/-- the law's def keeps what the pure language says -/
theorem law_of {P : Program} {w : World} {K : PySem.W.Frag} {h : Heap} {mg : Str → Option Value} {fa : List He.Fa} {rows : List DRow} {c0 : Cfg} {fs : List Fn} {i : Nat} {r : DRow} {k : Nat} {p : Str} (X : K.In h) (G : h.Ns mainGlobals mg) (c : He.SaysD fa (rows.map DRow.dd) K)
    (hfns : c0.fns = rows.map (·.x)) (ok : ∀ r ∈ rows, DRowOk c0 r) (hglo : ∀ r ∈ rows, He.Fa.glo r.x ∈ fa) (hbl : ∀ x ∈ c0.bl, He.Fa.free x ∈ fa) (hcs : csB K c0.cs = true) (hgcd : c0.gcd = true → mg "gcd" = some (.builtin "math.gcd"))
    (htb : ∀ T kvs, c0.tabs.lookup T = some kvs → TabIs K w mg T kvs) (hfs : fs = rows.map DRow.fn) (hi : rows[i]? = some r) (hp : r.ps = [p])
    (law : ∀ ns : List Int, ns.length ≤ 63 → call fs (k + 1) i [.list (ns.map .int)] = .ok (.bool true)) :
    ∃ (fd : FuncData) (sp : Sp), mg r.x = some (.ref (He.ga K r.x)) ∧ (∀ (s : Shared) (u : Value), BindsTo s fd ⟨[u], []⟩ [(p, u)]) ∧
      (∀ (H : Hp) (a : Addr) (ns : List Int), ns.length ≤ 63 → Only H → SqL K H a (ns.map V.int) → sp [.ref a] H (fun v _ => v = .bl true) fun _ _ _ => False) ∧
      ∀ base : Heap, K.In base → base.Ns mainGlobals mg → FnOk P w K mg base (CXa P) (3 * (k + 1)) (He.ga K r.x) fd [p] sp := by
  subst hfs
  have hr := List.mem_of_getElem? hi
  obtain ⟨fd, F⟩ := row_def c hi
  have D := defs_of (P := P) (w := w) X G c hfns ok hglo hbl hcs hgcd htb
  refine ⟨fd, spD K (call (rows.map DRow.fn) (k + 1)) 0 i 1, He.glo_ok X G (fact_of c (hglo r hr)), fun s u => ?_, fun H a ns hn _ hS => law_sp hn (by decide) hS (law ns hn), fun base _ _ => ?_⟩
  · have b := F.bindsA (ps := r.ps) (ok r hr).bs s [u] (by rw [hp]; rfl)
    rw [hp] at b
    exact b
  · have := fn_top (base := base) (C := 0) (k := k) (i := i) D F (ok r hr).sc (ok r hr).cb (by rw [List.getElem?_map, hi]; rfl)
    rw [hp] at this
    exact FnOk.any this
end Ws

set_option Elab.async false
set_option linter.all false
set_option maxRecDepth 100000
set_option maxHeartbeats 400000
/-! Sim24: more rows for the pure language -/
namespace Ws
open PySem
theorem exFor_foldN {α β : Type} {enc : α → D} {step : D → Env → Rs (Fl × Env)} {f : β → α → β} {m : β → Nat} {N : Nat} {I : β → Env → Prop} (hm : ∀ b a, m (f b a) ≤ m b + 1) : ∀ {l : List α} {b : β} {ε : Env}, m b + l.length ≤ N → I b ε → (∀ a ∈ l, ∀ b ε, m b < N → I b ε → ∃ ε', I (f b a) ε' ∧ step (enc a) ε = .ok (.nx, ε')) →
    ∃ ε', I (l.foldl f b) ε' ∧ exFor step (l.map enc) ε = .ok (.nx, ε')
  | [], b, ε, _, hi, _ => ⟨ε, hi, rfl⟩
  | a :: l, b, ε, hN, hi, h => by
    rw [List.length_cons] at hN
    obtain ⟨ε1, i1, e1⟩ := h a List.mem_cons_self b ε (by omega) hi
    have := hm b a
    obtain ⟨ε2, i2, e2⟩ := exFor_foldN hm (l := l) (b := f b a) (by omega) i1 fun c hc => h c (List.mem_cons_of_mem _ hc)
    refine ⟨ε2, i2, ?_⟩
    rw [List.map_cons, exFor, e1]
    exact e2
theorem exFor_all {α : Type} {enc : α → D} {step : D → Env → Rs (Fl × Env)} {I : Env → Prop} {l : List α} {ε : Env} (hi : I ε) (h : ∀ a ∈ l, ∀ ε, I ε → ∃ ε', I ε' ∧ step (enc a) ε = .ok (.nx, ε')) :
    ∃ ε', I ε' ∧ exFor step (l.map enc) ε = .ok (.nx, ε') := by
  obtain ⟨ε', h1, h2⟩ := exFor_fold (f := fun (_ : Unit) _ => ()) (I := fun _ ε => I ε) (b := ()) hi fun a ha _ ε i => h a ha ε i
  exact ⟨ε', h1, h2⟩
theorem eqD_bool (a b : Bool) : cmpD .eq (.bool a) (.bool b) = .ok (.bool (decide (a = b))) := by cases a <;> cases b <;> rfl
theorem flat_nil {α β : Type} (l : List α) : l.flatMap (fun _ => ([] : List β)) = [] := by
  induction l with
  | nil => rfl
  | cons a l ih => rw [List.flatMap_cons, ih]; rfl
@[simp] theorem is_none (d : D) : cmpD .is_ d .none = .ok (.bool (isNone d)) := rfl
theorem isn_none (d : D) : cmpD .isn d .none = .ok (.bool (!isNone d)) := rfl
def sm : Nat → D → Bool
  | _, .none => true
  | _, .bool _ => true
  | _, .int _ => true
  | _, .str _ => true
  | n + 1, .tuple xs => decide (xs.length ≤ 1000) && xs.all (sm n)
  | _, _ => false
theorem foldl_len {α : Type} : ∀ (l : List α) (n : Nat), l.foldl (fun m _ => m + 1) n = n + l.length
  | [], n => rfl
  | a :: l, n => by rw [List.foldl_cons, foldl_len l, List.length_cons]; omega
theorem ixD_last {α : Type} (xs : List α) (x : α) : ixD (xs ++ [x]) (-1) = some x := by
  unfold ixD
  rw [if_neg (by omega), if_pos (by rw [List.length_append, List.length_singleton]; omega)]
  rw [show ((-1 : Int) + ((xs ++ [x]).length : Nat)).toNat = xs.length by rw [List.length_append, List.length_singleton]; omega]
  simp
theorem idx_last (xs : List D) (x : D) : idxD (.list (xs ++ [x])) (.int (-1)) = .ok x := by
  show Rs.of (ixD _ _) = _
  rw [ixD_last]; rfl
theorem lim_mono : ∀ (n : Nat) (d : D), lim n d = true → ∀ m, n ≤ m → lim m d = true
  | n, .none, _, m, _ => lim_none m
  | n, .bool b, _, m, _ => lim_bool m b
  | n, .int b, _, m, _ => lim_int m b
  | n, .str b, _, m, _ => lim_str m b
  | 0, .list _, h, _, _ => by simp [lim] at h
  | 0, .tuple _, h, _, _ => by simp [lim] at h
  | 0, .dict _, h, _, _ => by simp [lim] at h
  | n + 1, .dict _, h, _, _ => by simp [lim] at h
  | n + 1, .list xs, h, m + 1, hm => by
    have h : xs.all (lim n) = true := by simpa [lim] using h
    show lim (m + 1) (.list xs) = true
    have : xs.all (lim m) = true := List.all_eq_true.mpr fun x hx => lim_mono n x (List.all_eq_true.mp h x hx) m (by omega)
    simpa [lim] using this
  | n + 1, .tuple xs, h, m + 1, hm => by
    have h : xs.all (lim n) = true := by simpa [lim] using h
    show lim (m + 1) (.tuple xs) = true
    have : xs.all (lim m) = true := List.all_eq_true.mpr fun x hx => lim_mono n x (List.all_eq_true.mp h x hx) m (by omega)
    simpa [lim] using this
  | n + 1, .list _, _, 0, hm => by omega
  | n + 1, .tuple _, _, 0, hm => by omega
theorem cmp_ne_nil : cmpD .ne (.list []) (.list []) = .ok (.bool false) := rfl
theorem insD_map {α β : Type} (f : α → β) (le : β → β → Bool) (x : α) : ∀ l : List α, insD le (f x) (l.map f) = (insD (fun a b => le (f a) (f b)) x l).map f
  | [] => rfl
  | y :: ys => by
    show (if le (f x) (f y) then f x :: f y :: ys.map f else f y :: insD le (f x) (ys.map f)) = _
    rw [insD_map f le x ys]
    show _ = (if le (f x) (f y) then x :: y :: ys else y :: insD (fun a b => le (f a) (f b)) x ys).map f
    split <;> rfl
theorem sortD_map {α β : Type} (f : α → β) (le : β → β → Bool) : ∀ l : List α, sortD le (l.map f) = (sortD (fun a b => le (f a) (f b)) l).map f
  | [] => rfl
  | x :: xs => by
    show insD le (f x) (sortD le (xs.map f)) = (insD (fun a b => le (f a) (f b)) x (sortD (fun a b => le (f a) (f b)) xs)).map f
    rw [sortD_map f le xs, insD_map]
theorem insD_mem {α : Type} {le : α → α → Bool} {x y : α} : ∀ {l : List α}, y ∈ insD le x l → y = x ∨ y ∈ l
  | [], h => by
    have h : y ∈ [x] := h
    exact .inl (by simpa using h)
  | z :: zs, h => by
    have h : y ∈ (if le x z then x :: z :: zs else z :: insD le x zs) := h
    split at h
    · exact List.mem_cons.mp h
    · rcases List.mem_cons.mp h with h | h
      · exact .inr (h ▸ List.mem_cons_self)
      · rcases insD_mem h with h | h
        · exact .inl h
        · exact .inr (List.mem_cons_of_mem _ h)
theorem sortD_mem {α : Type} {le : α → α → Bool} {y : α} : ∀ {l : List α}, y ∈ sortD le l → y ∈ l
  | [], h => h
  | x :: xs, h => by
    rcases insD_mem (l := sortD le xs) h with h | h
    · exact h ▸ List.mem_cons_self
    · exact List.mem_cons_of_mem _ (sortD_mem h)
theorem insD_ne {α : Type} {le : α → α → Bool} {x : α} : ∀ {l : List α}, insD le x l ≠ []
  | [], h => by cases h
  | z :: zs, h => by
    have h : (if le x z then x :: z :: zs else z :: insD le x zs) = [] := h
    split at h <;> cases h
theorem insD_len {α : Type} {le : α → α → Bool} {x : α} : ∀ {l : List α}, (insD le x l).length = l.length + 1
  | [] => rfl
  | z :: zs => by
    show (if le x z then x :: z :: zs else z :: insD le x zs).length = _
    split
    · rfl
    · rw [List.length_cons, insD_len]; rfl
theorem sortD_len {α : Type} {le : α → α → Bool} : ∀ {l : List α}, (sortD le l).length = l.length
  | [] => rfl
  | x :: xs => by
    show (insD le x (sortD le xs)).length = _
    rw [insD_len, sortD_len]; rfl
theorem flat_filter {α β : Type} (p : α → Bool) (f : α → β) : ∀ l : List α, l.flatMap (fun a => if p a = true then [f a] else []) = (l.filter p).map f
  | [] => rfl
  | a :: l => by
    rw [List.flatMap_cons, flat_filter p f l, List.filter_cons]
    cases p a <;> rfl
theorem ne_str (a b : Str) : cmpD .ne (.str a) (.str b) = .ok (.bool (!decide (a = b))) := by
  show notD (cmpD .eq (.str a) (.str b)) = _
  rw [eqD_str]; rfl
theorem m1 (a c : Int) (h : 0 < c) : binD .mod (.int a) (.int c) = .ok (.int (a % c)) := if_pos h
theorem d1 (a c : Int) (h : 0 < c) (h' : c < 1073741824) : binD .fdiv (.int a) (.int c) = .ok (.int (a / c)) := if_pos ⟨h, h'⟩
theorem mu (a c : Int) (h : mulOk a c = true) : binD .mul (.int a) (.int c) = .ok (.int (a * c)) := if_pos h
theorem dnum_nd : ∀ {l : List (List Int)}, l.Nodup → dnum l = l.length
  | [], _ => rfl
  | x :: xs, h => by
    rw [List.nodup_cons] at h
    unfold dnum
    rw [if_neg, dnum_nd h.2]
    · rfl
    · intro c
      obtain ⟨y, hy, e⟩ := List.any_eq_true.mp c
      have e : y = x := by simpa using e
      exact h.1 (e ▸ hy)
theorem foldl_snoc {α : Type} : ∀ (l b : List α), l.foldl (fun d a => d ++ [a]) b = b ++ l
  | [], b => by simp
  | a :: l, b => by rw [List.foldl_cons, foldl_snoc l]; simp
theorem ne_self_int (a : Int) : cmpD .ne (.int a) (.int a) = .ok (.bool false) := by
  show notD (cmpD .eq (.int a) (.int a)) = _
  rw [eqD_int', decide_eq_true rfl]; rfl
theorem ne_self_none : cmpD .ne .none .none = .ok (.bool false) := rfl
theorem exSs_nx {φ : Nat → List D → Rs D} {s : S} {ss : List S} {ε ε' : Env} (h : exS φ s ε = .ok (.nx, ε')) : exSs φ (s :: ss) ε = exSs φ ss ε' := by
  simp only [exSs, h, Rs.bnd_ok]
theorem frzE_no {ε : Env} : ∀ {is : List Nat}, (∀ i ∈ is, ∀ d, ε[i]? ≠ some (.o d)) → frzE ε is = ε
  | [], _ => rfl
  | i :: is, h => by
    have h1 := h i List.mem_cons_self
    unfold frzE
    cases e : ε[i]? with
    | none => exact frzE_no fun j hj => h j (List.mem_cons_of_mem _ hj)
    | some s => cases s with
      | o d => exact absurd e (h1 d)
      | u => exact frzE_no fun j hj => h j (List.mem_cons_of_mem _ hj)
      | f d => exact frzE_no fun j hj => h j (List.mem_cons_of_mem _ hj)
theorem eq_nil {xs : List D} (h : xs.all (lim 39) = true) : cmpD .eq (.list xs) (.list []) = .ok (.bool xs.isEmpty) := by
  have l1 : lim 40 (.list xs) = true := by simpa [lim] using h
  show eqD _ _ = _
  unfold eqD
  rw [l1]
  cases xs <;> rfl
theorem ne_nil {xs : List D} (h : xs.all (lim 39) = true) : cmpD .ne (.list xs) (.list []) = .ok (.bool (!xs.isEmpty)) := by
  show notD (cmpD .eq _ _) = _
  rw [eq_nil h]; rfl
theorem sq_comm (a b : Int) : (a - b) ^ 2 = (b - a) ^ 2 := by
  rw [show a - b = -(b - a) by omega, Int.pow_succ, Int.pow_succ, Int.pow_zero, Int.pow_succ, Int.pow_succ, Int.pow_zero]
  simp only [Int.one_mul, Int.neg_mul_neg]
theorem p2 (i : Int) (h : i.natAbs < 2 ^ 64) : binD .pow (.int i) (.int 2) = .ok (.int (i ^ 2)) := by
  show (if 0 ≤ (2 : Int) ∧ (2 : Int) ≤ 1000000 ∧ i.natAbs < 2 ^ 64 then _ else _) = _
  rw [if_pos ⟨by decide, by decide, h⟩]; rfl
theorem isn_tt : cmpD .isn (.bool true) (.bool true) = .ok (.bool false) := rfl
theorem qa (i j : Int) : binD .add (.int i) (.int j) = .ok (.int (i + j)) := rfl
theorem qs (i j : Int) : binD .sub (.int i) (.int j) = .ok (.int (i - j)) := rfl
theorem mxb (i j : Int) : biD .max [.int i, .int j] = .ok (.int (if j > i then j else i)) := rfl
theorem mib (i j : Int) : biD .min [.int i, .int j] = .ok (.int (if j < i then j else i)) := rfl
theorem bt (xs : List D) : biD .tuple [.list xs] = .ok (.tuple xs) := rfl
theorem flat_filter' {α β : Type} (p : α → Bool) (f : α → β) (l : List α) (g : α → List β) (h : ∀ a ∈ l, g a = if p a = true then [f a] else []) : l.flatMap g = (l.filter p).map f := by
  rw [← flat_filter]
  induction l with
  | nil => rfl
  | cons a l ih =>
    rw [List.flatMap_cons, List.flatMap_cons, h a List.mem_cons_self, ih fun b hb => h b (List.mem_cons_of_mem _ hb)]
theorem noMut_c (xs : List D) : noMut (.tuple xs) = noMuts xs := rfl
theorem rng_len {n : Nat} (h : n ≤ 1000000) : rngD 0 (n : Int) = .ok ((List.range n).map fun i => .int (i : Nat)) := by
  rw [rngD_ok (n := n) (by omega) (by omega) (by omega) (by show n ≤ 16777216; omega)]
  simp
theorem nms_map {f : D → D} : ∀ {xs : List D}, (∀ x ∈ xs, noMut (f x) = true) → noMuts (xs.map f) = true
  | [], _ => rfl
  | x :: xs, h => by
    show (noMut (f x) && noMuts (xs.map f)) = true
    rw [h x List.mem_cons_self, nms_map fun y hy => h y (List.mem_cons_of_mem _ hy)]; rfl
theorem flat_len {α β : Type} {f : α → List β} {n : Nat} : ∀ {l : List α}, (∀ a ∈ l, (f a).length ≤ n) → (l.flatMap f).length ≤ l.length * n
  | [], _ => by simp
  | a :: l, h => by
    rw [List.flatMap_cons, List.length_append, List.length_cons]
    have h1 := h a List.mem_cons_self
    have h2 := flat_len (l := l) fun b hb => h b (List.mem_cons_of_mem _ hb)
    rw [Nat.succ_mul]; omega
mutual
/-- lists made tuples -/
def tpl : D → D
  | .list xs => .tuple (tpls xs)
  | .tuple xs => .tuple (tpls xs)
  | d => d
def tpls : List D → List D
  | [] => []
  | x :: xs => tpl x :: tpls xs
end
theorem tpls_map : ∀ xs : List D, tpls xs = xs.map tpl
  | [] => rfl
  | x :: xs => by rw [tpls, tpls_map xs]; rfl
theorem tpl_nm : ∀ (n : Nat) (d : D), lim n d = true → noMut (tpl d) = true
  | n, .none, _ => rfl
  | n, .bool _, _ => rfl
  | n, .int _, _ => rfl
  | n, .str _, _ => rfl
  | 0, .list _, h => by simp [lim] at h
  | 0, .tuple _, h => by simp [lim] at h
  | 0, .dict _, h => by simp [lim] at h
  | n + 1, .dict _, h => by simp [lim] at h
  | n + 1, .list xs, h => by
    have h : xs.all (lim n) = true := by simpa [lim] using h
    show noMuts (tpls xs) = true
    rw [tpls_map]
    exact nms_map fun x hx => tpl_nm n x (List.all_eq_true.mp h x hx)
  | n + 1, .tuple xs, h => by
    have h : xs.all (lim n) = true := by simpa [lim] using h
    show noMuts (tpls xs) = true
    rw [tpls_map]
    exact nms_map fun x hx => tpl_nm n x (List.all_eq_true.mp h x hx)
def isSq : D → Bool
  | .list _ => true
  | .tuple _ => true
  | _ => false
mutual
/-- tuples made lists -/
def ltd : D → D
  | .tuple xs => .list (ltds xs)
  | d => d
def ltds : List D → List D
  | [] => []
  | x :: xs => ltd x :: ltds xs
end
theorem ltds_map : ∀ xs : List D, ltds xs = xs.map ltd
  | [] => rfl
  | x :: xs => by rw [ltds, ltds_map xs]; rfl
end Ws

set_option Elab.async false
set_option linter.all false
set_option maxRecDepth 100000
set_option maxHeartbeats 4000000
/-! Ty1: more slots known do not harm -/
namespace Ws
open PySem
/-- a slot that tells less -/
inductive Sle : Sl → Sl → Prop
  | u (s : Sl) : Sle .u s
  | f (d : D) : Sle (.f d) (.f d)
  | o (d : D) : Sle (.o d) (.o d)
theorem Sle.refl : ∀ s, Sle s s
  | .u => .u _
  | .f d => .f d
  | .o d => .o d
theorem Sle.trans {a b c : Sl} (h : Sle a b) (g : Sle b c) : Sle a c := by
  cases h with
  | u s => exact .u _
  | f d => exact g
  | o d => exact g
inductive Ele : Env → Env → Prop
  | nil : Ele [] []
  | cons {a b : Sl} {x y : Env} : Sle a b → Ele x y → Ele (a :: x) (b :: y)
theorem Ele.refl : ∀ ε, Ele ε ε
  | [] => .nil
  | a :: ε => .cons (.refl a) (Ele.refl ε)
theorem Ele.trans {a b c : Env} (h : Ele a b) (g : Ele b c) : Ele a c := by
  induction h generalizing c with
  | nil => exact g
  | cons h1 h2 ih => cases g with | cons g1 g2 => exact .cons (h1.trans g1) (ih g2)
theorem Ele.get {a b : Env} (h : Ele a b) : ∀ {i : Nat} {s : Sl}, a[i]? = some s → ∃ t, b[i]? = some t ∧ Sle s t := by
  induction h with
  | nil => intro i s e; simp at e
  | cons h1 h2 ih =>
    intro i s e
    cases i with
    | zero => rw [List.getElem?_cons_zero] at e ⊢; cases e; exact ⟨_, rfl, h1⟩
    | succ i => rw [List.getElem?_cons_succ] at e ⊢; exact ih e
theorem Ele.set {a b : Env} (h : Ele a b) : ∀ {i : Nat} {s t : Sl}, Sle s t → Ele (a.set i s) (b.set i t) := by
  induction h with
  | nil => intro i s t _; exact .nil
  | cons h1 h2 ih =>
    intro i s t g
    cases i with
    | zero => exact .cons g h2
    | succ i => exact .cons h1 (ih g)
theorem Ele.put {a b : Env} (h : Ele a b) (i : Nat) (d : D) : Ele (put a i d) (put b i d) := h.set (.f d)
theorem Ele.puto {a b : Env} (h : Ele a b) (i : Nat) (d : D) : Ele (puto a i d) (puto b i d) := h.set (.o d)
theorem Ele.wipe {a b : Env} (h : Ele a b) : ∀ vs, Ele (wipeE a vs) (wipeE b vs)
  | [] => h
  | v :: vs => (Ele.wipe h vs).set (.u _)
theorem Sle.frz {a b : Sl} (h : Sle a b) : Sle (frzS a) (frzS b) := by
  cases h with
  | u s => exact .u _
  | f d => exact .f d
  | o d => exact .f d
theorem Ele.frzAll {a b : Env} (h : Ele a b) : Ele (a.map frzS) (b.map frzS) := by
  induction h with
  | nil => exact .nil
  | cons h1 h2 ih => exact .cons h1.frz ih
theorem frzE_set (ε : Env) (i : Nat) (is : List Nat) : frzE ε (i :: is) = frzE (match ε[i]? with | some s => ε.set i (frzS s) | none => ε) is := by
  have setsame : ∀ (ε : Env) (i : Nat) (s : Sl), ε[i]? = some s → ε.set i s = ε := by
    intro ε
    induction ε with
    | nil => intro i s e; rfl
    | cons a ε ih =>
      intro i s e
      cases i with
      | zero => rw [List.getElem?_cons_zero] at e; cases e; rfl
      | succ i => rw [List.getElem?_cons_succ] at e; rw [List.set_cons_succ, ih _ _ e]
  unfold frzE
  cases e : ε[i]? with
  | none => simp only; cases is <;> rfl
  | some s =>
    cases s with
    | o d => simp only [frzS]; cases is <;> rfl
    | u => simp only [frzS]; rw [setsame _ _ _ e]; cases is <;> rfl
    | f d => simp only [frzS]; rw [setsame _ _ _ e]; cases is <;> rfl
theorem Ele.len {a b : Env} (h : Ele a b) : a.length = b.length := by
  induction h with
  | nil => rfl
  | cons _ _ ih => simp [ih]
theorem Ele.frz {a b : Env} (h : Ele a b) : ∀ is, Ele (frzE a is) (frzE b is) := by
  intro is
  induction is generalizing a b with
  | nil => exact h
  | cons i is ih =>
    rw [frzE_set, frzE_set]
    refine ih ?_
    cases e : a[i]? with
    | none =>
      have : b[i]? = none := by rw [List.getElem?_eq_none_iff] at e ⊢; rw [← h.len]; exact e
      rw [this]; exact h
    | some s =>
      obtain ⟨t, e2, g⟩ := h.get e
      rw [e2]; exact h.set g.frz
/-- a reading that says no less -/
def Rle {α : Type} (r s : Rs α) : Prop := ∀ x, r = .ok x → s = .ok x
theorem Rle.refl {α : Type} (r : Rs α) : Rle r r := fun _ h => h
theorem Rle.bnd {α β : Type} {r s : Rs α} {f g : α → Rs β} (h : Rle r s) (k : ∀ a, Rle (f a) (g a)) : Rle (r.bnd f) (s.bnd g) := by
  intro x e
  cases r with
  | ok a => rw [h a rfl]; exact k a x e
  | ex d => cases e
  | st => cases e
theorem Rle.nx {α : Type} {r s : Rs α} (h : Rle r s) : Rle r.nx s.nx := by
  intro x e
  cases r with
  | ok a => rw [h a rfl]; exact e
  | ex d => cases e
  | st => cases e
theorem Rle.lc {t u : D → Rs (List D)} (h : ∀ x, Rle (t x) (u x)) : ∀ xs, Rle (lcL t xs) (lcL u xs)
  | [] => .refl _
  | x :: xs => by
    rw [lcL, lcL]
    exact (h x).nx.bnd fun _ => (Rle.lc h xs).bnd fun _ => .refl _
def Ror {α : Type} (P : α → α → Prop) (r s : Rs α) : Prop := ∀ x, r = .ok x → ∃ y, s = .ok y ∧ P x y
theorem bnd_mono : (∀ (t : Pt) (d : D) {a b : Env}, Ele a b → Ror Ele (bnd t d a) (bnd t d b)) ∧ ∀ (ts : List Pt) (ds : List D) {a b : Env}, Ele a b → Ror Ele (bnds ts ds a) (bnds ts ds b) := by
  have nm : ∀ (i : Nat) (d : D) {a b : Env}, Ele a b → Ror Ele (bnd (.nm i) d a) (bnd (.nm i) d b) := fun i d a b h x e => by
    simp only [bnd] at e ⊢
    cases e
    exact ⟨_, rfl, h.put i d⟩
  have nil : ∀ (ds : List D) {a b : Env}, Ele a b → Ror Ele (bnds [] ds a) (bnds [] ds b) := fun ds a b h x e => by
    cases ds with
    | nil => simp only [bnds] at e ⊢; cases e; exact ⟨_, rfl, h⟩
    | cons d ds => simp [bnds] at e
  have tp : ∀ (ps : List Pt), (∀ (ds : List D) {a b : Env}, Ele a b → Ror Ele (bnds ps ds a) (bnds ps ds b)) → ∀ (d : D) {a b : Env}, Ele a b → Ror Ele (bnd (.tp ps) d a) (bnd (.tp ps) d b) := fun ps ih d a b h x e => by
    cases d <;> try (simp [bnd] at e; done)
    · simp only [bnd] at e ⊢; exact ih _ h x e
    · simp only [bnd] at e ⊢; exact ih _ h x e
  have cons : ∀ (p : Pt) (ps : List Pt), (∀ (d : D) {a b : Env}, Ele a b → Ror Ele (bnd p d a) (bnd p d b)) → (∀ (ds : List D) {a b : Env}, Ele a b → Ror Ele (bnds ps ds a) (bnds ps ds b)) → ∀ (ds : List D) {a b : Env}, Ele a b → Ror Ele (bnds (p :: ps) ds a) (bnds (p :: ps) ds b) := fun p ps i1 i2 ds a b h x e => by
    cases ds with
    | nil => simp [bnds] at e
    | cons d ds =>
      simp only [bnds] at e ⊢
      cases e1 : bnd p d a with
      | ok a1 =>
        rw [e1] at e
        obtain ⟨b1, q1, q2⟩ := i1 d h a1 e1
        rw [q1]; exact i2 ds q2 x e
      | ex d => rw [e1] at e; cases e
      | st => rw [e1] at e; cases e
  exact ⟨fun t => Pt.rec (motive_1 := fun t => ∀ (d : D) {a b : Env}, Ele a b → Ror Ele (bnd t d a) (bnd t d b)) (motive_2 := fun ts => ∀ (ds : List D) {a b : Env}, Ele a b → Ror Ele (bnds ts ds a) (bnds ts ds b)) nm tp nil cons t,
    fun ts => Pt.rec_1 (motive_1 := fun t => ∀ (d : D) {a b : Env}, Ele a b → Ror Ele (bnd t d a) (bnd t d b)) (motive_2 := fun ts => ∀ (ds : List D) {a b : Env}, Ele a b → Ror Ele (bnds ts ds a) (bnds ts ds b)) nm tp nil cons ts⟩
theorem Ror.bnd {α β : Type} {P : α → α → Prop} {r s : Rs α} {f g : α → Rs β} (h : Ror P r s) (k : ∀ a b, P a b → Rle (f a) (g b)) : Rle (r.bnd f) (s.bnd g) := by
  intro x e
  cases r with
  | ok a => obtain ⟨b, q1, q2⟩ := h a rfl; rw [q1]; exact k a b q2 x e
  | ex d => cases e
  | st => cases e
theorem Ror.bndR {α β : Type} {P : α → α → Prop} {Q : β → β → Prop} {r s : Rs α} {f g : α → Rs β} (h : Ror P r s) (k : ∀ a b, P a b → Ror Q (f a) (g b)) : Ror Q (r.bnd f) (s.bnd g) := by
  intro x e
  cases r with
  | ok a => obtain ⟨b, q1, q2⟩ := h a rfl; rw [q1]; exact k a b q2 x e
  | ex d => cases e
  | st => cases e
theorem Rle.bndR {α β : Type} {Q : β → β → Prop} {r s : Rs α} {f g : α → Rs β} (h : Rle r s) (k : ∀ a, Ror Q (f a) (g a)) : Ror Q (r.bnd f) (s.bnd g) := by
  intro x e
  cases r with
  | ok a => rw [h a rfl]; exact k a x e
  | ex d => cases e
  | st => cases e
theorem nm_mono {r s : Rs D} (h : Rle r s) : Rle (nmR r) (nmR s) := by
  intro x e
  cases r with
  | ok a => rw [h a rfl]; exact e
  | ex d => simp only [nmR] at e; split at e <;> cases e
  | st => cases e
theorem own_mono {a b : Env} (h : Ele a b) (i : Nat) : Rle (own a i) (own b i) := by
  intro x e
  unfold own at e ⊢
  split at e
  · rename_i d hd
    obtain ⟨t, q1, q2⟩ := h.get hd
    cases q2
    rw [q1]; exact e
  · cases e
variable {φ : Nat → List D → Rs D}
structure Mo (e : E) : Prop where
  m : ∀ {a b : Env}, Ele a b → Rle (ev φ e a) (ev φ e b)
structure Mos (e : List E) : Prop where
  m : ∀ {a b : Env}, Ele a b → Rle (evs φ e a) (evs φ e b)
structure Moo (e : Option E) : Prop where
  m : ∀ {a b : Env}, Ele a b → Rle (evo φ e a) (evo φ e b)
  c : ∀ {a b : Env}, Ele a b → Rle (evc φ e a) (evc φ e b)
structure Moi (e : It) : Prop where
  m : ∀ {a b : Env}, Ele a b → Rle (evi φ e a) (evi φ e b)
theorem ev_mono : ∀ e : E, Mo (φ := φ) e := by
  intro e
  refine E.rec (motive_1 := fun e => Mo (φ := φ) e) (motive_2 := fun i => Moi (φ := φ) i) (motive_3 := fun es => Mos (φ := φ) es) (motive_4 := fun o => Moo (φ := φ) o)
    ?lit ?var ?wv ?gl ?bin ?neg ?not_ ?and_ ?or_ ?ite ?cmp ?chain ?tup ?lst ?dnew ?idx ?sli ?rev ?lc ?lc2 ?dc ?call ?bi ?isi ?nomut ?inT ?atT ?lset ?dd ?sortk ?seq ?rng1 ?rng2 ?rng3 ?irev ?nil ?cons ?non ?som e
  case lit => exact fun d => ⟨fun h => by simp only [ev]; exact .refl _⟩
  case gl => exact fun d => ⟨fun h => by simp only [ev]; exact .refl _⟩
  case var => exact fun i => ⟨fun {a b} h x e => by
    simp only [ev] at e ⊢
    split at e
    · rename_i d hd
      obtain ⟨t, q1, q2⟩ := h.get hd
      cases q2
      rw [q1]; exact e
    · cases e⟩
  case wv => exact fun i => ⟨fun {a b} h x e => by
    simp only [ev] at e ⊢
    split at e
    · rename_i d hd
      obtain ⟨t, q1, q2⟩ := h.get hd
      cases q2
      rw [q1]; exact e
    · rename_i d hd
      obtain ⟨t, q1, q2⟩ := h.get hd
      cases q2
      rw [q1]; exact e
    · cases e⟩
  case bin => exact fun o p q i1 i2 => ⟨fun h => by simp only [ev]; exact (i1.m h).bnd fun _ => (i2.m h).bnd fun _ => .refl _⟩
  case neg => exact fun p i1 => ⟨fun h => by simp only [ev]; exact (i1.m h).bnd fun _ => .refl _⟩
  case not_ => exact fun p i1 => ⟨fun h => by simp only [ev]; exact (i1.m h).bnd fun _ => .refl _⟩
  case and_ => exact fun p q i1 i2 => ⟨fun h => by simp only [ev]; exact (i1.m h).bnd fun _ => by split <;> first | exact i2.m h | exact .refl _⟩
  case or_ => exact fun p q i1 i2 => ⟨fun h => by simp only [ev]; exact (i1.m h).bnd fun _ => by split <;> first | exact i2.m h | exact .refl _⟩
  case ite => exact fun c p q i0 i1 i2 => ⟨fun h => by simp only [ev]; exact (i0.m h).bnd fun _ => by split <;> first | exact i1.m h | exact i2.m h⟩
  case cmp => exact fun o p q i1 i2 => ⟨fun h => by simp only [ev]; exact (i1.m h).bnd fun _ => (i2.m h).bnd fun _ => .refl _⟩
  case chain => exact fun o o' p q r i1 i2 i3 => ⟨fun h => by
    simp only [ev]
    exact (i1.m h).bnd fun _ => (i2.m h).bnd fun _ => (Rle.refl _).bnd fun z => by split <;> first | exact (i3.m h).bnd fun _ => .refl _ | exact .refl _⟩
  case tup => exact fun es i => ⟨fun h => by simp only [ev]; exact (i.m h).bnd fun _ => .refl _⟩
  case lst => exact fun es i => ⟨fun h => by simp only [ev]; exact (i.m h).bnd fun _ => .refl _⟩
  case dnew => exact ⟨fun h => by simp only [ev]; exact .refl _⟩
  case idx => exact fun p q i1 i2 => ⟨fun h => by simp only [ev]; exact (i1.m h).bnd fun _ => (i2.m h).bnd fun _ => .refl _⟩
  case sli => exact fun p l u i1 i2 i3 => ⟨fun h => by simp only [ev]; exact (i1.m h).bnd fun _ => (i2.m h).bnd fun _ => (i3.m h).bnd fun _ => .refl _⟩
  case rev => exact fun p i1 => ⟨fun h => by simp only [ev]; exact (i1.m h).bnd fun _ => .refl _⟩
  case lc => exact fun vs elt tg it cond ie ii ic => ⟨fun h => by
    simp only [ev]
    exact (ii.m h).bnd fun ds => (Rle.lc (fun x => (bnd_mono.1 tg x (h.wipe vs)).bnd fun a b g => (ic.c g).bnd fun bb => by
      split
      · exact (ie.m g).bnd fun _ => .refl _
      · exact .refl _) ds).bnd fun _ => .refl _⟩
  case lc2 => exact fun vs vs1 elt tg it cond tg1 it1 cond1 ie ii ic ii1 ic1 => ⟨fun h => by
    simp only [ev]
    exact (ii.m h).bnd fun ds => (Rle.lc (fun x => (bnd_mono.1 tg x (h.wipe vs)).bnd fun a b g => (ic.c g).bnd fun bb => by
      split
      · exact (ii1.m g).bnd fun ds1 => Rle.lc (fun x1 => (bnd_mono.1 tg1 x1 (g.wipe vs1)).bnd fun a b g => (ic1.c g).bnd fun bb => by
          split
          · exact (ie.m g).bnd fun _ => .refl _
          · exact .refl _) ds1
      · exact .refl _) ds).bnd fun _ => .refl _⟩
  case dc => exact fun vs k v tg it cond ik iv ii ic => ⟨fun h => by
    simp only [ev]
    exact (ii.m h).bnd fun ds => (Rle.lc (fun x => (bnd_mono.1 tg x (h.wipe vs)).bnd fun a b g => (ic.c g).bnd fun bb => by
      split
      · exact (ik.m g).bnd fun _ => (Rle.refl _).bnd fun _ => (iv.m g).bnd fun _ => .refl _
      · exact .refl _) ds).bnd fun _ => .refl _⟩
  case call => exact fun f es i => ⟨fun h => by simp only [ev]; exact (i.m h).bnd fun _ => .refl _⟩
  case bi => exact fun f es i => ⟨fun h => by simp only [ev]; exact (i.m h).bnd fun _ => .refl _⟩
  case isi => exact fun p ts i => ⟨fun h => by simp only [ev]; exact (i.m h).bnd fun _ => .refl _⟩
  case nomut => exact fun p i => ⟨fun h => by simp only [ev]; exact nm_mono (i.m h.frzAll)⟩
  case inT => exact fun ks n p i => ⟨fun h => by simp only [ev]; exact (i.m h).bnd fun _ => .refl _⟩
  case atT => exact fun ks p i => ⟨fun h => by simp only [ev]; exact (i.m h).bnd fun _ => .refl _⟩
  case lset => exact fun p i => ⟨fun h => by simp only [ev]; exact (i.m h).bnd fun _ => .refl _⟩
  case dd => exact fun ks es i => ⟨fun h => by simp only [ev]; exact (i.m h).bnd fun _ => .refl _⟩
  case sortk => exact fun f p i => ⟨fun h => by simp only [ev]; exact (i.m h).bnd fun _ => .refl _⟩
  case seq => exact fun p i => ⟨fun h => by simp only [evi]; exact (i.m h).bnd fun _ => .refl _⟩
  case rng1 => exact fun p i => ⟨fun h => by simp only [evi]; exact (i.m h).bnd fun _ => .refl _⟩
  case rng2 => exact fun p q i j => ⟨fun h => by simp only [evi]; exact (i.m h).bnd fun _ => (j.m h).bnd fun _ => .refl _⟩
  case rng3 => exact fun p q r i j l => ⟨fun h => by simp only [evi]; exact (i.m h).bnd fun _ => (j.m h).bnd fun _ => (l.m h).bnd fun _ => .refl _⟩
  case irev => exact fun p i => ⟨fun h => by simp only [evi]; exact (i.m h).bnd fun _ => .refl _⟩
  case nil => exact ⟨fun h => by simp only [evs]; exact .refl _⟩
  case cons => exact fun p ps i j => ⟨fun h => by simp only [evs]; exact (i.m h).bnd fun _ => (j.m h).bnd fun _ => .refl _⟩
  case non => exact ⟨fun h => by simp only [evo]; exact .refl _, fun h => by simp only [evc]; exact .refl _⟩
  case som => exact fun p i => ⟨fun h => by simp only [evo]; exact (i.m h).bnd fun _ => .refl _, fun h => by simp only [evc]; exact (i.m h).bnd fun _ => .refl _⟩

def Pl (p q : Fl × Env) : Prop := p.1 = q.1 ∧ Ele p.2 q.2
theorem Ror.refl {α : Type} {P : α → α → Prop} (h : ∀ a, P a a) (r : Rs α) : Ror P r r := fun x e => ⟨x, e, h x⟩
theorem Ror.ok {α : Type} {P : α → α → Prop} {x y : α} (h : P x y) : Ror P (.ok x) (.ok y) := fun z e => by cases e; exact ⟨y, rfl, h⟩
theorem Ror.st {α : Type} {P : α → α → Prop} {s : Rs α} : Ror P .st s := fun z e => by cases e
theorem Ror.ex {α : Type} {P : α → α → Prop} {s : Rs α} {d : D} : Ror P (.ex d) s := fun z e => by cases e
theorem exFor_mono {f g : D → Env → Rs (Fl × Env)} (h : ∀ x {a b : Env}, Ele a b → Ror Pl (f x a) (g x b)) : ∀ (xs : List D) {a b : Env}, Ele a b → Ror Pl (exFor f xs a) (exFor g xs b)
  | [], a, b, e => .ok ⟨rfl, e⟩
  | x :: xs, a, b, e => by
    simp only [exFor]
    refine (h x e).bndR fun p q ⟨h1, h2⟩ => ?_
    obtain ⟨p1, p2⟩ := p
    obtain ⟨q1, q2⟩ := q
    cases h1
    cases p1 with
    | nx => exact exFor_mono h xs h2
    | ct => exact exFor_mono h xs h2
    | br => exact .ok ⟨rfl, h2⟩
    | rt d => exact .ok ⟨rfl, h2⟩
theorem exWh_mono {c c' : Env → Rs Bool} {f g : Env → Rs (Fl × Env)} (hc : ∀ {a b : Env}, Ele a b → Rle (c a) (c' b)) (h : ∀ {a b : Env}, Ele a b → Ror Pl (f a) (g b)) : ∀ (n : Nat) {a b : Env}, Ele a b → Ror Pl (exWh c f n a) (exWh c' g n b)
  | 0, a, b, e => .st
  | n + 1, a, b, e => by
    simp only [exWh]
    refine (hc e).bndR fun t => ?_
    cases t with
    | false => exact .ok ⟨rfl, e⟩
    | true =>
      refine (h e).bndR fun p q ⟨h1, h2⟩ => ?_
      obtain ⟨p1, p2⟩ := p
      obtain ⟨q1, q2⟩ := q
      cases h1
      cases p1 with
      | nx => exact exWh_mono hc h n h2
      | ct => exact exWh_mono hc h n h2
      | br => exact .ok ⟨rfl, h2⟩
      | rt d => exact .ok ⟨rfl, h2⟩
structure MoS (s : S) : Prop where
  m : ∀ {a b : Env}, Ele a b → Ror Pl (exS φ s a) (exS φ s b)
structure MoSs (s : List S) : Prop where
  m : ∀ {a b : Env}, Ele a b → Ror Pl (exSs φ s a) (exSs φ s b)
theorem evi_mono (i : It) : ∀ {a b : Env}, Ele a b → Rle (evi φ i a) (evi φ i b) := by
  have e := @ev_mono φ
  cases i with
  | seq p => exact fun {a b} h => by simp only [evi]; exact ((e p).m h).bnd fun _ => .refl _
  | rng1 p => exact fun {a b} h => by simp only [evi]; exact ((e p).m h).bnd fun _ => .refl _
  | rng2 p q => exact fun {a b} h => by simp only [evi]; exact ((e p).m h).bnd fun _ => ((e q).m h).bnd fun _ => .refl _
  | rng3 p q r => exact fun {a b} h => by simp only [evi]; exact ((e p).m h).bnd fun _ => ((e q).m h).bnd fun _ => ((e r).m h).bnd fun _ => .refl _
  | rev p => exact fun {a b} h => by simp only [evi]; exact ((e p).m h).bnd fun _ => .refl _
theorem putF_mono {a b : Env} (h : Ele a b) (t : Pt) (d : D) (fr : Bool) : Ror Ele (putF a t d fr) (putF b t d fr) := by
  unfold putF
  cases fr with
  | false => exact bnd_mono.1 t d h
  | true =>
    simp only [if_true]
    split
    · exact .ok (h.puto _ _)
    · exact .ok (h.puto _ _)
    · exact bnd_mono.1 t d h
theorem exS_monoB : (∀ s : S, MoS (φ := φ) s) ∧ ∀ ss : List S, MoSs (φ := φ) ss := by
  have e := @ev_mono φ
  have asg : ∀ (t : Pt) (p : E) (fr : Bool) (lk : List Nat), MoS (φ := φ) (.asg t p fr lk) := fun t p fr lk => ⟨fun h => by
    simp only [exS]
    exact ((e p).m (h.frz lk)).bndR fun d => (putF_mono (h.frz lk) t d fr).bndR fun a b g => .ok ⟨rfl, g⟩⟩
  have par : ∀ (i j : Nat) (p q : E) (lk : List Nat), MoS (φ := φ) (.par i j p q lk) := fun i j p q lk => ⟨fun h => by
    simp only [exS]
    exact ((e p).m (h.frz lk)).bndR fun x => ((e q).m (h.frz lk)).bndR fun y => .ok ⟨rfl, ((h.frz lk).put i x).put j y⟩⟩
  have aug : ∀ (i : Nat) (o : Op2) (p : E) (lk : List Nat), MoS (φ := φ) (.aug i o p lk) := fun i o p lk => ⟨fun h => by
    simp only [exS]
    refine ((e (.var i)).m (h.frz lk)).bndR fun x => ((e p).m (h.frz lk)).bndR fun y => (Rle.refl _).bndR fun z => ?_
    split
    · exact .ok ⟨rfl, (h.frz lk).put i _⟩
    · exact .st⟩
  have seti : ∀ (i : Nat) (p q : E) (lk : List Nat), MoS (φ := φ) (.seti i p q lk) := fun i p q lk => ⟨fun h => by
    simp only [exS]
    exact ((e q).m (h.frz lk)).bndR fun x => (own_mono (h.frz lk) i).bndR fun d => ((e p).m (h.frz lk)).bndR fun y => (Rle.refl _).bndR fun z => .ok ⟨rfl, (h.frz lk).puto i z⟩⟩
  have app : ∀ (i : Nat) (p : E) (lk : List Nat), MoS (φ := φ) (.app i p lk) := fun i p lk => ⟨fun h => by
    simp only [exS]
    refine (own_mono (h.frz lk) i).bndR fun d => (Rle.refl _).bndR fun xs => ((e p).m (h.frz lk)).bndR fun v => ?_
    split
    · exact .ok ⟨rfl, (h.frz lk).puto i _⟩
    · exact .st⟩
  have ret : ∀ (p : E), MoS (φ := φ) (.ret p) := fun p => ⟨fun h => by
    simp only [exS]
    exact ((e p).m h.frzAll).bndR fun d => .ok ⟨rfl, h⟩⟩
  have retn : MoS (φ := φ) .retn := ⟨fun h => by simp only [exS]; exact .ok ⟨rfl, h⟩⟩
  have drop : ∀ (p : E) (lk : List Nat), MoS (φ := φ) (.drop p lk) := fun p lk => ⟨fun h => by
    simp only [exS]
    exact ((e p).m (h.frz lk)).bndR fun d => .ok ⟨rfl, h.frz lk⟩⟩
  have iff : ∀ (c : E) (x y : List S), MoSs (φ := φ) x → MoSs (φ := φ) y → MoS (φ := φ) (.iff c x y) := fun c x y i1 i2 => ⟨fun h => by
    simp only [exS]
    refine ((e c).m h.frzAll).bndR fun d => ?_
    split
    · exact i1.m h
    · exact i2.m h⟩
  have for_ : ∀ (t : Pt) (it : It) (body : List S) (lk : List Nat), MoSs (φ := φ) body → MoS (φ := φ) (.for_ t it body lk) := fun t it body lk ib => ⟨fun h => by
    simp only [exS]
    exact (evi_mono it (h.frz lk)).bndR fun ds => exFor_mono (fun x {a b} g => (bnd_mono.1 t x g).bndR fun p q r => ib.m r) ds (h.frz lk)⟩
  have whil : ∀ (c : E) (body : List S), MoSs (φ := φ) body → MoS (φ := φ) (.whil c body) := fun c body ib => ⟨fun h => by
    simp only [exS]
    exact exWh_mono (c := fun ε' => (ev φ c (ε'.map frzS)).bnd fun x => .ok (truth x)) (c' := fun ε' => (ev φ c (ε'.map frzS)).bnd fun x => .ok (truth x)) (f := fun ε' => exSs φ body ε') (g := fun ε' => exSs φ body ε') (fun g => ((e c).m g.frzAll).bnd fun _ => .refl _) (fun g => ib.m g) _ h⟩
  have brk : MoS (φ := φ) .brk := ⟨fun h => by simp only [exS]; exact .ok ⟨rfl, h⟩⟩
  have cont : MoS (φ := φ) .cont := ⟨fun h => by simp only [exS]; exact .ok ⟨rfl, h⟩⟩
  have pass : MoS (φ := φ) .pass := ⟨fun h => by simp only [exS]; exact .ok ⟨rfl, h⟩⟩
  have raise : ∀ (p : E), MoS (φ := φ) (.raise p) := fun p => ⟨fun {a b} h x q => by
    simp only [exS] at q
    cases z : ev φ p (a.map frzS) with
    | ok d => rw [z] at q; cases q
    | ex d => rw [z] at q; cases q
    | st => rw [z] at q; cases q⟩
  have try_ : ∀ (x : List S) (i : Nat) (y : List S), MoSs (φ := φ) x → MoSs (φ := φ) y → MoS (φ := φ) (.try_ x i y) := fun x i y _ _ => ⟨fun h => by simp only [exS]; exact .st⟩
  have stuck : MoS (φ := φ) .stuck := ⟨fun h => by simp only [exS]; exact .st⟩
  have nil : MoSs (φ := φ) [] := ⟨fun h => by simp only [exSs]; exact .ok ⟨rfl, h⟩⟩
  have cons : ∀ (s : S) (ss : List S), MoS (φ := φ) s → MoSs (φ := φ) ss → MoSs (φ := φ) (s :: ss) := fun s ss i1 i2 => ⟨fun h => by
    simp only [exSs]
    refine (i1.m h).bndR fun p q ⟨h1, h2⟩ => ?_
    obtain ⟨p1, p2⟩ := p
    obtain ⟨q1, q2⟩ := q
    cases h1
    cases p1 with
    | nx => exact i2.m h2
    | ct => exact .ok ⟨rfl, h2⟩
    | br => exact .ok ⟨rfl, h2⟩
    | rt d => exact .ok ⟨rfl, h2⟩⟩
  exact ⟨fun s => S.rec (motive_1 := fun s => MoS (φ := φ) s) (motive_2 := fun ss => MoSs (φ := φ) ss) asg par aug seti app ret retn drop iff for_ whil brk cont pass raise try_ stuck nil cons s,
    fun s => S.rec_1 (motive_1 := fun s => MoS (φ := φ) s) (motive_2 := fun ss => MoSs (φ := φ) ss) asg par aug seti app ret retn drop iff for_ whil brk cont pass raise try_ stuck nil cons s⟩
theorem exSs_mono (ss : List S) {a b : Env} (h : Ele a b) : Ror Pl (exSs φ ss a) (exSs φ ss b) := (exS_monoB.2 ss).m h
end Ws

set_option Elab.async false
set_option linter.all false
set_option maxRecDepth 100000
set_option maxHeartbeats 4000000
/-! Ty2: readings with types -/
namespace Ws
open PySem
/-! ### what stands for what -/
def eI : Int → D := .int
def eB : Bool → D := .bool
def eS : Str → D := .str
def eN : Unit → D := fun _ => .none
def eD : D → D := fun d => d
def eL {α : Type} (e : α → D) : List α → D := fun xs => .list (xs.map e)
def eT {α : Type} (e : α → D) : List α → D := fun xs => .tuple (xs.map e)
def eO {α : Type} (e : α → D) : Option α → D
  | none => .none
  | some x => e x
def f1 {α : Type} (e : α → D) : α → List D := fun x => [e x]
def fc {α β : Type} (e : α → D) (f : β → List D) : α × β → List D := fun p => e p.1 :: f p.2
def f0 : Unit → List D := fun _ => []
def eP {α : Type} (f : α → List D) : α → D := fun x => .tuple (f x)
/-- a dict -/
def eK {α β : Type} (e : α → D) (f : β → D) : List (α × β) → D := fun kvs => .dict (kvs.map fun p => (e p.1, f p.2))

/-- the reading r, told by e, is s -/
def Rf {α γ : Type} (e : α → γ) (r : Option α) (s : Rs γ) : Prop := ∀ x, r = some x → s = .ok (e x)
/-- a condition -/
def Rc (r : Option Bool) (s : Rs D) : Prop := ∀ b, r = some b → ∃ d, s = .ok d ∧ truth d = b
theorem r_of {α γ : Type} {e : α → γ} {x : α} {s : Rs γ} (h : s = .ok (e x)) : Rf e (some x) s := fun y q => by cases q; exact h
theorem r_no {α γ : Type} {e : α → γ} {s : Rs γ} : Rf e none s := fun y q => by cases q
theorem Rf.bnd {α γ β δ : Type} {e : α → γ} {e' : β → δ} {r : Option α} {A : Rs γ} {k : α → Option β} {F : γ → Rs δ} (h : Rf e r A) (g : ∀ x, Rf e' (k x) (F (e x))) : Rf e' (r.bind k) (A.bnd F) := by
  intro y q
  cases r with
  | none => cases q
  | some x => rw [h x rfl]; exact g x y q
theorem Rf.map {α γ β δ : Type} {e : α → γ} {e' : β → δ} {r : Option α} {A : Rs γ} {k : α → β} {F : γ → Rs δ} (h : Rf e r A) (g : ∀ x, F (e x) = .ok (e' (k x))) : Rf e' (r.map k) (A.bnd F) := by
  intro y q
  cases r with
  | none => cases q
  | some x => cases q; rw [h x rfl]; exact g x
theorem Rc.bnd {β δ : Type} {e' : β → δ} {r : Option Bool} {A : Rs D} {k : Bool → Option β} {F : D → Rs δ} (h : Rc r A) (g : ∀ d, Rf e' (k (truth d)) (F d)) : Rf e' (r.bind k) (A.bnd F) := by
  intro y q
  cases r with
  | none => cases q
  | some x =>
    obtain ⟨d, h1, h2⟩ := h x rfl
    rw [h1]
    subst h2
    exact g d y q
def Rs.o {α : Type} : Rs α → Option α
  | .ok a => some a
  | _ => none
theorem r_o {γ : Type} (s : Rs γ) : Rf (fun x => x) s.o s := by
  intro x q
  cases s with
  | ok a => cases q; rfl
  | ex d => cases q
  | st => cases q
/-! ### from one telling to another -/
section
variable {α β γ δ σ ρ : Type} {e : α → D} {e' : β → D} {s : Rs D}
theorem r_enc {r : Option α} (h : Rf e r s) : Rf eD (r.map e) s := fun y q => by
  cases r with
  | none => cases q
  | some x => cases q; exact h x rfl
/-- what a datum says -/
def Dc (e : α → D) (dec : D → Option α) : Prop := ∀ d x, dec d = some x → d = e x
theorem r_dec {r : Option D} {dec : D → Option α} (hd : Dc e dec) (h : Rf eD r s) : Rf e (r.bind dec) s := fun y q => by
  cases r with
  | none => cases q
  | some x => rw [h x rfl]; exact congrArg Rs.ok (hd x y q)
theorem r_some {r : Option α} (h : Rf e r s) : Rf (eO e) (r.map some) s := fun y q => by
  cases r with
  | none => cases q
  | some x => cases q; exact h x rfl
theorem r_unw {r : Option (Option α)} (h : Rf (eO e) r s) : Rf e (r.bind fun x => x) s := fun y q => by
  cases r with
  | none => cases q
  | some x => cases x with
    | none => cases q
    | some x => cases q; exact h _ rfl
theorem r_cast {r r' : Option α} (h : Rf e r s) (q : r' = r) : Rf e r' s := q ▸ h
def dI : D → Option Int
  | .int i => some i
  | _ => none
def dB : D → Option Bool
  | .bool i => some i
  | _ => none
def dS : D → Option Str
  | .str i => some i
  | _ => none
def dN : D → Option Unit
  | .none => some ()
  | _ => none
def dMap (f : D → Option α) : List D → Option (List α)
  | [] => some []
  | d :: ds => (f d).bind fun x => (dMap f ds).bind fun xs => some (x :: xs)
def dL (f : D → Option α) : D → Option (List α)
  | .list ds => dMap f ds
  | _ => none
def dT (f : D → Option α) : D → Option (List α)
  | .tuple ds => dMap f ds
  | _ => none
def du (f : D → Option α) : List D → Option α
  | [d] => f d
  | _ => none
def dc (f : D → Option α) (g : List D → Option β) : List D → Option (α × β)
  | d :: ds => (f d).bind fun x => (g ds).bind fun y => some (x, y)
  | _ => none
def dP (f : List D → Option α) : D → Option α
  | .tuple ds => f ds
  | _ => none
def dO (f : D → Option α) (d : D) : Option (Option α) := if isNone d then some none else (f d).map some
theorem dc_I : Dc eI dI := fun d x h => by cases d <;> cases h; rfl
theorem dc_B : Dc eB dB := fun d x h => by cases d <;> cases h; rfl
theorem dc_S : Dc eS dS := fun d x h => by cases d <;> cases h; rfl
theorem dc_N : Dc eN dN := fun d x h => by cases d <;> cases h; rfl
theorem dMap_ok {f : D → Option α} (h : Dc e f) : ∀ (ds : List D) (xs : List α), dMap f ds = some xs → ds = xs.map e
  | [], xs, q => by cases q; rfl
  | d :: ds, xs, q => by
    unfold dMap at q
    cases h1 : f d with
    | none => rw [h1] at q; cases q
    | some x =>
      rw [h1] at q
      cases h2 : dMap f ds with
      | none => rw [h2] at q; cases q
      | some ys => rw [h2] at q; cases q; rw [List.map_cons, h d x h1, dMap_ok h ds ys h2]
theorem dc_L {f : D → Option α} (h : Dc e f) : Dc (eL e) (dL f) := fun d x q => by
  cases d <;> first | (cases q; done) | exact congrArg PyData.list (dMap_ok h _ _ q)
theorem dc_T {f : D → Option α} (h : Dc e f) : Dc (eT e) (dT f) := fun d x q => by
  cases d <;> first | (cases q; done) | exact congrArg PyData.tuple (dMap_ok h _ _ q)
/-- of rows -/
def Dcs (e : α → List D) (dec : List D → Option α) : Prop := ∀ d x, dec d = some x → d = e x
theorem dc_1 {f : D → Option α} (h : Dc e f) : Dcs (f1 e) (du f) := fun ds x q => by
  match ds, q with
  | [d], q => rw [h d x q]; rfl
  | [], q => cases q
  | _ :: _ :: _, q => cases q
theorem dc_c {f : D → Option α} {g : List D → Option β} {eg : β → List D} (h : Dc e f) (hg : Dcs eg g) : Dcs (fc e eg) (dc f g) := fun ds x q => by
  match ds, q with
  | [], q => cases q
  | d :: ds, q =>
    have q : ((f d).bind fun x => (g ds).bind fun y => some (x, y)) = some x := q
    cases h1 : f d with
    | none => rw [h1] at q; cases q
    | some x =>
      rw [h1] at q
      cases h2 : g ds with
      | none => rw [h2] at q; cases q
      | some ys => rw [h2] at q; cases q; rw [h d x h1, hg ds ys h2]; rfl
theorem dc_P {f : α → List D} {g : List D → Option α} (h : Dcs f g) : Dc (eP f) (dP g) := fun d x q => by
  cases d <;> first | (cases q; done) | exact congrArg PyData.tuple (h _ _ q)
theorem dc_O {f : D → Option α} (h : Dc e f) : Dc (eO e) (dO f) := fun d x q => by
  unfold dO at q
  split at q
  · rename_i z
    cases q
    cases d <;> first | rfl | (simp [isNone] at z)
  · cases h1 : f d with
    | none => rw [h1] at q; cases q
    | some y => rw [h1] at q; cases q; exact h d y h1
end
/-! ### expressions -/
section
variable {φ : Nat → List D → Rs D} {ε : Env} {α β γ δ : Type} {e : α → D} {e' : β → D}
theorem r_lit {d : D} {x : α} (h : d = e x) : Rf e (some x) (ev φ (.lit d) ε) := r_of (by simp only [ev]; rw [h])
theorem r_gl {d : D} {x : α} (h : d = e x) : Rf e (some x) (ev φ (.gl d) ε) := r_of (by simp only [ev]; rw [h])
theorem r_var {i : Nat} {x : α} (h : ε[i]? = some (.f (e x))) : Rf e (some x) (ev φ (.var i) ε) := r_of (by simp only [ev]; rw [h])
theorem r_wv {i : Nat} {x : α} (h : ε[i]? = some (.f (e x))) : Rf e (some x) (ev φ (.wv i) ε) := r_of (by simp only [ev]; rw [h])
theorem r_wo {i : Nat} {x : α} (h : ε[i]? = some (.o (e x))) : Rf e (some x) (ev φ (.wv i) ε) := r_of (by simp only [ev]; rw [h])
theorem bin2 {op : Op2} {x y : E} {a : Option α} {b : Option β} {c : Option γ} {e1 : α → D} {e2 : β → D} {e3 : γ → D} {k : α → β → Option γ} (ha : Rf e1 a (ev φ x ε)) (hb : Rf e2 b (ev φ y ε)) (h : ∀ u v, Rf e3 (k u v) (binD op (e1 u) (e2 v))) : Rf e3 (a.bind fun u => b.bind fun v => k u v) (ev φ (.bin op x y) ε) := by
  simp only [ev]
  exact ha.bnd fun u => hb.bnd fun v => h u v
theorem r_add {x y : E} {a b : Option Int} (ha : Rf eI a (ev φ x ε)) (hb : Rf eI b (ev φ y ε)) : Rf eI (a.bind fun u => b.bind fun v => some (u + v)) (ev φ (.bin .add x y) ε) := bin2 (c := none) ha hb fun u v => r_of rfl
theorem r_sub {x y : E} {a b : Option Int} (ha : Rf eI a (ev φ x ε)) (hb : Rf eI b (ev φ y ε)) : Rf eI (a.bind fun u => b.bind fun v => some (u - v)) (ev φ (.bin .sub x y) ε) := bin2 (c := none) ha hb fun u v => r_of rfl
theorem r_if {c : Prop} [Decidable c] {x : α} {d : γ} {f : α → γ} (h : d = f x) : Rf f (if c then some x else none) (if c then .ok d else .st) := by
  split
  · exact r_of (congrArg Rs.ok h)
  · exact r_no
theorem r_mul {x y : E} {a b : Option Int} (ha : Rf eI a (ev φ x ε)) (hb : Rf eI b (ev φ y ε)) : Rf eI (a.bind fun u => b.bind fun v => if mulOk u v = true then some (u * v) else none) (ev φ (.bin .mul x y) ε) := bin2 (c := none) ha hb fun u v => r_if rfl
theorem r_div {x y : E} {a b : Option Int} (ha : Rf eI a (ev φ x ε)) (hb : Rf eI b (ev φ y ε)) : Rf eI (a.bind fun u => b.bind fun v => if 0 < v ∧ v < 1073741824 then some (u / v) else none) (ev φ (.bin .fdiv x y) ε) := bin2 (c := none) ha hb fun u v => r_if rfl
theorem r_mod {x y : E} {a b : Option Int} (ha : Rf eI a (ev φ x ε)) (hb : Rf eI b (ev φ y ε)) : Rf eI (a.bind fun u => b.bind fun v => if 0 < v then some (u % v) else none) (ev φ (.bin .mod x y) ε) := bin2 (c := none) ha hb fun u v => r_if rfl
theorem r_pow {x y : E} {a b : Option Int} (ha : Rf eI a (ev φ x ε)) (hb : Rf eI b (ev φ y ε)) : Rf eI (a.bind fun u => b.bind fun v => if 0 ≤ v ∧ v ≤ 1000000 ∧ u.natAbs < 2 ^ 64 then some (u ^ v.toNat) else none) (ev φ (.bin .pow x y) ε) := bin2 (c := none) ha hb fun u v => r_if rfl
/-- two rows, one behind the other -/
def catM (xs ys : List α) : Option (List α) := if xs.length + ys.length ≤ LIM then some (xs ++ ys) else none
theorem r_addL {x y : E} {a b : Option (List α)} (ha : Rf (eL e) a (ev φ x ε)) (hb : Rf (eL e) b (ev φ y ε)) : Rf (eL e) (a.bind fun u => b.bind fun v => catM u v) (ev φ (.bin .add x y) ε) := bin2 (c := none) ha hb fun u v => by
  show Rf (eL e) _ (if (u.map e).length + (v.map e).length ≤ LIM then .ok (PyData.list (u.map e ++ v.map e)) else .st)
  rw [List.length_map, List.length_map]
  exact r_if (by rw [← List.map_append]; rfl)
theorem r_addT {x y : E} {a b : Option (List α)} (ha : Rf (eT e) a (ev φ x ε)) (hb : Rf (eT e) b (ev φ y ε)) : Rf (eT e) (a.bind fun u => b.bind fun v => catM u v) (ev φ (.bin .add x y) ε) := bin2 (c := none) ha hb fun u v => by
  show Rf (eT e) _ (if (u.map e).length + (v.map e).length ≤ LIM then .ok (PyData.tuple (u.map e ++ v.map e)) else .st)
  rw [List.length_map, List.length_map]
  exact r_if (by rw [← List.map_append]; rfl)
theorem r_binD {op : Op2} {x y : E} {a b : Option D} (ha : Rf eD a (ev φ x ε)) (hb : Rf eD b (ev φ y ε)) : Rf eD (a.bind fun u => b.bind fun v => (binD op u v).o) (ev φ (.bin op x y) ε) := bin2 (c := none) ha hb fun u v => r_o _
theorem r_neg {x : E} {a : Option Int} (ha : Rf eI a (ev φ x ε)) : Rf eI (a.map fun u => -u) (ev φ (.neg x) ε) := by
  simp only [ev]
  exact ha.map fun u => rfl
/-! conditions -/
theorem c_of {x : E} {r : Option α} {t : α → Bool} (ht : ∀ x, truth (e x) = t x) (h : Rf e r (ev φ x ε)) : Rc (r.map t) (ev φ x ε) := fun b q => by
  cases r with
  | none => cases q
  | some u => cases q; exact ⟨_, h u rfl, ht u⟩
theorem c_B {x : E} {r : Option Bool} (h : Rf eB r (ev φ x ε)) : Rc r (ev φ x ε) := fun b q => ⟨_, h b q, rfl⟩
theorem c_and {x y : E} {a b : Option Bool} (ha : Rc a (ev φ x ε)) (hb : Rc b (ev φ y ε)) : Rc (a.bind fun u => if u = true then b else some false) (ev φ (.and_ x y) ε) := fun c q => by
  cases a with
  | none => cases q
  | some u =>
    obtain ⟨d, h1, h2⟩ := ha u rfl
    simp only [ev]
    rw [h1, Rs.bnd_ok, h2]
    cases u with
    | true => exact hb c q
    | false => cases q; exact ⟨d, rfl, h2⟩
theorem c_or {x y : E} {a b : Option Bool} (ha : Rc a (ev φ x ε)) (hb : Rc b (ev φ y ε)) : Rc (a.bind fun u => if u = true then some true else b) (ev φ (.or_ x y) ε) := fun c q => by
  cases a with
  | none => cases q
  | some u =>
    obtain ⟨d, h1, h2⟩ := ha u rfl
    simp only [ev]
    rw [h1, Rs.bnd_ok, h2]
    cases u with
    | false => exact hb c q
    | true => cases q; exact ⟨d, rfl, h2⟩
theorem r_not {x : E} {a : Option Bool} (ha : Rc a (ev φ x ε)) : Rf eB (a.map fun u => !u) (ev φ (.not_ x) ε) := fun c q => by
  cases a with
  | none => cases q
  | some u =>
    obtain ⟨d, h1, h2⟩ := ha u rfl
    cases q
    simp only [ev]
    rw [h1, Rs.bnd_ok, h2]; rfl
theorem r_and {x y : E} {a b : Option Bool} (ha : Rf eB a (ev φ x ε)) (hb : Rf eB b (ev φ y ε)) : Rf eB (a.bind fun u => if u = true then b else some false) (ev φ (.and_ x y) ε) := by
  simp only [ev]
  refine ha.bnd fun u => ?_
  cases u with
  | true => exact hb
  | false => exact r_of rfl
theorem r_or {x y : E} {a b : Option Bool} (ha : Rf eB a (ev φ x ε)) (hb : Rf eB b (ev φ y ε)) : Rf eB (a.bind fun u => if u = true then some true else b) (ev φ (.or_ x y) ε) := by
  simp only [ev]
  refine ha.bnd fun u => ?_
  cases u with
  | true => exact r_of rfl
  | false => exact hb
theorem r_ite {c x y : E} {q : Option Bool} {a b : Option α} (hc : Rc q (ev φ c ε)) (ha : Rf e a (ev φ x ε)) (hb : Rf e b (ev φ y ε)) : Rf e (q.bind fun u => if u = true then a else b) (ev φ (.ite c x y) ε) := by
  simp only [ev]
  refine hc.bnd fun d => ?_
  split
  · exact ha
  · exact hb
/-! comparisons -/
def cI (o : Cp) (u v : Int) : Bool := match o with
  | .eq => decide (u = v)
  | .ne => !decide (u = v)
  | .lt => decide (u < v)
  | .le => decide (u ≤ v)
  | .gt => decide (v < u)
  | .ge => decide (v ≤ u)
  | _ => false
def oI : Cp → Bool
  | .eq => true | .ne => true | .lt => true | .le => true | .gt => true | .ge => true | _ => false
theorem cmpI {o : Cp} (h : oI o = true) (u v : Int) : cmpD o (.int u) (.int v) = .ok (.bool (cI o u v)) := by
  cases o <;> first | (cases h; done) | skip
  · exact eqD_int' u v
  · show notD (cmpD .eq _ _) = _
    rw [eqD_int']; rfl
  · exact cmp_lt u v
  · exact cmp_le u v
  · exact cmp_gt u v
  · exact cmp_ge u v
theorem r_cmpI {o : Cp} {x y : E} {a b : Option Int} (h : oI o = true) (ha : Rf eI a (ev φ x ε)) (hb : Rf eI b (ev φ y ε)) : Rf eB (a.bind fun u => b.bind fun v => some (cI o u v)) (ev φ (.cmp o x y) ε) := by
  simp only [ev]
  exact ha.bnd fun u => hb.bnd fun v => r_of (cmpI h u v)
theorem r_chI {o o' : Cp} {x y z : E} {a b c : Option Int} (h : oI o = true) (h' : oI o' = true) (ha : Rf eI a (ev φ x ε)) (hb : Rf eI b (ev φ y ε)) (hc : Rf eI c (ev φ z ε)) : Rf eB (a.bind fun u => b.bind fun v => if cI o u v = true then c.bind fun w => some (cI o' v w) else some false) (ev φ (.chain o o' x y z) ε) := by
  simp only [ev]
  refine ha.bnd fun u => hb.bnd fun v => ?_
  show Rf eB _ ((cmpD o (.int u) (.int v)).bnd _)
  rw [cmpI h]
  cases cI o u v with
  | true => exact hc.bnd fun w => r_of (cmpI h' v w)
  | false => exact r_of rfl
theorem r_eqS {x y : E} {a b : Option Str} (ha : Rf eS a (ev φ x ε)) (hb : Rf eS b (ev φ y ε)) : Rf eB (a.bind fun u => b.bind fun v => some (decide (u = v))) (ev φ (.cmp .eq x y) ε) := by
  simp only [ev]
  exact ha.bnd fun u => hb.bnd fun v => r_of (eqD_str u v)
theorem r_neS {x y : E} {a b : Option Str} (ha : Rf eS a (ev φ x ε)) (hb : Rf eS b (ev φ y ε)) : Rf eB (a.bind fun u => b.bind fun v => some (!decide (u = v))) (ev φ (.cmp .ne x y) ε) := by
  simp only [ev]
  exact ha.bnd fun u => hb.bnd fun v => r_of (ne_str u v)
theorem r_eqB {x y : E} {a b : Option Bool} (ha : Rf eB a (ev φ x ε)) (hb : Rf eB b (ev φ y ε)) : Rf eB (a.bind fun u => b.bind fun v => some (decide (u = v))) (ev φ (.cmp .eq x y) ε) := by
  simp only [ev]
  exact ha.bnd fun u => hb.bnd fun v => r_of (eqD_bool u v)
theorem r_neB {x y : E} {a b : Option Bool} (ha : Rf eB a (ev φ x ε)) (hb : Rf eB b (ev φ y ε)) : Rf eB (a.bind fun u => b.bind fun v => some (!decide (u = v))) (ev φ (.cmp .ne x y) ε) := by
  simp only [ev]
  exact ha.bnd fun u => hb.bnd fun v => r_of (by
    show notD (cmpD .eq (.bool u) (.bool v)) = _
    rw [eqD_bool]; rfl)
def cmpM (o : Cp) (u v : D) : Option Bool := (cmpD o u v).o.bind dB
theorem r_cmpD {o : Cp} {x y : E} {a b : Option D} (ha : Rf eD a (ev φ x ε)) (hb : Rf eD b (ev φ y ε)) : Rf eB (a.bind fun u => b.bind fun v => cmpM o u v) (ev φ (.cmp o x y) ε) := by
  simp only [ev]
  exact ha.bnd fun u => hb.bnd fun v => r_dec dc_B (r_o _)
theorem r_isN {x : E} {a : Option (Option α)} (hn : ∀ x, isNone (e x) = false) (ha : Rf (eO e) a (ev φ x ε)) : Rf eB (a.map fun u => u.isNone) (ev φ (.cmp .is_ x (.lit .none)) ε) := by
  simp only [ev]
  refine ha.map fun u => ?_
  cases u with
  | none => rfl
  | some u => show Rs.ok (PyData.bool (isNone (e u))) = _; rw [hn]; rfl
theorem r_isnN {x : E} {a : Option (Option α)} (hn : ∀ x, isNone (e x) = false) (ha : Rf (eO e) a (ev φ x ε)) : Rf eB (a.map fun u => u.isSome) (ev φ (.cmp .isn x (.lit .none)) ε) := by
  simp only [ev]
  refine ha.map fun u => ?_
  cases u with
  | none => rfl
  | some u => show Rs.ok (PyData.bool (!isNone (e u))) = _; rw [hn]; rfl
theorem r_isB {x : E} {c : Bool} {a : Option Bool} (ha : Rf eB a (ev φ x ε)) : Rf eB (a.map fun u => u == c) (ev φ (.cmp .is_ x (.lit (.bool c))) ε) := by
  simp only [ev]
  exact ha.map fun u => rfl
theorem r_isnB {x : E} {c : Bool} {a : Option Bool} (ha : Rf eB a (ev φ x ε)) : Rf eB (a.map fun u => !(u == c)) (ev φ (.cmp .isn x (.lit (.bool c))) ε) := by
  simp only [ev]
  exact ha.map fun u => rfl
/-! rows -/
theorem a_n : Rf f0 (some ()) (evs φ [] ε) := r_of (by simp only [evs]; rfl)
theorem a_1 {x : E} {a : Option α} (ha : Rf e a (ev φ x ε)) : Rf (f1 e) a (evs φ [x] ε) := fun u q => by
  simp only [evs]
  rw [ha u q]; rfl
theorem a_c {x y : E} {ys : List E} {a : Option α} {b : Option β} {f : β → List D} (ha : Rf e a (ev φ x ε)) (hb : Rf f b (evs φ (y :: ys) ε)) : Rf (fc e f) (a.bind fun u => b.bind fun v => some (u, v)) (evs φ (x :: y :: ys) ε) := by
  rw [evs]
  exact ha.bnd fun u => hb.bnd fun v => r_of rfl
theorem h_n : Rf (List.map e) (some []) (evs φ [] ε) := r_of (by simp only [evs]; rfl)
theorem h_c {x : E} {ys : List E} {a : Option α} {b : Option (List α)} (ha : Rf e a (ev φ x ε)) (hb : Rf (List.map e) b (evs φ ys ε)) : Rf (List.map e) (a.bind fun u => b.bind fun v => some (u :: v)) (evs φ (x :: ys) ε) := by
  rw [evs]
  exact ha.bnd fun u => hb.bnd fun v => r_of rfl
theorem r_tup {es : List E} {a : Option α} {f : α → List D} (h : Rf f a (evs φ es ε)) : Rf (eP f) a (ev φ (.tup es) ε) := fun u q => by
  simp only [ev]
  rw [h u q]; rfl
theorem r_tupH {es : List E} {a : Option (List α)} (h : Rf (List.map e) a (evs φ es ε)) : Rf (eT e) a (ev φ (.tup es) ε) := fun u q => by
  simp only [ev]
  rw [h u q]; rfl
theorem r_lstH {es : List E} {a : Option (List α)} (h : Rf (List.map e) a (evs φ es ε)) : Rf (eL e) a (ev φ (.lst es) ε) := fun u q => by
  simp only [ev]
  rw [h u q]; rfl
theorem r_dnew {k : β → D} : Rf (eK k e) (some []) (ev φ .dnew ε) := r_of (by simp only [ev]; rfl)
/-! places -/
theorem ixD_map (xs : List α) (i : Int) : ixD (xs.map e) i = (ixD xs i).map e := by
  unfold ixD
  rw [List.length_map, List.getElem?_map, List.getElem?_map]
  split
  · rfl
  · split <;> rfl
theorem r_ixL {x y : E} {a : Option (List α)} {b : Option Int} (ha : Rf (eL e) a (ev φ x ε)) (hb : Rf eI b (ev φ y ε)) : Rf e (a.bind fun u => b.bind fun v => ixD u v) (ev φ (.idx x y) ε) := by
  simp only [ev]
  refine ha.bnd fun u => hb.bnd fun v => ?_
  show Rf e _ (Rs.of (ixD (u.map e) v))
  rw [ixD_map]
  cases ixD u v with
  | none => exact r_no
  | some w => exact r_of rfl
theorem r_ixT {x y : E} {a : Option (List α)} {b : Option Int} (ha : Rf (eT e) a (ev φ x ε)) (hb : Rf eI b (ev φ y ε)) : Rf e (a.bind fun u => b.bind fun v => ixD u v) (ev φ (.idx x y) ε) := by
  simp only [ev]
  refine ha.bnd fun u => hb.bnd fun v => ?_
  show Rf e _ (Rs.of (ixD (u.map e) v))
  rw [ixD_map]
  cases ixD u v with
  | none => exact r_no
  | some w => exact r_of rfl
theorem r_ixP {x : E} {i : Int} {a : Option α} {p : α → β} (hp : ∀ u, idxD (e u) (.int i) = .ok (e' (p u))) (ha : Rf e a (ev φ x ε)) : Rf e' (a.map p) (ev φ (.idx x (.lit (.int i))) ε) := by
  simp only [ev]
  exact ha.map fun u => hp u
theorem r_ixN {x : E} {i : Int} {a : Option α} {p : α → β} (hp : ∀ u, idxD (e u) (.int (-i)) = .ok (e' (p u))) (ha : Rf e a (ev φ x ε)) : Rf e' (a.map p) (ev φ (.idx x (.neg (.lit (.int i)))) ε) := by
  simp only [ev]
  exact ha.map fun u => hp u
theorem r_ixD {x y : E} {a b : Option D} (ha : Rf eD a (ev φ x ε)) (hb : Rf eD b (ev φ y ε)) : Rf eD (a.bind fun u => b.bind fun v => (idxD u v).o) (ev φ (.idx x y) ε) := by
  simp only [ev]
  exact ha.bnd fun u => hb.bnd fun v => r_o _
theorem o_n : Rf (fun x => x) (some none) (evo φ none ε) := r_of (by simp only [evo])
theorem o_s {x : E} {a : Option Int} (ha : Rf eI a (ev φ x ε)) : Rf (fun x => x) (a.map some) (evo φ (some x) ε) := by
  simp only [evo]
  exact ha.map fun u => rfl
theorem r_slL {x : E} {l h : Option E} {a : Option (List α)} {b c : Option (Option Int)} (ha : Rf (eL e) a (ev φ x ε)) (hb : Rf (fun x => x) b (evo φ l ε)) (hc : Rf (fun x => x) c (evo φ h ε)) : Rf (eL e) (a.bind fun u => b.bind fun v => c.bind fun w => some (cutD u v w)) (ev φ (.sli x l h) ε) := by
  simp only [ev]
  refine ha.bnd fun u => hb.bnd fun v => hc.bnd fun w => r_of ?_
  show Rs.ok (PyData.list (cutD (u.map e) v w)) = _
  rw [cut_map]; rfl
theorem r_slT {x : E} {l h : Option E} {a : Option (List α)} {b c : Option (Option Int)} (ha : Rf (eT e) a (ev φ x ε)) (hb : Rf (fun x => x) b (evo φ l ε)) (hc : Rf (fun x => x) c (evo φ h ε)) : Rf (eT e) (a.bind fun u => b.bind fun v => c.bind fun w => some (cutD u v w)) (ev φ (.sli x l h) ε) := by
  simp only [ev]
  refine ha.bnd fun u => hb.bnd fun v => hc.bnd fun w => r_of ?_
  show Rs.ok (PyData.tuple (cutD (u.map e) v w)) = _
  rw [cut_map]; rfl
theorem r_rvL {x : E} {a : Option (List α)} (ha : Rf (eL e) a (ev φ x ε)) : Rf (eL e) (a.map List.reverse) (ev φ (.rev x) ε) := by
  simp only [ev]
  refine ha.map fun u => ?_
  show Rs.ok (PyData.list (u.map e).reverse) = _
  rw [← List.map_reverse]; rfl
theorem r_rvT {x : E} {a : Option (List α)} (ha : Rf (eT e) a (ev φ x ε)) : Rf (eT e) (a.map List.reverse) (ev φ (.rev x) ε) := by
  simp only [ev]
  refine ha.map fun u => ?_
  show Rs.ok (PyData.tuple (u.map e).reverse) = _
  rw [← List.map_reverse]; rfl
/-! what is walked -/
theorem i_L {x : E} {a : Option (List α)} (ha : Rf (eL e) a (ev φ x ε)) : Rf (List.map e) a (evi φ (.seq x) ε) := fun u q => by
  simp only [evi]
  rw [ha u q]; rfl
theorem i_T {x : E} {a : Option (List α)} (ha : Rf (eT e) a (ev φ x ε)) : Rf (List.map e) a (evi φ (.seq x) ε) := fun u q => by
  simp only [evi]
  rw [ha u q]; rfl
theorem i_D {x : E} {a : Option D} (ha : Rf eD a (ev φ x ε)) : Rf (List.map eD) (a.bind fun u => (seqD u).o) (evi φ (.seq x) ε) := by
  simp only [evi]
  refine ha.bnd fun u => ?_
  show Rf _ _ (seqD u)
  intro y q
  cases h : seqD u with
  | ok z => rw [h] at q; cases q; rw [show eD = (fun d => d) from rfl, List.map_id']
  | ex d => rw [h] at q; cases q
  | st => rw [h] at q; cases q
theorem i_rL {x : E} {a : Option (List α)} (ha : Rf (eL e) a (ev φ x ε)) : Rf (List.map e) (a.map List.reverse) (evi φ (.rev x) ε) := by
  simp only [evi]
  refine ha.map fun u => ?_
  show Rs.ok (u.map e).reverse = _
  rw [List.map_reverse]
theorem i_rT {x : E} {a : Option (List α)} (ha : Rf (eT e) a (ev φ x ε)) : Rf (List.map e) (a.map List.reverse) (evi φ (.rev x) ε) := by
  simp only [evi]
  refine ha.map fun u => ?_
  show Rs.ok (u.map e).reverse = _
  rw [List.map_reverse]
/-- range -/
def rgL (lo : Int) (n : Nat) : List Int := (List.range n).map fun i : Nat => lo + (i : Int)
def rgM (lo hi : Int) : Option (List Int) := if -(2 ^ 62) ≤ lo ∧ lo < 2 ^ 62 ∧ -(2 ^ 62) ≤ hi ∧ hi < 2 ^ 62 ∧ (hi - lo).toNat ≤ LIM then some (rgL lo (hi - lo).toNat) else none
theorem rgM_ok (lo hi : Int) : Rf (List.map eI) (rgM lo hi) (rngD lo hi) := by
  unfold rgM rngD
  refine r_if ?_
  unfold rngL rgL
  rw [List.map_map]; rfl
theorem i_r1 {x : E} {a : Option Int} (ha : Rf eI a (ev φ x ε)) : Rf (List.map eI) (a.bind fun u => rgM 0 u) (evi φ (.rng1 x) ε) := by
  simp only [evi]
  exact ha.bnd fun u => rgM_ok 0 u
theorem i_r2 {x y : E} {a b : Option Int} (ha : Rf eI a (ev φ x ε)) (hb : Rf eI b (ev φ y ε)) : Rf (List.map eI) (a.bind fun u => b.bind fun v => rgM u v) (evi φ (.rng2 x y) ε) := by
  simp only [evi]
  exact ha.bnd fun u => hb.bnd fun v => rgM_ok u v
theorem i_r3 {x y z : E} {a b c : Option Int} (ha : Rf eI a (ev φ x ε)) (hb : Rf eI b (ev φ y ε)) (hc : Rf eI c (ev φ z ε)) : Rf (List.map eI) (a.bind fun u => b.bind fun v => c.bind fun w => if w = -1 ∧ -1 ≤ v ∧ -1 ≤ u then (rgM (v + 1) (u + 1)).map List.reverse else none) (evi φ (.rng3 x y z) ε) := by
  simp only [evi]
  refine ha.bnd fun u => hb.bnd fun v => hc.bnd fun w => ?_
  show Rf _ _ (if w = -1 ∧ -1 ≤ v ∧ -1 ≤ u then (rngD (v + 1) (u + 1)).bnd fun ds => .ok ds.reverse else .st)
  split
  · exact (rgM_ok _ _).map fun ds => by rw [List.map_reverse]
  · exact r_no
/-! comprehensions -/
def mapF (f : α → Option (Option β)) : List α → Option (List β)
  | [] => some []
  | x :: xs => (f x).bind fun y => (mapF f xs).bind fun ys => some (match y with | some y => y :: ys | none => ys)
def mapL (f : α → Option (List β)) : List α → Option (List β)
  | [] => some []
  | x :: xs => (f x).bind fun y => (mapL f xs).bind fun ys => some (y ++ ys)
theorem lcL_mapF {turn : D → Rs (List D)} {f : α → Option (Option β)} (h : ∀ x y, f x = some y → turn (e x) = .ok (y.toList.map e')) : ∀ xs : List α, Rf (List.map e') (mapF f xs) (lcL turn (xs.map e))
  | [] => r_of rfl
  | x :: xs => by
    have ih := lcL_mapF h xs
    intro z q
    rw [mapF] at q
    rw [List.map_cons, lcL]
    cases h1 : f x with
    | none => rw [h1] at q; cases q
    | some y =>
      rw [h1] at q
      cases h2 : mapF f xs with
      | none => rw [h2] at q; cases q
      | some ys =>
        rw [h2] at q
        cases q
        rw [h x y h1, ih ys h2]
        cases y <;> rfl
theorem lcL_mapL {turn : D → Rs (List D)} {f : α → Option (List β)} (h : ∀ x y, f x = some y → turn (e x) = .ok (y.map e')) : ∀ xs : List α, Rf (List.map e') (mapL f xs) (lcL turn (xs.map e))
  | [] => r_of rfl
  | x :: xs => by
    have ih := lcL_mapL h xs
    intro z q
    rw [mapL] at q
    rw [List.map_cons, lcL]
    cases h1 : f x with
    | none => rw [h1] at q; cases q
    | some y =>
      rw [h1] at q
      cases h2 : mapL f xs with
      | none => rw [h2] at q; cases q
      | some ys =>
        rw [h2] at q
        cases q
        rw [h x y h1, ih ys h2, List.map_append]; rfl
theorem Rf.lst {r : Option (List β)} {A : Rs (List D)} (h : Rf (List.map e') r A) : Rf (eL e') r (A.bnd fun ys => .ok (.list ys)) := fun u q => by rw [h u q]; rfl
theorem r_lc0 {vs : List Nat} {elt : E} {tg : Pt} {it : It} {r : Option (List α)} {ε' : α → Env} {f : α → Option β} (hi : Rf (List.map e) r (evi φ it ε)) (hb : ∀ x, bnd tg (e x) (wipeE ε vs) = .ok (ε' x)) (he : ∀ x, Rf e' (f x) (ev φ elt (ε' x))) :
    Rf (eL e') (r.bind fun xs => mapF (fun x => (f x).map some) xs) (ev φ (.lc vs elt tg it none) ε) := by
  simp only [ev]
  refine hi.bnd fun xs => ?_
  refine Rf.lst (lcL_mapF (f := fun x => (f x).map some) (e' := e') (fun x y q => ?_) xs)
  rw [hb, Rs.bnd_ok]
  cases h1 : f x with
  | none => rw [h1] at q; cases q
  | some z =>
    rw [h1] at q
    cases q
    simp only [evc]
    rw [Rs.bnd_ok, if_pos rfl, he x z h1]; rfl
theorem r_lc1 {vs : List Nat} {elt cd : E} {tg : Pt} {it : It} {r : Option (List α)} {ε' : α → Env} {f : α → Option β} {c : α → Option Bool} (hi : Rf (List.map e) r (evi φ it ε)) (hb : ∀ x, bnd tg (e x) (wipeE ε vs) = .ok (ε' x)) (hc : ∀ x, Rc (c x) (ev φ cd (ε' x))) (he : ∀ x, Rf e' (f x) (ev φ elt (ε' x))) :
    Rf (eL e') (r.bind fun xs => mapF (fun x => (c x).bind fun b => if b = true then (f x).map some else some none) xs) (ev φ (.lc vs elt tg it (some cd)) ε) := by
  simp only [ev]
  refine hi.bnd fun xs => ?_
  refine Rf.lst (lcL_mapF (f := fun x => (c x).bind fun b => if b = true then (f x).map some else some none) (e' := e') (fun x y q => ?_) xs)
  rw [hb, Rs.bnd_ok]
  simp only [evc]
  cases h0 : c x with
  | none => rw [h0] at q; cases q
  | some b =>
    rw [h0] at q
    obtain ⟨d, g1, g2⟩ := hc x b h0
    rw [g1, Rs.bnd_ok, Rs.bnd_ok, g2]
    cases b with
    | false => cases q; rfl
    | true =>
      simp only [Option.bind_some, if_true] at q
      cases h1 : f x with
      | none => rw [h1] at q; cases q
      | some z => rw [h1] at q; cases q; rw [if_pos rfl, he x z h1]; rfl
/-- a condition that may be missing -/
def Rcc (r : Option Bool) (cd : Option E) (φ : Nat → List D → Rs D) (ε : Env) : Prop := ∀ b, r = some b → evc φ cd ε = .ok b
theorem cc_n : Rcc (some true) none φ ε := fun b q => by cases q; simp only [evc]
theorem cc_s {x : E} {r : Option Bool} (h : Rc r (ev φ x ε)) : Rcc r (some x) φ ε := fun b q => by
  obtain ⟨d, g1, g2⟩ := h b q
  simp only [evc]
  rw [g1, Rs.bnd_ok, g2]
theorem r_lc2 {vs vs1 : List Nat} {elt : E} {cd cd1 : Option E} {tg tg1 : Pt} {it it1 : It} {r : Option (List α)} {r1 : α → Option (List δ)} {ed : δ → D} {ε' : α → Env} {ε'' : α → δ → Env} {f : α → δ → Option β} {c : α → Option Bool} {c1 : α → δ → Option Bool}
    (hi : Rf (List.map e) r (evi φ it ε)) (hb : ∀ x, bnd tg (e x) (wipeE ε vs) = .ok (ε' x)) (hc : ∀ x, Rcc (c x) cd φ (ε' x)) (hi1 : ∀ x, Rf (List.map ed) (r1 x) (evi φ it1 (ε' x))) (hb1 : ∀ x y, bnd tg1 (ed y) (wipeE (ε' x) vs1) = .ok (ε'' x y)) (hc1 : ∀ x y, Rcc (c1 x y) cd1 φ (ε'' x y)) (he : ∀ x y, Rf e' (f x y) (ev φ elt (ε'' x y))) :
    Rf (eL e') (r.bind fun xs => (mapL (fun x => (c x).bind fun b => if b = true then (r1 x).bind fun ys => mapF (fun y => (c1 x y).bind fun b => if b = true then (f x y).map some else some none) ys else some []) xs).bind fun zs => if zs.length ≤ LIM then some zs else none) (ev φ (.lc2 vs vs1 elt tg it cd tg1 it1 cd1) ε) := by
  simp only [ev]
  refine hi.bnd fun xs => ?_
  refine (lcL_mapL (e' := e') (fun x y q => ?_) xs).bnd fun zs => ?_
  · rw [hb, Rs.bnd_ok]
    cases h0 : c x with
    | none => rw [h0] at q; cases q
    | some b =>
      rw [h0] at q
      rw [hc x b h0, Rs.bnd_ok]
      cases b with
      | false => cases q; rfl
      | true =>
        simp only [Option.bind_some, if_true] at q ⊢
        cases h1 : r1 x with
        | none => rw [h1] at q; cases q
        | some ys =>
          rw [h1] at q
          rw [hi1 x ys h1, Rs.bnd_ok]
          refine lcL_mapF (e := ed) (e' := e') (fun z w g => ?_) ys y q
          rw [hb1, Rs.bnd_ok]
          cases h2 : c1 x z with
          | none => rw [h2] at g; cases g
          | some b =>
            rw [h2] at g
            rw [hc1 x z b h2, Rs.bnd_ok]
            cases b with
            | false => cases g; rfl
            | true =>
              simp only [Option.bind_some, if_true] at g ⊢
              cases h3 : f x z with
              | none => rw [h3] at g; cases g
              | some v => rw [h3] at g; cases g; rw [he x z v h3]; rfl
  · show Rf (eL e') _ (if (zs.map e').length ≤ LIM then .ok (.list (zs.map e')) else .st)
    rw [List.length_map]
    exact r_if rfl
/-! calls, built-ins -/
theorem r_call {i : Nat} {es : List E} {f : α → List D} {r : Option α} {m : α → Option β} (ha : Rf f r (evs φ es ε)) (h : ∀ x, Rf e' (m x) (φ i (f x))) : Rf e' (r.bind m) (ev φ (.call i es) ε) := by
  simp only [ev]
  exact ha.bnd h
theorem r_nm {x : E} {r : Option α} (hn : ∀ x, noMut (e x) = true) (h : Rf e r (ev φ x (ε.map frzS))) : Rf e r (ev φ (.nomut x) ε) := fun u q => by
  simp only [ev]
  rw [h u q, nmR_ok, if_pos (hn u)]
theorem r_nmD {x : E} {r : Option D} (h : Rf eD r (ev φ x (ε.map frzS))) : Rf eD (r.bind fun u => if noMut u = true then some u else none) (ev φ (.nomut x) ε) := fun u q => by
  simp only [ev]
  cases r with
  | none => cases q
  | some v =>
    have q : (if noMut v = true then some v else none) = some u := q
    split at q
    · rename_i z; cases q; rw [h _ rfl, nmR_ok]; exact if_pos z
    · cases q
theorem r_bi1 {b : Bi} {x : E} {a : Option α} {k : α → Option β} (ha : Rf e a (ev φ x ε)) (h : ∀ u, Rf e' (k u) (biD b [e u])) : Rf e' (a.bind k) (ev φ (.bi b [x]) ε) := by
  simp only [ev, evs]
  intro y q
  cases a with
  | none => cases q
  | some u => rw [ha u rfl]; exact h u y q
theorem r_bi2 {b : Bi} {x y : E} {a : Option α} {c : Option β} {eg : γ → D} {k : α → β → Option γ} (ha : Rf e a (ev φ x ε)) (hc : Rf e' c (ev φ y ε)) (h : ∀ u v, Rf eg (k u v) (biD b [e u, e' v])) : Rf eg (a.bind fun u => c.bind fun v => k u v) (ev φ (.bi b [x, y]) ε) := by
  simp only [ev, evs]
  intro z q
  cases a with
  | none => cases q
  | some u =>
    rw [ha u rfl]
    cases c with
    | none => cases q
    | some v => rw [hc v rfl]; exact h u v z q
theorem b_lenL (u : List α) : Rf eI (some (u.length : Int)) (biD .len [eL e u]) := r_of (by show Rs.ok (PyData.int ((u.map e).length : Nat)) = _; rw [List.length_map]; rfl)
theorem b_lenT (u : List α) : Rf eI (some (u.length : Int)) (biD .len [eT e u]) := r_of (by show Rs.ok (PyData.int ((u.map e).length : Nat)) = _; rw [List.length_map]; rfl)
theorem b_lenS (u : Str) : Rf eI (some (u.length : Int)) (biD .len [eS u]) := r_of rfl
theorem b_lenK {k : β → D} (u : List (β × α)) : Rf eI (some (u.length : Int)) (biD .len [eK k e u]) := r_of (by show Rs.ok (PyData.int ((u.map fun p => (k p.1, e p.2)).length : Nat)) = _; rw [List.length_map]; rfl)
def lenM (d : D) : Option Int := (biD .len [d]).o.bind dI
theorem b_lenD (u : D) : Rf eI (lenM u) (biD .len [eD u]) := r_dec dc_I (r_o _)
theorem b_abs (u : Int) : Rf eI (some (if u < 0 then -u else u)) (biD .abs [eI u]) := r_of rfl
theorem b_max2 (u v : Int) : Rf eI (some (if v > u then v else u)) (biD .max [eI u, eI v]) := r_of rfl
theorem b_min2 (u v : Int) : Rf eI (some (if v < u then v else u)) (biD .min [eI u, eI v]) := r_of rfl
theorem allOk_eI (l : List Int) : allOk (l.map eI) = true := by
  have h1 : ∀ x ∈ l.map eI, ∃ a, x = .int a := by
    intro x hx
    obtain ⟨v, _, rfl⟩ := List.mem_map.mp hx
    exact ⟨_, rfl⟩
  unfold allOk
  generalize l.map eI = xs at *
  refine List.all_eq_true.mpr fun x hx => ?_
  obtain ⟨a, rfl⟩ := h1 x hx
  rw [Bool.and_eq_true]
  refine ⟨by simp [isNone], List.all_eq_true.mpr fun z hz => ?_⟩
  obtain ⟨b, rfl⟩ := h1 z hz
  rfl
def maxI : List Int → Option Int
  | [] => none
  | x :: xs => some (xs.foldl max x)
def minI : List Int → Option Int
  | [] => none
  | x :: xs => some (xs.foldl min x)
theorem maxL_I (l : List Int) : maxL (l.map eI) = (maxI l).map eI := by
  cases l with
  | nil => rfl
  | cons x xs => exact congrArg some (PySem.W.maxD_ints x xs)
theorem minL_I (l : List Int) : minL (l.map eI) = (minI l).map eI := by
  cases l with
  | nil => rfl
  | cons x xs => exact congrArg some (PySem.W.minD_ints x xs)
theorem b_maxL (u : List Int) : Rf eI (maxI u) (biD .max [eL eI u]) := fun y q => by
  show (if allOk (u.map eI) then Rs.of (maxL (u.map eI)) else .st) = _
  rw [if_pos (allOk_eI u), maxL_I, q]; rfl
theorem b_maxT (u : List Int) : Rf eI (maxI u) (biD .max [eT eI u]) := fun y q => by
  show (if allOk (u.map eI) then Rs.of (maxL (u.map eI)) else .st) = _
  rw [if_pos (allOk_eI u), maxL_I, q]; rfl
theorem b_minL (u : List Int) : Rf eI (minI u) (biD .min [eL eI u]) := fun y q => by
  show (if allOk (u.map eI) then Rs.of (minL (u.map eI)) else .st) = _
  rw [if_pos (allOk_eI u), minL_I, q]; rfl
theorem b_minT (u : List Int) : Rf eI (minI u) (biD .min [eT eI u]) := fun y q => by
  show (if allOk (u.map eI) then Rs.of (minL (u.map eI)) else .st) = _
  rw [if_pos (allOk_eI u), minL_I, q]; rfl
theorem b_maxd (u : List Int) (v : Int) : Rf eI (some ((maxI u).getD v)) (biD .maxd [eL eI u, eI v]) := r_of (by
  show (if allOk (u.map eI) then Rs.ok ((maxL (u.map eI)).getD (eI v)) else .st) = _
  rw [if_pos (allOk_eI u), maxL_I]
  cases maxI u <;> rfl)
theorem b_mind (u : List Int) (v : Int) : Rf eI (some ((minI u).getD v)) (biD .mind [eL eI u, eI v]) := r_of (by
  show (if allOk (u.map eI) then Rs.ok ((minL (u.map eI)).getD (eI v)) else .st) = _
  rw [if_pos (allOk_eI u), minL_I]
  cases minI u <;> rfl)
theorem b_sum (u : List Int) : Rf eI (some u.sum) (biD .sum [eL eI u]) := r_of (by
  have := sum_map' (p := fun i : Int => i) (l := u)
  rw [List.map_id'] at this
  exact this)
theorem b_any (u : List Bool) : Rf eB (some (u.any id)) (biD .any [eL eB u]) := r_of (by
  have := any_map' (p := fun i : Bool => i) (l := u)
  exact this)
theorem b_all (u : List Bool) : Rf eB (some (u.all id)) (biD .all [eL eB u]) := r_of (by
  have := all_map (p := fun i : Bool => i) (l := u)
  exact this)
theorem b_tupL (u : List α) : Rf (eT e) (some u) (biD .tuple [eL e u]) := r_of rfl
theorem b_tupT (u : List α) : Rf (eT e) (some u) (biD .tuple [eT e u]) := r_of rfl
theorem b_lstL (u : List α) : Rf (eL e) (some u) (biD .list [eL e u]) := r_of rfl
theorem b_lstT (u : List α) : Rf (eL e) (some u) (biD .list [eT e u]) := r_of rfl
theorem b_intI (u : Int) : Rf eI (some u) (biD .int [eI u]) := r_of rfl
theorem b_intB (u : Bool) : Rf eI (some (if u then 1 else 0)) (biD .int [eB u]) := r_of rfl
theorem b_gcd (u v : Int) : Rf eI (some ((Nat.gcd u.natAbs v.natAbs : Nat) : Int)) (biD .gcd [eI u, eI v]) := r_of rfl
def sortM (e : α → D) (u : List α) : Option (List α) := if sortOk (u.map e) = true then some (sortD (fun a b => leT (e a) (e b)) u) else none
theorem b_sortL (u : List α) : Rf (eL e) (sortM e u) (biD .sorted [eL e u]) := by
  show Rf (eL e) _ (if sortOk (u.map e) then .ok (.list (sortD leT (u.map e))) else .st)
  exact r_if (by rw [sortD_map]; rfl)
theorem b_sortT (u : List α) : Rf (eL e) (sortM e u) (biD .sorted [eT e u]) := by
  show Rf (eL e) _ (if sortOk (u.map e) then .ok (.list (sortD leT (u.map e))) else .st)
  exact r_if (by rw [sortD_map]; rfl)
theorem b_D {b : Bi} (u : D) : Rf eD (biD b [u]).o (biD b [eD u]) := r_o _
theorem b_D2 {b : Bi} (u v : D) : Rf eD (biD b [u, v]).o (biD b [eD u, eD v]) := r_o _
theorem r_isi {x : E} {ts : List Ty} {a : Option D} (ha : Rf eD a (ev φ x ε)) : Rf eB (a.map fun u => ts.any fun t => tyIs t u) (ev φ (.isi x ts) ε) := by
  simp only [ev]
  exact ha.map fun u => rfl
theorem r_inT {x : E} {ks : List Str} {n : Bool} {a : Option Str} (ha : Rf eS a (ev φ x ε)) : Rf eB (a.map fun u => if n = true then !ks.any (fun k => decide (k = u)) else ks.any fun k => decide (k = u)) (ev φ (.inT ks n x) ε) := by
  simp only [ev]
  exact ha.map fun u => rfl
theorem r_atT {x : E} {kvs : List (Str × D)} {a : Option Str} (ha : Rf eS a (ev φ x ε)) : Rf eD (a.bind fun u => tabAt kvs u) (ev φ (.atT kvs x) ε) := by
  simp only [ev]
  refine ha.bnd fun u => ?_
  show Rf eD _ (Rs.of (tabAt kvs u))
  cases tabAt kvs u with
  | none => exact r_no
  | some v => exact r_of rfl
theorem r_lset {x : E} {a : Option D} (ha : Rf eD a (ev φ x ε)) : Rf eI (a.bind fun u => (lsetD u).o.bind dI) (ev φ (.lset x) ε) := by
  simp only [ev]
  exact ha.bnd fun u => r_dec dc_I (r_o _)
/-- sorted by keys -/
def sortKM {κ : Type} (ek : κ → D) (xs : List α) (ks : List κ) : Option (List α) := if sortOk (ks.map ek) = true then some ((sortD (fun a b : α × κ => leT (ek a.2) (ek b.2)) (xs.zip ks)).map Prod.fst) else none
theorem keysL_T {κ : Type} {ek : κ → D} {f : D → Rs D} {m : α → Option κ} (h : ∀ x, Rf ek (m x) (f (e x))) : ∀ xs : List α, Rf (List.map ek) (xs.mapM m) (keysL f (xs.map e))
  | [] => r_of rfl
  | x :: xs => by
    have ih := keysL_T h xs
    rw [List.map_cons, keysL, List.mapM_cons]
    intro z q
    cases h1 : m x with
    | none => rw [h1] at q; cases q
    | some y =>
      rw [h1] at q
      cases h2 : xs.mapM m with
      | none => rw [h2] at q; cases q
      | some ys => rw [h2] at q; cases q; rw [h x y h1, ih ys h2]; rfl
theorem r_sortk {κ : Type} {ek : κ → D} {i : Nat} {x : E} {a : Option (List α)} {m : α → Option κ} (h : ∀ x, Rf ek (m x) (φ i [e x])) (ha : Rf (eL e) a (ev φ x ε)) : Rf (eL e) (a.bind fun xs => (xs.mapM m).bind fun ks => sortKM ek xs ks) (ev φ (.sortk i x) ε) := by
  simp only [ev]
  refine ha.bnd fun xs => ?_
  show Rf (eL e) _ ((keysL _ (xs.map e)).bnd _)
  refine (keysL_T h xs).bnd fun ks => ?_
  refine r_if ?_
  unfold sortK
  have z : (xs.map e).zip (ks.map ek) = (xs.zip ks).map fun p => (e p.1, ek p.2) := by rw [List.zip_map]; rfl
  rw [z, sortD_map, List.map_map]
  show _ = PyData.list _
  rw [List.map_map]; rfl
end
end Ws

set_option Elab.async false
set_option linter.all false
set_option maxRecDepth 100000
set_option maxHeartbeats 4000000
/-! Ty3: statements with types -/
namespace Ws
open PySem
/-- a turn's end -/
inductive Out (σ ρ : Type) where
  | nx (s : σ) | ct (s : σ) | br (s : σ) | rt (r : ρ)
/-- what is asked of an end -/
def RG {β : Type} (P : β → Rs (Fl × Env) → Prop) (r : Option β) (s : Rs (Fl × Env)) : Prop := ∀ b, r = some b → P b s
structure Gd {β : Type} (P : β → Rs (Fl × Env) → Prop) : Prop where
  ok : ∀ b s, P b s → ∃ p, s = .ok p
  up : ∀ b f a a', Ele a a' → P b (.ok (f, a)) → P b (.ok (f, a'))
/-- a def's end -/
def PF {ρ : Type} (er : ρ → D) : ρ → Rs (Fl × Env) → Prop := fun x s => ∃ f ε, s = .ok (f, ε) ∧ retv (f, ε) = .ok (er x)
theorem gF {ρ : Type} {er : ρ → D} : Gd (PF er) := ⟨fun b s ⟨f, ε, h, _⟩ => ⟨_, h⟩, fun b f a a' _ ⟨f', ε, h, g⟩ => by
  cases h
  refine ⟨f, a', rfl, ?_⟩
  cases f <;> exact g⟩
/-- a turn's end, the slots as mk tells -/
def PB {σ ρ : Type} (mk : σ → Env) (er : ρ → D) : Out σ ρ → Rs (Fl × Env) → Prop
  | .nx s, r => ∃ ε, r = .ok (.nx, ε) ∧ Ele (mk s) ε
  | .ct s, r => ∃ ε, r = .ok (.ct, ε) ∧ Ele (mk s) ε
  | .br s, r => ∃ ε, r = .ok (.br, ε) ∧ Ele (mk s) ε
  | .rt x, r => ∃ ε, r = .ok (.rt (er x), ε)
theorem gB {σ ρ : Type} {mk : σ → Env} {er : ρ → D} : Gd (PB mk er) := by
  refine ⟨fun b s h => ?_, fun b f a a' e h => ?_⟩
  · cases b with
    | nx => obtain ⟨ε, h, _⟩ := h; exact ⟨_, h⟩
    | ct => obtain ⟨ε, h, _⟩ := h; exact ⟨_, h⟩
    | br => obtain ⟨ε, h, _⟩ := h; exact ⟨_, h⟩
    | rt => obtain ⟨ε, h⟩ := h; exact ⟨_, h⟩
  · cases b with
    | nx => obtain ⟨ε, h, g⟩ := h; cases h; exact ⟨_, rfl, g.trans e⟩
    | ct => obtain ⟨ε, h, g⟩ := h; cases h; exact ⟨_, rfl, g.trans e⟩
    | br => obtain ⟨ε, h, g⟩ := h; cases h; exact ⟨_, rfl, g.trans e⟩
    | rt => obtain ⟨ε, h⟩ := h; cases h; exact ⟨_, rfl⟩
/-- a plain turn's end -/
def PN {σ : Type} (mk : σ → Env) : σ → Rs (Fl × Env) → Prop := fun s r => ∃ ε, r = .ok (.nx, ε) ∧ Ele (mk s) ε
theorem gN {σ : Type} {mk : σ → Env} : Gd (PN mk) := ⟨fun b s ⟨ε, h, _⟩ => ⟨_, h⟩, fun b f a a' e ⟨ε, h, g⟩ => by cases h; exact ⟨_, rfl, g.trans e⟩⟩
section
variable {φ : Nat → List D → Rs D} {ε : Env} {α β γ σ ρ : Type} {e : α → D} {er : ρ → D} {P : β → Rs (Fl × Env) → Prop} {ss : List S}
theorem Gd.lift (G : Gd P) {r : Option β} {a b : Env} (h : RG P r (exSs φ ss a)) (g : Ele a b) : RG P r (exSs φ ss b) := fun x q => by
  have := h x q
  obtain ⟨⟨f, c⟩, hp⟩ := G.ok _ _ this
  obtain ⟨⟨f', c'⟩, h1, h2, h3⟩ := exSs_mono ss g _ hp
  rw [hp] at this
  rw [h1]
  cases h2
  exact G.up _ _ _ _ h3 this
theorem y_asg {t : Pt} {x : E} {fr : Bool} {lk : List Nat} {r : Option α} {k : α → Option β} {ε' : α → Env} (hb : ∀ u, putF (frzE ε lk) t (e u) fr = .ok (ε' u)) (he : Rf e r (ev φ x (frzE ε lk))) (hk : ∀ u, RG P (k u) (exSs φ ss (ε' u))) : RG P (r.bind k) (exSs φ (.asg t x fr lk :: ss) ε) := fun y q => by
  cases r with
  | none => cases q
  | some u =>
    simp only [exSs, exS]
    rw [he u rfl, Rs.bnd_ok, hb]
    exact hk u y q
theorem y_drop {x : E} {lk : List Nat} {r : Option α} {k : α → Option β} {ε' : Env} (hb : frzE ε lk = ε') (he : Rf e r (ev φ x (frzE ε lk))) (hk : ∀ u, RG P (k u) (exSs φ ss ε')) : RG P (r.bind k) (exSs φ (.drop x lk :: ss) ε) := fun y q => by
  cases r with
  | none => cases q
  | some u =>
    simp only [exSs, exS]
    rw [he u rfl, Rs.bnd_ok, hb]
    exact hk u y q
theorem y_par {i j : Nat} {x y : E} {lk : List Nat} {e' : γ → D} {r : Option α} {r' : Option γ} {k : α → γ → Option β} {ε' : α → γ → Env} (hb : ∀ u v, put (put (frzE ε lk) i (e u)) j (e' v) = ε' u v) (hx : Rf e r (ev φ x (frzE ε lk))) (hy : Rf e' r' (ev φ y (frzE ε lk))) (hk : ∀ u v, RG P (k u v) (exSs φ ss (ε' u v))) : RG P (r.bind fun u => r'.bind fun v => k u v) (exSs φ (.par i j x y lk :: ss) ε) := fun z q => by
  cases r with
  | none => cases q
  | some u =>
    cases r' with
    | none => cases q
    | some v =>
      simp only [exSs, exS]
      rw [hx u rfl, Rs.bnd_ok, hy v rfl, Rs.bnd_ok, hb]
      exact hk u v z q
theorem y_aug {i : Nat} {o : Op2} {x : E} {lk : List Nat} {a r : Option Int} {op : Int → Int → Option Int} {k : Int → Option β} {ε' : Int → Env} (ho : ∀ u v, Rf eI (op u v) (binD o (.int u) (.int v))) (hb : ∀ n, put (frzE ε lk) i (.int n) = ε' n) (ha : Rf eI a (ev φ (.var i) (frzE ε lk))) (he : Rf eI r (ev φ x (frzE ε lk))) (hk : ∀ u, RG P (k u) (exSs φ ss (ε' u))) : RG P (a.bind fun u => r.bind fun v => (op u v).bind k) (exSs φ (.aug i o x lk :: ss) ε) := fun z q => by
  cases a with
  | none => cases q
  | some u =>
    cases r with
    | none => cases q
    | some v =>
      cases h : op u v with
      | none => simp only [Option.bind_some, h] at q; cases q
      | some n =>
        simp only [Option.bind_some, h] at q
        simp only [exSs, exS]
        rw [ha u rfl, Rs.bnd_ok, he v rfl, Rs.bnd_ok]
        have := ho u v n h
        rw [show binD o (eI u) (eI v) = _ from this, Rs.bnd_ok]
        show P z ((Rs.ok (Fl.nx, put (frzE ε lk) i (.int n))).bnd _)
        rw [Rs.bnd_ok, hb]
        exact hk n z q
theorem ag_add (u v : Int) : Rf eI (some (u + v)) (binD .add (.int u) (.int v)) := r_of rfl
theorem ag_sub (u v : Int) : Rf eI (some (u - v)) (binD .sub (.int u) (.int v)) := r_of rfl
theorem y_app {i : Nat} {x : E} {lk : List Nat} {xs : List α} {r : Option α} {k : α → Option β} {ε' : α → Env} (h : (frzE ε lk)[i]? = some (.o (eL e xs))) (hb : ∀ u, puto (frzE ε lk) i (eL e (xs ++ [u])) = ε' u) (he : Rf e r (ev φ x (frzE ε lk))) (hk : ∀ u, RG P (k u) (exSs φ ss (ε' u))) :
    RG P (r.bind fun u => if xs.length < LIM then k u else none) (exSs φ (.app i x lk :: ss) ε) := fun y q => by
  cases r with
  | none => cases q
  | some u =>
    have q : (if xs.length < LIM then k u else none) = some y := q
    split at q
    · rename_i hl
      simp only [exSs, exS, own, h]
      rw [he u rfl]
      show P y (((if (xs.map e).length < LIM then Rs.ok (Fl.nx, puto (frzE ε lk) i (.list (xs.map e ++ [e u]))) else .st)).bnd _)
      rw [List.length_map, if_pos hl, Rs.bnd_ok]
      have : PyData.list (xs.map e ++ [e u]) = eL e (xs ++ [u]) := by unfold eL; rw [List.map_append]; rfl
      rw [this, hb]
      exact hk u y q
    · cases q
/-- x[i] = v -/
def setM (xs : List α) (i : Int) (v : α) : Option (List α) := (L2.ixN xs.length i).map fun j => xs.set j v
theorem y_setL {i : Nat} {x y : E} {lk : List Nat} {xs : List α} {a : Option Int} {r : Option α} {k : List α → Option β} {ε' : List α → Env} (h : (frzE ε lk)[i]? = some (.o (eL e xs))) (hb : ∀ u, puto (frzE ε lk) i (eL e u) = ε' u) (hx : Rf eI a (ev φ x (frzE ε lk))) (hy : Rf e r (ev φ y (frzE ε lk))) (hk : ∀ u, RG P (k u) (exSs φ ss (ε' u))) :
    RG P (r.bind fun v => a.bind fun u => (setM xs u v).bind k) (exSs φ (.seti i x y lk :: ss) ε) := fun z q => by
  cases r with
  | none => cases q
  | some v =>
    cases a with
    | none => cases q
    | some u =>
      have q : ((setM xs u v).bind k) = some z := q
      unfold setM at q
      cases hj : L2.ixN xs.length u with
      | none => rw [hj] at q; cases q
      | some j =>
        rw [hj] at q
        simp only [exSs, exS, own, h]
        rw [hy v rfl, Rs.bnd_ok, Rs.bnd_ok, hx u rfl, Rs.bnd_ok]
        show P z (((((Rs.of (L2.ixN (xs.map e).length u)).bnd fun j => Rs.ok (PyData.list ((xs.map e).set j (e v)))).bnd fun d' => .ok (Fl.nx, puto (frzE ε lk) i d'))).bnd _)
        rw [List.length_map, hj, Rs.of_some, Rs.bnd_ok, Rs.bnd_ok, Rs.bnd_ok]
        have : PyData.list ((xs.map e).set j (e v)) = eL e (xs.set j v) := by unfold eL; rw [List.map_set]
        rw [this, hb]
        exact hk _ z q
theorem y_ret {x : E} {r : Option ρ} {w : ρ → β} (hP : ∀ u ε, P (w u) (.ok (.rt (er u), ε))) (he : Rf er r (ev φ x (ε.map frzS))) : RG P (r.map w) (exSs φ (.ret x :: ss) ε) := fun y q => by
  cases r with
  | none => cases q
  | some u =>
    cases q
    simp only [exSs, exS]
    rw [he u rfl]
    exact hP u ε
theorem y_retn {u : ρ} {w : β} (h : er u = .none) (hP : ∀ ε, P w (.ok (.rt (er u), ε))) : RG P (some w) (exSs φ (.retn :: ss) ε) := fun y q => by
  cases q
  simp only [exSs, exS]
  rw [← h]
  exact hP ε
theorem y_end {b : β} (h : P b (.ok (.nx, ε))) : RG P (some b) (exSs φ [] ε) := fun y q => by
  cases q
  simp only [exSs]
  exact h
theorem y_brk {b : β} (h : P b (.ok (.br, ε))) : RG P (some b) (exSs φ (.brk :: ss) ε) := fun y q => by
  cases q
  simp only [exSs, exS]
  exact h
theorem y_cont {b : β} (h : P b (.ok (.ct, ε))) : RG P (some b) (exSs φ (.cont :: ss) ε) := fun y q => by
  cases q
  simp only [exSs, exS]
  exact h
theorem y_pass {r : Option β} (h : RG P r (exSs φ ss ε)) : RG P r (exSs φ (.pass :: ss) ε) := fun y q => by
  simp only [exSs, exS]
  exact h y q
theorem y_stuck {s : S} : RG P none (exSs φ (s :: ss) ε) := fun y q => by cases q
theorem exSs_app : ∀ (A ss : List S) (ε : Env), exSs φ (A ++ ss) ε = (exSs φ A ε).bnd fun p => match p with
    | (.nx, ε') => exSs φ ss ε'
    | (f, ε') => .ok (f, ε')
  | [], ss, ε => by simp only [List.nil_append, exSs, Rs.bnd_ok]
  | s :: A, ss, ε => by
    simp only [List.cons_append, exSs]
    cases h : exS φ s ε with
    | ok p =>
      obtain ⟨f, ε'⟩ := p
      simp only [Rs.bnd_ok]
      cases f with
      | nx => exact exSs_app A ss ε'
      | br => rfl
      | ct => rfl
      | rt d => rfl
    | ex d => rfl
    | st => rfl
/-- what follows stands behind both -/
theorem y_if {x : E} {A B : List S} {c : Option Bool} {a b : Option β} (hc : Rc c (ev φ x (ε.map frzS))) (ha : RG P a (exSs φ (A ++ ss) ε)) (hb : RG P b (exSs φ (B ++ ss) ε)) : RG P (c.bind fun u => if u = true then a else b) (exSs φ (.iff x A B :: ss) ε) := fun y q => by
  cases c with
  | none => cases q
  | some u =>
    obtain ⟨d, h1, h2⟩ := hc u rfl
    simp only [exSs, exS]
    rw [h1, Rs.bnd_ok, h2]
    cases u with
    | true =>
      have := ha y q
      rw [exSs_app] at this
      exact this
    | false =>
      have := hb y q
      rw [exSs_app] at this
      exact this
/-- both ways meet -/
theorem y_ifN {x : E} {A B : List S} {c : Option Bool} {a b : Option σ} {mk : σ → Env} {k : σ → Option β} (G : Gd P) (hc : Rc c (ev φ x (ε.map frzS))) (ha : RG (PN mk) a (exSs φ A ε)) (hb : RG (PN mk) b (exSs φ B ε)) (hk : ∀ s, RG P (k s) (exSs φ ss (mk s))) : RG P ((c.bind fun u => if u = true then a else b).bind k) (exSs φ (.iff x A B :: ss) ε) := fun y q => by
  cases c with
  | none => cases q
  | some u =>
    obtain ⟨d, h1, h2⟩ := hc u rfl
    simp only [exSs, exS]
    rw [h1, Rs.bnd_ok, h2]
    have key : ∀ (T : List S) (t : Option σ), RG (PN mk) t (exSs φ T ε) → t.bind k = some y → P y ((exSs φ T ε).bnd fun p => match p with
      | (.nx, ε') => exSs φ ss ε'
      | (f, ε') => .ok (f, ε')) := fun T t ht qt => by
      cases t with
      | none => cases qt
      | some s =>
        obtain ⟨ε', g1, g2⟩ := ht s rfl
        rw [g1, Rs.bnd_ok]
        exact G.lift (hk s) g2 y qt
    cases u with
    | true => exact key A a ha q
    | false => exact key B b hb q
/-- .. where a way may leave -/
def outK (k : σ → Option β) (kc kb : σ → Option β) (w : ρ → β) : Out σ ρ → Option β
  | .nx s => k s
  | .ct s => kc s
  | .br s => kb s
  | .rt x => some (w x)
theorem y_ifB {x : E} {A B : List S} {c : Option Bool} {a b : Option (Out σ ρ)} {mk : σ → Env} {k kc kb : σ → Option β} {w : ρ → β} (G : Gd P) (hw : ∀ u ε, P (w u) (.ok (.rt (er u), ε))) (hcc : ∀ s ε b, Ele (mk s) ε → kc s = some b → P b (.ok (.ct, ε))) (hbb : ∀ s ε b, Ele (mk s) ε → kb s = some b → P b (.ok (.br, ε))) (hc : Rc c (ev φ x (ε.map frzS))) (ha : RG (PB mk er) a (exSs φ A ε)) (hb : RG (PB mk er) b (exSs φ B ε)) (hk : ∀ s, RG P (k s) (exSs φ ss (mk s))) :
    RG P ((c.bind fun u => if u = true then a else b).bind (outK k kc kb w)) (exSs φ (.iff x A B :: ss) ε) := fun y q => by
  cases c with
  | none => cases q
  | some u =>
    obtain ⟨d, h1, h2⟩ := hc u rfl
    simp only [exSs, exS]
    rw [h1, Rs.bnd_ok, h2]
    have key : ∀ (T : List S) (t : Option (Out σ ρ)), RG (PB mk er) t (exSs φ T ε) → t.bind (outK k kc kb w) = some y → P y ((exSs φ T ε).bnd fun p => match p with
      | (.nx, ε') => exSs φ ss ε'
      | (f, ε') => .ok (f, ε')) := fun T t ht qt => by
      cases t with
      | none => cases qt
      | some s =>
        have h := ht s rfl
        cases s with
        | nx s =>
          obtain ⟨ε', g1, g2⟩ := h
          rw [g1, Rs.bnd_ok]
          exact G.lift (hk s) g2 y qt
        | ct s =>
          obtain ⟨ε', g1, g2⟩ := h
          rw [g1, Rs.bnd_ok]
          exact hcc s ε' y g2 qt
        | br s =>
          obtain ⟨ε', g1, g2⟩ := h
          rw [g1, Rs.bnd_ok]
          exact hbb s ε' y g2 qt
        | rt u =>
          obtain ⟨ε', g1⟩ := h
          rw [g1, Rs.bnd_ok]
          cases qt
          exact hw u ε'
    cases u with
    | true => exact key A a ha q
    | false => exact key B b hb q
/-! loops -/
/-- a walk whose turns may leave -/
def forT (f : α → σ → Option (Out σ ρ)) : List α → σ → Option (σ ⊕ ρ)
  | [], s => some (.inl s)
  | x :: xs, s => (f x s).bind fun
    | .nx s' => forT f xs s'
    | .ct s' => forT f xs s'
    | .br s' => some (.inl s')
    | .rt r => some (.inr r)
def forN (f : α → σ → Option σ) : List α → σ → Option σ
  | [], s => some s
  | x :: xs, s => (f x s).bind fun s' => forN f xs s'
def sumK (k : σ → Option β) (w : ρ → β) : σ ⊕ ρ → Option β
  | .inl s => k s
  | .inr x => some (w x)
theorem exFor_T {mk : σ → Env} {step : D → Env → Rs (Fl × Env)} {f : α → σ → Option (Out σ ρ)} (h : ∀ x s, RG (PB mk er) (f x s) (step (e x) (mk s))) (up : ∀ x {a b : Env}, Ele a b → Ror Pl (step x a) (step x b)) : ∀ (xs : List α) (s : σ) (ε : Env), Ele (mk s) ε → ∀ o, forT f xs s = some o → match o with
    | .inl s' => ∃ ε', exFor step (xs.map e) ε = .ok (.nx, ε') ∧ Ele (mk s') ε'
    | .inr r => ∃ ε', exFor step (xs.map e) ε = .ok (.rt (er r), ε')
  | [], s, ε, g, o, q => by cases q; exact ⟨ε, rfl, g⟩
  | x :: xs, s, ε, g, o, q => by
    rw [forT] at q
    cases h1 : f x s with
    | none => rw [h1] at q; cases q
    | some u =>
      rw [h1] at q
      have hu := h x s u h1
      rw [List.map_cons]
      simp only [exFor]
      cases u with
      | nx s' =>
        obtain ⟨ε1, e1, e2⟩ := hu
        obtain ⟨⟨f', ε2⟩, e3, e4, e5⟩ := up (e x) g _ e1
        cases e4
        rw [e3, Rs.bnd_ok]
        exact exFor_T h up xs s' ε2 (e2.trans e5) o q
      | ct s' =>
        obtain ⟨ε1, e1, e2⟩ := hu
        obtain ⟨⟨f', ε2⟩, e3, e4, e5⟩ := up (e x) g _ e1
        cases e4
        rw [e3, Rs.bnd_ok]
        exact exFor_T h up xs s' ε2 (e2.trans e5) o q
      | br s' =>
        obtain ⟨ε1, e1, e2⟩ := hu
        obtain ⟨⟨f', ε2⟩, e3, e4, e5⟩ := up (e x) g _ e1
        cases e4
        cases q
        rw [e3, Rs.bnd_ok]
        exact ⟨ε2, rfl, e2.trans e5⟩
      | rt r =>
        obtain ⟨ε1, e1⟩ := hu
        obtain ⟨⟨f', ε2⟩, e3, e4, e5⟩ := up (e x) g _ e1
        cases e4
        cases q
        rw [e3, Rs.bnd_ok]
        exact ⟨ε2, rfl⟩
theorem exFor_N {mk : σ → Env} {step : D → Env → Rs (Fl × Env)} {f : α → σ → Option σ} (h : ∀ x s, RG (PN mk) (f x s) (step (e x) (mk s))) (up : ∀ x {a b : Env}, Ele a b → Ror Pl (step x a) (step x b)) : ∀ (xs : List α) (s : σ) (ε : Env), Ele (mk s) ε → ∀ s', forN f xs s = some s' → ∃ ε', exFor step (xs.map e) ε = .ok (.nx, ε') ∧ Ele (mk s') ε'
  | [], s, ε, g, o, q => by cases q; exact ⟨ε, rfl, g⟩
  | x :: xs, s, ε, g, o, q => by
    rw [forN] at q
    cases h1 : f x s with
    | none => rw [h1] at q; cases q
    | some u =>
      rw [h1] at q
      obtain ⟨ε1, e1, e2⟩ := h x s u h1
      rw [List.map_cons]
      simp only [exFor]
      obtain ⟨⟨f', ε2⟩, e3, e4, e5⟩ := up (e x) g _ e1
      cases e4
      rw [e3, Rs.bnd_ok]
      exact exFor_N h up xs u ε2 (e2.trans e5) o q
theorem step_up (t : Pt) (body : List S) : ∀ x {a b : Env}, Ele a b → Ror Pl ((bnd t x a).bnd fun ε'' => exSs φ body ε'') ((bnd t x b).bnd fun ε'' => exSs φ body ε'') := fun x a b g => (bnd_mono.1 t x g).bndR fun p q r => exSs_mono body r
theorem y_for {t : Pt} {it : It} {body : List S} {lk : List Nat} {r : Option (List α)} {f : α → σ → Option (Out σ ρ)} {mk : σ → Env} {s0 : σ} {ε' : α → σ → Env} {k : σ → Option β} {w : ρ → β} (G : Gd P) (hw : ∀ u ε, P (w u) (.ok (.rt (er u), ε))) (h0 : Ele (mk s0) (frzE ε lk)) (hb : ∀ x s, bnd t (e x) (mk s) = .ok (ε' x s)) (hi : Rf (List.map e) r (evi φ it (frzE ε lk))) (hs : ∀ x s, RG (PB mk er) (f x s) (exSs φ body (ε' x s))) (hk : ∀ s, RG P (k s) (exSs φ ss (mk s))) :
    RG P (r.bind fun xs => (forT f xs s0).bind (sumK k w)) (exSs φ (.for_ t it body lk :: ss) ε) := fun y q => by
  cases r with
  | none => cases q
  | some xs =>
    have q : ((forT f xs s0).bind (sumK k w)) = some y := q
    cases h1 : forT f xs s0 with
    | none => rw [h1] at q; cases q
    | some o =>
      rw [h1] at q
      have := exFor_T (e := e) (er := er) (mk := mk) (step := fun x ε' => (bnd t x ε').bnd fun ε'' => exSs φ body ε'') (f := f) (fun x s => by rw [hb, Rs.bnd_ok]; exact hs x s) (step_up t body) xs s0 _ h0 o h1
      simp only [exSs, exS]
      rw [hi xs rfl, Rs.bnd_ok]
      cases o with
      | inl s' =>
        obtain ⟨ε1, e1, e2⟩ := this
        rw [e1, Rs.bnd_ok]
        exact G.lift (hk s') e2 y q
      | inr u =>
        obtain ⟨ε1, e1⟩ := this
        rw [e1, Rs.bnd_ok]
        cases q
        exact hw u ε1
theorem y_forN {t : Pt} {it : It} {body : List S} {lk : List Nat} {r : Option (List α)} {f : α → σ → Option σ} {mk : σ → Env} {s0 : σ} {ε' : α → σ → Env} {k : σ → Option β} (G : Gd P) (h0 : Ele (mk s0) (frzE ε lk)) (hb : ∀ x s, bnd t (e x) (mk s) = .ok (ε' x s)) (hi : Rf (List.map e) r (evi φ it (frzE ε lk))) (hs : ∀ x s, RG (PN mk) (f x s) (exSs φ body (ε' x s))) (hk : ∀ s, RG P (k s) (exSs φ ss (mk s))) :
    RG P (r.bind fun xs => (forN f xs s0).bind k) (exSs φ (.for_ t it body lk :: ss) ε) := fun y q => by
  cases r with
  | none => cases q
  | some xs =>
    have q : ((forN f xs s0).bind k) = some y := q
    cases h1 : forN f xs s0 with
    | none => rw [h1] at q; cases q
    | some o =>
      rw [h1] at q
      obtain ⟨ε1, e1, e2⟩ := exFor_N (e := e) (mk := mk) (step := fun x ε' => (bnd t x ε').bnd fun ε'' => exSs φ body ε'') (f := f) (fun x s => by rw [hb, Rs.bnd_ok]; exact hs x s) (step_up t body) xs s0 _ h0 o h1
      simp only [exSs, exS]
      rw [hi xs rfl, Rs.bnd_ok, e1, Rs.bnd_ok]
      exact G.lift (hk o) e2 y q
/-- while -/
def whT (c : σ → Option Bool) (f : σ → Option (Out σ ρ)) : Nat → σ → Option (σ ⊕ ρ)
  | 0, _ => none
  | n + 1, s => (c s).bind fun b => if b = true then (f s).bind fun
    | .nx s' => whT c f n s'
    | .ct s' => whT c f n s'
    | .br s' => some (.inl s')
    | .rt r => some (.inr r) else some (.inl s)
theorem exWh_T {mk : σ → Env} {cc : Env → Rs Bool} {step : Env → Rs (Fl × Env)} {c : σ → Option Bool} {f : σ → Option (Out σ ρ)} (hc : ∀ s b, c s = some b → cc (mk s) = .ok b) (h : ∀ s, RG (PB mk er) (f s) (step (mk s))) (upc : ∀ {a b : Env}, Ele a b → Rle (cc a) (cc b)) (up : ∀ {a b : Env}, Ele a b → Ror Pl (step a) (step b)) : ∀ (n : Nat) (s : σ) (ε : Env), Ele (mk s) ε → ∀ o, whT c f n s = some o → match o with
    | .inl s' => ∃ ε', exWh cc step n ε = .ok (.nx, ε') ∧ Ele (mk s') ε'
    | .inr r => ∃ ε', exWh cc step n ε = .ok (.rt (er r), ε')
  | 0, s, ε, g, o, q => by cases q
  | n + 1, s, ε, g, o, q => by
    rw [whT] at q
    cases h0 : c s with
    | none => rw [h0] at q; cases q
    | some b =>
      rw [h0] at q
      have hcb := upc g _ (hc s b h0)
      simp only [exWh]
      rw [hcb, Rs.bnd_ok]
      cases b with
      | false => cases q; exact ⟨ε, rfl, g⟩
      | true =>
        simp only [Option.bind_some, if_true] at q ⊢
        cases h1 : f s with
        | none => rw [h1] at q; cases q
        | some u =>
          rw [h1] at q
          have hu := h s u h1
          cases u with
          | nx s' =>
            obtain ⟨ε1, e1, e2⟩ := hu
            obtain ⟨⟨f', ε2⟩, e3, e4, e5⟩ := up g _ e1
            cases e4
            rw [e3, Rs.bnd_ok]
            exact exWh_T hc h upc up n s' ε2 (e2.trans e5) o q
          | ct s' =>
            obtain ⟨ε1, e1, e2⟩ := hu
            obtain ⟨⟨f', ε2⟩, e3, e4, e5⟩ := up g _ e1
            cases e4
            rw [e3, Rs.bnd_ok]
            exact exWh_T hc h upc up n s' ε2 (e2.trans e5) o q
          | br s' =>
            obtain ⟨ε1, e1, e2⟩ := hu
            obtain ⟨⟨f', ε2⟩, e3, e4, e5⟩ := up g _ e1
            cases e4
            cases q
            rw [e3, Rs.bnd_ok]
            exact ⟨ε2, rfl, e2.trans e5⟩
          | rt r =>
            obtain ⟨ε1, e1⟩ := hu
            obtain ⟨⟨f', ε2⟩, e3, e4, e5⟩ := up g _ e1
            cases e4
            cases q
            rw [e3, Rs.bnd_ok]
            exact ⟨ε2, rfl⟩
theorem y_whil {x : E} {body : List S} {c : σ → Option Bool} {f : σ → Option (Out σ ρ)} {mk : σ → Env} {s0 : σ} {k : σ → Option β} {w : ρ → β} (G : Gd P) (hw : ∀ u ε, P (w u) (.ok (.rt (er u), ε))) (h0 : Ele (mk s0) ε) (hc : ∀ s, Rc (c s) (ev φ x ((mk s).map frzS))) (hs : ∀ s, RG (PB mk er) (f s) (exSs φ body (mk s))) (hk : ∀ s, RG P (k s) (exSs φ ss (mk s))) :
    RG P ((whT c f WH s0).bind (sumK k w)) (exSs φ (.whil x body :: ss) ε) := fun y q => by
  cases h1 : whT c f WH s0 with
  | none => rw [h1] at q; cases q
  | some o =>
    rw [h1] at q
    have := exWh_T (er := er) (mk := mk) (cc := fun ε' => (ev φ x (ε'.map frzS)).bnd fun x => .ok (truth x)) (step := fun ε' => exSs φ body ε') (c := c) (f := f) (fun s b hb => by
      obtain ⟨d, g1, g2⟩ := hc s b hb
      show ((ev φ x ((mk s).map frzS)).bnd fun x => .ok (truth x)) = _
      rw [g1, Rs.bnd_ok, g2]) hs (fun {a b} g => ((ev_mono x).m g.frzAll).bnd fun _ => .refl _) (fun {a b} g => exSs_mono body g) WH s0 ε h0 o h1
    simp only [exSs, exS]
    cases o with
    | inl s' =>
      obtain ⟨ε1, e1, e2⟩ := this
      rw [e1, Rs.bnd_ok]
      exact G.lift (hk s') e2 y q
    | inr u =>
      obtain ⟨ε1, e1⟩ := this
      rw [e1, Rs.bnd_ok]
      cases q
      exact hw u ε1
end
/-- a def -/
theorem f_in {fs : List Fn} {k i : Nat} {f : Fn} {ds : List D} {ρ : Type} {er : ρ → D} {r : Option ρ} {ε : Env} (hf : fs[i]? = some f) (hl : ds.length = f.np) (hε : ds.map .f ++ List.replicate (f.n - f.np) .u = ε) (h : RG (PF er) r (exSs (call fs k) f.body ε)) : Rf er r (call fs (k + 1) i ds) := fun x q => by
  obtain ⟨fl, ε', h1, h2⟩ := h x q
  rw [call_at hf hl, hε, h1]
  exact h2
theorem pF_rt {ρ : Type} {er : ρ → D} (u : ρ) (ε : Env) : PF er u (.ok (.rt (er u), ε)) := ⟨_, _, rfl, rfl⟩
theorem pF_nx {ρ : Type} {er : ρ → D} {u : ρ} {ε : Env} (h : er u = .none) : PF er u (.ok (.nx, ε)) := ⟨_, _, rfl, congrArg Rs.ok h.symm⟩
theorem pB_rt {σ ρ : Type} {mk : σ → Env} {er : ρ → D} (u : ρ) (ε : Env) : PB mk er (.rt u) (.ok (.rt (er u), ε)) := ⟨_, rfl⟩
theorem pB_nx {σ ρ : Type} {mk : σ → Env} {er : ρ → D} {s : σ} {ε : Env} (h : Ele (mk s) ε) : PB mk er (.nx s) (.ok (.nx, ε)) := ⟨_, rfl, h⟩
theorem pB_ct {σ ρ : Type} {mk : σ → Env} {er : ρ → D} {s : σ} {ε : Env} (h : Ele (mk s) ε) : PB mk er (.ct s) (.ok (.ct, ε)) := ⟨_, rfl, h⟩
theorem pB_br {σ ρ : Type} {mk : σ → Env} {er : ρ → D} {s : σ} {ε : Env} (h : Ele (mk s) ε) : PB mk er (.br s) (.ok (.br, ε)) := ⟨_, rfl, h⟩
theorem pN_nx {σ : Type} {mk : σ → Env} {s : σ} {ε : Env} (h : Ele (mk s) ε) : PN mk s (.ok (.nx, ε)) := ⟨_, rfl, h⟩
end Ws

set_option Elab.async false
set_option linter.all false
set_option maxRecDepth 100000
set_option maxHeartbeats 4000000
/-! Ty4: dicts with types; frozen slots told; truth; coercions -/
namespace Ws
open PySem
section
variable {φ : Nat → List D → Rs D} {ε : Env} {α β γ κ : Type} {e : α → D} {ek : κ → D} {e' : β → D} [DecidableEq κ]
structure Ky (e : κ → D) : Prop where
  eq : ∀ a b, PyData.eqv (e a) (e b) = decide (a = b)
  key : ∀ a, ∃ k, keyOf (e a) = some k
theorem ky_I : Ky eI := ⟨fun a b => by
  simp only [eI, PyData.eqv]
  by_cases h : a = b
  · subst h; simp
  · simp [h], fun a => ⟨_, rfl⟩⟩
theorem ky_S : Ky eS := ⟨fun a b => by
  simp only [eS, PyData.eqv]
  by_cases h : a = b
  · subst h; simp
  · simp [h], fun a => ⟨_, rfl⟩⟩
def getM (kvs : List (κ × α)) (k : κ) : Option α := (kvs.find? fun p => decide (p.1 = k)).map (·.2)
def putM (kvs : List (κ × α)) (k : κ) (v : α) : List (κ × α) := if (getM kvs k).isSome = true then kvs.map fun p => if p.1 = k then (p.1, v) else p else kvs ++ [(k, v)]
theorem find_K (h : Ky ek) (k : κ) : ∀ kvs : List (κ × α), (kvs.map fun p : κ × α => (ek p.1, e p.2)).find? (fun p => PyData.eqv p.1 (ek k)) = (kvs.find? fun p => decide (p.1 = k)).map fun p : κ × α => (ek p.1, e p.2)
  | [] => rfl
  | p :: kvs => by
    rw [List.map_cons, List.find?_cons, List.find?_cons, h.eq]
    cases decide (p.1 = k) with
    | true => rfl
    | false => exact find_K h k kvs
theorem getK_M (h : Ky ek) (kvs : List (κ × α)) (k : κ) : getK (kvs.map fun p : κ × α => (ek p.1, e p.2)) (ek k) = (getM kvs k).map e := by
  unfold getK getM
  rw [find_K h, Option.map_map, Option.map_map]; rfl
theorem putD_M (h : Ky ek) (kvs : List (κ × α)) (k : κ) (v : α) : putD (kvs.map fun p : κ × α => (ek p.1, e p.2)) (ek k) (e v) = (putM kvs k v).map fun p : κ × α => (ek p.1, e p.2) := by
  unfold putD putM
  rw [getK_M h, Option.isSome_map]
  split
  · rw [List.map_map, List.map_map]
    refine List.map_congr_left fun p _ => ?_
    show (if PyData.eqv (ek p.1) (ek k) = true then _ else _) = _
    rw [h.eq]
    by_cases z : p.1 = k
    · simp [z]
    · simp [z]
  · rw [List.map_append]; rfl
theorem r_ixK (h : Ky ek) {x y : E} {a : Option (List (κ × α))} {b : Option κ} (ha : Rf (eK ek e) a (ev φ x ε)) (hb : Rf ek b (ev φ y ε)) : Rf e (a.bind fun u => b.bind fun v => getM u v) (ev φ (.idx x y) ε) := by
  simp only [ev]
  refine ha.bnd fun u => hb.bnd fun v => ?_
  obtain ⟨k, hk⟩ := h.key v
  have : idxD (eK ek e u) (ek v) = Rs.of ((getM u v).map e) := by
    show (match keyOf (ek v) with | some _ => Rs.of (getK (u.map fun p : κ × α => (ek p.1, e p.2)) (ek v)) | none => .st) = _
    rw [hk, getK_M h]
  rw [this]
  cases getM u v with
  | none => exact r_no
  | some w => exact r_of rfl
theorem in_K (h : Ky ek) (u : List (κ × α)) (v : κ) : inD (ek v) (eK ek e u) = .ok (.bool (getM u v).isSome) := by
  obtain ⟨k, hk⟩ := h.key v
  show (match keyOf (ek v) with | some _ => Rs.ok (PyData.bool (getK (u.map fun p : κ × α => (ek p.1, e p.2)) (ek v)).isSome) | none => .st) = _
  rw [hk, getK_M h, Option.isSome_map]
theorem r_inK (h : Ky ek) {x y : E} {b : Option κ} {a : Option (List (κ × α))} (hb : Rf ek b (ev φ x ε)) (ha : Rf (eK ek e) a (ev φ y ε)) : Rf eB (b.bind fun v => a.bind fun u => some (getM u v).isSome) (ev φ (.cmp .in_ x y) ε) := by
  simp only [ev]
  exact hb.bnd fun v => ha.bnd fun u => r_of (in_K h u v)
theorem r_ninK (h : Ky ek) {x y : E} {b : Option κ} {a : Option (List (κ × α))} (hb : Rf ek b (ev φ x ε)) (ha : Rf (eK ek e) a (ev φ y ε)) : Rf eB (b.bind fun v => a.bind fun u => some (!(getM u v).isSome)) (ev φ (.cmp .nin x y) ε) := by
  simp only [ev]
  refine hb.bnd fun v => ha.bnd fun u => r_of ?_
  show notD (inD (ek v) (eK ek e u)) = _
  rw [in_K h]; rfl
/-- d[k] = v -/
def setKM (kvs : List (κ × α)) (k : κ) (v : α) : Option (List (κ × α)) := if kvs.length < LIM then some (putM kvs k v) else none
theorem y_setK {P : β → Rs (Fl × Env) → Prop} {ss : List S} (h : Ky ek) {i : Nat} {x y : E} {lk : List Nat} {kvs : List (κ × α)} {a : Option κ} {r : Option α} {k : List (κ × α) → Option β} {ε' : List (κ × α) → Env} (hi : (frzE ε lk)[i]? = some (.o (eK ek e kvs))) (hb : ∀ u, puto (frzE ε lk) i (eK ek e u) = ε' u) (hx : Rf ek a (ev φ x (frzE ε lk))) (hy : Rf e r (ev φ y (frzE ε lk))) (hk : ∀ u, RG P (k u) (exSs φ ss (ε' u))) :
    RG P (r.bind fun v => a.bind fun u => (setKM kvs u v).bind k) (exSs φ (.seti i x y lk :: ss) ε) := fun z q => by
  cases r with
  | none => cases q
  | some v =>
    cases a with
    | none => cases q
    | some u =>
      have q : ((setKM kvs u v).bind k) = some z := q
      unfold setKM at q
      split at q
      · rename_i hl
        obtain ⟨kk, hkk⟩ := h.key u
        simp only [exSs, exS, own, hi]
        rw [hy v rfl, Rs.bnd_ok, Rs.bnd_ok, hx u rfl, Rs.bnd_ok]
        have : setD (eK ek e kvs) (ek u) (e v) = .ok (eK ek e (putM kvs u v)) := by
          show (match keyOf (ek u) with | some _ => if (kvs.map fun p : κ × α => (ek p.1, e p.2)).length < LIM then Rs.ok (PyData.dict (putD (kvs.map fun p : κ × α => (ek p.1, e p.2)) (ek u) (e v))) else .st | none => .st) = _
          rw [hkk]
          show (if (kvs.map fun p : κ × α => (ek p.1, e p.2)).length < LIM then _ else _) = _
          rw [List.length_map, if_pos hl, putD_M h]; rfl
        rw [this]
        show P z (exSs φ ss (puto (frzE ε lk) i (eK ek e (putM kvs u v))))
        rw [hb]
        exact hk _ z q
      · cases q
theorem fold_K (h : Ky ek) : ∀ (ps acc : List (κ × α)), (ps.map fun p : κ × α => PyData.tuple [ek p.1, e p.2]).foldl (fun (acc : List (D × D)) (p : D) => match p with | .tuple [y, z] => putD acc y z | _ => acc) (acc.map fun p : κ × α => (ek p.1, e p.2)) = (ps.foldl (fun acc p => putM acc p.1 p.2) acc).map fun p : κ × α => (ek p.1, e p.2)
  | [], acc => rfl
  | p :: ps, acc => by
    rw [List.map_cons, List.foldl_cons, List.foldl_cons, ← fold_K h ps]
    show List.foldl _ (putD _ (ek p.1) (e p.2)) _ = _
    rw [putD_M h]
def eKV (ek : κ → D) (e : α → D) : κ × α → D := fun p => .tuple [ek p.1, e p.2]
theorem r_dc (h : Ky ek) {vs : List Nat} {kx vx : E} {cd : Option E} {tg : Pt} {it : It} {r : Option (List γ)} {ez : γ → D} {ε' : γ → Env} {f : γ → Option κ} {g : γ → Option α} {c : γ → Option Bool}
    (hi : Rf (List.map ez) r (evi φ it ε)) (hb : ∀ x, bnd tg (ez x) (wipeE ε vs) = .ok (ε' x)) (hc : ∀ x, Rcc (c x) cd φ (ε' x)) (hk : ∀ x, Rf ek (f x) (ev φ kx (ε' x))) (hv : ∀ x, Rf e (g x) (ev φ vx (ε' x))) :
    Rf (eK ek e) (r.bind fun xs => (mapF (fun x => (c x).bind fun b => if b = true then (f x).bind fun k => (g x).map fun v => some (k, v) else some none) xs).map fun ps => ps.foldl (fun acc p => putM acc p.1 p.2) []) (ev φ (.dc vs kx vx tg it cd) ε) := by
  simp only [ev]
  refine hi.bnd fun xs => ?_
  refine (lcL_mapF (e := ez) (e' := eKV ek e) (fun x y q => ?_) xs).map fun ps => ?_
  · rw [hb, Rs.bnd_ok]
    cases h0 : c x with
    | none => rw [h0] at q; cases q
    | some b =>
      rw [h0] at q
      rw [hc x b h0, Rs.bnd_ok]
      cases b with
      | false => cases q; rfl
      | true =>
        simp only [Option.bind_some, if_true] at q ⊢
        cases h1 : f x with
        | none => rw [h1] at q; cases q
        | some k =>
          rw [h1] at q
          cases h2 : g x with
          | none => rw [h2] at q; cases q
          | some v =>
            rw [h2] at q
            cases q
            obtain ⟨kk, hkk⟩ := h.key k
            rw [hk x k h1, Rs.bnd_ok, hkk, Rs.of_some, Rs.bnd_ok, hv x v h2]; rfl
  · have := fold_K (e := e) h ps []
    exact congrArg (fun z => Rs.ok (PyData.dict z)) this
end
section
variable {φ : Nat → List D → Rs D} {ε ε1 ε2 : Env} {α β γ σ ρ : Type} {e : α → D} {er : ρ → D} {P : β → Rs (Fl × Env) → Prop} {ss : List S}
/-- the statements' rules, the slots told once they are frozen -/
theorem t_asg {t : Pt} {x : E} {fr : Bool} {lk : List Nat} {r : Option α} {k : α → Option β} {ε' : α → Env} (h1 : frzE ε lk = ε1) (hb : ∀ u, putF ε1 t (e u) fr = .ok (ε' u)) (he : Rf e r (ev φ x ε1)) (hk : ∀ u, RG P (k u) (exSs φ ss (ε' u))) : RG P (r.bind k) (exSs φ (.asg t x fr lk :: ss) ε) := by
  subst h1; exact y_asg hb he hk
theorem t_drop {x : E} {lk : List Nat} {r : Option α} {k : α → Option β} (h1 : frzE ε lk = ε1) (he : Rf e r (ev φ x ε1)) (hk : ∀ u, RG P (k u) (exSs φ ss ε1)) : RG P (r.bind k) (exSs φ (.drop x lk :: ss) ε) := by
  subst h1; exact y_drop rfl he hk
theorem t_par {i j : Nat} {x y : E} {lk : List Nat} {e' : γ → D} {r : Option α} {r' : Option γ} {k : α → γ → Option β} {ε' : α → γ → Env} (h1 : frzE ε lk = ε1) (hb : ∀ u v, put (put ε1 i (e u)) j (e' v) = ε' u v) (hx : Rf e r (ev φ x ε1)) (hy : Rf e' r' (ev φ y ε1)) (hk : ∀ u v, RG P (k u v) (exSs φ ss (ε' u v))) : RG P (r.bind fun u => r'.bind fun v => k u v) (exSs φ (.par i j x y lk :: ss) ε) := by
  subst h1; exact y_par hb hx hy hk
theorem t_aug {i : Nat} {o : Op2} {x : E} {lk : List Nat} {a r : Option Int} {op : Int → Int → Option Int} {k : Int → Option β} {ε' : Int → Env} (h1 : frzE ε lk = ε1) (ho : ∀ u v, Rf eI (op u v) (binD o (.int u) (.int v))) (hb : ∀ n, put ε1 i (.int n) = ε' n) (ha : Rf eI a (ev φ (.var i) ε1)) (he : Rf eI r (ev φ x ε1)) (hk : ∀ u, RG P (k u) (exSs φ ss (ε' u))) : RG P (a.bind fun u => r.bind fun v => (op u v).bind k) (exSs φ (.aug i o x lk :: ss) ε) := by
  subst h1; exact y_aug ho hb ha he hk
theorem t_app {i : Nat} {x : E} {lk : List Nat} {xs : List α} {r : Option α} {k : α → Option β} {ε' : α → Env} (h1 : frzE ε lk = ε1) (h : ε1[i]? = some (.o (eL e xs))) (hb : ∀ u, puto ε1 i (eL e (xs ++ [u])) = ε' u) (he : Rf e r (ev φ x ε1)) (hk : ∀ u, RG P (k u) (exSs φ ss (ε' u))) :
    RG P (r.bind fun u => if xs.length < LIM then k u else none) (exSs φ (.app i x lk :: ss) ε) := by
  subst h1; exact y_app h hb he hk
theorem t_setL {i : Nat} {x y : E} {lk : List Nat} {xs : List α} {a : Option Int} {r : Option α} {k : List α → Option β} {ε' : List α → Env} (h1 : frzE ε lk = ε1) (h : ε1[i]? = some (.o (eL e xs))) (hb : ∀ u, puto ε1 i (eL e u) = ε' u) (hx : Rf eI a (ev φ x ε1)) (hy : Rf e r (ev φ y ε1)) (hk : ∀ u, RG P (k u) (exSs φ ss (ε' u))) :
    RG P (r.bind fun v => a.bind fun u => (setM xs u v).bind k) (exSs φ (.seti i x y lk :: ss) ε) := by
  subst h1; exact y_setL h hb hx hy hk
theorem t_setK {κ : Type} [DecidableEq κ] {ek : κ → D} (h : Ky ek) {i : Nat} {x y : E} {lk : List Nat} {kvs : List (κ × α)} {a : Option κ} {r : Option α} {k : List (κ × α) → Option β} {ε' : List (κ × α) → Env} (h1 : frzE ε lk = ε1) (hi : ε1[i]? = some (.o (eK ek e kvs))) (hb : ∀ u, puto ε1 i (eK ek e u) = ε' u) (hx : Rf ek a (ev φ x ε1)) (hy : Rf e r (ev φ y ε1)) (hk : ∀ u, RG P (k u) (exSs φ ss (ε' u))) :
    RG P (r.bind fun v => a.bind fun u => (setKM kvs u v).bind k) (exSs φ (.seti i x y lk :: ss) ε) := by
  subst h1; exact y_setK h hi hb hx hy hk
theorem t_ret {x : E} {r : Option ρ} {w : ρ → β} (h1 : ε.map frzS = ε1) (hP : ∀ u ε, P (w u) (.ok (.rt (er u), ε))) (he : Rf er r (ev φ x ε1)) : RG P (r.map w) (exSs φ (.ret x :: ss) ε) := by
  subst h1; exact y_ret hP he
theorem t_if {x : E} {A B : List S} {c : Option Bool} {a b : Option β} (h1 : ε.map frzS = ε1) (hc : Rc c (ev φ x ε1)) (ha : RG P a (exSs φ (A ++ ss) ε)) (hb : RG P b (exSs φ (B ++ ss) ε)) : RG P (c.bind fun u => if u = true then a else b) (exSs φ (.iff x A B :: ss) ε) := by
  subst h1; exact y_if hc ha hb
theorem t_ifN {x : E} {A B : List S} {c : Option Bool} {a b : Option σ} {mk : σ → Env} {k : σ → Option β} (G : Gd P) (h1 : ε.map frzS = ε1) (hc : Rc c (ev φ x ε1)) (ha : RG (PN mk) a (exSs φ A ε)) (hb : RG (PN mk) b (exSs φ B ε)) (hk : ∀ s, RG P (k s) (exSs φ ss (mk s))) : RG P ((c.bind fun u => if u = true then a else b).bind k) (exSs φ (.iff x A B :: ss) ε) := by
  subst h1; exact y_ifN G hc ha hb hk
theorem t_ifB {x : E} {A B : List S} {c : Option Bool} {a b : Option (Out σ ρ)} {mk : σ → Env} {k kc kb : σ → Option β} {w : ρ → β} (G : Gd P) (h1 : ε.map frzS = ε1) (hw : ∀ u ε, P (w u) (.ok (.rt (er u), ε))) (hcc : ∀ s ε b, Ele (mk s) ε → kc s = some b → P b (.ok (.ct, ε))) (hbb : ∀ s ε b, Ele (mk s) ε → kb s = some b → P b (.ok (.br, ε))) (hc : Rc c (ev φ x ε1)) (ha : RG (PB mk er) a (exSs φ A ε)) (hb : RG (PB mk er) b (exSs φ B ε)) (hk : ∀ s, RG P (k s) (exSs φ ss (mk s))) :
    RG P ((c.bind fun u => if u = true then a else b).bind (outK k kc kb w)) (exSs φ (.iff x A B :: ss) ε) := by
  subst h1; exact y_ifB G hw hcc hbb hc ha hb hk
theorem t_for {t : Pt} {it : It} {body : List S} {lk : List Nat} {r : Option (List α)} {f : α → σ → Option (Out σ ρ)} {mk : σ → Env} {s0 : σ} {ε' : α → σ → Env} {k : σ → Option β} {w : ρ → β} (G : Gd P) (h1 : frzE ε lk = ε1) (hw : ∀ u ε, P (w u) (.ok (.rt (er u), ε))) (h0 : Ele (mk s0) ε1) (hb : ∀ x s, bnd t (e x) (mk s) = .ok (ε' x s)) (hi : Rf (List.map e) r (evi φ it ε1)) (hs : ∀ x s, RG (PB mk er) (f x s) (exSs φ body (ε' x s))) (hk : ∀ s, RG P (k s) (exSs φ ss (mk s))) :
    RG P (r.bind fun xs => (forT f xs s0).bind (sumK k w)) (exSs φ (.for_ t it body lk :: ss) ε) := by
  subst h1; exact y_for G hw h0 hb hi hs hk
theorem t_forN {t : Pt} {it : It} {body : List S} {lk : List Nat} {r : Option (List α)} {f : α → σ → Option σ} {mk : σ → Env} {s0 : σ} {ε' : α → σ → Env} {k : σ → Option β} (G : Gd P) (h1 : frzE ε lk = ε1) (h0 : Ele (mk s0) ε1) (hb : ∀ x s, bnd t (e x) (mk s) = .ok (ε' x s)) (hi : Rf (List.map e) r (evi φ it ε1)) (hs : ∀ x s, RG (PN mk) (f x s) (exSs φ body (ε' x s))) (hk : ∀ s, RG P (k s) (exSs φ ss (mk s))) :
    RG P (r.bind fun xs => (forN f xs s0).bind k) (exSs φ (.for_ t it body lk :: ss) ε) := by
  subst h1; exact y_forN G h0 hb hi hs hk
theorem r_nm1 {x : E} {r : Option α} (h1 : ε.map frzS = ε1) (hn : ∀ x, noMut (e x) = true) (h : Rf e r (ev φ x ε1)) : Rf e r (ev φ (.nomut x) ε) := by
  subst h1; exact r_nm hn h
theorem r_nmD1 {x : E} {r : Option D} (h1 : ε.map frzS = ε1) (h : Rf eD r (ev φ x ε1)) : Rf eD (r.bind fun u => if noMut u = true then some u else none) (ev φ (.nomut x) ε) := by
  subst h1; exact r_nmD h
theorem r_conv {e' : β → D} {s : Rs D} {r : Option α} {g : α → β} (h : ∀ x, e x = e' (g x)) (q : Rf e r s) : Rf e' (r.map g) s := fun y z => by
  cases r with
  | none => cases z
  | some x => cases z; rw [q x rfl, h]
end
/-! ### truth, no lists -/
section
variable {α β : Type} {e : α → D}
theorem t_I (x : Int) : truth (eI x) = (x != 0) := rfl
theorem t_S (x : Str) : truth (eS x) = (x.length != 0) := rfl
theorem t_D (x : D) : truth (eD x) = truth x := rfl
theorem t_L (x : List α) : truth (eL e x) = !x.isEmpty := by cases x <;> rfl
theorem t_T (x : List α) : truth (eT e x) = !x.isEmpty := by cases x <;> rfl
theorem t_K {ek : β → D} (x : List (β × α)) : truth (eK ek e x) = !x.isEmpty := by cases x <;> rfl
theorem t_O (h : ∀ x, truth (e x) = true) (x : Option α) : truth (eO e x) = x.isSome := by cases x <;> first | rfl | exact h _
theorem t_P {β : Type} {f : β → List D} (x : α × β) : truth (eP (fc e f) x) = true := rfl
theorem n_I (x : Int) : noMut (eI x) = true := rfl
theorem n_B (x : Bool) : noMut (eB x) = true := rfl
theorem n_S (x : Str) : noMut (eS x) = true := rfl
theorem n_N (x : Unit) : noMut (eN x) = true := rfl
theorem n_T (h : ∀ x, noMut (e x) = true) (x : List α) : noMut (eT e x) = true := by
  show noMuts (x.map e) = true
  induction x with
  | nil => rfl
  | cons a x ih => rw [List.map_cons, noMuts, h, ih]; rfl
theorem n_O (h : ∀ x, noMut (e x) = true) (x : Option α) : noMut (eO e x) = true := by cases x <;> first | rfl | exact h _
theorem n_1 (h : ∀ x, noMut (e x) = true) (x : α) : noMuts (f1 e x) = true := by
  show (noMut (e x) && noMuts []) = true
  rw [h]; rfl
theorem n_c {f : β → List D} (h : ∀ x, noMut (e x) = true) (g : ∀ x, noMuts (f x) = true) (x : α × β) : noMuts (fc e f x) = true := by
  show (noMut (e x.1) && noMuts (f x.2)) = true
  rw [h, g]; rfl
theorem n_P {f : α → List D} (h : ∀ x, noMuts (f x) = true) (x : α) : noMut (eP f x) = true := h x
theorem nn_I (x : Int) : isNone (eI x) = false := rfl
theorem nn_B (x : Bool) : isNone (eB x) = false := rfl
theorem nn_S (x : Str) : isNone (eS x) = false := rfl
theorem nn_L (x : List α) : isNone (eL e x) = false := rfl
theorem nn_T (x : List α) : isNone (eT e x) = false := rfl
theorem nn_P {f : α → List D} (x : α) : isNone (eP f x) = false := rfl
theorem nn_K {ek : β → D} (x : List (β × α)) : isNone (eK ek e x) = false := rfl
end
end Ws

set_option Elab.async false
set_option linter.all false
set_option maxRecDepth 100000
set_option maxHeartbeats 4000000
/-! Ty5: defs that call themselves -/
namespace Ws
open PySem
theorem dc_D : Dc eD some := fun d x h => by cases h; rfl
/-! a list or a tuple -/
def eQ {α : Type} (e : α → D) : Bool × List α → D := fun p => if p.1 = true then .tuple (p.2.map e) else .list (p.2.map e)
def dQ {α : Type} (f : D → Option α) : D → Option (Bool × List α)
  | .list ds => (dMap f ds).map fun xs => (false, xs)
  | .tuple ds => (dMap f ds).map fun xs => (true, xs)
  | _ => none
section
variable {φ : Nat → List D → Rs D} {ε : Env} {α β γ δ : Type} {e : α → D} {e' : β → D}
theorem dc_Q {f : D → Option α} (h : Dc e f) : Dc (eQ e) (dQ f) := fun d x q => by
  cases d <;> first | (cases q; done) | skip
  · rename_i ds
    have q : (dMap f ds).map (fun xs => (false, xs)) = some x := q
    cases z : dMap f ds with
    | none => rw [z] at q; cases q
    | some xs => rw [z] at q; cases q; exact congrArg PyData.list (dMap_ok h _ _ z)
  · rename_i ds
    have q : (dMap f ds).map (fun xs => (true, xs)) = some x := q
    cases z : dMap f ds with
    | none => rw [z] at q; cases q
    | some xs => rw [z] at q; cases q; exact congrArg PyData.tuple (dMap_ok h _ _ z)
theorem i_Q {x : E} {a : Option (Bool × List α)} (ha : Rf (eQ e) a (ev φ x ε)) : Rf (List.map e) (a.map fun u => u.2) (evi φ (.seq x) ε) := by
  simp only [evi]
  refine ha.map fun u => ?_
  obtain ⟨b, xs⟩ := u
  cases b <;> rfl
theorem i_rQ {x : E} {a : Option (Bool × List α)} (ha : Rf (eQ e) a (ev φ x ε)) : Rf (List.map e) (a.map fun u => u.2.reverse) (evi φ (.rev x) ε) := by
  simp only [evi]
  refine ha.map fun u => ?_
  obtain ⟨b, xs⟩ := u
  cases b
  · show Rs.ok (xs.map e).reverse = _
    rw [List.map_reverse]
  · show Rs.ok (xs.map e).reverse = _
    rw [List.map_reverse]
theorem r_ixQ {x y : E} {a : Option (Bool × List α)} {b : Option Int} (ha : Rf (eQ e) a (ev φ x ε)) (hb : Rf eI b (ev φ y ε)) : Rf e (a.bind fun u => b.bind fun v => ixD u.2 v) (ev φ (.idx x y) ε) := by
  simp only [ev]
  refine ha.bnd fun u => hb.bnd fun v => ?_
  obtain ⟨c, xs⟩ := u
  have : idxD (eQ e (c, xs)) (eI v) = Rs.of (ixD (xs.map e) v) := by cases c <;> rfl
  rw [this, ixD_map]
  show Rf e (ixD xs v) _
  cases ixD xs v with
  | none => exact r_no
  | some w => exact r_of rfl
theorem b_lenQ (u : Bool × List α) : Rf eI (some (u.2.length : Int)) (biD .len [eQ e u]) := r_of (by
  obtain ⟨b, xs⟩ := u
  cases b
  · show Rs.ok (PyData.int ((xs.map e).length : Nat)) = _; rw [List.length_map]; rfl
  · show Rs.ok (PyData.int ((xs.map e).length : Nat)) = _; rw [List.length_map]; rfl)
theorem b_tupQ (u : Bool × List α) : Rf (eT e) (some u.2) (biD .tuple [eQ e u]) := r_of (by obtain ⟨b, xs⟩ := u; cases b <;> rfl)
theorem b_lstQ (u : Bool × List α) : Rf (eL e) (some u.2) (biD .list [eQ e u]) := r_of (by obtain ⟨b, xs⟩ := u; cases b <;> rfl)
theorem r_slQ {x : E} {l h : Option E} {a : Option (Bool × List α)} {b c : Option (Option Int)} (ha : Rf (eQ e) a (ev φ x ε)) (hb : Rf (fun x => x) b (evo φ l ε)) (hc : Rf (fun x => x) c (evo φ h ε)) : Rf (eQ e) (a.bind fun u => b.bind fun v => c.bind fun w => some (u.1, cutD u.2 v w)) (ev φ (.sli x l h) ε) := by
  simp only [ev]
  refine ha.bnd fun u => hb.bnd fun v => hc.bnd fun w => r_of ?_
  obtain ⟨t, xs⟩ := u
  cases t
  · show Rs.ok (PyData.list (cutD (xs.map e) v w)) = _
    rw [cut_map]; rfl
  · show Rs.ok (PyData.tuple (cutD (xs.map e) v w)) = _
    rw [cut_map]; rfl
theorem r_rvQ {x : E} {a : Option (Bool × List α)} (ha : Rf (eQ e) a (ev φ x ε)) : Rf (eQ e) (a.map fun u => (u.1, u.2.reverse)) (ev φ (.rev x) ε) := by
  simp only [ev]
  refine ha.map fun u => ?_
  obtain ⟨t, xs⟩ := u
  cases t
  · show Rs.ok (PyData.list (xs.map e).reverse) = _
    rw [← List.map_reverse]; rfl
  · show Rs.ok (PyData.tuple (xs.map e).reverse) = _
    rw [← List.map_reverse]; rfl
theorem b_sortQ (u : Bool × List α) : Rf (eL e) (sortM e u.2) (biD .sorted [eQ e u]) := by
  obtain ⟨b, xs⟩ := u
  cases b
  · exact b_sortL xs
  · exact b_sortT xs
theorem t_Q (u : Bool × List α) : truth (eQ e u) = !u.2.isEmpty := by
  obtain ⟨b, xs⟩ := u
  cases b <;> cases xs <;> rfl
theorem nn_Q (u : Bool × List α) : isNone (eQ e u) = false := by
  obtain ⟨b, xs⟩ := u
  cases b <;> rfl
end
mutual
/-- the very same -/
def deq : D → D → Bool
  | .none, .none => true
  | .bool a, .bool b => a == b
  | .int a, .int b => decide (a = b)
  | .str a, .str b => decide (a = b)
  | .list a, .list b => deqs a b
  | .tuple a, .tuple b => deqs a b
  | _, _ => false
def deqs : List D → List D → Bool
  | [], [] => true
  | a :: as, b :: bs => deq a b && deqs as bs
  | _, _ => false
end
mutual
theorem deq_eq : ∀ a b : D, deq a b = true → a = b
  | .none, .none, _ => rfl
  | .bool a, .bool b, h => by rw [deq] at h; rw [eq_of_beq h]
  | .int a, .int b, h => by rw [deq] at h; rw [of_decide_eq_true h]
  | .str a, .str b, h => by rw [deq] at h; rw [of_decide_eq_true h]
  | .list a, .list b, h => by rw [deq] at h; rw [deqs_eq a b h]
  | .tuple a, .tuple b, h => by rw [deq] at h; rw [deqs_eq a b h]
  | .none, .bool _, h | .none, .int _, h | .none, .str _, h | .none, .list _, h | .none, .tuple _, h | .none, .dict _, h => by simp [deq] at h
  | .bool _, .none, h | .bool _, .int _, h | .bool _, .str _, h | .bool _, .list _, h | .bool _, .tuple _, h | .bool _, .dict _, h => by simp [deq] at h
  | .int _, .none, h | .int _, .bool _, h | .int _, .str _, h | .int _, .list _, h | .int _, .tuple _, h | .int _, .dict _, h => by simp [deq] at h
  | .str _, .none, h | .str _, .bool _, h | .str _, .int _, h | .str _, .list _, h | .str _, .tuple _, h | .str _, .dict _, h => by simp [deq] at h
  | .list _, .none, h | .list _, .bool _, h | .list _, .int _, h | .list _, .str _, h | .list _, .tuple _, h | .list _, .dict _, h => by simp [deq] at h
  | .tuple _, .none, h | .tuple _, .bool _, h | .tuple _, .int _, h | .tuple _, .str _, h | .tuple _, .list _, h | .tuple _, .dict _, h => by simp [deq] at h
  | .dict _, .none, h | .dict _, .bool _, h | .dict _, .int _, h | .dict _, .str _, h | .dict _, .list _, h | .dict _, .tuple _, h | .dict _, .dict _, h => by simp [deq] at h
theorem deqs_eq : ∀ a b : List D, deqs a b = true → a = b
  | [], [], _ => rfl
  | a :: as, b :: bs, h => by
    rw [deqs, Bool.and_eq_true] at h
    rw [deq_eq a b h.1, deqs_eq as bs h.2]
  | [], _ :: _, h => by simp [deqs] at h
  | _ :: _, [], h => by simp [deqs] at h
end
theorem deq_self (n : Nat) : ∀ d : D, lim n d = true → deq d d = true := by
  induction n with
  | zero =>
    intro d h
    cases d <;> first | (simp [lim] at h; done) | simp [deq]
  | succ n ih =>
    intro d h
    have rows : ∀ xs : List D, xs.all (lim n) = true → deqs xs xs = true := by
      intro xs
      induction xs with
      | nil => intro _; simp [deqs]
      | cons a as ih2 =>
        intro h
        rw [List.all_cons, Bool.and_eq_true] at h
        rw [deqs, ih a h.1, ih2 h.2]; rfl
    cases d with
    | list xs => rw [deq]; exact rows xs (by simpa [lim] using h)
    | tuple xs => rw [deq]; exact rows xs (by simpa [lim] using h)
    | dict xs => simp [lim] at h
    | none => simp [deq]
    | bool b => simp [deq]
    | int b => simp [deq]
    | str b => simp [deq]
def m_tupled (d : D) : Option D := if lim 40 d = true then some (tpl d) else none
def m__law_listed (d : D) : Option D := if lim 40 d = true then some (ltd d) else none
def m__law_same (d e : D) : Option Bool := if (deq d e && sm 40 d) = true then some true else none
mutual
def rk : D → D
  | .none => .tuple [.int 0]
  | .bool b => .tuple [.int 1, .int (if b then 1 else 0)]
  | .int i => .tuple [.int 2, .int i]
  | .str x => .tuple [.int 3, .str x]
  | .list xs => .tuple [.int 4, .tuple (rks xs)]
  | .tuple xs => .tuple [.int 4, .tuple (rks xs)]
  | .dict xs => .none
def rks : List D → List D
  | [] => []
  | x :: xs => rk x :: rks xs
end
theorem rks_map : ∀ xs : List D, rks xs = xs.map rk
  | [] => rfl
  | x :: xs => by rw [rks, rks_map xs]; rfl
def m_rank (d : D) : Option D := if lim 40 d = true then some (rk d) else none
theorem rk_nm : ∀ (n : Nat) (d : D), lim n d = true → noMut (rk d) = true := by
  intro n
  induction n with
  | zero =>
    intro d h
    cases d <;> first | (simp [lim] at h; done) | rfl
  | succ n ih =>
    intro d h
    have rows : ∀ xs : List D, xs.all (lim n) = true → noMuts (rks xs) = true := by
      intro xs
      induction xs with
      | nil => intro _; rfl
      | cons a as ih2 =>
        intro h
        rw [List.all_cons, Bool.and_eq_true] at h
        rw [rks, noMuts, ih a h.1, ih2 h.2]; rfl
    cases d with
    | list xs =>
      show noMut (.tuple [.int 4, .tuple (rks xs)]) = true
      have := rows xs (by simpa [lim] using h)
      simp [noMut, noMuts, this]
    | tuple xs =>
      show noMut (.tuple [.int 4, .tuple (rks xs)]) = true
      have := rows xs (by simpa [lim] using h)
      simp [noMut, noMuts, this]
    | dict xs => simp [lim] at h
    | none => rfl
    | bool b => rfl
    | int b => rfl
    | str b => rfl
end Ws

set_option Elab.async false
set_option linter.all false
set_option maxRecDepth 100000
set_option maxHeartbeats 400000
/-! Ty6: plain facts of the typed words -/
namespace Ws
open PySem
theorem mapF_pure {α β : Type} (g : α → β) : ∀ xs : List α, mapF (fun x => some (some (g x))) xs = some (xs.map g)
  | [] => rfl
  | x :: xs => by rw [mapF, mapF_pure g xs]; rfl
theorem mapF_pureF {α β : Type} (p : α → Bool) (g : α → β) : ∀ xs : List α, mapF (fun x => if p x = true then some (some (g x)) else some none) xs = some ((xs.filter p).map g)
  | [] => rfl
  | x :: xs => by
    rw [mapF, mapF_pureF p g xs, List.filter_cons]
    cases p x <;> rfl
theorem forN_pure {α σ : Type} (g : α → σ → σ) : ∀ (xs : List α) (s : σ), forN (fun x s => some (g x s)) xs s = some (xs.foldl (fun s x => g x s) s)
  | [], s => rfl
  | x :: xs, s => by rw [forN, Option.bind_some, forN_pure g xs]; rfl
theorem bq_t (b : Bool) : (b == true) = b := by cases b <;> rfl
theorem bq_f (b : Bool) : (b == false) = !b := by cases b <;> rfl
section
variable {α β γ σ ρ : Type}
theorem mapF_map {f : α → Option (Option β)} {g : α → β} : ∀ {xs : List α}, (∀ x ∈ xs, f x = some (some (g x))) → mapF f xs = some (xs.map g)
  | [], _ => rfl
  | x :: xs, h => by
    rw [mapF, h x List.mem_cons_self, mapF_map fun y hy => h y (List.mem_cons_of_mem _ hy)]; rfl
theorem mapF_filter {f : α → Option (Option β)} {p : α → Bool} {g : α → β} : ∀ {xs : List α}, (∀ x ∈ xs, f x = some (if p x = true then some (g x) else none)) → mapF f xs = some ((xs.filter p).map g)
  | [], _ => rfl
  | x :: xs, h => by
    rw [mapF, h x List.mem_cons_self, mapF_filter fun y hy => h y (List.mem_cons_of_mem _ hy), List.filter_cons]
    cases p x <;> rfl
theorem mapL_flat {f : α → Option (List β)} {g : α → List β} : ∀ {xs : List α}, (∀ x ∈ xs, f x = some (g x)) → mapL f xs = some (xs.flatMap g)
  | [], _ => rfl
  | x :: xs, h => by
    rw [mapL, h x List.mem_cons_self, mapL_flat fun y hy => h y (List.mem_cons_of_mem _ hy)]; rfl
theorem forN_fold {f : α → σ → Option σ} {g : σ → α → σ} (I : σ → Prop) : ∀ {xs : List α} {s : σ}, I s → (∀ x ∈ xs, ∀ s, I s → f x s = some (g s x) ∧ I (g s x)) → forN f xs s = some (xs.foldl g s) ∧ I (xs.foldl g s)
  | [], s, i, _ => ⟨rfl, i⟩
  | x :: xs, s, i, h => by
    obtain ⟨h1, h2⟩ := h x List.mem_cons_self s i
    rw [forN, h1, List.foldl_cons]
    exact forN_fold I h2 fun y hy => h y (List.mem_cons_of_mem _ hy)
/-- a loop that appends one a turn -/
theorem forN_app {f : α → List β → Option (List β)} {g : α → β} {N : Nat} : ∀ {xs : List α} {s : List β}, s.length + xs.length ≤ N → (∀ x ∈ xs, ∀ s, s.length < N → f x s = some (s ++ [g x])) → forN f xs s = some (s ++ xs.map g)
  | [], s, _, _ => by rw [forN, List.map_nil, List.append_nil]
  | x :: xs, s, hl, h => by
    rw [List.length_cons] at hl
    rw [forN, h x List.mem_cons_self s (by omega)]
    rw [Option.bind_some, forN_app (N := N) (by rw [List.length_append, List.length_singleton]; omega) fun y hy => h y (List.mem_cons_of_mem _ hy)]
    rw [List.append_assoc]; rfl
/-- by numbers of turns -/
theorem forN_range {f : Int → σ → Option σ} {I : Nat → σ → Prop} {n : Nat} : ∀ {m k : Nat} {s : σ}, m + k = n → I k s → (∀ i, i < n → ∀ s, I i s → ∃ s', f (i : Int) s = some s' ∧ I (i + 1) s') → ∃ s', forN f ((List.range m).map fun i : Nat => ((k + i : Nat) : Int)) s = some s' ∧ I n s'
  | 0, k, s, e, i, _ => ⟨s, rfl, by rw [← e, Nat.zero_add]; exact i⟩
  | m + 1, k, s, e, i, h => by
    obtain ⟨s1, h1, h2⟩ := h k (by omega) s i
    obtain ⟨s2, h3, h4⟩ := forN_range (m := m) (k := k + 1) (by omega) h2 h
    refine ⟨s2, ?_, h4⟩
    rw [List.range_succ_eq_map, List.map_cons, forN, Nat.add_zero, h1, Option.bind_some, List.map_map]
    rw [← h3]
    congr 1
    refine List.map_congr_left fun j _ => ?_
    show ((k + (j + 1) : Nat) : Int) = ((k + 1 + j : Nat) : Int)
    rw [show k + (j + 1) = k + 1 + j by omega]
theorem forN_rng {f : Int → σ → Option σ} {n : Nat} {s : σ} (I : Nat → σ → Prop) (i : I 0 s) (h : ∀ i, i < n → ∀ s, I i s → ∃ s', f (i : Int) s = some s' ∧ I (i + 1) s') : ∃ s', forN f ((List.range n).map fun i : Nat => (i : Int)) s = some s' ∧ I n s' := by
  obtain ⟨s', h1, h2⟩ := forN_range (m := n) (k := 0) (by omega) i h
  refine ⟨s', ?_, h2⟩
  rw [← h1]
  congr 1
  exact List.map_congr_left fun j _ => by rw [Nat.zero_add]
/-- nobody leaves -/
theorem forT_nx {f : α → σ → Option (Out σ ρ)} (I : σ → Prop) : ∀ {xs : List α} {s : σ}, I s → (∀ x ∈ xs, ∀ s, I s → ∃ s', f x s = some (.nx s') ∧ I s') → ∃ s', forT f xs s = some (.inl s') ∧ I s'
  | [], s, i, _ => ⟨s, rfl, i⟩
  | x :: xs, s, i, h => by
    obtain ⟨s1, h1, h2⟩ := h x List.mem_cons_self s i
    rw [forT, h1]
    exact forT_nx I h2 fun y hy => h y (List.mem_cons_of_mem _ hy)
theorem forT_unit {f : α → Unit → Option (Out Unit ρ)} {xs : List α} (h : ∀ x ∈ xs, f x () = some (.nx ())) : forT f xs () = some (.inl ()) := by
  obtain ⟨s, h1, _⟩ := forT_nx (f := f) (fun _ => True) (s := ()) trivial fun x hx s _ => ⟨(), h x hx, trivial⟩
  exact h1
/-- the first that leaves -/
theorem forT_find {f : α → Unit → Option (Out Unit ρ)} {p : α → Bool} {g : α → ρ} : ∀ {xs : List α}, (∀ x ∈ xs, f x () = some (if p x = true then .rt (g x) else .nx ())) → forT f xs () = some (match xs.find? p with | some x => .inr (g x) | none => .inl ())
  | [], _ => rfl
  | x :: xs, h => by
    rw [forT, h x List.mem_cons_self, List.find?_cons]
    cases p x with
    | true => rfl
    | false => exact forT_find fun y hy => h y (List.mem_cons_of_mem _ hy)
theorem rgM_0 {n : Nat} (h : n ≤ 1000000) : rgM 0 (n : Int) = some ((List.range n).map fun i : Nat => (i : Int)) := by
  unfold rgM
  rw [if_pos ⟨by omega, by omega, by omega, by omega, by show _ ≤ 16777216; omega⟩]
  unfold rgL
  rw [show ((n : Int) - 0).toNat = n by omega]
  refine congrArg some (List.map_congr_left fun i _ => by omega)
theorem rgM_from {p n : Nat} (h : p ≤ n) (hn : n ≤ 1000000) : rgM (p : Int) (n : Int) = some ((List.range (n - p)).map fun d : Nat => ((p + d : Nat) : Int)) := by
  unfold rgM
  rw [if_pos ⟨by omega, by omega, by omega, by omega, by show _ ≤ 16777216; omega⟩]
  unfold rgL
  rw [show ((n : Int) - p).toNat = n - p by omega]
  exact congrArg some (List.map_congr_left fun i _ => by omega)
theorem ixD_nat (xs : List α) (i : Nat) : ixD xs (i : Int) = xs[i]? := by
  unfold ixD
  rw [if_pos (by omega), Int.toNat_natCast]
theorem ixD_0 (xs : List α) : ixD xs 0 = xs[0]? := ixD_nat xs 0
theorem ixD_1 (xs : List α) : ixD xs 1 = xs[1]? := ixD_nat xs 1
theorem ixD_2 (xs : List α) : ixD xs 2 = xs[2]? := ixD_nat xs 2
theorem ixD_getD {xs : List α} {i : Nat} (h : i < xs.length) (d : α) : ixD xs (i : Int) = some (xs.getD i d) := by
  rw [ixD_nat, List.getD_eq_getElem?_getD, List.getElem?_eq_getElem h]; rfl
theorem catM_ok {xs ys : List α} (h : xs.length + ys.length ≤ 1000000) : catM xs ys = some (xs ++ ys) := if_pos (by show _ ≤ 16777216; omega)
theorem lim_ok {n : Nat} (h : n ≤ 1000000) : n ≤ LIM := by show n ≤ 16777216; omega
theorem lim_lt {n : Nat} (h : n ≤ 1000000) : n < LIM := by show n < 16777216; omega
theorem cut_pre {xs : List α} {i : Nat} (h : i ≤ xs.length) : cutD xs none (some (i : Int)) = xs.take i := by
  unfold cutD HT.sIx
  simp only
  rw [if_neg (by omega), Int.toNat_natCast, Nat.min_eq_left h]
  rfl
theorem cut_suf {xs : List α} {i : Nat} (h : i ≤ xs.length) : cutD xs (some (i : Int)) none = xs.drop i := by
  unfold cutD HT.sIx
  simp only
  rw [if_neg (by omega), Int.toNat_natCast, Nat.min_eq_left h, List.take_of_length_le]
  rw [List.length_drop]
  exact Nat.le_refl _
theorem cut_last1 (xs : List α) : cutD xs (some (-1)) none = xs.drop (xs.length - 1) := by
  unfold cutD HT.sIx
  simp only
  rw [if_pos (by decide)]
  have : ((-1 : Int) + (xs.length : Nat)).toNat = xs.length - 1 := by omega
  rw [this, List.take_of_length_le (by rw [List.length_drop]; omega)]
theorem m1_pos {u v : Int} (h : 0 < v) : (if 0 < v then some (u % v) else none) = some (u % v) := if_pos h
theorem d1_pos {u v : Int} (h : 0 < v) (h' : v < 1073741824) : (if 0 < v ∧ v < 1073741824 then some (u / v) else none) = some (u / v) := if_pos ⟨h, h'⟩
/-- a row told and read back -/
theorem dMap_map {e : α → D} {f : D → Option β} {g : α → β} (h : ∀ x, f (e x) = some (g x)) : ∀ xs : List α, dMap f (xs.map e) = some (xs.map g)
  | [] => rfl
  | x :: xs => by rw [List.map_cons, dMap, h, dMap_map h xs]; rfl
theorem dMap_self {e : α → D} {f : D → Option α} (h : ∀ x, f (e x) = some x) (xs : List α) : dMap f (xs.map e) = some xs := by
  rw [dMap_map (g := fun x => x) h, List.map_id']
theorem dQ_Q {e : α → D} {f : D → Option α} (h : ∀ x, f (e x) = some x) (q : Bool × List α) : dQ f (eQ e q) = some q := by
  obtain ⟨b, xs⟩ := q
  cases b
  · show (dMap f (xs.map e)).map _ = _
    rw [dMap_self h]; rfl
  · show (dMap f (xs.map e)).map _ = _
    rw [dMap_self h]; rfl
theorem dQ_I (q : Bool × List Int) : dQ dI (eQ eI q) = some q := dQ_Q (e := eI) (fun _ => rfl) q
theorem dQ_QI (q : Bool × List (Bool × List Int)) : dQ (dQ dI) (eQ (eQ eI) q) = some q := dQ_Q (e := eQ eI) dQ_I q
theorem all_id (p : α → Bool) (xs : List α) : (xs.map p).all id = xs.all p := by rw [List.all_map]; rfl
theorem any_id (p : α → Bool) (xs : List α) : (xs.map p).any id = xs.any p := by rw [List.any_map]; rfl
theorem same_of {d : D} (h : lim 30 d = true) (g : sm 40 d = true) : m__law_same d d = some true := by
  unfold m__law_same
  rw [deq_self 30 d h, g]; rfl
theorem sm_mono : ∀ (n : Nat) (d : D), sm n d = true → ∀ m, n ≤ m → sm m d = true
  | n, .none, _, m, _ => by cases m <;> rfl
  | n, .bool b, _, m, _ => by cases m <;> rfl
  | n, .int b, _, m, _ => by cases m <;> rfl
  | n, .str b, _, m, _ => by cases m <;> rfl
  | 0, .list _, h, _, _ => by simp [sm] at h
  | 0, .tuple _, h, _, _ => by simp [sm] at h
  | 0, .dict _, h, _, _ => by simp [sm] at h
  | n + 1, .dict _, h, _, _ => by simp [sm] at h
  | n + 1, .list _, h, _, _ => by simp [sm] at h
  | n + 1, .tuple xs, h, 0, hm => by omega
  | n + 1, .tuple xs, h, m + 1, hm => by
    have h : xs.length ≤ 1000 ∧ ∀ x ∈ xs, sm n x = true := by simpa [sm] using h
    have : xs.length ≤ 1000 ∧ ∀ x ∈ xs, sm m x = true := ⟨h.1, fun x hx => sm_mono n x (h.2 x hx) m (by omega)⟩
    simpa [sm] using this
theorem sm_lim : ∀ (n : Nat) (d : D), sm n d = true → lim n d = true
  | n, .none, _ => lim_none n
  | n, .bool b, _ => lim_bool n b
  | n, .int b, _ => lim_int n b
  | n, .str b, _ => lim_str n b
  | 0, .list _, h => by simp [sm] at h
  | 0, .tuple _, h => by simp [sm] at h
  | 0, .dict _, h => by simp [sm] at h
  | n + 1, .dict _, h => by simp [sm] at h
  | n + 1, .list _, h => by simp [sm] at h
  | n + 1, .tuple xs, h => by
    have h : xs.length ≤ 1000 ∧ ∀ x ∈ xs, sm n x = true := by simpa [sm] using h
    have : xs.all (lim n) = true := List.all_eq_true.mpr fun x hx => sm_lim n x (h.2 x hx)
    simpa [lim] using this
theorem same_d {n : Nat} {d : D} (h : sm n d = true) (hn : n ≤ 30) : m__law_same d d = some true := same_of (lim_mono n d (sm_lim n d h) 30 hn) (sm_mono n d h 40 (by omega))
theorem sm_T {e : α → D} {n : Nat} {xs : List α} (hl : xs.length ≤ 1000) (h : ∀ x ∈ xs, sm n (e x) = true) : sm (n + 1) (eT e xs) = true := by
  have : (xs.map e).length ≤ 1000 ∧ ∀ y ∈ xs.map e, sm n y = true := ⟨by rw [List.length_map]; exact hl, fun y hy => by obtain ⟨x, hx, rfl⟩ := List.mem_map.mp hy; exact h x hx⟩
  simpa [sm, eT] using this
theorem sm_I (n : Nat) (x : Int) : sm n (eI x) = true := by cases n <;> rfl
theorem sm_S (n : Nat) (x : Str) : sm n (eS x) = true := by cases n <;> rfl
theorem sm_B (n : Nat) (x : Bool) : sm n (eB x) = true := by cases n <;> rfl
theorem sm_O {e : α → D} {n : Nat} {x : Option α} (h : ∀ y, x = some y → sm n (e y) = true) : sm n (eO e x) = true := by
  cases x with
  | none => cases n <;> rfl
  | some y => exact h y rfl
theorem sm_P2 {e : α → D} {f : β → D} {n : Nat} {x : α × β} (h : sm n (e x.1) = true) (g : sm n (f x.2) = true) : sm (n + 1) (eP (fc e (f1 f)) x) = true := by
  have : [e x.1, f x.2].length ≤ 1000 ∧ ∀ y ∈ [e x.1, f x.2], sm n y = true := ⟨by simp, fun y hy => by
    rcases List.mem_cons.mp hy with rfl | hy
    · exact h
    · rcases List.mem_cons.mp hy with rfl | hy
      · exact g
      · cases hy⟩
  show sm (n + 1) (.tuple [e x.1, f x.2]) = true
  simpa [sm] using this
theorem sm_P3 {e : α → D} {f : β → D} {g : γ → D} {n : Nat} {x : α × β × γ} (h : sm n (e x.1) = true) (h2 : sm n (f x.2.1) = true) (h3 : sm n (g x.2.2) = true) : sm (n + 1) (eP (fc e (fc f (f1 g))) x) = true := by
  show sm (n + 1) (.tuple [e x.1, f x.2.1, g x.2.2]) = true
  simp [sm, h, h2, h3]
/-! the library's small tests -/
theorem seq_isSq (d : D) : ([Ty.list, Ty.tuple] : List Ty).any (fun t => tyIs t d) = isSq d := by cases d <;> rfl
theorem isSq_Q {e : α → D} (q : Bool × List α) : isSq (eQ e q) = true := by obtain ⟨b, xs⟩ := q; cases b <;> rfl
theorem isSq_T {e : α → D} (q : List α) : isSq (eT e q) = true := rfl
theorem isSq_L {e : α → D} (q : List α) : isSq (eL e q) = true := rfl
theorem isSq_P {f : α → List D} (q : α) : isSq (eP f q) = true := rfl
theorem lenM_Q {e : α → D} (q : Bool × List α) : lenM (eQ e q) = some (q.2.length : Int) := by
  unfold lenM
  rw [b_lenQ q (q.2.length : Int) rfl]; rfl
theorem lenM_T {e : α → D} (q : List α) : lenM (eT e q) = some (q.length : Int) := by
  unfold lenM
  rw [b_lenT q (q.length : Int) rfl]; rfl
theorem lenM_L {e : α → D} (q : List α) : lenM (eL e q) = some (q.length : Int) := by
  unfold lenM
  rw [b_lenL q (q.length : Int) rfl]; rfl
end
end Ws

set_option Elab.async false
set_option linter.all false
set_option maxRecDepth 100000
set_option maxHeartbeats 400000
/-! Ty7: sorted rows, unlike rows -/
namespace Ws
open PySem
theorem eqv_int (a b : Int) : PyData.eqv (.int a) (.int b) = decide (a = b) := by
  by_cases h : a = b
  · subst h; simp [PyData.eqv]
  · simp [PyData.eqv, h]
theorem lim_ints (q : Bool) (c : List Int) : lim 1 (sq q (c.map .int)) = true := by
  have : (c.map PyData.int).all (lim 0) = true := by
    rw [List.all_eq_true]
    intro x hx
    obtain ⟨v, _, rfl⟩ := List.mem_map.mp hx
    rfl
  cases q
  · simpa [sq, lim] using this
  · simpa [sq, lim] using this
theorem sort_first {α : Type} {le : α → α → Bool} {m : α} (hr : le m m = true) : ∀ {l : List α}, m ∈ l → (∀ x ∈ l, x = m ∨ (le m x = true ∧ le x m = false)) → ∃ rest, sortD le l = m :: rest
  | [], h, _ => by cases h
  | x :: xs, h, hh => by
    show ∃ rest, insD le x (sortD le xs) = m :: rest
    by_cases c : m ∈ xs
    · obtain ⟨rest, e⟩ := sort_first hr c fun y hy => hh y (List.mem_cons_of_mem _ hy)
      rw [e]
      show ∃ r, (if le x m then x :: m :: rest else m :: insD le x rest) = m :: r
      rcases hh x List.mem_cons_self with z | ⟨_, z⟩
      · subst z
        rw [if_pos hr]
        exact ⟨_, rfl⟩
      · rw [if_neg (by rw [z]; exact Bool.false_ne_true)]
        exact ⟨_, rfl⟩
    · have e : x = m := by
        rcases List.mem_cons.mp h with h | h
        · exact h.symm
        · exact absurd h c
      subst e
      cases es : sortD le xs with
      | nil => exact ⟨[], rfl⟩
      | cons y ys =>
        have hy : y ∈ xs := sortD_mem (le := le) (by rw [es]; exact List.mem_cons_self)
        show ∃ r, (if le x y then x :: y :: ys else y :: insD le x ys) = x :: r
        rcases hh y (List.mem_cons_of_mem _ hy) with z | ⟨z, _⟩
        · exact absurd (z ▸ hy) c
        · rw [if_pos z]
          exact ⟨_, rfl⟩
def iT (x : List Int) : D := .tuple (x.map .int)
theorem eqv_ints : ∀ x y : List Int, PyData.eqvAll (x.map .int) (y.map .int) = decide (x = y)
  | [], [] => rfl
  | [], b :: y => rfl
  | a :: x, [] => rfl
  | a :: x, b :: y => by
    have ih := eqv_ints x y
    show (PyData.eqv (.int a) (.int b) && PyData.eqvAll (x.map .int) (y.map .int)) = _
    rw [ih]
    have e : PyData.eqv (.int a) (.int b) = decide (a = b) := by
      have := eqD_int a b
      unfold eqD at this
      simp only [lim_int, Bool.and_self, if_true] at this
      injection this with this
      injection this
    rw [e]
    by_cases h1 : a = b <;> by_cases h2 : x = y <;> simp [h1, h2]
theorem eqv_iT (x y : List Int) : PyData.eqv (iT x) (iT y) = decide (x = y) := eqv_ints x y
theorem alike_ints : ∀ x y : List Int, PySem.W.alikeAll (x.map .int) (y.map .int) = true
  | [], _ => by simp [PySem.W.alikeAll]
  | _ :: _, [] => by simp [PySem.W.alikeAll]
  | a :: x, b :: y => by
    rw [List.map_cons, List.map_cons, PySem.W.alikeAll, alike_ints x y]
    simp [PySem.W.alike]
theorem alike_iT (x y : List Int) : PySem.W.alike (iT x) (iT y) = true := by
  unfold iT
  rw [PySem.W.alike, alike_ints]
theorem lt_iT (x y : List Int) : PySem.W.dataLt (iT x) (iT y) = decide (x < y) := PySem.W.dataLt_ints x y
theorem ints_irrefl (x : List Int) : ¬ x < x := List.lt_irrefl x
theorem dl_pair (a b : Int) (x y : List Int) : PySem.W.dataLt (.tuple [.int a, iT x]) (.tuple [.int b, iT y]) = decide (a < b ∨ (a = b ∧ x < y)) := by
  rw [PySem.W.dataLt_pair (by simp [PySem.W.alike]) (alike_iT x y), eqv_int, eqv_iT, lt_iT, PySem.W.dataLt_int]
  by_cases h1 : a = b
  · subst h1
    by_cases h2 : x = y
    · subst h2
      simp [ints_irrefl]
    · simp [h2]
  · simp [h1]
theorem lim_iT (n : Nat) (x : List Int) : lim (n + 1) (iT x) = true := by
  have h := lim_ints true x
  exact lim_mono 1 _ h (n + 1) (by omega)
theorem leT_rk (a b : Int) : leT (.tuple [.int 2, .int a]) (.tuple [.int 2, .int b]) = decide (a ≤ b) := by
  unfold leT
  rw [PySem.W.dataLt_ii]
  by_cases h : a ≤ b
  · rw [decide_eq_true h, decide_eq_false (by omega)]; rfl
  · rw [decide_eq_false h, decide_eq_true (by omega)]; rfl
theorem sortOk_map {α : Type} (f : α → D) (l : List α) (h1 : ∀ a, isNone (f a) = false ∧ lim 40 (f a) = true ∧ isTup (f a) = true) (h2 : ∀ a b, PySem.W.alike (f a) (f b) = true) : sortOk (l.map f) = true := by
  unfold sortOk allOk
  rw [Bool.and_eq_true, Bool.or_eq_true]
  refine ⟨List.all_eq_true.mpr fun x hx => ?_, .inl (List.all_eq_true.mpr fun x hx => ?_)⟩
  · obtain ⟨a, _, rfl⟩ := List.mem_map.mp hx
    obtain ⟨p1, p2, _⟩ := h1 a
    rw [p1, p2]
    refine List.all_eq_true.mpr fun z hz => ?_
    obtain ⟨b, _, rfl⟩ := List.mem_map.mp hz
    exact h2 a b
  · obtain ⟨a, _, rfl⟩ := List.mem_map.mp hx
    exact (h1 a).2.2
def srt (xs : List Int) : List Int := sortD (fun a b => decide (a ≤ b)) xs
theorem srt_ok (xs : List Int) : (srt xs).Pairwise (· ≤ ·) ∧ ∀ y, y ∈ srt xs ↔ y ∈ xs := by
  refine ⟨?_, fun y => (sortD_perm xs).mem_iff⟩
  unfold srt
  have e := sortD_merge (le := fun a b : Int => decide (a ≤ b)) (fun a b c h1 h2 => by
    have h1 := of_decide_eq_true h1
    have h2 := of_decide_eq_true h2
    exact decide_eq_true (by omega)) (fun a b => by
    by_cases h : a ≤ b
    · rw [decide_eq_true h]; rfl
    · rw [decide_eq_true (show b ≤ a by omega), Bool.or_true]) xs
  rw [← e]
  have p := List.pairwise_mergeSort (le := fun a b : Int => decide (a ≤ b)) (fun a b c h1 h2 => by
    have h1 := of_decide_eq_true h1
    have h2 := of_decide_eq_true h2
    exact decide_eq_true (by omega)) (fun a b => by
    by_cases h : a ≤ b
    · rw [decide_eq_true h]; rfl
    · rw [decide_eq_true (show b ≤ a by omega), Bool.or_true]) xs
  exact p.imp fun h => of_decide_eq_true h
def ded : Option Int → List Int → List Int
  | _, [] => []
  | l, x :: r => if l = some x then ded l r else x :: ded (some x) r
theorem ded_ok : ∀ (xs : List Int) (l : Option Int), xs.Pairwise (· ≤ ·) → (∀ a, l = some a → ∀ x ∈ xs, a ≤ x) → (ded l xs).Pairwise (· < ·) ∧ (∀ a, l = some a → ∀ y ∈ ded l xs, a < y) ∧ ∀ y, (y ∈ ded l xs ↔ y ∈ xs ∧ l ≠ some y)
  | [], l, _, _ => ⟨.nil, fun _ _ y h => (by cases h), fun y => ⟨fun h => (by cases h), fun h => (by cases h.1)⟩⟩
  | x :: r, l, hp, hl => by
    obtain ⟨h1, h2⟩ := List.pairwise_cons.mp hp
    unfold ded
    by_cases e : l = some x
    · rw [if_pos e]
      obtain ⟨i1, i2, i3⟩ := ded_ok r l h2 fun a ha y hy => hl a ha y (List.mem_cons_of_mem _ hy)
      refine ⟨i1, i2, fun y => ?_⟩
      rw [i3, List.mem_cons]
      exact ⟨fun ⟨a, b⟩ => ⟨.inr a, b⟩, fun ⟨a, b⟩ => ⟨a.elim (fun z => absurd (z ▸ e) b) id, b⟩⟩
    · rw [if_neg e]
      obtain ⟨i1, i2, i3⟩ := ded_ok r (some x) h2 fun a ha y hy => by
        injection ha with ha
        exact ha ▸ h1 y hy
      refine ⟨List.pairwise_cons.mpr ⟨i2 x rfl, i1⟩, fun a ha y hy => ?_, fun y => ?_⟩
      · have hax : a < x := by
          have := hl a ha x List.mem_cons_self
          have : a ≠ x := fun z => e (z ▸ ha)
          omega
        rcases List.mem_cons.mp hy with rfl | hy
        · exact hax
        · have := i2 x rfl y hy; omega
      · rw [List.mem_cons, i3, List.mem_cons]
        constructor
        · rintro (rfl | ⟨a, b⟩)
          · exact ⟨.inl rfl, e⟩
          · refine ⟨.inr a, fun z => ?_⟩
            have := hl y z x List.mem_cons_self
            have := h1 y a
            exact b (congrArg some (by omega))
        · rintro ⟨rfl | a, b⟩
          · exact .inl rfl
          · by_cases z : y = x
            · exact .inl z
            · exact .inr ⟨a, fun w => z (by injection w with w; exact w.symm)⟩
def dist (xs : List Int) : List Int := ded none (srt xs)
theorem dist_ok (xs : List Int) : (dist xs).Nodup ∧ ∀ y, (y ∈ dist xs ↔ y ∈ xs) := by
  obtain ⟨h1, h2⟩ := srt_ok xs
  obtain ⟨i1, _, i3⟩ := ded_ok (srt xs) none h1 (fun a h => by cases h)
  refine ⟨i1.imp fun h => by omega, fun y => ?_⟩
  show y ∈ ded none (srt xs) ↔ _
  rw [i3, h2]
  exact ⟨fun h => h.1, fun h => ⟨h, fun z => by cases z⟩⟩
theorem ne_rk (a b : Int) : cmpD .ne (.tuple [.int 2, .int a]) (.tuple [.int 2, .int b]) = .ok (.bool (!decide (a = b))) := by
  show notD (cmpD .eq _ _) = _
  have : cmpD .eq (.tuple [.int 2, .int a]) (.tuple [.int 2, .int b]) = .ok (.bool (decide (a = b))) := by
    show eqD _ _ = _
    unfold eqD
    have l1 : ∀ q : Int, lim 40 (.tuple [.int 2, .int q]) = true := fun q => rfl
    rw [l1, l1]
    show Rs.ok (PyData.bool (PyData.eqv (.tuple [.int 2, .int a]) (.tuple [.int 2, .int b]))) = _
    have e := eqv_iT [2, a] [2, b]
    have e : PyData.eqv (.tuple [.int 2, .int a]) (.tuple [.int 2, .int b]) = decide ([2, a] = [2, b]) := e
    rw [e]
    by_cases h : a = b
    · subst h; rw [decide_eq_true rfl, decide_eq_true rfl]
    · rw [decide_eq_false h, decide_eq_false (fun z => h (by injection z with _ z; injection z))]
  rw [this]; rfl
theorem ded_len : ∀ (xs : List Int) (l : Option Int), (ded l xs).length ≤ xs.length
  | [], _ => Nat.le_refl _
  | x :: r, l => by
    unfold ded
    split
    · exact Nat.le_succ_of_le (ded_len r l)
    · exact Nat.succ_le_succ (ded_len r _)
def rkI (v : Int) : D := .tuple [.int 2, .int v]
theorem rank_I (v : Int) : m_rank (eI v) = some (rkI v) := rfl
theorem mapM_some {α β : Type} {f : α → Option β} {g : α → β} : ∀ {xs : List α}, (∀ x ∈ xs, f x = some (g x)) → xs.mapM f = some (xs.map g)
  | [], _ => rfl
  | x :: xs, h => by rw [List.mapM_cons, h x List.mem_cons_self, mapM_some fun y hy => h y (List.mem_cons_of_mem _ hy)]; rfl
theorem sortKM_ints (xs : List Int) : sortKM eD xs (xs.map rkI) = some (srt xs) := by
  unfold sortKM
  rw [if_pos (by
    rw [List.map_map]
    exact sortOk_map (fun v : Int => PyData.tuple [.int 2, .int v]) xs (fun a => ⟨rfl, rfl, rfl⟩) fun a b => by simp [PySem.W.alike, PySem.W.alikeAll])]
  have e : xs.zip (xs.map rkI) = xs.map fun v => (v, rkI v) := by
    have := List.zip_map' (f := fun v : Int => v) (g := rkI) (l := xs)
    rwa [List.map_id'] at this
  rw [e, sortD_map, List.map_map]
  have e2 : (fun a b : Int => leT (eD (rkI a)) (eD (rkI b))) = fun a b => decide (a ≤ b) := by
    funext a b
    exact leT_rk a b
  refine congrArg some ?_
  show List.map _ (sortD (fun a b : Int => leT (eD (rkI a)) (eD (rkI b))) xs) = _
  rw [e2]
  exact List.map_id' _
theorem ne_rkI (a b : Int) : cmpM .ne (rkI a) (rkI b) = some (!decide (a = b)) := by
  unfold cmpM
  rw [show cmpD .ne (rkI a) (rkI b) = _ from ne_rk a b]; rfl
theorem ixD_neg1 {α : Type} (xs : List α) (x : α) : ixD (xs ++ [x]) (-1) = some x := ixD_last xs x
theorem ded_loop {f : Int → List Int → Option (List Int)} (hf : ∀ y s, s.length < 1000 → f y s = some (if s.getLast? = some y then s else s ++ [y])) : ∀ (xs acc : List Int), acc.length + xs.length ≤ 1000 → forN f xs acc = some (acc ++ ded acc.getLast? xs)
  | [], acc, _ => by rw [forN]; unfold ded; rw [List.append_nil]
  | y :: r, acc, h => by
    rw [List.length_cons] at h
    rw [forN, hf y acc (by omega), Option.bind_some]
    unfold ded
    split
    · rw [ded_loop hf r acc (by omega)]
    · rw [ded_loop hf r (acc ++ [y]) (by rw [List.length_append, List.length_singleton]; omega), List.append_assoc]
      simp
theorem dist_len (xs : List Int) : (dist xs).length ≤ xs.length := by
  have := ded_len (srt xs) none
  have hl : (srt xs).length = xs.length := sortD_len
  unfold dist
  omega
theorem last_ne {α : Type} {xs : List α} : (!!xs.isEmpty) = xs.isEmpty := by cases xs <;> rfl
theorem cmp_in_nats (i : Nat) (l : List Nat) : cmpM .nin (eI (i : Int)) (eT eI (l.map fun a : Nat => (a : Int))) = some (!decide (i ∈ l)) := by
  have h1 : lim 40 (eT eI (l.map fun a : Nat => (a : Int))) = true := lim_iT 39 _
  have h : inD (eI (i : Int)) (eT eI (l.map fun a : Nat => (a : Int))) = .ok (.bool (decide (i ∈ l))) := by
    show (if lim 40 (eI (i : Int)) && lim 40 (eT eI (l.map fun a : Nat => (a : Int))) then Rs.ok (PyData.bool (((l.map fun a : Nat => (a : Int)).map eI).any fun z => PyData.eqv z (eI (i : Int)))) else .st) = _
    rw [h1, show lim 40 (eI (i : Int)) = true from rfl]
    refine congrArg (fun b => Rs.ok (PyData.bool b)) ?_
    rw [List.map_map, List.any_map]
    induction l with
    | nil => rfl
    | cons a l ih =>
      rw [List.any_cons, ih (lim_iT 39 _)]
      show (PyData.eqv (eI (a : Int)) (eI (i : Int)) || _) = _
      rw [ky_I.eq]
      by_cases z : a = i
      · subst z; simp
      · have : decide (((a : Nat) : Int) = (i : Int)) = false := decide_eq_false (by omega)
        rw [this, Bool.false_or]
        by_cases w : i ∈ l
        · simp [w]
        · simp [w]; omega
  unfold cmpM
  show (notD (inD _ _)).o.bind dB = _
  rw [h]; rfl
theorem eq_nil_ints (xs : List Int) : cmpM .eq (eL eI xs) (eL eI []) = some xs.isEmpty := by
  have h : cmpD .eq (.list (xs.map eI)) (.list []) = .ok (.bool (xs.map eI).isEmpty) := eq_nil (by
    rw [List.all_eq_true]
    intro x hx
    obtain ⟨v, _, rfl⟩ := List.mem_map.mp hx
    rfl)
  unfold cmpM
  show (cmpD .eq (.list (xs.map eI)) (.list [])).o.bind dB = _
  rw [h]
  cases xs <;> rfl
end Ws

set_option maxRecDepth 100000
namespace Ws
open PySem
namespace K06
abbrev t (x : String) : Str := Str.ofString x
def b_need : List S := [(.iff (.not_ (.wv 0)) [.stuck] [])]
def f_need : Fn := ⟨2, b_need, 2⟩
def b_is_integer : List S := [(.ret (.and_ (.isi (.wv 0) [.int]) (.not_ (.isi (.wv 0) [.bool]))))]
def f_is_integer : Fn := ⟨1, b_is_integer, 1⟩
def b_is_between : List S := [(.ret (.and_ (.nomut (.call 1 [(.var 0)])) (.chain .le .le (.wv 1) (.wv 0) (.wv 2))))]
def f_is_between : Fn := ⟨3, b_is_between, 3⟩
def b_is_sequence : List S := [(.ret (.isi (.wv 0) [.list, .tuple]))]
def f_is_sequence : Fn := ⟨1, b_is_sequence, 1⟩
def b_is_row : List S := [(.ret (.and_ (.nomut (.call 3 [(.var 0)])) (.chain .le .le (.wv 1) (.bi .len [(.wv 0)]) (.wv 2))))]
def f_is_row : Fn := ⟨3, b_is_row, 3⟩
def b_tupled : List S := [(.iff (.nomut (.call 3 [(.var 0)])) [(.ret (.bi .tuple [(.lc [1] (.nomut (.call 5 [(.var 1)])) (.nm 1) (.seq (.wv 0)) .none)]))] []), (.ret (.var 0))]
def f_tupled : Fn := ⟨1, b_tupled, 2⟩
def b_rank : List S := [(.iff (.cmp .is_ (.wv 0) (.lit .none)) [(.ret (.tup [(.lit (.int (0)))]))] []), (.iff (.isi (.wv 0) [.bool]) [(.ret (.tup [(.lit (.int (1))), (.bi .int [(.wv 0)])]))] []), (.iff (.isi (.wv 0) [.int]) [(.ret (.tup [(.lit (.int (2))), (.var 0)]))] []), (.iff (.isi (.wv 0) [.str]) [(.ret (.tup [(.lit (.int (3))), (.var 0)]))] []), (.ret (.tup [(.lit (.int (4))), (.bi .tuple [(.lc [1] (.nomut (.call 6 [(.var 1)])) (.nm 1) (.seq (.wv 0)) .none)])]))]
def f_rank : Fn := ⟨1, b_rank, 2⟩
def b_distinct : List S := [(.asg (.nm 1) (.lst []) true []), (.for_ (.nm 2) (.seq (.sortk 6 (.wv 0))) [(.iff (.or_ (.not_ (.wv 1)) (.cmp .ne (.nomut (.call 6 [(.idx (.wv 1) (.neg (.lit (.int (1)))))])) (.nomut (.call 6 [(.var 2)])))) [(.app 1 (.var 2) [2])] [])] []), (.ret (.bi .tuple [(.wv 1)]))]
def f_distinct : Fn := ⟨1, b_distinct, 3⟩
def b_ratio : List S := [(.iff (.cmp .lt (.wv 1) (.lit (.int (0)))) [(.par 0 1 (.neg (.wv 0)) (.neg (.wv 1)) [])] []), (.asg (.nm 2) (.bi .gcd [(.wv 0), (.wv 1)]) false []), (.ret (.tup [(.bin .fdiv (.wv 0) (.wv 2)), (.bin .fdiv (.wv 1) (.wv 2))]))]
def f_ratio : Fn := ⟨2, b_ratio, 3⟩
def b_is_age_pair : List S := [(.ret (.and_ (.nomut (.call 4 [(.var 0), (.lit (.int (2))), (.lit (.int (2)))])) (.bi .all [(.lc [1] (.nomut (.call 2 [(.var 1), (.lit (.int (0))), (.gl (.int (9999)))])) (.nm 1) (.seq (.wv 0)) .none)])))]
def f_is_age_pair : Fn := ⟨1, b_is_age_pair, 2⟩
def b_is_age_layers : List S := [(.ret (.and_ (.nomut (.call 4 [(.var 0), (.lit (.int (1))), (.gl (.int (96)))])) (.bi .all [(.lc [1] (.nomut (.call 9 [(.var 1)])) (.nm 1) (.seq (.wv 0)) .none)])))]
def f_is_age_layers : Fn := ⟨1, b_is_age_layers, 2⟩
def b_years_of : List S := [(.asg (.nm 1) (.lst []) true []), (.asg (.nm 2) (.lit (.int (0))) false []), (.for_ (.tp [(.nm 5), (.nm 6)]) (.seq (.var 0)) [(.asg (.nm 2) (.bi .max [(.wv 2), (.wv 5)]) false []), (.iff (.cmp .gt (.wv 2) (.wv 6)) [(.ret (.lit .none))] []), (.app 1 (.var 2) [2])] [0]), (.asg (.nm 3) (.lst []) true []), (.asg (.nm 2) (.gl (.int (9999))) false []), (.for_ (.nm 4) (.rev (.var 0)) [(.asg (.nm 2) (.bi .min [(.wv 2), (.idx (.wv 4) (.lit (.int (1))))]) false []), (.app 3 (.var 2) [2])] [0]), (.ret (.tup [(.bi .tuple [(.wv 1)]), (.bi .tuple [(.rev (.wv 3))])]))]
def f_years_of : Fn := ⟨1, b_years_of, 7⟩
def b_earliest : List S := [(.drop (.nomut (.call 0 [(.nomut (.call 10 [(.var 0)])), (.lit (.int (1)))])) []), (.asg (.nm 1) (.nomut (.call 11 [(.nomut (.call 5 [(.var 0)]))])) false []), (.ret (.ite (.cmp .is_ (.wv 1) (.lit .none)) (.lit .none) (.idx (.wv 1) (.lit (.int (0))))))]
def f_earliest : Fn := ⟨1, b_earliest, 2⟩
def b_latest : List S := [(.drop (.nomut (.call 0 [(.nomut (.call 10 [(.var 0)])), (.lit (.int (1)))])) []), (.asg (.nm 1) (.nomut (.call 11 [(.nomut (.call 5 [(.var 0)]))])) false []), (.ret (.ite (.cmp .is_ (.wv 1) (.lit .none)) (.lit .none) (.idx (.wv 1) (.lit (.int (1))))))]
def f_latest : Fn := ⟨1, b_latest, 2⟩
def b_denial_pairs : List S := [(.asg (.nm 1) (.bi .len [(.wv 0)]) false []), (.ret (.lc2 [2, 3] [3] (.tup [(.var 2), (.var 3)]) (.nm 2) (.rng1 (.wv 1)) .none (.nm 3) (.rng2 (.wv 2) (.wv 1)) (.some (.cmp .gt (.idx (.idx (.wv 0) (.wv 2)) (.lit (.int (0)))) (.idx (.idx (.wv 0) (.wv 3)) (.lit (.int (1))))))))]
def f_denial_pairs : Fn := ⟨1, b_denial_pairs, 4⟩
def b_denial : List S := [(.drop (.nomut (.call 0 [(.nomut (.call 10 [(.var 0)])), (.lit (.int (1)))])) []), (.asg (.nm 1) (.call 14 [(.nomut (.call 5 [(.var 0)]))]) false []), (.ret (.ite (.wv 1) (.idx (.wv 1) (.lit (.int (0)))) (.lit .none)))]
def f_denial : Fn := ⟨1, b_denial, 2⟩
def b_is_denial_pair : List S := [(.iff (.or_ (.not_ (.nomut (.call 4 [(.var 1), (.lit (.int (2))), (.lit (.int (2)))]))) (.not_ (.nomut (.call 2 [(.idx (.wv 1) (.lit (.int (0)))), (.lit (.int (0))), (.bin .sub (.bi .len [(.wv 0)]) (.lit (.int (1))))])))) [(.ret (.lit (.bool false)))] []), (.iff (.not_ (.nomut (.call 2 [(.idx (.wv 1) (.lit (.int (1)))), (.idx (.wv 1) (.lit (.int (0)))), (.bin .sub (.bi .len [(.wv 0)]) (.lit (.int (1))))]))) [(.ret (.lit (.bool false)))] []), (.ret (.cmp .gt (.idx (.idx (.wv 0) (.idx (.wv 1) (.lit (.int (0))))) (.lit (.int (0)))) (.idx (.idx (.wv 0) (.idx (.wv 1) (.lit (.int (1))))) (.lit (.int (1))))))]
def f_is_denial_pair : Fn := ⟨2, b_is_denial_pair, 2⟩
def b_denies : List S := [(.drop (.nomut (.call 0 [(.nomut (.call 10 [(.var 0)])), (.lit (.int (1)))])) []), (.ret (.nomut (.call 16 [(.nomut (.call 5 [(.var 0)])), (.var 1)])))]
def f_denies : Fn := ⟨2, b_denies, 2⟩
def b_breaks : List S := [(.drop (.nomut (.call 0 [(.nomut (.call 10 [(.var 0)])), (.lit (.int (1)))])) []), (.asg (.nm 1) (.nomut (.call 11 [(.nomut (.call 5 [(.var 0)]))])) false []), (.iff (.cmp .is_ (.wv 1) (.lit .none)) [(.ret (.lit .none))] []), (.asg (.tp [(.nm 2), (.nm 3)]) (.var 1) false [1]), (.ret (.bi .tuple [(.lc [4] (.bi .max [(.lit (.int (0))), (.bin .sub (.idx (.wv 2) (.bin .add (.wv 4) (.lit (.int (1))))) (.idx (.wv 3) (.wv 4)))]) (.nm 4) (.rng1 (.bin .sub (.bi .len [(.wv 2)]) (.lit (.int (1))))) .none)]))]
def f_breaks : Fn := ⟨1, b_breaks, 5⟩
def b_span_of : List S := [(.asg (.tp [(.nm 3), (.nm 4)]) (.var 0) false [0]), (.iff (.cmp .eq (.wv 1) (.wv 2)) [(.ret (.tup [(.lit (.int (0))), (.lit (.int (0)))]))] []), (.ret (.tup [(.bi .max [(.lit (.int (0))), (.bin .sub (.idx (.wv 3) (.wv 2)) (.idx (.wv 4) (.wv 1)))]), (.bin .sub (.idx (.wv 4) (.wv 2)) (.idx (.wv 3) (.wv 1)))]))]
def f_span_of : Fn := ⟨3, b_span_of, 5⟩
def b_span : List S := [(.drop (.nomut (.call 0 [(.nomut (.call 10 [(.var 0)])), (.lit (.int (1)))])) []), (.drop (.nomut (.call 0 [(.nomut (.call 2 [(.var 1), (.lit (.int (0))), (.bin .sub (.bi .len [(.wv 0)]) (.lit (.int (1))))])), (.lit (.int (2)))])) []), (.drop (.nomut (.call 0 [(.nomut (.call 2 [(.var 2), (.var 1), (.bin .sub (.bi .len [(.wv 0)]) (.lit (.int (1))))])), (.lit (.int (3)))])) []), (.asg (.nm 3) (.nomut (.call 11 [(.nomut (.call 5 [(.var 0)]))])) false []), (.ret (.ite (.cmp .is_ (.wv 3) (.lit .none)) (.lit .none) (.nomut (.call 19 [(.var 3), (.var 1), (.var 2)]))))]
def f_span : Fn := ⟨3, b_span, 4⟩
def b_narrowed : List S := [(.drop (.nomut (.call 0 [(.nomut (.call 10 [(.var 0)])), (.lit (.int (1)))])) []), (.asg (.nm 1) (.nomut (.call 11 [(.nomut (.call 5 [(.var 0)]))])) false []), (.iff (.cmp .is_ (.wv 1) (.lit .none)) [(.ret (.lit .none))] []), (.ret (.bi .tuple [(.lc [2] (.tup [(.idx (.idx (.wv 1) (.lit (.int (0)))) (.wv 2)), (.idx (.idx (.wv 1) (.lit (.int (1)))) (.wv 2))]) (.nm 2) (.rng1 (.bi .len [(.idx (.wv 1) (.lit (.int (0))))])) .none)]))]
def f_narrowed : Fn := ⟨1, b_narrowed, 3⟩
def b_are_thicknesses : List S := [(.iff (.not_ (.nomut (.call 4 [(.var 1), (.bi .len [(.wv 0)]), (.bi .len [(.wv 0)])]))) [(.ret (.lit (.bool false)))] []), (.ret (.bi .all [(.lc [2] (.nomut (.call 2 [(.var 2), (.lit (.int (1))), (.gl (.int (9999)))])) (.nm 2) (.seq (.wv 1)) .none)]))]
def f_are_thicknesses : Fn := ⟨2, b_are_thicknesses, 3⟩
def b_rate : List S := [(.drop (.nomut (.call 0 [(.nomut (.call 10 [(.var 0)])), (.lit (.int (1)))])) []), (.drop (.nomut (.call 0 [(.nomut (.call 22 [(.var 0), (.var 1)])), (.lit (.int (2)))])) []), (.asg (.nm 2) (.nomut (.call 11 [(.nomut (.call 5 [(.var 0)]))])) false []), (.iff (.cmp .is_ (.wv 2) (.lit .none)) [(.ret (.lit .none))] []), (.asg (.tp [(.nm 4), (.nm 5)]) (.nomut (.call 19 [(.var 2), (.lit (.int (0))), (.bin .sub (.bi .len [(.wv 0)]) (.lit (.int (1))))])) false []), (.asg (.nm 3) (.bi .sum [(.bi .list [(.wv 1)])]) false []), (.iff (.cmp .eq (.wv 5) (.lit (.int (0)))) [(.ret (.tup [(.lit .none), (.lit .none)]))] []), (.iff (.cmp .eq (.wv 4) (.lit (.int (0)))) [(.ret (.tup [(.nomut (.call 8 [(.var 3), (.var 5)])), (.lit .none)]))] []), (.ret (.tup [(.nomut (.call 8 [(.var 3), (.var 5)])), (.nomut (.call 8 [(.var 3), (.var 4)]))]))]
def f_rate : Fn := ⟨2, b_rate, 6⟩
def b_at_year : List S := [(.drop (.nomut (.call 0 [(.nomut (.call 10 [(.var 0)])), (.lit (.int (1)))])) []), (.drop (.nomut (.call 0 [(.nomut (.call 1 [(.var 1)])), (.lit (.int (2)))])) []), (.asg (.nm 2) (.nomut (.call 11 [(.nomut (.call 5 [(.var 0)]))])) false []), (.iff (.cmp .is_ (.wv 2) (.lit .none)) [(.ret (.tup []))] []), (.asg (.tp [(.nm 3), (.nm 4)]) (.var 2) false [2]), (.ret (.bi .tuple [(.lc [5] (.var 5) (.nm 5) (.rng1 (.bi .len [(.wv 3)])) (.some (.chain .le .le (.idx (.wv 3) (.wv 5)) (.wv 1) (.idx (.wv 4) (.wv 5)))))]))]
def f_at_year : Fn := ⟨2, b_at_year, 6⟩
def b_off_table : List S := [(.asg (.nm 1) (.nomut (.call 7 [(.bin .add (.lst [(.lit (.int (0)))]) (.lc [9] (.idx (.wv 9) (.lit (.int (0)))) (.nm 9) (.seq (.wv 0)) .none))])) false []), (.asg (.nm 2) (.lst [(.dc [7] (.var 7) (.lit (.int (0))) (.nm 7) (.seq (.wv 1)) .none)]) true [7]), (.for_ (.tp [(.nm 3), (.nm 4)]) (.rev (.var 0)) [(.asg (.nm 5) (.idx (.wv 2) (.neg (.lit (.int (1))))) false []), (.asg (.nm 6) .dnew true []), (.for_ (.nm 7) (.seq (.var 1)) [(.seti 6 (.wv 7) (.bin .add (.lit (.int (1))) (.idx (.wv 5) (.wv 7))) []), (.asg (.nm 8) (.bi .max [(.wv 7), (.wv 3)]) false []), (.iff (.cmp .le (.wv 8) (.wv 4)) [(.seti 6 (.wv 7) (.bi .min [(.idx (.wv 6) (.wv 7)), (.idx (.wv 5) (.wv 8))]) [])] [])] [1]), (.app 2 (.var 6) [6])] [0]), (.ret (.rev (.wv 2)))]
def f_off_table : Fn := ⟨1, b_off_table, 10⟩
def b_places_off : List S := [(.asg (.nm 1) (.call 25 [(.var 0)]) false [0]), (.asg (.nm 2) (.lit (.int (0))) false []), (.asg (.nm 3) (.lst []) true []), (.for_ (.nm 4) (.rng1 (.bi .len [(.wv 0)])) [(.iff (.cmp .eq (.idx (.idx (.wv 1) (.wv 4)) (.wv 2)) (.bin .add (.lit (.int (1))) (.idx (.idx (.wv 1) (.bin .add (.wv 4) (.lit (.int (1))))) (.wv 2)))) [(.app 3 (.var 4) [4])] [(.asg (.nm 2) (.bi .max [(.wv 2), (.idx (.idx (.wv 0) (.wv 4)) (.lit (.int (0))))]) false [])])] []), (.ret (.bi .tuple [(.wv 3)]))]
def f_places_off : Fn := ⟨1, b_places_off, 5⟩
def b_least_off : List S := [(.drop (.nomut (.call 0 [(.nomut (.call 10 [(.var 0)])), (.lit (.int (1)))])) []), (.ret (.nomut (.call 26 [(.nomut (.call 5 [(.var 0)]))])))]
def f_least_off : Fn := ⟨1, b_least_off, 1⟩
def b_no_fewer_holds : List S := [(.drop (.nomut (.call 0 [(.nomut (.call 10 [(.var 0)])), (.lit (.int (1)))])) []), (.drop (.nomut (.call 0 [(.nomut (.call 1 [(.var 1)])), (.lit (.int (2)))])) []), (.asg (.nm 3) (.nomut (.call 5 [(.var 0)])) false []), (.iff (.or_ (.not_ (.nomut (.call 4 [(.var 2), (.lit (.int (0))), (.bi .len [(.wv 3)])]))) (.cmp .ne (.bi .len [(.wv 2)]) (.wv 1))) [(.ret (.lit (.bool false)))] []), (.asg (.nm 4) .dnew true []), (.for_ (.nm 5) (.seq (.var 2)) [(.iff (.not_ (.nomut (.call 16 [(.var 3), (.var 5)]))) [(.ret (.lit (.bool false)))] []), (.asg (.tp [(.nm 6), (.nm 7)]) (.var 5) false [5]), (.iff (.or_ (.cmp .in_ (.wv 6) (.wv 4)) (.cmp .in_ (.wv 7) (.wv 4))) [(.ret (.lit (.bool false)))] []), (.seti 4 (.wv 6) (.lit (.bool true)) []), (.seti 4 (.wv 7) (.lit (.bool true)) [])] [2]), (.ret (.lit (.bool true)))]
def f_no_fewer_holds : Fn := ⟨3, b_no_fewer_holds, 8⟩
def b__law_same : List S := [(.iff (.and_ (.isi (.wv 0) [.tuple]) (.isi (.wv 1) [.tuple])) [(.ret (.and_ (.cmp .eq (.bi .len [(.wv 0)]) (.bi .len [(.wv 1)])) (.cmp .eq (.lc [3] (.var 3) (.nm 3) (.rng1 (.bi .len [(.wv 0)])) (.some (.not_ (.nomut (.call 29 [(.idx (.wv 0) (.wv 3)), (.idx (.wv 1) (.wv 3))]))))) (.lst []))))] []), (.iff (.or_ (.cmp .is_ (.wv 0) (.lit .none)) (.cmp .is_ (.wv 1) (.lit .none))) [(.ret (.and_ (.cmp .is_ (.wv 0) (.lit .none)) (.cmp .is_ (.wv 1) (.lit .none))))] []), (.asg (.nm 2) (.and_ (.isi (.wv 0) [.int, .str]) (.cmp .eq (.isi (.wv 0) [.int]) (.isi (.wv 1) [.int]))) false []), (.ret (.and_ (.var 2) (.and_ (.cmp .eq (.isi (.wv 0) [.bool]) (.isi (.wv 1) [.bool])) (.cmp .eq (.wv 0) (.wv 1)))))]
def f__law_same : Fn := ⟨2, b__law_same, 4⟩
def b__law_listed : List S := [(.iff (.isi (.wv 0) [.tuple]) [(.ret (.lc [1] (.call 30 [(.var 1)]) (.nm 1) (.seq (.wv 0)) .none))] []), (.ret (.var 0))]
def f__law_listed : Fn := ⟨1, b__law_listed, 2⟩
def b__law_cell : List S := [(.iff (.cmp .lt (.wv 1) (.bi .len [(.wv 0)])) [(.ret (.bi .int [(.idx (.wv 0) (.wv 1))]))] []), (.ret (.lit (.int (0))))]
def f__law_cell : Fn := ⟨2, b__law_cell, 2⟩
def b__law_numbers : List S := [(.asg (.nm 3) (.nomut (.call 31 [(.var 0), (.var 1)])) false []), (.asg (.nm 4) (.lst []) true []), (.asg (.nm 5) (.var 3) false [3]), (.for_ (.nm 6) (.rng1 (.wv 2)) [(.iff (.cmp .ge (.wv 3) (.bin .pow (.lit (.int (10))) (.lit (.int (18))))) [(.app 4 (.bin .mod (.bi .int [(.wv 5)]) (.bin .pow (.lit (.int (10))) (.lit (.int (9))))) []), (.asg (.nm 5) (.bin .fdiv (.wv 5) (.bin .pow (.lit (.int (10))) (.lit (.int (9))))) false [])] [(.asg (.nm 7) (.bin .mod (.bi .int [(.bin .add (.bin .add (.bin .mul (.wv 3) (.lit (.int (48271)))) (.bin .mul (.bin .add (.wv 6) (.lit (.int (1)))) (.lit (.int (69621))))) (.wv 1))]) (.lit (.int (2147483647)))) false []), (.app 4 (.bin .mod (.bin .mod (.bi .int [(.bin .add (.bin .mul (.wv 7) (.lit (.int (16807)))) (.bin .mul (.bin .add (.wv 6) (.lit (.int (3)))) (.lit (.int (40692)))))]) (.lit (.int (2147483399)))) (.bin .pow (.lit (.int (10))) (.lit (.int (9))))) [])])] []), (.ret (.var 4))]
def f__law_numbers : Fn := ⟨3, b__law_numbers, 8⟩
def b__law_gcd : List S := [(.for_ (.nm 2) (.rng1 (.lit (.int (400)))) [(.iff (.cmp .eq (.wv 1) (.lit (.int (0)))) [(.ret (.var 0))] []), (.par 0 1 (.var 1) (.bin .mod (.bi .int [(.wv 0)]) (.wv 1)) [1])] []), (.ret (.var 0))]
def f__law_gcd : Fn := ⟨2, b__law_gcd, 3⟩
def b__law_frac : List S := [(.iff (.cmp .eq (.wv 0) (.lit (.int (0)))) [(.ret (.tup [(.lit (.int (0))), (.lit (.int (1)))]))] []), (.asg (.nm 2) (.nomut (.call 33 [(.bi .abs [(.wv 0)]), (.var 1)])) false []), (.ret (.tup [(.bi .int [(.bin .fdiv (.wv 0) (.wv 2))]), (.bi .int [(.bin .fdiv (.wv 1) (.wv 2))])]))]
def f__law_frac : Fn := ⟨2, b__law_frac, 3⟩
def b__law_low : List S := [(.asg (.nm 1) (.lst []) true []), (.for_ (.tp [(.nm 2), (.nm 3)]) (.seq (.var 0)) [(.app 1 (.bi .max [(.bin .add (.lst [(.var 2)]) (.sli (.wv 1) (.some (.neg (.lit (.int (1))))) .none))]) [2])] [0]), (.ret (.var 1))]
def f__law_low : Fn := ⟨1, b__law_low, 4⟩
def b__law_high : List S := [(.asg (.nm 1) (.lst []) true []), (.for_ (.tp [(.nm 2), (.nm 3)]) (.seq (.rev (.wv 0))) [(.app 1 (.bi .min [(.bin .add (.lst [(.var 3)]) (.sli (.wv 1) (.some (.neg (.lit (.int (1))))) .none))]) [3])] []), (.ret (.rev (.wv 1)))]
def f__law_high : Fn := ⟨1, b__law_high, 4⟩
def b__law_suits : List S := [(.asg (.nm 1) (.call 35 [(.var 0)]) false [0]), (.ret (.cmp .eq (.lc [2] (.var 2) (.nm 2) (.rng1 (.bi .len [(.wv 0)])) (.some (.cmp .gt (.idx (.wv 1) (.wv 2)) (.idx (.idx (.wv 0) (.wv 2)) (.lit (.int (1))))))) (.lst [])))]
def f__law_suits : Fn := ⟨1, b__law_suits, 3⟩
def b__law_kept : List S := [(.ret (.lc [2] (.idx (.wv 0) (.wv 2)) (.nm 2) (.rng1 (.bi .len [(.wv 0)])) (.some (.cmp .nin (.wv 2) (.wv 1)))))]
def f__law_kept : Fn := ⟨2, b__law_kept, 3⟩
def b_law : List S := [(.asg (.nm 1) (.lst []) true []), (.for_ (.nm 2) (.seq (.call 32 [(.var 0), (.lit (.int (0))), (.bin .add (.lit (.int (1))) (.bin .mod (.nomut (.call 31 [(.var 0), (.lit (.int (1)))])) (.lit (.int (6)))))])) [(.asg (.nm 14) (.bi .int [(.wv 2)]) false []), (.asg (.nm 15) (.bin .mod (.wv 14) (.lit (.int (30)))) false []), (.app 1 (.tup [(.var 15), (.bin .sub (.bin .add (.wv 15) (.bin .mod (.bi .int [(.bin .fdiv (.wv 14) (.lit (.int (30))))]) (.lit (.int (25))))) (.ite (.cmp .eq (.bin .mod (.wv 14) (.lit (.int (7)))) (.lit (.int (0)))) (.lit (.int (3))) (.lit (.int (0)))))]) [15])] [0]), (.asg (.nm 1) (.bi .tuple [(.lc [9, 10] (.tup [(.var 9), (.bi .max [(.lit (.int (0))), (.wv 10)])]) (.tp [(.nm 9), (.nm 10)]) (.seq (.wv 1)) .none)]) true [9]), (.asg (.nm 3) (.call 30 [(.var 1)]) false [1]), (.asg (.nm 4) (.lst []) false []), (.for_ (.nm 5) (.rng1 (.bi .len [(.wv 1)])) [(.asg (.nm 4) (.bin .add (.wv 4) (.lc [16] (.tup [(.var 5), (.var 16)]) (.nm 16) (.rng2 (.wv 5) (.bi .len [(.wv 1)])) (.some (.cmp .gt (.idx (.idx (.wv 1) (.wv 5)) (.lit (.int (0)))) (.idx (.idx (.wv 1) (.wv 16)) (.lit (.int (1)))))))) false [5, 16])] []), (.asg (.nm 6) (.lst [(.tup [])]) false []), (.for_ (.nm 7) (.rng1 (.bi .len [(.wv 1)])) [(.asg (.nm 6) (.bin .add (.wv 6) (.lc [20] (.bin .add (.wv 20) (.tup [(.var 7)])) (.nm 20) (.seq (.wv 6)) .none)) false [7])] []), (.asg (.nm 8) (.idx (.idx (.bi .sorted [(.lc [20] (.tup [(.bi .len [(.wv 20)]), (.var 20)]) (.nm 20) (.seq (.wv 6)) (.some (.or_ (.cmp .eq (.call 38 [(.var 1), (.var 20)]) (.lst [])) (.nomut (.call 37 [(.call 38 [(.var 1), (.var 20)])])))))]) (.lit (.int (0)))) (.lit (.int (1)))) false [20]), (.iff (.or_ (.not_ (.nomut (.call 29 [(.nomut (.call 27 [(.var 3)])), (.var 8)]))) (.or_ (.cmp .isn (.nomut (.call 28 [(.var 1), (.lit (.int (0))), (.tup [])])) (.lit (.bool true))) (.cmp .isn (.nomut (.call 28 [(.var 1), (.bin .add (.bi .len [(.wv 8)]) (.lit (.int (1)))), (.bi .tuple [(.sli (.wv 4) .none (.some (.bin .add (.bi .len [(.wv 8)]) (.lit (.int (1))))))])])) (.lit (.bool false))))) [(.ret (.lit (.bool false)))] []), (.for_ (.nm 5) (.rng1 (.bi .len [(.wv 1)])) [(.for_ (.nm 16) (.rng2 (.wv 5) (.bi .len [(.wv 1)])) [(.iff (.or_ (.not_ (.nomut (.call 29 [(.nomut (.call 17 [(.var 1), (.tup [(.var 5), (.var 16)])])), (.cmp .in_ (.tup [(.var 5), (.var 16)]) (.wv 4))]))) (.not_ (.nomut (.call 29 [(.nomut (.call 28 [(.var 1), (.lit (.int (1))), (.tup [(.tup [(.var 5), (.var 16)])])])), (.cmp .in_ (.tup [(.var 5), (.var 16)]) (.wv 4))])))) [(.ret (.lit (.bool false)))] [])] [])] []), (.iff (.cmp .ne (.wv 4) (.lst [])) [(.iff (.or_ (.not_ (.nomut (.call 29 [(.nomut (.call 15 [(.var 1)])), (.idx (.wv 4) (.lit (.int (0))))]))) (.or_ (.cmp .isn (.nomut (.call 17 [(.var 1), (.bi .list [(.idx (.wv 4) (.neg (.lit (.int (1)))))])])) (.lit (.bool true))) (.cmp .isn (.nomut (.call 17 [(.var 1), (.tup [(.idx (.idx (.wv 4) (.lit (.int (0)))) (.lit (.int (0)))), (.bi .len [(.wv 1)])])])) (.lit (.bool false))))) [(.ret (.lit (.bool false)))] []), (.iff (.or_ (.cmp .isn (.nomut (.call 28 [(.var 1), (.lit (.int (1))), (.tup [(.idx (.wv 4) (.neg (.lit (.int (1)))))])])) (.lit (.bool true))) (.or_ (.cmp .isn (.nomut (.call 12 [(.var 1)])) (.lit .none)) (.or_ (.cmp .isn (.nomut (.call 20 [(.var 1), (.lit (.int (0))), (.bin .sub (.bi .len [(.wv 1)]) (.lit (.int (1))))])) (.lit .none)) (.cmp .isn (.nomut (.call 18 [(.var 1)])) (.lit .none))))) [(.ret (.lit (.bool false)))] []), (.ret (.and_ (.cmp .is_ (.nomut (.call 13 [(.var 1)])) (.lit .none)) (.cmp .is_ (.nomut (.call 21 [(.var 1)])) (.lit .none))))] []), (.asg (.nm 9) (.call 35 [(.var 1)]) false [1]), (.asg (.nm 10) (.call 36 [(.var 1)]) false [1]), (.iff (.or_ (.cmp .isn (.nomut (.call 15 [(.var 3)])) (.lit .none)) (.or_ (.cmp .isn (.nomut (.call 17 [(.var 1), (.tup [(.lit (.int (0))), (.lit (.int (0)))])])) (.lit (.bool false))) (.or_ (.not_ (.nomut (.call 29 [(.nomut (.call 12 [(.var 3)])), (.bi .tuple [(.wv 9)])]))) (.not_ (.nomut (.call 29 [(.nomut (.call 13 [(.var 1)])), (.bi .tuple [(.wv 10)])])))))) [(.ret (.lit (.bool false)))] []), (.iff (.not_ (.nomut (.call 29 [(.nomut (.call 21 [(.var 1)])), (.bi .tuple [(.lc [7] (.tup [(.idx (.wv 9) (.wv 7)), (.idx (.wv 10) (.wv 7))]) (.nm 7) (.rng1 (.bi .len [(.wv 1)])) .none)])]))) [(.ret (.lit (.bool false)))] []), (.iff (.not_ (.nomut (.call 29 [(.nomut (.call 18 [(.var 1)])), (.bi .tuple [(.lc [7] (.bi .max [(.lit (.int (0))), (.bin .sub (.idx (.wv 9) (.bin .add (.wv 7) (.lit (.int (1))))) (.idx (.wv 10) (.wv 7)))]) (.nm 7) (.rng1 (.bin .sub (.bi .len [(.wv 1)]) (.lit (.int (1))))) .none)])]))) [(.ret (.lit (.bool false)))] []), (.for_ (.nm 5) (.rng1 (.bi .len [(.wv 1)])) [(.for_ (.nm 16) (.rng2 (.wv 5) (.bi .len [(.wv 1)])) [(.asg (.nm 19) (.ite (.cmp .eq (.wv 5) (.wv 16)) (.tup [(.lit (.int (0))), (.lit (.int (0)))]) (.tup [(.bi .max [(.lit (.int (0))), (.bin .sub (.idx (.wv 9) (.wv 16)) (.idx (.wv 10) (.wv 5)))]), (.bin .sub (.idx (.wv 10) (.wv 16)) (.idx (.wv 9) (.wv 5)))])) false []), (.iff (.not_ (.nomut (.call 29 [(.nomut (.call 20 [(.var 1), (.var 5), (.var 16)])), (.var 19)]))) [(.ret (.lit (.bool false)))] [])] [])] []), (.asg (.nm 11) (.bin .mod (.nomut (.call 31 [(.var 0), (.lit (.int (2)))])) (.lit (.int (60)))) false []), (.iff (.not_ (.nomut (.call 29 [(.nomut (.call 24 [(.var 1), (.var 11)])), (.bi .tuple [(.lc [7] (.var 7) (.nm 7) (.rng1 (.bi .len [(.wv 1)])) (.some (.chain .le .le (.idx (.wv 9) (.wv 7)) (.wv 11) (.idx (.wv 10) (.wv 7)))))])]))) [(.ret (.lit (.bool false)))] []), (.asg (.nm 12) (.lit (.int (0))) false []), (.asg (.nm 13) (.lst []) true []), (.for_ (.nm 7) (.rng1 (.bi .len [(.wv 1)])) [(.app 13 (.bin .add (.lit (.int (1))) (.bin .mod (.bi .int [(.bin .fdiv (.nomut (.call 31 [(.var 0), (.lit (.int (3)))])) (.bin .add (.lit (.int (1))) (.wv 7)))]) (.lit (.int (9))))) []), (.asg (.nm 12) (.bin .add (.wv 12) (.idx (.wv 13) (.neg (.lit (.int (1)))))) false [])] []), (.asg (.tp [(.nm 17), (.nm 18)]) (.ite (.cmp .gt (.bi .len [(.wv 1)]) (.lit (.int (1)))) (.tup [(.bi .max [(.lit (.int (0))), (.bin .sub (.idx (.wv 9) (.neg (.lit (.int (1))))) (.idx (.wv 10) (.lit (.int (0)))))]), (.bin .sub (.idx (.wv 10) (.neg (.lit (.int (1))))) (.idx (.wv 9) (.lit (.int (0)))))]) (.tup [(.lit (.int (0))), (.lit (.int (0)))])) false []), (.ret (.nomut (.call 29 [(.nomut (.call 23 [(.var 1), (.var 13)])), (.tup [(.ite (.cmp .gt (.wv 18) (.lit (.int (0)))) (.nomut (.call 34 [(.var 12), (.var 18)])) (.lit .none)), (.ite (.cmp .gt (.wv 17) (.lit (.int (0)))) (.nomut (.call 34 [(.var 12), (.var 17)])) (.lit .none))])])))]
def f_law : Fn := ⟨1, b_law, 21⟩
def fs : List Fn := [f_need, f_is_integer, f_is_between, f_is_sequence, f_is_row, f_tupled, f_rank, f_distinct, f_ratio, f_is_age_pair, f_is_age_layers, f_years_of, f_earliest, f_latest, f_denial_pairs, f_denial, f_is_denial_pair, f_denies, f_breaks, f_span_of, f_span, f_narrowed, f_are_thicknesses, f_rate, f_at_year, f_off_table, f_places_off, f_least_off, f_no_fewer_holds, f__law_same, f__law_listed, f__law_cell, f__law_numbers, f__law_gcd, f__law_frac, f__law_low, f__law_high, f__law_suits, f__law_kept, f_law]
theorem at_need : fs[0]? = some f_need := rfl
theorem at_is_integer : fs[1]? = some f_is_integer := rfl
theorem at_is_between : fs[2]? = some f_is_between := rfl
theorem at_is_sequence : fs[3]? = some f_is_sequence := rfl
theorem at_is_row : fs[4]? = some f_is_row := rfl
theorem at_tupled : fs[5]? = some f_tupled := rfl
theorem at_rank : fs[6]? = some f_rank := rfl
theorem at_distinct : fs[7]? = some f_distinct := rfl
theorem at_ratio : fs[8]? = some f_ratio := rfl
theorem at_is_age_pair : fs[9]? = some f_is_age_pair := rfl
theorem at_is_age_layers : fs[10]? = some f_is_age_layers := rfl
theorem at_years_of : fs[11]? = some f_years_of := rfl
theorem at_earliest : fs[12]? = some f_earliest := rfl
theorem at_latest : fs[13]? = some f_latest := rfl
theorem at_denial_pairs : fs[14]? = some f_denial_pairs := rfl
theorem at_denial : fs[15]? = some f_denial := rfl
theorem at_is_denial_pair : fs[16]? = some f_is_denial_pair := rfl
theorem at_denies : fs[17]? = some f_denies := rfl
theorem at_breaks : fs[18]? = some f_breaks := rfl
theorem at_span_of : fs[19]? = some f_span_of := rfl
theorem at_span : fs[20]? = some f_span := rfl
theorem at_narrowed : fs[21]? = some f_narrowed := rfl
theorem at_are_thicknesses : fs[22]? = some f_are_thicknesses := rfl
theorem at_rate : fs[23]? = some f_rate := rfl
theorem at_at_year : fs[24]? = some f_at_year := rfl
theorem at_off_table : fs[25]? = some f_off_table := rfl
theorem at_places_off : fs[26]? = some f_places_off := rfl
theorem at_least_off : fs[27]? = some f_least_off := rfl
theorem at_no_fewer_holds : fs[28]? = some f_no_fewer_holds := rfl
theorem at__law_same : fs[29]? = some f__law_same := rfl
theorem at__law_listed : fs[30]? = some f__law_listed := rfl
theorem at__law_cell : fs[31]? = some f__law_cell := rfl
theorem at__law_numbers : fs[32]? = some f__law_numbers := rfl
theorem at__law_gcd : fs[33]? = some f__law_gcd := rfl
theorem at__law_frac : fs[34]? = some f__law_frac := rfl
theorem at__law_low : fs[35]? = some f__law_low := rfl
theorem at__law_high : fs[36]? = some f__law_high := rfl
theorem at__law_suits : fs[37]? = some f__law_suits := rfl
theorem at__law_kept : fs[38]? = some f__law_kept := rfl
theorem at_law : fs[39]? = some f_law := rfl
end K06
end Ws

set_option Elab.async false
set_option linter.all false
set_option maxRecDepth 100000
set_option maxHeartbeats 400000
namespace Ws
namespace K06
open PySem
theorem is_seq_any' (k : Nat) (d : D) : call fs (k + 1) 3 [d] = .ok (.bool (isSq d)) := by cases d <;> rfl
theorem tupled_ok (k : Nat) : ∀ (n : Nat) (d : D), lim n d = true → call fs (k + n + 2) 5 [d] = .ok (tpl d) := by
  intro n
  induction n with
  | zero =>
    intro d h
    rw [call_at at_tupled rfl]
    cases d <;> first | (simp [lim] at h; done) | (simp (config := { implicitDefEqProofs := false }) [exSs, ev, evs, evi, evc, evo, tyIs, retv, noMut, noMuts, put, puto, wipeE, ixD, frzE, inTD, notD, binD, negD, own, lstD, setD, intOf, isD, isNone, f_tupled, b_tupled, is_seq_any', isSq, tpl])
  | succ n ih =>
    intro d h
    rw [call_at at_tupled rfl]
    have lst : ∀ xs : List D, xs.all (lim n) = true → lcL (fun x => (nmR (call fs (k + n + 2) 5 [x])).bnd fun y => Rs.ok [y]) xs = .ok (xs.map tpl) := by
      intro xs h
      have := lcL_map (turn := fun x => (nmR (call fs (k + n + 2) 5 [x])).bnd fun y => Rs.ok [y]) (enc := fun d : D => d) (f := tpl) (l := xs) fun x hx => by
        have hl := List.all_eq_true.mp h x hx
        rw [ih x hl]
        simp [tpl_nm n x hl]
      rwa [List.map_id'] at this
    cases d with
    | list xs =>
      have h : xs.all (lim n) = true := by simpa [lim] using h
      simp (config := { implicitDefEqProofs := false }) [exSs, ev, evs, evi, evc, evo, tyIs, retv, noMut, noMuts, put, puto, wipeE, ixD, frzE, inTD, notD, binD, negD, own, lstD, setD, intOf, isD, isNone, f_tupled, b_tupled, is_seq_any', isSq, seqD]
      rw [show k + (n + 1) + 1 = k + n + 2 by omega, lst xs h]
      simp (config := { implicitDefEqProofs := false }) [exSs, ev, evs, evi, evc, evo, tyIs, retv, noMut, noMuts, put, puto, wipeE, ixD, frzE, inTD, notD, binD, negD, own, lstD, setD, intOf, isD, isNone, biD, tpl, tpls_map]
    | tuple xs =>
      have h : xs.all (lim n) = true := by simpa [lim] using h
      simp (config := { implicitDefEqProofs := false }) [exSs, ev, evs, evi, evc, evo, tyIs, retv, noMut, noMuts, put, puto, wipeE, ixD, frzE, inTD, notD, binD, negD, own, lstD, setD, intOf, isD, isNone, f_tupled, b_tupled, is_seq_any', isSq, seqD]
      rw [show k + (n + 1) + 1 = k + n + 2 by omega, lst xs h]
      simp (config := { implicitDefEqProofs := false }) [exSs, ev, evs, evi, evc, evo, tyIs, retv, noMut, noMuts, put, puto, wipeE, ixD, frzE, inTD, notD, binD, negD, own, lstD, setD, intOf, isD, isNone, biD, tpl, tpls_map]
    | dict _ => simp [lim] at h
    | none => simp (config := { implicitDefEqProofs := false }) [exSs, ev, evs, evi, evc, evo, tyIs, retv, noMut, noMuts, put, puto, wipeE, ixD, frzE, inTD, notD, binD, negD, own, lstD, setD, intOf, isD, isNone, f_tupled, b_tupled, is_seq_any', isSq, tpl]
    | bool _ => simp (config := { implicitDefEqProofs := false }) [exSs, ev, evs, evi, evc, evo, tyIs, retv, noMut, noMuts, put, puto, wipeE, ixD, frzE, inTD, notD, binD, negD, own, lstD, setD, intOf, isD, isNone, f_tupled, b_tupled, is_seq_any', isSq, tpl]
    | int _ => simp (config := { implicitDefEqProofs := false }) [exSs, ev, evs, evi, evc, evo, tyIs, retv, noMut, noMuts, put, puto, wipeE, ixD, frzE, inTD, notD, binD, negD, own, lstD, setD, intOf, isD, isNone, f_tupled, b_tupled, is_seq_any', isSq, tpl]
    | str _ => simp (config := { implicitDefEqProofs := false }) [exSs, ev, evs, evi, evc, evo, tyIs, retv, noMut, noMuts, put, puto, wipeE, ixD, frzE, inTD, notD, binD, negD, own, lstD, setD, intOf, isD, isNone, f_tupled, b_tupled, is_seq_any', isSq, tpl]
theorem ok_tupled (k : Nat) (d : D) : Rf eD (m_tupled d) (call fs (k + 44) 5 [eD d]) := fun x q => by
  unfold m_tupled at q
  split at q
  · rename_i h; cases q; exact tupled_ok (k + 2) 40 d h
  · cases q

theorem rank_ok (k : Nat) : ∀ (n : Nat) (d : D), lim n d = true → call fs (k + n + 1) 6 [d] = .ok (rk d) := by
  intro n
  induction n with
  | zero =>
    intro d h
    rw [call_at at_rank rfl]
    cases d <;> first | (simp [lim] at h; done) | (simp (config := { implicitDefEqProofs := false }) [exSs, ev, evs, evi, evc, evo, tyIs, retv, noMut, noMuts, put, puto, wipeE, ixD, frzE, inTD, notD, binD, negD, own, lstD, setD, intOf, isD, isNone, f_rank, b_rank, biD, rk])
  | succ n ih =>
    intro d h
    rw [call_at at_rank rfl]
    have lst : ∀ xs : List D, xs.all (lim n) = true → lcL (fun x => (nmR (call fs (k + n + 1) 6 [x])).bnd fun y => Rs.ok [y]) xs = .ok (xs.map rk) := by
      intro xs h
      have := lcL_map (turn := fun x => (nmR (call fs (k + n + 1) 6 [x])).bnd fun y => Rs.ok [y]) (enc := fun d : D => d) (f := rk) (l := xs) fun x hx => by
        have hl := List.all_eq_true.mp h x hx
        rw [ih x hl]
        simp [rk_nm n x hl]
      rwa [List.map_id'] at this
    cases d with
    | list xs =>
      have h : xs.all (lim n) = true := by simpa [lim] using h
      simp (config := { implicitDefEqProofs := false }) [exSs, ev, evs, evi, evc, evo, tyIs, retv, noMut, noMuts, put, puto, wipeE, ixD, frzE, inTD, notD, binD, negD, own, lstD, setD, intOf, isD, isNone, f_rank, b_rank, seqD]
      rw [show k + (n + 1) = k + n + 1 by omega, lst xs h]
      simp (config := { implicitDefEqProofs := false }) [exSs, ev, evs, evi, evc, evo, tyIs, retv, noMut, noMuts, put, puto, wipeE, ixD, frzE, inTD, notD, binD, negD, own, lstD, setD, intOf, isD, isNone, biD, rk, rks_map]
    | tuple xs =>
      have h : xs.all (lim n) = true := by simpa [lim] using h
      simp (config := { implicitDefEqProofs := false }) [exSs, ev, evs, evi, evc, evo, tyIs, retv, noMut, noMuts, put, puto, wipeE, ixD, frzE, inTD, notD, binD, negD, own, lstD, setD, intOf, isD, isNone, f_rank, b_rank, seqD]
      rw [show k + (n + 1) = k + n + 1 by omega, lst xs h]
      simp (config := { implicitDefEqProofs := false }) [exSs, ev, evs, evi, evc, evo, tyIs, retv, noMut, noMuts, put, puto, wipeE, ixD, frzE, inTD, notD, binD, negD, own, lstD, setD, intOf, isD, isNone, biD, rk, rks_map]
    | dict _ => simp [lim] at h
    | none => simp (config := { implicitDefEqProofs := false }) [exSs, ev, evs, evi, evc, evo, tyIs, retv, noMut, noMuts, put, puto, wipeE, ixD, frzE, inTD, notD, binD, negD, own, lstD, setD, intOf, isD, isNone, f_rank, b_rank, biD, rk]
    | bool _ => simp (config := { implicitDefEqProofs := false }) [exSs, ev, evs, evi, evc, evo, tyIs, retv, noMut, noMuts, put, puto, wipeE, ixD, frzE, inTD, notD, binD, negD, own, lstD, setD, intOf, isD, isNone, f_rank, b_rank, biD, rk]
    | int _ => simp (config := { implicitDefEqProofs := false }) [exSs, ev, evs, evi, evc, evo, tyIs, retv, noMut, noMuts, put, puto, wipeE, ixD, frzE, inTD, notD, binD, negD, own, lstD, setD, intOf, isD, isNone, f_rank, b_rank, biD, rk]
    | str _ => simp (config := { implicitDefEqProofs := false }) [exSs, ev, evs, evi, evc, evo, tyIs, retv, noMut, noMuts, put, puto, wipeE, ixD, frzE, inTD, notD, binD, negD, own, lstD, setD, intOf, isD, isNone, f_rank, b_rank, biD, rk]
theorem ok_rank (k : Nat) (d : D) : Rf eD (m_rank d) (call fs (k + 44) 6 [eD d]) := fun x q => by
  unfold m_rank at q
  split at q
  · rename_i h; cases q; exact rank_ok (k + 3) 40 d h
  · cases q

theorem same_ok (k : Nat) : ∀ (n : Nat) (d : D), sm n d = true → call fs (k + n + 1) 29 [d, d] = .ok (.bool true) := by
  intro n
  induction n with
  | zero =>
    intro d h
    rw [call_at at__law_same rfl]
    cases d <;> first | (simp [sm] at h; done) | (simp (config := { implicitDefEqProofs := false }) [exSs, ev, evs, evi, evc, evo, tyIs, retv, noMut, noMuts, put, puto, wipeE, ixD, frzE, inTD, notD, binD, negD, own, lstD, setD, intOf, isD, isNone, f__law_same, b__law_same, eqD_int', eqD_bool, eqD_str])
  | succ n ih =>
    intro d h
    rw [call_at at__law_same rfl]
    cases d with
    | tuple xs =>
      have h : xs.length ≤ 1000 ∧ ∀ x ∈ xs, sm n x = true := by simpa [sm] using h
      have hr := rng_len (n := xs.length) (by omega)
      have hl : biD .len [.tuple xs] = .ok (.int xs.length) := rfl
      simp (config := { implicitDefEqProofs := false }) [exSs, ev, evs, evi, evc, evo, tyIs, retv, noMut, noMuts, put, puto, wipeE, ixD, frzE, inTD, notD, binD, negD, own, lstD, setD, intOf, isD, isNone, f__law_same, b__law_same, hl, eqD_int', hr]
      rw [lcL_flat (enc := fun i : Nat => .int (i : Nat)) (f := fun _ => []) fun i hi' => ?_]
      · rw [flat_nil]; rfl
      · have li : i < xs.length := by simpa using hi'
        have ix : idxD (.tuple xs) (.int (i : Nat)) = .ok xs[i] := by
          show Rs.of (ixD xs _) = _
          unfold ixD
          rw [if_pos (by omega), Int.toNat_natCast, List.getElem?_eq_getElem li]; rfl
        have s1 := ih xs[i] (h.2 _ (List.getElem_mem li))
        rw [show k + (n + 1) = k + n + 1 by omega]
        simp (config := { implicitDefEqProofs := false }) [exSs, ev, evs, evi, evc, evo, tyIs, retv, noMut, noMuts, put, puto, wipeE, ixD, frzE, inTD, notD, binD, negD, own, lstD, setD, intOf, isD, isNone, ix, s1]
    | none => simp (config := { implicitDefEqProofs := false }) [exSs, ev, evs, evi, evc, evo, tyIs, retv, noMut, noMuts, put, puto, wipeE, ixD, frzE, inTD, notD, binD, negD, own, lstD, setD, intOf, isD, isNone, f__law_same, b__law_same, eqD_int', eqD_bool, eqD_str]
    | bool _ => simp (config := { implicitDefEqProofs := false }) [exSs, ev, evs, evi, evc, evo, tyIs, retv, noMut, noMuts, put, puto, wipeE, ixD, frzE, inTD, notD, binD, negD, own, lstD, setD, intOf, isD, isNone, f__law_same, b__law_same, eqD_int', eqD_bool, eqD_str]
    | int _ => simp (config := { implicitDefEqProofs := false }) [exSs, ev, evs, evi, evc, evo, tyIs, retv, noMut, noMuts, put, puto, wipeE, ixD, frzE, inTD, notD, binD, negD, own, lstD, setD, intOf, isD, isNone, f__law_same, b__law_same, eqD_int', eqD_bool, eqD_str]
    | str _ => simp (config := { implicitDefEqProofs := false }) [exSs, ev, evs, evi, evc, evo, tyIs, retv, noMut, noMuts, put, puto, wipeE, ixD, frzE, inTD, notD, binD, negD, own, lstD, setD, intOf, isD, isNone, f__law_same, b__law_same, eqD_int', eqD_bool, eqD_str]
    | list _ => simp [sm] at h
    | dict _ => simp [sm] at h
theorem ok__law_same (k : Nat) (d e : D) : Rf eB (m__law_same d e) (call fs (k + 44) 29 [eD d, eD e]) := fun x q => by
  unfold m__law_same at q
  split at q
  · rename_i h
    cases q
    rw [Bool.and_eq_true] at h
    have := deq_eq d e h.1
    subst this
    exact same_ok (k + 3) 40 d h.2
  · cases q

theorem listed_ok (k : Nat) : ∀ (n : Nat) (d : D), lim n d = true → call fs (k + n + 1) 30 [d] = .ok (ltd d) := by
  intro n
  induction n with
  | zero =>
    intro d h
    rw [call_at at__law_listed rfl]
    cases d <;> first | (simp [lim] at h; done) | (simp (config := { implicitDefEqProofs := false }) [exSs, ev, evs, evi, evc, evo, tyIs, retv, noMut, noMuts, put, puto, wipeE, ixD, frzE, inTD, notD, binD, negD, own, lstD, setD, intOf, isD, isNone, f__law_listed, b__law_listed, ltd])
  | succ n ih =>
    intro d h
    rw [call_at at__law_listed rfl]
    cases d with
    | tuple xs =>
      have h : xs.all (lim n) = true := by simpa [lim] using h
      simp (config := { implicitDefEqProofs := false }) [exSs, ev, evs, evi, evc, evo, tyIs, retv, noMut, noMuts, put, puto, wipeE, ixD, frzE, inTD, notD, binD, negD, own, lstD, setD, intOf, isD, isNone, f__law_listed, b__law_listed, seqD]
      have := lcL_map (turn := fun x => (call fs (k + n + 1) 30 [x]).bnd fun y => Rs.ok [y]) (enc := fun d : D => d) (f := ltd) (l := xs) fun x hx => by
        rw [ih x (List.all_eq_true.mp h x hx)]; rfl
      rw [List.map_id'] at this
      rw [show k + (n + 1) = k + n + 1 by omega, this]
      simp (config := { implicitDefEqProofs := false }) [exSs, ev, evs, evi, evc, evo, tyIs, retv, noMut, noMuts, put, puto, wipeE, ixD, frzE, inTD, notD, binD, negD, own, lstD, setD, intOf, isD, isNone, ltd, ltds_map]
    | list xs => simp (config := { implicitDefEqProofs := false }) [exSs, ev, evs, evi, evc, evo, tyIs, retv, noMut, noMuts, put, puto, wipeE, ixD, frzE, inTD, notD, binD, negD, own, lstD, setD, intOf, isD, isNone, f__law_listed, b__law_listed, ltd]
    | dict _ => simp [lim] at h
    | none => simp (config := { implicitDefEqProofs := false }) [exSs, ev, evs, evi, evc, evo, tyIs, retv, noMut, noMuts, put, puto, wipeE, ixD, frzE, inTD, notD, binD, negD, own, lstD, setD, intOf, isD, isNone, f__law_listed, b__law_listed, ltd]
    | bool _ => simp (config := { implicitDefEqProofs := false }) [exSs, ev, evs, evi, evc, evo, tyIs, retv, noMut, noMuts, put, puto, wipeE, ixD, frzE, inTD, notD, binD, negD, own, lstD, setD, intOf, isD, isNone, f__law_listed, b__law_listed, ltd]
    | int _ => simp (config := { implicitDefEqProofs := false }) [exSs, ev, evs, evi, evc, evo, tyIs, retv, noMut, noMuts, put, puto, wipeE, ixD, frzE, inTD, notD, binD, negD, own, lstD, setD, intOf, isD, isNone, f__law_listed, b__law_listed, ltd]
    | str _ => simp (config := { implicitDefEqProofs := false }) [exSs, ev, evs, evi, evc, evo, tyIs, retv, noMut, noMuts, put, puto, wipeE, ixD, frzE, inTD, notD, binD, negD, own, lstD, setD, intOf, isD, isNone, f__law_listed, b__law_listed, ltd]
theorem ok__law_listed (k : Nat) (d : D) : Rf eD (m__law_listed d) (call fs (k + 44) 30 [eD d]) := fun x q => by
  unfold m__law_listed at q
  split at q
  · rename_i h; cases q; exact listed_ok (k + 3) 40 d h
  · cases q

end K06
end Ws

set_option Elab.async false
set_option linter.all false
set_option maxRecDepth 100000
set_option maxHeartbeats 4000000
namespace Ws
namespace K06
open PySem
def m_need (a0 : Bool) (a1 : Int) : Option Unit :=
  (Option.bind (Option.map (fun u => !u) (some a0)) (fun u => if u = true then (none) else (some ())))
theorem ok_need (k : Nat) (a0 : Bool) (a1 : Int) : Rf eN (m_need a0 a1) (call fs (k + 1) 0 [eB a0, eI a1]) :=
  f_in (ε := [.f (eB a0), .f (eI a1)]) at_need rfl rfl
  (t_if (ε1 := [.f (eB a0), .f (eI a1)]) rfl (c_B (r_not (c_B (r_wv (e := eB) (x := a0) rfl)))) y_stuck (y_end (pF_nx rfl)))

def m_is_integer (a0 : Int) : Option Bool :=
  (Option.map (fun u => u) (Option.bind (Option.map (fun (u : D) => ([Ty.int] : List Ty).any fun t => tyIs t u) (Option.map eI (some a0))) (fun u => if u = true then (Option.map (fun u => !u) (Option.map (fun (u : D) => ([Ty.bool] : List Ty).any fun t => tyIs t u) (Option.map eI (some a0)))) else some false)))
theorem ok_is_integer (k : Nat) (a0 : Int) : Rf eB (m_is_integer a0) (call fs (k + 1) 1 [eI a0]) :=
  f_in (ε := [.f (eI a0)]) at_is_integer rfl rfl
  (t_ret (er := eB) (ε1 := [.f (eI a0)]) (w := (fun u => u)) rfl (fun u ε => pF_rt u ε) (r_and (r_isi (r_enc (r_wv (e := eI) (x := a0) rfl))) (r_not (c_B (r_isi (r_enc (r_wv (e := eI) (x := a0) rfl)))))))

def m_is_between (a0 : Int) (a1 : Int) (a2 : Int) : Option Bool :=
  (Option.map (fun u => u) (Option.bind (Option.bind (some a0) (fun (x : Int) => m_is_integer x)) (fun u => if u = true then (Option.bind (some a1) (fun u => Option.bind (some a0) (fun v => if cI .le u v = true then Option.bind (some a2) (fun w => some (cI .le v w)) else some false))) else some false)))
theorem ok_is_between (k : Nat) (a0 : Int) (a1 : Int) (a2 : Int) : Rf eB (m_is_between a0 a1 a2) (call fs (k + 2) 2 [eI a0, eI a1, eI a2]) :=
  f_in (ε := [.f (eI a0), .f (eI a1), .f (eI a2)]) at_is_between rfl rfl
  (t_ret (er := eB) (ε1 := [.f (eI a0), .f (eI a1), .f (eI a2)]) (w := (fun u => u)) rfl (fun u ε => pF_rt u ε) (r_and (r_nm1 (ε1 := [.f (eI a0), .f (eI a1), .f (eI a2)]) rfl n_B (r_call (a_1 (r_var (e := eI) (x := a0) rfl)) (fun (x : Int) => ok_is_integer (k + 0) x))) (r_chI rfl rfl (r_wv (e := eI) (x := a1) rfl) (r_wv (e := eI) (x := a0) rfl) (r_wv (e := eI) (x := a2) rfl))))

def m_is_sequence (a0 : D) : Option Bool :=
  (Option.map (fun u => u) (Option.map (fun (u : D) => ([Ty.list, Ty.tuple] : List Ty).any fun t => tyIs t u) (some a0)))
theorem ok_is_sequence (k : Nat) (a0 : D) : Rf eB (m_is_sequence a0) (call fs (k + 1) 3 [eD a0]) :=
  f_in (ε := [.f (eD a0)]) at_is_sequence rfl rfl
  (t_ret (er := eB) (ε1 := [.f (eD a0)]) (w := (fun u => u)) rfl (fun u ε => pF_rt u ε) (r_isi (r_wv (e := eD) (x := a0) rfl)))

def m_is_row (a0 : D) (a1 : Int) (a2 : Int) : Option Bool :=
  (Option.map (fun u => u) (Option.bind (Option.bind (some a0) (fun (x : D) => m_is_sequence x)) (fun u => if u = true then (Option.bind (some a1) (fun u => Option.bind (Option.bind (some a0) (fun (u : D) => lenM u)) (fun v => if cI .le u v = true then Option.bind (some a2) (fun w => some (cI .le v w)) else some false))) else some false)))
theorem ok_is_row (k : Nat) (a0 : D) (a1 : Int) (a2 : Int) : Rf eB (m_is_row a0 a1 a2) (call fs (k + 2) 4 [eD a0, eI a1, eI a2]) :=
  f_in (ε := [.f (eD a0), .f (eI a1), .f (eI a2)]) at_is_row rfl rfl
  (t_ret (er := eB) (ε1 := [.f (eD a0), .f (eI a1), .f (eI a2)]) (w := (fun u => u)) rfl (fun u ε => pF_rt u ε) (r_and (r_nm1 (ε1 := [.f (eD a0), .f (eI a1), .f (eI a2)]) rfl n_B (r_call (a_1 (r_var (e := eD) (x := a0) rfl)) (fun (x : D) => ok_is_sequence (k + 0) x))) (r_chI rfl rfl (r_wv (e := eI) (x := a1) rfl) (r_bi1 (r_wv (e := eD) (x := a0) rfl) (fun _ => b_lenD _)) (r_wv (e := eI) (x := a2) rfl))))

def m_distinct (a0 : (List Int)) : Option (List Int) :=
  (Option.bind (some ([] : List Int)) (fun (v1 : (List Int)) => (Option.bind (Option.bind (some a0) (fun (xs : (List Int)) => Option.bind (xs.mapM (fun (u : Int) => m_rank (eI u))) (fun ks => sortKM eD xs ks))) (fun xs => Option.bind (forN (fun (v3 : Int) (v2 : (List Int)) => (Option.bind (Option.bind (Option.map (fun u => !u) (Option.map (fun (u : (List Int)) => !u.isEmpty) (some v2))) (fun u => if u = true then some true else (Option.bind (Option.bind (Option.bind (Option.map eI (Option.bind (some v2) (fun u => Option.bind (Option.map (fun (u : Int) => -u) (some ((1 : Int) : Int))) (fun v => ixD u v)))) (fun (x : D) => m_rank x)) (fun u => if noMut u = true then some u else none)) (fun u => Option.bind (Option.bind (Option.bind (Option.map eI (some v3)) (fun (x : D) => m_rank x)) (fun u => if noMut u = true then some u else none)) (fun v => cmpM .ne u v))))) (fun u => if u = true then (Option.bind (some v3) (fun (v4 : Int) => if v2.length < LIM then (some (v2 ++ [v4])) else none)) else (some v2)))) xs v1) (fun (v2 : (List Int)) => (Option.map (fun u => u) (Option.bind (some v2) (fun (u : (List Int)) => some u))))))))
theorem ok_distinct (k : Nat) (a0 : (List Int)) : Rf (eT eI) (m_distinct a0) (call fs (k + 45) 7 [(eL eI) a0]) :=
  f_in (ε := [.f ((eL eI) a0), .u, .u]) at_distinct rfl rfl
  (t_asg (e := (eL eI)) (ε1 := [.f ((eL eI) a0), .u, .u]) (ε' := fun (v1 : (List Int)) => [.f ((eL eI) a0), .o ((eL eI) v1), .u]) rfl (fun _ => rfl) (r_lstH (e := eI) h_n) (fun (v1 : (List Int)) => (t_forN (e := eI) (ε1 := [.f ((eL eI) a0), .o ((eL eI) v1), .u]) (mk := (fun (v2 : (List Int)) => [.f ((eL eI) a0), .o ((eL eI) v2), .u])) (s0 := v1) (ε' := fun (v3 : Int) (v2 : (List Int)) => [.f ((eL eI) a0), .o ((eL eI) v2), .f (eI v3)]) gF rfl (.cons (.refl _) (.cons (.refl _) (.cons (.u _) .nil))) (fun _ _ => rfl) (i_L (r_sortk (e := eI) (ek := eD) (fun (u : Int) => ok_rank (k + 0) (eI u)) (r_wv (e := (eL eI)) (x := a0) rfl))) (fun (v3 : Int) (v2 : (List Int)) => (t_if (ε1 := [.f ((eL eI) a0), .f ((eL eI) v2), .f (eI v3)]) rfl (c_or (c_B (r_not (c_of t_L (r_wv (e := (eL eI)) (x := v2) rfl)))) (c_B (r_cmpD (r_nmD1 (ε1 := [.f ((eL eI) a0), .f ((eL eI) v2), .f (eI v3)]) rfl (r_call (a_1 (r_enc (r_ixL (r_wv (e := (eL eI)) (x := v2) rfl) (r_neg (r_lit (e := eI) rfl))))) (fun (x : D) => ok_rank (k + 0) x))) (r_nmD1 (ε1 := [.f ((eL eI) a0), .f ((eL eI) v2), .f (eI v3)]) rfl (r_call (a_1 (r_enc (r_var (e := eI) (x := v3) rfl))) (fun (x : D) => ok_rank (k + 0) x)))))) (t_app (e := eI) (xs := v2) (ε1 := [.f ((eL eI) a0), .o ((eL eI) v2), .f (eI v3)]) (ε' := fun (v4 : Int) => [.f ((eL eI) a0), .o ((eL eI) (v2 ++ [v4])), .f (eI v3)]) rfl rfl (fun _ => rfl) (r_var (e := eI) (x := v3) rfl) (fun (v4 : Int) => (y_end (pN_nx (.cons (.refl _) (.cons (.refl _) (.cons (.u _) .nil))))))) (y_end (pN_nx (.cons (.refl _) (.cons (.refl _) (.cons (.u _) .nil))))))) (fun (v2 : (List Int)) => (t_ret (er := (eT eI)) (ε1 := [.f ((eL eI) a0), .f ((eL eI) v2), .u]) (w := (fun u => u)) rfl (fun u ε => pF_rt u ε) (r_bi1 (r_wv (e := (eL eI)) (x := v2) rfl) (fun _ => b_tupL _)))))))

def m_ratio (a0 : Int) (a1 : Int) : Option (Int × Int) :=
  (Option.bind (Option.bind (Option.bind (some a1) (fun u => Option.bind (some ((0 : Int) : Int)) (fun v => some (cI .lt u v)))) (fun u => if u = true then (Option.bind (Option.map (fun (u : Int) => -u) (some a0)) (fun (v1 : Int) => Option.bind (Option.map (fun (u : Int) => -u) (some a1)) (fun (v2 : Int) => (some (v1, v2))))) else (some (a0, a1)))) (fun (v3 : (Int × Int)) => (Option.bind (Option.bind (some v3.1) (fun u => Option.bind (some v3.2) (fun v => some ((Nat.gcd u.natAbs v.natAbs : Nat) : Int)))) (fun (v4 : Int) => (Option.map (fun u => u) (Option.bind (Option.bind (some v3.1) (fun u => Option.bind (some v4) (fun v => if 0 < v ∧ v < 1073741824 then some (u / v) else none))) (fun u => Option.bind (Option.bind (some v3.2) (fun u => Option.bind (some v4) (fun v => if 0 < v ∧ v < 1073741824 then some (u / v) else none))) (fun v => some (u, v)))))))))
theorem ok_ratio (k : Nat) (a0 : Int) (a1 : Int) : Rf (eP (fc eI (f1 eI))) (m_ratio a0 a1) (call fs (k + 1) 8 [eI a0, eI a1]) :=
  f_in (ε := [.f (eI a0), .f (eI a1), .u]) at_ratio rfl rfl
  (t_ifN (ε1 := [.f (eI a0), .f (eI a1), .u]) (mk := (fun (v3 : (Int × Int)) => [.f (eI v3.1), .f (eI v3.2), .u])) gF rfl (c_B (r_cmpI rfl (r_wv (e := eI) (x := a1) rfl) (r_lit (e := eI) rfl))) (t_par (e := eI) (e' := eI) (ε1 := [.f (eI a0), .f (eI a1), .u]) (ε' := fun (v1 : Int) (v2 : Int) => [.f (eI v1), .f (eI v2), .u]) rfl (fun _ _ => rfl) (r_neg (r_wv (e := eI) (x := a0) rfl)) (r_neg (r_wv (e := eI) (x := a1) rfl)) (fun (v1 : Int) (v2 : Int) => (y_end (pN_nx (.cons (.refl _) (.cons (.refl _) (.cons (.u _) .nil))))))) (y_end (pN_nx (.cons (.refl _) (.cons (.refl _) (.cons (.u _) .nil))))) (fun (v3 : (Int × Int)) => (t_asg (e := eI) (ε1 := [.f (eI v3.1), .f (eI v3.2), .u]) (ε' := fun (v4 : Int) => [.f (eI v3.1), .f (eI v3.2), .f (eI v4)]) rfl (fun _ => rfl) (r_bi2 (r_wv (e := eI) (x := v3.1) rfl) (r_wv (e := eI) (x := v3.2) rfl) (fun _ _ => b_gcd _ _)) (fun (v4 : Int) => (t_ret (er := (eP (fc eI (f1 eI)))) (ε1 := [.f (eI v3.1), .f (eI v3.2), .f (eI v4)]) (w := (fun u => u)) rfl (fun u ε => pF_rt u ε) (r_tup (a_c (r_div (r_wv (e := eI) (x := v3.1) rfl) (r_wv (e := eI) (x := v4) rfl)) (a_1 (r_div (r_wv (e := eI) (x := v3.2) rfl) (r_wv (e := eI) (x := v4) rfl))))))))))

def m_is_age_pair (a0 : (Bool × List Int)) : Option Bool :=
  (Option.map (fun u => u) (Option.bind (Option.bind (Option.bind (Option.map (eQ eI) (some a0)) (fun u => Option.bind (Option.bind (some ((2 : Int) : Int)) (fun u => Option.bind (some ((2 : Int) : Int)) (fun v => some (u, v)))) (fun v => some (u, v)))) (fun (x : D × Int × Int) => m_is_row x.1 x.2.1 x.2.2)) (fun u => if u = true then (Option.bind (Option.bind (Option.map (fun (u : (Bool × List Int)) => u.2) (some a0)) (fun xs => mapF (fun (v1 : Int) => Option.map some (Option.bind (Option.bind (some v1) (fun u => Option.bind (Option.bind (some ((0 : Int) : Int)) (fun u => Option.bind (some ((9999 : Int) : Int)) (fun v => some (u, v)))) (fun v => some (u, v)))) (fun (x : Int × Int × Int) => m_is_between x.1 x.2.1 x.2.2))) xs)) (fun (u : (List Bool)) => some (u.all id))) else some false)))
theorem ok_is_age_pair (k : Nat) (a0 : (Bool × List Int)) : Rf eB (m_is_age_pair a0) (call fs (k + 3) 9 [(eQ eI) a0]) :=
  f_in (ε := [.f ((eQ eI) a0), .u]) at_is_age_pair rfl rfl
  (t_ret (er := eB) (ε1 := [.f ((eQ eI) a0), .u]) (w := (fun u => u)) rfl (fun u ε => pF_rt u ε) (r_and (r_nm1 (ε1 := [.f ((eQ eI) a0), .u]) rfl n_B (r_call (a_c (r_enc (r_var (e := (eQ eI)) (x := a0) rfl)) (a_c (r_lit (e := eI) rfl) (a_1 (r_lit (e := eI) rfl)))) (fun (x : D × Int × Int) => ok_is_row (k + 0) x.1 x.2.1 x.2.2))) (r_bi1 (r_lc0 (e := eI) (ε' := fun (v1 : Int) => [.f ((eQ eI) a0), .f (eI v1)]) (i_Q (r_wv (e := (eQ eI)) (x := a0) rfl)) (fun _ => rfl) (fun (v1 : Int) => (r_nm1 (ε1 := [.f ((eQ eI) a0), .f (eI v1)]) rfl n_B (r_call (a_c (r_var (e := eI) (x := v1) rfl) (a_c (r_lit (e := eI) rfl) (a_1 (r_gl (e := eI) rfl)))) (fun (x : Int × Int × Int) => ok_is_between (k + 0) x.1 x.2.1 x.2.2))))) (fun _ => b_all _))))

def m_is_age_layers (a0 : (Bool × List (Bool × List Int))) : Option Bool :=
  (Option.map (fun u => u) (Option.bind (Option.bind (Option.bind (Option.map (eQ (eQ eI)) (some a0)) (fun u => Option.bind (Option.bind (some ((1 : Int) : Int)) (fun u => Option.bind (some ((96 : Int) : Int)) (fun v => some (u, v)))) (fun v => some (u, v)))) (fun (x : D × Int × Int) => m_is_row x.1 x.2.1 x.2.2)) (fun u => if u = true then (Option.bind (Option.bind (Option.map (fun (u : (Bool × List (Bool × List Int))) => u.2) (some a0)) (fun xs => mapF (fun (v1 : (Bool × List Int)) => Option.map some (Option.bind (some v1) (fun (x : (Bool × List Int)) => m_is_age_pair x))) xs)) (fun (u : (List Bool)) => some (u.all id))) else some false)))
theorem ok_is_age_layers (k : Nat) (a0 : (Bool × List (Bool × List Int))) : Rf eB (m_is_age_layers a0) (call fs (k + 4) 10 [(eQ (eQ eI)) a0]) :=
  f_in (ε := [.f ((eQ (eQ eI)) a0), .u]) at_is_age_layers rfl rfl
  (t_ret (er := eB) (ε1 := [.f ((eQ (eQ eI)) a0), .u]) (w := (fun u => u)) rfl (fun u ε => pF_rt u ε) (r_and (r_nm1 (ε1 := [.f ((eQ (eQ eI)) a0), .u]) rfl n_B (r_call (a_c (r_enc (r_var (e := (eQ (eQ eI))) (x := a0) rfl)) (a_c (r_lit (e := eI) rfl) (a_1 (r_gl (e := eI) rfl)))) (fun (x : D × Int × Int) => ok_is_row (k + 1) x.1 x.2.1 x.2.2))) (r_bi1 (r_lc0 (e := (eQ eI)) (ε' := fun (v1 : (Bool × List Int)) => [.f ((eQ (eQ eI)) a0), .f ((eQ eI) v1)]) (i_Q (r_wv (e := (eQ (eQ eI))) (x := a0) rfl)) (fun _ => rfl) (fun (v1 : (Bool × List Int)) => (r_nm1 (ε1 := [.f ((eQ (eQ eI)) a0), .f ((eQ eI) v1)]) rfl n_B (r_call (a_1 (r_var (e := (eQ eI)) (x := v1) rfl)) (fun (x : (Bool × List Int)) => ok_is_age_pair (k + 0) x))))) (fun _ => b_all _))))

def m_years_of (a0 : (List (Int × Int))) : Option (Option ((List Int) × (List Int))) :=
  (Option.bind (some ([] : List Int)) (fun (v1 : (List Int)) => (Option.bind (some ((0 : Int) : Int)) (fun (v2 : Int) => (Option.bind (some a0) (fun xs => Option.bind (forT (ρ := (Option ((List Int) × (List Int)))) (fun (v4 : (Int × Int)) (v3 : ((List Int) × Int)) => (Option.bind (Option.bind (some v3.2) (fun u => Option.bind (some v4.1) (fun v => some (if v > u then v else u)))) (fun (v5 : Int) => (Option.bind (Option.bind (some v5) (fun u => Option.bind (some v4.2) (fun v => some (cI .gt u v)))) (fun u => if u = true then (Option.map Out.rt (Option.map (fun (_ : Unit) => (none : (Option ((List Int) × (List Int))))) (some (() : Unit)))) else (Option.bind (some v5) (fun (v6 : Int) => if v3.1.length < LIM then (some (Out.nx ((v3.1 ++ [v6]), v5))) else none))))))) xs (v1, v2)) (sumK (fun (v3 : ((List Int) × Int)) => (Option.bind (some ([] : List Int)) (fun (v7 : (List Int)) => (Option.bind (some ((9999 : Int) : Int)) (fun (v8 : Int) => (Option.bind (Option.map List.reverse (some a0)) (fun xs => Option.bind (forN (fun (v10 : (Int × Int)) (v9 : (Int × (List Int))) => (Option.bind (Option.bind (some v9.1) (fun u => Option.bind (Option.map (fun (u : (Int × Int)) => u.2) (some v10)) (fun v => some (if v < u then v else u)))) (fun (v11 : Int) => (Option.bind (some v11) (fun (v12 : Int) => if v9.2.length < LIM then (some (v11, (v9.2 ++ [v12]))) else none))))) xs (v8, v7)) (fun (v9 : (Int × (List Int))) => (Option.map (fun u => u) (Option.map some (Option.bind (Option.bind (some v3.1) (fun (u : (List Int)) => some u)) (fun u => Option.bind (Option.bind (Option.map List.reverse (some v9.2)) (fun (u : (List Int)) => some u)) (fun v => some (u, v)))))))))))))) (fun u => u))))))))
theorem ok_years_of (k : Nat) (a0 : (List (Int × Int))) : Rf (eO (eP (fc (eT eI) (f1 (eT eI))))) (m_years_of a0) (call fs (k + 1) 11 [(eT (eP (fc eI (f1 eI)))) a0]) :=
  f_in (ε := [.f ((eT (eP (fc eI (f1 eI)))) a0), .u, .u, .u, .u, .u, .u]) at_years_of rfl rfl
  (t_asg (e := (eL eI)) (ε1 := [.f ((eT (eP (fc eI (f1 eI)))) a0), .u, .u, .u, .u, .u, .u]) (ε' := fun (v1 : (List Int)) => [.f ((eT (eP (fc eI (f1 eI)))) a0), .o ((eL eI) v1), .u, .u, .u, .u, .u]) rfl (fun _ => rfl) (r_lstH (e := eI) h_n) (fun (v1 : (List Int)) => (t_asg (e := eI) (ε1 := [.f ((eT (eP (fc eI (f1 eI)))) a0), .o ((eL eI) v1), .u, .u, .u, .u, .u]) (ε' := fun (v2 : Int) => [.f ((eT (eP (fc eI (f1 eI)))) a0), .o ((eL eI) v1), .f (eI v2), .u, .u, .u, .u]) rfl (fun _ => rfl) (r_lit (e := eI) rfl) (fun (v2 : Int) => (t_for (e := (eP (fc eI (f1 eI)))) (er := (eO (eP (fc (eT eI) (f1 (eT eI)))))) (ε1 := [.f ((eT (eP (fc eI (f1 eI)))) a0), .o ((eL eI) v1), .f (eI v2), .u, .u, .u, .u]) (mk := (fun (v3 : ((List Int) × Int)) => [.f ((eT (eP (fc eI (f1 eI)))) a0), .o ((eL eI) v3.1), .f (eI v3.2), .u, .u, .u, .u])) (s0 := (v1, v2)) (ε' := fun (v4 : (Int × Int)) (v3 : ((List Int) × Int)) => [.f ((eT (eP (fc eI (f1 eI)))) a0), .o ((eL eI) v3.1), .f (eI v3.2), .u, .u, .f (eI v4.1), .f (eI v4.2)]) (w := (fun u => u)) gF rfl (fun u ε => pF_rt u ε) (.cons (.refl _) (.cons (.refl _) (.cons (.refl _) (.cons (.u _) (.cons (.u _) (.cons (.u _) (.cons (.u _) .nil))))))) (fun _ _ => rfl) (i_T (r_var (e := (eT (eP (fc eI (f1 eI))))) (x := a0) rfl)) (fun (v4 : (Int × Int)) (v3 : ((List Int) × Int)) => (t_asg (e := eI) (ε1 := [.f ((eT (eP (fc eI (f1 eI)))) a0), .o ((eL eI) v3.1), .f (eI v3.2), .u, .u, .f (eI v4.1), .f (eI v4.2)]) (ε' := fun (v5 : Int) => [.f ((eT (eP (fc eI (f1 eI)))) a0), .o ((eL eI) v3.1), .f (eI v5), .u, .u, .f (eI v4.1), .f (eI v4.2)]) rfl (fun _ => rfl) (r_bi2 (r_wv (e := eI) (x := v3.2) rfl) (r_wv (e := eI) (x := v4.1) rfl) (fun _ _ => b_max2 _ _)) (fun (v5 : Int) => (t_if (ε1 := [.f ((eT (eP (fc eI (f1 eI)))) a0), .f ((eL eI) v3.1), .f (eI v5), .u, .u, .f (eI v4.1), .f (eI v4.2)]) rfl (c_B (r_cmpI rfl (r_wv (e := eI) (x := v5) rfl) (r_wv (e := eI) (x := v4.2) rfl))) (t_ret (er := (eO (eP (fc (eT eI) (f1 (eT eI)))))) (ε1 := [.f ((eT (eP (fc eI (f1 eI)))) a0), .f ((eL eI) v3.1), .f (eI v5), .u, .u, .f (eI v4.1), .f (eI v4.2)]) (w := Out.rt) rfl (fun u ε => pB_rt u ε) (r_conv (e' := (eO (eP (fc (eT eI) (f1 (eT eI)))))) (fun _ => rfl) (r_lit (e := eN) rfl))) (t_app (e := eI) (xs := v3.1) (ε1 := [.f ((eT (eP (fc eI (f1 eI)))) a0), .o ((eL eI) v3.1), .f (eI v5), .u, .u, .f (eI v4.1), .f (eI v4.2)]) (ε' := fun (v6 : Int) => [.f ((eT (eP (fc eI (f1 eI)))) a0), .o ((eL eI) (v3.1 ++ [v6])), .f (eI v5), .u, .u, .f (eI v4.1), .f (eI v4.2)]) rfl rfl (fun _ => rfl) (r_var (e := eI) (x := v5) rfl) (fun (v6 : Int) => (y_end (pB_nx (.cons (.refl _) (.cons (.refl _) (.cons (.refl _) (.cons (.u _) (.cons (.u _) (.cons (.u _) (.cons (.u _) .nil))))))))))))))) (fun (v3 : ((List Int) × Int)) => (t_asg (e := (eL eI)) (ε1 := [.f ((eT (eP (fc eI (f1 eI)))) a0), .o ((eL eI) v3.1), .f (eI v3.2), .u, .u, .u, .u]) (ε' := fun (v7 : (List Int)) => [.f ((eT (eP (fc eI (f1 eI)))) a0), .o ((eL eI) v3.1), .f (eI v3.2), .o ((eL eI) v7), .u, .u, .u]) rfl (fun _ => rfl) (r_lstH (e := eI) h_n) (fun (v7 : (List Int)) => (t_asg (e := eI) (ε1 := [.f ((eT (eP (fc eI (f1 eI)))) a0), .o ((eL eI) v3.1), .f (eI v3.2), .o ((eL eI) v7), .u, .u, .u]) (ε' := fun (v8 : Int) => [.f ((eT (eP (fc eI (f1 eI)))) a0), .o ((eL eI) v3.1), .f (eI v8), .o ((eL eI) v7), .u, .u, .u]) rfl (fun _ => rfl) (r_gl (e := eI) rfl) (fun (v8 : Int) => (t_forN (e := (eP (fc eI (f1 eI)))) (ε1 := [.f ((eT (eP (fc eI (f1 eI)))) a0), .o ((eL eI) v3.1), .f (eI v8), .o ((eL eI) v7), .u, .u, .u]) (mk := (fun (v9 : (Int × (List Int))) => [.f ((eT (eP (fc eI (f1 eI)))) a0), .o ((eL eI) v3.1), .f (eI v9.1), .o ((eL eI) v9.2), .u, .u, .u])) (s0 := (v8, v7)) (ε' := fun (v10 : (Int × Int)) (v9 : (Int × (List Int))) => [.f ((eT (eP (fc eI (f1 eI)))) a0), .o ((eL eI) v3.1), .f (eI v9.1), .o ((eL eI) v9.2), .f ((eP (fc eI (f1 eI))) v10), .u, .u]) gF rfl (.cons (.refl _) (.cons (.refl _) (.cons (.refl _) (.cons (.refl _) (.cons (.u _) (.cons (.u _) (.cons (.u _) .nil))))))) (fun _ _ => rfl) (i_rT (r_var (e := (eT (eP (fc eI (f1 eI))))) (x := a0) rfl)) (fun (v10 : (Int × Int)) (v9 : (Int × (List Int))) => (t_asg (e := eI) (ε1 := [.f ((eT (eP (fc eI (f1 eI)))) a0), .o ((eL eI) v3.1), .f (eI v9.1), .o ((eL eI) v9.2), .f ((eP (fc eI (f1 eI))) v10), .u, .u]) (ε' := fun (v11 : Int) => [.f ((eT (eP (fc eI (f1 eI)))) a0), .o ((eL eI) v3.1), .f (eI v11), .o ((eL eI) v9.2), .f ((eP (fc eI (f1 eI))) v10), .u, .u]) rfl (fun _ => rfl) (r_bi2 (r_wv (e := eI) (x := v9.1) rfl) (r_ixP (e' := eI) (p := fun (u : (Int × Int)) => u.2) (fun _ => rfl) (r_wv (e := (eP (fc eI (f1 eI)))) (x := v10) rfl)) (fun _ _ => b_min2 _ _)) (fun (v11 : Int) => (t_app (e := eI) (xs := v9.2) (ε1 := [.f ((eT (eP (fc eI (f1 eI)))) a0), .o ((eL eI) v3.1), .f (eI v11), .o ((eL eI) v9.2), .f ((eP (fc eI (f1 eI))) v10), .u, .u]) (ε' := fun (v12 : Int) => [.f ((eT (eP (fc eI (f1 eI)))) a0), .o ((eL eI) v3.1), .f (eI v11), .o ((eL eI) (v9.2 ++ [v12])), .f ((eP (fc eI (f1 eI))) v10), .u, .u]) rfl rfl (fun _ => rfl) (r_var (e := eI) (x := v11) rfl) (fun (v12 : Int) => (y_end (pN_nx (.cons (.refl _) (.cons (.refl _) (.cons (.refl _) (.cons (.refl _) (.cons (.u _) (.cons (.u _) (.cons (.u _) .nil)))))))))))))) (fun (v9 : (Int × (List Int))) => (t_ret (er := (eO (eP (fc (eT eI) (f1 (eT eI)))))) (ε1 := [.f ((eT (eP (fc eI (f1 eI)))) a0), .f ((eL eI) v3.1), .f (eI v9.1), .f ((eL eI) v9.2), .u, .u, .u]) (w := (fun u => u)) rfl (fun u ε => pF_rt u ε) (r_some (r_tup (a_c (r_bi1 (r_wv (e := (eL eI)) (x := v3.1) rfl) (fun _ => b_tupL _)) (a_1 (r_bi1 (r_rvL (r_wv (e := (eL eI)) (x := v9.2) rfl)) (fun _ => b_tupL _)))))))))))))))))))

def m_earliest (a0 : (Bool × List (Bool × List Int))) : Option (Option (List Int)) :=
  (Option.bind (Option.bind (Option.bind (Option.bind (some a0) (fun (x : (Bool × List (Bool × List Int))) => m_is_age_layers x)) (fun u => Option.bind (some ((1 : Int) : Int)) (fun v => some (u, v)))) (fun (x : Bool × Int) => m_need x.1 x.2)) (fun (_ : Unit) => (Option.bind (Option.bind (Option.bind (Option.bind (Option.bind (Option.map (eQ (eQ eI)) (some a0)) (fun (x : D) => m_tupled x)) (fun u => if noMut u = true then some u else none)) (dT (dP (dc dI (du dI))))) (fun (x : (List (Int × Int))) => m_years_of x)) (fun (v1 : (Option ((List Int) × (List Int)))) => (Option.map (fun u => u) (Option.bind (Option.map (fun (u : (Option ((List Int) × (List Int)))) => u.isNone) (some v1)) (fun u => if u = true then (Option.map (fun (_ : Unit) => (none : (Option (List Int)))) (some (() : Unit))) else (Option.map some (Option.map (fun (u : ((List Int) × (List Int))) => u.1) (Option.bind (some v1) (fun u => u)))))))))))
theorem ok_earliest (k : Nat) (a0 : (Bool × List (Bool × List Int))) : Rf (eO (eT eI)) (m_earliest a0) (call fs (k + 45) 12 [(eQ (eQ eI)) a0]) :=
  f_in (ε := [.f ((eQ (eQ eI)) a0), .u]) at_earliest rfl rfl
  (t_drop (e := eN) (ε1 := [.f ((eQ (eQ eI)) a0), .u]) rfl (r_nm1 (ε1 := [.f ((eQ (eQ eI)) a0), .u]) rfl n_N (r_call (a_c (r_nm1 (ε1 := [.f ((eQ (eQ eI)) a0), .u]) rfl n_B (r_call (a_1 (r_var (e := (eQ (eQ eI))) (x := a0) rfl)) (fun (x : (Bool × List (Bool × List Int))) => ok_is_age_layers (k + 40) x))) (a_1 (r_lit (e := eI) rfl))) (fun (x : Bool × Int) => ok_need (k + 43) x.1 x.2))) (fun _ => (t_asg (e := (eO (eP (fc (eT eI) (f1 (eT eI)))))) (ε1 := [.f ((eQ (eQ eI)) a0), .u]) (ε' := fun (v1 : (Option ((List Int) × (List Int)))) => [.f ((eQ (eQ eI)) a0), .f ((eO (eP (fc (eT eI) (f1 (eT eI))))) v1)]) rfl (fun _ => rfl) (r_nm1 (ε1 := [.f ((eQ (eQ eI)) a0), .u]) rfl (n_O (n_P (n_c (n_T n_I) (n_1 (n_T n_I))))) (r_call (a_1 (r_dec (dc_T (dc_P (dc_c dc_I (dc_1 dc_I)))) (r_nmD1 (ε1 := [.f ((eQ (eQ eI)) a0), .u]) rfl (r_call (a_1 (r_enc (r_var (e := (eQ (eQ eI))) (x := a0) rfl))) (fun (x : D) => ok_tupled (k + 0) x))))) (fun (x : (List (Int × Int))) => ok_years_of (k + 43) x))) (fun (v1 : (Option ((List Int) × (List Int)))) => (t_ret (er := (eO (eT eI))) (ε1 := [.f ((eQ (eQ eI)) a0), .f ((eO (eP (fc (eT eI) (f1 (eT eI))))) v1)]) (w := (fun u => u)) rfl (fun u ε => pF_rt u ε) (r_ite (c_B (r_isN nn_P (r_wv (e := (eO (eP (fc (eT eI) (f1 (eT eI)))))) (x := v1) rfl))) (r_conv (e' := (eO (eT eI))) (fun _ => rfl) (r_lit (e := eN) rfl)) (r_some (r_ixP (e' := (eT eI)) (p := fun (u : ((List Int) × (List Int))) => u.1) (fun _ => rfl) (r_unw (r_wv (e := (eO (eP (fc (eT eI) (f1 (eT eI)))))) (x := v1) rfl))))))))))

def m_latest (a0 : (List (Int × Int))) : Option (Option (List Int)) :=
  (Option.bind (Option.bind (Option.bind (Option.bind (Option.bind (Option.map (eT (eP (fc eI (f1 eI)))) (some a0)) (dQ (dQ dI))) (fun (x : (Bool × List (Bool × List Int))) => m_is_age_layers x)) (fun u => Option.bind (some ((1 : Int) : Int)) (fun v => some (u, v)))) (fun (x : Bool × Int) => m_need x.1 x.2)) (fun (_ : Unit) => (Option.bind (Option.bind (Option.bind (Option.bind (Option.bind (Option.map (eT (eP (fc eI (f1 eI)))) (some a0)) (fun (x : D) => m_tupled x)) (fun u => if noMut u = true then some u else none)) (dT (dP (dc dI (du dI))))) (fun (x : (List (Int × Int))) => m_years_of x)) (fun (v1 : (Option ((List Int) × (List Int)))) => (Option.map (fun u => u) (Option.bind (Option.map (fun (u : (Option ((List Int) × (List Int)))) => u.isNone) (some v1)) (fun u => if u = true then (Option.map (fun (_ : Unit) => (none : (Option (List Int)))) (some (() : Unit))) else (Option.map some (Option.map (fun (u : ((List Int) × (List Int))) => u.2) (Option.bind (some v1) (fun u => u)))))))))))
theorem ok_latest (k : Nat) (a0 : (List (Int × Int))) : Rf (eO (eT eI)) (m_latest a0) (call fs (k + 45) 13 [(eT (eP (fc eI (f1 eI)))) a0]) :=
  f_in (ε := [.f ((eT (eP (fc eI (f1 eI)))) a0), .u]) at_latest rfl rfl
  (t_drop (e := eN) (ε1 := [.f ((eT (eP (fc eI (f1 eI)))) a0), .u]) rfl (r_nm1 (ε1 := [.f ((eT (eP (fc eI (f1 eI)))) a0), .u]) rfl n_N (r_call (a_c (r_nm1 (ε1 := [.f ((eT (eP (fc eI (f1 eI)))) a0), .u]) rfl n_B (r_call (a_1 (r_dec (dc_Q (dc_Q dc_I)) (r_enc (r_var (e := (eT (eP (fc eI (f1 eI))))) (x := a0) rfl)))) (fun (x : (Bool × List (Bool × List Int))) => ok_is_age_layers (k + 40) x))) (a_1 (r_lit (e := eI) rfl))) (fun (x : Bool × Int) => ok_need (k + 43) x.1 x.2))) (fun _ => (t_asg (e := (eO (eP (fc (eT eI) (f1 (eT eI)))))) (ε1 := [.f ((eT (eP (fc eI (f1 eI)))) a0), .u]) (ε' := fun (v1 : (Option ((List Int) × (List Int)))) => [.f ((eT (eP (fc eI (f1 eI)))) a0), .f ((eO (eP (fc (eT eI) (f1 (eT eI))))) v1)]) rfl (fun _ => rfl) (r_nm1 (ε1 := [.f ((eT (eP (fc eI (f1 eI)))) a0), .u]) rfl (n_O (n_P (n_c (n_T n_I) (n_1 (n_T n_I))))) (r_call (a_1 (r_dec (dc_T (dc_P (dc_c dc_I (dc_1 dc_I)))) (r_nmD1 (ε1 := [.f ((eT (eP (fc eI (f1 eI)))) a0), .u]) rfl (r_call (a_1 (r_enc (r_var (e := (eT (eP (fc eI (f1 eI))))) (x := a0) rfl))) (fun (x : D) => ok_tupled (k + 0) x))))) (fun (x : (List (Int × Int))) => ok_years_of (k + 43) x))) (fun (v1 : (Option ((List Int) × (List Int)))) => (t_ret (er := (eO (eT eI))) (ε1 := [.f ((eT (eP (fc eI (f1 eI)))) a0), .f ((eO (eP (fc (eT eI) (f1 (eT eI))))) v1)]) (w := (fun u => u)) rfl (fun u ε => pF_rt u ε) (r_ite (c_B (r_isN nn_P (r_wv (e := (eO (eP (fc (eT eI) (f1 (eT eI)))))) (x := v1) rfl))) (r_conv (e' := (eO (eT eI))) (fun _ => rfl) (r_lit (e := eN) rfl)) (r_some (r_ixP (e' := (eT eI)) (p := fun (u : ((List Int) × (List Int))) => u.2) (fun _ => rfl) (r_unw (r_wv (e := (eO (eP (fc (eT eI) (f1 (eT eI)))))) (x := v1) rfl))))))))))

def m_denial_pairs (a0 : (List (Int × Int))) : Option (List (Int × Int)) :=
  (Option.bind (Option.bind (some a0) (fun (u : (List (Int × Int))) => some (u.length : Int))) (fun (v1 : Int) => (Option.map (fun u => u) (Option.bind (Option.bind (some v1) (fun u => rgM 0 u)) (fun xs => Option.bind (mapL (fun (v2 : Int) => Option.bind (some true) (fun b => if b = true then Option.bind (Option.bind (some v2) (fun u => Option.bind (some v1) (fun v => rgM u v))) (fun ys => mapF (fun (v3 : Int) => Option.bind (Option.bind (Option.map (fun (u : (Int × Int)) => u.1) (Option.bind (some a0) (fun u => Option.bind (some v2) (fun v => ixD u v)))) (fun u => Option.bind (Option.map (fun (u : (Int × Int)) => u.2) (Option.bind (some a0) (fun u => Option.bind (some v3) (fun v => ixD u v)))) (fun v => some (cI .gt u v)))) (fun b => if b = true then Option.map some (Option.bind (some v2) (fun u => Option.bind (some v3) (fun v => some (u, v)))) else some none)) ys) else some [])) xs) (fun zs => if zs.length ≤ LIM then some zs else none))))))
theorem ok_denial_pairs (k : Nat) (a0 : (List (Int × Int))) : Rf (eL (eP (fc eI (f1 eI)))) (m_denial_pairs a0) (call fs (k + 1) 14 [(eT (eP (fc eI (f1 eI)))) a0]) :=
  f_in (ε := [.f ((eT (eP (fc eI (f1 eI)))) a0), .u, .u, .u]) at_denial_pairs rfl rfl
  (t_asg (e := eI) (ε1 := [.f ((eT (eP (fc eI (f1 eI)))) a0), .u, .u, .u]) (ε' := fun (v1 : Int) => [.f ((eT (eP (fc eI (f1 eI)))) a0), .f (eI v1), .u, .u]) rfl (fun _ => rfl) (r_bi1 (r_wv (e := (eT (eP (fc eI (f1 eI))))) (x := a0) rfl) (fun _ => b_lenT _)) (fun (v1 : Int) => (t_ret (er := (eL (eP (fc eI (f1 eI))))) (ε1 := [.f ((eT (eP (fc eI (f1 eI)))) a0), .f (eI v1), .u, .u]) (w := (fun u => u)) rfl (fun u ε => pF_rt u ε) (r_lc2 (e := eI) (ed := eI) (ε' := fun (v2 : Int) => [.f ((eT (eP (fc eI (f1 eI)))) a0), .f (eI v1), .f (eI v2), .u]) (ε'' := fun (v2 : Int) (v3 : Int) => [.f ((eT (eP (fc eI (f1 eI)))) a0), .f (eI v1), .f (eI v2), .f (eI v3)]) (i_r1 (r_wv (e := eI) (x := v1) rfl)) (fun _ => rfl) (fun (v2 : Int) => cc_n) (fun (v2 : Int) => (i_r2 (r_wv (e := eI) (x := v2) rfl) (r_wv (e := eI) (x := v1) rfl))) (fun _ _ => rfl) (fun (v2 : Int) (v3 : Int) => (cc_s (c_B (r_cmpI rfl (r_ixP (e' := eI) (p := fun (u : (Int × Int)) => u.1) (fun _ => rfl) (r_ixT (r_wv (e := (eT (eP (fc eI (f1 eI))))) (x := a0) rfl) (r_wv (e := eI) (x := v2) rfl))) (r_ixP (e' := eI) (p := fun (u : (Int × Int)) => u.2) (fun _ => rfl) (r_ixT (r_wv (e := (eT (eP (fc eI (f1 eI))))) (x := a0) rfl) (r_wv (e := eI) (x := v3) rfl))))))) (fun (v2 : Int) (v3 : Int) => (r_tup (a_c (r_var (e := eI) (x := v2) rfl) (a_1 (r_var (e := eI) (x := v3) rfl)))))))))

def m_denial (a0 : (Bool × List (Bool × List Int))) : Option (Option (Int × Int)) :=
  (Option.bind (Option.bind (Option.bind (Option.bind (some a0) (fun (x : (Bool × List (Bool × List Int))) => m_is_age_layers x)) (fun u => Option.bind (some ((1 : Int) : Int)) (fun v => some (u, v)))) (fun (x : Bool × Int) => m_need x.1 x.2)) (fun (_ : Unit) => (Option.bind (Option.bind (Option.bind (Option.bind (Option.bind (Option.map (eQ (eQ eI)) (some a0)) (fun (x : D) => m_tupled x)) (fun u => if noMut u = true then some u else none)) (dT (dP (dc dI (du dI))))) (fun (x : (List (Int × Int))) => m_denial_pairs x)) (fun (v1 : (List (Int × Int))) => (Option.map (fun u => u) (Option.bind (Option.map (fun (u : (List (Int × Int))) => !u.isEmpty) (some v1)) (fun u => if u = true then (Option.map some (Option.bind (some v1) (fun u => Option.bind (some ((0 : Int) : Int)) (fun v => ixD u v)))) else (Option.map (fun (_ : Unit) => (none : (Option (Int × Int)))) (some (() : Unit))))))))))
theorem ok_denial (k : Nat) (a0 : (Bool × List (Bool × List Int))) : Rf (eO (eP (fc eI (f1 eI)))) (m_denial a0) (call fs (k + 45) 15 [(eQ (eQ eI)) a0]) :=
  f_in (ε := [.f ((eQ (eQ eI)) a0), .u]) at_denial rfl rfl
  (t_drop (e := eN) (ε1 := [.f ((eQ (eQ eI)) a0), .u]) rfl (r_nm1 (ε1 := [.f ((eQ (eQ eI)) a0), .u]) rfl n_N (r_call (a_c (r_nm1 (ε1 := [.f ((eQ (eQ eI)) a0), .u]) rfl n_B (r_call (a_1 (r_var (e := (eQ (eQ eI))) (x := a0) rfl)) (fun (x : (Bool × List (Bool × List Int))) => ok_is_age_layers (k + 40) x))) (a_1 (r_lit (e := eI) rfl))) (fun (x : Bool × Int) => ok_need (k + 43) x.1 x.2))) (fun _ => (t_asg (e := (eL (eP (fc eI (f1 eI))))) (ε1 := [.f ((eQ (eQ eI)) a0), .u]) (ε' := fun (v1 : (List (Int × Int))) => [.f ((eQ (eQ eI)) a0), .f ((eL (eP (fc eI (f1 eI)))) v1)]) rfl (fun _ => rfl) (r_call (a_1 (r_dec (dc_T (dc_P (dc_c dc_I (dc_1 dc_I)))) (r_nmD1 (ε1 := [.f ((eQ (eQ eI)) a0), .u]) rfl (r_call (a_1 (r_enc (r_var (e := (eQ (eQ eI))) (x := a0) rfl))) (fun (x : D) => ok_tupled (k + 0) x))))) (fun (x : (List (Int × Int))) => ok_denial_pairs (k + 43) x)) (fun (v1 : (List (Int × Int))) => (t_ret (er := (eO (eP (fc eI (f1 eI))))) (ε1 := [.f ((eQ (eQ eI)) a0), .f ((eL (eP (fc eI (f1 eI)))) v1)]) (w := (fun u => u)) rfl (fun u ε => pF_rt u ε) (r_ite (c_of t_L (r_wv (e := (eL (eP (fc eI (f1 eI))))) (x := v1) rfl)) (r_some (r_ixL (r_wv (e := (eL (eP (fc eI (f1 eI))))) (x := v1) rfl) (r_lit (e := eI) rfl))) (r_conv (e' := (eO (eP (fc eI (f1 eI))))) (fun _ => rfl) (r_lit (e := eN) rfl))))))))

def m_is_denial_pair (a0 : (List (Int × Int))) (a1 : (Bool × List Int)) : Option Bool :=
  (Option.bind (Option.bind (Option.map (fun u => !u) (Option.bind (Option.bind (Option.map (eQ eI) (some a1)) (fun u => Option.bind (Option.bind (some ((2 : Int) : Int)) (fun u => Option.bind (some ((2 : Int) : Int)) (fun v => some (u, v)))) (fun v => some (u, v)))) (fun (x : D × Int × Int) => m_is_row x.1 x.2.1 x.2.2))) (fun u => if u = true then some true else (Option.map (fun u => !u) (Option.bind (Option.bind (Option.bind (some a1) (fun (u : (Bool × List Int)) => Option.bind (some ((0 : Int) : Int)) (fun v => ixD u.2 v))) (fun u => Option.bind (Option.bind (some ((0 : Int) : Int)) (fun u => Option.bind (Option.bind (Option.bind (some a0) (fun (u : (List (Int × Int))) => some (u.length : Int))) (fun u => Option.bind (some ((1 : Int) : Int)) (fun v => some (u - v)))) (fun v => some (u, v)))) (fun v => some (u, v)))) (fun (x : Int × Int × Int) => m_is_between x.1 x.2.1 x.2.2))))) (fun u => if u = true then (Option.map (fun u => u) (some (false : Bool))) else (Option.bind (Option.map (fun u => !u) (Option.bind (Option.bind (Option.bind (some a1) (fun (u : (Bool × List Int)) => Option.bind (some ((1 : Int) : Int)) (fun v => ixD u.2 v))) (fun u => Option.bind (Option.bind (Option.bind (some a1) (fun (u : (Bool × List Int)) => Option.bind (some ((0 : Int) : Int)) (fun v => ixD u.2 v))) (fun u => Option.bind (Option.bind (Option.bind (some a0) (fun (u : (List (Int × Int))) => some (u.length : Int))) (fun u => Option.bind (some ((1 : Int) : Int)) (fun v => some (u - v)))) (fun v => some (u, v)))) (fun v => some (u, v)))) (fun (x : Int × Int × Int) => m_is_between x.1 x.2.1 x.2.2))) (fun u => if u = true then (Option.map (fun u => u) (some (false : Bool))) else (Option.map (fun u => u) (Option.bind (Option.map (fun (u : (Int × Int)) => u.1) (Option.bind (some a0) (fun u => Option.bind (Option.bind (some a1) (fun (u : (Bool × List Int)) => Option.bind (some ((0 : Int) : Int)) (fun v => ixD u.2 v))) (fun v => ixD u v)))) (fun u => Option.bind (Option.map (fun (u : (Int × Int)) => u.2) (Option.bind (some a0) (fun u => Option.bind (Option.bind (some a1) (fun (u : (Bool × List Int)) => Option.bind (some ((1 : Int) : Int)) (fun v => ixD u.2 v))) (fun v => ixD u v)))) (fun v => some (cI .gt u v)))))))))
theorem ok_is_denial_pair (k : Nat) (a0 : (List (Int × Int))) (a1 : (Bool × List Int)) : Rf eB (m_is_denial_pair a0 a1) (call fs (k + 3) 16 [(eT (eP (fc eI (f1 eI)))) a0, (eQ eI) a1]) :=
  f_in (ε := [.f ((eT (eP (fc eI (f1 eI)))) a0), .f ((eQ eI) a1)]) at_is_denial_pair rfl rfl
  (t_if (ε1 := [.f ((eT (eP (fc eI (f1 eI)))) a0), .f ((eQ eI) a1)]) rfl (c_or (c_B (r_not (c_B (r_nm1 (ε1 := [.f ((eT (eP (fc eI (f1 eI)))) a0), .f ((eQ eI) a1)]) rfl n_B (r_call (a_c (r_enc (r_var (e := (eQ eI)) (x := a1) rfl)) (a_c (r_lit (e := eI) rfl) (a_1 (r_lit (e := eI) rfl)))) (fun (x : D × Int × Int) => ok_is_row (k + 0) x.1 x.2.1 x.2.2)))))) (c_B (r_not (c_B (r_nm1 (ε1 := [.f ((eT (eP (fc eI (f1 eI)))) a0), .f ((eQ eI) a1)]) rfl n_B (r_call (a_c (r_ixQ (r_wv (e := (eQ eI)) (x := a1) rfl) (r_lit (e := eI) rfl)) (a_c (r_lit (e := eI) rfl) (a_1 (r_sub (r_bi1 (r_wv (e := (eT (eP (fc eI (f1 eI))))) (x := a0) rfl) (fun _ => b_lenT _)) (r_lit (e := eI) rfl))))) (fun (x : Int × Int × Int) => ok_is_between (k + 0) x.1 x.2.1 x.2.2))))))) (t_ret (er := eB) (ε1 := [.f ((eT (eP (fc eI (f1 eI)))) a0), .f ((eQ eI) a1)]) (w := (fun u => u)) rfl (fun u ε => pF_rt u ε) (r_lit (e := eB) rfl)) (t_if (ε1 := [.f ((eT (eP (fc eI (f1 eI)))) a0), .f ((eQ eI) a1)]) rfl (c_B (r_not (c_B (r_nm1 (ε1 := [.f ((eT (eP (fc eI (f1 eI)))) a0), .f ((eQ eI) a1)]) rfl n_B (r_call (a_c (r_ixQ (r_wv (e := (eQ eI)) (x := a1) rfl) (r_lit (e := eI) rfl)) (a_c (r_ixQ (r_wv (e := (eQ eI)) (x := a1) rfl) (r_lit (e := eI) rfl)) (a_1 (r_sub (r_bi1 (r_wv (e := (eT (eP (fc eI (f1 eI))))) (x := a0) rfl) (fun _ => b_lenT _)) (r_lit (e := eI) rfl))))) (fun (x : Int × Int × Int) => ok_is_between (k + 0) x.1 x.2.1 x.2.2)))))) (t_ret (er := eB) (ε1 := [.f ((eT (eP (fc eI (f1 eI)))) a0), .f ((eQ eI) a1)]) (w := (fun u => u)) rfl (fun u ε => pF_rt u ε) (r_lit (e := eB) rfl)) (t_ret (er := eB) (ε1 := [.f ((eT (eP (fc eI (f1 eI)))) a0), .f ((eQ eI) a1)]) (w := (fun u => u)) rfl (fun u ε => pF_rt u ε) (r_cmpI rfl (r_ixP (e' := eI) (p := fun (u : (Int × Int)) => u.1) (fun _ => rfl) (r_ixT (r_wv (e := (eT (eP (fc eI (f1 eI))))) (x := a0) rfl) (r_ixQ (r_wv (e := (eQ eI)) (x := a1) rfl) (r_lit (e := eI) rfl)))) (r_ixP (e' := eI) (p := fun (u : (Int × Int)) => u.2) (fun _ => rfl) (r_ixT (r_wv (e := (eT (eP (fc eI (f1 eI))))) (x := a0) rfl) (r_ixQ (r_wv (e := (eQ eI)) (x := a1) rfl) (r_lit (e := eI) rfl))))))))

def m_denies (a0 : (List (Int × Int))) (a1 : (Bool × List Int)) : Option Bool :=
  (Option.bind (Option.bind (Option.bind (Option.bind (Option.bind (Option.map (eT (eP (fc eI (f1 eI)))) (some a0)) (dQ (dQ dI))) (fun (x : (Bool × List (Bool × List Int))) => m_is_age_layers x)) (fun u => Option.bind (some ((1 : Int) : Int)) (fun v => some (u, v)))) (fun (x : Bool × Int) => m_need x.1 x.2)) (fun (_ : Unit) => (Option.map (fun u => u) (Option.bind (Option.bind (Option.bind (Option.bind (Option.bind (Option.map (eT (eP (fc eI (f1 eI)))) (some a0)) (fun (x : D) => m_tupled x)) (fun u => if noMut u = true then some u else none)) (dT (dP (dc dI (du dI))))) (fun u => Option.bind (some a1) (fun v => some (u, v)))) (fun (x : (List (Int × Int)) × (Bool × List Int)) => m_is_denial_pair x.1 x.2)))))
theorem ok_denies (k : Nat) (a0 : (List (Int × Int))) (a1 : (Bool × List Int)) : Rf eB (m_denies a0 a1) (call fs (k + 45) 17 [(eT (eP (fc eI (f1 eI)))) a0, (eQ eI) a1]) :=
  f_in (ε := [.f ((eT (eP (fc eI (f1 eI)))) a0), .f ((eQ eI) a1)]) at_denies rfl rfl
  (t_drop (e := eN) (ε1 := [.f ((eT (eP (fc eI (f1 eI)))) a0), .f ((eQ eI) a1)]) rfl (r_nm1 (ε1 := [.f ((eT (eP (fc eI (f1 eI)))) a0), .f ((eQ eI) a1)]) rfl n_N (r_call (a_c (r_nm1 (ε1 := [.f ((eT (eP (fc eI (f1 eI)))) a0), .f ((eQ eI) a1)]) rfl n_B (r_call (a_1 (r_dec (dc_Q (dc_Q dc_I)) (r_enc (r_var (e := (eT (eP (fc eI (f1 eI))))) (x := a0) rfl)))) (fun (x : (Bool × List (Bool × List Int))) => ok_is_age_layers (k + 40) x))) (a_1 (r_lit (e := eI) rfl))) (fun (x : Bool × Int) => ok_need (k + 43) x.1 x.2))) (fun _ => (t_ret (er := eB) (ε1 := [.f ((eT (eP (fc eI (f1 eI)))) a0), .f ((eQ eI) a1)]) (w := (fun u => u)) rfl (fun u ε => pF_rt u ε) (r_nm1 (ε1 := [.f ((eT (eP (fc eI (f1 eI)))) a0), .f ((eQ eI) a1)]) rfl n_B (r_call (a_c (r_dec (dc_T (dc_P (dc_c dc_I (dc_1 dc_I)))) (r_nmD1 (ε1 := [.f ((eT (eP (fc eI (f1 eI)))) a0), .f ((eQ eI) a1)]) rfl (r_call (a_1 (r_enc (r_var (e := (eT (eP (fc eI (f1 eI))))) (x := a0) rfl))) (fun (x : D) => ok_tupled (k + 0) x)))) (a_1 (r_var (e := (eQ eI)) (x := a1) rfl))) (fun (x : (List (Int × Int)) × (Bool × List Int)) => ok_is_denial_pair (k + 41) x.1 x.2))))))

def m_breaks (a0 : (List (Int × Int))) : Option (Option (List Int)) :=
  (Option.bind (Option.bind (Option.bind (Option.bind (Option.bind (Option.map (eT (eP (fc eI (f1 eI)))) (some a0)) (dQ (dQ dI))) (fun (x : (Bool × List (Bool × List Int))) => m_is_age_layers x)) (fun u => Option.bind (some ((1 : Int) : Int)) (fun v => some (u, v)))) (fun (x : Bool × Int) => m_need x.1 x.2)) (fun (_ : Unit) => (Option.bind (Option.bind (Option.bind (Option.bind (Option.bind (Option.map (eT (eP (fc eI (f1 eI)))) (some a0)) (fun (x : D) => m_tupled x)) (fun u => if noMut u = true then some u else none)) (dT (dP (dc dI (du dI))))) (fun (x : (List (Int × Int))) => m_years_of x)) (fun (v1 : (Option ((List Int) × (List Int)))) => (Option.bind (Option.map (fun (u : (Option ((List Int) × (List Int)))) => u.isNone) (some v1)) (fun u => if u = true then (Option.map (fun u => u) (Option.map (fun (_ : Unit) => (none : (Option (List Int)))) (some (() : Unit)))) else (Option.bind (Option.bind (some v1) (fun u => u)) (fun (v2 : ((List Int) × (List Int))) => (Option.map (fun u => u) (Option.map some (Option.bind (Option.bind (Option.bind (Option.bind (Option.bind (some v2.1) (fun (u : (List Int)) => some (u.length : Int))) (fun u => Option.bind (some ((1 : Int) : Int)) (fun v => some (u - v)))) (fun u => rgM 0 u)) (fun xs => mapF (fun (v3 : Int) => Option.map some (Option.bind (some ((0 : Int) : Int)) (fun u => Option.bind (Option.bind (Option.bind (some v2.1) (fun u => Option.bind (Option.bind (some v3) (fun u => Option.bind (some ((1 : Int) : Int)) (fun v => some (u + v)))) (fun v => ixD u v))) (fun u => Option.bind (Option.bind (some v2.2) (fun u => Option.bind (some v3) (fun v => ixD u v))) (fun v => some (u - v)))) (fun v => some (if v > u then v else u))))) xs)) (fun (u : (List Int)) => some u))))))))))))
theorem ok_breaks (k : Nat) (a0 : (List (Int × Int))) : Rf (eO (eT eI)) (m_breaks a0) (call fs (k + 45) 18 [(eT (eP (fc eI (f1 eI)))) a0]) :=
  f_in (ε := [.f ((eT (eP (fc eI (f1 eI)))) a0), .u, .u, .u, .u]) at_breaks rfl rfl
  (t_drop (e := eN) (ε1 := [.f ((eT (eP (fc eI (f1 eI)))) a0), .u, .u, .u, .u]) rfl (r_nm1 (ε1 := [.f ((eT (eP (fc eI (f1 eI)))) a0), .u, .u, .u, .u]) rfl n_N (r_call (a_c (r_nm1 (ε1 := [.f ((eT (eP (fc eI (f1 eI)))) a0), .u, .u, .u, .u]) rfl n_B (r_call (a_1 (r_dec (dc_Q (dc_Q dc_I)) (r_enc (r_var (e := (eT (eP (fc eI (f1 eI))))) (x := a0) rfl)))) (fun (x : (Bool × List (Bool × List Int))) => ok_is_age_layers (k + 40) x))) (a_1 (r_lit (e := eI) rfl))) (fun (x : Bool × Int) => ok_need (k + 43) x.1 x.2))) (fun _ => (t_asg (e := (eO (eP (fc (eT eI) (f1 (eT eI)))))) (ε1 := [.f ((eT (eP (fc eI (f1 eI)))) a0), .u, .u, .u, .u]) (ε' := fun (v1 : (Option ((List Int) × (List Int)))) => [.f ((eT (eP (fc eI (f1 eI)))) a0), .f ((eO (eP (fc (eT eI) (f1 (eT eI))))) v1), .u, .u, .u]) rfl (fun _ => rfl) (r_nm1 (ε1 := [.f ((eT (eP (fc eI (f1 eI)))) a0), .u, .u, .u, .u]) rfl (n_O (n_P (n_c (n_T n_I) (n_1 (n_T n_I))))) (r_call (a_1 (r_dec (dc_T (dc_P (dc_c dc_I (dc_1 dc_I)))) (r_nmD1 (ε1 := [.f ((eT (eP (fc eI (f1 eI)))) a0), .u, .u, .u, .u]) rfl (r_call (a_1 (r_enc (r_var (e := (eT (eP (fc eI (f1 eI))))) (x := a0) rfl))) (fun (x : D) => ok_tupled (k + 0) x))))) (fun (x : (List (Int × Int))) => ok_years_of (k + 43) x))) (fun (v1 : (Option ((List Int) × (List Int)))) => (t_if (ε1 := [.f ((eT (eP (fc eI (f1 eI)))) a0), .f ((eO (eP (fc (eT eI) (f1 (eT eI))))) v1), .u, .u, .u]) rfl (c_B (r_isN nn_P (r_wv (e := (eO (eP (fc (eT eI) (f1 (eT eI)))))) (x := v1) rfl))) (t_ret (er := (eO (eT eI))) (ε1 := [.f ((eT (eP (fc eI (f1 eI)))) a0), .f ((eO (eP (fc (eT eI) (f1 (eT eI))))) v1), .u, .u, .u]) (w := (fun u => u)) rfl (fun u ε => pF_rt u ε) (r_conv (e' := (eO (eT eI))) (fun _ => rfl) (r_lit (e := eN) rfl))) (t_asg (e := (eP (fc (eT eI) (f1 (eT eI))))) (ε1 := [.f ((eT (eP (fc eI (f1 eI)))) a0), .f ((eO (eP (fc (eT eI) (f1 (eT eI))))) v1), .u, .u, .u]) (ε' := fun (v2 : ((List Int) × (List Int))) => [.f ((eT (eP (fc eI (f1 eI)))) a0), .f ((eO (eP (fc (eT eI) (f1 (eT eI))))) v1), .f ((eT eI) v2.1), .f ((eT eI) v2.2), .u]) rfl (fun _ => rfl) (r_unw (r_var (e := (eO (eP (fc (eT eI) (f1 (eT eI)))))) (x := v1) rfl)) (fun (v2 : ((List Int) × (List Int))) => (t_ret (er := (eO (eT eI))) (ε1 := [.f ((eT (eP (fc eI (f1 eI)))) a0), .f ((eO (eP (fc (eT eI) (f1 (eT eI))))) v1), .f ((eT eI) v2.1), .f ((eT eI) v2.2), .u]) (w := (fun u => u)) rfl (fun u ε => pF_rt u ε) (r_some (r_bi1 (r_lc0 (e := eI) (ε' := fun (v3 : Int) => [.f ((eT (eP (fc eI (f1 eI)))) a0), .f ((eO (eP (fc (eT eI) (f1 (eT eI))))) v1), .f ((eT eI) v2.1), .f ((eT eI) v2.2), .f (eI v3)]) (i_r1 (r_sub (r_bi1 (r_wv (e := (eT eI)) (x := v2.1) rfl) (fun _ => b_lenT _)) (r_lit (e := eI) rfl))) (fun _ => rfl) (fun (v3 : Int) => (r_bi2 (r_lit (e := eI) rfl) (r_sub (r_ixT (r_wv (e := (eT eI)) (x := v2.1) rfl) (r_add (r_wv (e := eI) (x := v3) rfl) (r_lit (e := eI) rfl))) (r_ixT (r_wv (e := (eT eI)) (x := v2.2) rfl) (r_wv (e := eI) (x := v3) rfl))) (fun _ _ => b_max2 _ _)))) (fun _ => b_tupL _)))))))))))

def m_span_of (a0 : ((List Int) × (List Int))) (a1 : Int) (a2 : Int) : Option (Int × Int) :=
  (Option.bind (some a0) (fun (v1 : ((List Int) × (List Int))) => (Option.bind (Option.bind (some a1) (fun u => Option.bind (some a2) (fun v => some (cI .eq u v)))) (fun u => if u = true then (Option.map (fun u => u) (Option.bind (some ((0 : Int) : Int)) (fun u => Option.bind (some ((0 : Int) : Int)) (fun v => some (u, v))))) else (Option.map (fun u => u) (Option.bind (Option.bind (some ((0 : Int) : Int)) (fun u => Option.bind (Option.bind (Option.bind (some v1.1) (fun u => Option.bind (some a2) (fun v => ixD u v))) (fun u => Option.bind (Option.bind (some v1.2) (fun u => Option.bind (some a1) (fun v => ixD u v))) (fun v => some (u - v)))) (fun v => some (if v > u then v else u)))) (fun u => Option.bind (Option.bind (Option.bind (some v1.2) (fun u => Option.bind (some a2) (fun v => ixD u v))) (fun u => Option.bind (Option.bind (some v1.1) (fun u => Option.bind (some a1) (fun v => ixD u v))) (fun v => some (u - v)))) (fun v => some (u, v)))))))))
theorem ok_span_of (k : Nat) (a0 : ((List Int) × (List Int))) (a1 : Int) (a2 : Int) : Rf (eP (fc eI (f1 eI))) (m_span_of a0 a1 a2) (call fs (k + 1) 19 [(eP (fc (eT eI) (f1 (eT eI)))) a0, eI a1, eI a2]) :=
  f_in (ε := [.f ((eP (fc (eT eI) (f1 (eT eI)))) a0), .f (eI a1), .f (eI a2), .u, .u]) at_span_of rfl rfl
  (t_asg (e := (eP (fc (eT eI) (f1 (eT eI))))) (ε1 := [.f ((eP (fc (eT eI) (f1 (eT eI)))) a0), .f (eI a1), .f (eI a2), .u, .u]) (ε' := fun (v1 : ((List Int) × (List Int))) => [.f ((eP (fc (eT eI) (f1 (eT eI)))) a0), .f (eI a1), .f (eI a2), .f ((eT eI) v1.1), .f ((eT eI) v1.2)]) rfl (fun _ => rfl) (r_var (e := (eP (fc (eT eI) (f1 (eT eI))))) (x := a0) rfl) (fun (v1 : ((List Int) × (List Int))) => (t_if (ε1 := [.f ((eP (fc (eT eI) (f1 (eT eI)))) a0), .f (eI a1), .f (eI a2), .f ((eT eI) v1.1), .f ((eT eI) v1.2)]) rfl (c_B (r_cmpI rfl (r_wv (e := eI) (x := a1) rfl) (r_wv (e := eI) (x := a2) rfl))) (t_ret (er := (eP (fc eI (f1 eI)))) (ε1 := [.f ((eP (fc (eT eI) (f1 (eT eI)))) a0), .f (eI a1), .f (eI a2), .f ((eT eI) v1.1), .f ((eT eI) v1.2)]) (w := (fun u => u)) rfl (fun u ε => pF_rt u ε) (r_tup (a_c (r_lit (e := eI) rfl) (a_1 (r_lit (e := eI) rfl))))) (t_ret (er := (eP (fc eI (f1 eI)))) (ε1 := [.f ((eP (fc (eT eI) (f1 (eT eI)))) a0), .f (eI a1), .f (eI a2), .f ((eT eI) v1.1), .f ((eT eI) v1.2)]) (w := (fun u => u)) rfl (fun u ε => pF_rt u ε) (r_tup (a_c (r_bi2 (r_lit (e := eI) rfl) (r_sub (r_ixT (r_wv (e := (eT eI)) (x := v1.1) rfl) (r_wv (e := eI) (x := a2) rfl)) (r_ixT (r_wv (e := (eT eI)) (x := v1.2) rfl) (r_wv (e := eI) (x := a1) rfl))) (fun _ _ => b_max2 _ _)) (a_1 (r_sub (r_ixT (r_wv (e := (eT eI)) (x := v1.2) rfl) (r_wv (e := eI) (x := a2) rfl)) (r_ixT (r_wv (e := (eT eI)) (x := v1.1) rfl) (r_wv (e := eI) (x := a1) rfl))))))))))

def m_span (a0 : (List (Int × Int))) (a1 : Int) (a2 : Int) : Option (Option (Int × Int)) :=
  (Option.bind (Option.bind (Option.bind (Option.bind (Option.bind (Option.map (eT (eP (fc eI (f1 eI)))) (some a0)) (dQ (dQ dI))) (fun (x : (Bool × List (Bool × List Int))) => m_is_age_layers x)) (fun u => Option.bind (some ((1 : Int) : Int)) (fun v => some (u, v)))) (fun (x : Bool × Int) => m_need x.1 x.2)) (fun (_ : Unit) => (Option.bind (Option.bind (Option.bind (Option.bind (Option.bind (some a1) (fun u => Option.bind (Option.bind (some ((0 : Int) : Int)) (fun u => Option.bind (Option.bind (Option.bind (some a0) (fun (u : (List (Int × Int))) => some (u.length : Int))) (fun u => Option.bind (some ((1 : Int) : Int)) (fun v => some (u - v)))) (fun v => some (u, v)))) (fun v => some (u, v)))) (fun (x : Int × Int × Int) => m_is_between x.1 x.2.1 x.2.2)) (fun u => Option.bind (some ((2 : Int) : Int)) (fun v => some (u, v)))) (fun (x : Bool × Int) => m_need x.1 x.2)) (fun (_ : Unit) => (Option.bind (Option.bind (Option.bind (Option.bind (Option.bind (some a2) (fun u => Option.bind (Option.bind (some a1) (fun u => Option.bind (Option.bind (Option.bind (some a0) (fun (u : (List (Int × Int))) => some (u.length : Int))) (fun u => Option.bind (some ((1 : Int) : Int)) (fun v => some (u - v)))) (fun v => some (u, v)))) (fun v => some (u, v)))) (fun (x : Int × Int × Int) => m_is_between x.1 x.2.1 x.2.2)) (fun u => Option.bind (some ((3 : Int) : Int)) (fun v => some (u, v)))) (fun (x : Bool × Int) => m_need x.1 x.2)) (fun (_ : Unit) => (Option.bind (Option.bind (Option.bind (Option.bind (Option.bind (Option.map (eT (eP (fc eI (f1 eI)))) (some a0)) (fun (x : D) => m_tupled x)) (fun u => if noMut u = true then some u else none)) (dT (dP (dc dI (du dI))))) (fun (x : (List (Int × Int))) => m_years_of x)) (fun (v1 : (Option ((List Int) × (List Int)))) => (Option.map (fun u => u) (Option.bind (Option.map (fun (u : (Option ((List Int) × (List Int)))) => u.isNone) (some v1)) (fun u => if u = true then (Option.map (fun (_ : Unit) => (none : (Option (Int × Int)))) (some (() : Unit))) else (Option.map some (Option.bind (Option.bind (Option.bind (some v1) (fun u => u)) (fun u => Option.bind (Option.bind (some a1) (fun u => Option.bind (some a2) (fun v => some (u, v)))) (fun v => some (u, v)))) (fun (x : ((List Int) × (List Int)) × Int × Int) => m_span_of x.1 x.2.1 x.2.2))))))))))))))
theorem ok_span (k : Nat) (a0 : (List (Int × Int))) (a1 : Int) (a2 : Int) : Rf (eO (eP (fc eI (f1 eI)))) (m_span a0 a1 a2) (call fs (k + 45) 20 [(eT (eP (fc eI (f1 eI)))) a0, eI a1, eI a2]) :=
  f_in (ε := [.f ((eT (eP (fc eI (f1 eI)))) a0), .f (eI a1), .f (eI a2), .u]) at_span rfl rfl
  (t_drop (e := eN) (ε1 := [.f ((eT (eP (fc eI (f1 eI)))) a0), .f (eI a1), .f (eI a2), .u]) rfl (r_nm1 (ε1 := [.f ((eT (eP (fc eI (f1 eI)))) a0), .f (eI a1), .f (eI a2), .u]) rfl n_N (r_call (a_c (r_nm1 (ε1 := [.f ((eT (eP (fc eI (f1 eI)))) a0), .f (eI a1), .f (eI a2), .u]) rfl n_B (r_call (a_1 (r_dec (dc_Q (dc_Q dc_I)) (r_enc (r_var (e := (eT (eP (fc eI (f1 eI))))) (x := a0) rfl)))) (fun (x : (Bool × List (Bool × List Int))) => ok_is_age_layers (k + 40) x))) (a_1 (r_lit (e := eI) rfl))) (fun (x : Bool × Int) => ok_need (k + 43) x.1 x.2))) (fun _ => (t_drop (e := eN) (ε1 := [.f ((eT (eP (fc eI (f1 eI)))) a0), .f (eI a1), .f (eI a2), .u]) rfl (r_nm1 (ε1 := [.f ((eT (eP (fc eI (f1 eI)))) a0), .f (eI a1), .f (eI a2), .u]) rfl n_N (r_call (a_c (r_nm1 (ε1 := [.f ((eT (eP (fc eI (f1 eI)))) a0), .f (eI a1), .f (eI a2), .u]) rfl n_B (r_call (a_c (r_var (e := eI) (x := a1) rfl) (a_c (r_lit (e := eI) rfl) (a_1 (r_sub (r_bi1 (r_wv (e := (eT (eP (fc eI (f1 eI))))) (x := a0) rfl) (fun _ => b_lenT _)) (r_lit (e := eI) rfl))))) (fun (x : Int × Int × Int) => ok_is_between (k + 42) x.1 x.2.1 x.2.2))) (a_1 (r_lit (e := eI) rfl))) (fun (x : Bool × Int) => ok_need (k + 43) x.1 x.2))) (fun _ => (t_drop (e := eN) (ε1 := [.f ((eT (eP (fc eI (f1 eI)))) a0), .f (eI a1), .f (eI a2), .u]) rfl (r_nm1 (ε1 := [.f ((eT (eP (fc eI (f1 eI)))) a0), .f (eI a1), .f (eI a2), .u]) rfl n_N (r_call (a_c (r_nm1 (ε1 := [.f ((eT (eP (fc eI (f1 eI)))) a0), .f (eI a1), .f (eI a2), .u]) rfl n_B (r_call (a_c (r_var (e := eI) (x := a2) rfl) (a_c (r_var (e := eI) (x := a1) rfl) (a_1 (r_sub (r_bi1 (r_wv (e := (eT (eP (fc eI (f1 eI))))) (x := a0) rfl) (fun _ => b_lenT _)) (r_lit (e := eI) rfl))))) (fun (x : Int × Int × Int) => ok_is_between (k + 42) x.1 x.2.1 x.2.2))) (a_1 (r_lit (e := eI) rfl))) (fun (x : Bool × Int) => ok_need (k + 43) x.1 x.2))) (fun _ => (t_asg (e := (eO (eP (fc (eT eI) (f1 (eT eI)))))) (ε1 := [.f ((eT (eP (fc eI (f1 eI)))) a0), .f (eI a1), .f (eI a2), .u]) (ε' := fun (v1 : (Option ((List Int) × (List Int)))) => [.f ((eT (eP (fc eI (f1 eI)))) a0), .f (eI a1), .f (eI a2), .f ((eO (eP (fc (eT eI) (f1 (eT eI))))) v1)]) rfl (fun _ => rfl) (r_nm1 (ε1 := [.f ((eT (eP (fc eI (f1 eI)))) a0), .f (eI a1), .f (eI a2), .u]) rfl (n_O (n_P (n_c (n_T n_I) (n_1 (n_T n_I))))) (r_call (a_1 (r_dec (dc_T (dc_P (dc_c dc_I (dc_1 dc_I)))) (r_nmD1 (ε1 := [.f ((eT (eP (fc eI (f1 eI)))) a0), .f (eI a1), .f (eI a2), .u]) rfl (r_call (a_1 (r_enc (r_var (e := (eT (eP (fc eI (f1 eI))))) (x := a0) rfl))) (fun (x : D) => ok_tupled (k + 0) x))))) (fun (x : (List (Int × Int))) => ok_years_of (k + 43) x))) (fun (v1 : (Option ((List Int) × (List Int)))) => (t_ret (er := (eO (eP (fc eI (f1 eI))))) (ε1 := [.f ((eT (eP (fc eI (f1 eI)))) a0), .f (eI a1), .f (eI a2), .f ((eO (eP (fc (eT eI) (f1 (eT eI))))) v1)]) (w := (fun u => u)) rfl (fun u ε => pF_rt u ε) (r_ite (c_B (r_isN nn_P (r_wv (e := (eO (eP (fc (eT eI) (f1 (eT eI)))))) (x := v1) rfl))) (r_conv (e' := (eO (eP (fc eI (f1 eI))))) (fun _ => rfl) (r_lit (e := eN) rfl)) (r_some (r_nm1 (ε1 := [.f ((eT (eP (fc eI (f1 eI)))) a0), .f (eI a1), .f (eI a2), .f ((eO (eP (fc (eT eI) (f1 (eT eI))))) v1)]) rfl (n_P (n_c n_I (n_1 n_I))) (r_call (a_c (r_unw (r_var (e := (eO (eP (fc (eT eI) (f1 (eT eI)))))) (x := v1) rfl)) (a_c (r_var (e := eI) (x := a1) rfl) (a_1 (r_var (e := eI) (x := a2) rfl)))) (fun (x : ((List Int) × (List Int)) × Int × Int) => ok_span_of (k + 43) x.1 x.2.1 x.2.2))))))))))))))

def m_narrowed (a0 : (List (Int × Int))) : Option (Option (List (Int × Int))) :=
  (Option.bind (Option.bind (Option.bind (Option.bind (Option.bind (Option.map (eT (eP (fc eI (f1 eI)))) (some a0)) (dQ (dQ dI))) (fun (x : (Bool × List (Bool × List Int))) => m_is_age_layers x)) (fun u => Option.bind (some ((1 : Int) : Int)) (fun v => some (u, v)))) (fun (x : Bool × Int) => m_need x.1 x.2)) (fun (_ : Unit) => (Option.bind (Option.bind (Option.bind (Option.bind (Option.bind (Option.map (eT (eP (fc eI (f1 eI)))) (some a0)) (fun (x : D) => m_tupled x)) (fun u => if noMut u = true then some u else none)) (dT (dP (dc dI (du dI))))) (fun (x : (List (Int × Int))) => m_years_of x)) (fun (v1 : (Option ((List Int) × (List Int)))) => (Option.bind (Option.map (fun (u : (Option ((List Int) × (List Int)))) => u.isNone) (some v1)) (fun u => if u = true then (Option.map (fun u => u) (Option.map (fun (_ : Unit) => (none : (Option (List (Int × Int))))) (some (() : Unit)))) else (Option.map (fun u => u) (Option.map some (Option.bind (Option.bind (Option.bind (Option.bind (Option.map (fun (u : ((List Int) × (List Int))) => u.1) (Option.bind (some v1) (fun u => u))) (fun (u : (List Int)) => some (u.length : Int))) (fun u => rgM 0 u)) (fun xs => mapF (fun (v2 : Int) => Option.map some (Option.bind (Option.bind (Option.map (fun (u : ((List Int) × (List Int))) => u.1) (Option.bind (some v1) (fun u => u))) (fun u => Option.bind (some v2) (fun v => ixD u v))) (fun u => Option.bind (Option.bind (Option.map (fun (u : ((List Int) × (List Int))) => u.2) (Option.bind (some v1) (fun u => u))) (fun u => Option.bind (some v2) (fun v => ixD u v))) (fun v => some (u, v))))) xs)) (fun (u : (List (Int × Int))) => some u))))))))))
theorem ok_narrowed (k : Nat) (a0 : (List (Int × Int))) : Rf (eO (eT (eP (fc eI (f1 eI))))) (m_narrowed a0) (call fs (k + 45) 21 [(eT (eP (fc eI (f1 eI)))) a0]) :=
  f_in (ε := [.f ((eT (eP (fc eI (f1 eI)))) a0), .u, .u]) at_narrowed rfl rfl
  (t_drop (e := eN) (ε1 := [.f ((eT (eP (fc eI (f1 eI)))) a0), .u, .u]) rfl (r_nm1 (ε1 := [.f ((eT (eP (fc eI (f1 eI)))) a0), .u, .u]) rfl n_N (r_call (a_c (r_nm1 (ε1 := [.f ((eT (eP (fc eI (f1 eI)))) a0), .u, .u]) rfl n_B (r_call (a_1 (r_dec (dc_Q (dc_Q dc_I)) (r_enc (r_var (e := (eT (eP (fc eI (f1 eI))))) (x := a0) rfl)))) (fun (x : (Bool × List (Bool × List Int))) => ok_is_age_layers (k + 40) x))) (a_1 (r_lit (e := eI) rfl))) (fun (x : Bool × Int) => ok_need (k + 43) x.1 x.2))) (fun _ => (t_asg (e := (eO (eP (fc (eT eI) (f1 (eT eI)))))) (ε1 := [.f ((eT (eP (fc eI (f1 eI)))) a0), .u, .u]) (ε' := fun (v1 : (Option ((List Int) × (List Int)))) => [.f ((eT (eP (fc eI (f1 eI)))) a0), .f ((eO (eP (fc (eT eI) (f1 (eT eI))))) v1), .u]) rfl (fun _ => rfl) (r_nm1 (ε1 := [.f ((eT (eP (fc eI (f1 eI)))) a0), .u, .u]) rfl (n_O (n_P (n_c (n_T n_I) (n_1 (n_T n_I))))) (r_call (a_1 (r_dec (dc_T (dc_P (dc_c dc_I (dc_1 dc_I)))) (r_nmD1 (ε1 := [.f ((eT (eP (fc eI (f1 eI)))) a0), .u, .u]) rfl (r_call (a_1 (r_enc (r_var (e := (eT (eP (fc eI (f1 eI))))) (x := a0) rfl))) (fun (x : D) => ok_tupled (k + 0) x))))) (fun (x : (List (Int × Int))) => ok_years_of (k + 43) x))) (fun (v1 : (Option ((List Int) × (List Int)))) => (t_if (ε1 := [.f ((eT (eP (fc eI (f1 eI)))) a0), .f ((eO (eP (fc (eT eI) (f1 (eT eI))))) v1), .u]) rfl (c_B (r_isN nn_P (r_wv (e := (eO (eP (fc (eT eI) (f1 (eT eI)))))) (x := v1) rfl))) (t_ret (er := (eO (eT (eP (fc eI (f1 eI)))))) (ε1 := [.f ((eT (eP (fc eI (f1 eI)))) a0), .f ((eO (eP (fc (eT eI) (f1 (eT eI))))) v1), .u]) (w := (fun u => u)) rfl (fun u ε => pF_rt u ε) (r_conv (e' := (eO (eT (eP (fc eI (f1 eI)))))) (fun _ => rfl) (r_lit (e := eN) rfl))) (t_ret (er := (eO (eT (eP (fc eI (f1 eI)))))) (ε1 := [.f ((eT (eP (fc eI (f1 eI)))) a0), .f ((eO (eP (fc (eT eI) (f1 (eT eI))))) v1), .u]) (w := (fun u => u)) rfl (fun u ε => pF_rt u ε) (r_some (r_bi1 (r_lc0 (e := eI) (ε' := fun (v2 : Int) => [.f ((eT (eP (fc eI (f1 eI)))) a0), .f ((eO (eP (fc (eT eI) (f1 (eT eI))))) v1), .f (eI v2)]) (i_r1 (r_bi1 (r_ixP (e' := (eT eI)) (p := fun (u : ((List Int) × (List Int))) => u.1) (fun _ => rfl) (r_unw (r_wv (e := (eO (eP (fc (eT eI) (f1 (eT eI)))))) (x := v1) rfl))) (fun _ => b_lenT _))) (fun _ => rfl) (fun (v2 : Int) => (r_tup (a_c (r_ixT (r_ixP (e' := (eT eI)) (p := fun (u : ((List Int) × (List Int))) => u.1) (fun _ => rfl) (r_unw (r_wv (e := (eO (eP (fc (eT eI) (f1 (eT eI)))))) (x := v1) rfl))) (r_wv (e := eI) (x := v2) rfl)) (a_1 (r_ixT (r_ixP (e' := (eT eI)) (p := fun (u : ((List Int) × (List Int))) => u.2) (fun _ => rfl) (r_unw (r_wv (e := (eO (eP (fc (eT eI) (f1 (eT eI)))))) (x := v1) rfl))) (r_wv (e := eI) (x := v2) rfl))))))) (fun _ => b_tupL _)))))))))

def m_are_thicknesses (a0 : (List (Int × Int))) (a1 : (List Int)) : Option Bool :=
  (Option.bind (Option.map (fun u => !u) (Option.bind (Option.bind (Option.map (eL eI) (some a1)) (fun u => Option.bind (Option.bind (Option.bind (some a0) (fun (u : (List (Int × Int))) => some (u.length : Int))) (fun u => Option.bind (Option.bind (some a0) (fun (u : (List (Int × Int))) => some (u.length : Int))) (fun v => some (u, v)))) (fun v => some (u, v)))) (fun (x : D × Int × Int) => m_is_row x.1 x.2.1 x.2.2))) (fun u => if u = true then (Option.map (fun u => u) (some (false : Bool))) else (Option.map (fun u => u) (Option.bind (Option.bind (some a1) (fun xs => mapF (fun (v1 : Int) => Option.map some (Option.bind (Option.bind (some v1) (fun u => Option.bind (Option.bind (some ((1 : Int) : Int)) (fun u => Option.bind (some ((9999 : Int) : Int)) (fun v => some (u, v)))) (fun v => some (u, v)))) (fun (x : Int × Int × Int) => m_is_between x.1 x.2.1 x.2.2))) xs)) (fun (u : (List Bool)) => some (u.all id))))))
theorem ok_are_thicknesses (k : Nat) (a0 : (List (Int × Int))) (a1 : (List Int)) : Rf eB (m_are_thicknesses a0 a1) (call fs (k + 3) 22 [(eT (eP (fc eI (f1 eI)))) a0, (eL eI) a1]) :=
  f_in (ε := [.f ((eT (eP (fc eI (f1 eI)))) a0), .f ((eL eI) a1), .u]) at_are_thicknesses rfl rfl
  (t_if (ε1 := [.f ((eT (eP (fc eI (f1 eI)))) a0), .f ((eL eI) a1), .u]) rfl (c_B (r_not (c_B (r_nm1 (ε1 := [.f ((eT (eP (fc eI (f1 eI)))) a0), .f ((eL eI) a1), .u]) rfl n_B (r_call (a_c (r_enc (r_var (e := (eL eI)) (x := a1) rfl)) (a_c (r_bi1 (r_wv (e := (eT (eP (fc eI (f1 eI))))) (x := a0) rfl) (fun _ => b_lenT _)) (a_1 (r_bi1 (r_wv (e := (eT (eP (fc eI (f1 eI))))) (x := a0) rfl) (fun _ => b_lenT _))))) (fun (x : D × Int × Int) => ok_is_row (k + 0) x.1 x.2.1 x.2.2)))))) (t_ret (er := eB) (ε1 := [.f ((eT (eP (fc eI (f1 eI)))) a0), .f ((eL eI) a1), .u]) (w := (fun u => u)) rfl (fun u ε => pF_rt u ε) (r_lit (e := eB) rfl)) (t_ret (er := eB) (ε1 := [.f ((eT (eP (fc eI (f1 eI)))) a0), .f ((eL eI) a1), .u]) (w := (fun u => u)) rfl (fun u ε => pF_rt u ε) (r_bi1 (r_lc0 (e := eI) (ε' := fun (v1 : Int) => [.f ((eT (eP (fc eI (f1 eI)))) a0), .f ((eL eI) a1), .f (eI v1)]) (i_L (r_wv (e := (eL eI)) (x := a1) rfl)) (fun _ => rfl) (fun (v1 : Int) => (r_nm1 (ε1 := [.f ((eT (eP (fc eI (f1 eI)))) a0), .f ((eL eI) a1), .f (eI v1)]) rfl n_B (r_call (a_c (r_var (e := eI) (x := v1) rfl) (a_c (r_lit (e := eI) rfl) (a_1 (r_gl (e := eI) rfl)))) (fun (x : Int × Int × Int) => ok_is_between (k + 0) x.1 x.2.1 x.2.2))))) (fun _ => b_all _))))

def m_rate (a0 : (List (Int × Int))) (a1 : (List Int)) : Option (Option ((Option (Int × Int)) × (Option (Int × Int)))) :=
  (Option.bind (Option.bind (Option.bind (Option.bind (Option.bind (Option.map (eT (eP (fc eI (f1 eI)))) (some a0)) (dQ (dQ dI))) (fun (x : (Bool × List (Bool × List Int))) => m_is_age_layers x)) (fun u => Option.bind (some ((1 : Int) : Int)) (fun v => some (u, v)))) (fun (x : Bool × Int) => m_need x.1 x.2)) (fun (_ : Unit) => (Option.bind (Option.bind (Option.bind (Option.bind (Option.bind (some a0) (fun u => Option.bind (some a1) (fun v => some (u, v)))) (fun (x : (List (Int × Int)) × (List Int)) => m_are_thicknesses x.1 x.2)) (fun u => Option.bind (some ((2 : Int) : Int)) (fun v => some (u, v)))) (fun (x : Bool × Int) => m_need x.1 x.2)) (fun (_ : Unit) => (Option.bind (Option.bind (Option.bind (Option.bind (Option.bind (Option.map (eT (eP (fc eI (f1 eI)))) (some a0)) (fun (x : D) => m_tupled x)) (fun u => if noMut u = true then some u else none)) (dT (dP (dc dI (du dI))))) (fun (x : (List (Int × Int))) => m_years_of x)) (fun (v1 : (Option ((List Int) × (List Int)))) => (Option.bind (Option.map (fun (u : (Option ((List Int) × (List Int)))) => u.isNone) (some v1)) (fun u => if u = true then (Option.map (fun u => u) (Option.map (fun (_ : Unit) => (none : (Option ((Option (Int × Int)) × (Option (Int × Int)))))) (some (() : Unit)))) else (Option.bind (Option.bind (Option.bind (Option.bind (some v1) (fun u => u)) (fun u => Option.bind (Option.bind (some ((0 : Int) : Int)) (fun u => Option.bind (Option.bind (Option.bind (some a0) (fun (u : (List (Int × Int))) => some (u.length : Int))) (fun u => Option.bind (some ((1 : Int) : Int)) (fun v => some (u - v)))) (fun v => some (u, v)))) (fun v => some (u, v)))) (fun (x : ((List Int) × (List Int)) × Int × Int) => m_span_of x.1 x.2.1 x.2.2)) (fun (v2 : (Int × Int)) => (Option.bind (Option.bind (Option.bind (some a1) (fun (u : (List Int)) => some u)) (fun (u : (List Int)) => some u.sum)) (fun (v3 : Int) => (Option.bind (Option.bind (some v2.2) (fun u => Option.bind (some ((0 : Int) : Int)) (fun v => some (cI .eq u v)))) (fun u => if u = true then (Option.map (fun u => u) (Option.map some (Option.bind (Option.map (fun (_ : Unit) => (none : (Option (Int × Int)))) (some (() : Unit))) (fun u => Option.bind (Option.map (fun (_ : Unit) => (none : (Option (Int × Int)))) (some (() : Unit))) (fun v => some (u, v)))))) else (Option.bind (Option.bind (some v2.1) (fun u => Option.bind (some ((0 : Int) : Int)) (fun v => some (cI .eq u v)))) (fun u => if u = true then (Option.map (fun u => u) (Option.map some (Option.bind (Option.map some (Option.bind (Option.bind (some v3) (fun u => Option.bind (some v2.2) (fun v => some (u, v)))) (fun (x : Int × Int) => m_ratio x.1 x.2))) (fun u => Option.bind (Option.map (fun (_ : Unit) => (none : (Option (Int × Int)))) (some (() : Unit))) (fun v => some (u, v)))))) else (Option.map (fun u => u) (Option.map some (Option.bind (Option.map some (Option.bind (Option.bind (some v3) (fun u => Option.bind (some v2.2) (fun v => some (u, v)))) (fun (x : Int × Int) => m_ratio x.1 x.2))) (fun u => Option.bind (Option.map some (Option.bind (Option.bind (some v3) (fun u => Option.bind (some v2.1) (fun v => some (u, v)))) (fun (x : Int × Int) => m_ratio x.1 x.2))) (fun v => some (u, v))))))))))))))))))))))
theorem ok_rate (k : Nat) (a0 : (List (Int × Int))) (a1 : (List Int)) : Rf (eO (eP (fc (eO (eP (fc eI (f1 eI)))) (f1 (eO (eP (fc eI (f1 eI)))))))) (m_rate a0 a1) (call fs (k + 45) 23 [(eT (eP (fc eI (f1 eI)))) a0, (eL eI) a1]) :=
  f_in (ε := [.f ((eT (eP (fc eI (f1 eI)))) a0), .f ((eL eI) a1), .u, .u, .u, .u]) at_rate rfl rfl
  (t_drop (e := eN) (ε1 := [.f ((eT (eP (fc eI (f1 eI)))) a0), .f ((eL eI) a1), .u, .u, .u, .u]) rfl (r_nm1 (ε1 := [.f ((eT (eP (fc eI (f1 eI)))) a0), .f ((eL eI) a1), .u, .u, .u, .u]) rfl n_N (r_call (a_c (r_nm1 (ε1 := [.f ((eT (eP (fc eI (f1 eI)))) a0), .f ((eL eI) a1), .u, .u, .u, .u]) rfl n_B (r_call (a_1 (r_dec (dc_Q (dc_Q dc_I)) (r_enc (r_var (e := (eT (eP (fc eI (f1 eI))))) (x := a0) rfl)))) (fun (x : (Bool × List (Bool × List Int))) => ok_is_age_layers (k + 40) x))) (a_1 (r_lit (e := eI) rfl))) (fun (x : Bool × Int) => ok_need (k + 43) x.1 x.2))) (fun _ => (t_drop (e := eN) (ε1 := [.f ((eT (eP (fc eI (f1 eI)))) a0), .f ((eL eI) a1), .u, .u, .u, .u]) rfl (r_nm1 (ε1 := [.f ((eT (eP (fc eI (f1 eI)))) a0), .f ((eL eI) a1), .u, .u, .u, .u]) rfl n_N (r_call (a_c (r_nm1 (ε1 := [.f ((eT (eP (fc eI (f1 eI)))) a0), .f ((eL eI) a1), .u, .u, .u, .u]) rfl n_B (r_call (a_c (r_var (e := (eT (eP (fc eI (f1 eI))))) (x := a0) rfl) (a_1 (r_var (e := (eL eI)) (x := a1) rfl))) (fun (x : (List (Int × Int)) × (List Int)) => ok_are_thicknesses (k + 41) x.1 x.2))) (a_1 (r_lit (e := eI) rfl))) (fun (x : Bool × Int) => ok_need (k + 43) x.1 x.2))) (fun _ => (t_asg (e := (eO (eP (fc (eT eI) (f1 (eT eI)))))) (ε1 := [.f ((eT (eP (fc eI (f1 eI)))) a0), .f ((eL eI) a1), .u, .u, .u, .u]) (ε' := fun (v1 : (Option ((List Int) × (List Int)))) => [.f ((eT (eP (fc eI (f1 eI)))) a0), .f ((eL eI) a1), .f ((eO (eP (fc (eT eI) (f1 (eT eI))))) v1), .u, .u, .u]) rfl (fun _ => rfl) (r_nm1 (ε1 := [.f ((eT (eP (fc eI (f1 eI)))) a0), .f ((eL eI) a1), .u, .u, .u, .u]) rfl (n_O (n_P (n_c (n_T n_I) (n_1 (n_T n_I))))) (r_call (a_1 (r_dec (dc_T (dc_P (dc_c dc_I (dc_1 dc_I)))) (r_nmD1 (ε1 := [.f ((eT (eP (fc eI (f1 eI)))) a0), .f ((eL eI) a1), .u, .u, .u, .u]) rfl (r_call (a_1 (r_enc (r_var (e := (eT (eP (fc eI (f1 eI))))) (x := a0) rfl))) (fun (x : D) => ok_tupled (k + 0) x))))) (fun (x : (List (Int × Int))) => ok_years_of (k + 43) x))) (fun (v1 : (Option ((List Int) × (List Int)))) => (t_if (ε1 := [.f ((eT (eP (fc eI (f1 eI)))) a0), .f ((eL eI) a1), .f ((eO (eP (fc (eT eI) (f1 (eT eI))))) v1), .u, .u, .u]) rfl (c_B (r_isN nn_P (r_wv (e := (eO (eP (fc (eT eI) (f1 (eT eI)))))) (x := v1) rfl))) (t_ret (er := (eO (eP (fc (eO (eP (fc eI (f1 eI)))) (f1 (eO (eP (fc eI (f1 eI))))))))) (ε1 := [.f ((eT (eP (fc eI (f1 eI)))) a0), .f ((eL eI) a1), .f ((eO (eP (fc (eT eI) (f1 (eT eI))))) v1), .u, .u, .u]) (w := (fun u => u)) rfl (fun u ε => pF_rt u ε) (r_conv (e' := (eO (eP (fc (eO (eP (fc eI (f1 eI)))) (f1 (eO (eP (fc eI (f1 eI))))))))) (fun _ => rfl) (r_lit (e := eN) rfl))) (t_asg (e := (eP (fc eI (f1 eI)))) (ε1 := [.f ((eT (eP (fc eI (f1 eI)))) a0), .f ((eL eI) a1), .f ((eO (eP (fc (eT eI) (f1 (eT eI))))) v1), .u, .u, .u]) (ε' := fun (v2 : (Int × Int)) => [.f ((eT (eP (fc eI (f1 eI)))) a0), .f ((eL eI) a1), .f ((eO (eP (fc (eT eI) (f1 (eT eI))))) v1), .u, .f (eI v2.1), .f (eI v2.2)]) rfl (fun _ => rfl) (r_nm1 (ε1 := [.f ((eT (eP (fc eI (f1 eI)))) a0), .f ((eL eI) a1), .f ((eO (eP (fc (eT eI) (f1 (eT eI))))) v1), .u, .u, .u]) rfl (n_P (n_c n_I (n_1 n_I))) (r_call (a_c (r_unw (r_var (e := (eO (eP (fc (eT eI) (f1 (eT eI)))))) (x := v1) rfl)) (a_c (r_lit (e := eI) rfl) (a_1 (r_sub (r_bi1 (r_wv (e := (eT (eP (fc eI (f1 eI))))) (x := a0) rfl) (fun _ => b_lenT _)) (r_lit (e := eI) rfl))))) (fun (x : ((List Int) × (List Int)) × Int × Int) => ok_span_of (k + 43) x.1 x.2.1 x.2.2))) (fun (v2 : (Int × Int)) => (t_asg (e := eI) (ε1 := [.f ((eT (eP (fc eI (f1 eI)))) a0), .f ((eL eI) a1), .f ((eO (eP (fc (eT eI) (f1 (eT eI))))) v1), .u, .f (eI v2.1), .f (eI v2.2)]) (ε' := fun (v3 : Int) => [.f ((eT (eP (fc eI (f1 eI)))) a0), .f ((eL eI) a1), .f ((eO (eP (fc (eT eI) (f1 (eT eI))))) v1), .f (eI v3), .f (eI v2.1), .f (eI v2.2)]) rfl (fun _ => rfl) (r_bi1 (r_bi1 (r_wv (e := (eL eI)) (x := a1) rfl) (fun _ => b_lstL _)) (fun _ => b_sum _)) (fun (v3 : Int) => (t_if (ε1 := [.f ((eT (eP (fc eI (f1 eI)))) a0), .f ((eL eI) a1), .f ((eO (eP (fc (eT eI) (f1 (eT eI))))) v1), .f (eI v3), .f (eI v2.1), .f (eI v2.2)]) rfl (c_B (r_cmpI rfl (r_wv (e := eI) (x := v2.2) rfl) (r_lit (e := eI) rfl))) (t_ret (er := (eO (eP (fc (eO (eP (fc eI (f1 eI)))) (f1 (eO (eP (fc eI (f1 eI))))))))) (ε1 := [.f ((eT (eP (fc eI (f1 eI)))) a0), .f ((eL eI) a1), .f ((eO (eP (fc (eT eI) (f1 (eT eI))))) v1), .f (eI v3), .f (eI v2.1), .f (eI v2.2)]) (w := (fun u => u)) rfl (fun u ε => pF_rt u ε) (r_some (r_tup (a_c (r_conv (e' := (eO (eP (fc eI (f1 eI))))) (fun _ => rfl) (r_lit (e := eN) rfl)) (a_1 (r_conv (e' := (eO (eP (fc eI (f1 eI))))) (fun _ => rfl) (r_lit (e := eN) rfl))))))) (t_if (ε1 := [.f ((eT (eP (fc eI (f1 eI)))) a0), .f ((eL eI) a1), .f ((eO (eP (fc (eT eI) (f1 (eT eI))))) v1), .f (eI v3), .f (eI v2.1), .f (eI v2.2)]) rfl (c_B (r_cmpI rfl (r_wv (e := eI) (x := v2.1) rfl) (r_lit (e := eI) rfl))) (t_ret (er := (eO (eP (fc (eO (eP (fc eI (f1 eI)))) (f1 (eO (eP (fc eI (f1 eI))))))))) (ε1 := [.f ((eT (eP (fc eI (f1 eI)))) a0), .f ((eL eI) a1), .f ((eO (eP (fc (eT eI) (f1 (eT eI))))) v1), .f (eI v3), .f (eI v2.1), .f (eI v2.2)]) (w := (fun u => u)) rfl (fun u ε => pF_rt u ε) (r_some (r_tup (a_c (r_some (r_nm1 (ε1 := [.f ((eT (eP (fc eI (f1 eI)))) a0), .f ((eL eI) a1), .f ((eO (eP (fc (eT eI) (f1 (eT eI))))) v1), .f (eI v3), .f (eI v2.1), .f (eI v2.2)]) rfl (n_P (n_c n_I (n_1 n_I))) (r_call (a_c (r_var (e := eI) (x := v3) rfl) (a_1 (r_var (e := eI) (x := v2.2) rfl))) (fun (x : Int × Int) => ok_ratio (k + 43) x.1 x.2)))) (a_1 (r_conv (e' := (eO (eP (fc eI (f1 eI))))) (fun _ => rfl) (r_lit (e := eN) rfl))))))) (t_ret (er := (eO (eP (fc (eO (eP (fc eI (f1 eI)))) (f1 (eO (eP (fc eI (f1 eI))))))))) (ε1 := [.f ((eT (eP (fc eI (f1 eI)))) a0), .f ((eL eI) a1), .f ((eO (eP (fc (eT eI) (f1 (eT eI))))) v1), .f (eI v3), .f (eI v2.1), .f (eI v2.2)]) (w := (fun u => u)) rfl (fun u ε => pF_rt u ε) (r_some (r_tup (a_c (r_some (r_nm1 (ε1 := [.f ((eT (eP (fc eI (f1 eI)))) a0), .f ((eL eI) a1), .f ((eO (eP (fc (eT eI) (f1 (eT eI))))) v1), .f (eI v3), .f (eI v2.1), .f (eI v2.2)]) rfl (n_P (n_c n_I (n_1 n_I))) (r_call (a_c (r_var (e := eI) (x := v3) rfl) (a_1 (r_var (e := eI) (x := v2.2) rfl))) (fun (x : Int × Int) => ok_ratio (k + 43) x.1 x.2)))) (a_1 (r_some (r_nm1 (ε1 := [.f ((eT (eP (fc eI (f1 eI)))) a0), .f ((eL eI) a1), .f ((eO (eP (fc (eT eI) (f1 (eT eI))))) v1), .f (eI v3), .f (eI v2.1), .f (eI v2.2)]) rfl (n_P (n_c n_I (n_1 n_I))) (r_call (a_c (r_var (e := eI) (x := v3) rfl) (a_1 (r_var (e := eI) (x := v2.1) rfl))) (fun (x : Int × Int) => ok_ratio (k + 43) x.1 x.2))))))))))))))))))))))

def m_at_year (a0 : (List (Int × Int))) (a1 : Int) : Option (List Int) :=
  (Option.bind (Option.bind (Option.bind (Option.bind (Option.bind (Option.map (eT (eP (fc eI (f1 eI)))) (some a0)) (dQ (dQ dI))) (fun (x : (Bool × List (Bool × List Int))) => m_is_age_layers x)) (fun u => Option.bind (some ((1 : Int) : Int)) (fun v => some (u, v)))) (fun (x : Bool × Int) => m_need x.1 x.2)) (fun (_ : Unit) => (Option.bind (Option.bind (Option.bind (Option.bind (some a1) (fun (x : Int) => m_is_integer x)) (fun u => Option.bind (some ((2 : Int) : Int)) (fun v => some (u, v)))) (fun (x : Bool × Int) => m_need x.1 x.2)) (fun (_ : Unit) => (Option.bind (Option.bind (Option.bind (Option.bind (Option.bind (Option.map (eT (eP (fc eI (f1 eI)))) (some a0)) (fun (x : D) => m_tupled x)) (fun u => if noMut u = true then some u else none)) (dT (dP (dc dI (du dI))))) (fun (x : (List (Int × Int))) => m_years_of x)) (fun (v1 : (Option ((List Int) × (List Int)))) => (Option.bind (Option.map (fun (u : (Option ((List Int) × (List Int)))) => u.isNone) (some v1)) (fun u => if u = true then (Option.map (fun u => u) (some ([] : List Int))) else (Option.bind (Option.bind (some v1) (fun u => u)) (fun (v2 : ((List Int) × (List Int))) => (Option.map (fun u => u) (Option.bind (Option.bind (Option.bind (Option.bind (some v2.1) (fun (u : (List Int)) => some (u.length : Int))) (fun u => rgM 0 u)) (fun xs => mapF (fun (v3 : Int) => Option.bind (Option.bind (Option.bind (some v2.1) (fun u => Option.bind (some v3) (fun v => ixD u v))) (fun u => Option.bind (some a1) (fun v => if cI .le u v = true then Option.bind (Option.bind (some v2.2) (fun u => Option.bind (some v3) (fun v => ixD u v))) (fun w => some (cI .le v w)) else some false))) (fun b => if b = true then Option.map some (some v3) else some none)) xs)) (fun (u : (List Int)) => some u)))))))))))))
theorem ok_at_year (k : Nat) (a0 : (List (Int × Int))) (a1 : Int) : Rf (eT eI) (m_at_year a0 a1) (call fs (k + 45) 24 [(eT (eP (fc eI (f1 eI)))) a0, eI a1]) :=
  f_in (ε := [.f ((eT (eP (fc eI (f1 eI)))) a0), .f (eI a1), .u, .u, .u, .u]) at_at_year rfl rfl
  (t_drop (e := eN) (ε1 := [.f ((eT (eP (fc eI (f1 eI)))) a0), .f (eI a1), .u, .u, .u, .u]) rfl (r_nm1 (ε1 := [.f ((eT (eP (fc eI (f1 eI)))) a0), .f (eI a1), .u, .u, .u, .u]) rfl n_N (r_call (a_c (r_nm1 (ε1 := [.f ((eT (eP (fc eI (f1 eI)))) a0), .f (eI a1), .u, .u, .u, .u]) rfl n_B (r_call (a_1 (r_dec (dc_Q (dc_Q dc_I)) (r_enc (r_var (e := (eT (eP (fc eI (f1 eI))))) (x := a0) rfl)))) (fun (x : (Bool × List (Bool × List Int))) => ok_is_age_layers (k + 40) x))) (a_1 (r_lit (e := eI) rfl))) (fun (x : Bool × Int) => ok_need (k + 43) x.1 x.2))) (fun _ => (t_drop (e := eN) (ε1 := [.f ((eT (eP (fc eI (f1 eI)))) a0), .f (eI a1), .u, .u, .u, .u]) rfl (r_nm1 (ε1 := [.f ((eT (eP (fc eI (f1 eI)))) a0), .f (eI a1), .u, .u, .u, .u]) rfl n_N (r_call (a_c (r_nm1 (ε1 := [.f ((eT (eP (fc eI (f1 eI)))) a0), .f (eI a1), .u, .u, .u, .u]) rfl n_B (r_call (a_1 (r_var (e := eI) (x := a1) rfl)) (fun (x : Int) => ok_is_integer (k + 43) x))) (a_1 (r_lit (e := eI) rfl))) (fun (x : Bool × Int) => ok_need (k + 43) x.1 x.2))) (fun _ => (t_asg (e := (eO (eP (fc (eT eI) (f1 (eT eI)))))) (ε1 := [.f ((eT (eP (fc eI (f1 eI)))) a0), .f (eI a1), .u, .u, .u, .u]) (ε' := fun (v1 : (Option ((List Int) × (List Int)))) => [.f ((eT (eP (fc eI (f1 eI)))) a0), .f (eI a1), .f ((eO (eP (fc (eT eI) (f1 (eT eI))))) v1), .u, .u, .u]) rfl (fun _ => rfl) (r_nm1 (ε1 := [.f ((eT (eP (fc eI (f1 eI)))) a0), .f (eI a1), .u, .u, .u, .u]) rfl (n_O (n_P (n_c (n_T n_I) (n_1 (n_T n_I))))) (r_call (a_1 (r_dec (dc_T (dc_P (dc_c dc_I (dc_1 dc_I)))) (r_nmD1 (ε1 := [.f ((eT (eP (fc eI (f1 eI)))) a0), .f (eI a1), .u, .u, .u, .u]) rfl (r_call (a_1 (r_enc (r_var (e := (eT (eP (fc eI (f1 eI))))) (x := a0) rfl))) (fun (x : D) => ok_tupled (k + 0) x))))) (fun (x : (List (Int × Int))) => ok_years_of (k + 43) x))) (fun (v1 : (Option ((List Int) × (List Int)))) => (t_if (ε1 := [.f ((eT (eP (fc eI (f1 eI)))) a0), .f (eI a1), .f ((eO (eP (fc (eT eI) (f1 (eT eI))))) v1), .u, .u, .u]) rfl (c_B (r_isN nn_P (r_wv (e := (eO (eP (fc (eT eI) (f1 (eT eI)))))) (x := v1) rfl))) (t_ret (er := (eT eI)) (ε1 := [.f ((eT (eP (fc eI (f1 eI)))) a0), .f (eI a1), .f ((eO (eP (fc (eT eI) (f1 (eT eI))))) v1), .u, .u, .u]) (w := (fun u => u)) rfl (fun u ε => pF_rt u ε) (r_tupH (e := eI) h_n)) (t_asg (e := (eP (fc (eT eI) (f1 (eT eI))))) (ε1 := [.f ((eT (eP (fc eI (f1 eI)))) a0), .f (eI a1), .f ((eO (eP (fc (eT eI) (f1 (eT eI))))) v1), .u, .u, .u]) (ε' := fun (v2 : ((List Int) × (List Int))) => [.f ((eT (eP (fc eI (f1 eI)))) a0), .f (eI a1), .f ((eO (eP (fc (eT eI) (f1 (eT eI))))) v1), .f ((eT eI) v2.1), .f ((eT eI) v2.2), .u]) rfl (fun _ => rfl) (r_unw (r_var (e := (eO (eP (fc (eT eI) (f1 (eT eI)))))) (x := v1) rfl)) (fun (v2 : ((List Int) × (List Int))) => (t_ret (er := (eT eI)) (ε1 := [.f ((eT (eP (fc eI (f1 eI)))) a0), .f (eI a1), .f ((eO (eP (fc (eT eI) (f1 (eT eI))))) v1), .f ((eT eI) v2.1), .f ((eT eI) v2.2), .u]) (w := (fun u => u)) rfl (fun u ε => pF_rt u ε) (r_bi1 (r_lc1 (e := eI) (ε' := fun (v3 : Int) => [.f ((eT (eP (fc eI (f1 eI)))) a0), .f (eI a1), .f ((eO (eP (fc (eT eI) (f1 (eT eI))))) v1), .f ((eT eI) v2.1), .f ((eT eI) v2.2), .f (eI v3)]) (i_r1 (r_bi1 (r_wv (e := (eT eI)) (x := v2.1) rfl) (fun _ => b_lenT _))) (fun _ => rfl) (fun (v3 : Int) => (c_B (r_chI rfl rfl (r_ixT (r_wv (e := (eT eI)) (x := v2.1) rfl) (r_wv (e := eI) (x := v3) rfl)) (r_wv (e := eI) (x := a1) rfl) (r_ixT (r_wv (e := (eT eI)) (x := v2.2) rfl) (r_wv (e := eI) (x := v3) rfl))))) (fun (v3 : Int) => (r_var (e := eI) (x := v3) rfl))) (fun _ => b_tupL _))))))))))))

def m_off_table (a0 : (List (Int × Int))) : Option (List (List (Int × Int))) :=
  (Option.bind (Option.bind (Option.bind (Option.bind (some ((0 : Int) : Int)) (fun u => Option.bind (some ([] : List Int)) (fun v => some (u :: v)))) (fun u => Option.bind (Option.bind (some a0) (fun xs => mapF (fun (v1 : (Int × Int)) => Option.map some (Option.map (fun (u : (Int × Int)) => u.1) (some v1))) xs)) (fun v => catM u v))) (fun (x : (List Int)) => m_distinct x)) (fun (v2 : (List Int)) => (Option.bind (Option.bind (Option.bind (some v2) (fun xs => Option.map (fun (ps : List (Int × Int)) => ps.foldl (fun acc p => putM acc p.1 p.2) []) (mapF (fun (v4 : Int) => Option.bind (some true) (fun b => if b = true then Option.bind (some v4) (fun k => Option.map (fun v => some (k, v)) (some ((0 : Int) : Int))) else some none)) xs))) (fun u => Option.bind (some ([] : List (List (Int × Int)))) (fun v => some (u :: v)))) (fun (v5 : (List (List (Int × Int)))) => (Option.bind (Option.map List.reverse (some a0)) (fun xs => Option.bind (forN (fun (v7 : (Int × Int)) (v6 : (List (List (Int × Int)))) => (Option.bind (Option.bind (some v6) (fun u => Option.bind (Option.map (fun (u : Int) => -u) (some ((1 : Int) : Int))) (fun v => ixD u v))) (fun (v8 : (List (Int × Int))) => (Option.bind (some ([] : (List (Int × Int)))) (fun (v9 : (List (Int × Int))) => (Option.bind (some v2) (fun xs => Option.bind (forN (fun (v11 : Int) (v10 : (List (Int × Int))) => (Option.bind (Option.bind (some ((1 : Int) : Int)) (fun u => Option.bind (Option.bind (some v8) (fun u => Option.bind (some v11) (fun v => getM u v))) (fun v => some (u + v)))) (fun w => Option.bind (some v11) (fun u => Option.bind (setKM (v10 : (List (Int × Int))) u w) (fun (v12 : (List (Int × Int))) => (Option.bind (Option.bind (some v11) (fun u => Option.bind (some v7.1) (fun v => some (if v > u then v else u)))) (fun (v13 : Int) => (Option.bind (Option.bind (some v13) (fun u => Option.bind (some v7.2) (fun v => some (cI .le u v)))) (fun u => if u = true then (Option.bind (Option.bind (Option.bind (some v12) (fun u => Option.bind (some v11) (fun v => getM u v))) (fun u => Option.bind (Option.bind (some v8) (fun u => Option.bind (some v13) (fun v => getM u v))) (fun v => some (if v < u then v else u)))) (fun w => Option.bind (some v11) (fun u => Option.bind (setKM (v12 : (List (Int × Int))) u w) (fun (v14 : (List (Int × Int))) => (some v14))))) else (some v12)))))))))) xs v9) (fun (v10 : (List (Int × Int))) => (Option.bind (some v10) (fun (v15 : (List (Int × Int))) => if v6.length < LIM then (some (v6 ++ [v15])) else none)))))))))) xs v5) (fun (v6 : (List (List (Int × Int)))) => (Option.map (fun u => u) (Option.map List.reverse (some v6))))))))))
theorem ok_off_table (k : Nat) (a0 : (List (Int × Int))) : Rf (eL (eK eI eI)) (m_off_table a0) (call fs (k + 46) 25 [(eT (eP (fc eI (f1 eI)))) a0]) :=
  f_in (ε := [.f ((eT (eP (fc eI (f1 eI)))) a0), .u, .u, .u, .u, .u, .u, .u, .u, .u]) at_off_table rfl rfl
  (t_asg (e := (eT eI)) (ε1 := [.f ((eT (eP (fc eI (f1 eI)))) a0), .u, .u, .u, .u, .u, .u, .u, .u, .u]) (ε' := fun (v2 : (List Int)) => [.f ((eT (eP (fc eI (f1 eI)))) a0), .f ((eT eI) v2), .u, .u, .u, .u, .u, .u, .u, .u]) rfl (fun _ => rfl) (r_nm1 (ε1 := [.f ((eT (eP (fc eI (f1 eI)))) a0), .u, .u, .u, .u, .u, .u, .u, .u, .u]) rfl (n_T n_I) (r_call (a_1 (r_addL (r_lstH (e := eI) (h_c (e := eI) (r_lit (e := eI) rfl) h_n)) (r_lc0 (e := (eP (fc eI (f1 eI)))) (ε' := fun (v1 : (Int × Int)) => [.f ((eT (eP (fc eI (f1 eI)))) a0), .u, .u, .u, .u, .u, .u, .u, .u, .f ((eP (fc eI (f1 eI))) v1)]) (i_T (r_wv (e := (eT (eP (fc eI (f1 eI))))) (x := a0) rfl)) (fun _ => rfl) (fun (v1 : (Int × Int)) => (r_ixP (e' := eI) (p := fun (u : (Int × Int)) => u.1) (fun _ => rfl) (r_wv (e := (eP (fc eI (f1 eI)))) (x := v1) rfl)))))) (fun (x : (List Int)) => ok_distinct (k + 0) x))) (fun (v2 : (List Int)) => (t_asg (e := (eL (eK eI eI))) (ε1 := [.f ((eT (eP (fc eI (f1 eI)))) a0), .f ((eT eI) v2), .u, .u, .u, .u, .u, .u, .u, .u]) (ε' := fun (v5 : (List (List (Int × Int)))) => [.f ((eT (eP (fc eI (f1 eI)))) a0), .f ((eT eI) v2), .o ((eL (eK eI eI)) v5), .u, .u, .u, .u, .u, .u, .u]) rfl (fun _ => rfl) (r_lstH (e := (eK eI eI)) (h_c (e := (eK eI eI)) (r_dc ky_I (ez := eI) (ε' := fun (v4 : Int) => [.f ((eT (eP (fc eI (f1 eI)))) a0), .f ((eT eI) v2), .u, .u, .u, .u, .u, .f (eI v4), .u, .u]) (i_T (r_wv (e := (eT eI)) (x := v2) rfl)) (fun _ => rfl) (fun (v4 : Int) => cc_n) (fun (v4 : Int) => (r_var (e := eI) (x := v4) rfl)) (fun (v4 : Int) => (r_lit (e := eI) rfl))) h_n)) (fun (v5 : (List (List (Int × Int)))) => (t_forN (e := (eP (fc eI (f1 eI)))) (ε1 := [.f ((eT (eP (fc eI (f1 eI)))) a0), .f ((eT eI) v2), .o ((eL (eK eI eI)) v5), .u, .u, .u, .u, .u, .u, .u]) (mk := (fun (v6 : (List (List (Int × Int)))) => [.f ((eT (eP (fc eI (f1 eI)))) a0), .f ((eT eI) v2), .o ((eL (eK eI eI)) v6), .u, .u, .u, .u, .u, .u, .u])) (s0 := v5) (ε' := fun (v7 : (Int × Int)) (v6 : (List (List (Int × Int)))) => [.f ((eT (eP (fc eI (f1 eI)))) a0), .f ((eT eI) v2), .o ((eL (eK eI eI)) v6), .f (eI v7.1), .f (eI v7.2), .u, .u, .u, .u, .u]) gF rfl (.cons (.refl _) (.cons (.refl _) (.cons (.refl _) (.cons (.u _) (.cons (.u _) (.cons (.u _) (.cons (.u _) (.cons (.u _) (.cons (.u _) (.cons (.u _) .nil)))))))))) (fun _ _ => rfl) (i_rT (r_var (e := (eT (eP (fc eI (f1 eI))))) (x := a0) rfl)) (fun (v7 : (Int × Int)) (v6 : (List (List (Int × Int)))) => (t_asg (e := (eK eI eI)) (ε1 := [.f ((eT (eP (fc eI (f1 eI)))) a0), .f ((eT eI) v2), .o ((eL (eK eI eI)) v6), .f (eI v7.1), .f (eI v7.2), .u, .u, .u, .u, .u]) (ε' := fun (v8 : (List (Int × Int))) => [.f ((eT (eP (fc eI (f1 eI)))) a0), .f ((eT eI) v2), .o ((eL (eK eI eI)) v6), .f (eI v7.1), .f (eI v7.2), .f ((eK eI eI) v8), .u, .u, .u, .u]) rfl (fun _ => rfl) (r_ixL (r_wo (e := (eL (eK eI eI))) (x := v6) rfl) (r_neg (r_lit (e := eI) rfl))) (fun (v8 : (List (Int × Int))) => (t_asg (e := (eK eI eI)) (ε1 := [.f ((eT (eP (fc eI (f1 eI)))) a0), .f ((eT eI) v2), .o ((eL (eK eI eI)) v6), .f (eI v7.1), .f (eI v7.2), .f ((eK eI eI) v8), .u, .u, .u, .u]) (ε' := fun (v9 : (List (Int × Int))) => [.f ((eT (eP (fc eI (f1 eI)))) a0), .f ((eT eI) v2), .o ((eL (eK eI eI)) v6), .f (eI v7.1), .f (eI v7.2), .f ((eK eI eI) v8), .o ((eK eI eI) v9), .u, .u, .u]) rfl (fun _ => rfl) (r_dnew (k := eI) (e := eI)) (fun (v9 : (List (Int × Int))) => (t_forN (e := eI) (ε1 := [.f ((eT (eP (fc eI (f1 eI)))) a0), .f ((eT eI) v2), .o ((eL (eK eI eI)) v6), .f (eI v7.1), .f (eI v7.2), .f ((eK eI eI) v8), .o ((eK eI eI) v9), .u, .u, .u]) (mk := (fun (v10 : (List (Int × Int))) => [.f ((eT (eP (fc eI (f1 eI)))) a0), .f ((eT eI) v2), .o ((eL (eK eI eI)) v6), .f (eI v7.1), .f (eI v7.2), .f ((eK eI eI) v8), .o ((eK eI eI) v10), .u, .u, .u])) (s0 := v9) (ε' := fun (v11 : Int) (v10 : (List (Int × Int))) => [.f ((eT (eP (fc eI (f1 eI)))) a0), .f ((eT eI) v2), .o ((eL (eK eI eI)) v6), .f (eI v7.1), .f (eI v7.2), .f ((eK eI eI) v8), .o ((eK eI eI) v10), .f (eI v11), .u, .u]) gN rfl (.cons (.refl _) (.cons (.refl _) (.cons (.refl _) (.cons (.refl _) (.cons (.refl _) (.cons (.refl _) (.cons (.refl _) (.cons (.u _) (.cons (.u _) (.cons (.u _) .nil)))))))))) (fun _ _ => rfl) (i_T (r_var (e := (eT eI)) (x := v2) rfl)) (fun (v11 : Int) (v10 : (List (Int × Int))) => (t_setK ky_I (e := eI) (kvs := v10) (ε1 := [.f ((eT (eP (fc eI (f1 eI)))) a0), .f ((eT eI) v2), .o ((eL (eK eI eI)) v6), .f (eI v7.1), .f (eI v7.2), .f ((eK eI eI) v8), .o ((eK eI eI) v10), .f (eI v11), .u, .u]) (ε' := fun (v12 : (List (Int × Int))) => [.f ((eT (eP (fc eI (f1 eI)))) a0), .f ((eT eI) v2), .o ((eL (eK eI eI)) v6), .f (eI v7.1), .f (eI v7.2), .f ((eK eI eI) v8), .o ((eK eI eI) v12), .f (eI v11), .u, .u]) rfl rfl (fun _ => rfl) (r_wv (e := eI) (x := v11) rfl) (r_add (r_lit (e := eI) rfl) (r_ixK ky_I (r_wv (e := (eK eI eI)) (x := v8) rfl) (r_wv (e := eI) (x := v11) rfl))) (fun (v12 : (List (Int × Int))) => (t_asg (e := eI) (ε1 := [.f ((eT (eP (fc eI (f1 eI)))) a0), .f ((eT eI) v2), .o ((eL (eK eI eI)) v6), .f (eI v7.1), .f (eI v7.2), .f ((eK eI eI) v8), .o ((eK eI eI) v12), .f (eI v11), .u, .u]) (ε' := fun (v13 : Int) => [.f ((eT (eP (fc eI (f1 eI)))) a0), .f ((eT eI) v2), .o ((eL (eK eI eI)) v6), .f (eI v7.1), .f (eI v7.2), .f ((eK eI eI) v8), .o ((eK eI eI) v12), .f (eI v11), .f (eI v13), .u]) rfl (fun _ => rfl) (r_bi2 (r_wv (e := eI) (x := v11) rfl) (r_wv (e := eI) (x := v7.1) rfl) (fun _ _ => b_max2 _ _)) (fun (v13 : Int) => (t_if (ε1 := [.f ((eT (eP (fc eI (f1 eI)))) a0), .f ((eT eI) v2), .f ((eL (eK eI eI)) v6), .f (eI v7.1), .f (eI v7.2), .f ((eK eI eI) v8), .f ((eK eI eI) v12), .f (eI v11), .f (eI v13), .u]) rfl (c_B (r_cmpI rfl (r_wv (e := eI) (x := v13) rfl) (r_wv (e := eI) (x := v7.2) rfl))) (t_setK ky_I (e := eI) (kvs := v12) (ε1 := [.f ((eT (eP (fc eI (f1 eI)))) a0), .f ((eT eI) v2), .o ((eL (eK eI eI)) v6), .f (eI v7.1), .f (eI v7.2), .f ((eK eI eI) v8), .o ((eK eI eI) v12), .f (eI v11), .f (eI v13), .u]) (ε' := fun (v14 : (List (Int × Int))) => [.f ((eT (eP (fc eI (f1 eI)))) a0), .f ((eT eI) v2), .o ((eL (eK eI eI)) v6), .f (eI v7.1), .f (eI v7.2), .f ((eK eI eI) v8), .o ((eK eI eI) v14), .f (eI v11), .f (eI v13), .u]) rfl rfl (fun _ => rfl) (r_wv (e := eI) (x := v11) rfl) (r_bi2 (r_ixK ky_I (r_wo (e := (eK eI eI)) (x := v12) rfl) (r_wv (e := eI) (x := v11) rfl)) (r_ixK ky_I (r_wv (e := (eK eI eI)) (x := v8) rfl) (r_wv (e := eI) (x := v13) rfl)) (fun _ _ => b_min2 _ _)) (fun (v14 : (List (Int × Int))) => (y_end (pN_nx (.cons (.refl _) (.cons (.refl _) (.cons (.refl _) (.cons (.refl _) (.cons (.refl _) (.cons (.refl _) (.cons (.refl _) (.cons (.u _) (.cons (.u _) (.cons (.u _) .nil)))))))))))))) (y_end (pN_nx (.cons (.refl _) (.cons (.refl _) (.cons (.refl _) (.cons (.refl _) (.cons (.refl _) (.cons (.refl _) (.cons (.refl _) (.cons (.u _) (.cons (.u _) (.cons (.u _) .nil)))))))))))))))))) (fun (v10 : (List (Int × Int))) => (t_app (e := (eK eI eI)) (xs := v6) (ε1 := [.f ((eT (eP (fc eI (f1 eI)))) a0), .f ((eT eI) v2), .o ((eL (eK eI eI)) v6), .f (eI v7.1), .f (eI v7.2), .f ((eK eI eI) v8), .f ((eK eI eI) v10), .u, .u, .u]) (ε' := fun (v15 : (List (Int × Int))) => [.f ((eT (eP (fc eI (f1 eI)))) a0), .f ((eT eI) v2), .o ((eL (eK eI eI)) (v6 ++ [v15])), .f (eI v7.1), .f (eI v7.2), .f ((eK eI eI) v8), .f ((eK eI eI) v10), .u, .u, .u]) rfl rfl (fun _ => rfl) (r_var (e := (eK eI eI)) (x := v10) rfl) (fun (v15 : (List (Int × Int))) => (y_end (pN_nx (.cons (.refl _) (.cons (.refl _) (.cons (.refl _) (.cons (.u _) (.cons (.u _) (.cons (.u _) (.cons (.u _) (.cons (.u _) (.cons (.u _) (.cons (.u _) .nil))))))))))))))))))))) (fun (v6 : (List (List (Int × Int)))) => (t_ret (er := (eL (eK eI eI))) (ε1 := [.f ((eT (eP (fc eI (f1 eI)))) a0), .f ((eT eI) v2), .f ((eL (eK eI eI)) v6), .u, .u, .u, .u, .u, .u, .u]) (w := (fun u => u)) rfl (fun u ε => pF_rt u ε) (r_rvL (r_wv (e := (eL (eK eI eI))) (x := v6) rfl)))))))))

def m_places_off (a0 : (List (Int × Int))) : Option (List Int) :=
  (Option.bind (Option.bind (some a0) (fun (x : (List (Int × Int))) => m_off_table x)) (fun (v1 : (List (List (Int × Int)))) => (Option.bind (some ((0 : Int) : Int)) (fun (v2 : Int) => (Option.bind (some ([] : List Int)) (fun (v3 : (List Int)) => (Option.bind (Option.bind (Option.bind (some a0) (fun (u : (List (Int × Int))) => some (u.length : Int))) (fun u => rgM 0 u)) (fun xs => Option.bind (forN (fun (v5 : Int) (v4 : (Int × (List Int))) => (Option.bind (Option.bind (Option.bind (Option.bind (some v1) (fun u => Option.bind (some v5) (fun v => ixD u v))) (fun u => Option.bind (some v4.1) (fun v => getM u v))) (fun u => Option.bind (Option.bind (some ((1 : Int) : Int)) (fun u => Option.bind (Option.bind (Option.bind (some v1) (fun u => Option.bind (Option.bind (some v5) (fun u => Option.bind (some ((1 : Int) : Int)) (fun v => some (u + v)))) (fun v => ixD u v))) (fun u => Option.bind (some v4.1) (fun v => getM u v))) (fun v => some (u + v)))) (fun v => some (cI .eq u v)))) (fun u => if u = true then (Option.bind (some v5) (fun (v6 : Int) => if v4.2.length < LIM then (some (v4.1, (v4.2 ++ [v6]))) else none)) else (Option.bind (Option.bind (some v4.1) (fun u => Option.bind (Option.map (fun (u : (Int × Int)) => u.1) (Option.bind (some a0) (fun u => Option.bind (some v5) (fun v => ixD u v)))) (fun v => some (if v > u then v else u)))) (fun (v7 : Int) => (some (v7, v4.2))))))) xs (v2, v3)) (fun (v4 : (Int × (List Int))) => (Option.map (fun u => u) (Option.bind (some v4.2) (fun (u : (List Int)) => some u))))))))))))
theorem ok_places_off (k : Nat) (a0 : (List (Int × Int))) : Rf (eT eI) (m_places_off a0) (call fs (k + 47) 26 [(eT (eP (fc eI (f1 eI)))) a0]) :=
  f_in (ε := [.f ((eT (eP (fc eI (f1 eI)))) a0), .u, .u, .u, .u]) at_places_off rfl rfl
  (t_asg (e := (eL (eK eI eI))) (ε1 := [.f ((eT (eP (fc eI (f1 eI)))) a0), .u, .u, .u, .u]) (ε' := fun (v1 : (List (List (Int × Int)))) => [.f ((eT (eP (fc eI (f1 eI)))) a0), .f ((eL (eK eI eI)) v1), .u, .u, .u]) rfl (fun _ => rfl) (r_call (a_1 (r_var (e := (eT (eP (fc eI (f1 eI))))) (x := a0) rfl)) (fun (x : (List (Int × Int))) => ok_off_table (k + 0) x)) (fun (v1 : (List (List (Int × Int)))) => (t_asg (e := eI) (ε1 := [.f ((eT (eP (fc eI (f1 eI)))) a0), .f ((eL (eK eI eI)) v1), .u, .u, .u]) (ε' := fun (v2 : Int) => [.f ((eT (eP (fc eI (f1 eI)))) a0), .f ((eL (eK eI eI)) v1), .f (eI v2), .u, .u]) rfl (fun _ => rfl) (r_lit (e := eI) rfl) (fun (v2 : Int) => (t_asg (e := (eL eI)) (ε1 := [.f ((eT (eP (fc eI (f1 eI)))) a0), .f ((eL (eK eI eI)) v1), .f (eI v2), .u, .u]) (ε' := fun (v3 : (List Int)) => [.f ((eT (eP (fc eI (f1 eI)))) a0), .f ((eL (eK eI eI)) v1), .f (eI v2), .o ((eL eI) v3), .u]) rfl (fun _ => rfl) (r_lstH (e := eI) h_n) (fun (v3 : (List Int)) => (t_forN (e := eI) (ε1 := [.f ((eT (eP (fc eI (f1 eI)))) a0), .f ((eL (eK eI eI)) v1), .f (eI v2), .o ((eL eI) v3), .u]) (mk := (fun (v4 : (Int × (List Int))) => [.f ((eT (eP (fc eI (f1 eI)))) a0), .f ((eL (eK eI eI)) v1), .f (eI v4.1), .o ((eL eI) v4.2), .u])) (s0 := (v2, v3)) (ε' := fun (v5 : Int) (v4 : (Int × (List Int))) => [.f ((eT (eP (fc eI (f1 eI)))) a0), .f ((eL (eK eI eI)) v1), .f (eI v4.1), .o ((eL eI) v4.2), .f (eI v5)]) gF rfl (.cons (.refl _) (.cons (.refl _) (.cons (.refl _) (.cons (.refl _) (.cons (.u _) .nil))))) (fun _ _ => rfl) (i_r1 (r_bi1 (r_wv (e := (eT (eP (fc eI (f1 eI))))) (x := a0) rfl) (fun _ => b_lenT _))) (fun (v5 : Int) (v4 : (Int × (List Int))) => (t_if (ε1 := [.f ((eT (eP (fc eI (f1 eI)))) a0), .f ((eL (eK eI eI)) v1), .f (eI v4.1), .f ((eL eI) v4.2), .f (eI v5)]) rfl (c_B (r_cmpI rfl (r_ixK ky_I (r_ixL (r_wv (e := (eL (eK eI eI))) (x := v1) rfl) (r_wv (e := eI) (x := v5) rfl)) (r_wv (e := eI) (x := v4.1) rfl)) (r_add (r_lit (e := eI) rfl) (r_ixK ky_I (r_ixL (r_wv (e := (eL (eK eI eI))) (x := v1) rfl) (r_add (r_wv (e := eI) (x := v5) rfl) (r_lit (e := eI) rfl))) (r_wv (e := eI) (x := v4.1) rfl))))) (t_app (e := eI) (xs := v4.2) (ε1 := [.f ((eT (eP (fc eI (f1 eI)))) a0), .f ((eL (eK eI eI)) v1), .f (eI v4.1), .o ((eL eI) v4.2), .f (eI v5)]) (ε' := fun (v6 : Int) => [.f ((eT (eP (fc eI (f1 eI)))) a0), .f ((eL (eK eI eI)) v1), .f (eI v4.1), .o ((eL eI) (v4.2 ++ [v6])), .f (eI v5)]) rfl rfl (fun _ => rfl) (r_var (e := eI) (x := v5) rfl) (fun (v6 : Int) => (y_end (pN_nx (.cons (.refl _) (.cons (.refl _) (.cons (.refl _) (.cons (.refl _) (.cons (.u _) .nil))))))))) (t_asg (e := eI) (ε1 := [.f ((eT (eP (fc eI (f1 eI)))) a0), .f ((eL (eK eI eI)) v1), .f (eI v4.1), .o ((eL eI) v4.2), .f (eI v5)]) (ε' := fun (v7 : Int) => [.f ((eT (eP (fc eI (f1 eI)))) a0), .f ((eL (eK eI eI)) v1), .f (eI v7), .o ((eL eI) v4.2), .f (eI v5)]) rfl (fun _ => rfl) (r_bi2 (r_wv (e := eI) (x := v4.1) rfl) (r_ixP (e' := eI) (p := fun (u : (Int × Int)) => u.1) (fun _ => rfl) (r_ixT (r_wv (e := (eT (eP (fc eI (f1 eI))))) (x := a0) rfl) (r_wv (e := eI) (x := v5) rfl))) (fun _ _ => b_max2 _ _)) (fun (v7 : Int) => (y_end (pN_nx (.cons (.refl _) (.cons (.refl _) (.cons (.refl _) (.cons (.refl _) (.cons (.u _) .nil))))))))))) (fun (v4 : (Int × (List Int))) => (t_ret (er := (eT eI)) (ε1 := [.f ((eT (eP (fc eI (f1 eI)))) a0), .f ((eL (eK eI eI)) v1), .f (eI v4.1), .f ((eL eI) v4.2), .u]) (w := (fun u => u)) rfl (fun u ε => pF_rt u ε) (r_bi1 (r_wv (e := (eL eI)) (x := v4.2) rfl) (fun _ => b_tupL _)))))))))))

def m_least_off (a0 : (List (List Int))) : Option (List Int) :=
  (Option.bind (Option.bind (Option.bind (Option.bind (Option.bind (Option.map (eL (eL eI)) (some a0)) (dQ (dQ dI))) (fun (x : (Bool × List (Bool × List Int))) => m_is_age_layers x)) (fun u => Option.bind (some ((1 : Int) : Int)) (fun v => some (u, v)))) (fun (x : Bool × Int) => m_need x.1 x.2)) (fun (_ : Unit) => (Option.map (fun u => u) (Option.bind (Option.bind (Option.bind (Option.bind (Option.map (eL (eL eI)) (some a0)) (fun (x : D) => m_tupled x)) (fun u => if noMut u = true then some u else none)) (dT (dP (dc dI (du dI))))) (fun (x : (List (Int × Int))) => m_places_off x)))))
theorem ok_least_off (k : Nat) (a0 : (List (List Int))) : Rf (eT eI) (m_least_off a0) (call fs (k + 48) 27 [(eL (eL eI)) a0]) :=
  f_in (ε := [.f ((eL (eL eI)) a0)]) at_least_off rfl rfl
  (t_drop (e := eN) (ε1 := [.f ((eL (eL eI)) a0)]) rfl (r_nm1 (ε1 := [.f ((eL (eL eI)) a0)]) rfl n_N (r_call (a_c (r_nm1 (ε1 := [.f ((eL (eL eI)) a0)]) rfl n_B (r_call (a_1 (r_dec (dc_Q (dc_Q dc_I)) (r_enc (r_var (e := (eL (eL eI))) (x := a0) rfl)))) (fun (x : (Bool × List (Bool × List Int))) => ok_is_age_layers (k + 43) x))) (a_1 (r_lit (e := eI) rfl))) (fun (x : Bool × Int) => ok_need (k + 46) x.1 x.2))) (fun _ => (t_ret (er := (eT eI)) (ε1 := [.f ((eL (eL eI)) a0)]) (w := (fun u => u)) rfl (fun u ε => pF_rt u ε) (r_nm1 (ε1 := [.f ((eL (eL eI)) a0)]) rfl (n_T n_I) (r_call (a_1 (r_dec (dc_T (dc_P (dc_c dc_I (dc_1 dc_I)))) (r_nmD1 (ε1 := [.f ((eL (eL eI)) a0)]) rfl (r_call (a_1 (r_enc (r_var (e := (eL (eL eI))) (x := a0) rfl))) (fun (x : D) => ok_tupled (k + 3) x))))) (fun (x : (List (Int × Int))) => ok_places_off (k + 0) x))))))

def m_no_fewer_holds (a0 : (List (Int × Int))) (a1 : Int) (a2 : (List (Int × Int))) : Option Bool :=
  (Option.bind (Option.bind (Option.bind (Option.bind (Option.bind (Option.map (eT (eP (fc eI (f1 eI)))) (some a0)) (dQ (dQ dI))) (fun (x : (Bool × List (Bool × List Int))) => m_is_age_layers x)) (fun u => Option.bind (some ((1 : Int) : Int)) (fun v => some (u, v)))) (fun (x : Bool × Int) => m_need x.1 x.2)) (fun (_ : Unit) => (Option.bind (Option.bind (Option.bind (Option.bind (some a1) (fun (x : Int) => m_is_integer x)) (fun u => Option.bind (some ((2 : Int) : Int)) (fun v => some (u, v)))) (fun (x : Bool × Int) => m_need x.1 x.2)) (fun (_ : Unit) => (Option.bind (Option.bind (Option.bind (Option.map (eT (eP (fc eI (f1 eI)))) (some a0)) (fun (x : D) => m_tupled x)) (fun u => if noMut u = true then some u else none)) (fun (v1 : D) => (Option.bind (Option.bind (Option.map (fun u => !u) (Option.bind (Option.bind (Option.map (eT (eP (fc eI (f1 eI)))) (some a2)) (fun u => Option.bind (Option.bind (some ((0 : Int) : Int)) (fun u => Option.bind (Option.bind (some v1) (fun (u : D) => lenM u)) (fun v => some (u, v)))) (fun v => some (u, v)))) (fun (x : D × Int × Int) => m_is_row x.1 x.2.1 x.2.2))) (fun u => if u = true then some true else (Option.bind (Option.bind (some a2) (fun (u : (List (Int × Int))) => some (u.length : Int))) (fun u => Option.bind (some a1) (fun v => some (cI .ne u v)))))) (fun u => if u = true then (Option.map (fun u => u) (some (false : Bool))) else (Option.bind (some ([] : (List (Int × Bool)))) (fun (v2 : (List (Int × Bool))) => (Option.bind (some a2) (fun xs => Option.bind (forT (ρ := Bool) (fun (v4 : (Int × Int)) (v3 : (List (Int × Bool))) => (Option.bind (Option.map (fun u => !u) (Option.bind (Option.bind (Option.bind (some v1) (dT (dP (dc dI (du dI))))) (fun u => Option.bind (Option.bind (Option.map (eP (fc eI (f1 eI))) (some v4)) (dQ dI)) (fun v => some (u, v)))) (fun (x : (List (Int × Int)) × (Bool × List Int)) => m_is_denial_pair x.1 x.2))) (fun u => if u = true then (Option.map Out.rt (some (false : Bool))) else (Option.bind (some v4) (fun (v5 : (Int × Int)) => (Option.bind (Option.bind (Option.bind (some v5.1) (fun v => Option.bind (some v3) (fun u => some ((getM u v).isSome)))) (fun u => if u = true then some true else (Option.bind (some v5.2) (fun v => Option.bind (some v3) (fun u => some ((getM u v).isSome)))))) (fun u => if u = true then (Option.map Out.rt (some (false : Bool))) else (Option.bind (some (true : Bool)) (fun w => Option.bind (some v5.1) (fun u => Option.bind (setKM (v3 : (List (Int × Bool))) u w) (fun (v6 : (List (Int × Bool))) => (Option.bind (some (true : Bool)) (fun w => Option.bind (some v5.2) (fun u => Option.bind (setKM (v6 : (List (Int × Bool))) u w) (fun (v7 : (List (Int × Bool))) => (some (Out.nx v7))))))))))))))))) xs v2) (sumK (fun (v3 : (List (Int × Bool))) => (Option.map (fun u => u) (some (true : Bool)))) (fun u => u))))))))))))))
theorem ok_no_fewer_holds (k : Nat) (a0 : (List (Int × Int))) (a1 : Int) (a2 : (List (Int × Int))) : Rf eB (m_no_fewer_holds a0 a1 a2) (call fs (k + 45) 28 [(eT (eP (fc eI (f1 eI)))) a0, eI a1, (eT (eP (fc eI (f1 eI)))) a2]) :=
  f_in (ε := [.f ((eT (eP (fc eI (f1 eI)))) a0), .f (eI a1), .f ((eT (eP (fc eI (f1 eI)))) a2), .u, .u, .u, .u, .u]) at_no_fewer_holds rfl rfl
  (t_drop (e := eN) (ε1 := [.f ((eT (eP (fc eI (f1 eI)))) a0), .f (eI a1), .f ((eT (eP (fc eI (f1 eI)))) a2), .u, .u, .u, .u, .u]) rfl (r_nm1 (ε1 := [.f ((eT (eP (fc eI (f1 eI)))) a0), .f (eI a1), .f ((eT (eP (fc eI (f1 eI)))) a2), .u, .u, .u, .u, .u]) rfl n_N (r_call (a_c (r_nm1 (ε1 := [.f ((eT (eP (fc eI (f1 eI)))) a0), .f (eI a1), .f ((eT (eP (fc eI (f1 eI)))) a2), .u, .u, .u, .u, .u]) rfl n_B (r_call (a_1 (r_dec (dc_Q (dc_Q dc_I)) (r_enc (r_var (e := (eT (eP (fc eI (f1 eI))))) (x := a0) rfl)))) (fun (x : (Bool × List (Bool × List Int))) => ok_is_age_layers (k + 40) x))) (a_1 (r_lit (e := eI) rfl))) (fun (x : Bool × Int) => ok_need (k + 43) x.1 x.2))) (fun _ => (t_drop (e := eN) (ε1 := [.f ((eT (eP (fc eI (f1 eI)))) a0), .f (eI a1), .f ((eT (eP (fc eI (f1 eI)))) a2), .u, .u, .u, .u, .u]) rfl (r_nm1 (ε1 := [.f ((eT (eP (fc eI (f1 eI)))) a0), .f (eI a1), .f ((eT (eP (fc eI (f1 eI)))) a2), .u, .u, .u, .u, .u]) rfl n_N (r_call (a_c (r_nm1 (ε1 := [.f ((eT (eP (fc eI (f1 eI)))) a0), .f (eI a1), .f ((eT (eP (fc eI (f1 eI)))) a2), .u, .u, .u, .u, .u]) rfl n_B (r_call (a_1 (r_var (e := eI) (x := a1) rfl)) (fun (x : Int) => ok_is_integer (k + 43) x))) (a_1 (r_lit (e := eI) rfl))) (fun (x : Bool × Int) => ok_need (k + 43) x.1 x.2))) (fun _ => (t_asg (e := eD) (ε1 := [.f ((eT (eP (fc eI (f1 eI)))) a0), .f (eI a1), .f ((eT (eP (fc eI (f1 eI)))) a2), .u, .u, .u, .u, .u]) (ε' := fun (v1 : D) => [.f ((eT (eP (fc eI (f1 eI)))) a0), .f (eI a1), .f ((eT (eP (fc eI (f1 eI)))) a2), .f (eD v1), .u, .u, .u, .u]) rfl (fun _ => rfl) (r_nmD1 (ε1 := [.f ((eT (eP (fc eI (f1 eI)))) a0), .f (eI a1), .f ((eT (eP (fc eI (f1 eI)))) a2), .u, .u, .u, .u, .u]) rfl (r_call (a_1 (r_enc (r_var (e := (eT (eP (fc eI (f1 eI))))) (x := a0) rfl))) (fun (x : D) => ok_tupled (k + 0) x))) (fun (v1 : D) => (t_if (ε1 := [.f ((eT (eP (fc eI (f1 eI)))) a0), .f (eI a1), .f ((eT (eP (fc eI (f1 eI)))) a2), .f (eD v1), .u, .u, .u, .u]) rfl (c_or (c_B (r_not (c_B (r_nm1 (ε1 := [.f ((eT (eP (fc eI (f1 eI)))) a0), .f (eI a1), .f ((eT (eP (fc eI (f1 eI)))) a2), .f (eD v1), .u, .u, .u, .u]) rfl n_B (r_call (a_c (r_enc (r_var (e := (eT (eP (fc eI (f1 eI))))) (x := a2) rfl)) (a_c (r_lit (e := eI) rfl) (a_1 (r_bi1 (r_wv (e := eD) (x := v1) rfl) (fun _ => b_lenD _))))) (fun (x : D × Int × Int) => ok_is_row (k + 42) x.1 x.2.1 x.2.2)))))) (c_B (r_cmpI rfl (r_bi1 (r_wv (e := (eT (eP (fc eI (f1 eI))))) (x := a2) rfl) (fun _ => b_lenT _)) (r_wv (e := eI) (x := a1) rfl)))) (t_ret (er := eB) (ε1 := [.f ((eT (eP (fc eI (f1 eI)))) a0), .f (eI a1), .f ((eT (eP (fc eI (f1 eI)))) a2), .f (eD v1), .u, .u, .u, .u]) (w := (fun u => u)) rfl (fun u ε => pF_rt u ε) (r_lit (e := eB) rfl)) (t_asg (e := (eK eI eB)) (ε1 := [.f ((eT (eP (fc eI (f1 eI)))) a0), .f (eI a1), .f ((eT (eP (fc eI (f1 eI)))) a2), .f (eD v1), .u, .u, .u, .u]) (ε' := fun (v2 : (List (Int × Bool))) => [.f ((eT (eP (fc eI (f1 eI)))) a0), .f (eI a1), .f ((eT (eP (fc eI (f1 eI)))) a2), .f (eD v1), .o ((eK eI eB) v2), .u, .u, .u]) rfl (fun _ => rfl) (r_dnew (k := eI) (e := eB)) (fun (v2 : (List (Int × Bool))) => (t_for (e := (eP (fc eI (f1 eI)))) (er := eB) (ε1 := [.f ((eT (eP (fc eI (f1 eI)))) a0), .f (eI a1), .f ((eT (eP (fc eI (f1 eI)))) a2), .f (eD v1), .o ((eK eI eB) v2), .u, .u, .u]) (mk := (fun (v3 : (List (Int × Bool))) => [.f ((eT (eP (fc eI (f1 eI)))) a0), .f (eI a1), .f ((eT (eP (fc eI (f1 eI)))) a2), .f (eD v1), .o ((eK eI eB) v3), .u, .u, .u])) (s0 := v2) (ε' := fun (v4 : (Int × Int)) (v3 : (List (Int × Bool))) => [.f ((eT (eP (fc eI (f1 eI)))) a0), .f (eI a1), .f ((eT (eP (fc eI (f1 eI)))) a2), .f (eD v1), .o ((eK eI eB) v3), .f ((eP (fc eI (f1 eI))) v4), .u, .u]) (w := (fun u => u)) gF rfl (fun u ε => pF_rt u ε) (.cons (.refl _) (.cons (.refl _) (.cons (.refl _) (.cons (.refl _) (.cons (.refl _) (.cons (.u _) (.cons (.u _) (.cons (.u _) .nil)))))))) (fun _ _ => rfl) (i_T (r_var (e := (eT (eP (fc eI (f1 eI))))) (x := a2) rfl)) (fun (v4 : (Int × Int)) (v3 : (List (Int × Bool))) => (t_if (ε1 := [.f ((eT (eP (fc eI (f1 eI)))) a0), .f (eI a1), .f ((eT (eP (fc eI (f1 eI)))) a2), .f (eD v1), .f ((eK eI eB) v3), .f ((eP (fc eI (f1 eI))) v4), .u, .u]) rfl (c_B (r_not (c_B (r_nm1 (ε1 := [.f ((eT (eP (fc eI (f1 eI)))) a0), .f (eI a1), .f ((eT (eP (fc eI (f1 eI)))) a2), .f (eD v1), .f ((eK eI eB) v3), .f ((eP (fc eI (f1 eI))) v4), .u, .u]) rfl n_B (r_call (a_c (r_dec (dc_T (dc_P (dc_c dc_I (dc_1 dc_I)))) (r_var (e := eD) (x := v1) rfl)) (a_1 (r_dec (dc_Q dc_I) (r_enc (r_var (e := (eP (fc eI (f1 eI)))) (x := v4) rfl))))) (fun (x : (List (Int × Int)) × (Bool × List Int)) => ok_is_denial_pair (k + 41) x.1 x.2)))))) (t_ret (er := eB) (ε1 := [.f ((eT (eP (fc eI (f1 eI)))) a0), .f (eI a1), .f ((eT (eP (fc eI (f1 eI)))) a2), .f (eD v1), .f ((eK eI eB) v3), .f ((eP (fc eI (f1 eI))) v4), .u, .u]) (w := Out.rt) rfl (fun u ε => pB_rt u ε) (r_lit (e := eB) rfl)) (t_asg (e := (eP (fc eI (f1 eI)))) (ε1 := [.f ((eT (eP (fc eI (f1 eI)))) a0), .f (eI a1), .f ((eT (eP (fc eI (f1 eI)))) a2), .f (eD v1), .o ((eK eI eB) v3), .f ((eP (fc eI (f1 eI))) v4), .u, .u]) (ε' := fun (v5 : (Int × Int)) => [.f ((eT (eP (fc eI (f1 eI)))) a0), .f (eI a1), .f ((eT (eP (fc eI (f1 eI)))) a2), .f (eD v1), .o ((eK eI eB) v3), .f ((eP (fc eI (f1 eI))) v4), .f (eI v5.1), .f (eI v5.2)]) rfl (fun _ => rfl) (r_var (e := (eP (fc eI (f1 eI)))) (x := v4) rfl) (fun (v5 : (Int × Int)) => (t_if (ε1 := [.f ((eT (eP (fc eI (f1 eI)))) a0), .f (eI a1), .f ((eT (eP (fc eI (f1 eI)))) a2), .f (eD v1), .f ((eK eI eB) v3), .f ((eP (fc eI (f1 eI))) v4), .f (eI v5.1), .f (eI v5.2)]) rfl (c_or (c_B (r_inK ky_I (r_wv (e := eI) (x := v5.1) rfl) (r_wv (e := (eK eI eB)) (x := v3) rfl))) (c_B (r_inK ky_I (r_wv (e := eI) (x := v5.2) rfl) (r_wv (e := (eK eI eB)) (x := v3) rfl)))) (t_ret (er := eB) (ε1 := [.f ((eT (eP (fc eI (f1 eI)))) a0), .f (eI a1), .f ((eT (eP (fc eI (f1 eI)))) a2), .f (eD v1), .f ((eK eI eB) v3), .f ((eP (fc eI (f1 eI))) v4), .f (eI v5.1), .f (eI v5.2)]) (w := Out.rt) rfl (fun u ε => pB_rt u ε) (r_lit (e := eB) rfl)) (t_setK ky_I (e := eB) (kvs := v3) (ε1 := [.f ((eT (eP (fc eI (f1 eI)))) a0), .f (eI a1), .f ((eT (eP (fc eI (f1 eI)))) a2), .f (eD v1), .o ((eK eI eB) v3), .f ((eP (fc eI (f1 eI))) v4), .f (eI v5.1), .f (eI v5.2)]) (ε' := fun (v6 : (List (Int × Bool))) => [.f ((eT (eP (fc eI (f1 eI)))) a0), .f (eI a1), .f ((eT (eP (fc eI (f1 eI)))) a2), .f (eD v1), .o ((eK eI eB) v6), .f ((eP (fc eI (f1 eI))) v4), .f (eI v5.1), .f (eI v5.2)]) rfl rfl (fun _ => rfl) (r_wv (e := eI) (x := v5.1) rfl) (r_lit (e := eB) rfl) (fun (v6 : (List (Int × Bool))) => (t_setK ky_I (e := eB) (kvs := v6) (ε1 := [.f ((eT (eP (fc eI (f1 eI)))) a0), .f (eI a1), .f ((eT (eP (fc eI (f1 eI)))) a2), .f (eD v1), .o ((eK eI eB) v6), .f ((eP (fc eI (f1 eI))) v4), .f (eI v5.1), .f (eI v5.2)]) (ε' := fun (v7 : (List (Int × Bool))) => [.f ((eT (eP (fc eI (f1 eI)))) a0), .f (eI a1), .f ((eT (eP (fc eI (f1 eI)))) a2), .f (eD v1), .o ((eK eI eB) v7), .f ((eP (fc eI (f1 eI))) v4), .f (eI v5.1), .f (eI v5.2)]) rfl rfl (fun _ => rfl) (r_wv (e := eI) (x := v5.2) rfl) (r_lit (e := eB) rfl) (fun (v7 : (List (Int × Bool))) => (y_end (pB_nx (.cons (.refl _) (.cons (.refl _) (.cons (.refl _) (.cons (.refl _) (.cons (.refl _) (.cons (.u _) (.cons (.u _) (.cons (.u _) .nil))))))))))))))))))) (fun (v3 : (List (Int × Bool))) => (t_ret (er := eB) (ε1 := [.f ((eT (eP (fc eI (f1 eI)))) a0), .f (eI a1), .f ((eT (eP (fc eI (f1 eI)))) a2), .f (eD v1), .f ((eK eI eB) v3), .u, .u, .u]) (w := (fun u => u)) rfl (fun u ε => pF_rt u ε) (r_lit (e := eB) rfl)))))))))))))

def m__law_cell (a0 : (List Int)) (a1 : Int) : Option Int :=
  (Option.bind (Option.bind (some a1) (fun u => Option.bind (Option.bind (some a0) (fun (u : (List Int)) => some (u.length : Int))) (fun v => some (cI .lt u v)))) (fun u => if u = true then (Option.map (fun u => u) (Option.bind (Option.bind (some a0) (fun u => Option.bind (some a1) (fun v => ixD u v))) (fun (u : Int) => some u))) else (Option.map (fun u => u) (some ((0 : Int) : Int)))))
theorem ok__law_cell (k : Nat) (a0 : (List Int)) (a1 : Int) : Rf eI (m__law_cell a0 a1) (call fs (k + 1) 31 [(eL eI) a0, eI a1]) :=
  f_in (ε := [.f ((eL eI) a0), .f (eI a1)]) at__law_cell rfl rfl
  (t_if (ε1 := [.f ((eL eI) a0), .f (eI a1)]) rfl (c_B (r_cmpI rfl (r_wv (e := eI) (x := a1) rfl) (r_bi1 (r_wv (e := (eL eI)) (x := a0) rfl) (fun _ => b_lenL _)))) (t_ret (er := eI) (ε1 := [.f ((eL eI) a0), .f (eI a1)]) (w := (fun u => u)) rfl (fun u ε => pF_rt u ε) (r_bi1 (r_ixL (r_wv (e := (eL eI)) (x := a0) rfl) (r_wv (e := eI) (x := a1) rfl)) (fun _ => b_intI _))) (t_ret (er := eI) (ε1 := [.f ((eL eI) a0), .f (eI a1)]) (w := (fun u => u)) rfl (fun u ε => pF_rt u ε) (r_lit (e := eI) rfl)))

def m__law_numbers (a0 : (List Int)) (a1 : Int) (a2 : Int) : Option (List Int) :=
  (Option.bind (Option.bind (Option.bind (some a0) (fun u => Option.bind (some a1) (fun v => some (u, v)))) (fun (x : (List Int) × Int) => m__law_cell x.1 x.2)) (fun (v1 : Int) => (Option.bind (some ([] : List Int)) (fun (v2 : (List Int)) => (Option.bind (some v1) (fun (v3 : Int) => (Option.bind (Option.bind (some a2) (fun u => rgM 0 u)) (fun xs => Option.bind (forN (fun (v5 : Int) (v4 : ((List Int) × Int)) => (Option.bind (Option.bind (some v1) (fun u => Option.bind (Option.bind (some ((10 : Int) : Int)) (fun u => Option.bind (some ((18 : Int) : Int)) (fun v => if 0 ≤ v ∧ v ≤ 1000000 ∧ u.natAbs < 2 ^ 64 then some (u ^ v.toNat) else none))) (fun v => some (cI .ge u v)))) (fun u => if u = true then (Option.bind (Option.bind (Option.bind (some v4.2) (fun (u : Int) => some u)) (fun u => Option.bind (Option.bind (some ((10 : Int) : Int)) (fun u => Option.bind (some ((9 : Int) : Int)) (fun v => if 0 ≤ v ∧ v ≤ 1000000 ∧ u.natAbs < 2 ^ 64 then some (u ^ v.toNat) else none))) (fun v => if 0 < v then some (u % v) else none))) (fun (v6 : Int) => if v4.1.length < LIM then (Option.bind (Option.bind (some v4.2) (fun u => Option.bind (Option.bind (some ((10 : Int) : Int)) (fun u => Option.bind (some ((9 : Int) : Int)) (fun v => if 0 ≤ v ∧ v ≤ 1000000 ∧ u.natAbs < 2 ^ 64 then some (u ^ v.toNat) else none))) (fun v => if 0 < v ∧ v < 1073741824 then some (u / v) else none))) (fun (v7 : Int) => (some ((v4.1 ++ [v6]), v7)))) else none)) else (Option.bind (Option.bind (Option.bind (Option.bind (Option.bind (Option.bind (some v1) (fun u => Option.bind (some ((48271 : Int) : Int)) (fun v => if mulOk u v = true then some (u * v) else none))) (fun u => Option.bind (Option.bind (Option.bind (some v5) (fun u => Option.bind (some ((1 : Int) : Int)) (fun v => some (u + v)))) (fun u => Option.bind (some ((69621 : Int) : Int)) (fun v => if mulOk u v = true then some (u * v) else none))) (fun v => some (u + v)))) (fun u => Option.bind (some a1) (fun v => some (u + v)))) (fun (u : Int) => some u)) (fun u => Option.bind (some ((2147483647 : Int) : Int)) (fun v => if 0 < v then some (u % v) else none))) (fun (v8 : Int) => (Option.bind (Option.bind (Option.bind (Option.bind (Option.bind (Option.bind (some v8) (fun u => Option.bind (some ((16807 : Int) : Int)) (fun v => if mulOk u v = true then some (u * v) else none))) (fun u => Option.bind (Option.bind (Option.bind (some v5) (fun u => Option.bind (some ((3 : Int) : Int)) (fun v => some (u + v)))) (fun u => Option.bind (some ((40692 : Int) : Int)) (fun v => if mulOk u v = true then some (u * v) else none))) (fun v => some (u + v)))) (fun (u : Int) => some u)) (fun u => Option.bind (some ((2147483399 : Int) : Int)) (fun v => if 0 < v then some (u % v) else none))) (fun u => Option.bind (Option.bind (some ((10 : Int) : Int)) (fun u => Option.bind (some ((9 : Int) : Int)) (fun v => if 0 ≤ v ∧ v ≤ 1000000 ∧ u.natAbs < 2 ^ 64 then some (u ^ v.toNat) else none))) (fun v => if 0 < v then some (u % v) else none))) (fun (v9 : Int) => if v4.1.length < LIM then (some ((v4.1 ++ [v9]), v4.2)) else none))))))) xs (v2, v3)) (fun (v4 : ((List Int) × Int)) => (Option.map (fun u => u) (some v4.1)))))))))))
theorem ok__law_numbers (k : Nat) (a0 : (List Int)) (a1 : Int) (a2 : Int) : Rf (eL eI) (m__law_numbers a0 a1 a2) (call fs (k + 2) 32 [(eL eI) a0, eI a1, eI a2]) :=
  f_in (ε := [.f ((eL eI) a0), .f (eI a1), .f (eI a2), .u, .u, .u, .u, .u]) at__law_numbers rfl rfl
  (t_asg (e := eI) (ε1 := [.f ((eL eI) a0), .f (eI a1), .f (eI a2), .u, .u, .u, .u, .u]) (ε' := fun (v1 : Int) => [.f ((eL eI) a0), .f (eI a1), .f (eI a2), .f (eI v1), .u, .u, .u, .u]) rfl (fun _ => rfl) (r_nm1 (ε1 := [.f ((eL eI) a0), .f (eI a1), .f (eI a2), .u, .u, .u, .u, .u]) rfl n_I (r_call (a_c (r_var (e := (eL eI)) (x := a0) rfl) (a_1 (r_var (e := eI) (x := a1) rfl))) (fun (x : (List Int) × Int) => ok__law_cell (k + 0) x.1 x.2))) (fun (v1 : Int) => (t_asg (e := (eL eI)) (ε1 := [.f ((eL eI) a0), .f (eI a1), .f (eI a2), .f (eI v1), .u, .u, .u, .u]) (ε' := fun (v2 : (List Int)) => [.f ((eL eI) a0), .f (eI a1), .f (eI a2), .f (eI v1), .o ((eL eI) v2), .u, .u, .u]) rfl (fun _ => rfl) (r_lstH (e := eI) h_n) (fun (v2 : (List Int)) => (t_asg (e := eI) (ε1 := [.f ((eL eI) a0), .f (eI a1), .f (eI a2), .f (eI v1), .o ((eL eI) v2), .u, .u, .u]) (ε' := fun (v3 : Int) => [.f ((eL eI) a0), .f (eI a1), .f (eI a2), .f (eI v1), .o ((eL eI) v2), .f (eI v3), .u, .u]) rfl (fun _ => rfl) (r_var (e := eI) (x := v1) rfl) (fun (v3 : Int) => (t_forN (e := eI) (ε1 := [.f ((eL eI) a0), .f (eI a1), .f (eI a2), .f (eI v1), .o ((eL eI) v2), .f (eI v3), .u, .u]) (mk := (fun (v4 : ((List Int) × Int)) => [.f ((eL eI) a0), .f (eI a1), .f (eI a2), .f (eI v1), .o ((eL eI) v4.1), .f (eI v4.2), .u, .u])) (s0 := (v2, v3)) (ε' := fun (v5 : Int) (v4 : ((List Int) × Int)) => [.f ((eL eI) a0), .f (eI a1), .f (eI a2), .f (eI v1), .o ((eL eI) v4.1), .f (eI v4.2), .f (eI v5), .u]) gF rfl (.cons (.refl _) (.cons (.refl _) (.cons (.refl _) (.cons (.refl _) (.cons (.refl _) (.cons (.refl _) (.cons (.u _) (.cons (.u _) .nil)))))))) (fun _ _ => rfl) (i_r1 (r_wv (e := eI) (x := a2) rfl)) (fun (v5 : Int) (v4 : ((List Int) × Int)) => (t_if (ε1 := [.f ((eL eI) a0), .f (eI a1), .f (eI a2), .f (eI v1), .f ((eL eI) v4.1), .f (eI v4.2), .f (eI v5), .u]) rfl (c_B (r_cmpI rfl (r_wv (e := eI) (x := v1) rfl) (r_pow (r_lit (e := eI) rfl) (r_lit (e := eI) rfl)))) (t_app (e := eI) (xs := v4.1) (ε1 := [.f ((eL eI) a0), .f (eI a1), .f (eI a2), .f (eI v1), .o ((eL eI) v4.1), .f (eI v4.2), .f (eI v5), .u]) (ε' := fun (v6 : Int) => [.f ((eL eI) a0), .f (eI a1), .f (eI a2), .f (eI v1), .o ((eL eI) (v4.1 ++ [v6])), .f (eI v4.2), .f (eI v5), .u]) rfl rfl (fun _ => rfl) (r_mod (r_bi1 (r_wv (e := eI) (x := v4.2) rfl) (fun _ => b_intI _)) (r_pow (r_lit (e := eI) rfl) (r_lit (e := eI) rfl))) (fun (v6 : Int) => (t_asg (e := eI) (ε1 := [.f ((eL eI) a0), .f (eI a1), .f (eI a2), .f (eI v1), .o ((eL eI) (v4.1 ++ [v6])), .f (eI v4.2), .f (eI v5), .u]) (ε' := fun (v7 : Int) => [.f ((eL eI) a0), .f (eI a1), .f (eI a2), .f (eI v1), .o ((eL eI) (v4.1 ++ [v6])), .f (eI v7), .f (eI v5), .u]) rfl (fun _ => rfl) (r_div (r_wv (e := eI) (x := v4.2) rfl) (r_pow (r_lit (e := eI) rfl) (r_lit (e := eI) rfl))) (fun (v7 : Int) => (y_end (pN_nx (.cons (.refl _) (.cons (.refl _) (.cons (.refl _) (.cons (.refl _) (.cons (.refl _) (.cons (.refl _) (.cons (.u _) (.cons (.u _) .nil)))))))))))))) (t_asg (e := eI) (ε1 := [.f ((eL eI) a0), .f (eI a1), .f (eI a2), .f (eI v1), .o ((eL eI) v4.1), .f (eI v4.2), .f (eI v5), .u]) (ε' := fun (v8 : Int) => [.f ((eL eI) a0), .f (eI a1), .f (eI a2), .f (eI v1), .o ((eL eI) v4.1), .f (eI v4.2), .f (eI v5), .f (eI v8)]) rfl (fun _ => rfl) (r_mod (r_bi1 (r_add (r_add (r_mul (r_wv (e := eI) (x := v1) rfl) (r_lit (e := eI) rfl)) (r_mul (r_add (r_wv (e := eI) (x := v5) rfl) (r_lit (e := eI) rfl)) (r_lit (e := eI) rfl))) (r_wv (e := eI) (x := a1) rfl)) (fun _ => b_intI _)) (r_lit (e := eI) rfl)) (fun (v8 : Int) => (t_app (e := eI) (xs := v4.1) (ε1 := [.f ((eL eI) a0), .f (eI a1), .f (eI a2), .f (eI v1), .o ((eL eI) v4.1), .f (eI v4.2), .f (eI v5), .f (eI v8)]) (ε' := fun (v9 : Int) => [.f ((eL eI) a0), .f (eI a1), .f (eI a2), .f (eI v1), .o ((eL eI) (v4.1 ++ [v9])), .f (eI v4.2), .f (eI v5), .f (eI v8)]) rfl rfl (fun _ => rfl) (r_mod (r_mod (r_bi1 (r_add (r_mul (r_wv (e := eI) (x := v8) rfl) (r_lit (e := eI) rfl)) (r_mul (r_add (r_wv (e := eI) (x := v5) rfl) (r_lit (e := eI) rfl)) (r_lit (e := eI) rfl))) (fun _ => b_intI _)) (r_lit (e := eI) rfl)) (r_pow (r_lit (e := eI) rfl) (r_lit (e := eI) rfl))) (fun (v9 : Int) => (y_end (pN_nx (.cons (.refl _) (.cons (.refl _) (.cons (.refl _) (.cons (.refl _) (.cons (.refl _) (.cons (.refl _) (.cons (.u _) (.cons (.u _) .nil)))))))))))))))) (fun (v4 : ((List Int) × Int)) => (t_ret (er := (eL eI)) (ε1 := [.f ((eL eI) a0), .f (eI a1), .f (eI a2), .f (eI v1), .f ((eL eI) v4.1), .f (eI v4.2), .u, .u]) (w := (fun u => u)) rfl (fun u ε => pF_rt u ε) (r_var (e := (eL eI)) (x := v4.1) rfl))))))))))

def m__law_gcd (a0 : Int) (a1 : Int) : Option Int :=
  (Option.bind (Option.bind (some ((400 : Int) : Int)) (fun u => rgM 0 u)) (fun xs => Option.bind (forT (ρ := Int) (fun (v2 : Int) (v1 : (Int × Int)) => (Option.bind (Option.bind (some v1.2) (fun u => Option.bind (some ((0 : Int) : Int)) (fun v => some (cI .eq u v)))) (fun u => if u = true then (Option.map Out.rt (some v1.1)) else (Option.bind (some v1.2) (fun (v3 : Int) => Option.bind (Option.bind (Option.bind (some v1.1) (fun (u : Int) => some u)) (fun u => Option.bind (some v1.2) (fun v => if 0 < v then some (u % v) else none))) (fun (v4 : Int) => (some (Out.nx (v3, v4))))))))) xs (a0, a1)) (sumK (fun (v1 : (Int × Int)) => (Option.map (fun u => u) (some v1.1))) (fun u => u))))
theorem ok__law_gcd (k : Nat) (a0 : Int) (a1 : Int) : Rf eI (m__law_gcd a0 a1) (call fs (k + 1) 33 [eI a0, eI a1]) :=
  f_in (ε := [.f (eI a0), .f (eI a1), .u]) at__law_gcd rfl rfl
  (t_for (e := eI) (er := eI) (ε1 := [.f (eI a0), .f (eI a1), .u]) (mk := (fun (v1 : (Int × Int)) => [.f (eI v1.1), .f (eI v1.2), .u])) (s0 := (a0, a1)) (ε' := fun (v2 : Int) (v1 : (Int × Int)) => [.f (eI v1.1), .f (eI v1.2), .f (eI v2)]) (w := (fun u => u)) gF rfl (fun u ε => pF_rt u ε) (.cons (.refl _) (.cons (.refl _) (.cons (.u _) .nil))) (fun _ _ => rfl) (i_r1 (r_lit (e := eI) rfl)) (fun (v2 : Int) (v1 : (Int × Int)) => (t_if (ε1 := [.f (eI v1.1), .f (eI v1.2), .f (eI v2)]) rfl (c_B (r_cmpI rfl (r_wv (e := eI) (x := v1.2) rfl) (r_lit (e := eI) rfl))) (t_ret (er := eI) (ε1 := [.f (eI v1.1), .f (eI v1.2), .f (eI v2)]) (w := Out.rt) rfl (fun u ε => pB_rt u ε) (r_var (e := eI) (x := v1.1) rfl)) (t_par (e := eI) (e' := eI) (ε1 := [.f (eI v1.1), .f (eI v1.2), .f (eI v2)]) (ε' := fun (v3 : Int) (v4 : Int) => [.f (eI v3), .f (eI v4), .f (eI v2)]) rfl (fun _ _ => rfl) (r_var (e := eI) (x := v1.2) rfl) (r_mod (r_bi1 (r_wv (e := eI) (x := v1.1) rfl) (fun _ => b_intI _)) (r_wv (e := eI) (x := v1.2) rfl)) (fun (v3 : Int) (v4 : Int) => (y_end (pB_nx (.cons (.refl _) (.cons (.refl _) (.cons (.u _) .nil))))))))) (fun (v1 : (Int × Int)) => (t_ret (er := eI) (ε1 := [.f (eI v1.1), .f (eI v1.2), .u]) (w := (fun u => u)) rfl (fun u ε => pF_rt u ε) (r_var (e := eI) (x := v1.1) rfl))))

def m__law_frac (a0 : Int) (a1 : Int) : Option (Int × Int) :=
  (Option.bind (Option.bind (some a0) (fun u => Option.bind (some ((0 : Int) : Int)) (fun v => some (cI .eq u v)))) (fun u => if u = true then (Option.map (fun u => u) (Option.bind (some ((0 : Int) : Int)) (fun u => Option.bind (some ((1 : Int) : Int)) (fun v => some (u, v))))) else (Option.bind (Option.bind (Option.bind (Option.bind (some a0) (fun (u : Int) => some (if u < 0 then -u else u))) (fun u => Option.bind (some a1) (fun v => some (u, v)))) (fun (x : Int × Int) => m__law_gcd x.1 x.2)) (fun (v1 : Int) => (Option.map (fun u => u) (Option.bind (Option.bind (Option.bind (some a0) (fun u => Option.bind (some v1) (fun v => if 0 < v ∧ v < 1073741824 then some (u / v) else none))) (fun (u : Int) => some u)) (fun u => Option.bind (Option.bind (Option.bind (some a1) (fun u => Option.bind (some v1) (fun v => if 0 < v ∧ v < 1073741824 then some (u / v) else none))) (fun (u : Int) => some u)) (fun v => some (u, v)))))))))
theorem ok__law_frac (k : Nat) (a0 : Int) (a1 : Int) : Rf (eP (fc eI (f1 eI))) (m__law_frac a0 a1) (call fs (k + 2) 34 [eI a0, eI a1]) :=
  f_in (ε := [.f (eI a0), .f (eI a1), .u]) at__law_frac rfl rfl
  (t_if (ε1 := [.f (eI a0), .f (eI a1), .u]) rfl (c_B (r_cmpI rfl (r_wv (e := eI) (x := a0) rfl) (r_lit (e := eI) rfl))) (t_ret (er := (eP (fc eI (f1 eI)))) (ε1 := [.f (eI a0), .f (eI a1), .u]) (w := (fun u => u)) rfl (fun u ε => pF_rt u ε) (r_tup (a_c (r_lit (e := eI) rfl) (a_1 (r_lit (e := eI) rfl))))) (t_asg (e := eI) (ε1 := [.f (eI a0), .f (eI a1), .u]) (ε' := fun (v1 : Int) => [.f (eI a0), .f (eI a1), .f (eI v1)]) rfl (fun _ => rfl) (r_nm1 (ε1 := [.f (eI a0), .f (eI a1), .u]) rfl n_I (r_call (a_c (r_bi1 (r_wv (e := eI) (x := a0) rfl) (fun _ => b_abs _)) (a_1 (r_var (e := eI) (x := a1) rfl))) (fun (x : Int × Int) => ok__law_gcd (k + 0) x.1 x.2))) (fun (v1 : Int) => (t_ret (er := (eP (fc eI (f1 eI)))) (ε1 := [.f (eI a0), .f (eI a1), .f (eI v1)]) (w := (fun u => u)) rfl (fun u ε => pF_rt u ε) (r_tup (a_c (r_bi1 (r_div (r_wv (e := eI) (x := a0) rfl) (r_wv (e := eI) (x := v1) rfl)) (fun _ => b_intI _)) (a_1 (r_bi1 (r_div (r_wv (e := eI) (x := a1) rfl) (r_wv (e := eI) (x := v1) rfl)) (fun _ => b_intI _)))))))))

def m__law_low (a0 : (Bool × List (Int × Int))) : Option (List Int) :=
  (Option.bind (some ([] : List Int)) (fun (v1 : (List Int)) => (Option.bind (Option.map (fun (u : (Bool × List (Int × Int))) => u.2) (some a0)) (fun xs => Option.bind (forN (fun (v3 : (Int × Int)) (v2 : (List Int)) => (Option.bind (Option.bind (Option.bind (Option.bind (some v3.1) (fun u => Option.bind (some ([] : List Int)) (fun v => some (u :: v)))) (fun u => Option.bind (Option.bind (some v2) (fun u => Option.bind (Option.map some (Option.map (fun (u : Int) => -u) (some ((1 : Int) : Int)))) (fun v => Option.bind (some (none : Option Int)) (fun w => some (cutD u v w))))) (fun v => catM u v))) (fun (u : (List Int)) => maxI u)) (fun (v4 : Int) => if v2.length < LIM then (some (v2 ++ [v4])) else none))) xs v1) (fun (v2 : (List Int)) => (Option.map (fun u => u) (some v2)))))))
theorem ok__law_low (k : Nat) (a0 : (Bool × List (Int × Int))) : Rf (eL eI) (m__law_low a0) (call fs (k + 1) 35 [(eQ (eP (fc eI (f1 eI)))) a0]) :=
  f_in (ε := [.f ((eQ (eP (fc eI (f1 eI)))) a0), .u, .u, .u]) at__law_low rfl rfl
  (t_asg (e := (eL eI)) (ε1 := [.f ((eQ (eP (fc eI (f1 eI)))) a0), .u, .u, .u]) (ε' := fun (v1 : (List Int)) => [.f ((eQ (eP (fc eI (f1 eI)))) a0), .o ((eL eI) v1), .u, .u]) rfl (fun _ => rfl) (r_lstH (e := eI) h_n) (fun (v1 : (List Int)) => (t_forN (e := (eP (fc eI (f1 eI)))) (ε1 := [.f ((eQ (eP (fc eI (f1 eI)))) a0), .o ((eL eI) v1), .u, .u]) (mk := (fun (v2 : (List Int)) => [.f ((eQ (eP (fc eI (f1 eI)))) a0), .o ((eL eI) v2), .u, .u])) (s0 := v1) (ε' := fun (v3 : (Int × Int)) (v2 : (List Int)) => [.f ((eQ (eP (fc eI (f1 eI)))) a0), .o ((eL eI) v2), .f (eI v3.1), .f (eI v3.2)]) gF rfl (.cons (.refl _) (.cons (.refl _) (.cons (.u _) (.cons (.u _) .nil)))) (fun _ _ => rfl) (i_Q (r_var (e := (eQ (eP (fc eI (f1 eI))))) (x := a0) rfl)) (fun (v3 : (Int × Int)) (v2 : (List Int)) => (t_app (e := eI) (xs := v2) (ε1 := [.f ((eQ (eP (fc eI (f1 eI)))) a0), .o ((eL eI) v2), .f (eI v3.1), .f (eI v3.2)]) (ε' := fun (v4 : Int) => [.f ((eQ (eP (fc eI (f1 eI)))) a0), .o ((eL eI) (v2 ++ [v4])), .f (eI v3.1), .f (eI v3.2)]) rfl rfl (fun _ => rfl) (r_bi1 (r_addL (r_lstH (e := eI) (h_c (e := eI) (r_var (e := eI) (x := v3.1) rfl) h_n)) (r_slL (r_wo (e := (eL eI)) (x := v2) rfl) (o_s (r_neg (r_lit (e := eI) rfl))) o_n)) (fun _ => b_maxL _)) (fun (v4 : Int) => (y_end (pN_nx (.cons (.refl _) (.cons (.refl _) (.cons (.u _) (.cons (.u _) .nil))))))))) (fun (v2 : (List Int)) => (t_ret (er := (eL eI)) (ε1 := [.f ((eQ (eP (fc eI (f1 eI)))) a0), .f ((eL eI) v2), .u, .u]) (w := (fun u => u)) rfl (fun u ε => pF_rt u ε) (r_var (e := (eL eI)) (x := v2) rfl))))))

def m__law_high (a0 : (List (Int × Int))) : Option (List Int) :=
  (Option.bind (some ([] : List Int)) (fun (v1 : (List Int)) => (Option.bind (Option.map List.reverse (some a0)) (fun xs => Option.bind (forN (fun (v3 : (Int × Int)) (v2 : (List Int)) => (Option.bind (Option.bind (Option.bind (Option.bind (some v3.2) (fun u => Option.bind (some ([] : List Int)) (fun v => some (u :: v)))) (fun u => Option.bind (Option.bind (some v2) (fun u => Option.bind (Option.map some (Option.map (fun (u : Int) => -u) (some ((1 : Int) : Int)))) (fun v => Option.bind (some (none : Option Int)) (fun w => some (cutD u v w))))) (fun v => catM u v))) (fun (u : (List Int)) => minI u)) (fun (v4 : Int) => if v2.length < LIM then (some (v2 ++ [v4])) else none))) xs v1) (fun (v2 : (List Int)) => (Option.map (fun u => u) (Option.map List.reverse (some v2))))))))
theorem ok__law_high (k : Nat) (a0 : (List (Int × Int))) : Rf (eL eI) (m__law_high a0) (call fs (k + 1) 36 [(eT (eP (fc eI (f1 eI)))) a0]) :=
  f_in (ε := [.f ((eT (eP (fc eI (f1 eI)))) a0), .u, .u, .u]) at__law_high rfl rfl
  (t_asg (e := (eL eI)) (ε1 := [.f ((eT (eP (fc eI (f1 eI)))) a0), .u, .u, .u]) (ε' := fun (v1 : (List Int)) => [.f ((eT (eP (fc eI (f1 eI)))) a0), .o ((eL eI) v1), .u, .u]) rfl (fun _ => rfl) (r_lstH (e := eI) h_n) (fun (v1 : (List Int)) => (t_forN (e := (eP (fc eI (f1 eI)))) (ε1 := [.f ((eT (eP (fc eI (f1 eI)))) a0), .o ((eL eI) v1), .u, .u]) (mk := (fun (v2 : (List Int)) => [.f ((eT (eP (fc eI (f1 eI)))) a0), .o ((eL eI) v2), .u, .u])) (s0 := v1) (ε' := fun (v3 : (Int × Int)) (v2 : (List Int)) => [.f ((eT (eP (fc eI (f1 eI)))) a0), .o ((eL eI) v2), .f (eI v3.1), .f (eI v3.2)]) gF rfl (.cons (.refl _) (.cons (.refl _) (.cons (.u _) (.cons (.u _) .nil)))) (fun _ _ => rfl) (i_T (r_rvT (r_wv (e := (eT (eP (fc eI (f1 eI))))) (x := a0) rfl))) (fun (v3 : (Int × Int)) (v2 : (List Int)) => (t_app (e := eI) (xs := v2) (ε1 := [.f ((eT (eP (fc eI (f1 eI)))) a0), .o ((eL eI) v2), .f (eI v3.1), .f (eI v3.2)]) (ε' := fun (v4 : Int) => [.f ((eT (eP (fc eI (f1 eI)))) a0), .o ((eL eI) (v2 ++ [v4])), .f (eI v3.1), .f (eI v3.2)]) rfl rfl (fun _ => rfl) (r_bi1 (r_addL (r_lstH (e := eI) (h_c (e := eI) (r_var (e := eI) (x := v3.2) rfl) h_n)) (r_slL (r_wo (e := (eL eI)) (x := v2) rfl) (o_s (r_neg (r_lit (e := eI) rfl))) o_n)) (fun _ => b_minL _)) (fun (v4 : Int) => (y_end (pN_nx (.cons (.refl _) (.cons (.refl _) (.cons (.u _) (.cons (.u _) .nil))))))))) (fun (v2 : (List Int)) => (t_ret (er := (eL eI)) (ε1 := [.f ((eT (eP (fc eI (f1 eI)))) a0), .f ((eL eI) v2), .u, .u]) (w := (fun u => u)) rfl (fun u ε => pF_rt u ε) (r_rvL (r_wv (e := (eL eI)) (x := v2) rfl)))))))

def m__law_suits (a0 : (List (Int × Int))) : Option Bool :=
  (Option.bind (Option.bind (Option.map (fun (u : (List (Int × Int))) => (false, u)) (some a0)) (fun (x : (Bool × List (Int × Int))) => m__law_low x)) (fun (v1 : (List Int)) => (Option.map (fun u => u) (Option.bind (Option.map (eL eI) (Option.bind (Option.bind (Option.bind (some a0) (fun (u : (List (Int × Int))) => some (u.length : Int))) (fun u => rgM 0 u)) (fun xs => mapF (fun (v2 : Int) => Option.bind (Option.bind (Option.bind (some v1) (fun u => Option.bind (some v2) (fun v => ixD u v))) (fun u => Option.bind (Option.map (fun (u : (Int × Int)) => u.2) (Option.bind (some a0) (fun u => Option.bind (some v2) (fun v => ixD u v)))) (fun v => some (cI .gt u v)))) (fun b => if b = true then Option.map some (some v2) else some none)) xs))) (fun u => Option.bind (Option.map (eL eI) (some ([] : List Int))) (fun v => cmpM .eq u v))))))
theorem ok__law_suits (k : Nat) (a0 : (List (Int × Int))) : Rf eB (m__law_suits a0) (call fs (k + 2) 37 [(eL (eP (fc eI (f1 eI)))) a0]) :=
  f_in (ε := [.f ((eL (eP (fc eI (f1 eI)))) a0), .u, .u]) at__law_suits rfl rfl
  (t_asg (e := (eL eI)) (ε1 := [.f ((eL (eP (fc eI (f1 eI)))) a0), .u, .u]) (ε' := fun (v1 : (List Int)) => [.f ((eL (eP (fc eI (f1 eI)))) a0), .f ((eL eI) v1), .u]) rfl (fun _ => rfl) (r_call (a_1 (r_conv (e' := (eQ (eP (fc eI (f1 eI))))) (fun _ => rfl) (r_var (e := (eL (eP (fc eI (f1 eI))))) (x := a0) rfl))) (fun (x : (Bool × List (Int × Int))) => ok__law_low (k + 0) x)) (fun (v1 : (List Int)) => (t_ret (er := eB) (ε1 := [.f ((eL (eP (fc eI (f1 eI)))) a0), .f ((eL eI) v1), .u]) (w := (fun u => u)) rfl (fun u ε => pF_rt u ε) (r_cmpD (r_enc (r_lc1 (e := eI) (ε' := fun (v2 : Int) => [.f ((eL (eP (fc eI (f1 eI)))) a0), .f ((eL eI) v1), .f (eI v2)]) (i_r1 (r_bi1 (r_wv (e := (eL (eP (fc eI (f1 eI))))) (x := a0) rfl) (fun _ => b_lenL _))) (fun _ => rfl) (fun (v2 : Int) => (c_B (r_cmpI rfl (r_ixL (r_wv (e := (eL eI)) (x := v1) rfl) (r_wv (e := eI) (x := v2) rfl)) (r_ixP (e' := eI) (p := fun (u : (Int × Int)) => u.2) (fun _ => rfl) (r_ixL (r_wv (e := (eL (eP (fc eI (f1 eI))))) (x := a0) rfl) (r_wv (e := eI) (x := v2) rfl)))))) (fun (v2 : Int) => (r_var (e := eI) (x := v2) rfl)))) (r_enc (r_lstH (e := eI) h_n))))))

def m__law_kept (a0 : (List (Int × Int))) (a1 : (List Int)) : Option (List (Int × Int)) :=
  (Option.map (fun u => u) (Option.bind (Option.bind (Option.bind (some a0) (fun (u : (List (Int × Int))) => some (u.length : Int))) (fun u => rgM 0 u)) (fun xs => mapF (fun (v1 : Int) => Option.bind (Option.bind (Option.map eI (some v1)) (fun u => Option.bind (Option.map (eT eI) (some a1)) (fun v => cmpM .nin u v))) (fun b => if b = true then Option.map some (Option.bind (some a0) (fun u => Option.bind (some v1) (fun v => ixD u v))) else some none)) xs)))
theorem ok__law_kept (k : Nat) (a0 : (List (Int × Int))) (a1 : (List Int)) : Rf (eL (eP (fc eI (f1 eI)))) (m__law_kept a0 a1) (call fs (k + 1) 38 [(eT (eP (fc eI (f1 eI)))) a0, (eT eI) a1]) :=
  f_in (ε := [.f ((eT (eP (fc eI (f1 eI)))) a0), .f ((eT eI) a1), .u]) at__law_kept rfl rfl
  (t_ret (er := (eL (eP (fc eI (f1 eI))))) (ε1 := [.f ((eT (eP (fc eI (f1 eI)))) a0), .f ((eT eI) a1), .u]) (w := (fun u => u)) rfl (fun u ε => pF_rt u ε) (r_lc1 (e := eI) (ε' := fun (v1 : Int) => [.f ((eT (eP (fc eI (f1 eI)))) a0), .f ((eT eI) a1), .f (eI v1)]) (i_r1 (r_bi1 (r_wv (e := (eT (eP (fc eI (f1 eI))))) (x := a0) rfl) (fun _ => b_lenT _))) (fun _ => rfl) (fun (v1 : Int) => (c_B (r_cmpD (r_enc (r_wv (e := eI) (x := v1) rfl)) (r_enc (r_wv (e := (eT eI)) (x := a1) rfl))))) (fun (v1 : Int) => (r_ixT (r_wv (e := (eT (eP (fc eI (f1 eI))))) (x := a0) rfl) (r_wv (e := eI) (x := v1) rfl)))))

def m_law (a0 : (List Int)) : Option Bool :=
  (Option.bind (some ([] : List (Int × Int))) (fun (v1 : (List (Int × Int))) => (Option.bind (Option.bind (Option.bind (some a0) (fun u => Option.bind (Option.bind (some ((0 : Int) : Int)) (fun u => Option.bind (Option.bind (some ((1 : Int) : Int)) (fun u => Option.bind (Option.bind (Option.bind (Option.bind (some a0) (fun u => Option.bind (some ((1 : Int) : Int)) (fun v => some (u, v)))) (fun (x : (List Int) × Int) => m__law_cell x.1 x.2)) (fun u => Option.bind (some ((6 : Int) : Int)) (fun v => if 0 < v then some (u % v) else none))) (fun v => some (u + v)))) (fun v => some (u, v)))) (fun v => some (u, v)))) (fun (x : (List Int) × Int × Int) => m__law_numbers x.1 x.2.1 x.2.2)) (fun xs => Option.bind (forN (fun (v3 : Int) (v2 : (List (Int × Int))) => (Option.bind (Option.bind (some v3) (fun (u : Int) => some u)) (fun (v4 : Int) => (Option.bind (Option.bind (some v4) (fun u => Option.bind (some ((30 : Int) : Int)) (fun v => if 0 < v then some (u % v) else none))) (fun (v5 : Int) => (Option.bind (Option.bind (some v5) (fun u => Option.bind (Option.bind (Option.bind (some v5) (fun u => Option.bind (Option.bind (Option.bind (Option.bind (some v4) (fun u => Option.bind (some ((30 : Int) : Int)) (fun v => if 0 < v ∧ v < 1073741824 then some (u / v) else none))) (fun (u : Int) => some u)) (fun u => Option.bind (some ((25 : Int) : Int)) (fun v => if 0 < v then some (u % v) else none))) (fun v => some (u + v)))) (fun u => Option.bind (Option.bind (Option.bind (Option.bind (some v4) (fun u => Option.bind (some ((7 : Int) : Int)) (fun v => if 0 < v then some (u % v) else none))) (fun u => Option.bind (some ((0 : Int) : Int)) (fun v => some (cI .eq u v)))) (fun u => if u = true then (some ((3 : Int) : Int)) else (some ((0 : Int) : Int)))) (fun v => some (u - v)))) (fun v => some (u, v)))) (fun (v6 : (Int × Int)) => if v2.length < LIM then (some (v2 ++ [v6])) else none))))))) xs v1) (fun (v2 : (List (Int × Int))) => (Option.bind (Option.bind (Option.bind (some v2) (fun xs => mapF (fun (v7 : (Int × Int)) => Option.map some (Option.bind (some v7.1) (fun u => Option.bind (Option.bind (some ((0 : Int) : Int)) (fun u => Option.bind (some v7.2) (fun v => some (if v > u then v else u)))) (fun v => some (u, v))))) xs)) (fun (u : (List (Int × Int))) => some u)) (fun (v8 : (List (Int × Int))) => (Option.bind (Option.bind (Option.map (eT (eP (fc eI (f1 eI)))) (some v8)) (fun (x : D) => m__law_listed x)) (fun (v9 : D) => (Option.bind (some ([] : List (Int × Int))) (fun (v10 : (List (Int × Int))) => (Option.bind (Option.bind (Option.bind (some v8) (fun (u : (List (Int × Int))) => some (u.length : Int))) (fun u => rgM 0 u)) (fun xs => Option.bind (forN (fun (v12 : Int) (v11 : (List (Int × Int))) => (Option.bind (Option.bind (some v11) (fun u => Option.bind (Option.bind (Option.bind (some v12) (fun u => Option.bind (Option.bind (some v8) (fun (u : (List (Int × Int))) => some (u.length : Int))) (fun v => rgM u v))) (fun xs => mapF (fun (v13 : Int) => Option.bind (Option.bind (Option.map (fun (u : (Int × Int)) => u.1) (Option.bind (some v8) (fun u => Option.bind (some v12) (fun v => ixD u v)))) (fun u => Option.bind (Option.map (fun (u : (Int × Int)) => u.2) (Option.bind (some v8) (fun u => Option.bind (some v13) (fun v => ixD u v)))) (fun v => some (cI .gt u v)))) (fun b => if b = true then Option.map some (Option.bind (some v12) (fun u => Option.bind (some v13) (fun v => some (u, v)))) else some none)) xs)) (fun v => catM u v))) (fun (v14 : (List (Int × Int))) => (some v14)))) xs v10) (fun (v11 : (List (Int × Int))) => (Option.bind (Option.bind (some ([] : List Int)) (fun u => Option.bind (some ([] : List (List Int))) (fun v => some (u :: v)))) (fun (v15 : (List (List Int))) => (Option.bind (Option.bind (Option.bind (some v8) (fun (u : (List (Int × Int))) => some (u.length : Int))) (fun u => rgM 0 u)) (fun xs => Option.bind (forN (fun (v17 : Int) (v16 : (List (List Int))) => (Option.bind (Option.bind (some v16) (fun u => Option.bind (Option.bind (some v16) (fun xs => mapF (fun (v18 : (List Int)) => Option.map some (Option.bind (some v18) (fun u => Option.bind (Option.bind (some v17) (fun u => Option.bind (some ([] : List Int)) (fun v => some (u :: v)))) (fun v => catM u v)))) xs)) (fun v => catM u v))) (fun (v19 : (List (List Int))) => (some v19)))) xs v15) (fun (v16 : (List (List Int))) => (Option.bind (Option.map (fun (u : (Int × (List Int))) => u.2) (Option.bind (Option.bind (Option.bind (some v16) (fun xs => mapF (fun (v20 : (List Int)) => Option.bind (Option.bind (Option.bind (Option.map (eL (eP (fc eI (f1 eI)))) (Option.bind (Option.bind (some v8) (fun u => Option.bind (some v20) (fun v => some (u, v)))) (fun (x : (List (Int × Int)) × (List Int)) => m__law_kept x.1 x.2))) (fun u => Option.bind (Option.map (eL (eP (fc eI (f1 eI)))) (some ([] : List (Int × Int)))) (fun v => cmpM .eq u v))) (fun u => if u = true then some true else (Option.bind (Option.bind (Option.bind (some v8) (fun u => Option.bind (some v20) (fun v => some (u, v)))) (fun (x : (List (Int × Int)) × (List Int)) => m__law_kept x.1 x.2)) (fun (x : (List (Int × Int))) => m__law_suits x)))) (fun b => if b = true then Option.map some (Option.bind (Option.bind (some v20) (fun (u : (List Int)) => some (u.length : Int))) (fun u => Option.bind (some v20) (fun v => some (u, v)))) else some none)) xs)) (fun (u : (List (Int × (List Int)))) => sortM (eP (fc eI (f1 (eT eI)))) u)) (fun u => Option.bind (some ((0 : Int) : Int)) (fun v => ixD u v)))) (fun (v21 : (List Int)) => (Option.bind (Option.bind (Option.map (fun u => !u) (Option.bind (Option.bind (Option.map (eT eI) (Option.bind (Option.bind (some v9) (dL (dL dI))) (fun (x : (List (List Int))) => m_least_off x))) (fun u => Option.bind (Option.map (eT eI) (some v21)) (fun v => some (u, v)))) (fun (x : D × D) => m__law_same x.1 x.2))) (fun u => if u = true then some true else (Option.bind (Option.map (fun (u : Bool) => !(u == true)) (Option.bind (Option.bind (some v8) (fun u => Option.bind (Option.bind (some ((0 : Int) : Int)) (fun u => Option.bind (some ([] : List (Int × Int))) (fun v => some (u, v)))) (fun v => some (u, v)))) (fun (x : (List (Int × Int)) × Int × (List (Int × Int))) => m_no_fewer_holds x.1 x.2.1 x.2.2))) (fun u => if u = true then some true else (Option.map (fun (u : Bool) => !(u == false)) (Option.bind (Option.bind (some v8) (fun u => Option.bind (Option.bind (Option.bind (Option.bind (some v21) (fun (u : (List Int)) => some (u.length : Int))) (fun u => Option.bind (some ((1 : Int) : Int)) (fun v => some (u + v)))) (fun u => Option.bind (Option.bind (Option.bind (some v11) (fun u => Option.bind (some (none : Option Int)) (fun v => Option.bind (Option.map some (Option.bind (Option.bind (some v21) (fun (u : (List Int)) => some (u.length : Int))) (fun u => Option.bind (some ((1 : Int) : Int)) (fun v => some (u + v))))) (fun w => some (cutD u v w))))) (fun (u : (List (Int × Int))) => some u)) (fun v => some (u, v)))) (fun v => some (u, v)))) (fun (x : (List (Int × Int)) × Int × (List (Int × Int))) => m_no_fewer_holds x.1 x.2.1 x.2.2))))))) (fun u => if u = true then (Option.map (fun u => u) (some (false : Bool))) else (Option.bind (Option.bind (Option.bind (some v8) (fun (u : (List (Int × Int))) => some (u.length : Int))) (fun u => rgM 0 u)) (fun xs => Option.bind (forT (ρ := Bool) (fun (v23 : Int) (v22 : Unit) => (Option.bind (Option.bind (some v23) (fun u => Option.bind (Option.bind (some v8) (fun (u : (List (Int × Int))) => some (u.length : Int))) (fun v => rgM u v))) (fun xs => Option.bind (forT (ρ := Bool) (fun (v25 : Int) (v24 : Unit) => (Option.bind (Option.bind (Option.map (fun u => !u) (Option.bind (Option.bind (Option.map eB (Option.bind (Option.bind (some v8) (fun u => Option.bind (Option.bind (Option.map (eP (fc eI (f1 eI))) (Option.bind (some v23) (fun u => Option.bind (some v25) (fun v => some (u, v))))) (dQ dI)) (fun v => some (u, v)))) (fun (x : (List (Int × Int)) × (Bool × List Int)) => m_denies x.1 x.2))) (fun u => Option.bind (Option.map eB (Option.bind (Option.map (eP (fc eI (f1 eI))) (Option.bind (some v23) (fun u => Option.bind (some v25) (fun v => some (u, v))))) (fun u => Option.bind (Option.map (eL (eP (fc eI (f1 eI)))) (some v11)) (fun v => cmpM .in_ u v)))) (fun v => some (u, v)))) (fun (x : D × D) => m__law_same x.1 x.2))) (fun u => if u = true then some true else (Option.map (fun u => !u) (Option.bind (Option.bind (Option.map eB (Option.bind (Option.bind (some v8) (fun u => Option.bind (Option.bind (some ((1 : Int) : Int)) (fun u => Option.bind (Option.bind (Option.bind (some v23) (fun u => Option.bind (some v25) (fun v => some (u, v)))) (fun u => Option.bind (some ([] : List (Int × Int))) (fun v => some (u :: v)))) (fun v => some (u, v)))) (fun v => some (u, v)))) (fun (x : (List (Int × Int)) × Int × (List (Int × Int))) => m_no_fewer_holds x.1 x.2.1 x.2.2))) (fun u => Option.bind (Option.map eB (Option.bind (Option.map (eP (fc eI (f1 eI))) (Option.bind (some v23) (fun u => Option.bind (some v25) (fun v => some (u, v))))) (fun u => Option.bind (Option.map (eL (eP (fc eI (f1 eI)))) (some v11)) (fun v => cmpM .in_ u v)))) (fun v => some (u, v)))) (fun (x : D × D) => m__law_same x.1 x.2))))) (fun u => if u = true then (Option.map Out.rt (some (false : Bool))) else (some (Out.nx ()))))) xs ()) (sumK (fun (v24 : Unit) => (some (Out.nx ()))) Out.rt)))) xs ()) (sumK (fun (v22 : Unit) => (Option.bind (Option.bind (Option.map (eL (eP (fc eI (f1 eI)))) (some v11)) (fun u => Option.bind (Option.map (eL (eP (fc eI (f1 eI)))) (some ([] : List (Int × Int)))) (fun v => cmpM .ne u v))) (fun u => if u = true then (Option.bind (Option.bind (Option.map (fun u => !u) (Option.bind (Option.bind (Option.map (eO (eP (fc eI (f1 eI)))) (Option.bind (Option.bind (Option.map (eT (eP (fc eI (f1 eI)))) (some v8)) (dQ (dQ dI))) (fun (x : (Bool × List (Bool × List Int))) => m_denial x))) (fun u => Option.bind (Option.map (eP (fc eI (f1 eI))) (Option.bind (some v11) (fun u => Option.bind (some ((0 : Int) : Int)) (fun v => ixD u v)))) (fun v => some (u, v)))) (fun (x : D × D) => m__law_same x.1 x.2))) (fun u => if u = true then some true else (Option.bind (Option.map (fun (u : Bool) => !(u == true)) (Option.bind (Option.bind (some v8) (fun u => Option.bind (Option.map (fun (u : (List Int)) => (false, u)) (Option.bind (Option.map (fun (u : (Int × Int)) => [u.1, u.2]) (Option.bind (some v11) (fun u => Option.bind (Option.map (fun (u : Int) => -u) (some ((1 : Int) : Int))) (fun v => ixD u v)))) (fun (u : (List Int)) => some u))) (fun v => some (u, v)))) (fun (x : (List (Int × Int)) × (Bool × List Int)) => m_denies x.1 x.2))) (fun u => if u = true then some true else (Option.map (fun (u : Bool) => !(u == false)) (Option.bind (Option.bind (some v8) (fun u => Option.bind (Option.bind (Option.map (eP (fc eI (f1 eI))) (Option.bind (Option.map (fun (u : (Int × Int)) => u.1) (Option.bind (some v11) (fun u => Option.bind (some ((0 : Int) : Int)) (fun v => ixD u v)))) (fun u => Option.bind (Option.bind (some v8) (fun (u : (List (Int × Int))) => some (u.length : Int))) (fun v => some (u, v))))) (dQ dI)) (fun v => some (u, v)))) (fun (x : (List (Int × Int)) × (Bool × List Int)) => m_denies x.1 x.2))))))) (fun u => if u = true then (Option.map (fun u => u) (some (false : Bool))) else (Option.bind (Option.bind (Option.map (fun (u : Bool) => !(u == true)) (Option.bind (Option.bind (some v8) (fun u => Option.bind (Option.bind (some ((1 : Int) : Int)) (fun u => Option.bind (Option.bind (Option.bind (some v11) (fun u => Option.bind (Option.map (fun (u : Int) => -u) (some ((1 : Int) : Int))) (fun v => ixD u v))) (fun u => Option.bind (some ([] : List (Int × Int))) (fun v => some (u :: v)))) (fun v => some (u, v)))) (fun v => some (u, v)))) (fun (x : (List (Int × Int)) × Int × (List (Int × Int))) => m_no_fewer_holds x.1 x.2.1 x.2.2))) (fun u => if u = true then some true else (Option.bind (Option.map (fun (u : (Option (List Int))) => u.isSome) (Option.bind (Option.bind (Option.map (eT (eP (fc eI (f1 eI)))) (some v8)) (dQ (dQ dI))) (fun (x : (Bool × List (Bool × List Int))) => m_earliest x))) (fun u => if u = true then some true else (Option.bind (Option.map (fun (u : (Option (Int × Int))) => u.isSome) (Option.bind (Option.bind (some v8) (fun u => Option.bind (Option.bind (some ((0 : Int) : Int)) (fun u => Option.bind (Option.bind (Option.bind (some v8) (fun (u : (List (Int × Int))) => some (u.length : Int))) (fun u => Option.bind (some ((1 : Int) : Int)) (fun v => some (u - v)))) (fun v => some (u, v)))) (fun v => some (u, v)))) (fun (x : (List (Int × Int)) × Int × Int) => m_span x.1 x.2.1 x.2.2))) (fun u => if u = true then some true else (Option.map (fun (u : (Option (List Int))) => u.isSome) (Option.bind (some v8) (fun (x : (List (Int × Int))) => m_breaks x))))))))) (fun u => if u = true then (Option.map (fun u => u) (some (false : Bool))) else (Option.map (fun u => u) (Option.bind (Option.map (fun (u : (Option (List Int))) => u.isNone) (Option.bind (some v8) (fun (x : (List (Int × Int))) => m_latest x))) (fun u => if u = true then (Option.map (fun (u : (Option (List (Int × Int)))) => u.isNone) (Option.bind (some v8) (fun (x : (List (Int × Int))) => m_narrowed x))) else some false))))))) else (Option.bind (Option.bind (Option.map (fun (u : (List (Int × Int))) => (true, u)) (some v8)) (fun (x : (Bool × List (Int × Int))) => m__law_low x)) (fun (v26 : (List Int)) => (Option.bind (Option.bind (some v8) (fun (x : (List (Int × Int))) => m__law_high x)) (fun (v27 : (List Int)) => (Option.bind (Option.bind (Option.map (fun (u : (Option (Int × Int))) => u.isSome) (Option.bind (Option.bind (some v9) (dQ (dQ dI))) (fun (x : (Bool × List (Bool × List Int))) => m_denial x))) (fun u => if u = true then some true else (Option.bind (Option.map (fun (u : Bool) => !(u == false)) (Option.bind (Option.bind (some v8) (fun u => Option.bind (Option.bind (Option.map (eP (fc eI (f1 eI))) (Option.bind (some ((0 : Int) : Int)) (fun u => Option.bind (some ((0 : Int) : Int)) (fun v => some (u, v))))) (dQ dI)) (fun v => some (u, v)))) (fun (x : (List (Int × Int)) × (Bool × List Int)) => m_denies x.1 x.2))) (fun u => if u = true then some true else (Option.bind (Option.map (fun u => !u) (Option.bind (Option.bind (Option.map (eO (eT eI)) (Option.bind (Option.bind (some v9) (dQ (dQ dI))) (fun (x : (Bool × List (Bool × List Int))) => m_earliest x))) (fun u => Option.bind (Option.map (eT eI) (Option.bind (some v26) (fun (u : (List Int)) => some u))) (fun v => some (u, v)))) (fun (x : D × D) => m__law_same x.1 x.2))) (fun u => if u = true then some true else (Option.map (fun u => !u) (Option.bind (Option.bind (Option.map (eO (eT eI)) (Option.bind (some v8) (fun (x : (List (Int × Int))) => m_latest x))) (fun u => Option.bind (Option.map (eT eI) (Option.bind (some v27) (fun (u : (List Int)) => some u))) (fun v => some (u, v)))) (fun (x : D × D) => m__law_same x.1 x.2))))))))) (fun u => if u = true then (Option.map (fun u => u) (some (false : Bool))) else (Option.bind (Option.map (fun u => !u) (Option.bind (Option.bind (Option.map (eO (eT (eP (fc eI (f1 eI))))) (Option.bind (some v8) (fun (x : (List (Int × Int))) => m_narrowed x))) (fun u => Option.bind (Option.map (eT (eP (fc eI (f1 eI)))) (Option.bind (Option.bind (Option.bind (Option.bind (some v8) (fun (u : (List (Int × Int))) => some (u.length : Int))) (fun u => rgM 0 u)) (fun xs => mapF (fun (v28 : Int) => Option.map some (Option.bind (Option.bind (some v26) (fun u => Option.bind (some v28) (fun v => ixD u v))) (fun u => Option.bind (Option.bind (some v27) (fun u => Option.bind (some v28) (fun v => ixD u v))) (fun v => some (u, v))))) xs)) (fun (u : (List (Int × Int))) => some u))) (fun v => some (u, v)))) (fun (x : D × D) => m__law_same x.1 x.2))) (fun u => if u = true then (Option.map (fun u => u) (some (false : Bool))) else (Option.bind (Option.map (fun u => !u) (Option.bind (Option.bind (Option.map (eO (eT eI)) (Option.bind (some v8) (fun (x : (List (Int × Int))) => m_breaks x))) (fun u => Option.bind (Option.map (eT eI) (Option.bind (Option.bind (Option.bind (Option.bind (Option.bind (some v8) (fun (u : (List (Int × Int))) => some (u.length : Int))) (fun u => Option.bind (some ((1 : Int) : Int)) (fun v => some (u - v)))) (fun u => rgM 0 u)) (fun xs => mapF (fun (v29 : Int) => Option.map some (Option.bind (some ((0 : Int) : Int)) (fun u => Option.bind (Option.bind (Option.bind (some v26) (fun u => Option.bind (Option.bind (some v29) (fun u => Option.bind (some ((1 : Int) : Int)) (fun v => some (u + v)))) (fun v => ixD u v))) (fun u => Option.bind (Option.bind (some v27) (fun u => Option.bind (some v29) (fun v => ixD u v))) (fun v => some (u - v)))) (fun v => some (if v > u then v else u))))) xs)) (fun (u : (List Int)) => some u))) (fun v => some (u, v)))) (fun (x : D × D) => m__law_same x.1 x.2))) (fun u => if u = true then (Option.map (fun u => u) (some (false : Bool))) else (Option.bind (Option.bind (Option.bind (some v8) (fun (u : (List (Int × Int))) => some (u.length : Int))) (fun u => rgM 0 u)) (fun xs => Option.bind (forT (ρ := Bool) (fun (v31 : Int) (v30 : Unit) => (Option.bind (Option.bind (some v31) (fun u => Option.bind (Option.bind (some v8) (fun (u : (List (Int × Int))) => some (u.length : Int))) (fun v => rgM u v))) (fun xs => Option.bind (forT (ρ := Bool) (fun (v33 : Int) (v32 : Unit) => (Option.bind (Option.bind (Option.bind (some v31) (fun u => Option.bind (some v33) (fun v => some (cI .eq u v)))) (fun u => if u = true then (Option.bind (some ((0 : Int) : Int)) (fun u => Option.bind (some ((0 : Int) : Int)) (fun v => some (u, v)))) else (Option.bind (Option.bind (some ((0 : Int) : Int)) (fun u => Option.bind (Option.bind (Option.bind (some v26) (fun u => Option.bind (some v33) (fun v => ixD u v))) (fun u => Option.bind (Option.bind (some v27) (fun u => Option.bind (some v31) (fun v => ixD u v))) (fun v => some (u - v)))) (fun v => some (if v > u then v else u)))) (fun u => Option.bind (Option.bind (Option.bind (some v27) (fun u => Option.bind (some v33) (fun v => ixD u v))) (fun u => Option.bind (Option.bind (some v26) (fun u => Option.bind (some v31) (fun v => ixD u v))) (fun v => some (u - v)))) (fun v => some (u, v)))))) (fun (v34 : (Int × Int)) => (Option.bind (Option.map (fun u => !u) (Option.bind (Option.bind (Option.map (eO (eP (fc eI (f1 eI)))) (Option.bind (Option.bind (some v8) (fun u => Option.bind (Option.bind (some v31) (fun u => Option.bind (some v33) (fun v => some (u, v)))) (fun v => some (u, v)))) (fun (x : (List (Int × Int)) × Int × Int) => m_span x.1 x.2.1 x.2.2))) (fun u => Option.bind (Option.map (eP (fc eI (f1 eI))) (some v34)) (fun v => some (u, v)))) (fun (x : D × D) => m__law_same x.1 x.2))) (fun u => if u = true then (Option.map Out.rt (some (false : Bool))) else (some (Out.nx ()))))))) xs ()) (sumK (fun (v32 : Unit) => (some (Out.nx ()))) Out.rt)))) xs ()) (sumK (fun (v30 : Unit) => (Option.bind (Option.bind (Option.bind (Option.bind (some a0) (fun u => Option.bind (some ((2 : Int) : Int)) (fun v => some (u, v)))) (fun (x : (List Int) × Int) => m__law_cell x.1 x.2)) (fun u => Option.bind (some ((60 : Int) : Int)) (fun v => if 0 < v then some (u % v) else none))) (fun (v35 : Int) => (Option.bind (Option.map (fun u => !u) (Option.bind (Option.bind (Option.map (eT eI) (Option.bind (Option.bind (some v8) (fun u => Option.bind (some v35) (fun v => some (u, v)))) (fun (x : (List (Int × Int)) × Int) => m_at_year x.1 x.2))) (fun u => Option.bind (Option.map (eT eI) (Option.bind (Option.bind (Option.bind (Option.bind (some v8) (fun (u : (List (Int × Int))) => some (u.length : Int))) (fun u => rgM 0 u)) (fun xs => mapF (fun (v36 : Int) => Option.bind (Option.bind (Option.bind (some v26) (fun u => Option.bind (some v36) (fun v => ixD u v))) (fun u => Option.bind (some v35) (fun v => if cI .le u v = true then Option.bind (Option.bind (some v27) (fun u => Option.bind (some v36) (fun v => ixD u v))) (fun w => some (cI .le v w)) else some false))) (fun b => if b = true then Option.map some (some v36) else some none)) xs)) (fun (u : (List Int)) => some u))) (fun v => some (u, v)))) (fun (x : D × D) => m__law_same x.1 x.2))) (fun u => if u = true then (Option.map (fun u => u) (some (false : Bool))) else (Option.bind (some ((0 : Int) : Int)) (fun (v37 : Int) => (Option.bind (some ([] : List Int)) (fun (v38 : (List Int)) => (Option.bind (Option.bind (Option.bind (some v8) (fun (u : (List (Int × Int))) => some (u.length : Int))) (fun u => rgM 0 u)) (fun xs => Option.bind (forN (fun (v40 : Int) (v39 : (Int × (List Int))) => (Option.bind (Option.bind (some ((1 : Int) : Int)) (fun u => Option.bind (Option.bind (Option.bind (Option.bind (Option.bind (Option.bind (some a0) (fun u => Option.bind (some ((3 : Int) : Int)) (fun v => some (u, v)))) (fun (x : (List Int) × Int) => m__law_cell x.1 x.2)) (fun u => Option.bind (Option.bind (some ((1 : Int) : Int)) (fun u => Option.bind (some v40) (fun v => some (u + v)))) (fun v => if 0 < v ∧ v < 1073741824 then some (u / v) else none))) (fun (u : Int) => some u)) (fun u => Option.bind (some ((9 : Int) : Int)) (fun v => if 0 < v then some (u % v) else none))) (fun v => some (u + v)))) (fun (v41 : Int) => if v39.2.length < LIM then (Option.bind (Option.bind (some v39.1) (fun u => Option.bind (Option.bind (some (v39.2 ++ [v41])) (fun u => Option.bind (Option.map (fun (u : Int) => -u) (some ((1 : Int) : Int))) (fun v => ixD u v))) (fun v => some (u + v)))) (fun (v42 : Int) => (some (v42, (v39.2 ++ [v41]))))) else none))) xs (v37, v38)) (fun (v39 : (Int × (List Int))) => (Option.bind (Option.bind (Option.bind (Option.bind (some v8) (fun (u : (List (Int × Int))) => some (u.length : Int))) (fun u => Option.bind (some ((1 : Int) : Int)) (fun v => some (cI .gt u v)))) (fun u => if u = true then (Option.bind (Option.bind (some ((0 : Int) : Int)) (fun u => Option.bind (Option.bind (Option.bind (some v26) (fun u => Option.bind (Option.map (fun (u : Int) => -u) (some ((1 : Int) : Int))) (fun v => ixD u v))) (fun u => Option.bind (Option.bind (some v27) (fun u => Option.bind (some ((0 : Int) : Int)) (fun v => ixD u v))) (fun v => some (u - v)))) (fun v => some (if v > u then v else u)))) (fun u => Option.bind (Option.bind (Option.bind (some v27) (fun u => Option.bind (Option.map (fun (u : Int) => -u) (some ((1 : Int) : Int))) (fun v => ixD u v))) (fun u => Option.bind (Option.bind (some v26) (fun u => Option.bind (some ((0 : Int) : Int)) (fun v => ixD u v))) (fun v => some (u - v)))) (fun v => some (u, v)))) else (Option.bind (some ((0 : Int) : Int)) (fun u => Option.bind (some ((0 : Int) : Int)) (fun v => some (u, v)))))) (fun (v43 : (Int × Int)) => (Option.map (fun u => u) (Option.bind (Option.bind (Option.map (eO (eP (fc (eO (eP (fc eI (f1 eI)))) (f1 (eO (eP (fc eI (f1 eI)))))))) (Option.bind (Option.bind (some v8) (fun u => Option.bind (some v39.2) (fun v => some (u, v)))) (fun (x : (List (Int × Int)) × (List Int)) => m_rate x.1 x.2))) (fun u => Option.bind (Option.map (eP (fc (eO (eP (fc eI (f1 eI)))) (f1 (eO (eP (fc eI (f1 eI))))))) (Option.bind (Option.bind (Option.bind (some v43.2) (fun u => Option.bind (some ((0 : Int) : Int)) (fun v => some (cI .gt u v)))) (fun u => if u = true then (Option.map some (Option.bind (Option.bind (some v39.1) (fun u => Option.bind (some v43.2) (fun v => some (u, v)))) (fun (x : Int × Int) => m__law_frac x.1 x.2))) else (Option.map (fun (_ : Unit) => (none : (Option (Int × Int)))) (some (() : Unit))))) (fun u => Option.bind (Option.bind (Option.bind (some v43.1) (fun u => Option.bind (some ((0 : Int) : Int)) (fun v => some (cI .gt u v)))) (fun u => if u = true then (Option.map some (Option.bind (Option.bind (some v39.1) (fun u => Option.bind (some v43.1) (fun v => some (u, v)))) (fun (x : Int × Int) => m__law_frac x.1 x.2))) else (Option.map (fun (_ : Unit) => (none : (Option (Int × Int)))) (some (() : Unit))))) (fun v => some (u, v))))) (fun v => some (u, v)))) (fun (x : D × D) => m__law_same x.1 x.2))))))))))))))))) (fun u => u))))))))))))))))) (fun u => u)))))))))))))))))))))))))))
theorem ok_law (k : Nat) (a0 : (List Int)) : Rf eB (m_law a0) (call fs (k + 49) 39 [(eL eI) a0]) :=
  f_in (ε := [.f ((eL eI) a0), .u, .u, .u, .u, .u, .u, .u, .u, .u, .u, .u, .u, .u, .u, .u, .u, .u, .u, .u, .u]) at_law rfl rfl
  (t_asg (e := (eL (eP (fc eI (f1 eI))))) (ε1 := [.f ((eL eI) a0), .u, .u, .u, .u, .u, .u, .u, .u, .u, .u, .u, .u, .u, .u, .u, .u, .u, .u, .u, .u]) (ε' := fun (v1 : (List (Int × Int))) => [.f ((eL eI) a0), .o ((eL (eP (fc eI (f1 eI)))) v1), .u, .u, .u, .u, .u, .u, .u, .u, .u, .u, .u, .u, .u, .u, .u, .u, .u, .u, .u]) rfl (fun _ => rfl) (r_lstH (e := (eP (fc eI (f1 eI)))) h_n) (fun (v1 : (List (Int × Int))) => (t_forN (e := eI) (ε1 := [.f ((eL eI) a0), .o ((eL (eP (fc eI (f1 eI)))) v1), .u, .u, .u, .u, .u, .u, .u, .u, .u, .u, .u, .u, .u, .u, .u, .u, .u, .u, .u]) (mk := (fun (v2 : (List (Int × Int))) => [.f ((eL eI) a0), .o ((eL (eP (fc eI (f1 eI)))) v2), .u, .u, .u, .u, .u, .u, .u, .u, .u, .u, .u, .u, .u, .u, .u, .u, .u, .u, .u])) (s0 := v1) (ε' := fun (v3 : Int) (v2 : (List (Int × Int))) => [.f ((eL eI) a0), .o ((eL (eP (fc eI (f1 eI)))) v2), .f (eI v3), .u, .u, .u, .u, .u, .u, .u, .u, .u, .u, .u, .u, .u, .u, .u, .u, .u, .u]) gF rfl (.cons (.refl _) (.cons (.refl _) (.cons (.u _) (.cons (.u _) (.cons (.u _) (.cons (.u _) (.cons (.u _) (.cons (.u _) (.cons (.u _) (.cons (.u _) (.cons (.u _) (.cons (.u _) (.cons (.u _) (.cons (.u _) (.cons (.u _) (.cons (.u _) (.cons (.u _) (.cons (.u _) (.cons (.u _) (.cons (.u _) (.cons (.u _) .nil))))))))))))))))))))) (fun _ _ => rfl) (i_L (r_call (a_c (r_var (e := (eL eI)) (x := a0) rfl) (a_c (r_lit (e := eI) rfl) (a_1 (r_add (r_lit (e := eI) rfl) (r_mod (r_nm1 (ε1 := [.f ((eL eI) a0), .f ((eL (eP (fc eI (f1 eI)))) v1), .u, .u, .u, .u, .u, .u, .u, .u, .u, .u, .u, .u, .u, .u, .u, .u, .u, .u, .u]) rfl n_I (r_call (a_c (r_var (e := (eL eI)) (x := a0) rfl) (a_1 (r_lit (e := eI) rfl))) (fun (x : (List Int) × Int) => ok__law_cell (k + 47) x.1 x.2))) (r_lit (e := eI) rfl)))))) (fun (x : (List Int) × Int × Int) => ok__law_numbers (k + 46) x.1 x.2.1 x.2.2))) (fun (v3 : Int) (v2 : (List (Int × Int))) => (t_asg (e := eI) (ε1 := [.f ((eL eI) a0), .o ((eL (eP (fc eI (f1 eI)))) v2), .f (eI v3), .u, .u, .u, .u, .u, .u, .u, .u, .u, .u, .u, .u, .u, .u, .u, .u, .u, .u]) (ε' := fun (v4 : Int) => [.f ((eL eI) a0), .o ((eL (eP (fc eI (f1 eI)))) v2), .f (eI v3), .u, .u, .u, .u, .u, .u, .u, .u, .u, .u, .u, .f (eI v4), .u, .u, .u, .u, .u, .u]) rfl (fun _ => rfl) (r_bi1 (r_wv (e := eI) (x := v3) rfl) (fun _ => b_intI _)) (fun (v4 : Int) => (t_asg (e := eI) (ε1 := [.f ((eL eI) a0), .o ((eL (eP (fc eI (f1 eI)))) v2), .f (eI v3), .u, .u, .u, .u, .u, .u, .u, .u, .u, .u, .u, .f (eI v4), .u, .u, .u, .u, .u, .u]) (ε' := fun (v5 : Int) => [.f ((eL eI) a0), .o ((eL (eP (fc eI (f1 eI)))) v2), .f (eI v3), .u, .u, .u, .u, .u, .u, .u, .u, .u, .u, .u, .f (eI v4), .f (eI v5), .u, .u, .u, .u, .u]) rfl (fun _ => rfl) (r_mod (r_wv (e := eI) (x := v4) rfl) (r_lit (e := eI) rfl)) (fun (v5 : Int) => (t_app (e := (eP (fc eI (f1 eI)))) (xs := v2) (ε1 := [.f ((eL eI) a0), .o ((eL (eP (fc eI (f1 eI)))) v2), .f (eI v3), .u, .u, .u, .u, .u, .u, .u, .u, .u, .u, .u, .f (eI v4), .f (eI v5), .u, .u, .u, .u, .u]) (ε' := fun (v6 : (Int × Int)) => [.f ((eL eI) a0), .o ((eL (eP (fc eI (f1 eI)))) (v2 ++ [v6])), .f (eI v3), .u, .u, .u, .u, .u, .u, .u, .u, .u, .u, .u, .f (eI v4), .f (eI v5), .u, .u, .u, .u, .u]) rfl rfl (fun _ => rfl) (r_tup (a_c (r_var (e := eI) (x := v5) rfl) (a_1 (r_sub (r_add (r_wv (e := eI) (x := v5) rfl) (r_mod (r_bi1 (r_div (r_wv (e := eI) (x := v4) rfl) (r_lit (e := eI) rfl)) (fun _ => b_intI _)) (r_lit (e := eI) rfl))) (r_ite (c_B (r_cmpI rfl (r_mod (r_wv (e := eI) (x := v4) rfl) (r_lit (e := eI) rfl)) (r_lit (e := eI) rfl))) (r_lit (e := eI) rfl) (r_lit (e := eI) rfl)))))) (fun (v6 : (Int × Int)) => (y_end (pN_nx (.cons (.refl _) (.cons (.refl _) (.cons (.u _) (.cons (.u _) (.cons (.u _) (.cons (.u _) (.cons (.u _) (.cons (.u _) (.cons (.u _) (.cons (.u _) (.cons (.u _) (.cons (.u _) (.cons (.u _) (.cons (.u _) (.cons (.u _) (.cons (.u _) (.cons (.u _) (.cons (.u _) (.cons (.u _) (.cons (.u _) (.cons (.u _) .nil)))))))))))))))))))))))))))))) (fun (v2 : (List (Int × Int))) => (t_asg (e := (eT (eP (fc eI (f1 eI))))) (ε1 := [.f ((eL eI) a0), .o ((eL (eP (fc eI (f1 eI)))) v2), .u, .u, .u, .u, .u, .u, .u, .u, .u, .u, .u, .u, .u, .u, .u, .u, .u, .u, .u]) (ε' := fun (v8 : (List (Int × Int))) => [.f ((eL eI) a0), .f ((eT (eP (fc eI (f1 eI)))) v8), .u, .u, .u, .u, .u, .u, .u, .u, .u, .u, .u, .u, .u, .u, .u, .u, .u, .u, .u]) rfl (fun _ => rfl) (r_bi1 (r_lc0 (e := (eP (fc eI (f1 eI)))) (ε' := fun (v7 : (Int × Int)) => [.f ((eL eI) a0), .o ((eL (eP (fc eI (f1 eI)))) v2), .u, .u, .u, .u, .u, .u, .u, .f (eI v7.1), .f (eI v7.2), .u, .u, .u, .u, .u, .u, .u, .u, .u, .u]) (i_L (r_wo (e := (eL (eP (fc eI (f1 eI))))) (x := v2) rfl)) (fun _ => rfl) (fun (v7 : (Int × Int)) => (r_tup (a_c (r_var (e := eI) (x := v7.1) rfl) (a_1 (r_bi2 (r_lit (e := eI) rfl) (r_wv (e := eI) (x := v7.2) rfl) (fun _ _ => b_max2 _ _))))))) (fun _ => b_tupL _)) (fun (v8 : (List (Int × Int))) => (t_asg (e := eD) (ε1 := [.f ((eL eI) a0), .f ((eT (eP (fc eI (f1 eI)))) v8), .u, .u, .u, .u, .u, .u, .u, .u, .u, .u, .u, .u, .u, .u, .u, .u, .u, .u, .u]) (ε' := fun (v9 : D) => [.f ((eL eI) a0), .f ((eT (eP (fc eI (f1 eI)))) v8), .u, .f (eD v9), .u, .u, .u, .u, .u, .u, .u, .u, .u, .u, .u, .u, .u, .u, .u, .u, .u]) rfl (fun _ => rfl) (r_call (a_1 (r_enc (r_var (e := (eT (eP (fc eI (f1 eI))))) (x := v8) rfl))) (fun (x : D) => ok__law_listed (k + 4) x)) (fun (v9 : D) => (t_asg (e := (eL (eP (fc eI (f1 eI))))) (ε1 := [.f ((eL eI) a0), .f ((eT (eP (fc eI (f1 eI)))) v8), .u, .f (eD v9), .u, .u, .u, .u, .u, .u, .u, .u, .u, .u, .u, .u, .u, .u, .u, .u, .u]) (ε' := fun (v10 : (List (Int × Int))) => [.f ((eL eI) a0), .f ((eT (eP (fc eI (f1 eI)))) v8), .u, .f (eD v9), .f ((eL (eP (fc eI (f1 eI)))) v10), .u, .u, .u, .u, .u, .u, .u, .u, .u, .u, .u, .u, .u, .u, .u, .u]) rfl (fun _ => rfl) (r_lstH (e := (eP (fc eI (f1 eI)))) h_n) (fun (v10 : (List (Int × Int))) => (t_forN (e := eI) (ε1 := [.f ((eL eI) a0), .f ((eT (eP (fc eI (f1 eI)))) v8), .u, .f (eD v9), .f ((eL (eP (fc eI (f1 eI)))) v10), .u, .u, .u, .u, .u, .u, .u, .u, .u, .u, .u, .u, .u, .u, .u, .u]) (mk := (fun (v11 : (List (Int × Int))) => [.f ((eL eI) a0), .f ((eT (eP (fc eI (f1 eI)))) v8), .u, .f (eD v9), .f ((eL (eP (fc eI (f1 eI)))) v11), .u, .u, .u, .u, .u, .u, .u, .u, .u, .u, .u, .u, .u, .u, .u, .u])) (s0 := v10) (ε' := fun (v12 : Int) (v11 : (List (Int × Int))) => [.f ((eL eI) a0), .f ((eT (eP (fc eI (f1 eI)))) v8), .u, .f (eD v9), .f ((eL (eP (fc eI (f1 eI)))) v11), .f (eI v12), .u, .u, .u, .u, .u, .u, .u, .u, .u, .u, .u, .u, .u, .u, .u]) gF rfl (.cons (.refl _) (.cons (.refl _) (.cons (.u _) (.cons (.refl _) (.cons (.refl _) (.cons (.u _) (.cons (.u _) (.cons (.u _) (.cons (.u _) (.cons (.u _) (.cons (.u _) (.cons (.u _) (.cons (.u _) (.cons (.u _) (.cons (.u _) (.cons (.u _) (.cons (.u _) (.cons (.u _) (.cons (.u _) (.cons (.u _) (.cons (.u _) .nil))))))))))))))))))))) (fun _ _ => rfl) (i_r1 (r_bi1 (r_wv (e := (eT (eP (fc eI (f1 eI))))) (x := v8) rfl) (fun _ => b_lenT _))) (fun (v12 : Int) (v11 : (List (Int × Int))) => (t_asg (e := (eL (eP (fc eI (f1 eI))))) (ε1 := [.f ((eL eI) a0), .f ((eT (eP (fc eI (f1 eI)))) v8), .u, .f (eD v9), .f ((eL (eP (fc eI (f1 eI)))) v11), .f (eI v12), .u, .u, .u, .u, .u, .u, .u, .u, .u, .u, .u, .u, .u, .u, .u]) (ε' := fun (v14 : (List (Int × Int))) => [.f ((eL eI) a0), .f ((eT (eP (fc eI (f1 eI)))) v8), .u, .f (eD v9), .f ((eL (eP (fc eI (f1 eI)))) v14), .f (eI v12), .u, .u, .u, .u, .u, .u, .u, .u, .u, .u, .u, .u, .u, .u, .u]) rfl (fun _ => rfl) (r_addL (r_wv (e := (eL (eP (fc eI (f1 eI))))) (x := v11) rfl) (r_lc1 (e := eI) (ε' := fun (v13 : Int) => [.f ((eL eI) a0), .f ((eT (eP (fc eI (f1 eI)))) v8), .u, .f (eD v9), .f ((eL (eP (fc eI (f1 eI)))) v11), .f (eI v12), .u, .u, .u, .u, .u, .u, .u, .u, .u, .u, .f (eI v13), .u, .u, .u, .u]) (i_r2 (r_wv (e := eI) (x := v12) rfl) (r_bi1 (r_wv (e := (eT (eP (fc eI (f1 eI))))) (x := v8) rfl) (fun _ => b_lenT _))) (fun _ => rfl) (fun (v13 : Int) => (c_B (r_cmpI rfl (r_ixP (e' := eI) (p := fun (u : (Int × Int)) => u.1) (fun _ => rfl) (r_ixT (r_wv (e := (eT (eP (fc eI (f1 eI))))) (x := v8) rfl) (r_wv (e := eI) (x := v12) rfl))) (r_ixP (e' := eI) (p := fun (u : (Int × Int)) => u.2) (fun _ => rfl) (r_ixT (r_wv (e := (eT (eP (fc eI (f1 eI))))) (x := v8) rfl) (r_wv (e := eI) (x := v13) rfl)))))) (fun (v13 : Int) => (r_tup (a_c (r_var (e := eI) (x := v12) rfl) (a_1 (r_var (e := eI) (x := v13) rfl))))))) (fun (v14 : (List (Int × Int))) => (y_end (pN_nx (.cons (.refl _) (.cons (.refl _) (.cons (.u _) (.cons (.refl _) (.cons (.refl _) (.cons (.u _) (.cons (.u _) (.cons (.u _) (.cons (.u _) (.cons (.u _) (.cons (.u _) (.cons (.u _) (.cons (.u _) (.cons (.u _) (.cons (.u _) (.cons (.u _) (.cons (.u _) (.cons (.u _) (.cons (.u _) (.cons (.u _) (.cons (.u _) .nil)))))))))))))))))))))))))) (fun (v11 : (List (Int × Int))) => (t_asg (e := (eL (eT eI))) (ε1 := [.f ((eL eI) a0), .f ((eT (eP (fc eI (f1 eI)))) v8), .u, .f (eD v9), .f ((eL (eP (fc eI (f1 eI)))) v11), .u, .u, .u, .u, .u, .u, .u, .u, .u, .u, .u, .u, .u, .u, .u, .u]) (ε' := fun (v15 : (List (List Int))) => [.f ((eL eI) a0), .f ((eT (eP (fc eI (f1 eI)))) v8), .u, .f (eD v9), .f ((eL (eP (fc eI (f1 eI)))) v11), .u, .f ((eL (eT eI)) v15), .u, .u, .u, .u, .u, .u, .u, .u, .u, .u, .u, .u, .u, .u]) rfl (fun _ => rfl) (r_lstH (e := (eT eI)) (h_c (e := (eT eI)) (r_tupH (e := eI) h_n) h_n)) (fun (v15 : (List (List Int))) => (t_forN (e := eI) (ε1 := [.f ((eL eI) a0), .f ((eT (eP (fc eI (f1 eI)))) v8), .u, .f (eD v9), .f ((eL (eP (fc eI (f1 eI)))) v11), .u, .f ((eL (eT eI)) v15), .u, .u, .u, .u, .u, .u, .u, .u, .u, .u, .u, .u, .u, .u]) (mk := (fun (v16 : (List (List Int))) => [.f ((eL eI) a0), .f ((eT (eP (fc eI (f1 eI)))) v8), .u, .f (eD v9), .f ((eL (eP (fc eI (f1 eI)))) v11), .u, .f ((eL (eT eI)) v16), .u, .u, .u, .u, .u, .u, .u, .u, .u, .u, .u, .u, .u, .u])) (s0 := v15) (ε' := fun (v17 : Int) (v16 : (List (List Int))) => [.f ((eL eI) a0), .f ((eT (eP (fc eI (f1 eI)))) v8), .u, .f (eD v9), .f ((eL (eP (fc eI (f1 eI)))) v11), .u, .f ((eL (eT eI)) v16), .f (eI v17), .u, .u, .u, .u, .u, .u, .u, .u, .u, .u, .u, .u, .u]) gF rfl (.cons (.refl _) (.cons (.refl _) (.cons (.u _) (.cons (.refl _) (.cons (.refl _) (.cons (.u _) (.cons (.refl _) (.cons (.u _) (.cons (.u _) (.cons (.u _) (.cons (.u _) (.cons (.u _) (.cons (.u _) (.cons (.u _) (.cons (.u _) (.cons (.u _) (.cons (.u _) (.cons (.u _) (.cons (.u _) (.cons (.u _) (.cons (.u _) .nil))))))))))))))))))))) (fun _ _ => rfl) (i_r1 (r_bi1 (r_wv (e := (eT (eP (fc eI (f1 eI))))) (x := v8) rfl) (fun _ => b_lenT _))) (fun (v17 : Int) (v16 : (List (List Int))) => (t_asg (e := (eL (eT eI))) (ε1 := [.f ((eL eI) a0), .f ((eT (eP (fc eI (f1 eI)))) v8), .u, .f (eD v9), .f ((eL (eP (fc eI (f1 eI)))) v11), .u, .f ((eL (eT eI)) v16), .f (eI v17), .u, .u, .u, .u, .u, .u, .u, .u, .u, .u, .u, .u, .u]) (ε' := fun (v19 : (List (List Int))) => [.f ((eL eI) a0), .f ((eT (eP (fc eI (f1 eI)))) v8), .u, .f (eD v9), .f ((eL (eP (fc eI (f1 eI)))) v11), .u, .f ((eL (eT eI)) v19), .f (eI v17), .u, .u, .u, .u, .u, .u, .u, .u, .u, .u, .u, .u, .u]) rfl (fun _ => rfl) (r_addL (r_wv (e := (eL (eT eI))) (x := v16) rfl) (r_lc0 (e := (eT eI)) (ε' := fun (v18 : (List Int)) => [.f ((eL eI) a0), .f ((eT (eP (fc eI (f1 eI)))) v8), .u, .f (eD v9), .f ((eL (eP (fc eI (f1 eI)))) v11), .u, .f ((eL (eT eI)) v16), .f (eI v17), .u, .u, .u, .u, .u, .u, .u, .u, .u, .u, .u, .u, .f ((eT eI) v18)]) (i_L (r_wv (e := (eL (eT eI))) (x := v16) rfl)) (fun _ => rfl) (fun (v18 : (List Int)) => (r_addT (r_wv (e := (eT eI)) (x := v18) rfl) (r_tupH (e := eI) (h_c (e := eI) (r_var (e := eI) (x := v17) rfl) h_n)))))) (fun (v19 : (List (List Int))) => (y_end (pN_nx (.cons (.refl _) (.cons (.refl _) (.cons (.u _) (.cons (.refl _) (.cons (.refl _) (.cons (.u _) (.cons (.refl _) (.cons (.u _) (.cons (.u _) (.cons (.u _) (.cons (.u _) (.cons (.u _) (.cons (.u _) (.cons (.u _) (.cons (.u _) (.cons (.u _) (.cons (.u _) (.cons (.u _) (.cons (.u _) (.cons (.u _) (.cons (.u _) .nil)))))))))))))))))))))))))) (fun (v16 : (List (List Int))) => (t_asg (e := (eT eI)) (ε1 := [.f ((eL eI) a0), .f ((eT (eP (fc eI (f1 eI)))) v8), .u, .f (eD v9), .f ((eL (eP (fc eI (f1 eI)))) v11), .u, .f ((eL (eT eI)) v16), .u, .u, .u, .u, .u, .u, .u, .u, .u, .u, .u, .u, .u, .u]) (ε' := fun (v21 : (List Int)) => [.f ((eL eI) a0), .f ((eT (eP (fc eI (f1 eI)))) v8), .u, .f (eD v9), .f ((eL (eP (fc eI (f1 eI)))) v11), .u, .f ((eL (eT eI)) v16), .u, .f ((eT eI) v21), .u, .u, .u, .u, .u, .u, .u, .u, .u, .u, .u, .u]) rfl (fun _ => rfl) (r_ixP (e' := (eT eI)) (p := fun (u : (Int × (List Int))) => u.2) (fun _ => rfl) (r_ixL (r_bi1 (r_lc1 (e := (eT eI)) (ε' := fun (v20 : (List Int)) => [.f ((eL eI) a0), .f ((eT (eP (fc eI (f1 eI)))) v8), .u, .f (eD v9), .f ((eL (eP (fc eI (f1 eI)))) v11), .u, .f ((eL (eT eI)) v16), .u, .u, .u, .u, .u, .u, .u, .u, .u, .u, .u, .u, .u, .f ((eT eI) v20)]) (i_L (r_wv (e := (eL (eT eI))) (x := v16) rfl)) (fun _ => rfl) (fun (v20 : (List Int)) => (c_or (c_B (r_cmpD (r_enc (r_call (a_c (r_var (e := (eT (eP (fc eI (f1 eI))))) (x := v8) rfl) (a_1 (r_var (e := (eT eI)) (x := v20) rfl))) (fun (x : (List (Int × Int)) × (List Int)) => ok__law_kept (k + 47) x.1 x.2))) (r_enc (r_lstH (e := (eP (fc eI (f1 eI)))) h_n)))) (c_B (r_nm1 (ε1 := [.f ((eL eI) a0), .f ((eT (eP (fc eI (f1 eI)))) v8), .u, .f (eD v9), .f ((eL (eP (fc eI (f1 eI)))) v11), .u, .f ((eL (eT eI)) v16), .u, .u, .u, .u, .u, .u, .u, .u, .u, .u, .u, .u, .u, .f ((eT eI) v20)]) rfl n_B (r_call (a_1 (r_call (a_c (r_var (e := (eT (eP (fc eI (f1 eI))))) (x := v8) rfl) (a_1 (r_var (e := (eT eI)) (x := v20) rfl))) (fun (x : (List (Int × Int)) × (List Int)) => ok__law_kept (k + 47) x.1 x.2))) (fun (x : (List (Int × Int))) => ok__law_suits (k + 46) x)))))) (fun (v20 : (List Int)) => (r_tup (a_c (r_bi1 (r_wv (e := (eT eI)) (x := v20) rfl) (fun _ => b_lenT _)) (a_1 (r_var (e := (eT eI)) (x := v20) rfl)))))) (fun _ => b_sortL _)) (r_lit (e := eI) rfl))) (fun (v21 : (List Int)) => (t_if (ε1 := [.f ((eL eI) a0), .f ((eT (eP (fc eI (f1 eI)))) v8), .u, .f (eD v9), .f ((eL (eP (fc eI (f1 eI)))) v11), .u, .f ((eL (eT eI)) v16), .u, .f ((eT eI) v21), .u, .u, .u, .u, .u, .u, .u, .u, .u, .u, .u, .u]) rfl (c_or (c_B (r_not (c_B (r_nm1 (ε1 := [.f ((eL eI) a0), .f ((eT (eP (fc eI (f1 eI)))) v8), .u, .f (eD v9), .f ((eL (eP (fc eI (f1 eI)))) v11), .u, .f ((eL (eT eI)) v16), .u, .f ((eT eI) v21), .u, .u, .u, .u, .u, .u, .u, .u, .u, .u, .u, .u]) rfl n_B (r_call (a_c (r_enc (r_nm1 (ε1 := [.f ((eL eI) a0), .f ((eT (eP (fc eI (f1 eI)))) v8), .u, .f (eD v9), .f ((eL (eP (fc eI (f1 eI)))) v11), .u, .f ((eL (eT eI)) v16), .u, .f ((eT eI) v21), .u, .u, .u, .u, .u, .u, .u, .u, .u, .u, .u, .u]) rfl (n_T n_I) (r_call (a_1 (r_dec (dc_L (dc_L dc_I)) (r_var (e := eD) (x := v9) rfl))) (fun (x : (List (List Int))) => ok_least_off (k + 0) x)))) (a_1 (r_enc (r_var (e := (eT eI)) (x := v21) rfl)))) (fun (x : D × D) => ok__law_same (k + 4) x.1 x.2)))))) (c_or (c_B (r_isnB (r_nm1 (ε1 := [.f ((eL eI) a0), .f ((eT (eP (fc eI (f1 eI)))) v8), .u, .f (eD v9), .f ((eL (eP (fc eI (f1 eI)))) v11), .u, .f ((eL (eT eI)) v16), .u, .f ((eT eI) v21), .u, .u, .u, .u, .u, .u, .u, .u, .u, .u, .u, .u]) rfl n_B (r_call (a_c (r_var (e := (eT (eP (fc eI (f1 eI))))) (x := v8) rfl) (a_c (r_lit (e := eI) rfl) (a_1 (r_tupH (e := (eP (fc eI (f1 eI)))) h_n)))) (fun (x : (List (Int × Int)) × Int × (List (Int × Int))) => ok_no_fewer_holds (k + 3) x.1 x.2.1 x.2.2))))) (c_B (r_isnB (r_nm1 (ε1 := [.f ((eL eI) a0), .f ((eT (eP (fc eI (f1 eI)))) v8), .u, .f (eD v9), .f ((eL (eP (fc eI (f1 eI)))) v11), .u, .f ((eL (eT eI)) v16), .u, .f ((eT eI) v21), .u, .u, .u, .u, .u, .u, .u, .u, .u, .u, .u, .u]) rfl n_B (r_call (a_c (r_var (e := (eT (eP (fc eI (f1 eI))))) (x := v8) rfl) (a_c (r_add (r_bi1 (r_wv (e := (eT eI)) (x := v21) rfl) (fun _ => b_lenT _)) (r_lit (e := eI) rfl)) (a_1 (r_bi1 (r_slL (r_wv (e := (eL (eP (fc eI (f1 eI))))) (x := v11) rfl) o_n (o_s (r_add (r_bi1 (r_wv (e := (eT eI)) (x := v21) rfl) (fun _ => b_lenT _)) (r_lit (e := eI) rfl)))) (fun _ => b_tupL _))))) (fun (x : (List (Int × Int)) × Int × (List (Int × Int))) => ok_no_fewer_holds (k + 3) x.1 x.2.1 x.2.2))))))) (t_ret (er := eB) (ε1 := [.f ((eL eI) a0), .f ((eT (eP (fc eI (f1 eI)))) v8), .u, .f (eD v9), .f ((eL (eP (fc eI (f1 eI)))) v11), .u, .f ((eL (eT eI)) v16), .u, .f ((eT eI) v21), .u, .u, .u, .u, .u, .u, .u, .u, .u, .u, .u, .u]) (w := (fun u => u)) rfl (fun u ε => pF_rt u ε) (r_lit (e := eB) rfl)) (t_for (e := eI) (er := eB) (ε1 := [.f ((eL eI) a0), .f ((eT (eP (fc eI (f1 eI)))) v8), .u, .f (eD v9), .f ((eL (eP (fc eI (f1 eI)))) v11), .u, .f ((eL (eT eI)) v16), .u, .f ((eT eI) v21), .u, .u, .u, .u, .u, .u, .u, .u, .u, .u, .u, .u]) (mk := (fun (v22 : Unit) => [.f ((eL eI) a0), .f ((eT (eP (fc eI (f1 eI)))) v8), .u, .f (eD v9), .f ((eL (eP (fc eI (f1 eI)))) v11), .u, .f ((eL (eT eI)) v16), .u, .f ((eT eI) v21), .u, .u, .u, .u, .u, .u, .u, .u, .u, .u, .u, .u])) (s0 := ()) (ε' := fun (v23 : Int) (v22 : Unit) => [.f ((eL eI) a0), .f ((eT (eP (fc eI (f1 eI)))) v8), .u, .f (eD v9), .f ((eL (eP (fc eI (f1 eI)))) v11), .f (eI v23), .f ((eL (eT eI)) v16), .u, .f ((eT eI) v21), .u, .u, .u, .u, .u, .u, .u, .u, .u, .u, .u, .u]) (w := (fun u => u)) gF rfl (fun u ε => pF_rt u ε) (.cons (.refl _) (.cons (.refl _) (.cons (.u _) (.cons (.refl _) (.cons (.refl _) (.cons (.u _) (.cons (.refl _) (.cons (.u _) (.cons (.refl _) (.cons (.u _) (.cons (.u _) (.cons (.u _) (.cons (.u _) (.cons (.u _) (.cons (.u _) (.cons (.u _) (.cons (.u _) (.cons (.u _) (.cons (.u _) (.cons (.u _) (.cons (.u _) .nil))))))))))))))))))))) (fun _ _ => rfl) (i_r1 (r_bi1 (r_wv (e := (eT (eP (fc eI (f1 eI))))) (x := v8) rfl) (fun _ => b_lenT _))) (fun (v23 : Int) (v22 : Unit) => (t_for (e := eI) (er := eB) (ε1 := [.f ((eL eI) a0), .f ((eT (eP (fc eI (f1 eI)))) v8), .u, .f (eD v9), .f ((eL (eP (fc eI (f1 eI)))) v11), .f (eI v23), .f ((eL (eT eI)) v16), .u, .f ((eT eI) v21), .u, .u, .u, .u, .u, .u, .u, .u, .u, .u, .u, .u]) (mk := (fun (v24 : Unit) => [.f ((eL eI) a0), .f ((eT (eP (fc eI (f1 eI)))) v8), .u, .f (eD v9), .f ((eL (eP (fc eI (f1 eI)))) v11), .f (eI v23), .f ((eL (eT eI)) v16), .u, .f ((eT eI) v21), .u, .u, .u, .u, .u, .u, .u, .u, .u, .u, .u, .u])) (s0 := ()) (ε' := fun (v25 : Int) (v24 : Unit) => [.f ((eL eI) a0), .f ((eT (eP (fc eI (f1 eI)))) v8), .u, .f (eD v9), .f ((eL (eP (fc eI (f1 eI)))) v11), .f (eI v23), .f ((eL (eT eI)) v16), .u, .f ((eT eI) v21), .u, .u, .u, .u, .u, .u, .u, .f (eI v25), .u, .u, .u, .u]) (w := Out.rt) gB rfl (fun u ε => pB_rt u ε) (.cons (.refl _) (.cons (.refl _) (.cons (.u _) (.cons (.refl _) (.cons (.refl _) (.cons (.refl _) (.cons (.refl _) (.cons (.u _) (.cons (.refl _) (.cons (.u _) (.cons (.u _) (.cons (.u _) (.cons (.u _) (.cons (.u _) (.cons (.u _) (.cons (.u _) (.cons (.u _) (.cons (.u _) (.cons (.u _) (.cons (.u _) (.cons (.u _) .nil))))))))))))))))))))) (fun _ _ => rfl) (i_r2 (r_wv (e := eI) (x := v23) rfl) (r_bi1 (r_wv (e := (eT (eP (fc eI (f1 eI))))) (x := v8) rfl) (fun _ => b_lenT _))) (fun (v25 : Int) (v24 : Unit) => (t_if (ε1 := [.f ((eL eI) a0), .f ((eT (eP (fc eI (f1 eI)))) v8), .u, .f (eD v9), .f ((eL (eP (fc eI (f1 eI)))) v11), .f (eI v23), .f ((eL (eT eI)) v16), .u, .f ((eT eI) v21), .u, .u, .u, .u, .u, .u, .u, .f (eI v25), .u, .u, .u, .u]) rfl (c_or (c_B (r_not (c_B (r_nm1 (ε1 := [.f ((eL eI) a0), .f ((eT (eP (fc eI (f1 eI)))) v8), .u, .f (eD v9), .f ((eL (eP (fc eI (f1 eI)))) v11), .f (eI v23), .f ((eL (eT eI)) v16), .u, .f ((eT eI) v21), .u, .u, .u, .u, .u, .u, .u, .f (eI v25), .u, .u, .u, .u]) rfl n_B (r_call (a_c (r_enc (r_nm1 (ε1 := [.f ((eL eI) a0), .f ((eT (eP (fc eI (f1 eI)))) v8), .u, .f (eD v9), .f ((eL (eP (fc eI (f1 eI)))) v11), .f (eI v23), .f ((eL (eT eI)) v16), .u, .f ((eT eI) v21), .u, .u, .u, .u, .u, .u, .u, .f (eI v25), .u, .u, .u, .u]) rfl n_B (r_call (a_c (r_var (e := (eT (eP (fc eI (f1 eI))))) (x := v8) rfl) (a_1 (r_dec (dc_Q dc_I) (r_enc (r_tup (a_c (r_var (e := eI) (x := v23) rfl) (a_1 (r_var (e := eI) (x := v25) rfl)))))))) (fun (x : (List (Int × Int)) × (Bool × List Int)) => ok_denies (k + 3) x.1 x.2)))) (a_1 (r_enc (r_cmpD (r_enc (r_tup (a_c (r_var (e := eI) (x := v23) rfl) (a_1 (r_var (e := eI) (x := v25) rfl))))) (r_enc (r_wv (e := (eL (eP (fc eI (f1 eI))))) (x := v11) rfl)))))) (fun (x : D × D) => ok__law_same (k + 4) x.1 x.2)))))) (c_B (r_not (c_B (r_nm1 (ε1 := [.f ((eL eI) a0), .f ((eT (eP (fc eI (f1 eI)))) v8), .u, .f (eD v9), .f ((eL (eP (fc eI (f1 eI)))) v11), .f (eI v23), .f ((eL (eT eI)) v16), .u, .f ((eT eI) v21), .u, .u, .u, .u, .u, .u, .u, .f (eI v25), .u, .u, .u, .u]) rfl n_B (r_call (a_c (r_enc (r_nm1 (ε1 := [.f ((eL eI) a0), .f ((eT (eP (fc eI (f1 eI)))) v8), .u, .f (eD v9), .f ((eL (eP (fc eI (f1 eI)))) v11), .f (eI v23), .f ((eL (eT eI)) v16), .u, .f ((eT eI) v21), .u, .u, .u, .u, .u, .u, .u, .f (eI v25), .u, .u, .u, .u]) rfl n_B (r_call (a_c (r_var (e := (eT (eP (fc eI (f1 eI))))) (x := v8) rfl) (a_c (r_lit (e := eI) rfl) (a_1 (r_tupH (e := (eP (fc eI (f1 eI)))) (h_c (e := (eP (fc eI (f1 eI)))) (r_tup (a_c (r_var (e := eI) (x := v23) rfl) (a_1 (r_var (e := eI) (x := v25) rfl)))) h_n))))) (fun (x : (List (Int × Int)) × Int × (List (Int × Int))) => ok_no_fewer_holds (k + 3) x.1 x.2.1 x.2.2)))) (a_1 (r_enc (r_cmpD (r_enc (r_tup (a_c (r_var (e := eI) (x := v23) rfl) (a_1 (r_var (e := eI) (x := v25) rfl))))) (r_enc (r_wv (e := (eL (eP (fc eI (f1 eI))))) (x := v11) rfl)))))) (fun (x : D × D) => ok__law_same (k + 4) x.1 x.2))))))) (t_ret (er := eB) (ε1 := [.f ((eL eI) a0), .f ((eT (eP (fc eI (f1 eI)))) v8), .u, .f (eD v9), .f ((eL (eP (fc eI (f1 eI)))) v11), .f (eI v23), .f ((eL (eT eI)) v16), .u, .f ((eT eI) v21), .u, .u, .u, .u, .u, .u, .u, .f (eI v25), .u, .u, .u, .u]) (w := Out.rt) rfl (fun u ε => pB_rt u ε) (r_lit (e := eB) rfl)) (y_end (pB_nx (.cons (.refl _) (.cons (.refl _) (.cons (.u _) (.cons (.refl _) (.cons (.refl _) (.cons (.refl _) (.cons (.refl _) (.cons (.u _) (.cons (.refl _) (.cons (.u _) (.cons (.u _) (.cons (.u _) (.cons (.u _) (.cons (.u _) (.cons (.u _) (.cons (.u _) (.cons (.u _) (.cons (.u _) (.cons (.u _) (.cons (.u _) (.cons (.u _) .nil))))))))))))))))))))))))) (fun (v24 : Unit) => (y_end (pB_nx (.cons (.refl _) (.cons (.refl _) (.cons (.u _) (.cons (.refl _) (.cons (.refl _) (.cons (.u _) (.cons (.refl _) (.cons (.u _) (.cons (.refl _) (.cons (.u _) (.cons (.u _) (.cons (.u _) (.cons (.u _) (.cons (.u _) (.cons (.u _) (.cons (.u _) (.cons (.u _) (.cons (.u _) (.cons (.u _) (.cons (.u _) (.cons (.u _) .nil)))))))))))))))))))))))))) (fun (v22 : Unit) => (t_if (ε1 := [.f ((eL eI) a0), .f ((eT (eP (fc eI (f1 eI)))) v8), .u, .f (eD v9), .f ((eL (eP (fc eI (f1 eI)))) v11), .u, .f ((eL (eT eI)) v16), .u, .f ((eT eI) v21), .u, .u, .u, .u, .u, .u, .u, .u, .u, .u, .u, .u]) rfl (c_B (r_cmpD (r_enc (r_wv (e := (eL (eP (fc eI (f1 eI))))) (x := v11) rfl)) (r_enc (r_lstH (e := (eP (fc eI (f1 eI)))) h_n)))) (t_if (ε1 := [.f ((eL eI) a0), .f ((eT (eP (fc eI (f1 eI)))) v8), .u, .f (eD v9), .f ((eL (eP (fc eI (f1 eI)))) v11), .u, .f ((eL (eT eI)) v16), .u, .f ((eT eI) v21), .u, .u, .u, .u, .u, .u, .u, .u, .u, .u, .u, .u]) rfl (c_or (c_B (r_not (c_B (r_nm1 (ε1 := [.f ((eL eI) a0), .f ((eT (eP (fc eI (f1 eI)))) v8), .u, .f (eD v9), .f ((eL (eP (fc eI (f1 eI)))) v11), .u, .f ((eL (eT eI)) v16), .u, .f ((eT eI) v21), .u, .u, .u, .u, .u, .u, .u, .u, .u, .u, .u, .u]) rfl n_B (r_call (a_c (r_enc (r_nm1 (ε1 := [.f ((eL eI) a0), .f ((eT (eP (fc eI (f1 eI)))) v8), .u, .f (eD v9), .f ((eL (eP (fc eI (f1 eI)))) v11), .u, .f ((eL (eT eI)) v16), .u, .f ((eT eI) v21), .u, .u, .u, .u, .u, .u, .u, .u, .u, .u, .u, .u]) rfl (n_O (n_P (n_c n_I (n_1 n_I)))) (r_call (a_1 (r_dec (dc_Q (dc_Q dc_I)) (r_enc (r_var (e := (eT (eP (fc eI (f1 eI))))) (x := v8) rfl)))) (fun (x : (Bool × List (Bool × List Int))) => ok_denial (k + 3) x)))) (a_1 (r_enc (r_ixL (r_wv (e := (eL (eP (fc eI (f1 eI))))) (x := v11) rfl) (r_lit (e := eI) rfl))))) (fun (x : D × D) => ok__law_same (k + 4) x.1 x.2)))))) (c_or (c_B (r_isnB (r_nm1 (ε1 := [.f ((eL eI) a0), .f ((eT (eP (fc eI (f1 eI)))) v8), .u, .f (eD v9), .f ((eL (eP (fc eI (f1 eI)))) v11), .u, .f ((eL (eT eI)) v16), .u, .f ((eT eI) v21), .u, .u, .u, .u, .u, .u, .u, .u, .u, .u, .u, .u]) rfl n_B (r_call (a_c (r_var (e := (eT (eP (fc eI (f1 eI))))) (x := v8) rfl) (a_1 (r_conv (e' := (eQ eI)) (fun _ => rfl) (r_bi1 (r_conv (e' := (eT eI)) (fun _ => rfl) (r_ixL (r_wv (e := (eL (eP (fc eI (f1 eI))))) (x := v11) rfl) (r_neg (r_lit (e := eI) rfl)))) (fun _ => b_lstT _))))) (fun (x : (List (Int × Int)) × (Bool × List Int)) => ok_denies (k + 3) x.1 x.2))))) (c_B (r_isnB (r_nm1 (ε1 := [.f ((eL eI) a0), .f ((eT (eP (fc eI (f1 eI)))) v8), .u, .f (eD v9), .f ((eL (eP (fc eI (f1 eI)))) v11), .u, .f ((eL (eT eI)) v16), .u, .f ((eT eI) v21), .u, .u, .u, .u, .u, .u, .u, .u, .u, .u, .u, .u]) rfl n_B (r_call (a_c (r_var (e := (eT (eP (fc eI (f1 eI))))) (x := v8) rfl) (a_1 (r_dec (dc_Q dc_I) (r_enc (r_tup (a_c (r_ixP (e' := eI) (p := fun (u : (Int × Int)) => u.1) (fun _ => rfl) (r_ixL (r_wv (e := (eL (eP (fc eI (f1 eI))))) (x := v11) rfl) (r_lit (e := eI) rfl))) (a_1 (r_bi1 (r_wv (e := (eT (eP (fc eI (f1 eI))))) (x := v8) rfl) (fun _ => b_lenT _))))))))) (fun (x : (List (Int × Int)) × (Bool × List Int)) => ok_denies (k + 3) x.1 x.2))))))) (t_ret (er := eB) (ε1 := [.f ((eL eI) a0), .f ((eT (eP (fc eI (f1 eI)))) v8), .u, .f (eD v9), .f ((eL (eP (fc eI (f1 eI)))) v11), .u, .f ((eL (eT eI)) v16), .u, .f ((eT eI) v21), .u, .u, .u, .u, .u, .u, .u, .u, .u, .u, .u, .u]) (w := (fun u => u)) rfl (fun u ε => pF_rt u ε) (r_lit (e := eB) rfl)) (t_if (ε1 := [.f ((eL eI) a0), .f ((eT (eP (fc eI (f1 eI)))) v8), .u, .f (eD v9), .f ((eL (eP (fc eI (f1 eI)))) v11), .u, .f ((eL (eT eI)) v16), .u, .f ((eT eI) v21), .u, .u, .u, .u, .u, .u, .u, .u, .u, .u, .u, .u]) rfl (c_or (c_B (r_isnB (r_nm1 (ε1 := [.f ((eL eI) a0), .f ((eT (eP (fc eI (f1 eI)))) v8), .u, .f (eD v9), .f ((eL (eP (fc eI (f1 eI)))) v11), .u, .f ((eL (eT eI)) v16), .u, .f ((eT eI) v21), .u, .u, .u, .u, .u, .u, .u, .u, .u, .u, .u, .u]) rfl n_B (r_call (a_c (r_var (e := (eT (eP (fc eI (f1 eI))))) (x := v8) rfl) (a_c (r_lit (e := eI) rfl) (a_1 (r_tupH (e := (eP (fc eI (f1 eI)))) (h_c (e := (eP (fc eI (f1 eI)))) (r_ixL (r_wv (e := (eL (eP (fc eI (f1 eI))))) (x := v11) rfl) (r_neg (r_lit (e := eI) rfl))) h_n))))) (fun (x : (List (Int × Int)) × Int × (List (Int × Int))) => ok_no_fewer_holds (k + 3) x.1 x.2.1 x.2.2))))) (c_or (c_B (r_isnN nn_T (r_nm1 (ε1 := [.f ((eL eI) a0), .f ((eT (eP (fc eI (f1 eI)))) v8), .u, .f (eD v9), .f ((eL (eP (fc eI (f1 eI)))) v11), .u, .f ((eL (eT eI)) v16), .u, .f ((eT eI) v21), .u, .u, .u, .u, .u, .u, .u, .u, .u, .u, .u, .u]) rfl (n_O (n_T n_I)) (r_call (a_1 (r_dec (dc_Q (dc_Q dc_I)) (r_enc (r_var (e := (eT (eP (fc eI (f1 eI))))) (x := v8) rfl)))) (fun (x : (Bool × List (Bool × List Int))) => ok_earliest (k + 3) x))))) (c_or (c_B (r_isnN nn_P (r_nm1 (ε1 := [.f ((eL eI) a0), .f ((eT (eP (fc eI (f1 eI)))) v8), .u, .f (eD v9), .f ((eL (eP (fc eI (f1 eI)))) v11), .u, .f ((eL (eT eI)) v16), .u, .f ((eT eI) v21), .u, .u, .u, .u, .u, .u, .u, .u, .u, .u, .u, .u]) rfl (n_O (n_P (n_c n_I (n_1 n_I)))) (r_call (a_c (r_var (e := (eT (eP (fc eI (f1 eI))))) (x := v8) rfl) (a_c (r_lit (e := eI) rfl) (a_1 (r_sub (r_bi1 (r_wv (e := (eT (eP (fc eI (f1 eI))))) (x := v8) rfl) (fun _ => b_lenT _)) (r_lit (e := eI) rfl))))) (fun (x : (List (Int × Int)) × Int × Int) => ok_span (k + 3) x.1 x.2.1 x.2.2))))) (c_B (r_isnN nn_T (r_nm1 (ε1 := [.f ((eL eI) a0), .f ((eT (eP (fc eI (f1 eI)))) v8), .u, .f (eD v9), .f ((eL (eP (fc eI (f1 eI)))) v11), .u, .f ((eL (eT eI)) v16), .u, .f ((eT eI) v21), .u, .u, .u, .u, .u, .u, .u, .u, .u, .u, .u, .u]) rfl (n_O (n_T n_I)) (r_call (a_1 (r_var (e := (eT (eP (fc eI (f1 eI))))) (x := v8) rfl)) (fun (x : (List (Int × Int))) => ok_breaks (k + 3) x)))))))) (t_ret (er := eB) (ε1 := [.f ((eL eI) a0), .f ((eT (eP (fc eI (f1 eI)))) v8), .u, .f (eD v9), .f ((eL (eP (fc eI (f1 eI)))) v11), .u, .f ((eL (eT eI)) v16), .u, .f ((eT eI) v21), .u, .u, .u, .u, .u, .u, .u, .u, .u, .u, .u, .u]) (w := (fun u => u)) rfl (fun u ε => pF_rt u ε) (r_lit (e := eB) rfl)) (t_ret (er := eB) (ε1 := [.f ((eL eI) a0), .f ((eT (eP (fc eI (f1 eI)))) v8), .u, .f (eD v9), .f ((eL (eP (fc eI (f1 eI)))) v11), .u, .f ((eL (eT eI)) v16), .u, .f ((eT eI) v21), .u, .u, .u, .u, .u, .u, .u, .u, .u, .u, .u, .u]) (w := (fun u => u)) rfl (fun u ε => pF_rt u ε) (r_and (r_isN nn_T (r_nm1 (ε1 := [.f ((eL eI) a0), .f ((eT (eP (fc eI (f1 eI)))) v8), .u, .f (eD v9), .f ((eL (eP (fc eI (f1 eI)))) v11), .u, .f ((eL (eT eI)) v16), .u, .f ((eT eI) v21), .u, .u, .u, .u, .u, .u, .u, .u, .u, .u, .u, .u]) rfl (n_O (n_T n_I)) (r_call (a_1 (r_var (e := (eT (eP (fc eI (f1 eI))))) (x := v8) rfl)) (fun (x : (List (Int × Int))) => ok_latest (k + 3) x)))) (r_isN nn_T (r_nm1 (ε1 := [.f ((eL eI) a0), .f ((eT (eP (fc eI (f1 eI)))) v8), .u, .f (eD v9), .f ((eL (eP (fc eI (f1 eI)))) v11), .u, .f ((eL (eT eI)) v16), .u, .f ((eT eI) v21), .u, .u, .u, .u, .u, .u, .u, .u, .u, .u, .u, .u]) rfl (n_O (n_T (n_P (n_c n_I (n_1 n_I))))) (r_call (a_1 (r_var (e := (eT (eP (fc eI (f1 eI))))) (x := v8) rfl)) (fun (x : (List (Int × Int))) => ok_narrowed (k + 3) x)))))))) (t_asg (e := (eL eI)) (ε1 := [.f ((eL eI) a0), .f ((eT (eP (fc eI (f1 eI)))) v8), .u, .f (eD v9), .f ((eL (eP (fc eI (f1 eI)))) v11), .u, .f ((eL (eT eI)) v16), .u, .f ((eT eI) v21), .u, .u, .u, .u, .u, .u, .u, .u, .u, .u, .u, .u]) (ε' := fun (v26 : (List Int)) => [.f ((eL eI) a0), .f ((eT (eP (fc eI (f1 eI)))) v8), .u, .f (eD v9), .f ((eL (eP (fc eI (f1 eI)))) v11), .u, .f ((eL (eT eI)) v16), .u, .f ((eT eI) v21), .f ((eL eI) v26), .u, .u, .u, .u, .u, .u, .u, .u, .u, .u, .u]) rfl (fun _ => rfl) (r_call (a_1 (r_conv (e' := (eQ (eP (fc eI (f1 eI))))) (fun _ => rfl) (r_var (e := (eT (eP (fc eI (f1 eI))))) (x := v8) rfl))) (fun (x : (Bool × List (Int × Int))) => ok__law_low (k + 47) x)) (fun (v26 : (List Int)) => (t_asg (e := (eL eI)) (ε1 := [.f ((eL eI) a0), .f ((eT (eP (fc eI (f1 eI)))) v8), .u, .f (eD v9), .f ((eL (eP (fc eI (f1 eI)))) v11), .u, .f ((eL (eT eI)) v16), .u, .f ((eT eI) v21), .f ((eL eI) v26), .u, .u, .u, .u, .u, .u, .u, .u, .u, .u, .u]) (ε' := fun (v27 : (List Int)) => [.f ((eL eI) a0), .f ((eT (eP (fc eI (f1 eI)))) v8), .u, .f (eD v9), .f ((eL (eP (fc eI (f1 eI)))) v11), .u, .f ((eL (eT eI)) v16), .u, .f ((eT eI) v21), .f ((eL eI) v26), .f ((eL eI) v27), .u, .u, .u, .u, .u, .u, .u, .u, .u, .u]) rfl (fun _ => rfl) (r_call (a_1 (r_var (e := (eT (eP (fc eI (f1 eI))))) (x := v8) rfl)) (fun (x : (List (Int × Int))) => ok__law_high (k + 47) x)) (fun (v27 : (List Int)) => (t_if (ε1 := [.f ((eL eI) a0), .f ((eT (eP (fc eI (f1 eI)))) v8), .u, .f (eD v9), .f ((eL (eP (fc eI (f1 eI)))) v11), .u, .f ((eL (eT eI)) v16), .u, .f ((eT eI) v21), .f ((eL eI) v26), .f ((eL eI) v27), .u, .u, .u, .u, .u, .u, .u, .u, .u, .u]) rfl (c_or (c_B (r_isnN nn_P (r_nm1 (ε1 := [.f ((eL eI) a0), .f ((eT (eP (fc eI (f1 eI)))) v8), .u, .f (eD v9), .f ((eL (eP (fc eI (f1 eI)))) v11), .u, .f ((eL (eT eI)) v16), .u, .f ((eT eI) v21), .f ((eL eI) v26), .f ((eL eI) v27), .u, .u, .u, .u, .u, .u, .u, .u, .u, .u]) rfl (n_O (n_P (n_c n_I (n_1 n_I)))) (r_call (a_1 (r_dec (dc_Q (dc_Q dc_I)) (r_var (e := eD) (x := v9) rfl))) (fun (x : (Bool × List (Bool × List Int))) => ok_denial (k + 3) x))))) (c_or (c_B (r_isnB (r_nm1 (ε1 := [.f ((eL eI) a0), .f ((eT (eP (fc eI (f1 eI)))) v8), .u, .f (eD v9), .f ((eL (eP (fc eI (f1 eI)))) v11), .u, .f ((eL (eT eI)) v16), .u, .f ((eT eI) v21), .f ((eL eI) v26), .f ((eL eI) v27), .u, .u, .u, .u, .u, .u, .u, .u, .u, .u]) rfl n_B (r_call (a_c (r_var (e := (eT (eP (fc eI (f1 eI))))) (x := v8) rfl) (a_1 (r_dec (dc_Q dc_I) (r_enc (r_tup (a_c (r_lit (e := eI) rfl) (a_1 (r_lit (e := eI) rfl)))))))) (fun (x : (List (Int × Int)) × (Bool × List Int)) => ok_denies (k + 3) x.1 x.2))))) (c_or (c_B (r_not (c_B (r_nm1 (ε1 := [.f ((eL eI) a0), .f ((eT (eP (fc eI (f1 eI)))) v8), .u, .f (eD v9), .f ((eL (eP (fc eI (f1 eI)))) v11), .u, .f ((eL (eT eI)) v16), .u, .f ((eT eI) v21), .f ((eL eI) v26), .f ((eL eI) v27), .u, .u, .u, .u, .u, .u, .u, .u, .u, .u]) rfl n_B (r_call (a_c (r_enc (r_nm1 (ε1 := [.f ((eL eI) a0), .f ((eT (eP (fc eI (f1 eI)))) v8), .u, .f (eD v9), .f ((eL (eP (fc eI (f1 eI)))) v11), .u, .f ((eL (eT eI)) v16), .u, .f ((eT eI) v21), .f ((eL eI) v26), .f ((eL eI) v27), .u, .u, .u, .u, .u, .u, .u, .u, .u, .u]) rfl (n_O (n_T n_I)) (r_call (a_1 (r_dec (dc_Q (dc_Q dc_I)) (r_var (e := eD) (x := v9) rfl))) (fun (x : (Bool × List (Bool × List Int))) => ok_earliest (k + 3) x)))) (a_1 (r_enc (r_bi1 (r_wv (e := (eL eI)) (x := v26) rfl) (fun _ => b_tupL _))))) (fun (x : D × D) => ok__law_same (k + 4) x.1 x.2)))))) (c_B (r_not (c_B (r_nm1 (ε1 := [.f ((eL eI) a0), .f ((eT (eP (fc eI (f1 eI)))) v8), .u, .f (eD v9), .f ((eL (eP (fc eI (f1 eI)))) v11), .u, .f ((eL (eT eI)) v16), .u, .f ((eT eI) v21), .f ((eL eI) v26), .f ((eL eI) v27), .u, .u, .u, .u, .u, .u, .u, .u, .u, .u]) rfl n_B (r_call (a_c (r_enc (r_nm1 (ε1 := [.f ((eL eI) a0), .f ((eT (eP (fc eI (f1 eI)))) v8), .u, .f (eD v9), .f ((eL (eP (fc eI (f1 eI)))) v11), .u, .f ((eL (eT eI)) v16), .u, .f ((eT eI) v21), .f ((eL eI) v26), .f ((eL eI) v27), .u, .u, .u, .u, .u, .u, .u, .u, .u, .u]) rfl (n_O (n_T n_I)) (r_call (a_1 (r_var (e := (eT (eP (fc eI (f1 eI))))) (x := v8) rfl)) (fun (x : (List (Int × Int))) => ok_latest (k + 3) x)))) (a_1 (r_enc (r_bi1 (r_wv (e := (eL eI)) (x := v27) rfl) (fun _ => b_tupL _))))) (fun (x : D × D) => ok__law_same (k + 4) x.1 x.2))))))))) (t_ret (er := eB) (ε1 := [.f ((eL eI) a0), .f ((eT (eP (fc eI (f1 eI)))) v8), .u, .f (eD v9), .f ((eL (eP (fc eI (f1 eI)))) v11), .u, .f ((eL (eT eI)) v16), .u, .f ((eT eI) v21), .f ((eL eI) v26), .f ((eL eI) v27), .u, .u, .u, .u, .u, .u, .u, .u, .u, .u]) (w := (fun u => u)) rfl (fun u ε => pF_rt u ε) (r_lit (e := eB) rfl)) (t_if (ε1 := [.f ((eL eI) a0), .f ((eT (eP (fc eI (f1 eI)))) v8), .u, .f (eD v9), .f ((eL (eP (fc eI (f1 eI)))) v11), .u, .f ((eL (eT eI)) v16), .u, .f ((eT eI) v21), .f ((eL eI) v26), .f ((eL eI) v27), .u, .u, .u, .u, .u, .u, .u, .u, .u, .u]) rfl (c_B (r_not (c_B (r_nm1 (ε1 := [.f ((eL eI) a0), .f ((eT (eP (fc eI (f1 eI)))) v8), .u, .f (eD v9), .f ((eL (eP (fc eI (f1 eI)))) v11), .u, .f ((eL (eT eI)) v16), .u, .f ((eT eI) v21), .f ((eL eI) v26), .f ((eL eI) v27), .u, .u, .u, .u, .u, .u, .u, .u, .u, .u]) rfl n_B (r_call (a_c (r_enc (r_nm1 (ε1 := [.f ((eL eI) a0), .f ((eT (eP (fc eI (f1 eI)))) v8), .u, .f (eD v9), .f ((eL (eP (fc eI (f1 eI)))) v11), .u, .f ((eL (eT eI)) v16), .u, .f ((eT eI) v21), .f ((eL eI) v26), .f ((eL eI) v27), .u, .u, .u, .u, .u, .u, .u, .u, .u, .u]) rfl (n_O (n_T (n_P (n_c n_I (n_1 n_I))))) (r_call (a_1 (r_var (e := (eT (eP (fc eI (f1 eI))))) (x := v8) rfl)) (fun (x : (List (Int × Int))) => ok_narrowed (k + 3) x)))) (a_1 (r_enc (r_bi1 (r_lc0 (e := eI) (ε' := fun (v28 : Int) => [.f ((eL eI) a0), .f ((eT (eP (fc eI (f1 eI)))) v8), .u, .f (eD v9), .f ((eL (eP (fc eI (f1 eI)))) v11), .u, .f ((eL (eT eI)) v16), .f (eI v28), .f ((eT eI) v21), .f ((eL eI) v26), .f ((eL eI) v27), .u, .u, .u, .u, .u, .u, .u, .u, .u, .u]) (i_r1 (r_bi1 (r_wv (e := (eT (eP (fc eI (f1 eI))))) (x := v8) rfl) (fun _ => b_lenT _))) (fun _ => rfl) (fun (v28 : Int) => (r_tup (a_c (r_ixL (r_wv (e := (eL eI)) (x := v26) rfl) (r_wv (e := eI) (x := v28) rfl)) (a_1 (r_ixL (r_wv (e := (eL eI)) (x := v27) rfl) (r_wv (e := eI) (x := v28) rfl))))))) (fun _ => b_tupL _))))) (fun (x : D × D) => ok__law_same (k + 4) x.1 x.2)))))) (t_ret (er := eB) (ε1 := [.f ((eL eI) a0), .f ((eT (eP (fc eI (f1 eI)))) v8), .u, .f (eD v9), .f ((eL (eP (fc eI (f1 eI)))) v11), .u, .f ((eL (eT eI)) v16), .u, .f ((eT eI) v21), .f ((eL eI) v26), .f ((eL eI) v27), .u, .u, .u, .u, .u, .u, .u, .u, .u, .u]) (w := (fun u => u)) rfl (fun u ε => pF_rt u ε) (r_lit (e := eB) rfl)) (t_if (ε1 := [.f ((eL eI) a0), .f ((eT (eP (fc eI (f1 eI)))) v8), .u, .f (eD v9), .f ((eL (eP (fc eI (f1 eI)))) v11), .u, .f ((eL (eT eI)) v16), .u, .f ((eT eI) v21), .f ((eL eI) v26), .f ((eL eI) v27), .u, .u, .u, .u, .u, .u, .u, .u, .u, .u]) rfl (c_B (r_not (c_B (r_nm1 (ε1 := [.f ((eL eI) a0), .f ((eT (eP (fc eI (f1 eI)))) v8), .u, .f (eD v9), .f ((eL (eP (fc eI (f1 eI)))) v11), .u, .f ((eL (eT eI)) v16), .u, .f ((eT eI) v21), .f ((eL eI) v26), .f ((eL eI) v27), .u, .u, .u, .u, .u, .u, .u, .u, .u, .u]) rfl n_B (r_call (a_c (r_enc (r_nm1 (ε1 := [.f ((eL eI) a0), .f ((eT (eP (fc eI (f1 eI)))) v8), .u, .f (eD v9), .f ((eL (eP (fc eI (f1 eI)))) v11), .u, .f ((eL (eT eI)) v16), .u, .f ((eT eI) v21), .f ((eL eI) v26), .f ((eL eI) v27), .u, .u, .u, .u, .u, .u, .u, .u, .u, .u]) rfl (n_O (n_T n_I)) (r_call (a_1 (r_var (e := (eT (eP (fc eI (f1 eI))))) (x := v8) rfl)) (fun (x : (List (Int × Int))) => ok_breaks (k + 3) x)))) (a_1 (r_enc (r_bi1 (r_lc0 (e := eI) (ε' := fun (v29 : Int) => [.f ((eL eI) a0), .f ((eT (eP (fc eI (f1 eI)))) v8), .u, .f (eD v9), .f ((eL (eP (fc eI (f1 eI)))) v11), .u, .f ((eL (eT eI)) v16), .f (eI v29), .f ((eT eI) v21), .f ((eL eI) v26), .f ((eL eI) v27), .u, .u, .u, .u, .u, .u, .u, .u, .u, .u]) (i_r1 (r_sub (r_bi1 (r_wv (e := (eT (eP (fc eI (f1 eI))))) (x := v8) rfl) (fun _ => b_lenT _)) (r_lit (e := eI) rfl))) (fun _ => rfl) (fun (v29 : Int) => (r_bi2 (r_lit (e := eI) rfl) (r_sub (r_ixL (r_wv (e := (eL eI)) (x := v26) rfl) (r_add (r_wv (e := eI) (x := v29) rfl) (r_lit (e := eI) rfl))) (r_ixL (r_wv (e := (eL eI)) (x := v27) rfl) (r_wv (e := eI) (x := v29) rfl))) (fun _ _ => b_max2 _ _)))) (fun _ => b_tupL _))))) (fun (x : D × D) => ok__law_same (k + 4) x.1 x.2)))))) (t_ret (er := eB) (ε1 := [.f ((eL eI) a0), .f ((eT (eP (fc eI (f1 eI)))) v8), .u, .f (eD v9), .f ((eL (eP (fc eI (f1 eI)))) v11), .u, .f ((eL (eT eI)) v16), .u, .f ((eT eI) v21), .f ((eL eI) v26), .f ((eL eI) v27), .u, .u, .u, .u, .u, .u, .u, .u, .u, .u]) (w := (fun u => u)) rfl (fun u ε => pF_rt u ε) (r_lit (e := eB) rfl)) (t_for (e := eI) (er := eB) (ε1 := [.f ((eL eI) a0), .f ((eT (eP (fc eI (f1 eI)))) v8), .u, .f (eD v9), .f ((eL (eP (fc eI (f1 eI)))) v11), .u, .f ((eL (eT eI)) v16), .u, .f ((eT eI) v21), .f ((eL eI) v26), .f ((eL eI) v27), .u, .u, .u, .u, .u, .u, .u, .u, .u, .u]) (mk := (fun (v30 : Unit) => [.f ((eL eI) a0), .f ((eT (eP (fc eI (f1 eI)))) v8), .u, .f (eD v9), .f ((eL (eP (fc eI (f1 eI)))) v11), .u, .f ((eL (eT eI)) v16), .u, .f ((eT eI) v21), .f ((eL eI) v26), .f ((eL eI) v27), .u, .u, .u, .u, .u, .u, .u, .u, .u, .u])) (s0 := ()) (ε' := fun (v31 : Int) (v30 : Unit) => [.f ((eL eI) a0), .f ((eT (eP (fc eI (f1 eI)))) v8), .u, .f (eD v9), .f ((eL (eP (fc eI (f1 eI)))) v11), .f (eI v31), .f ((eL (eT eI)) v16), .u, .f ((eT eI) v21), .f ((eL eI) v26), .f ((eL eI) v27), .u, .u, .u, .u, .u, .u, .u, .u, .u, .u]) (w := (fun u => u)) gF rfl (fun u ε => pF_rt u ε) (.cons (.refl _) (.cons (.refl _) (.cons (.u _) (.cons (.refl _) (.cons (.refl _) (.cons (.u _) (.cons (.refl _) (.cons (.u _) (.cons (.refl _) (.cons (.refl _) (.cons (.refl _) (.cons (.u _) (.cons (.u _) (.cons (.u _) (.cons (.u _) (.cons (.u _) (.cons (.u _) (.cons (.u _) (.cons (.u _) (.cons (.u _) (.cons (.u _) .nil))))))))))))))))))))) (fun _ _ => rfl) (i_r1 (r_bi1 (r_wv (e := (eT (eP (fc eI (f1 eI))))) (x := v8) rfl) (fun _ => b_lenT _))) (fun (v31 : Int) (v30 : Unit) => (t_for (e := eI) (er := eB) (ε1 := [.f ((eL eI) a0), .f ((eT (eP (fc eI (f1 eI)))) v8), .u, .f (eD v9), .f ((eL (eP (fc eI (f1 eI)))) v11), .f (eI v31), .f ((eL (eT eI)) v16), .u, .f ((eT eI) v21), .f ((eL eI) v26), .f ((eL eI) v27), .u, .u, .u, .u, .u, .u, .u, .u, .u, .u]) (mk := (fun (v32 : Unit) => [.f ((eL eI) a0), .f ((eT (eP (fc eI (f1 eI)))) v8), .u, .f (eD v9), .f ((eL (eP (fc eI (f1 eI)))) v11), .f (eI v31), .f ((eL (eT eI)) v16), .u, .f ((eT eI) v21), .f ((eL eI) v26), .f ((eL eI) v27), .u, .u, .u, .u, .u, .u, .u, .u, .u, .u])) (s0 := ()) (ε' := fun (v33 : Int) (v32 : Unit) => [.f ((eL eI) a0), .f ((eT (eP (fc eI (f1 eI)))) v8), .u, .f (eD v9), .f ((eL (eP (fc eI (f1 eI)))) v11), .f (eI v31), .f ((eL (eT eI)) v16), .u, .f ((eT eI) v21), .f ((eL eI) v26), .f ((eL eI) v27), .u, .u, .u, .u, .u, .f (eI v33), .u, .u, .u, .u]) (w := Out.rt) gB rfl (fun u ε => pB_rt u ε) (.cons (.refl _) (.cons (.refl _) (.cons (.u _) (.cons (.refl _) (.cons (.refl _) (.cons (.refl _) (.cons (.refl _) (.cons (.u _) (.cons (.refl _) (.cons (.refl _) (.cons (.refl _) (.cons (.u _) (.cons (.u _) (.cons (.u _) (.cons (.u _) (.cons (.u _) (.cons (.u _) (.cons (.u _) (.cons (.u _) (.cons (.u _) (.cons (.u _) .nil))))))))))))))))))))) (fun _ _ => rfl) (i_r2 (r_wv (e := eI) (x := v31) rfl) (r_bi1 (r_wv (e := (eT (eP (fc eI (f1 eI))))) (x := v8) rfl) (fun _ => b_lenT _))) (fun (v33 : Int) (v32 : Unit) => (t_asg (e := (eP (fc eI (f1 eI)))) (ε1 := [.f ((eL eI) a0), .f ((eT (eP (fc eI (f1 eI)))) v8), .u, .f (eD v9), .f ((eL (eP (fc eI (f1 eI)))) v11), .f (eI v31), .f ((eL (eT eI)) v16), .u, .f ((eT eI) v21), .f ((eL eI) v26), .f ((eL eI) v27), .u, .u, .u, .u, .u, .f (eI v33), .u, .u, .u, .u]) (ε' := fun (v34 : (Int × Int)) => [.f ((eL eI) a0), .f ((eT (eP (fc eI (f1 eI)))) v8), .u, .f (eD v9), .f ((eL (eP (fc eI (f1 eI)))) v11), .f (eI v31), .f ((eL (eT eI)) v16), .u, .f ((eT eI) v21), .f ((eL eI) v26), .f ((eL eI) v27), .u, .u, .u, .u, .u, .f (eI v33), .u, .u, .f ((eP (fc eI (f1 eI))) v34), .u]) rfl (fun _ => rfl) (r_ite (c_B (r_cmpI rfl (r_wv (e := eI) (x := v31) rfl) (r_wv (e := eI) (x := v33) rfl))) (r_tup (a_c (r_lit (e := eI) rfl) (a_1 (r_lit (e := eI) rfl)))) (r_tup (a_c (r_bi2 (r_lit (e := eI) rfl) (r_sub (r_ixL (r_wv (e := (eL eI)) (x := v26) rfl) (r_wv (e := eI) (x := v33) rfl)) (r_ixL (r_wv (e := (eL eI)) (x := v27) rfl) (r_wv (e := eI) (x := v31) rfl))) (fun _ _ => b_max2 _ _)) (a_1 (r_sub (r_ixL (r_wv (e := (eL eI)) (x := v27) rfl) (r_wv (e := eI) (x := v33) rfl)) (r_ixL (r_wv (e := (eL eI)) (x := v26) rfl) (r_wv (e := eI) (x := v31) rfl))))))) (fun (v34 : (Int × Int)) => (t_if (ε1 := [.f ((eL eI) a0), .f ((eT (eP (fc eI (f1 eI)))) v8), .u, .f (eD v9), .f ((eL (eP (fc eI (f1 eI)))) v11), .f (eI v31), .f ((eL (eT eI)) v16), .u, .f ((eT eI) v21), .f ((eL eI) v26), .f ((eL eI) v27), .u, .u, .u, .u, .u, .f (eI v33), .u, .u, .f ((eP (fc eI (f1 eI))) v34), .u]) rfl (c_B (r_not (c_B (r_nm1 (ε1 := [.f ((eL eI) a0), .f ((eT (eP (fc eI (f1 eI)))) v8), .u, .f (eD v9), .f ((eL (eP (fc eI (f1 eI)))) v11), .f (eI v31), .f ((eL (eT eI)) v16), .u, .f ((eT eI) v21), .f ((eL eI) v26), .f ((eL eI) v27), .u, .u, .u, .u, .u, .f (eI v33), .u, .u, .f ((eP (fc eI (f1 eI))) v34), .u]) rfl n_B (r_call (a_c (r_enc (r_nm1 (ε1 := [.f ((eL eI) a0), .f ((eT (eP (fc eI (f1 eI)))) v8), .u, .f (eD v9), .f ((eL (eP (fc eI (f1 eI)))) v11), .f (eI v31), .f ((eL (eT eI)) v16), .u, .f ((eT eI) v21), .f ((eL eI) v26), .f ((eL eI) v27), .u, .u, .u, .u, .u, .f (eI v33), .u, .u, .f ((eP (fc eI (f1 eI))) v34), .u]) rfl (n_O (n_P (n_c n_I (n_1 n_I)))) (r_call (a_c (r_var (e := (eT (eP (fc eI (f1 eI))))) (x := v8) rfl) (a_c (r_var (e := eI) (x := v31) rfl) (a_1 (r_var (e := eI) (x := v33) rfl)))) (fun (x : (List (Int × Int)) × Int × Int) => ok_span (k + 3) x.1 x.2.1 x.2.2)))) (a_1 (r_enc (r_var (e := (eP (fc eI (f1 eI)))) (x := v34) rfl)))) (fun (x : D × D) => ok__law_same (k + 4) x.1 x.2)))))) (t_ret (er := eB) (ε1 := [.f ((eL eI) a0), .f ((eT (eP (fc eI (f1 eI)))) v8), .u, .f (eD v9), .f ((eL (eP (fc eI (f1 eI)))) v11), .f (eI v31), .f ((eL (eT eI)) v16), .u, .f ((eT eI) v21), .f ((eL eI) v26), .f ((eL eI) v27), .u, .u, .u, .u, .u, .f (eI v33), .u, .u, .f ((eP (fc eI (f1 eI))) v34), .u]) (w := Out.rt) rfl (fun u ε => pB_rt u ε) (r_lit (e := eB) rfl)) (y_end (pB_nx (.cons (.refl _) (.cons (.refl _) (.cons (.u _) (.cons (.refl _) (.cons (.refl _) (.cons (.refl _) (.cons (.refl _) (.cons (.u _) (.cons (.refl _) (.cons (.refl _) (.cons (.refl _) (.cons (.u _) (.cons (.u _) (.cons (.u _) (.cons (.u _) (.cons (.u _) (.cons (.u _) (.cons (.u _) (.cons (.u _) (.cons (.u _) (.cons (.u _) .nil))))))))))))))))))))))))))) (fun (v32 : Unit) => (y_end (pB_nx (.cons (.refl _) (.cons (.refl _) (.cons (.u _) (.cons (.refl _) (.cons (.refl _) (.cons (.u _) (.cons (.refl _) (.cons (.u _) (.cons (.refl _) (.cons (.refl _) (.cons (.refl _) (.cons (.u _) (.cons (.u _) (.cons (.u _) (.cons (.u _) (.cons (.u _) (.cons (.u _) (.cons (.u _) (.cons (.u _) (.cons (.u _) (.cons (.u _) .nil)))))))))))))))))))))))))) (fun (v30 : Unit) => (t_asg (e := eI) (ε1 := [.f ((eL eI) a0), .f ((eT (eP (fc eI (f1 eI)))) v8), .u, .f (eD v9), .f ((eL (eP (fc eI (f1 eI)))) v11), .u, .f ((eL (eT eI)) v16), .u, .f ((eT eI) v21), .f ((eL eI) v26), .f ((eL eI) v27), .u, .u, .u, .u, .u, .u, .u, .u, .u, .u]) (ε' := fun (v35 : Int) => [.f ((eL eI) a0), .f ((eT (eP (fc eI (f1 eI)))) v8), .u, .f (eD v9), .f ((eL (eP (fc eI (f1 eI)))) v11), .u, .f ((eL (eT eI)) v16), .u, .f ((eT eI) v21), .f ((eL eI) v26), .f ((eL eI) v27), .f (eI v35), .u, .u, .u, .u, .u, .u, .u, .u, .u]) rfl (fun _ => rfl) (r_mod (r_nm1 (ε1 := [.f ((eL eI) a0), .f ((eT (eP (fc eI (f1 eI)))) v8), .u, .f (eD v9), .f ((eL (eP (fc eI (f1 eI)))) v11), .u, .f ((eL (eT eI)) v16), .u, .f ((eT eI) v21), .f ((eL eI) v26), .f ((eL eI) v27), .u, .u, .u, .u, .u, .u, .u, .u, .u, .u]) rfl n_I (r_call (a_c (r_var (e := (eL eI)) (x := a0) rfl) (a_1 (r_lit (e := eI) rfl))) (fun (x : (List Int) × Int) => ok__law_cell (k + 47) x.1 x.2))) (r_lit (e := eI) rfl)) (fun (v35 : Int) => (t_if (ε1 := [.f ((eL eI) a0), .f ((eT (eP (fc eI (f1 eI)))) v8), .u, .f (eD v9), .f ((eL (eP (fc eI (f1 eI)))) v11), .u, .f ((eL (eT eI)) v16), .u, .f ((eT eI) v21), .f ((eL eI) v26), .f ((eL eI) v27), .f (eI v35), .u, .u, .u, .u, .u, .u, .u, .u, .u]) rfl (c_B (r_not (c_B (r_nm1 (ε1 := [.f ((eL eI) a0), .f ((eT (eP (fc eI (f1 eI)))) v8), .u, .f (eD v9), .f ((eL (eP (fc eI (f1 eI)))) v11), .u, .f ((eL (eT eI)) v16), .u, .f ((eT eI) v21), .f ((eL eI) v26), .f ((eL eI) v27), .f (eI v35), .u, .u, .u, .u, .u, .u, .u, .u, .u]) rfl n_B (r_call (a_c (r_enc (r_nm1 (ε1 := [.f ((eL eI) a0), .f ((eT (eP (fc eI (f1 eI)))) v8), .u, .f (eD v9), .f ((eL (eP (fc eI (f1 eI)))) v11), .u, .f ((eL (eT eI)) v16), .u, .f ((eT eI) v21), .f ((eL eI) v26), .f ((eL eI) v27), .f (eI v35), .u, .u, .u, .u, .u, .u, .u, .u, .u]) rfl (n_T n_I) (r_call (a_c (r_var (e := (eT (eP (fc eI (f1 eI))))) (x := v8) rfl) (a_1 (r_var (e := eI) (x := v35) rfl))) (fun (x : (List (Int × Int)) × Int) => ok_at_year (k + 3) x.1 x.2)))) (a_1 (r_enc (r_bi1 (r_lc1 (e := eI) (ε' := fun (v36 : Int) => [.f ((eL eI) a0), .f ((eT (eP (fc eI (f1 eI)))) v8), .u, .f (eD v9), .f ((eL (eP (fc eI (f1 eI)))) v11), .u, .f ((eL (eT eI)) v16), .f (eI v36), .f ((eT eI) v21), .f ((eL eI) v26), .f ((eL eI) v27), .f (eI v35), .u, .u, .u, .u, .u, .u, .u, .u, .u]) (i_r1 (r_bi1 (r_wv (e := (eT (eP (fc eI (f1 eI))))) (x := v8) rfl) (fun _ => b_lenT _))) (fun _ => rfl) (fun (v36 : Int) => (c_B (r_chI rfl rfl (r_ixL (r_wv (e := (eL eI)) (x := v26) rfl) (r_wv (e := eI) (x := v36) rfl)) (r_wv (e := eI) (x := v35) rfl) (r_ixL (r_wv (e := (eL eI)) (x := v27) rfl) (r_wv (e := eI) (x := v36) rfl))))) (fun (v36 : Int) => (r_var (e := eI) (x := v36) rfl))) (fun _ => b_tupL _))))) (fun (x : D × D) => ok__law_same (k + 4) x.1 x.2)))))) (t_ret (er := eB) (ε1 := [.f ((eL eI) a0), .f ((eT (eP (fc eI (f1 eI)))) v8), .u, .f (eD v9), .f ((eL (eP (fc eI (f1 eI)))) v11), .u, .f ((eL (eT eI)) v16), .u, .f ((eT eI) v21), .f ((eL eI) v26), .f ((eL eI) v27), .f (eI v35), .u, .u, .u, .u, .u, .u, .u, .u, .u]) (w := (fun u => u)) rfl (fun u ε => pF_rt u ε) (r_lit (e := eB) rfl)) (t_asg (e := eI) (ε1 := [.f ((eL eI) a0), .f ((eT (eP (fc eI (f1 eI)))) v8), .u, .f (eD v9), .f ((eL (eP (fc eI (f1 eI)))) v11), .u, .f ((eL (eT eI)) v16), .u, .f ((eT eI) v21), .f ((eL eI) v26), .f ((eL eI) v27), .f (eI v35), .u, .u, .u, .u, .u, .u, .u, .u, .u]) (ε' := fun (v37 : Int) => [.f ((eL eI) a0), .f ((eT (eP (fc eI (f1 eI)))) v8), .u, .f (eD v9), .f ((eL (eP (fc eI (f1 eI)))) v11), .u, .f ((eL (eT eI)) v16), .u, .f ((eT eI) v21), .f ((eL eI) v26), .f ((eL eI) v27), .f (eI v35), .f (eI v37), .u, .u, .u, .u, .u, .u, .u, .u]) rfl (fun _ => rfl) (r_lit (e := eI) rfl) (fun (v37 : Int) => (t_asg (e := (eL eI)) (ε1 := [.f ((eL eI) a0), .f ((eT (eP (fc eI (f1 eI)))) v8), .u, .f (eD v9), .f ((eL (eP (fc eI (f1 eI)))) v11), .u, .f ((eL (eT eI)) v16), .u, .f ((eT eI) v21), .f ((eL eI) v26), .f ((eL eI) v27), .f (eI v35), .f (eI v37), .u, .u, .u, .u, .u, .u, .u, .u]) (ε' := fun (v38 : (List Int)) => [.f ((eL eI) a0), .f ((eT (eP (fc eI (f1 eI)))) v8), .u, .f (eD v9), .f ((eL (eP (fc eI (f1 eI)))) v11), .u, .f ((eL (eT eI)) v16), .u, .f ((eT eI) v21), .f ((eL eI) v26), .f ((eL eI) v27), .f (eI v35), .f (eI v37), .o ((eL eI) v38), .u, .u, .u, .u, .u, .u, .u]) rfl (fun _ => rfl) (r_lstH (e := eI) h_n) (fun (v38 : (List Int)) => (t_forN (e := eI) (ε1 := [.f ((eL eI) a0), .f ((eT (eP (fc eI (f1 eI)))) v8), .u, .f (eD v9), .f ((eL (eP (fc eI (f1 eI)))) v11), .u, .f ((eL (eT eI)) v16), .u, .f ((eT eI) v21), .f ((eL eI) v26), .f ((eL eI) v27), .f (eI v35), .f (eI v37), .o ((eL eI) v38), .u, .u, .u, .u, .u, .u, .u]) (mk := (fun (v39 : (Int × (List Int))) => [.f ((eL eI) a0), .f ((eT (eP (fc eI (f1 eI)))) v8), .u, .f (eD v9), .f ((eL (eP (fc eI (f1 eI)))) v11), .u, .f ((eL (eT eI)) v16), .u, .f ((eT eI) v21), .f ((eL eI) v26), .f ((eL eI) v27), .f (eI v35), .f (eI v39.1), .o ((eL eI) v39.2), .u, .u, .u, .u, .u, .u, .u])) (s0 := (v37, v38)) (ε' := fun (v40 : Int) (v39 : (Int × (List Int))) => [.f ((eL eI) a0), .f ((eT (eP (fc eI (f1 eI)))) v8), .u, .f (eD v9), .f ((eL (eP (fc eI (f1 eI)))) v11), .u, .f ((eL (eT eI)) v16), .f (eI v40), .f ((eT eI) v21), .f ((eL eI) v26), .f ((eL eI) v27), .f (eI v35), .f (eI v39.1), .o ((eL eI) v39.2), .u, .u, .u, .u, .u, .u, .u]) gF rfl (.cons (.refl _) (.cons (.refl _) (.cons (.u _) (.cons (.refl _) (.cons (.refl _) (.cons (.u _) (.cons (.refl _) (.cons (.u _) (.cons (.refl _) (.cons (.refl _) (.cons (.refl _) (.cons (.refl _) (.cons (.refl _) (.cons (.refl _) (.cons (.u _) (.cons (.u _) (.cons (.u _) (.cons (.u _) (.cons (.u _) (.cons (.u _) (.cons (.u _) .nil))))))))))))))))))))) (fun _ _ => rfl) (i_r1 (r_bi1 (r_wv (e := (eT (eP (fc eI (f1 eI))))) (x := v8) rfl) (fun _ => b_lenT _))) (fun (v40 : Int) (v39 : (Int × (List Int))) => (t_app (e := eI) (xs := v39.2) (ε1 := [.f ((eL eI) a0), .f ((eT (eP (fc eI (f1 eI)))) v8), .u, .f (eD v9), .f ((eL (eP (fc eI (f1 eI)))) v11), .u, .f ((eL (eT eI)) v16), .f (eI v40), .f ((eT eI) v21), .f ((eL eI) v26), .f ((eL eI) v27), .f (eI v35), .f (eI v39.1), .o ((eL eI) v39.2), .u, .u, .u, .u, .u, .u, .u]) (ε' := fun (v41 : Int) => [.f ((eL eI) a0), .f ((eT (eP (fc eI (f1 eI)))) v8), .u, .f (eD v9), .f ((eL (eP (fc eI (f1 eI)))) v11), .u, .f ((eL (eT eI)) v16), .f (eI v40), .f ((eT eI) v21), .f ((eL eI) v26), .f ((eL eI) v27), .f (eI v35), .f (eI v39.1), .o ((eL eI) (v39.2 ++ [v41])), .u, .u, .u, .u, .u, .u, .u]) rfl rfl (fun _ => rfl) (r_add (r_lit (e := eI) rfl) (r_mod (r_bi1 (r_div (r_nm1 (ε1 := [.f ((eL eI) a0), .f ((eT (eP (fc eI (f1 eI)))) v8), .u, .f (eD v9), .f ((eL (eP (fc eI (f1 eI)))) v11), .u, .f ((eL (eT eI)) v16), .f (eI v40), .f ((eT eI) v21), .f ((eL eI) v26), .f ((eL eI) v27), .f (eI v35), .f (eI v39.1), .f ((eL eI) v39.2), .u, .u, .u, .u, .u, .u, .u]) rfl n_I (r_call (a_c (r_var (e := (eL eI)) (x := a0) rfl) (a_1 (r_lit (e := eI) rfl))) (fun (x : (List Int) × Int) => ok__law_cell (k + 47) x.1 x.2))) (r_add (r_lit (e := eI) rfl) (r_wv (e := eI) (x := v40) rfl))) (fun _ => b_intI _)) (r_lit (e := eI) rfl))) (fun (v41 : Int) => (t_asg (e := eI) (ε1 := [.f ((eL eI) a0), .f ((eT (eP (fc eI (f1 eI)))) v8), .u, .f (eD v9), .f ((eL (eP (fc eI (f1 eI)))) v11), .u, .f ((eL (eT eI)) v16), .f (eI v40), .f ((eT eI) v21), .f ((eL eI) v26), .f ((eL eI) v27), .f (eI v35), .f (eI v39.1), .o ((eL eI) (v39.2 ++ [v41])), .u, .u, .u, .u, .u, .u, .u]) (ε' := fun (v42 : Int) => [.f ((eL eI) a0), .f ((eT (eP (fc eI (f1 eI)))) v8), .u, .f (eD v9), .f ((eL (eP (fc eI (f1 eI)))) v11), .u, .f ((eL (eT eI)) v16), .f (eI v40), .f ((eT eI) v21), .f ((eL eI) v26), .f ((eL eI) v27), .f (eI v35), .f (eI v42), .o ((eL eI) (v39.2 ++ [v41])), .u, .u, .u, .u, .u, .u, .u]) rfl (fun _ => rfl) (r_add (r_wv (e := eI) (x := v39.1) rfl) (r_ixL (r_wo (e := (eL eI)) (x := (v39.2 ++ [v41])) rfl) (r_neg (r_lit (e := eI) rfl)))) (fun (v42 : Int) => (y_end (pN_nx (.cons (.refl _) (.cons (.refl _) (.cons (.u _) (.cons (.refl _) (.cons (.refl _) (.cons (.u _) (.cons (.refl _) (.cons (.u _) (.cons (.refl _) (.cons (.refl _) (.cons (.refl _) (.cons (.refl _) (.cons (.refl _) (.cons (.refl _) (.cons (.u _) (.cons (.u _) (.cons (.u _) (.cons (.u _) (.cons (.u _) (.cons (.u _) (.cons (.u _) .nil)))))))))))))))))))))))))))) (fun (v39 : (Int × (List Int))) => (t_asg (e := (eP (fc eI (f1 eI)))) (ε1 := [.f ((eL eI) a0), .f ((eT (eP (fc eI (f1 eI)))) v8), .u, .f (eD v9), .f ((eL (eP (fc eI (f1 eI)))) v11), .u, .f ((eL (eT eI)) v16), .u, .f ((eT eI) v21), .f ((eL eI) v26), .f ((eL eI) v27), .f (eI v35), .f (eI v39.1), .o ((eL eI) v39.2), .u, .u, .u, .u, .u, .u, .u]) (ε' := fun (v43 : (Int × Int)) => [.f ((eL eI) a0), .f ((eT (eP (fc eI (f1 eI)))) v8), .u, .f (eD v9), .f ((eL (eP (fc eI (f1 eI)))) v11), .u, .f ((eL (eT eI)) v16), .u, .f ((eT eI) v21), .f ((eL eI) v26), .f ((eL eI) v27), .f (eI v35), .f (eI v39.1), .o ((eL eI) v39.2), .u, .u, .u, .f (eI v43.1), .f (eI v43.2), .u, .u]) rfl (fun _ => rfl) (r_ite (c_B (r_cmpI rfl (r_bi1 (r_wv (e := (eT (eP (fc eI (f1 eI))))) (x := v8) rfl) (fun _ => b_lenT _)) (r_lit (e := eI) rfl))) (r_tup (a_c (r_bi2 (r_lit (e := eI) rfl) (r_sub (r_ixL (r_wv (e := (eL eI)) (x := v26) rfl) (r_neg (r_lit (e := eI) rfl))) (r_ixL (r_wv (e := (eL eI)) (x := v27) rfl) (r_lit (e := eI) rfl))) (fun _ _ => b_max2 _ _)) (a_1 (r_sub (r_ixL (r_wv (e := (eL eI)) (x := v27) rfl) (r_neg (r_lit (e := eI) rfl))) (r_ixL (r_wv (e := (eL eI)) (x := v26) rfl) (r_lit (e := eI) rfl)))))) (r_tup (a_c (r_lit (e := eI) rfl) (a_1 (r_lit (e := eI) rfl))))) (fun (v43 : (Int × Int)) => (t_ret (er := eB) (ε1 := [.f ((eL eI) a0), .f ((eT (eP (fc eI (f1 eI)))) v8), .u, .f (eD v9), .f ((eL (eP (fc eI (f1 eI)))) v11), .u, .f ((eL (eT eI)) v16), .u, .f ((eT eI) v21), .f ((eL eI) v26), .f ((eL eI) v27), .f (eI v35), .f (eI v39.1), .f ((eL eI) v39.2), .u, .u, .u, .f (eI v43.1), .f (eI v43.2), .u, .u]) (w := (fun u => u)) rfl (fun u ε => pF_rt u ε) (r_nm1 (ε1 := [.f ((eL eI) a0), .f ((eT (eP (fc eI (f1 eI)))) v8), .u, .f (eD v9), .f ((eL (eP (fc eI (f1 eI)))) v11), .u, .f ((eL (eT eI)) v16), .u, .f ((eT eI) v21), .f ((eL eI) v26), .f ((eL eI) v27), .f (eI v35), .f (eI v39.1), .f ((eL eI) v39.2), .u, .u, .u, .f (eI v43.1), .f (eI v43.2), .u, .u]) rfl n_B (r_call (a_c (r_enc (r_nm1 (ε1 := [.f ((eL eI) a0), .f ((eT (eP (fc eI (f1 eI)))) v8), .u, .f (eD v9), .f ((eL (eP (fc eI (f1 eI)))) v11), .u, .f ((eL (eT eI)) v16), .u, .f ((eT eI) v21), .f ((eL eI) v26), .f ((eL eI) v27), .f (eI v35), .f (eI v39.1), .f ((eL eI) v39.2), .u, .u, .u, .f (eI v43.1), .f (eI v43.2), .u, .u]) rfl (n_O (n_P (n_c (n_O (n_P (n_c n_I (n_1 n_I)))) (n_1 (n_O (n_P (n_c n_I (n_1 n_I)))))))) (r_call (a_c (r_var (e := (eT (eP (fc eI (f1 eI))))) (x := v8) rfl) (a_1 (r_var (e := (eL eI)) (x := v39.2) rfl))) (fun (x : (List (Int × Int)) × (List Int)) => ok_rate (k + 3) x.1 x.2)))) (a_1 (r_enc (r_tup (a_c (r_ite (c_B (r_cmpI rfl (r_wv (e := eI) (x := v43.2) rfl) (r_lit (e := eI) rfl))) (r_some (r_nm1 (ε1 := [.f ((eL eI) a0), .f ((eT (eP (fc eI (f1 eI)))) v8), .u, .f (eD v9), .f ((eL (eP (fc eI (f1 eI)))) v11), .u, .f ((eL (eT eI)) v16), .u, .f ((eT eI) v21), .f ((eL eI) v26), .f ((eL eI) v27), .f (eI v35), .f (eI v39.1), .f ((eL eI) v39.2), .u, .u, .u, .f (eI v43.1), .f (eI v43.2), .u, .u]) rfl (n_P (n_c n_I (n_1 n_I))) (r_call (a_c (r_var (e := eI) (x := v39.1) rfl) (a_1 (r_var (e := eI) (x := v43.2) rfl))) (fun (x : Int × Int) => ok__law_frac (k + 46) x.1 x.2)))) (r_conv (e' := (eO (eP (fc eI (f1 eI))))) (fun _ => rfl) (r_lit (e := eN) rfl))) (a_1 (r_ite (c_B (r_cmpI rfl (r_wv (e := eI) (x := v43.1) rfl) (r_lit (e := eI) rfl))) (r_some (r_nm1 (ε1 := [.f ((eL eI) a0), .f ((eT (eP (fc eI (f1 eI)))) v8), .u, .f (eD v9), .f ((eL (eP (fc eI (f1 eI)))) v11), .u, .f ((eL (eT eI)) v16), .u, .f ((eT eI) v21), .f ((eL eI) v26), .f ((eL eI) v27), .f (eI v35), .f (eI v39.1), .f ((eL eI) v39.2), .u, .u, .u, .f (eI v43.1), .f (eI v43.2), .u, .u]) rfl (n_P (n_c n_I (n_1 n_I))) (r_call (a_c (r_var (e := eI) (x := v39.1) rfl) (a_1 (r_var (e := eI) (x := v43.1) rfl))) (fun (x : Int × Int) => ok__law_frac (k + 46) x.1 x.2)))) (r_conv (e' := (eO (eP (fc eI (f1 eI))))) (fun _ => rfl) (r_lit (e := eN) rfl))))))))) (fun (x : D × D) => ok__law_same (k + 4) x.1 x.2))))))))))))))))))))))))))))))))))))))))))))))

end K06
end Ws

set_option Elab.async false
set_option linter.all false
set_option maxRecDepth 100000
set_option maxHeartbeats 400000
namespace Ws
namespace K06
open PySem
abbrev Ly := List (Int × Int)
structure okL (L : Ly) : Prop where
  l1 : 1 ≤ L.length
  l6 : L.length ≤ 6
  ok : ∀ p ∈ L, (0 ≤ p.1 ∧ p.1 ≤ 29) ∧ (0 ≤ p.2 ∧ p.2 ≤ 60)
def lyAt (L : Ly) (i : Nat) : Int × Int := L.getD i (0, 0)
theorem ly_ok {L : Ly} (h : okL L) {i : Nat} (hi : i < L.length) : (0 ≤ (lyAt L i).1 ∧ (lyAt L i).1 ≤ 29) ∧ (0 ≤ (lyAt L i).2 ∧ (lyAt L i).2 ≤ 60) := by
  have e : lyAt L i = L[i] := by unfold lyAt; rw [List.getD_eq_getElem?_getD, List.getElem?_eq_getElem hi]; rfl
  rw [e]
  exact h.ok _ (List.getElem_mem hi)
def mx (a b : Int) : Int := if b > a then b else a
def mn (a b : Int) : Int := if b < a then b else a
def lows : Int → Ly → List Int
  | _, [] => []
  | m, p :: r => mx m p.1 :: lows (mx m p.1) r
def suits : Int → Ly → Bool
  | _, [] => true
  | m, p :: r => decide (mx m p.1 ≤ p.2) && suits (mx m p.1) r
def mins : Int → List Int → List Int
  | _, [] => []
  | m, o :: r => mn m o :: mins (mn m o) r
def highs (L : Ly) : List Int := (mins 9999 (L.reverse.map (·.2))).reverse
theorem lows_len : ∀ (L : Ly) (m : Int), (lows m L).length = L.length
  | [], _ => rfl
  | p :: r, m => by show (lows _ r).length + 1 = r.length + 1; rw [lows_len r]
theorem mins_len : ∀ (l : List Int) (m : Int), (mins m l).length = l.length
  | [], _ => rfl
  | p :: r, m => by show (mins _ r).length + 1 = r.length + 1; rw [mins_len r]
theorem highs_len (L : Ly) : (highs L).length = L.length := by
  unfold highs
  rw [List.length_reverse, mins_len, List.length_map, List.length_reverse]
theorem mx_nn {y : Int} (h : 0 ≤ y) : mx 0 y = y := by unfold mx; split <;> omega
theorem mn_99 {o : Int} (h : o ≤ 9999) : mn 9999 o = o := by unfold mn; split <;> omega
def lowAt (m : Int) (L : Ly) (i : Nat) : Int := (lows m L).getD i 0
theorem suits_iff : ∀ (L : Ly) (m : Int), suits m L = true ↔ ∀ i, i < L.length → lowAt m L i ≤ (lyAt L i).2
  | [], m => ⟨fun _ i hi => (by cases hi), fun _ => rfl⟩
  | p :: r, m => by
    have ih := suits_iff r (mx m p.1)
    show (decide (mx m p.1 ≤ p.2) && suits (mx m p.1) r) = true ↔ _
    rw [Bool.and_eq_true, decide_eq_true_eq, ih]
    refine ⟨fun ⟨h1, h2⟩ i hi => ?_, fun h => ⟨h 0 (by simp), fun i hi => h (i + 1) (by simp; omega)⟩⟩
    cases i with
    | zero => exact h1
    | succ i => exact h2 i (by simpa using hi)
def lo (L : Ly) (i : Nat) : Int := lowAt 0 L i
def hi (L : Ly) (i : Nat) : Int := (highs L).getD i 0
def spanP (L : Ly) (i j : Nat) : Int × Int := if i = j then (0, 0) else (mx 0 (lo L j - hi L i), hi L j - lo L i)
def atF (L : Ly) (y : Int) : List Nat := (List.range L.length).filter fun i => decide (lo L i ≤ y) && decide (y ≤ hi L i)
theorem gcd_small (u l : Nat) (h : 0 < l) (h2 : l ≤ 1000) : 0 < Nat.gcd u l ∧ Nat.gcd u l ≤ 1000 :=
  ⟨Nat.gcd_pos_of_pos_right u h, Nat.le_trans (Nat.le_of_dvd h (Nat.gcd_dvd_right u l)) h2⟩
def bad (L : Ly) (i j : Nat) : Bool := decide ((lyAt L j).2 < (lyAt L i).1)
def rowB (L : Ly) (i : Nat) : List (Nat × Nat) := ((List.range (L.length - i)).filter fun d => bad L i (i + d)).map fun d => (i, i + d)
def prs (L : Ly) : List (Nat × Nat) := (List.range L.length).flatMap (rowB L)
theorem rowB_len (L : Ly) (i : Nat) : (rowB L i).length ≤ L.length := by
  unfold rowB
  rw [List.length_map]
  have := List.length_filter_le (fun d => bad L i (i + d)) (List.range (L.length - i))
  rw [List.length_range] at this
  omega
theorem prs_len (L : Ly) (h : L.length ≤ 6) : (prs L).length ≤ 36 := by
  have := flat_len (f := rowB L) (n := 6) (l := List.range L.length) fun i _ => by have := rowB_len L i; omega
  rw [List.length_range] at this
  unfold prs
  omega
theorem prs_mem {L : Ly} {p : Nat × Nat} : p ∈ prs L ↔ p.1 ≤ p.2 ∧ p.2 < L.length ∧ bad L p.1 p.2 = true := by
  unfold prs rowB
  rw [List.mem_flatMap]
  constructor
  · rintro ⟨i, hi, hp⟩
    obtain ⟨d, hd, rfl⟩ := List.mem_map.mp hp
    obtain ⟨h1, h2⟩ := List.mem_filter.mp hd
    have := List.mem_range.mp h1
    have := List.mem_range.mp hi
    exact ⟨by show i ≤ i + d; omega, by show i + d < _; omega, h2⟩
  · rintro ⟨h1, h2, h3⟩
    refine ⟨p.1, List.mem_range.mpr (by omega), List.mem_map.mpr ⟨p.2 - p.1, List.mem_filter.mpr ⟨List.mem_range.mpr (by omega), ?_⟩, ?_⟩⟩
    · rw [show p.1 + (p.2 - p.1) = p.2 by omega]; exact h3
    · show (p.1, p.1 + (p.2 - p.1)) = p
      rw [show p.1 + (p.2 - p.1) = p.2 by omega]
def addK (u : List Nat) (i : Nat) : List Nat := if i ∈ u then u else u ++ [i]
def noF (L : Ly) : List Nat → List (Nat × Nat) → Bool
  | _, [] => true
  | u, p :: r => bad L p.1 p.2 && (!(decide (p.1 ∈ u) || decide (p.2 ∈ u)) && noF L (addK (addK u p.1) p.2) r)
theorem sort_first {α : Type} {le : α → α → Bool} {m : α} (hr : le m m = true) : ∀ {l : List α}, m ∈ l → (∀ x ∈ l, x = m ∨ (le m x = true ∧ le x m = false)) → ∃ rest, sortD le l = m :: rest
  | [], h, _ => by cases h
  | x :: xs, h, hh => by
    show ∃ rest, insD le x (sortD le xs) = m :: rest
    by_cases c : m ∈ xs
    · obtain ⟨rest, e⟩ := sort_first hr c fun y hy => hh y (List.mem_cons_of_mem _ hy)
      rw [e]
      show ∃ r, (if le x m then x :: m :: rest else m :: insD le x rest) = m :: r
      rcases hh x List.mem_cons_self with z | ⟨_, z⟩
      · subst z
        rw [if_pos hr]
        exact ⟨_, rfl⟩
      · rw [if_neg (by rw [z]; exact Bool.false_ne_true)]
        exact ⟨_, rfl⟩
    · have e : x = m := by
        rcases List.mem_cons.mp h with h | h
        · exact h.symm
        · exact absurd h c
      subst e
      cases es : sortD le xs with
      | nil => exact ⟨[], rfl⟩
      | cons y ys =>
        have hy : y ∈ xs := sortD_mem (le := le) (by rw [es]; exact List.mem_cons_self)
        show ∃ r, (if le x y then x :: y :: ys else y :: insD le x ys) = x :: r
        rcases hh y (List.mem_cons_of_mem _ hy) with z | ⟨z, _⟩
        · exact absurd (z ▸ hy) c
        · rw [if_pos z]
          exact ⟨_, rfl⟩
def opt : Ly → Int → Int
  | [], _ => 0
  | p :: r, m => if mx m p.1 ≤ p.2 then mn (1 + opt r m) (opt r (mx m p.1)) else 1 + opt r m
def gr : Nat → Ly → Int → List Nat
  | _, [], _ => []
  | k, p :: r, m => if opt (p :: r) m = 1 + opt r m then k :: gr (k + 1) r m else gr (k + 1) r (mx m p.1)
theorem opt_nn : ∀ (L : Ly) (m : Int), 0 ≤ opt L m
  | [], _ => Int.le_refl _
  | p :: r, m => by
    have h1 := opt_nn r m
    have h2 := opt_nn r (mx m p.1)
    show 0 ≤ if mx m p.1 ≤ p.2 then mn (1 + opt r m) (opt r (mx m p.1)) else 1 + opt r m
    unfold mn
    split
    · split <;> omega
    · omega
def kp : Nat → Ly → List Nat → Ly
  | _, [], _ => []
  | k, p :: r, off => if k ∈ off then kp (k + 1) r off else p :: kp (k + 1) r off
def inc (k n : Nat) (off : List Nat) : Prop := off.Pairwise (· < ·) ∧ ∀ x ∈ off, k ≤ x ∧ x < k + n
theorem kp_skip : ∀ (r : Ly) (k x : Nat) (off : List Nat), x < k → kp k r (x :: off) = kp k r off
  | [], _, _, _, _ => rfl
  | p :: r, k, x, off, h => by
    show (if k ∈ x :: off then _ else _) = if k ∈ off then _ else _
    rw [kp_skip r (k + 1) x off (by omega)]
    by_cases z : k ∈ off
    · rw [if_pos z, if_pos (List.mem_cons_of_mem _ z)]
    · rw [if_neg z, if_neg (fun y => (List.mem_cons.mp y).elim (fun e => by omega) z)]
theorem off_cases {p : Int × Int} {r : Ly} {k : Nat} {m : Int} {off : List Nat} (hi : inc k (r.length + 1) off) (hs : suits m (kp k (p :: r) off) = true) :
    (∃ off', off = k :: off' ∧ inc (k + 1) r.length off' ∧ suits m (kp (k + 1) r off') = true) ∨ (k ∉ off ∧ inc (k + 1) r.length off ∧ mx m p.1 ≤ p.2 ∧ suits (mx m p.1) (kp (k + 1) r off) = true) := by
  obtain ⟨h1, h2⟩ := hi
  have hs : suits m (if k ∈ off then kp (k + 1) r off else p :: kp (k + 1) r off) = true := hs
  by_cases z : k ∈ off
  · rw [if_pos z] at hs
    cases off with
    | nil => cases z
    | cons x off' =>
      obtain ⟨q1, q2⟩ := List.pairwise_cons.mp h1
      have hx : x = k := by
        rcases List.mem_cons.mp z with e | e
        · exact e.symm
        · have := q1 k e
          have := (h2 x List.mem_cons_self).1
          omega
      subst hx
      refine .inl ⟨off', rfl, ⟨q2, fun y hy => ?_⟩, ?_⟩
      · have := q1 y hy
        have := h2 y (List.mem_cons_of_mem _ hy)
        omega
      · rwa [kp_skip r (x + 1) x off' (by omega)] at hs
  · rw [if_neg z] at hs
    have hs : (decide (mx m p.1 ≤ p.2) && suits (mx m p.1) (kp (k + 1) r off)) = true := hs
    rw [Bool.and_eq_true, decide_eq_true_eq] at hs
    refine .inr ⟨z, ⟨h1, fun y hy => ?_⟩, hs.1, hs.2⟩
    have := h2 y hy
    have : y ≠ k := fun e => z (e ▸ hy)
    omega
theorem opt_le : ∀ (L : Ly) (k : Nat) (m : Int) (off : List Nat), inc k L.length off → suits m (kp k L off) = true → opt L m ≤ off.length
  | [], _, _, off, _, _ => by show (0 : Int) ≤ _; omega
  | p :: r, k, m, off, hi, hs => by
    show (if mx m p.1 ≤ p.2 then mn (1 + opt r m) (opt r (mx m p.1)) else 1 + opt r m) ≤ _
    rcases off_cases hi hs with ⟨off', rfl, i2, s2⟩ | ⟨_, i2, h3, s2⟩
    · have := opt_le r (k + 1) m off' i2 s2
      rw [List.length_cons]
      unfold mn
      split
      · split <;> omega
      · omega
    · have := opt_le r (k + 1) (mx m p.1) off i2 s2
      rw [if_pos h3]
      unfold mn
      split <;> omega
theorem gr_ok : ∀ (L : Ly) (k : Nat) (m : Int), inc k L.length (gr k L m) ∧ suits m (kp k L (gr k L m)) = true ∧ ((gr k L m).length : Int) = opt L m
  | [], _, _ => ⟨⟨.nil, fun _ h => (by cases h)⟩, rfl, rfl⟩
  | p :: r, k, m => by
    show inc k (r.length + 1) (if opt (p :: r) m = 1 + opt r m then k :: gr (k + 1) r m else gr (k + 1) r (mx m p.1)) ∧ _
    show _ ∧ suits m (kp k (p :: r) (if opt (p :: r) m = 1 + opt r m then k :: gr (k + 1) r m else gr (k + 1) r (mx m p.1))) = true ∧ _
    show _ ∧ _ ∧ (((if opt (p :: r) m = 1 + opt r m then k :: gr (k + 1) r m else gr (k + 1) r (mx m p.1)).length : Nat) : Int) = _
    by_cases h : opt (p :: r) m = 1 + opt r m
    · rw [if_pos h]
      obtain ⟨⟨a1, a2⟩, b, c⟩ := gr_ok r (k + 1) m
      refine ⟨⟨List.pairwise_cons.mpr ⟨fun y hy => by have := (a2 y hy).1; omega, a1⟩, fun y hy => ?_⟩, ?_, by rw [List.length_cons, h]; omega⟩
      · rcases List.mem_cons.mp hy with rfl | hy
        · omega
        · have := a2 y hy; omega
      · show suits m (if k ∈ k :: gr (k + 1) r m then kp (k + 1) r (k :: gr (k + 1) r m) else _) = true
        rw [if_pos List.mem_cons_self, kp_skip r (k + 1) k _ (by omega)]
        exact b
    · rw [if_neg h]
      obtain ⟨⟨a1, a2⟩, b, c⟩ := gr_ok r (k + 1) (mx m p.1)
      have eo : opt (p :: r) m = if mx m p.1 ≤ p.2 then mn (1 + opt r m) (opt r (mx m p.1)) else 1 + opt r m := rfl
      have hle : mx m p.1 ≤ p.2 := by
        by_cases z : mx m p.1 ≤ p.2
        · exact z
        · rw [if_neg z] at eo; exact absurd eo h
      rw [if_pos hle] at eo
      have eo2 : opt (p :: r) m = opt r (mx m p.1) := by
        unfold mn at eo
        split at eo
        · exact eo
        · exact absurd eo h
      have hk : k ∉ gr (k + 1) r (mx m p.1) := fun z => by have := (a2 k z).1; omega
      refine ⟨⟨a1, fun y hy => by have := a2 y hy; omega⟩, ?_, by rw [eo2]; exact c⟩
      show suits m (if k ∈ gr (k + 1) r (mx m p.1) then _ else p :: kp (k + 1) r _) = true
      rw [if_neg hk]
      show (decide (mx m p.1 ≤ p.2) && _) = true
      rw [decide_eq_true hle, Bool.true_and]
      exact b
def toI (r : List Nat) : List Int := r.map fun a : Nat => (a : Int)
theorem gr_first : ∀ (L : Ly) (k : Nat) (m : Int) (off : List Nat), inc k L.length off → suits m (kp k L off) = true → (off.length : Int) = opt L m → off = gr k L m ∨ toI (gr k L m) < toI off
  | [], k, m, off, hi, _, _ => by
    left
    cases off with
    | nil => rfl
    | cons x off => have := hi.2 x List.mem_cons_self; simp at this; omega
  | p :: r, k, m, off, hi, hs, hl => by
    show off = (if opt (p :: r) m = 1 + opt r m then k :: gr (k + 1) r m else gr (k + 1) r (mx m p.1)) ∨ toI (if opt (p :: r) m = 1 + opt r m then k :: gr (k + 1) r m else gr (k + 1) r (mx m p.1)) < _
    by_cases h : opt (p :: r) m = 1 + opt r m
    · rw [if_pos h]
      rcases off_cases hi hs with ⟨off', rfl, i2, s2⟩ | ⟨hk, i2, h3, s2⟩
      · rw [List.length_cons] at hl
        rcases gr_first r (k + 1) m off' i2 s2 (by omega) with e | e
        · exact .inl (by rw [e])
        · exact .inr (List.cons_lt_cons_iff.mpr (.inr ⟨rfl, e⟩))
      · right
        cases off with
        | nil =>
          have := opt_nn r m
          simp at hl
          omega
        | cons x off' =>
          have := (i2.2 x List.mem_cons_self).1
          exact List.cons_lt_cons_iff.mpr (.inl (by show ((k : Nat) : Int) < (x : Nat); omega))
    · rw [if_neg h]
      rcases off_cases hi hs with ⟨off', rfl, i2, s2⟩ | ⟨hk, i2, h3, s2⟩
      · exfalso
        have h1 := opt_le r (k + 1) m off' i2 s2
        rw [List.length_cons] at hl
        have eo : opt (p :: r) m = if mx m p.1 ≤ p.2 then mn (1 + opt r m) (opt r (mx m p.1)) else 1 + opt r m := rfl
        unfold mn at eo
        split at eo
        · split at eo
          · omega
          · exact h eo
        · exact h eo
      · have eo : opt (p :: r) m = if mx m p.1 ≤ p.2 then mn (1 + opt r m) (opt r (mx m p.1)) else 1 + opt r m := rfl
        rw [if_pos h3] at eo
        have eo2 : opt (p :: r) m = opt r (mx m p.1) := by
          unfold mn at eo
          split at eo
          · exact eo
          · exact absurd eo h
        exact gr_first r (k + 1) (mx m p.1) off i2 s2 (by rw [hl, eo2])
theorem lyAt_succ (p : Int × Int) (r : Ly) (i : Nat) : lyAt (p :: r) (i + 1) = lyAt r i := rfl
theorem mx_ge (a b : Int) : a ≤ mx a b ∧ b ≤ mx a b ∧ (mx a b = a ∨ mx a b = b) := by
  unfold mx
  split
  · exact ⟨by omega, Int.le_refl _, .inr rfl⟩
  · exact ⟨Int.le_refl _, by omega, .inl rfl⟩
theorem mn_le (a b : Int) : mn a b ≤ a ∧ mn a b ≤ b ∧ (mn a b = a ∨ mn a b = b) := by
  unfold mn
  split
  · exact ⟨by omega, Int.le_refl _, .inr rfl⟩
  · exact ⟨Int.le_refl _, by omega, .inl rfl⟩
theorem kept_ok : ∀ (L : Ly) (k : Nat) (m : Int) (off : List Nat), suits m (kp k L off) = true → (∀ j, j < L.length → k + j ∉ off → m ≤ (lyAt L j).2) ∧ ∀ i j, i ≤ j → j < L.length → k + i ∉ off → k + j ∉ off → (lyAt L i).1 ≤ (lyAt L j).2
  | [], _, _, _, _ => ⟨fun _ h => (by cases h), fun _ _ _ h => (by cases h)⟩
  | p :: r, k, m, off, hs => by
    have hs : suits m (if k ∈ off then kp (k + 1) r off else p :: kp (k + 1) r off) = true := hs
    by_cases z : k ∈ off
    · rw [if_pos z] at hs
      obtain ⟨i1, i2⟩ := kept_ok r (k + 1) m off hs
      refine ⟨fun j hj hn => ?_, fun i j hij hj hi hn => ?_⟩
      · cases j with
        | zero => exact absurd z hn
        | succ j => exact i1 j (by simpa using hj) (by rwa [show k + 1 + j = k + (j + 1) by omega])
      · cases i with
        | zero => exact absurd z hi
        | succ i =>
          cases j with
          | zero => omega
          | succ j => exact i2 i j (by omega) (by simpa using hj) (by rwa [show k + 1 + i = k + (i + 1) by omega]) (by rwa [show k + 1 + j = k + (j + 1) by omega])
    · rw [if_neg z] at hs
      have hs : (decide (mx m p.1 ≤ p.2) && suits (mx m p.1) (kp (k + 1) r off)) = true := hs
      rw [Bool.and_eq_true, decide_eq_true_eq] at hs
      obtain ⟨g1, g2, _⟩ := mx_ge m p.1
      obtain ⟨i1, i2⟩ := kept_ok r (k + 1) (mx m p.1) off hs.2
      refine ⟨fun j hj hn => ?_, fun i j hij hj hi hn => ?_⟩
      · cases j with
        | zero => show m ≤ p.2; omega
        | succ j =>
          have := i1 j (by simpa using hj) (by rwa [show k + 1 + j = k + (j + 1) by omega])
          show m ≤ (lyAt r j).2
          omega
      · cases i with
        | zero =>
          cases j with
          | zero => show p.1 ≤ p.2; omega
          | succ j =>
            have := i1 j (by simpa using hj) (by rwa [show k + 1 + j = k + (j + 1) by omega])
            show p.1 ≤ (lyAt r j).2
            omega
        | succ i =>
          cases j with
          | zero => omega
          | succ j => exact i2 i j (by omega) (by simpa using hj) (by rwa [show k + 1 + i = k + (i + 1) by omega]) (by rwa [show k + 1 + j = k + (j + 1) by omega])
theorem suits_of : ∀ (L : Ly) (m : Int), (∀ j, j < L.length → m ≤ (lyAt L j).2) → (∀ i j, i ≤ j → j < L.length → (lyAt L i).1 ≤ (lyAt L j).2) → suits m L = true
  | [], _, _, _ => rfl
  | p :: r, m, h1, h2 => by
    have a0 : m ≤ p.2 := h1 0 (by simp)
    have b0 : p.1 ≤ p.2 := h2 0 0 (by omega) (by simp)
    show (decide (mx m p.1 ≤ p.2) && suits (mx m p.1) r) = true
    rw [Bool.and_eq_true, decide_eq_true_eq]
    obtain ⟨_, _, g⟩ := mx_ge m p.1
    refine ⟨by rcases g with g | g <;> omega, suits_of r _ (fun j hj => ?_) fun i j hij hj => h2 (i + 1) (j + 1) (by omega) (by simp; omega)⟩
    have a1 : m ≤ (lyAt r j).2 := h1 (j + 1) (by simp; omega)
    have b1 : p.1 ≤ (lyAt r j).2 := h2 0 (j + 1) (by omega) (by simp; omega)
    rcases g with g | g <;> omega
theorem kp_nil : ∀ (L : Ly) (k : Nat), kp k L [] = L
  | [], _ => rfl
  | p :: r, k => by
    show (if k ∈ [] then _ else p :: kp (k + 1) r []) = _
    rw [if_neg (by simp), kp_nil r]
theorem suits_prs (L : Ly) (h : okL L) : suits 0 L = true ↔ prs L = [] := by
  constructor
  · intro hs
    refine List.eq_nil_iff_forall_not_mem.mpr fun p hp => ?_
    obtain ⟨h1, h2, h3⟩ := prs_mem.mp hp
    have hs : suits 0 (kp 0 L []) = true := by rwa [kp_nil]
    have := (kept_ok L 0 0 [] hs).2 p.1 p.2 h1 h2 (by simp) (by simp)
    have h3 := of_decide_eq_true h3
    omega
  · intro e
    refine suits_of L 0 (fun j hj => (ly_ok h hj).2.1) fun i j hij hj => ?_
    rcases Int.lt_or_le (lyAt L j).2 (lyAt L i).1 with z | z
    · have : (i, j) ∈ prs L := prs_mem.mpr ⟨hij, hj, decide_eq_true z⟩
      rw [e] at this; cases this
    · exact z
theorem off_hits (L : Ly) (off : List Nat) (hs : suits 0 (kp 0 L off) = true) (p : Nat × Nat) (hp : p ∈ prs L) : p.1 ∈ off ∨ p.2 ∈ off := by
  obtain ⟨h1, h2, h3⟩ := prs_mem.mp hp
  have h3 := of_decide_eq_true h3
  by_cases z : p.1 ∈ off
  · exact .inl z
  · by_cases w : p.2 ∈ off
    · exact .inr w
    · have := (kept_ok L 0 0 off hs).2 p.1 p.2 h1 h2 (by rwa [Nat.zero_add]) (by rwa [Nat.zero_add])
      omega
theorem filter_lt {l : List Nat} {p q : Nat → Bool} (h : ∀ x, q x = true → p x = true) {x : Nat} (hx : x ∈ l) (hp : p x = true) (hq : q x = false) : (l.filter q).length < (l.filter p).length := by
  induction l with
  | nil => cases hx
  | cons a l ih =>
    rw [List.filter_cons, List.filter_cons]
    have mono : (l.filter q).length ≤ (l.filter p).length := by
      clear ih hx
      induction l with
      | nil => exact Nat.le_refl _
      | cons b l ih =>
        rw [List.filter_cons, List.filter_cons]
        cases hb : q b with
        | true => rw [h b hb, if_pos rfl, if_pos rfl]; exact Nat.succ_le_succ ih
        | false =>
          rw [if_neg (by decide)]
          split
          · exact Nat.le_succ_of_le ih
          · exact ih
    rcases List.mem_cons.mp hx with e | hx
    · subst e
      rw [hp, hq, if_pos rfl, if_neg (by decide)]
      exact Nat.lt_succ_of_le mono
    · have := ih hx
      cases hb : q a with
      | true => rw [h a hb, if_pos rfl, if_pos rfl]; exact Nat.succ_lt_succ this
      | false =>
        rw [if_neg (by decide)]
        split
        · exact Nat.lt_succ_of_lt this
        · exact this
theorem addK_mem (u : List Nat) (i x : Nat) : x ∈ addK u i ↔ x ∈ u ∨ x = i := by
  unfold addK
  split
  · rename_i h
    exact ⟨.inl, fun z => z.elim id fun e => e ▸ h⟩
  · rw [List.mem_append, List.mem_singleton]
theorem noF_le (L : Ly) (off : List Nat) : ∀ (P : List (Nat × Nat)) (u : List Nat), (∀ p ∈ P, p.1 ∈ off ∨ p.2 ∈ off) → noF L u P = true → P.length ≤ (off.filter fun x => !decide (x ∈ u)).length
  | [], _, _, _ => Nat.zero_le _
  | p :: r, u, h, hn => by
    have hn : (bad L p.1 p.2 && (!(decide (p.1 ∈ u) || decide (p.2 ∈ u)) && noF L (addK (addK u p.1) p.2) r)) = true := hn
    rw [Bool.and_eq_true, Bool.and_eq_true, Bool.not_eq_true', Bool.or_eq_false_iff] at hn
    obtain ⟨_, ⟨n1, n2⟩, n3⟩ := hn
    have ih := noF_le L off r _ (fun q hq => h q (List.mem_cons_of_mem _ hq)) n3
    have key : ∀ x, x ∈ off → decide (x ∈ u) = false → (x = p.1 ∨ x = p.2) → (off.filter fun x => !decide (x ∈ addK (addK u p.1) p.2)).length < (off.filter fun x => !decide (x ∈ u)).length := fun x hx hu he => by
      refine filter_lt (fun y hy => ?_) hx (by rw [hu]; rfl) ?_
      · have hy : y ∉ addK (addK u p.1) p.2 := by simpa using hy
        rw [addK_mem, addK_mem] at hy
        have : y ∉ u := fun z => hy (.inl (.inl z))
        simpa using this
      · have : x ∈ addK (addK u p.1) p.2 := by
          rw [addK_mem, addK_mem]
          rcases he with e | e
          · exact .inl (.inr e)
          · exact .inr e
        simpa using this
    rw [List.length_cons]
    rcases h p List.mem_cons_self with z | z
    · have := key p.1 z n1 (.inl rfl); omega
    · have := key p.2 z n2 (.inr rfl); omega
theorem no_more (L : Ly) (off : List Nat) (hs : suits 0 (kp 0 L off) = true) (P : List (Nat × Nat)) (hP : ∀ p ∈ P, p ∈ prs L) (hl : P.length = off.length + 1) : noF L [] P = false := by
  cases e : noF L [] P with
  | false => rfl
  | true =>
    have := noF_le L off P [] (fun p hp => off_hits L off hs p (hP p hp)) e
    have h2 := List.length_filter_le (fun x => !decide (x ∈ ([] : List Nat))) off
    omega
def G : Ly → Int
  | [] => 9999
  | p :: r => mn (G r) p.2
theorem mins_snoc : ∀ (l : List Int) (m x : Int), mins m (l ++ [x]) = mins m l ++ [mn (l.foldl mn m) x]
  | [], _, _ => rfl
  | a :: l, m, x => by
    show mn m a :: mins (mn m a) (l ++ [x]) = _
    rw [mins_snoc l]; rfl
theorem fold_G : ∀ r : Ly, (r.reverse.map (·.2)).foldl mn 9999 = G r
  | [] => rfl
  | p :: r => by
    rw [List.reverse_cons, List.map_append, List.foldl_append, fold_G r]; rfl
theorem highs_cons (p : Int × Int) (r : Ly) : highs (p :: r) = G (p :: r) :: highs r := by
  unfold highs
  rw [List.reverse_cons, List.map_append]
  show (mins 9999 (r.reverse.map (·.2) ++ [p.2])).reverse = _
  rw [mins_snoc, List.reverse_append, fold_G]; rfl
theorem hi_G : ∀ (L : Ly) (i : Nat), i < L.length → hi L i = G (L.drop i)
  | [], _, h => by cases h
  | p :: r, 0, _ => by unfold hi; rw [highs_cons]; rfl
  | p :: r, i + 1, h => by
    have := hi_G r i (by simpa using h)
    unfold hi at this ⊢
    rw [highs_cons]
    exact this
theorem G_mono : ∀ (L : Ly) (i : Nat), G L ≤ G (L.drop i)
  | L, 0 => Int.le_refl _
  | [], i + 1 => Int.le_refl _
  | p :: r, i + 1 => by
    have := G_mono r i
    have h : G (p :: r) ≤ G r := (mn_le _ _).1
    show G (p :: r) ≤ G (r.drop i)
    omega
theorem suits_G : ∀ (L : Ly) (m : Int), m ≤ 9999 → suits m L = true → m ≤ G L
  | [], m, h, _ => h
  | p :: r, m, h, hs => by
    have hs : (decide (mx m p.1 ≤ p.2) && suits (mx m p.1) r) = true := hs
    rw [Bool.and_eq_true, decide_eq_true_eq] at hs
    obtain ⟨g1, g2, g⟩ := mx_ge m p.1
    show m ≤ mn (G r) p.2
    obtain ⟨_, _, e⟩ := mn_le (G r) p.2
    by_cases z : mx m p.1 ≤ 9999
    · have := suits_G r (mx m p.1) z hs.2
      rcases e with e | e <;> omega
    · rcases e with e | e
      · rw [e]
        have hp : m = mx m p.1 ∨ p.1 = mx m p.1 := g.imp Eq.symm Eq.symm
        -- only the last bound is lost
        have : suits m r = true := suits_mono r m (mx m p.1) g1 hs.2
        exact suits_G r m h this
      · omega
where
  suits_mono : ∀ (L : Ly) (m M : Int), m ≤ M → suits M L = true → suits m L = true
    | [], _, _, _, _ => rfl
    | p :: r, m, M, h, hs => by
      have hs : (decide (mx M p.1 ≤ p.2) && suits (mx M p.1) r) = true := hs
      rw [Bool.and_eq_true, decide_eq_true_eq] at hs
      have h2 : mx m p.1 ≤ mx M p.1 := by unfold mx; split <;> split <;> omega
      show (decide (mx m p.1 ≤ p.2) && suits (mx m p.1) r) = true
      rw [Bool.and_eq_true, decide_eq_true_eq]
      exact ⟨by omega, suits_mono r _ _ h2 hs.2⟩
theorem low_high : ∀ (L : Ly) (m : Int), (∀ p ∈ L, p.1 ≤ 29) → m ≤ 29 → suits m L = true → ∀ i, i < L.length → lowAt m L i ≤ G (L.drop i) ∧ m ≤ lowAt m L i ∧ lowAt m L i ≤ 29
  | [], _, _, _, _, _, h => by cases h
  | p :: r, m, hp, hm, hs, i, hi => by
    have hs0 := hs
    have hs : (decide (mx m p.1 ≤ p.2) && suits (mx m p.1) r) = true := hs
    rw [Bool.and_eq_true, decide_eq_true_eq] at hs
    obtain ⟨g1, g2, g⟩ := mx_ge m p.1
    have hp1 := hp p List.mem_cons_self
    have hmx : mx m p.1 ≤ 29 := by rcases g with g | g <;> omega
    cases i with
    | zero =>
      have := suits_G r (mx m p.1) (by omega) hs.2
      refine ⟨?_, g1, hmx⟩
      show mx m p.1 ≤ mn (G r) p.2
      obtain ⟨_, _, e⟩ := mn_le (G r) p.2
      rcases e with e | e <;> omega
    | succ i =>
      obtain ⟨a, b, c⟩ := low_high r (mx m p.1) (fun q hq => hp q (List.mem_cons_of_mem _ hq)) hmx hs.2 i (by simpa using hi)
      exact ⟨a, by show m ≤ lowAt (mx m p.1) r i; omega, c⟩
theorem G_le {L : Ly} {i : Nat} (h : i < L.length) : G (L.drop i) ≤ (lyAt L i).2 := by
  have e : L.drop i = lyAt L i :: L.drop (i + 1) := by
    rw [List.drop_eq_getElem_cons h]
    congr 1
    unfold lyAt
    rw [List.getD_eq_getElem?_getD, List.getElem?_eq_getElem h]; rfl
  rw [e]
  exact (mn_le _ _).2.1
theorem span_facts (L : Ly) (h : okL L) (hs : suits 0 L = true) : 0 ≤ (spanP L 0 (L.length - 1)).2 ∧ (spanP L 0 (L.length - 1)).2 ≤ 300 ∧ 0 ≤ (spanP L 0 (L.length - 1)).1 ∧ (spanP L 0 (L.length - 1)).1 ≤ 300 ∧ ((spanP L 0 (L.length - 1)).2 = 0 → (spanP L 0 (L.length - 1)).1 = 0) := by
  have l1 := h.l1
  unfold spanP
  by_cases e : 0 = L.length - 1
  · rw [if_pos e]; decide
  · rw [if_neg e]
    have lh := low_high L 0 (fun p hp => (h.ok p hp).1.2) (by omega) hs
    obtain ⟨a1, a2, a3⟩ := lh 0 (by omega)
    obtain ⟨b1, b2, b3⟩ := lh (L.length - 1) (by omega)
    have c0 := G_le (L := L) (i := 0) (by omega)
    have c1 := G_le (L := L) (i := L.length - 1) (by omega)
    have o0 := ly_ok h (i := 0) (by omega)
    have o1 := ly_ok h (i := L.length - 1) (by omega)
    have mo := G_mono L (L.length - 1)
    have h0 := hi_G L 0 (by omega)
    have h1 := hi_G L (L.length - 1) (by omega)
    rw [List.drop_zero] at a1 c0 h0
    show 0 ≤ hi L (L.length - 1) - lo L 0 ∧ hi L (L.length - 1) - lo L 0 ≤ 300 ∧ 0 ≤ mx 0 (lo L (L.length - 1) - hi L 0) ∧ mx 0 (lo L (L.length - 1) - hi L 0) ≤ 300 ∧ (hi L (L.length - 1) - lo L 0 = 0 → mx 0 (lo L (L.length - 1) - hi L 0) = 0)
    have e0 : lo L 0 = lowAt 0 L 0 := rfl
    have e1 : lo L (L.length - 1) = lowAt 0 L (L.length - 1) := rfl
    obtain ⟨x1, x2, x3⟩ := mx_ge 0 (lo L (L.length - 1) - hi L 0)
    refine ⟨by omega, by omega, x1, by rcases x3 with x | x <;> omega, fun z => ?_⟩
    rcases x3 with x | x <;> omega
end K06
end Ws

set_option Elab.async false
set_option linter.all false
set_option maxRecDepth 100000
set_option maxHeartbeats 400000
namespace Ws
namespace K06
open PySem
theorem need_t (i : Int) : m_need true i = some () := rfl
theorem is_integer_t (i : Int) : m_is_integer i = some true := rfl
theorem is_between_t (a b c : Int) : m_is_between a b c = some (decide (b ≤ a) && decide (a ≤ c)) := by
  unfold m_is_between
  simp (config := { implicitDefEqProofs := false }) only [Option.bind_some, Option.bind_none, Option.map_some, Option.map_none, Option.isNone_none, Option.isNone_some, Option.isSome_none, Option.isSome_some, Bool.not_true, Bool.not_false, Bool.true_and, Bool.false_and, Bool.and_true, Bool.and_false, Bool.or_true, Bool.or_false, Bool.true_or, Bool.false_or, if_true, if_false, Bool.false_eq_true, reduceIte, cI, bq_t, bq_f, mapF_pure, mapF_pureF, Int.reduceLT, Int.reduceLE, and_self, and_true, true_and, is_integer_t]
  by_cases h : b ≤ a <;> simp [h]
theorem between_yes {a b c : Int} (h1 : b ≤ a) (h2 : a ≤ c) : m_is_between a b c = some true := by
  rw [is_between_t, decide_eq_true h1, decide_eq_true h2]; rfl
theorem is_row_t {d : D} {n lo hi : Int} (h : isSq d = true) (hn : lenM d = some n) : m_is_row d lo hi = some (decide (lo ≤ n) && decide (n ≤ hi)) := by
  unfold m_is_row m_is_sequence
  simp (config := { implicitDefEqProofs := false }) only [Option.bind_some, Option.bind_none, Option.map_some, Option.map_none, Option.isNone_none, Option.isNone_some, Option.isSome_none, Option.isSome_some, Bool.not_true, Bool.not_false, Bool.true_and, Bool.false_and, Bool.and_true, Bool.and_false, Bool.or_true, Bool.or_false, Bool.true_or, Bool.false_or, if_true, if_false, Bool.false_eq_true, reduceIte, cI, bq_t, bq_f, mapF_pure, mapF_pureF, Int.reduceLT, Int.reduceLE, and_self, and_true, true_and, seq_isSq, h, hn]
  by_cases h : lo ≤ n <;> simp [h]
def qP (c : Bool) (p : Int × Int) : Bool × List Int := (c, [p.1, p.2])
def qL (b c : Bool) (L : Ly) : Bool × List (Bool × List Int) := (b, L.map (qP c))
abbrev eL2 : Ly → D := eT (eP (fc eI (f1 eI)))
theorem is_age_pair_t {c : Bool} {p : Int × Int} (h : (0 ≤ p.1 ∧ p.1 ≤ 29) ∧ (0 ≤ p.2 ∧ p.2 ≤ 60)) : m_is_age_pair (qP c p) = some true := by
  unfold m_is_age_pair
  simp (config := { implicitDefEqProofs := false }) only [Option.bind_some, Option.bind_none, Option.map_some, Option.map_none, Option.isNone_none, Option.isNone_some, Option.isSome_none, Option.isSome_some, Bool.not_true, Bool.not_false, Bool.true_and, Bool.false_and, Bool.and_true, Bool.and_false, Bool.or_true, Bool.or_false, Bool.true_or, Bool.false_or, if_true, if_false, Bool.false_eq_true, reduceIte, cI, bq_t, bq_f, mapF_pure, mapF_pureF, Int.reduceLT, Int.reduceLE, and_self, and_true, true_and, is_row_t (isSq_Q _) (lenM_Q _), qP]
  rw [mapF_map (g := fun _ => true)]
  · rfl
  · intro x hx
    have : 0 ≤ x ∧ x ≤ 9999 := by
      rcases List.mem_cons.mp hx with rfl | hx
      · omega
      · rcases List.mem_cons.mp hx with rfl | hx
        · omega
        · cases hx
    simp (config := { implicitDefEqProofs := false }) only [Option.bind_some, Option.bind_none, Option.map_some, Option.map_none, Option.isNone_none, Option.isNone_some, Option.isSome_none, Option.isSome_some, Bool.not_true, Bool.not_false, Bool.true_and, Bool.false_and, Bool.and_true, Bool.and_false, Bool.or_true, Bool.or_false, Bool.true_or, Bool.false_or, if_true, if_false, Bool.false_eq_true, reduceIte, cI, bq_t, bq_f, mapF_pure, mapF_pureF, Int.reduceLT, Int.reduceLE, and_self, and_true, true_and, between_yes this.1 this.2]
theorem is_age_layers_t {b c : Bool} {L : Ly} (h : okL L) : m_is_age_layers (qL b c L) = some true := by
  have l1 := h.l1
  have l6 := h.l6
  unfold m_is_age_layers
  simp (config := { implicitDefEqProofs := false }) only [Option.bind_some, Option.bind_none, Option.map_some, Option.map_none, Option.isNone_none, Option.isNone_some, Option.isSome_none, Option.isSome_some, Bool.not_true, Bool.not_false, Bool.true_and, Bool.false_and, Bool.and_true, Bool.and_false, Bool.or_true, Bool.or_false, Bool.true_or, Bool.false_or, if_true, if_false, Bool.false_eq_true, reduceIte, cI, bq_t, bq_f, mapF_pure, mapF_pureF, Int.reduceLT, Int.reduceLE, and_self, and_true, true_and, is_row_t (isSq_Q _) (lenM_Q _), qL, List.length_map]
  rw [decide_eq_true (show (1 : Int) ≤ (L.length : Nat) by omega), decide_eq_true (show ((L.length : Nat) : Int) ≤ 96 by omega)]
  simp (config := { implicitDefEqProofs := false }) only [Option.bind_some, Option.bind_none, Option.map_some, Option.map_none, Option.isNone_none, Option.isNone_some, Option.isSome_none, Option.isSome_some, Bool.not_true, Bool.not_false, Bool.true_and, Bool.false_and, Bool.and_true, Bool.and_false, Bool.or_true, Bool.or_false, Bool.true_or, Bool.false_or, if_true, if_false, Bool.false_eq_true, reduceIte, cI, bq_t, bq_f, mapF_pure, mapF_pureF, Int.reduceLT, Int.reduceLE, and_self, and_true, true_and]
  rw [mapF_map (g := fun _ => true)]
  · simp (config := { implicitDefEqProofs := false }) only [Option.bind_some, Option.bind_none, Option.map_some, Option.map_none, Option.isNone_none, Option.isNone_some, Option.isSome_none, Option.isSome_some, Bool.not_true, Bool.not_false, Bool.true_and, Bool.false_and, Bool.and_true, Bool.and_false, Bool.or_true, Bool.or_false, Bool.true_or, Bool.false_or, if_true, if_false, Bool.false_eq_true, reduceIte, cI, bq_t, bq_f, mapF_pure, mapF_pureF, Int.reduceLT, Int.reduceLE, and_self, and_true, true_and, Option.some.injEq, List.all_map]
    simp
  · intro x hx
    obtain ⟨p, hp, rfl⟩ := List.mem_map.mp hx
    simp (config := { implicitDefEqProofs := false }) only [Option.bind_some, Option.bind_none, Option.map_some, Option.map_none, Option.isNone_none, Option.isNone_some, Option.isSome_none, Option.isSome_some, Bool.not_true, Bool.not_false, Bool.true_and, Bool.false_and, Bool.and_true, Bool.and_false, Bool.or_true, Bool.or_false, Bool.true_or, Bool.false_or, if_true, if_false, Bool.false_eq_true, reduceIte, cI, bq_t, bq_f, mapF_pure, mapF_pureF, Int.reduceLT, Int.reduceLE, and_self, and_true, true_and, is_age_pair_t (h.ok p hp)]
theorem dQ_L2 (L : Ly) : dQ (dQ dI) (eL2 L) = some (qL true true L) := by
  show (dMap (dQ dI) (L.map (eP (fc eI (f1 eI))))).map _ = _
  rw [dMap_map (g := qP true) fun p => rfl]; rfl
theorem dT_L2 (L : Ly) : dT (dP (dc dI (du dI))) (eL2 L) = some L := dMap_self (e := eP (fc eI (f1 eI))) (fun p => rfl) L
theorem nm_L2 (L : Ly) : noMut (eL2 L) = true := n_T (n_P (n_c n_I (n_1 n_I))) L
theorem tpl_qP (c : Bool) (p : Int × Int) : tpl (eQ eI (qP c p)) = eP (fc eI (f1 eI)) p := by cases c <;> rfl
theorem lim_qP (c : Bool) (p : Int × Int) : lim 1 (eQ eI (qP c p)) = true := by cases c <;> rfl
theorem lim_qL (b c : Bool) (L : Ly) : lim 2 (eQ (eQ eI) (qL b c L)) = true := by
  have : ((L.map (qP c)).map (eQ eI)).all (lim 1) = true := by
    rw [List.map_map, List.all_map, List.all_eq_true]
    exact fun p _ => lim_qP c p
  cases b
  · show lim 2 (.list ((L.map (qP c)).map (eQ eI))) = true
    simpa only [lim] using this
  · show lim 2 (.tuple ((L.map (qP c)).map (eQ eI))) = true
    simpa only [lim] using this
theorem tupled_q (b c : Bool) (L : Ly) : m_tupled (eQ (eQ eI) (qL b c L)) = some (eL2 L) := by
  unfold m_tupled
  rw [lim_mono 2 _ (lim_qL b c L) 40 (by omega), if_pos rfl]
  have e : tpls ((L.map (qP c)).map (eQ eI)) = L.map (eP (fc eI (f1 eI))) := by
    rw [tpls_map, List.map_map, List.map_map]
    exact List.map_congr_left fun p _ => tpl_qP c p
  refine congrArg some ?_
  cases b
  · show PyData.tuple (tpls ((L.map (qP c)).map (eQ eI))) = _
    rw [e]; rfl
  · show PyData.tuple (tpls ((L.map (qP c)).map (eQ eI))) = _
    rw [e]; rfl
theorem eL2_q (L : Ly) : eL2 L = eQ (eQ eI) (qL true true L) := by
  show PyData.tuple _ = PyData.tuple ((L.map (qP true)).map (eQ eI))
  rw [List.map_map]; rfl
theorem tupled_T (L : Ly) : m_tupled (eL2 L) = some (eL2 L) := by
  have := tupled_q true true L
  rwa [← eL2_q] at this
/-! ### years -/
theorem yo1 {f : (Int × Int) → (List Int × Int) → Option (Out (List Int × Int) (Option (List Int × List Int)))} (hf : ∀ p s, s.1.length < 100 → f p s = some (if mx s.2 p.1 ≤ p.2 then .nx (s.1 ++ [mx s.2 p.1], mx s.2 p.1) else .rt none)) :
    ∀ (L : Ly) (acc : List Int) (m : Int), acc.length + L.length ≤ 100 → forT f L (acc, m) = some (if suits m L = true then .inl (acc ++ lows m L, L.foldl (fun m p => mx m p.1) m) else .inr none)
  | [], acc, m, _ => by rw [forT, show lows m [] = [] from rfl, List.append_nil]; rfl
  | p :: r, acc, m, hl => by
    rw [List.length_cons] at hl
    have es : suits m (p :: r) = (decide (mx m p.1 ≤ p.2) && suits (mx m p.1) r) := rfl
    rw [forT, hf p (acc, m) (by show acc.length < 100; omega)]
    by_cases z : mx m p.1 ≤ p.2
    · rw [if_pos z, Option.bind_some]
      show forT f r _ = _
      rw [yo1 hf r (acc ++ [mx m p.1]) (mx m p.1) (by rw [List.length_append, List.length_singleton]; omega), es, decide_eq_true z, Bool.true_and, List.append_assoc]; rfl
    · rw [if_neg z, es, decide_eq_false z]; rfl
theorem yo2 {f : (Int × Int) → (Int × List Int) → Option (Int × List Int)} (hf : ∀ p s, s.2.length < 100 → f p s = some (mn s.1 p.2, s.2 ++ [mn s.1 p.2])) :
    ∀ (L : Ly) (acc : List Int) (m : Int), acc.length + L.length ≤ 100 → forN f L (m, acc) = some (L.foldl (fun m p => mn m p.2) m, acc ++ mins m (L.map (·.2)))
  | [], acc, m, _ => by rw [forN, List.map_nil, show mins m [] = [] from rfl, List.append_nil]; rfl
  | p :: r, acc, m, hl => by
    rw [List.length_cons] at hl
    rw [forN, hf p (m, acc) (by show acc.length < 100; omega), Option.bind_some, yo2 hf r _ _ (by simp; omega), List.append_assoc]; rfl
theorem years_of_t (L : Ly) (h : L.length ≤ 50) : m_years_of L = some (if suits 0 L = true then some (lows 0 L, highs L) else none) := by
  unfold m_years_of
  simp (config := { implicitDefEqProofs := false }) only [Option.bind_some, Option.bind_none, Option.map_some, Option.map_none, Option.isNone_none, Option.isNone_some, Option.isSome_none, Option.isSome_some, Bool.not_true, Bool.not_false, Bool.true_and, Bool.false_and, Bool.and_true, Bool.and_false, Bool.or_true, Bool.or_false, Bool.true_or, Bool.false_or, if_true, if_false, Bool.false_eq_true, reduceIte, cI, bq_t, bq_f, mapF_pure, mapF_pureF, Int.reduceLT, Int.reduceLE, and_self, and_true, true_and]
  rw [yo1 ?_ L [] 0 (by simp; omega)]
  · cases q : suits 0 L with
    | false => rfl
    | true =>
      simp (config := { implicitDefEqProofs := false }) only [Option.bind_some, Option.bind_none, Option.map_some, Option.map_none, Option.isNone_none, Option.isNone_some, Option.isSome_none, Option.isSome_some, Bool.not_true, Bool.not_false, Bool.true_and, Bool.false_and, Bool.and_true, Bool.and_false, Bool.or_true, Bool.or_false, Bool.true_or, Bool.false_or, if_true, if_false, Bool.false_eq_true, reduceIte, cI, bq_t, bq_f, mapF_pure, mapF_pureF, Int.reduceLT, Int.reduceLE, and_self, and_true, true_and, sumK]
      rw [yo2 ?_ L.reverse [] 9999 (by simp; omega)]
      · rfl
      · intro p s hs
        rw [if_pos (lim_lt (by omega))]; rfl
  · intro p s hs
    rw [if_pos (lim_lt (by omega))]
    by_cases z : mx s.2 p.1 ≤ p.2
    · rw [if_neg (by simpa [mx] using z), if_pos z]; rfl
    · rw [if_pos (by simpa [mx] using z), if_neg z]

theorem earliest_t (b c : Bool) {L : Ly} (h : okL L) : m_earliest (qL b c L) = some (if suits 0 L = true then some (lows 0 L) else none) := by
  unfold m_earliest
  simp (config := { implicitDefEqProofs := false }) only [Option.bind_some, Option.bind_none, Option.map_some, Option.map_none, Option.isNone_none, Option.isNone_some, Option.isSome_none, Option.isSome_some, Bool.not_true, Bool.not_false, Bool.true_and, Bool.false_and, Bool.and_true, Bool.and_false, Bool.or_true, Bool.or_false, Bool.true_or, Bool.false_or, if_true, if_false, Bool.false_eq_true, reduceIte, cI, bq_t, bq_f, mapF_pure, mapF_pureF, Int.reduceLT, Int.reduceLE, and_self, and_true, true_and, is_age_layers_t h, need_t, tupled_q, nm_L2, dT_L2, years_of_t L (by have := h.l6; omega)]
  cases suits 0 L <;> rfl
theorem latest_t {L : Ly} (h : okL L) : m_latest L = some (if suits 0 L = true then some (highs L) else none) := by
  unfold m_latest
  simp (config := { implicitDefEqProofs := false }) only [Option.bind_some, Option.bind_none, Option.map_some, Option.map_none, Option.isNone_none, Option.isNone_some, Option.isSome_none, Option.isSome_some, Bool.not_true, Bool.not_false, Bool.true_and, Bool.false_and, Bool.and_true, Bool.and_false, Bool.or_true, Bool.or_false, Bool.true_or, Bool.false_or, if_true, if_false, Bool.false_eq_true, reduceIte, cI, bq_t, bq_f, mapF_pure, mapF_pureF, Int.reduceLT, Int.reduceLE, and_self, and_true, true_and, dQ_L2, is_age_layers_t h, need_t, tupled_T, nm_L2, dT_L2, years_of_t L (by have := h.l6; omega)]
  cases suits 0 L <;> rfl
theorem lo_ix (L : Ly) {i : Nat} (h : i < L.length) : ixD (lows 0 L) (i : Int) = some (lo L i) := ixD_getD (by rw [lows_len]; exact h) 0
theorem hi_ix (L : Ly) {i : Nat} (h : i < L.length) : ixD (highs L) (i : Int) = some (hi L i) := ixD_getD (by rw [highs_len]; exact h) 0
theorem ly_ix (L : Ly) {i : Nat} (h : i < L.length) : ixD L (i : Int) = some (lyAt L i) := ixD_getD h (0, 0)
theorem rg_L {L : Ly} (h : okL L) : rgM 0 (L.length : Int) = some ((List.range L.length).map fun i : Nat => (i : Int)) := rgM_0 (by have := h.l6; omega)
def narr (L : Ly) : List (Int × Int) := (List.range L.length).map fun i => (lo L i, hi L i)
theorem narrowed_t {L : Ly} (h : okL L) : m_narrowed L = some (if suits 0 L = true then some (narr L) else none) := by
  unfold m_narrowed
  simp (config := { implicitDefEqProofs := false }) only [Option.bind_some, Option.bind_none, Option.map_some, Option.map_none, Option.isNone_none, Option.isNone_some, Option.isSome_none, Option.isSome_some, Bool.not_true, Bool.not_false, Bool.true_and, Bool.false_and, Bool.and_true, Bool.and_false, Bool.or_true, Bool.or_false, Bool.true_or, Bool.false_or, if_true, if_false, Bool.false_eq_true, reduceIte, cI, bq_t, bq_f, mapF_pure, mapF_pureF, Int.reduceLT, Int.reduceLE, and_self, and_true, true_and, dQ_L2, is_age_layers_t h, need_t, tupled_T, nm_L2, dT_L2, years_of_t L (by have := h.l6; omega)]
  cases suits 0 L with
  | false => rfl
  | true =>
    simp (config := { implicitDefEqProofs := false }) only [Option.bind_some, Option.bind_none, Option.map_some, Option.map_none, Option.isNone_none, Option.isNone_some, Option.isSome_none, Option.isSome_some, Bool.not_true, Bool.not_false, Bool.true_and, Bool.false_and, Bool.and_true, Bool.and_false, Bool.or_true, Bool.or_false, Bool.true_or, Bool.false_or, if_true, if_false, Bool.false_eq_true, reduceIte, cI, bq_t, bq_f, mapF_pure, mapF_pureF, Int.reduceLT, Int.reduceLE, and_self, and_true, true_and, lows_len, rg_L h]
    rw [mapF_map (g := fun i => (lo L i.toNat, hi L i.toNat))]
    · simp (config := { implicitDefEqProofs := false }) only [Option.bind_some, Option.bind_none, Option.map_some, Option.map_none, Option.isNone_none, Option.isNone_some, Option.isSome_none, Option.isSome_some, Bool.not_true, Bool.not_false, Bool.true_and, Bool.false_and, Bool.and_true, Bool.and_false, Bool.or_true, Bool.or_false, Bool.true_or, Bool.false_or, if_true, if_false, Bool.false_eq_true, reduceIte, cI, bq_t, bq_f, mapF_pure, mapF_pureF, Int.reduceLT, Int.reduceLE, and_self, and_true, true_and, List.map_map]; rfl
    · intro x hx
      obtain ⟨i, hi, rfl⟩ := List.mem_map.mp hx
      have hi := List.mem_range.mp hi
      simp (config := { implicitDefEqProofs := false }) only [Option.bind_some, Option.bind_none, Option.map_some, Option.map_none, Option.isNone_none, Option.isNone_some, Option.isSome_none, Option.isSome_some, Bool.not_true, Bool.not_false, Bool.true_and, Bool.false_and, Bool.and_true, Bool.and_false, Bool.or_true, Bool.or_false, Bool.true_or, Bool.false_or, if_true, if_false, Bool.false_eq_true, reduceIte, cI, bq_t, bq_f, mapF_pure, mapF_pureF, Int.reduceLT, Int.reduceLE, and_self, and_true, true_and, lo_ix L hi, hi_ix L hi]; rfl
def brk (L : Ly) : List Int := (List.range (L.length - 1)).map fun i => mx 0 (lo L (i + 1) - K06.hi L i)
theorem breaks_t {L : Ly} (h : okL L) : m_breaks L = some (if suits 0 L = true then some (brk L) else none) := by
  have l1 := h.l1
  unfold m_breaks
  simp (config := { implicitDefEqProofs := false }) only [Option.bind_some, Option.bind_none, Option.map_some, Option.map_none, Option.isNone_none, Option.isNone_some, Option.isSome_none, Option.isSome_some, Bool.not_true, Bool.not_false, Bool.true_and, Bool.false_and, Bool.and_true, Bool.and_false, Bool.or_true, Bool.or_false, Bool.true_or, Bool.false_or, if_true, if_false, Bool.false_eq_true, reduceIte, cI, bq_t, bq_f, mapF_pure, mapF_pureF, Int.reduceLT, Int.reduceLE, and_self, and_true, true_and, dQ_L2, is_age_layers_t h, need_t, tupled_T, nm_L2, dT_L2, years_of_t L (by have := h.l6; omega)]
  cases suits 0 L with
  | false => rfl
  | true =>
    simp (config := { implicitDefEqProofs := false }) only [Option.bind_some, Option.bind_none, Option.map_some, Option.map_none, Option.isNone_none, Option.isNone_some, Option.isSome_none, Option.isSome_some, Bool.not_true, Bool.not_false, Bool.true_and, Bool.false_and, Bool.and_true, Bool.and_false, Bool.or_true, Bool.or_false, Bool.true_or, Bool.false_or, if_true, if_false, Bool.false_eq_true, reduceIte, cI, bq_t, bq_f, mapF_pure, mapF_pureF, Int.reduceLT, Int.reduceLE, and_self, and_true, true_and, lows_len]
    rw [show (L.length : Int) - 1 = ((L.length - 1 : Nat) : Int) by omega, rgM_0 (by have := h.l6; omega)]
    simp (config := { implicitDefEqProofs := false }) only [Option.bind_some, Option.bind_none, Option.map_some, Option.map_none, Option.isNone_none, Option.isNone_some, Option.isSome_none, Option.isSome_some, Bool.not_true, Bool.not_false, Bool.true_and, Bool.false_and, Bool.and_true, Bool.and_false, Bool.or_true, Bool.or_false, Bool.true_or, Bool.false_or, if_true, if_false, Bool.false_eq_true, reduceIte, cI, bq_t, bq_f, mapF_pure, mapF_pureF, Int.reduceLT, Int.reduceLE, and_self, and_true, true_and]
    rw [mapF_map (g := fun i => mx 0 (lo L (i.toNat + 1) - hi L i.toNat))]
    · simp (config := { implicitDefEqProofs := false }) only [Option.bind_some, Option.bind_none, Option.map_some, Option.map_none, Option.isNone_none, Option.isNone_some, Option.isSome_none, Option.isSome_some, Bool.not_true, Bool.not_false, Bool.true_and, Bool.false_and, Bool.and_true, Bool.and_false, Bool.or_true, Bool.or_false, Bool.true_or, Bool.false_or, if_true, if_false, Bool.false_eq_true, reduceIte, cI, bq_t, bq_f, mapF_pure, mapF_pureF, Int.reduceLT, Int.reduceLE, and_self, and_true, true_and, List.map_map]; rfl
    · intro x hx
      obtain ⟨i, hi, rfl⟩ := List.mem_map.mp hx
      have hi := List.mem_range.mp hi
      have e := lo_ix L (i := i + 1) (by omega)
      rw [show ((i + 1 : Nat) : Int) = (i : Int) + 1 by omega] at e
      simp (config := { implicitDefEqProofs := false }) only [Option.bind_some, Option.bind_none, Option.map_some, Option.map_none, Option.isNone_none, Option.isNone_some, Option.isSome_none, Option.isSome_some, Bool.not_true, Bool.not_false, Bool.true_and, Bool.false_and, Bool.and_true, Bool.and_false, Bool.or_true, Bool.or_false, Bool.true_or, Bool.false_or, if_true, if_false, Bool.false_eq_true, reduceIte, cI, bq_t, bq_f, mapF_pure, mapF_pureF, Int.reduceLT, Int.reduceLE, and_self, and_true, true_and, e, hi_ix L (i := i) (by omega)]; rfl
theorem span_of_t (L : Ly) {i j : Nat} (hi : i < L.length) (hj : j < L.length) : m_span_of (lows 0 L, highs L) (i : Int) (j : Int) = some (spanP L i j) := by
  unfold m_span_of spanP
  simp (config := { implicitDefEqProofs := false }) only [Option.bind_some, Option.bind_none, Option.map_some, Option.map_none, Option.isNone_none, Option.isNone_some, Option.isSome_none, Option.isSome_some, Bool.not_true, Bool.not_false, Bool.true_and, Bool.false_and, Bool.and_true, Bool.and_false, Bool.or_true, Bool.or_false, Bool.true_or, Bool.false_or, if_true, if_false, Bool.false_eq_true, reduceIte, cI, bq_t, bq_f, mapF_pure, mapF_pureF, Int.reduceLT, Int.reduceLE, and_self, and_true, true_and, lo_ix L hi, hi_ix L hi, lo_ix L hj, hi_ix L hj]
  by_cases h : i = j
  · subst h; simp
  · rw [decide_eq_false (by omega), if_neg h]; rfl
theorem span_t {L : Ly} (h : okL L) {i j : Nat} (hij : i ≤ j) (hj : j < L.length) : m_span L (i : Int) (j : Int) = some (if suits 0 L = true then some (spanP L i j) else none) := by
  unfold m_span
  simp (config := { implicitDefEqProofs := false }) only [Option.bind_some, Option.bind_none, Option.map_some, Option.map_none, Option.isNone_none, Option.isNone_some, Option.isSome_none, Option.isSome_some, Bool.not_true, Bool.not_false, Bool.true_and, Bool.false_and, Bool.and_true, Bool.and_false, Bool.or_true, Bool.or_false, Bool.true_or, Bool.false_or, if_true, if_false, Bool.false_eq_true, reduceIte, cI, bq_t, bq_f, mapF_pure, mapF_pureF, Int.reduceLT, Int.reduceLE, and_self, and_true, true_and, dQ_L2, is_age_layers_t h, need_t, between_yes (show (0 : Int) ≤ (i : Nat) by omega) (show (i : Int) ≤ (L.length : Int) - 1 by omega), between_yes (show (i : Int) ≤ (j : Nat) by omega) (show (j : Int) ≤ (L.length : Int) - 1 by omega), tupled_T, nm_L2, dT_L2, years_of_t L (by have := h.l6; omega)]
  cases suits 0 L with
  | false => rfl
  | true => simp (config := { implicitDefEqProofs := false }) only [Option.bind_some, Option.bind_none, Option.map_some, Option.map_none, Option.isNone_none, Option.isNone_some, Option.isSome_none, Option.isSome_some, Bool.not_true, Bool.not_false, Bool.true_and, Bool.false_and, Bool.and_true, Bool.and_false, Bool.or_true, Bool.or_false, Bool.true_or, Bool.false_or, if_true, if_false, Bool.false_eq_true, reduceIte, cI, bq_t, bq_f, mapF_pure, mapF_pureF, Int.reduceLT, Int.reduceLE, and_self, and_true, true_and, span_of_t L (show i < L.length by omega) hj]
theorem at_year_t {L : Ly} (h : okL L) (y : Int) : m_at_year L y = some (if suits 0 L = true then toI (atF L y) else []) := by
  unfold m_at_year
  simp (config := { implicitDefEqProofs := false }) only [Option.bind_some, Option.bind_none, Option.map_some, Option.map_none, Option.isNone_none, Option.isNone_some, Option.isSome_none, Option.isSome_some, Bool.not_true, Bool.not_false, Bool.true_and, Bool.false_and, Bool.and_true, Bool.and_false, Bool.or_true, Bool.or_false, Bool.true_or, Bool.false_or, if_true, if_false, Bool.false_eq_true, reduceIte, cI, bq_t, bq_f, mapF_pure, mapF_pureF, Int.reduceLT, Int.reduceLE, and_self, and_true, true_and, dQ_L2, is_age_layers_t h, need_t, is_integer_t, tupled_T, nm_L2, dT_L2, years_of_t L (by have := h.l6; omega)]
  cases suits 0 L with
  | false => rfl
  | true =>
    simp (config := { implicitDefEqProofs := false }) only [Option.bind_some, Option.bind_none, Option.map_some, Option.map_none, Option.isNone_none, Option.isNone_some, Option.isSome_none, Option.isSome_some, Bool.not_true, Bool.not_false, Bool.true_and, Bool.false_and, Bool.and_true, Bool.and_false, Bool.or_true, Bool.or_false, Bool.true_or, Bool.false_or, if_true, if_false, Bool.false_eq_true, reduceIte, cI, bq_t, bq_f, mapF_pure, mapF_pureF, Int.reduceLT, Int.reduceLE, and_self, and_true, true_and, lows_len, rg_L h]
    rw [mapF_filter (p := fun i => decide (lo L i.toNat ≤ y) && decide (y ≤ hi L i.toNat)) (g := fun i => i)]
    · simp (config := { implicitDefEqProofs := false }) only [Option.bind_some, Option.bind_none, Option.map_some, Option.map_none, Option.isNone_none, Option.isNone_some, Option.isSome_none, Option.isSome_some, Bool.not_true, Bool.not_false, Bool.true_and, Bool.false_and, Bool.and_true, Bool.and_false, Bool.or_true, Bool.or_false, Bool.true_or, Bool.false_or, if_true, if_false, Bool.false_eq_true, reduceIte, cI, bq_t, bq_f, mapF_pure, mapF_pureF, Int.reduceLT, Int.reduceLE, and_self, and_true, true_and, List.map_id']
      unfold toI atF
      rw [List.filter_map]; rfl
    · intro x hx
      obtain ⟨i, hi, rfl⟩ := List.mem_map.mp hx
      have hi := List.mem_range.mp hi
      simp (config := { implicitDefEqProofs := false }) only [Option.bind_some, Option.bind_none, Option.map_some, Option.map_none, Option.isNone_none, Option.isNone_some, Option.isSome_none, Option.isSome_some, Bool.not_true, Bool.not_false, Bool.true_and, Bool.false_and, Bool.and_true, Bool.and_false, Bool.or_true, Bool.or_false, Bool.true_or, Bool.false_or, if_true, if_false, Bool.false_eq_true, reduceIte, cI, bq_t, bq_f, mapF_pure, mapF_pureF, Int.reduceLT, Int.reduceLE, and_self, and_true, true_and, lo_ix L hi, hi_ix L hi]
      show _ = some (if (decide (lo L i ≤ y) && decide (y ≤ K06.hi L i)) = true then _ else _)
      by_cases h1 : lo L i ≤ y <;> by_cases h2 : y ≤ K06.hi L i <;> simp [h1, h2]
/-! ### pairs that deny -/
def cI2 (p : Nat × Nat) : Int × Int := ((p.1 : Int), (p.2 : Int))
theorem denial_pairs_t {L : Ly} (h : okL L) : m_denial_pairs L = some ((prs L).map cI2) := by
  unfold m_denial_pairs
  simp (config := { implicitDefEqProofs := false }) only [Option.bind_some, Option.bind_none, Option.map_some, Option.map_none, Option.isNone_none, Option.isNone_some, Option.isSome_none, Option.isSome_some, Bool.not_true, Bool.not_false, Bool.true_and, Bool.false_and, Bool.and_true, Bool.and_false, Bool.or_true, Bool.or_false, Bool.true_or, Bool.false_or, if_true, if_false, Bool.false_eq_true, reduceIte, cI, bq_t, bq_f, mapF_pure, mapF_pureF, Int.reduceLT, Int.reduceLE, and_self, and_true, true_and, rg_L h]
  rw [mapL_flat (g := fun i => (rowB L i.toNat).map cI2)]
  · have e : ((List.range L.length).map fun i : Nat => (i : Int)).flatMap (fun i => (rowB L i.toNat).map cI2) = (prs L).map cI2 := by
      rw [List.flatMap_map]
      unfold prs
      rw [List.map_flatMap]; rfl
    simp (config := { implicitDefEqProofs := false }) only [Option.bind_some, Option.bind_none, Option.map_some, Option.map_none, Option.isNone_none, Option.isNone_some, Option.isSome_none, Option.isSome_some, Bool.not_true, Bool.not_false, Bool.true_and, Bool.false_and, Bool.and_true, Bool.and_false, Bool.or_true, Bool.or_false, Bool.true_or, Bool.false_or, if_true, if_false, Bool.false_eq_true, reduceIte, cI, bq_t, bq_f, mapF_pure, mapF_pureF, Int.reduceLT, Int.reduceLE, and_self, and_true, true_and, e]
    rw [if_pos (lim_ok (by rw [List.length_map]; have := prs_len L h.l6; omega))]; rfl
  · intro x hx
    obtain ⟨i, hi, rfl⟩ := List.mem_map.mp hx
    have hi := List.mem_range.mp hi
    simp (config := { implicitDefEqProofs := false }) only [Option.bind_some, Option.bind_none, Option.map_some, Option.map_none, Option.isNone_none, Option.isNone_some, Option.isSome_none, Option.isSome_some, Bool.not_true, Bool.not_false, Bool.true_and, Bool.false_and, Bool.and_true, Bool.and_false, Bool.or_true, Bool.or_false, Bool.true_or, Bool.false_or, if_true, if_false, Bool.false_eq_true, reduceIte, cI, bq_t, bq_f, mapF_pure, mapF_pureF, Int.reduceLT, Int.reduceLE, and_self, and_true, true_and, rgM_from (Nat.le_of_lt hi) (by have := h.l6; omega)]
    rw [mapF_filter (p := fun j => bad L i j.toNat) (g := fun j => ((i : Int), j))]
    · unfold rowB
      rw [List.filter_map, List.map_map, List.map_map]; rfl
    · intro y hy
      obtain ⟨d, hd, rfl⟩ := List.mem_map.mp hy
      have hd := List.mem_range.mp hd
      simp (config := { implicitDefEqProofs := false }) only [Option.bind_some, Option.bind_none, Option.map_some, Option.map_none, Option.isNone_none, Option.isNone_some, Option.isSome_none, Option.isSome_some, Bool.not_true, Bool.not_false, Bool.true_and, Bool.false_and, Bool.and_true, Bool.and_false, Bool.or_true, Bool.or_false, Bool.true_or, Bool.false_or, if_true, if_false, Bool.false_eq_true, reduceIte, cI, bq_t, bq_f, mapF_pure, mapF_pureF, Int.reduceLT, Int.reduceLE, and_self, and_true, true_and, ly_ix L hi, ly_ix L (show i + d < L.length by omega)]
      show _ = some (if bad L i (i + d) = true then _ else _)
      unfold bad
      by_cases z : (lyAt L (i + d)).2 < (lyAt L i).1 <;> simp [z]
theorem denial_t (b c : Bool) {L : Ly} (h : okL L) : m_denial (qL b c L) = some ((prs L).map cI2).head? := by
  unfold m_denial
  simp (config := { implicitDefEqProofs := false }) only [Option.bind_some, Option.bind_none, Option.map_some, Option.map_none, Option.isNone_none, Option.isNone_some, Option.isSome_none, Option.isSome_some, Bool.not_true, Bool.not_false, Bool.true_and, Bool.false_and, Bool.and_true, Bool.and_false, Bool.or_true, Bool.or_false, Bool.true_or, Bool.false_or, if_true, if_false, Bool.false_eq_true, reduceIte, cI, bq_t, bq_f, mapF_pure, mapF_pureF, Int.reduceLT, Int.reduceLE, and_self, and_true, true_and, is_age_layers_t h, need_t, tupled_q, nm_L2, dT_L2, denial_pairs_t h]
  cases prs L with
  | nil => rfl
  | cons p ps =>
    simp (config := { implicitDefEqProofs := false }) only [Option.bind_some, Option.bind_none, Option.map_some, Option.map_none, Option.isNone_none, Option.isNone_some, Option.isSome_none, Option.isSome_some, Bool.not_true, Bool.not_false, Bool.true_and, Bool.false_and, Bool.and_true, Bool.and_false, Bool.or_true, Bool.or_false, Bool.true_or, Bool.false_or, if_true, if_false, Bool.false_eq_true, reduceIte, cI, bq_t, bq_f, mapF_pure, mapF_pureF, Int.reduceLT, Int.reduceLE, and_self, and_true, true_and, List.map_cons, List.isEmpty_cons, ixD_0]; rfl
theorem is_row2_t (c : Bool) (p : Int × Int) : m_is_row (eQ eI (qP c p)) 2 2 = some true := by
  rw [is_row_t (isSq_Q _) (lenM_Q _)]; rfl
theorem is_denial_pair_t {L : Ly} (c : Bool) {i j : Nat} (hij : i ≤ j) (hj : j < L.length) : m_is_denial_pair L (qP c ((i : Int), (j : Int))) = some (bad L i j) := by
  unfold m_is_denial_pair
  have g0 : ixD (qP c ((i : Int), (j : Int))).2 0 = some (i : Int) := rfl
  have g1 : ixD (qP c ((i : Int), (j : Int))).2 1 = some (j : Int) := rfl
  simp (config := { implicitDefEqProofs := false }) only [Option.bind_some, Option.bind_none, Option.map_some, Option.map_none, Option.isNone_none, Option.isNone_some, Option.isSome_none, Option.isSome_some, Bool.not_true, Bool.not_false, Bool.true_and, Bool.false_and, Bool.and_true, Bool.and_false, Bool.or_true, Bool.or_false, Bool.true_or, Bool.false_or, if_true, if_false, Bool.false_eq_true, reduceIte, cI, bq_t, bq_f, mapF_pure, mapF_pureF, Int.reduceLT, Int.reduceLE, and_self, and_true, true_and, is_row2_t, g0, g1, between_yes (show (0 : Int) ≤ (i : Nat) by omega) (show (i : Int) ≤ (L.length : Int) - 1 by omega), between_yes (show (i : Int) ≤ (j : Nat) by omega) (show (j : Int) ≤ (L.length : Int) - 1 by omega), ly_ix L (show i < L.length by omega), ly_ix L hj]
  rfl
theorem is_denial_pair_n {L : Ly} (c : Bool) {i : Nat} (hi : i < L.length) : m_is_denial_pair L (qP c ((i : Int), (L.length : Int))) = some false := by
  unfold m_is_denial_pair
  have g0 : ixD (qP c ((i : Int), (L.length : Int))).2 0 = some (i : Int) := rfl
  have g1 : ixD (qP c ((i : Int), (L.length : Int))).2 1 = some (L.length : Int) := rfl
  have n : m_is_between (L.length : Int) (i : Int) ((L.length : Int) - 1) = some false := by
    rw [is_between_t, decide_eq_false (show ¬ (L.length : Int) ≤ (L.length : Int) - 1 by omega), Bool.and_false]
  simp (config := { implicitDefEqProofs := false }) only [Option.bind_some, Option.bind_none, Option.map_some, Option.map_none, Option.isNone_none, Option.isNone_some, Option.isSome_none, Option.isSome_some, Bool.not_true, Bool.not_false, Bool.true_and, Bool.false_and, Bool.and_true, Bool.and_false, Bool.or_true, Bool.or_false, Bool.true_or, Bool.false_or, if_true, if_false, Bool.false_eq_true, reduceIte, cI, bq_t, bq_f, mapF_pure, mapF_pureF, Int.reduceLT, Int.reduceLE, and_self, and_true, true_and, is_row2_t, g0, g1, between_yes (show (0 : Int) ≤ (i : Nat) by omega) (show (i : Int) ≤ (L.length : Int) - 1 by omega), n]
theorem denies_t {L : Ly} (h : okL L) {v : Bool × List Int} {r : Bool} (hv : m_is_denial_pair L v = some r) : m_denies L v = some r := by
  unfold m_denies
  simp (config := { implicitDefEqProofs := false }) only [Option.bind_some, Option.bind_none, Option.map_some, Option.map_none, Option.isNone_none, Option.isNone_some, Option.isSome_none, Option.isSome_some, Bool.not_true, Bool.not_false, Bool.true_and, Bool.false_and, Bool.and_true, Bool.and_false, Bool.or_true, Bool.or_false, Bool.true_or, Bool.false_or, if_true, if_false, Bool.false_eq_true, reduceIte, cI, bq_t, bq_f, mapF_pure, mapF_pureF, Int.reduceLT, Int.reduceLE, and_self, and_true, true_and, dQ_L2, is_age_layers_t h, need_t, tupled_T, nm_L2, dT_L2, hv]
/-! ### rows of pairs -/
def usd (u : List Nat) : List (Int × Bool) := u.map fun i : Nat => ((i : Int), true)
theorem get_usd (u : List Nat) (i : Nat) : (getM (usd u) (i : Int)).isSome = decide (i ∈ u) := by
  unfold getM usd
  rw [Option.isSome_map]
  induction u with
  | nil => rfl
  | cons a u ih =>
    rw [List.map_cons, List.find?_cons]
    by_cases z : a = i
    · subst z; simp
    · have : decide (((a : Nat) : Int) = (i : Int)) = false := decide_eq_false (by omega)
      simp only [this]
      rw [ih]
      by_cases w : i ∈ u
      · simp [w]
      · simp [w]; omega
theorem put_usd (u : List Nat) (i : Nat) : putM (usd u) (i : Int) true = usd (addK u i) := by
  unfold putM addK
  rw [get_usd]
  by_cases z : i ∈ u
  · rw [decide_eq_true z, if_pos rfl, if_pos z]
    unfold usd
    rw [List.map_map]
    refine List.map_congr_left fun a _ => ?_
    show (if ((a : Nat) : Int) = (i : Int) then _ else _) = _
    split <;> rfl
  · rw [decide_eq_false z, if_neg (by decide), if_neg z]
    unfold usd
    rw [List.map_append]; rfl
theorem addK_len (u : List Nat) (i : Nat) : (addK u i).length ≤ u.length + 1 := by
  unfold addK
  split
  · omega
  · rw [List.length_append]; exact Nat.le_refl _
def noU : List Nat → List (Nat × Nat) → List Nat
  | u, [] => u
  | u, p :: r => noU (addK (addK u p.1) p.2) r
theorem nf_t {L : Ly} {f : (Int × Int) → List (Int × Bool) → Option (Out (List (Int × Bool)) Bool)} (hf : ∀ i j u, i ≤ j → j < L.length → u.length < 100 → f ((i : Nat), (j : Nat)) (usd u) = some (if (bad L i j && !(decide (i ∈ u) || decide (j ∈ u))) = true then .nx (usd (addK (addK u i) j)) else .rt false)) :
    ∀ (P : List (Nat × Nat)) (u : List Nat), (∀ p ∈ P, p.1 ≤ p.2 ∧ p.2 < L.length) → u.length + 2 * P.length ≤ 90 → forT f (P.map cI2) (usd u) = some (if noF L u P = true then .inl (usd (noU u P)) else .inr false)
  | [], u, _, _ => rfl
  | p :: r, u, h, hl => by
    rw [List.length_cons] at hl
    obtain ⟨p1, p2⟩ := h p List.mem_cons_self
    have en : noF L u (p :: r) = (bad L p.1 p.2 && (!(decide (p.1 ∈ u) || decide (p.2 ∈ u)) && noF L (addK (addK u p.1) p.2) r)) := rfl
    have k1 := addK_len u p.1
    have k2 := addK_len (addK u p.1) p.2
    have e := nf_t hf r (addK (addK u p.1) p.2) (fun q hq => h q (List.mem_cons_of_mem _ hq)) (by omega)
    rw [List.map_cons, forT]
    show (f ((p.1 : Int), (p.2 : Int)) (usd u)).bind _ = _
    rw [hf p.1 p.2 u p1 p2 (by omega), en, ← Bool.and_assoc]
    cases z : (bad L p.1 p.2 && !(decide (p.1 ∈ u) || decide (p.2 ∈ u))) with
    | false => rw [if_neg (by decide), Bool.false_and]; rfl
    | true =>
      rw [if_pos rfl, Bool.true_and, Option.bind_some]
      exact e
theorem dQ_P (p : Int × Int) : dQ dI (eP (fc eI (f1 eI)) p) = some (qP true p) := rfl
theorem set_usd (u : List Nat) (i : Nat) (h : u.length < 1000) : setKM (usd u) (i : Int) true = some (usd (addK u i)) := by
  unfold setKM
  rw [if_pos (lim_lt (by unfold usd; rw [List.length_map]; omega)), put_usd]
theorem no_fewer_t {L : Ly} (h : okL L) (m : Nat) (P : List (Nat × Nat)) (hP : ∀ p ∈ P, p.1 ≤ p.2 ∧ p.2 < L.length) (hl : P.length ≤ 40) : m_no_fewer_holds L (m : Int) (P.map cI2) = some (decide (P.length ≤ L.length) && (decide (P.length = m) && noF L [] P)) := by
  unfold m_no_fewer_holds
  simp (config := { implicitDefEqProofs := false }) only [Option.bind_some, Option.bind_none, Option.map_some, Option.map_none, Option.isNone_none, Option.isNone_some, Option.isSome_none, Option.isSome_some, Bool.not_true, Bool.not_false, Bool.true_and, Bool.false_and, Bool.and_true, Bool.and_false, Bool.or_true, Bool.or_false, Bool.true_or, Bool.false_or, if_true, if_false, Bool.false_eq_true, reduceIte, cI, bq_t, bq_f, mapF_pure, mapF_pureF, Int.reduceLT, Int.reduceLE, and_self, and_true, true_and, dQ_L2, is_age_layers_t h, need_t, is_integer_t, tupled_T, nm_L2, dT_L2, is_row_t (isSq_T _) (lenM_T _), lenM_T, List.length_map]
  by_cases c1 : P.length ≤ L.length
  · rw [decide_eq_true (show (0 : Int) ≤ (P.length : Nat) by omega), decide_eq_true (show ((P.length : Nat) : Int) ≤ (L.length : Nat) by omega), decide_eq_true c1]
    by_cases c2 : P.length = m
    · rw [decide_eq_true (show ((P.length : Nat) : Int) = (m : Nat) by omega), decide_eq_true c2]
      simp (config := { implicitDefEqProofs := false }) only [Option.bind_some, Option.bind_none, Option.map_some, Option.map_none, Option.isNone_none, Option.isNone_some, Option.isSome_none, Option.isSome_some, Bool.not_true, Bool.not_false, Bool.true_and, Bool.false_and, Bool.and_true, Bool.and_false, Bool.or_true, Bool.or_false, Bool.true_or, Bool.false_or, if_true, if_false, Bool.false_eq_true, reduceIte, cI, bq_t, bq_f, mapF_pure, mapF_pureF, Int.reduceLT, Int.reduceLE, and_self, and_true, true_and]
      rw [show ([] : List (Int × Bool)) = usd [] from rfl, nf_t (L := L) ?_ P [] hP (by simp; omega)]
      · cases noF L [] P <;> rfl
      · intro i j u hij hj hu
        have k1 := addK_len u i
        simp (config := { implicitDefEqProofs := false }) only [Option.bind_some, Option.bind_none, Option.map_some, Option.map_none, Option.isNone_none, Option.isNone_some, Option.isSome_none, Option.isSome_some, Bool.not_true, Bool.not_false, Bool.true_and, Bool.false_and, Bool.and_true, Bool.and_false, Bool.or_true, Bool.or_false, Bool.true_or, Bool.false_or, if_true, if_false, Bool.false_eq_true, reduceIte, cI, bq_t, bq_f, mapF_pure, mapF_pureF, Int.reduceLT, Int.reduceLE, and_self, and_true, true_and, dQ_P, is_denial_pair_t true hij hj, get_usd, set_usd u i (by omega), set_usd (addK u i) j (by omega)]
        cases bad L i j
        · rfl
        · by_cases z1 : i ∈ u <;> by_cases z2 : j ∈ u <;> simp [z1, z2]
    · rw [decide_eq_false (show ¬ ((P.length : Nat) : Int) = (m : Nat) by omega), decide_eq_false c2]; rfl
  · rw [decide_eq_true (show (0 : Int) ≤ (P.length : Nat) by omega), decide_eq_false (show ¬ ((P.length : Nat) : Int) ≤ (L.length : Nat) by omega), decide_eq_false c1]; rfl
end K06
end Ws

set_option Elab.async false
set_option linter.all false
set_option maxRecDepth 100000
set_option maxHeartbeats 400000
namespace Ws
namespace K06
open PySem
theorem distinct_t (xs : List Int) (h : xs.length ≤ 500) : m_distinct xs = some (dist xs) := by
  have hl : (srt xs).length = xs.length := sortD_len
  unfold m_distinct
  simp (config := { implicitDefEqProofs := false }) only [Option.bind_some, Option.bind_none, Option.map_some, Option.map_none, Option.isNone_none, Option.isNone_some, Option.isSome_none, Option.isSome_some, Bool.not_true, Bool.not_false, Bool.true_and, Bool.false_and, Bool.and_true, Bool.and_false, Bool.or_true, Bool.or_false, Bool.true_or, Bool.false_or, if_true, if_false, Bool.false_eq_true, reduceIte, cI, bq_t, bq_f, mapF_pure, mapF_pureF, Int.reduceLT, Int.reduceLE, and_self, and_true, true_and]
  rw [mapM_some (g := rkI) fun x _ => rank_I x]
  simp (config := { implicitDefEqProofs := false }) only [Option.bind_some, Option.bind_none, Option.map_some, Option.map_none, Option.isNone_none, Option.isNone_some, Option.isSome_none, Option.isSome_some, Bool.not_true, Bool.not_false, Bool.true_and, Bool.false_and, Bool.and_true, Bool.and_false, Bool.or_true, Bool.or_false, Bool.true_or, Bool.false_or, if_true, if_false, Bool.false_eq_true, reduceIte, cI, bq_t, bq_f, mapF_pure, mapF_pureF, Int.reduceLT, Int.reduceLE, and_self, and_true, true_and, sortKM_ints]
  rw [ded_loop ?_ (srt xs) [] (by rw [hl]; simp; omega)]
  · rfl
  · intro y s hs
    rcases List.eq_nil_or_concat s with rfl | ⟨a, m, rfl⟩
    · rfl
    · rw [List.concat_eq_append] at *
      rw [last_ne, show (a ++ [m]).isEmpty = false by cases a <;> rfl, ixD_neg1]
      have nm : ∀ v, noMut (rkI v) = true := fun _ => rfl
      simp (config := { implicitDefEqProofs := false }) only [Option.bind_some, Option.bind_none, Option.map_some, Option.map_none, Option.isNone_none, Option.isNone_some, Option.isSome_none, Option.isSome_some, Bool.not_true, Bool.not_false, Bool.true_and, Bool.false_and, Bool.and_true, Bool.and_false, Bool.or_true, Bool.or_false, Bool.true_or, Bool.false_or, if_true, if_false, Bool.false_eq_true, reduceIte, cI, bq_t, bq_f, mapF_pure, mapF_pureF, Int.reduceLT, Int.reduceLE, and_self, and_true, true_and, rank_I, nm, ne_rkI]
      rw [if_pos (lim_lt (by omega)), List.getLast?_append]
      by_cases z : m = y
      · subst z; simp
      · have : ¬ (some m = some y) := fun w => z (by injection w)
        simp [z]
def yrs (L : Ly) : List Int := dist (0 :: L.map (·.1))
def rowK (ys : List Int) (r : Ly) : List (Int × Int) := ys.map fun y => (y, opt r y)
def rtT (ys : List Int) : Ly → List (List (Int × Int))
  | [] => [rowK ys []]
  | p :: r => rowK ys (p :: r) :: rtT ys r
theorem get_row {g : Int → Int} {ys : List Int} {y : Int} (h : y ∈ ys) : getM (ys.map fun y => (y, g y)) y = some (g y) := by
  unfold getM
  induction ys with
  | nil => cases h
  | cons a ys ih =>
    rw [List.map_cons, List.find?_cons]
    by_cases z : a = y
    · subst z; simp
    · simp only [decide_eq_false z]
      exact ih ((List.mem_cons.mp h).resolve_left fun e => z e.symm)
theorem get_no {g : Int → Int} {ys : List Int} {y : Int} (h : y ∉ ys) (more : List (Int × Int)) : getM (ys.map (fun y => (y, g y)) ++ more) y = getM more y := by
  unfold getM
  induction ys with
  | nil => rfl
  | cons a ys ih =>
    rw [List.map_cons, List.cons_append, List.find?_cons, decide_eq_false fun z => h (by rw [← z]; exact List.mem_cons_self)]
    exact ih fun z => h (List.mem_cons_of_mem _ z)
theorem put_new {g : Int → Int} {ys : List Int} {y v : Int} (h : y ∉ ys) : putM (ys.map fun y => (y, g y)) y v = ys.map (fun y => (y, g y)) ++ [(y, v)] := by
  unfold putM
  have := get_no (g := g) h []
  rw [List.append_nil] at this
  rw [this]; rfl
theorem put_last {g : Int → Int} {ys : List Int} {y v w : Int} (h : y ∉ ys) : putM (ys.map (fun y => (y, g y)) ++ [(y, v)]) y w = ys.map (fun y => (y, g y)) ++ [(y, w)] := by
  unfold putM
  rw [get_no h]
  have e : getM [(y, v)] y = some v := by unfold getM; simp
  rw [e]
  show List.map _ _ = _
  rw [List.map_append, List.map_map]
  congr 1
  · refine List.map_congr_left fun a ha => ?_
    show (if a = y then _ else _) = _
    rw [if_neg fun z : a = y => h (z ▸ ha)]
  · simp
theorem fold_row (g : Int → Int) : ∀ (ys done : List Int), (done ++ ys).Nodup → (ys.map fun y => (y, g y)).foldl (fun acc p => putM acc p.1 p.2) (done.map fun y => (y, g y)) = (done ++ ys).map fun y => (y, g y)
  | [], done, _ => by simp
  | y :: ys, done, h => by
    have hy : y ∉ done := fun z => by
      rw [List.nodup_append] at h
      exact h.2.2 y z y List.mem_cons_self rfl
    rw [List.map_cons, List.foldl_cons, put_new hy]
    have := fold_row g ys (done ++ [y]) (by rw [List.append_assoc]; exact h)
    rw [List.map_append] at this
    rw [show done.map (fun y => (y, g y)) ++ [(y, g y)] = done.map (fun y => (y, g y)) ++ [y].map fun y => (y, g y) from rfl, this, List.append_assoc]; rfl
theorem set_new {g : Int → Int} {ys : List Int} {y v : Int} (h : y ∉ ys) (hl : ys.length < 100) : setKM (ys.map fun y => (y, g y)) y v = some (ys.map (fun y => (y, g y)) ++ [(y, v)]) := by
  unfold setKM
  rw [if_pos (lim_lt (by rw [List.length_map]; omega)), put_new h]
theorem set_last {g : Int → Int} {ys : List Int} {y v w : Int} (h : y ∉ ys) (hl : ys.length < 100) : setKM (ys.map (fun y => (y, g y)) ++ [(y, v)]) y w = some (ys.map (fun y => (y, g y)) ++ [(y, w)]) := by
  unfold setKM
  rw [if_pos (lim_lt (by rw [List.length_append, List.length_map]; simp; omega)), put_last h]
theorem get_last {g : Int → Int} {ys : List Int} {y v : Int} (h : y ∉ ys) : getM (ys.map (fun y => (y, g y)) ++ [(y, v)]) y = some v := by
  rw [get_no h]; unfold getM; simp
theorem row_t {YS : List Int} {p : Int × Int} {r : Ly} (hp : p.1 ∈ YS) {f : Int → List (Int × Int) → Option (List (Int × Int))}
    (hf : ∀ y done, y ∈ YS → y ∉ done → done.length < 100 → f y (rowK done (p :: r)) = some (rowK (done ++ [y]) (p :: r))) : ∀ (ys done : List Int), (done ++ ys).Nodup → (∀ y ∈ ys, y ∈ YS) → done.length + ys.length ≤ 90 → forN f ys (rowK done (p :: r)) = some (rowK (done ++ ys) (p :: r))
  | [], done, _, _, _ => by rw [forN, List.append_nil]
  | y :: ys, done, h, hy, hl => by
    have hd : y ∉ done := fun z => by
      rw [List.nodup_append] at h
      exact h.2.2 y z y List.mem_cons_self rfl
    rw [List.length_cons] at hl
    rw [forN, hf y done (hy y List.mem_cons_self) hd (by omega), Option.bind_some, row_t hp hf ys (done ++ [y]) (by rw [List.append_assoc]; exact h) (fun z hz => hy z (List.mem_cons_of_mem _ hz)) (by rw [List.length_append, List.length_singleton]; omega), List.append_assoc]; rfl
theorem rtT_rev (ys : List Int) : ∀ r : Ly, ∃ T, rtT ys r = rowK ys r :: T
  | [] => ⟨_, rfl⟩
  | p :: r => ⟨_, rfl⟩
theorem rtT_len (ys : List Int) : ∀ r : Ly, (rtT ys r).length = r.length + 1
  | [] => rfl
  | p :: r => by show (rtT ys r).length + 1 = _; rw [rtT_len ys r]; rfl
theorem tab_t {YS : List Int} {f : (Int × Int) → List (List (Int × Int)) → Option (List (List (Int × Int)))}
    (hf : ∀ p r, p.1 ∈ YS → r.length < 100 → f p (rtT YS r).reverse = some (rtT YS (p :: r)).reverse) : ∀ (Q r : Ly), (∀ p ∈ Q, p.1 ∈ YS) → Q.length + r.length ≤ 50 → forN f Q (rtT YS r).reverse = some (rtT YS (Q.reverse ++ r)).reverse
  | [], r, _, _ => rfl
  | p :: Q, r, h, hl => by
    rw [List.length_cons] at hl
    rw [forN, hf p r (h p List.mem_cons_self) (by omega), Option.bind_some, tab_t hf Q (p :: r) (fun q hq => h q (List.mem_cons_of_mem _ hq)) (by rw [List.length_cons]; omega)]
    rw [List.reverse_cons, List.append_assoc]; rfl
theorem off_table_t {L : Ly} (h : L.length ≤ 6) : m_off_table L = some (rtT (yrs L) L) := by
  have hN := dist_ok (0 :: L.map (·.1))
  have hY : (yrs L).length ≤ 10 := by
    have := dist_len (0 :: L.map (·.1))
    rw [List.length_cons, List.length_map] at this
    unfold yrs; omega
  unfold m_off_table
  simp (config := { implicitDefEqProofs := false }) only [Option.bind_some, Option.bind_none, Option.map_some, Option.map_none, Option.isNone_none, Option.isNone_some, Option.isSome_none, Option.isSome_some, Bool.not_true, Bool.not_false, Bool.true_and, Bool.false_and, Bool.and_true, Bool.and_false, Bool.or_true, Bool.or_false, Bool.true_or, Bool.false_or, if_true, if_false, Bool.false_eq_true, reduceIte, cI, bq_t, bq_f, mapF_pure, mapF_pureF, Int.reduceLT, Int.reduceLE, and_self, and_true, true_and]
  rw [catM_ok (by rw [List.length_map]; simp; omega)]
  simp (config := { implicitDefEqProofs := false }) only [Option.bind_some, Option.bind_none, Option.map_some, Option.map_none, Option.isNone_none, Option.isNone_some, Option.isSome_none, Option.isSome_some, Bool.not_true, Bool.not_false, Bool.true_and, Bool.false_and, Bool.and_true, Bool.and_false, Bool.or_true, Bool.or_false, Bool.true_or, Bool.false_or, if_true, if_false, Bool.false_eq_true, reduceIte, cI, bq_t, bq_f, mapF_pure, mapF_pureF, Int.reduceLT, Int.reduceLE, and_self, and_true, true_and, distinct_t (([0] : List Int) ++ L.map fun p => p.1) (by rw [List.length_append, List.length_map]; simp; omega)]
  rw [show (([] : List (Int × Int))) = (([] : List Int).map fun y => (y, (0 : Int))) from rfl, fold_row (fun _ => 0) _ [] (by rw [List.nil_append]; exact hN.1)]
  simp (config := { implicitDefEqProofs := false }) only [Option.bind_some, Option.bind_none, Option.map_some, Option.map_none, Option.isNone_none, Option.isNone_some, Option.isSome_none, Option.isSome_some, Bool.not_true, Bool.not_false, Bool.true_and, Bool.false_and, Bool.and_true, Bool.and_false, Bool.or_true, Bool.or_false, Bool.true_or, Bool.false_or, if_true, if_false, Bool.false_eq_true, reduceIte, cI, bq_t, bq_f, mapF_pure, mapF_pureF, Int.reduceLT, Int.reduceLE, and_self, and_true, true_and, List.nil_append]
  rw [show [(dist ([0] ++ L.map fun p => p.1)).map fun y => (y, (0 : Int))] = (rtT (yrs L) []).reverse from rfl, tab_t (YS := yrs L) ?_ L.reverse [] (fun p hp => (hN.2 _).mpr (List.mem_cons_of_mem _ (List.mem_map.mpr ⟨p, List.mem_reverse.mp hp, rfl⟩))) (by simp; omega)]
  · rw [List.reverse_reverse, List.append_nil]
    simp (config := { implicitDefEqProofs := false }) only [Option.bind_some, Option.bind_none, Option.map_some, Option.map_none, Option.isNone_none, Option.isNone_some, Option.isSome_none, Option.isSome_some, Bool.not_true, Bool.not_false, Bool.true_and, Bool.false_and, Bool.and_true, Bool.and_false, Bool.or_true, Bool.or_false, Bool.true_or, Bool.false_or, if_true, if_false, Bool.false_eq_true, reduceIte, cI, bq_t, bq_f, mapF_pure, mapF_pureF, Int.reduceLT, Int.reduceLE, and_self, and_true, true_and, List.reverse_reverse]
  · intro p r hp hr
    obtain ⟨T, eT⟩ := rtT_rev (yrs L) r
    have el : ixD (rtT (yrs L) r).reverse (-1) = some (rowK (yrs L) r) := by
      rw [eT, List.reverse_cons, ixD_neg1]
    simp (config := { implicitDefEqProofs := false }) only [Option.bind_some, Option.bind_none, Option.map_some, Option.map_none, Option.isNone_none, Option.isNone_some, Option.isSome_none, Option.isSome_some, Bool.not_true, Bool.not_false, Bool.true_and, Bool.false_and, Bool.and_true, Bool.and_false, Bool.or_true, Bool.or_false, Bool.true_or, Bool.false_or, if_true, if_false, Bool.false_eq_true, reduceIte, cI, bq_t, bq_f, mapF_pure, mapF_pureF, Int.reduceLT, Int.reduceLE, and_self, and_true, true_and, el]
    rw [show dist ([0] ++ L.map fun p => p.1) = yrs L from rfl, show ([] : List Int).map (fun y => (y, (0 : Int))) = rowK [] (p :: r) from rfl, row_t (YS := yrs L) hp ?_ (yrs L) [] (by rw [List.nil_append]; exact hN.1) (fun _ h => h) (by simp; omega)]
    · simp (config := { implicitDefEqProofs := false }) only [Option.bind_some, Option.bind_none, Option.map_some, Option.map_none, Option.isNone_none, Option.isNone_some, Option.isSome_none, Option.isSome_some, Bool.not_true, Bool.not_false, Bool.true_and, Bool.false_and, Bool.and_true, Bool.and_false, Bool.or_true, Bool.or_false, Bool.true_or, Bool.false_or, if_true, if_false, Bool.false_eq_true, reduceIte, cI, bq_t, bq_f, mapF_pure, mapF_pureF, Int.reduceLT, Int.reduceLE, and_self, and_true, true_and, List.nil_append, List.length_reverse, rtT_len]
      rw [if_pos (lim_lt (by omega))]
      show _ = some (rowK (yrs L) (p :: r) :: rtT (yrs L) r).reverse
      rw [List.reverse_cons]
    · intro y done hy hd hl
      have g1 : getM (rowK (yrs L) r) y = some (opt r y) := get_row (g := opt r) hy
      have hm : mx y p.1 ∈ yrs L := by unfold mx; split <;> assumption
      have g2 : getM (rowK (yrs L) r) (if p.1 > y then p.1 else y) = some (opt r (mx y p.1)) := get_row (g := opt r) hm
      have s1 : ∀ v, setKM (rowK done (p :: r)) y v = some (rowK done (p :: r) ++ [(y, v)]) := fun v => set_new hd hl
      have s2 : ∀ v w, setKM (rowK done (p :: r) ++ [(y, v)]) y w = some (rowK done (p :: r) ++ [(y, w)]) := fun v w => set_last hd hl
      have g3 : ∀ v, getM (rowK done (p :: r) ++ [(y, v)]) y = some v := fun v => get_last hd
      simp (config := { implicitDefEqProofs := false }) only [Option.bind_some, Option.bind_none, Option.map_some, Option.map_none, Option.isNone_none, Option.isNone_some, Option.isSome_none, Option.isSome_some, Bool.not_true, Bool.not_false, Bool.true_and, Bool.false_and, Bool.and_true, Bool.and_false, Bool.or_true, Bool.or_false, Bool.true_or, Bool.false_or, if_true, if_false, Bool.false_eq_true, reduceIte, cI, bq_t, bq_f, mapF_pure, mapF_pureF, Int.reduceLT, Int.reduceLE, and_self, and_true, true_and, g1, g2, s1, s2, g3]
      have er : rowK (done ++ [y]) (p :: r) = rowK done (p :: r) ++ [(y, opt (p :: r) y)] := by unfold rowK; rw [List.map_append]; rfl
      rw [er]
      show (if decide (mx y p.1 ≤ p.2) = true then _ else _) = some (_ ++ [(y, if mx y p.1 ≤ p.2 then mn (1 + opt r y) (opt r (mx y p.1)) else 1 + opt r y)])
      by_cases z : mx y p.1 ≤ p.2
      · rw [decide_eq_true z, if_pos rfl, if_pos z]; rfl
      · rw [decide_eq_false z, if_neg (by decide), if_neg z]
theorem rtT_at (ys : List Int) : ∀ (r : Ly) (k : Nat), k ≤ r.length → (rtT ys r)[k]? = some (rowK ys (r.drop k))
  | [], 0, _ => rfl
  | p :: r, 0, _ => rfl
  | p :: r, k + 1, h => by
    show (rtT ys r)[k]? = _
    rw [rtT_at ys r k (by simpa using h)]; rfl
  | [], k + 1, h => by simp at h
end K06
end Ws

set_option Elab.async false
set_option linter.all false
set_option maxRecDepth 100000
set_option maxHeartbeats 400000
namespace Ws
namespace K06
open PySem
/-! ### the fewest that go -/
theorem gr_t {L : Ly} {ys : List Int} (hys : ∀ p ∈ L, p.1 ∈ ys) {f : Int → Int × List Int → Option (Int × List Int)} (hf : ∀ k p r m acc, L.drop k = p :: r → m ∈ ys → acc.length < 100 → f (k : Nat) (m, acc) = some (if opt (p :: r) m = 1 + opt r m then (m, acc ++ [(k : Int)]) else (mx m p.1, acc))) :
    ∀ (r : Ly) (k : Nat) (m : Int) (acc : List Int), L.drop k = r → k + r.length = L.length → m ∈ ys → acc.length + r.length ≤ 90 → ∃ m', forN f ((List.range r.length).map fun i : Nat => ((k + i : Nat) : Int)) (m, acc) = some (m', acc ++ toI (gr k r m))
  | [], k, m, acc, _, _, _, _ => ⟨m, by rw [show toI (gr k [] m) = [] from rfl, List.append_nil]; rfl⟩
  | p :: r, k, m, acc, hd, hk, hm, hl => by
    rw [List.length_cons] at hl hk
    have hd2 : L.drop (k + 1) = r := by
      have := List.drop_drop (i := 1) (j := k) (l := L)
      rw [hd] at this
      rw [Nat.add_comm]
      rw [Nat.add_comm] at this
      simpa [Nat.add_comm] using this.symm
    have hp : p.1 ∈ ys := hys p (List.mem_of_mem_drop (i := k) (by rw [hd]; exact List.mem_cons_self))
    have er : ((List.range (r.length + 1)).map fun i : Nat => ((k + i : Nat) : Int)) = (k : Int) :: (List.range r.length).map fun i : Nat => ((k + 1 + i : Nat) : Int) := by
      rw [List.range_succ_eq_map, List.map_cons, List.map_map]
      refine congrArg ((k : Int) :: ·) (List.map_congr_left fun i _ => ?_)
      show ((k + (i + 1) : Nat) : Int) = ((k + 1 + i : Nat) : Int)
      rw [show k + (i + 1) = k + 1 + i by omega]
    have eg : gr k (p :: r) m = if opt (p :: r) m = 1 + opt r m then k :: gr (k + 1) r m else gr (k + 1) r (mx m p.1) := rfl
    rw [List.length_cons, er, forN, hf k p r m acc hd hm (by omega), eg, Option.bind_some]
    by_cases h : opt (p :: r) m = 1 + opt r m
    · rw [if_pos h, if_pos h]
      obtain ⟨m', e⟩ := gr_t hys hf r (k + 1) m (acc ++ [(k : Int)]) hd2 (by omega) hm (by rw [List.length_append, List.length_singleton]; omega)
      exact ⟨m', by rw [e, List.append_assoc]; rfl⟩
    · rw [if_neg h, if_neg h]
      exact gr_t hys hf r (k + 1) (mx m p.1) acc hd2 (by omega) (by unfold mx; split <;> assumption) (by omega)
theorem rt_ix (ys : List Int) (L : Ly) (k : Nat) (h : k ≤ L.length) : ixD (rtT ys L) (k : Int) = some (rowK ys (L.drop k)) := by rw [ixD_nat, rtT_at ys L k h]
theorem places_off_t {L : Ly} (h : L.length ≤ 6) : m_places_off L = some (toI (gr 0 L 0)) := by
  have hN := dist_ok (0 :: L.map (·.1))
  have hm : ∀ p ∈ L, p.1 ∈ yrs L := fun p hp => (hN.2 _).mpr (List.mem_cons_of_mem _ (List.mem_map.mpr ⟨p, hp, rfl⟩))
  unfold m_places_off
  simp (config := { implicitDefEqProofs := false }) only [Option.bind_some, Option.bind_none, Option.map_some, Option.map_none, Option.isNone_none, Option.isNone_some, Option.isSome_none, Option.isSome_some, Bool.not_true, Bool.not_false, Bool.true_and, Bool.false_and, Bool.and_true, Bool.and_false, Bool.or_true, Bool.or_false, Bool.true_or, Bool.false_or, if_true, if_false, Bool.false_eq_true, reduceIte, cI, bq_t, bq_f, mapF_pure, mapF_pureF, Int.reduceLT, Int.reduceLE, and_self, and_true, true_and, off_table_t h, rgM_0 (show L.length ≤ 1000000 by omega)]
  have er : ((List.range L.length).map fun i : Nat => (i : Int)) = (List.range L.length).map fun i : Nat => ((0 + i : Nat) : Int) := List.map_congr_left fun i _ => by rw [Nat.zero_add]
  rw [er]
  generalize hf : (fun (v5 : Int) (v4 : Int × List Int) => _ : Int → Int × List Int → Option (Int × List Int)) = f
  have key : ∀ k p r m acc, L.drop k = p :: r → m ∈ yrs L → acc.length < 100 → f (k : Nat) (m, acc) = some (if opt (p :: r) m = 1 + opt r m then (m, acc ++ [(k : Int)]) else (mx m p.1, acc)) := by
    intro k p r m acc hd hmy ha
    have hk : k < L.length := by
      have := congrArg List.length hd
      rw [List.length_drop, List.length_cons] at this
      omega
    have hd2 : L.drop (k + 1) = r := by
      have := List.drop_drop (i := 1) (j := k) (l := L)
      rw [hd] at this
      rw [Nat.add_comm]
      rw [Nat.add_comm] at this
      simpa [Nat.add_comm] using this.symm
    have e1 := rt_ix (yrs L) L k (by omega)
    have e2 := rt_ix (yrs L) L (k + 1) (by omega)
    rw [show ((k + 1 : Nat) : Int) = (k : Int) + 1 by omega] at e2
    rw [hd] at e1
    rw [hd2] at e2
    have lk : ixD L (k : Int) = some p := by
      have := List.getElem?_drop (xs := L) (i := k) (j := 0)
      rw [hd, Nat.add_zero] at this
      rw [ixD_nat]; exact this.symm
    have g1 : getM (rowK (yrs L) (p :: r)) m = some (opt (p :: r) m) := get_row (g := opt (p :: r)) hmy
    have g2 : getM (rowK (yrs L) r) m = some (opt r m) := get_row (g := opt r) hmy
    have hL : acc.length < LIM := lim_lt (by omega)
    subst hf
    simp (config := { implicitDefEqProofs := false }) only [Option.bind_some, Option.bind_none, Option.map_some, Option.map_none, Option.isNone_none, Option.isNone_some, Option.isSome_none, Option.isSome_some, Bool.not_true, Bool.not_false, Bool.true_and, Bool.false_and, Bool.and_true, Bool.and_false, Bool.or_true, Bool.or_false, Bool.true_or, Bool.false_or, if_true, if_false, Bool.false_eq_true, reduceIte, cI, bq_t, bq_f, mapF_pure, mapF_pureF, Int.reduceLT, Int.reduceLE, and_self, and_true, true_and, e1, e2, g1, g2, lk, hL]
    by_cases z : opt (p :: r) m = 1 + opt r m
    · rw [decide_eq_true z, if_pos rfl, if_pos z]
    · rw [decide_eq_false z, if_neg (by decide), if_neg z]; rfl
  obtain ⟨m', e⟩ := gr_t (f := f) hm key L 0 0 [] rfl (by omega) ((hN.2 _).mpr List.mem_cons_self) (by simp; omega)
  rw [e]; rfl
def lL (L : Ly) : List (List Int) := L.map fun p => [p.1, p.2]
theorem dQ_lL (L : Ly) : dQ (dQ dI) (eL (eL eI) (lL L)) = some (qL false false L) := by
  show (dMap (dQ dI) ((lL L).map (eL eI))).map _ = _
  unfold lL
  rw [List.map_map, dMap_map (g := qP false) fun p => rfl]; rfl
theorem eL_lL (L : Ly) : eL (eL eI) (lL L) = eQ (eQ eI) (qL false false L) := by
  show PyData.list ((lL L).map (eL eI)) = PyData.list ((L.map (qP false)).map (eQ eI))
  unfold lL
  rw [List.map_map, List.map_map]; rfl
theorem least_off_t {L : Ly} (h : okL L) : m_least_off (lL L) = some (toI (gr 0 L 0)) := by
  unfold m_least_off
  simp (config := { implicitDefEqProofs := false }) only [Option.bind_some, Option.bind_none, Option.map_some, Option.map_none, Option.isNone_none, Option.isNone_some, Option.isSome_none, Option.isSome_some, Bool.not_true, Bool.not_false, Bool.true_and, Bool.false_and, Bool.and_true, Bool.and_false, Bool.or_true, Bool.or_false, Bool.true_or, Bool.false_or, if_true, if_false, Bool.false_eq_true, reduceIte, cI, bq_t, bq_f, mapF_pure, mapF_pureF, Int.reduceLT, Int.reduceLE, and_self, and_true, true_and, dQ_QI, eL_lL, is_age_layers_t h, need_t, tupled_q, nm_L2, dT_L2, places_off_t h.l6]
/-! ### the law's own sweeps -/
def lastI (m : Int) (acc : List Int) : Prop := (acc = [] ∧ m = 0) ∨ ∃ a, acc = a ++ [m]
def lastJ (m : Int) (acc : List Int) : Prop := (acc = [] ∧ m = 9999) ∨ ∃ a, acc = a ++ [m]
theorem cut_snoc (a : List Int) (m : Int) : cutD (a ++ [m]) (some (-1)) none = [m] := by
  rw [cut_last1]
  simp
theorem low_l {f : (Int × Int) → List Int → Option (List Int)} (hf : ∀ p s, s.length < 100 → f p s = (maxI ([p.1] ++ cutD s (some (-1)) none)).bind fun v => some (s ++ [v])) : ∀ (L : Ly) (acc : List Int) (m : Int), (∀ p ∈ L, 0 ≤ p.1) → lastI m acc → acc.length + L.length ≤ 100 → forN f L acc = some (acc ++ lows m L)
  | [], acc, m, _, _, _ => by rw [forN, show lows m [] = [] from rfl, List.append_nil]
  | p :: r, acc, m, hp, hm, hl => by
    rw [List.length_cons] at hl
    have h0 := hp p List.mem_cons_self
    have e : (maxI ([p.1] ++ cutD acc (some (-1)) none)) = some (mx m p.1) := by
      rcases hm with ⟨rfl, rfl⟩ | ⟨a, rfl⟩
      · show some p.1 = _
        rw [mx_nn h0]
      · rw [cut_snoc]
        show some (max p.1 m) = _
        unfold mx
        split <;> (congr 1; omega)
    rw [forN, hf p acc (by omega), e, Option.bind_some, Option.bind_some, low_l hf r (acc ++ [mx m p.1]) (mx m p.1) (fun q hq => hp q (List.mem_cons_of_mem _ hq)) (.inr ⟨acc, rfl⟩) (by rw [List.length_append, List.length_singleton]; omega), List.append_assoc]; rfl
theorem high_l {f : (Int × Int) → List Int → Option (List Int)} (hf : ∀ p s, s.length < 100 → f p s = (minI ([p.2] ++ cutD s (some (-1)) none)).bind fun v => some (s ++ [v])) : ∀ (L : Ly) (acc : List Int) (m : Int), (∀ p ∈ L, p.2 ≤ 9999) → lastJ m acc → acc.length + L.length ≤ 100 → forN f L acc = some (acc ++ mins m (L.map (·.2)))
  | [], acc, m, _, _, _ => by rw [forN, List.map_nil, show mins m [] = [] from rfl, List.append_nil]
  | p :: r, acc, m, hp, hm, hl => by
    rw [List.length_cons] at hl
    have h0 := hp p List.mem_cons_self
    have e : (minI ([p.2] ++ cutD acc (some (-1)) none)) = some (mn m p.2) := by
      rcases hm with ⟨rfl, rfl⟩ | ⟨a, rfl⟩
      · show some p.2 = _
        rw [mn_99 h0]
      · rw [cut_snoc]
        show some (min p.2 m) = _
        unfold mn
        split <;> (congr 1; omega)
    rw [forN, hf p acc (by omega), e, Option.bind_some, Option.bind_some, high_l hf r (acc ++ [mn m p.2]) (mn m p.2) (fun q hq => hp q (List.mem_cons_of_mem _ hq)) (.inr ⟨acc, rfl⟩) (by rw [List.length_append, List.length_singleton]; omega), List.append_assoc]; rfl
theorem law_low_t (b : Bool) {L : Ly} (h : ∀ p ∈ L, 0 ≤ p.1) (hl : L.length ≤ 50) : m__law_low (b, L) = some (lows 0 L) := by
  unfold m__law_low
  simp (config := { implicitDefEqProofs := false }) only [Option.bind_some, Option.bind_none, Option.map_some, Option.map_none, Option.isNone_none, Option.isNone_some, Option.isSome_none, Option.isSome_some, Bool.not_true, Bool.not_false, Bool.true_and, Bool.false_and, Bool.and_true, Bool.and_false, Bool.or_true, Bool.or_false, Bool.true_or, Bool.false_or, if_true, if_false, Bool.false_eq_true, reduceIte, cI, bq_t, bq_f, mapF_pure, mapF_pureF, Int.reduceLT, Int.reduceLE, and_self, and_true, true_and]
  rw [low_l ?_ L [] 0 h (.inl ⟨rfl, rfl⟩) (by simp; omega)]
  · rfl
  · intro p s hs
    have hL : s.length < LIM := lim_lt (by omega)
    rw [catM_ok (by rw [cut_last1, List.length_drop]; simp; omega)]
    simp (config := { implicitDefEqProofs := false }) only [Option.bind_some, Option.bind_none, Option.map_some, Option.map_none, Option.isNone_none, Option.isNone_some, Option.isSome_none, Option.isSome_some, Bool.not_true, Bool.not_false, Bool.true_and, Bool.false_and, Bool.and_true, Bool.and_false, Bool.or_true, Bool.or_false, Bool.true_or, Bool.false_or, if_true, if_false, Bool.false_eq_true, reduceIte, cI, bq_t, bq_f, mapF_pure, mapF_pureF, Int.reduceLT, Int.reduceLE, and_self, and_true, true_and, hL]
theorem law_high_t {L : Ly} (h : ∀ p ∈ L, p.2 ≤ 9999) (hl : L.length ≤ 50) : m__law_high L = some (highs L) := by
  unfold m__law_high
  simp (config := { implicitDefEqProofs := false }) only [Option.bind_some, Option.bind_none, Option.map_some, Option.map_none, Option.isNone_none, Option.isNone_some, Option.isSome_none, Option.isSome_some, Bool.not_true, Bool.not_false, Bool.true_and, Bool.false_and, Bool.and_true, Bool.and_false, Bool.or_true, Bool.or_false, Bool.true_or, Bool.false_or, if_true, if_false, Bool.false_eq_true, reduceIte, cI, bq_t, bq_f, mapF_pure, mapF_pureF, Int.reduceLT, Int.reduceLE, and_self, and_true, true_and]
  rw [high_l ?_ L.reverse [] 9999 (fun p hp => h p (List.mem_reverse.mp hp)) (.inl ⟨rfl, rfl⟩) (by simp; omega)]
  · rfl
  · intro p s hs
    have hL : s.length < LIM := lim_lt (by omega)
    rw [catM_ok (by rw [cut_last1, List.length_drop]; simp; omega)]
    simp (config := { implicitDefEqProofs := false }) only [Option.bind_some, Option.bind_none, Option.map_some, Option.map_none, Option.isNone_none, Option.isNone_some, Option.isSome_none, Option.isSome_some, Bool.not_true, Bool.not_false, Bool.true_and, Bool.false_and, Bool.and_true, Bool.and_false, Bool.or_true, Bool.or_false, Bool.true_or, Bool.false_or, if_true, if_false, Bool.false_eq_true, reduceIte, cI, bq_t, bq_f, mapF_pure, mapF_pureF, Int.reduceLT, Int.reduceLE, and_self, and_true, true_and, hL]
theorem law_suits_t {L : Ly} (h : ∀ p ∈ L, 0 ≤ p.1) (hl : L.length ≤ 50) : m__law_suits L = some (suits 0 L) := by
  unfold m__law_suits
  simp (config := { implicitDefEqProofs := false }) only [Option.bind_some, Option.bind_none, Option.map_some, Option.map_none, Option.isNone_none, Option.isNone_some, Option.isSome_none, Option.isSome_some, Bool.not_true, Bool.not_false, Bool.true_and, Bool.false_and, Bool.and_true, Bool.and_false, Bool.or_true, Bool.or_false, Bool.true_or, Bool.false_or, if_true, if_false, Bool.false_eq_true, reduceIte, cI, bq_t, bq_f, mapF_pure, mapF_pureF, Int.reduceLT, Int.reduceLE, and_self, and_true, true_and, law_low_t false h hl, rgM_0 (show L.length ≤ 1000000 by omega)]
  rw [mapF_filter (p := fun i => decide ((lyAt L i.toNat).2 < lo L i.toNat)) (g := fun i => i)]
  · simp (config := { implicitDefEqProofs := false }) only [Option.bind_some, Option.bind_none, Option.map_some, Option.map_none, Option.isNone_none, Option.isNone_some, Option.isSome_none, Option.isSome_some, Bool.not_true, Bool.not_false, Bool.true_and, Bool.false_and, Bool.and_true, Bool.and_false, Bool.or_true, Bool.or_false, Bool.true_or, Bool.false_or, if_true, if_false, Bool.false_eq_true, reduceIte, cI, bq_t, bq_f, mapF_pure, mapF_pureF, Int.reduceLT, Int.reduceLE, and_self, and_true, true_and, eq_nil_ints, List.map_id']
    refine congrArg some ?_
    rw [Bool.eq_iff_iff, suits_iff]
    rw [List.isEmpty_iff, List.filter_eq_nil_iff]
    constructor
    · intro g i hi
      have := g (i : Int) (List.mem_map.mpr ⟨i, List.mem_range.mpr hi, rfl⟩)
      simp only [Int.toNat_natCast, decide_eq_true_eq] at this
      show lowAt 0 L i ≤ _
      unfold lo at this
      omega
    · intro g x hx
      obtain ⟨i, hi, rfl⟩ := List.mem_map.mp hx
      have := g i (List.mem_range.mp hi)
      simp only [Int.toNat_natCast, decide_eq_true_eq]
      unfold lo
      omega
  · intro x hx
    obtain ⟨i, hi, rfl⟩ := List.mem_map.mp hx
    have hi := List.mem_range.mp hi
    simp (config := { implicitDefEqProofs := false }) only [Option.bind_some, Option.bind_none, Option.map_some, Option.map_none, Option.isNone_none, Option.isNone_some, Option.isSome_none, Option.isSome_some, Bool.not_true, Bool.not_false, Bool.true_and, Bool.false_and, Bool.and_true, Bool.and_false, Bool.or_true, Bool.or_false, Bool.true_or, Bool.false_or, if_true, if_false, Bool.false_eq_true, reduceIte, cI, bq_t, bq_f, mapF_pure, mapF_pureF, Int.reduceLT, Int.reduceLE, and_self, and_true, true_and, lo_ix L hi, ly_ix L hi, Int.toNat_natCast]
    by_cases z : (lyAt L i).2 < lo L i <;> simp [z]
theorem kp_range : ∀ (L : Ly) (k : Nat) (off : List Nat), ((List.range L.length).filter fun i => !decide (k + i ∈ off)).map (lyAt L) = kp k L off
  | [], _, _ => rfl
  | p :: r, k, off => by
    rw [List.length_cons, List.range_succ_eq_map, List.filter_cons, List.filter_map]
    have ih := kp_range r (k + 1) off
    have e : (((List.range r.length).filter ((fun i => !decide (k + i ∈ off)) ∘ Nat.succ)).map Nat.succ).map (lyAt (p :: r)) = kp (k + 1) r off := by
      rw [← ih, List.map_map]
      have : ((fun i => !decide (k + i ∈ off)) ∘ Nat.succ) = fun i => !decide (k + 1 + i ∈ off) := by
        funext i
        show (!decide (k + (i + 1) ∈ off)) = _
        rw [show k + (i + 1) = k + 1 + i by omega]
      rw [this]; rfl
    show _ = if k ∈ off then _ else _
    rw [Nat.add_zero]
    by_cases z : k ∈ off
    · rw [if_pos z, decide_eq_true z]
      exact e
    · rw [if_neg z, decide_eq_false z]
      show _ :: _ = _
      rw [e]; rfl
theorem law_kept_t {L : Ly} (hl : L.length ≤ 50) (off : List Nat) : m__law_kept L (toI off) = some (kp 0 L off) := by
  unfold m__law_kept
  simp (config := { implicitDefEqProofs := false }) only [Option.bind_some, Option.bind_none, Option.map_some, Option.map_none, Option.isNone_none, Option.isNone_some, Option.isSome_none, Option.isSome_some, Bool.not_true, Bool.not_false, Bool.true_and, Bool.false_and, Bool.and_true, Bool.and_false, Bool.or_true, Bool.or_false, Bool.true_or, Bool.false_or, if_true, if_false, Bool.false_eq_true, reduceIte, cI, bq_t, bq_f, mapF_pure, mapF_pureF, Int.reduceLT, Int.reduceLE, and_self, and_true, true_and, rgM_0 (show L.length ≤ 1000000 by omega)]
  rw [mapF_filter (p := fun i => !decide (i.toNat ∈ off)) (g := fun i => lyAt L i.toNat)]
  · simp (config := { implicitDefEqProofs := false }) only [Option.bind_some, Option.bind_none, Option.map_some, Option.map_none, Option.isNone_none, Option.isNone_some, Option.isSome_none, Option.isSome_some, Bool.not_true, Bool.not_false, Bool.true_and, Bool.false_and, Bool.and_true, Bool.and_false, Bool.or_true, Bool.or_false, Bool.true_or, Bool.false_or, if_true, if_false, Bool.false_eq_true, reduceIte, cI, bq_t, bq_f, mapF_pure, mapF_pureF, Int.reduceLT, Int.reduceLE, and_self, and_true, true_and, List.filter_map, List.map_map]
    refine congrArg some ?_
    rw [← kp_range L 0 off]
    have : ((fun i : Int => !decide (i.toNat ∈ off)) ∘ fun i : Nat => (i : Int)) = fun i => !decide (0 + i ∈ off) := by
      funext i
      show (!decide (((i : Nat) : Int).toNat ∈ off)) = _
      rw [Int.toNat_natCast, Nat.zero_add]
    rw [this]; rfl
  · intro x hx
    obtain ⟨i, hi, rfl⟩ := List.mem_map.mp hx
    have hi := List.mem_range.mp hi
    unfold toI
    simp (config := { implicitDefEqProofs := false }) only [Option.bind_some, Option.bind_none, Option.map_some, Option.map_none, Option.isNone_none, Option.isNone_some, Option.isSome_none, Option.isSome_some, Bool.not_true, Bool.not_false, Bool.true_and, Bool.false_and, Bool.and_true, Bool.and_false, Bool.or_true, Bool.or_false, Bool.true_or, Bool.false_or, if_true, if_false, Bool.false_eq_true, reduceIte, cI, bq_t, bq_f, mapF_pure, mapF_pureF, Int.reduceLT, Int.reduceLE, and_self, and_true, true_and, cmp_in_nats, ly_ix L hi, Int.toNat_natCast]
    by_cases z : i ∈ off <;> simp [z]
end K06
end Ws

set_option Elab.async false
set_option linter.all false
set_option maxRecDepth 100000
set_option maxHeartbeats 400000
namespace Ws
namespace K06
open PySem
def cell (ns : List Int) (p : Nat) : Int := ns.getD p 0
theorem cell_t (ns : List Int) (p : Nat) : m__law_cell ns (p : Int) = some (cell ns p) := by
  unfold m__law_cell
  simp (config := { implicitDefEqProofs := false }) only [Option.bind_some, Option.bind_none, Option.map_some, Option.map_none, Option.isNone_none, Option.isNone_some, Option.isSome_none, Option.isSome_some, Bool.not_true, Bool.not_false, Bool.true_and, Bool.false_and, Bool.and_true, Bool.and_false, Bool.or_true, Bool.or_false, Bool.true_or, Bool.false_or, if_true, if_false, Bool.false_eq_true, reduceIte, cI, bq_t, bq_f, mapF_pure, mapF_pureF, Int.reduceLT, Int.reduceLE, and_self, and_true, true_and]
  by_cases h : p < ns.length
  · rw [decide_eq_true (by omega)]
    simp (config := { implicitDefEqProofs := false }) only [Option.bind_some, Option.bind_none, Option.map_some, Option.map_none, Option.isNone_none, Option.isNone_some, Option.isSome_none, Option.isSome_some, Bool.not_true, Bool.not_false, Bool.true_and, Bool.false_and, Bool.and_true, Bool.and_false, Bool.or_true, Bool.or_false, Bool.true_or, Bool.false_or, if_true, if_false, Bool.false_eq_true, reduceIte, cI, bq_t, bq_f, mapF_pure, mapF_pureF, Int.reduceLT, Int.reduceLE, and_self, and_true, true_and, ixD_getD h (0 : Int)]; rfl
  · rw [decide_eq_false (by omega)]
    have : cell ns p = 0 := by
      unfold cell
      rw [List.getD_eq_getElem?_getD, List.getElem?_eq_none (by omega)]; rfl
    rw [this]; rfl
theorem mulOk_c {u v : Int} (h : -(2 ^ 64) < v ∧ v < 2 ^ 64) : mulOk u v = true := by
  unfold mulOk
  rw [decide_eq_true h.1, decide_eq_true h.2, Bool.true_and, Bool.or_true]
theorem p18 : (if (0 : Int) ≤ 18 ∧ (18 : Int) ≤ 1000000 ∧ Int.natAbs 10 < 2 ^ 64 then some ((10 : Int) ^ Int.toNat 18) else none) = some 1000000000000000000 := by
  rw [if_pos ⟨by omega, by omega, by decide⟩]; rfl
theorem p9 : (if (0 : Int) ≤ 9 ∧ (9 : Int) ≤ 1000000 ∧ Int.natAbs 10 < 2 ^ 64 then some ((10 : Int) ^ Int.toNat 9) else none) = some 1000000000 := by
  rw [if_pos ⟨by omega, by omega, by decide⟩]; rfl
theorem numbers_t (ns : List Int) (p m : Nat) (hm : m ≤ 1000) : ∃ xs : List Int, xs.length = m ∧ m__law_numbers ns (p : Int) (m : Int) = some xs := by
  unfold m__law_numbers
  simp (config := { implicitDefEqProofs := false }) only [Option.bind_some, Option.map_some, cI, p18, p9]
  rw [cell_t, Option.bind_some, rgM_0 (show m ≤ 1000000 by omega), Option.bind_some]
  generalize cell ns p = c
  generalize hf : (fun (v5 : Int) (v4 : List Int × Int) => _ : Int → List Int × Int → Option (List Int × Int)) = f
  have key : ∀ i, i < m → ∀ s : List Int × Int, (s.1.length = i ∧ i ≤ m) → ∃ s', f (i : Int) s = some s' ∧ (s'.1.length = i + 1 ∧ i + 1 ≤ m) := by
    rintro i hi ⟨acc, r⟩ ⟨h1, h2⟩
    have hL : acc.length < LIM := lim_lt (by have : acc.length = i := h1; omega)
    subst hf
    by_cases h : (1000000000000000000 : Int) ≤ c
    · refine ⟨(acc ++ [r % 1000000000], r / 1000000000), ?_, by rw [List.length_append]; show acc.length + 1 = _; have : acc.length = i := h1; omega, by omega⟩
      rw [decide_eq_true h]
      simp (config := { implicitDefEqProofs := false }) only [Option.bind_some, Option.bind_none, Option.map_some, Option.map_none, Option.isNone_none, Option.isNone_some, Option.isSome_none, Option.isSome_some, Bool.not_true, Bool.not_false, Bool.true_and, Bool.false_and, Bool.and_true, Bool.and_false, Bool.or_true, Bool.or_false, Bool.true_or, Bool.false_or, if_true, if_false, Bool.false_eq_true, reduceIte, cI, bq_t, bq_f, mapF_pure, mapF_pureF, Int.reduceLT, Int.reduceLE, and_self, and_true, true_and, hL]
    · refine ⟨(acc ++ [((c * 48271 + ((i : Int) + 1) * 69621 + p) % 2147483647 * 16807 + ((i : Int) + 3) * 40692) % 2147483399 % 1000000000], r), ?_, by rw [List.length_append]; show acc.length + 1 = _; have : acc.length = i := h1; omega, by omega⟩
      rw [decide_eq_false h]
      simp (config := { implicitDefEqProofs := false }) only [Option.bind_some, Option.bind_none, Option.map_some, Option.map_none, Option.isNone_none, Option.isNone_some, Option.isSome_none, Option.isSome_some, Bool.not_true, Bool.not_false, Bool.true_and, Bool.false_and, Bool.and_true, Bool.and_false, Bool.or_true, Bool.or_false, Bool.true_or, Bool.false_or, if_true, if_false, Bool.false_eq_true, reduceIte, cI, bq_t, bq_f, mapF_pure, mapF_pureF, Int.reduceLT, Int.reduceLE, and_self, and_true, true_and, hL, mulOk_c (show -(2 ^ 64) < (48271 : Int) ∧ (48271 : Int) < 2 ^ 64 by omega), mulOk_c (show -(2 ^ 64) < (69621 : Int) ∧ (69621 : Int) < 2 ^ 64 by omega), mulOk_c (show -(2 ^ 64) < (16807 : Int) ∧ (16807 : Int) < 2 ^ 64 by omega), mulOk_c (show -(2 ^ 64) < (40692 : Int) ∧ (40692 : Int) < 2 ^ 64 by omega)]
  obtain ⟨s', h1, h2, h3⟩ := forN_rng (f := f) (fun i (s : List Int × Int) => s.1.length = i ∧ i ≤ m) (s := ([], c)) ⟨rfl, Nat.zero_le _⟩ key
  rw [h1]
  exact ⟨s'.1, h2, rfl⟩
/-! ### rates -/
def frT (u l : Nat) : Int × Int := (((u / Nat.gcd u l : Nat) : Int), ((l / Nat.gcd u l : Nat) : Int))
theorem ratio_t (u l : Nat) (h : 0 < l) (h2 : l ≤ 1000) : m_ratio (u : Int) (l : Int) = some (frT u l) := by
  obtain ⟨g1, g2⟩ := gcd_small u l h h2
  have g : (0 : Int) < ((Nat.gcd u l : Nat) : Int) ∧ ((Nat.gcd u l : Nat) : Int) < 1073741824 := ⟨by omega, by omega⟩
  unfold m_ratio
  simp (config := { implicitDefEqProofs := false }) only [Option.bind_some, Option.bind_none, Option.map_some, Option.map_none, Option.isNone_none, Option.isNone_some, Option.isSome_none, Option.isSome_some, Bool.not_true, Bool.not_false, Bool.true_and, Bool.false_and, Bool.and_true, Bool.and_false, Bool.or_true, Bool.or_false, Bool.true_or, Bool.false_or, if_true, if_false, Bool.false_eq_true, reduceIte, cI, bq_t, bq_f, mapF_pure, mapF_pureF, Int.reduceLT, Int.reduceLE, and_self, and_true, true_and]
  rw [decide_eq_false (show ¬ (l : Int) < 0 by omega)]
  simp (config := { implicitDefEqProofs := false }) only [Option.bind_some, Option.bind_none, Option.map_some, Option.map_none, Option.isNone_none, Option.isNone_some, Option.isSome_none, Option.isSome_some, Bool.not_true, Bool.not_false, Bool.true_and, Bool.false_and, Bool.and_true, Bool.and_false, Bool.or_true, Bool.or_false, Bool.true_or, Bool.false_or, if_true, if_false, Bool.false_eq_true, reduceIte, cI, bq_t, bq_f, mapF_pure, mapF_pureF, Int.reduceLT, Int.reduceLE, and_self, and_true, true_and, Int.natAbs_natCast]
  rw [if_pos g, if_pos g]; rfl
theorem gcd_l {f : Int → Int × Int → Option (Out (Int × Int) Int)} (hf : ∀ x (a b : Nat), f x ((a : Int), (b : Int)) = some (if b = 0 then .rt (a : Int) else .nx ((b : Int), ((a % b : Nat) : Int)))) : ∀ (xs : List Int) (a b : Nat), b < xs.length → forT f xs ((a : Int), (b : Int)) = some (.inr ((Nat.gcd a b : Nat) : Int))
  | [], a, b, h => by cases h
  | x :: xs, a, b, h => by
    rw [forT, hf]
    by_cases z : b = 0
    · subst z; rw [if_pos rfl, Nat.gcd_zero_right]; rfl
    · rw [if_neg z, Option.bind_some]
      show forT f xs ((b : Int), ((a % b : Nat) : Int)) = _
      rw [gcd_l hf xs b (a % b) (by have := Nat.mod_lt a (show b > 0 by omega); rw [List.length_cons] at h; omega), Nat.gcd_comm a b, Nat.gcd_rec b a, Nat.gcd_comm]
theorem law_gcd_t (a b : Nat) (h : b < 400) : m__law_gcd (a : Int) (b : Int) = some ((Nat.gcd a b : Nat) : Int) := by
  unfold m__law_gcd
  simp (config := { implicitDefEqProofs := false }) only [Option.bind_some, Option.bind_none, Option.map_some, Option.map_none, Option.isNone_none, Option.isNone_some, Option.isSome_none, Option.isSome_some, Bool.not_true, Bool.not_false, Bool.true_and, Bool.false_and, Bool.and_true, Bool.and_false, Bool.or_true, Bool.or_false, Bool.true_or, Bool.false_or, if_true, if_false, Bool.false_eq_true, reduceIte, cI, bq_t, bq_f, mapF_pure, mapF_pureF, Int.reduceLT, Int.reduceLE, and_self, and_true, true_and]
  rw [show (400 : Int) = ((400 : Nat) : Int) from rfl, rgM_0 (show 400 ≤ 1000000 by omega), Option.bind_some, gcd_l ?_ _ a b (by rw [List.length_map, List.length_range]; exact h)]
  · rfl
  · intro x a b
    by_cases z : b = 0
    · subst z; rfl
    · rw [if_neg z, decide_eq_false (by omega)]
      simp (config := { implicitDefEqProofs := false }) only [Option.bind_some, Option.bind_none, Option.map_some, Option.map_none, Option.isNone_none, Option.isNone_some, Option.isSome_none, Option.isSome_some, Bool.not_true, Bool.not_false, Bool.true_and, Bool.false_and, Bool.and_true, Bool.and_false, Bool.or_true, Bool.or_false, Bool.true_or, Bool.false_or, if_true, if_false, Bool.false_eq_true, reduceIte, cI, bq_t, bq_f, mapF_pure, mapF_pureF, Int.reduceLT, Int.reduceLE, and_self, and_true, true_and]
      rw [if_pos (by omega)]; rfl
theorem law_frac_t (u l : Nat) (h0 : 0 < u) (h : 0 < l) (h2 : l < 400) : m__law_frac (u : Int) (l : Int) = some (frT u l) := by
  obtain ⟨g1, g2⟩ := gcd_small u l h (by omega)
  have g : (0 : Int) < ((Nat.gcd u l : Nat) : Int) ∧ ((Nat.gcd u l : Nat) : Int) < 1073741824 := ⟨by omega, by omega⟩
  unfold m__law_frac
  simp (config := { implicitDefEqProofs := false }) only [Option.bind_some, Option.bind_none, Option.map_some, Option.map_none, Option.isNone_none, Option.isNone_some, Option.isSome_none, Option.isSome_some, Bool.not_true, Bool.not_false, Bool.true_and, Bool.false_and, Bool.and_true, Bool.and_false, Bool.or_true, Bool.or_false, Bool.true_or, Bool.false_or, if_true, if_false, Bool.false_eq_true, reduceIte, cI, bq_t, bq_f, mapF_pure, mapF_pureF, Int.reduceLT, Int.reduceLE, and_self, and_true, true_and]
  rw [decide_eq_false (show ¬ (u : Int) = 0 by omega), if_neg (show ¬ (u : Int) < 0 by omega), law_gcd_t u l h2]
  simp (config := { implicitDefEqProofs := false }) only [Option.bind_some, Option.bind_none, Option.map_some, Option.map_none, Option.isNone_none, Option.isNone_some, Option.isSome_none, Option.isSome_some, Bool.not_true, Bool.not_false, Bool.true_and, Bool.false_and, Bool.and_true, Bool.and_false, Bool.or_true, Bool.or_false, Bool.true_or, Bool.false_or, if_true, if_false, Bool.false_eq_true, reduceIte, cI, bq_t, bq_f, mapF_pure, mapF_pureF, Int.reduceLT, Int.reduceLE, and_self, and_true, true_and]
  rw [if_pos g, if_pos g]; rfl
def okT (L : Ly) (T : List Int) : Prop := T.length = L.length ∧ ∀ v ∈ T, 1 ≤ v ∧ v ≤ 9
theorem are_thick_t {L : Ly} {T : List Int} (h : okT L T) : m_are_thicknesses L T = some true := by
  unfold m_are_thicknesses
  simp (config := { implicitDefEqProofs := false }) only [Option.bind_some, Option.bind_none, Option.map_some, Option.map_none, Option.isNone_none, Option.isNone_some, Option.isSome_none, Option.isSome_some, Bool.not_true, Bool.not_false, Bool.true_and, Bool.false_and, Bool.and_true, Bool.and_false, Bool.or_true, Bool.or_false, Bool.true_or, Bool.false_or, if_true, if_false, Bool.false_eq_true, reduceIte, cI, bq_t, bq_f, mapF_pure, mapF_pureF, Int.reduceLT, Int.reduceLE, and_self, and_true, true_and, is_row_t (isSq_L _) (lenM_L _)]
  rw [h.1, decide_eq_true (show (L.length : Int) ≤ L.length by omega)]
  simp (config := { implicitDefEqProofs := false }) only [Option.bind_some, Option.bind_none, Option.map_some, Option.map_none, Option.isNone_none, Option.isNone_some, Option.isSome_none, Option.isSome_some, Bool.not_true, Bool.not_false, Bool.true_and, Bool.false_and, Bool.and_true, Bool.and_false, Bool.or_true, Bool.or_false, Bool.true_or, Bool.false_or, if_true, if_false, Bool.false_eq_true, reduceIte, cI, bq_t, bq_f, mapF_pure, mapF_pureF, Int.reduceLT, Int.reduceLE, and_self, and_true, true_and]
  rw [mapF_map (g := fun _ => true)]
  · simp (config := { implicitDefEqProofs := false }) only [Option.bind_some, Option.bind_none, Option.map_some, Option.map_none, Option.isNone_none, Option.isNone_some, Option.isSome_none, Option.isSome_some, Bool.not_true, Bool.not_false, Bool.true_and, Bool.false_and, Bool.and_true, Bool.and_false, Bool.or_true, Bool.or_false, Bool.true_or, Bool.false_or, if_true, if_false, Bool.false_eq_true, reduceIte, cI, bq_t, bq_f, mapF_pure, mapF_pureF, Int.reduceLT, Int.reduceLE, and_self, and_true, true_and]; simp
  · intro x hx
    simp (config := { implicitDefEqProofs := false }) only [Option.bind_some, Option.bind_none, Option.map_some, Option.map_none, Option.isNone_none, Option.isNone_some, Option.isSome_none, Option.isSome_some, Bool.not_true, Bool.not_false, Bool.true_and, Bool.false_and, Bool.and_true, Bool.and_false, Bool.or_true, Bool.or_false, Bool.true_or, Bool.false_or, if_true, if_false, Bool.false_eq_true, reduceIte, cI, bq_t, bq_f, mapF_pure, mapF_pureF, Int.reduceLT, Int.reduceLE, and_self, and_true, true_and, between_yes (h.2 x hx).1 (show x ≤ 9999 by have := (h.2 x hx).2; omega)]
def rateT (L : Ly) (tot : Nat) : Option (Int × Int) × Option (Int × Int) := (if (spanP L 0 (L.length - 1)).2 > 0 then some (frT tot (spanP L 0 (L.length - 1)).2.toNat) else none, if (spanP L 0 (L.length - 1)).1 > 0 then some (frT tot (spanP L 0 (L.length - 1)).1.toNat) else none)
theorem rate_t {L : Ly} (h : okL L) {T : List Int} (hT : okT L T) {tot : Nat} (ht : T.sum = (tot : Int)) (hs : suits 0 L = true) : m_rate L T = some (some (rateT L tot)) := by
  obtain ⟨a0, a1, b0, b1, ab⟩ := span_facts L h hs
  have l1 := h.l1
  unfold m_rate
  simp (config := { implicitDefEqProofs := false }) only [Option.bind_some, Option.bind_none, Option.map_some, Option.map_none, Option.isNone_none, Option.isNone_some, Option.isSome_none, Option.isSome_some, Bool.not_true, Bool.not_false, Bool.true_and, Bool.false_and, Bool.and_true, Bool.and_false, Bool.or_true, Bool.or_false, Bool.true_or, Bool.false_or, if_true, if_false, Bool.false_eq_true, reduceIte, cI, bq_t, bq_f, mapF_pure, mapF_pureF, Int.reduceLT, Int.reduceLE, and_self, and_true, true_and, dQ_L2, is_age_layers_t h, need_t, are_thick_t hT, tupled_T, nm_L2, dT_L2, years_of_t L (by have := h.l6; omega), hs]
  have so := span_of_t L (i := 0) (j := L.length - 1) (by omega) (by omega)
  rw [show ((L.length - 1 : Nat) : Int) = (L.length : Int) - 1 by omega, show ((0 : Nat) : Int) = 0 from rfl] at so
  simp (config := { implicitDefEqProofs := false }) only [Option.bind_some, Option.bind_none, Option.map_some, Option.map_none, Option.isNone_none, Option.isNone_some, Option.isSome_none, Option.isSome_some, Bool.not_true, Bool.not_false, Bool.true_and, Bool.false_and, Bool.and_true, Bool.and_false, Bool.or_true, Bool.or_false, Bool.true_or, Bool.false_or, if_true, if_false, Bool.false_eq_true, reduceIte, cI, bq_t, bq_f, mapF_pure, mapF_pureF, Int.reduceLT, Int.reduceLE, and_self, and_true, true_and, so, ht]
  unfold rateT
  generalize spanP L 0 (L.length - 1) = sp at *
  obtain ⟨ls, ms⟩ := sp
  simp only at *
  by_cases zm : ms = 0
  · have zl := ab zm
    subst zm
    subst zl
    rfl
  · rw [decide_eq_false zm, if_pos (show ms > 0 by omega)]
    have r1 := ratio_t tot ms.toNat (by omega) (by omega)
    rw [show ((ms.toNat : Nat) : Int) = ms by omega] at r1
    by_cases zl : ls = 0
    · subst zl
      simp (config := { implicitDefEqProofs := false }) only [Option.bind_some, Option.bind_none, Option.map_some, Option.map_none, Option.isNone_none, Option.isNone_some, Option.isSome_none, Option.isSome_some, Bool.not_true, Bool.not_false, Bool.true_and, Bool.false_and, Bool.and_true, Bool.and_false, Bool.or_true, Bool.or_false, Bool.true_or, Bool.false_or, if_true, if_false, Bool.false_eq_true, reduceIte, cI, bq_t, bq_f, mapF_pure, mapF_pureF, Int.reduceLT, Int.reduceLE, and_self, and_true, true_and, r1]; rfl
    · rw [decide_eq_false zl, if_pos (show ls > 0 by omega)]
      have r2 := ratio_t tot ls.toNat (by omega) (by omega)
      rw [show ((ls.toNat : Nat) : Int) = ls by omega] at r2
      simp (config := { implicitDefEqProofs := false }) only [Option.bind_some, Option.bind_none, Option.map_some, Option.map_none, Option.isNone_none, Option.isNone_some, Option.isSome_none, Option.isSome_some, Bool.not_true, Bool.not_false, Bool.true_and, Bool.false_and, Bool.and_true, Bool.and_false, Bool.or_true, Bool.or_false, Bool.true_or, Bool.false_or, if_true, if_false, Bool.false_eq_true, reduceIte, cI, bq_t, bq_f, mapF_pure, mapF_pureF, Int.reduceLT, Int.reduceLE, and_self, and_true, true_and, r1, r2]
end K06
end Ws

set_option Elab.async false
set_option linter.all false
set_option maxRecDepth 100000
set_option maxHeartbeats 1000000
namespace Ws
namespace K06
open PySem
theorem mapF_comp {α β γ : Type} (f : β → Option (Option γ)) (g : α → β) : ∀ xs : List α, mapF f (xs.map g) = mapF (fun x => f (g x)) xs
  | [] => rfl
  | x :: xs => by rw [List.map_cons, mapF, mapF, mapF_comp f g xs]
/-! ### rows of places -/
def subs : Nat → List (List Nat)
  | 0 => [[]]
  | k + 1 => subs k ++ (subs k).map (· ++ [k])
theorem subs_len : ∀ k, (subs k).length = 2 ^ k
  | 0 => rfl
  | k + 1 => by
    show (subs k ++ (subs k).map (· ++ [k])).length = _
    rw [List.length_append, List.length_map, subs_len k, Nat.pow_succ]; omega
theorem subs_mem : ∀ (k : Nat) (off : List Nat), off ∈ subs k ↔ inc 0 k off
  | 0, off => by
    constructor
    · intro h
      have h : off ∈ [[]] := h
      rw [List.mem_singleton] at h
      subst h
      exact ⟨.nil, fun x hx => by cases hx⟩
    · rintro ⟨_, h⟩
      cases off with
      | nil => exact List.mem_singleton.mpr rfl
      | cons x xs => have := h x List.mem_cons_self; omega
  | k + 1, off => by
    show off ∈ subs k ++ (subs k).map (· ++ [k]) ↔ _
    rw [List.mem_append, List.mem_map, subs_mem k]
    constructor
    · rintro (⟨h1, h2⟩ | ⟨o, h, rfl⟩)
      · exact ⟨h1, fun x hx => by have := h2 x hx; omega⟩
      · obtain ⟨h1, h2⟩ := (subs_mem k o).mp h
        refine ⟨List.pairwise_append.mpr ⟨h1, List.pairwise_singleton _ _, fun a ha b hb => ?_⟩, fun x hx => ?_⟩
        · rw [List.mem_singleton] at hb
          have := h2 a ha; omega
        · rcases List.mem_append.mp hx with hx | hx
          · have := h2 x hx; omega
          · rw [List.mem_singleton] at hx; omega
    · rintro ⟨h1, h2⟩
      rcases List.eq_nil_or_concat off with rfl | ⟨o, a, rfl⟩
      · exact .inl ⟨.nil, fun x hx => by cases hx⟩
      · rw [List.concat_eq_append] at *
        obtain ⟨g1, _, g3⟩ := List.pairwise_append.mp h1
        have ha := h2 a (List.mem_append.mpr (.inr List.mem_cons_self))
        by_cases z : a = k
        · subst z
          refine .inr ⟨o, (subs_mem a o).mpr ⟨g1, fun x hx => ?_⟩, rfl⟩
          have := g3 x hx a List.mem_cons_self
          omega
        · refine .inl ⟨h1, fun x hx => ?_⟩
          have h4 := h2 x hx
          rcases List.mem_append.mp hx with hx | hx
          · have := g3 x hx a List.mem_cons_self; omega
          · rw [List.mem_singleton] at hx; omega
abbrev eR : Int × List Int → D := eP (fc eI (f1 (eT eI)))
theorem lt_eR (p q : Int × List Int) : PySem.W.dataLt (eR p) (eR q) = decide (p.1 < q.1 ∨ (p.1 = q.1 ∧ p.2 < q.2)) := dl_pair p.1 q.1 p.2 q.2
def lenR (off : List Nat) : Int × List Int := ((off.length : Int), toI off)
theorem first_t {L : Ly} : ∃ rest, sortM eR (((subs L.length).filter fun off => suits 0 (kp 0 L off)).map lenR) = some (lenR (gr 0 L 0) :: rest) := by
  obtain ⟨g1, g2, g3⟩ := gr_ok L 0 0
  unfold sortM
  rw [if_pos (by
    rw [List.map_map]
    exact sortOk_map (fun off => eR (lenR off)) _ (fun off => ⟨rfl, lim_mono 2 _ (by
      have := lim_iT 0 (toI off)
      show lim 2 (.tuple [.int _, iT (toI off)]) = true
      simp [lim, this]) 40 (by omega), rfl⟩) fun a b => by
      show PySem.W.alike (.tuple [.int _, iT (toI a)]) (.tuple [.int _, iT (toI b)]) = true
      simp [PySem.W.alike, PySem.W.alikeAll, alike_iT])]
  obtain ⟨rest, e⟩ := sort_first (le := fun a b : Int × List Int => leT (eR a) (eR b)) (m := lenR (gr 0 L 0)) (by
    unfold leT
    rw [lt_eR, decide_eq_false (by
      rintro (h | ⟨_, h⟩)
      · omega
      · exact ints_irrefl _ h)]; rfl) (l := ((subs L.length).filter fun off => suits 0 (kp 0 L off)).map lenR) (List.mem_map.mpr ⟨_, List.mem_filter.mpr ⟨(subs_mem _ _).mpr g1, g2⟩, rfl⟩) fun x hx => by
    obtain ⟨off, ho, rfl⟩ := List.mem_map.mp hx
    obtain ⟨h1, h2⟩ := List.mem_filter.mp ho
    have h1 := (subs_mem _ _).mp h1
    have le := opt_le L 0 0 off h1 h2
    have key : off = gr 0 L 0 ∨ (((gr 0 L 0).length : Int) < off.length ∨ (((gr 0 L 0).length : Int) = off.length ∧ toI (gr 0 L 0) < toI off)) := by
      by_cases z : (off.length : Int) = opt L 0
      · rcases gr_first L 0 0 off h1 h2 z with h | h
        · exact .inl h
        · exact .inr (.inr ⟨by omega, h⟩)
      · exact .inr (.inl (by omega))
    rcases key with h | h
    · exact .inl (by rw [h])
    · right
      unfold leT
      rw [lt_eR, lt_eR]
      refine ⟨?_, ?_⟩
      · rw [decide_eq_false (by
          show ¬ ((off.length : Int) < (gr 0 L 0).length ∨ ((off.length : Int) = (gr 0 L 0).length ∧ toI off < toI (gr 0 L 0)))
          rintro (q | ⟨q1, q2⟩)
          · rcases h with h | ⟨h, _⟩ <;> omega
          · rcases h with h | ⟨_, h⟩
            · omega
            · exact absurd q2 (List.lt_asymm h))]; rfl
      · rw [decide_eq_true (by
          show ((gr 0 L 0).length : Int) < off.length ∨ (((gr 0 L 0).length : Int) = off.length ∧ toI (gr 0 L 0) < toI off)
          exact h)]; rfl
  exact ⟨rest, congrArg some e⟩
abbrev e2 : Int × Int → D := eP (fc eI (f1 eI))
theorem eqv_e2 (p q : Int × Int) : PyData.eqv (e2 p) (e2 q) = decide (p = q) := by
  have e := eqv_iT [p.1, p.2] [q.1, q.2]
  show PyData.eqv (iT [p.1, p.2]) (iT [q.1, q.2]) = _
  rw [e]
  obtain ⟨a, b⟩ := p
  obtain ⟨c, d⟩ := q
  by_cases h : (a, b) = (c, d)
  · rw [decide_eq_true h]; injection h with h1 h2; subst h1; subst h2; exact decide_eq_true rfl
  · rw [decide_eq_false h]
    refine decide_eq_false fun z => h ?_
    injection z with z1 z2
    injection z2 with z2
    exact Prod.ext z1 z2
theorem lim_e2s (l : List (Int × Int)) : lim 40 (eL e2 l) = true := by
  have : (l.map e2).all (lim 39) = true := by
    rw [List.all_map, List.all_eq_true]
    intro p _
    exact lim_mono 1 _ (by rfl) 39 (by omega)
  show lim 40 (.list _) = true
  simpa only [lim] using this
theorem in_prs {L : Ly} {i j : Nat} (hij : i ≤ j) (hj : j < L.length) : cmpM .in_ (e2 ((i : Int), (j : Int))) (eL e2 ((prs L).map cI2)) = some (bad L i j) := by
  have h : inD (e2 ((i : Int), (j : Int))) (eL e2 ((prs L).map cI2)) = .ok (.bool (bad L i j)) := by
    show (if lim 40 (e2 ((i : Int), (j : Int))) && lim 40 (eL e2 ((prs L).map cI2)) then Rs.ok (PyData.bool ((((prs L).map cI2).map e2).any fun z => PyData.eqv z (e2 ((i : Int), (j : Int))))) else .st) = _
    rw [lim_e2s, lim_mono 1 (e2 ((i : Int), (j : Int))) rfl 40 (by omega)]
    refine congrArg (fun b => Rs.ok (PyData.bool b)) ?_
    rw [Bool.eq_iff_iff, List.any_eq_true]
    constructor
    · rintro ⟨z, hz, e⟩
      obtain ⟨q, hq, rfl⟩ := List.mem_map.mp hz
      obtain ⟨p, hp, rfl⟩ := List.mem_map.mp hq
      rw [eqv_e2, decide_eq_true_eq] at e
      obtain ⟨a, b⟩ := p
      injection e with e1 e2'
      have e1 : ((a : Nat) : Int) = (i : Int) := e1
      have e2' : ((b : Nat) : Int) = (j : Int) := e2'
      have : a = i := by omega
      have : b = j := by omega
      subst a b
      exact (prs_mem.mp hp).2.2
    · intro hb
      exact ⟨e2 (cI2 (i, j)), List.mem_map.mpr ⟨_, List.mem_map.mpr ⟨(i, j), prs_mem.mpr ⟨hij, hj, hb⟩, rfl⟩, rfl⟩, by rw [eqv_e2]; exact decide_eq_true rfl⟩
  have h : cmpD .in_ (e2 ((i : Int), (j : Int))) (eL e2 ((prs L).map cI2)) = .ok (.bool (bad L i j)) := h
  unfold cmpM
  rw [h]; rfl
theorem ne_prs (l : List (Int × Int)) : cmpM .ne (eL e2 l) (eL e2 []) = some (!l.isEmpty) := by
  have h : cmpD .ne (.list (l.map e2)) (.list []) = .ok (.bool (!(l.map e2).isEmpty)) := ne_nil (by
    rw [List.all_map, List.all_eq_true]
    intro p _
    exact lim_mono 1 _ (by rfl) 39 (by omega))
  unfold cmpM
  show (cmpD .ne (.list (l.map e2)) (.list [])).o.bind dB = _
  rw [h]
  cases l <;> rfl
theorem eq_kp (l : Ly) : cmpM .eq (eL e2 l) (eL e2 []) = some l.isEmpty := by
  have h : cmpD .eq (.list (l.map e2)) (.list []) = .ok (.bool (l.map e2).isEmpty) := eq_nil (by
    rw [List.all_map, List.all_eq_true]
    intro p _
    exact lim_mono 1 _ (by rfl) 39 (by omega))
  unfold cmpM
  show (cmpD .eq (.list (l.map e2)) (.list [])).o.bind dB = _
  rw [h]
  cases l <;> rfl
theorem kp_ok {L : Ly} (h : okL L) : ∀ (k : Nat) (off : List Nat), (∀ p ∈ kp k L off, p ∈ L) ∧ (kp k L off).length ≤ L.length := by
  clear h
  induction L with
  | nil => exact fun k off => ⟨fun p hp => hp, Nat.le_refl _⟩
  | cons a L ih =>
    intro k off
    obtain ⟨i1, i2⟩ := ih (k + 1) off
    show (∀ p ∈ (if k ∈ off then kp (k + 1) L off else a :: kp (k + 1) L off), p ∈ a :: L) ∧ (if k ∈ off then kp (k + 1) L off else a :: kp (k + 1) L off).length ≤ _
    split
    · exact ⟨fun p hp => List.mem_cons_of_mem _ (i1 p hp), by rw [List.length_cons]; omega⟩
    · exact ⟨fun p hp => (List.mem_cons.mp hp).elim (fun e => e ▸ List.mem_cons_self) fun q => List.mem_cons_of_mem _ (i1 p q), by rw [List.length_cons, List.length_cons]; omega⟩
theorem listed_t (L : Ly) : m__law_listed (eL2 L) = some (eL (eL eI) (lL L)) := by
  unfold m__law_listed
  rw [eL2_q, lim_mono 2 _ (lim_qL true true L) 40 (by omega), if_pos rfl]
  refine congrArg some ?_
  show PyData.list (ltds ((L.map (qP true)).map (eQ eI))) = PyData.list ((lL L).map (eL eI))
  unfold lL
  rw [ltds_map, List.map_map, List.map_map, List.map_map]; rfl
end K06
end Ws

set_option Elab.async false
set_option linter.all false
set_option maxRecDepth 100000
set_option maxHeartbeats 1000000
namespace Ws
namespace K06
open PySem
def mk (n : Int) : Int × Int := (n % 30, n % 30 + n / 30 % 25 - (if n % 7 = 0 then 3 else 0))
def mkL (xs : List Int) : Ly := (xs.map mk).map fun x => (x.1, if x.2 > 0 then x.2 else 0)
theorem mkL_ok (xs : List Int) (h : 1 ≤ xs.length ∧ xs.length ≤ 6) : okL (mkL xs) := by
  unfold mkL
  refine ⟨by rw [List.length_map, List.length_map]; exact h.1, by rw [List.length_map, List.length_map]; exact h.2, fun p hp => ?_⟩
  rw [List.map_map] at hp
  obtain ⟨n, _, rfl⟩ := List.mem_map.mp hp
  show (0 ≤ n % 30 ∧ n % 30 ≤ 29) ∧ (0 ≤ (if (mk n).2 > 0 then (mk n).2 else 0) ∧ (if (mk n).2 > 0 then (mk n).2 else 0) ≤ 60)
  have : (mk n).2 ≤ 60 := by
    show n % 30 + n / 30 % 25 - (if n % 7 = 0 then 3 else 0) ≤ 60
    split <;> omega
  refine ⟨by omega, ?_⟩
  split <;> omega
theorem cut_take {α : Type} (xs : List α) (i : Nat) : cutD xs none (some (i : Int)) = xs.take i := by
  by_cases h : i ≤ xs.length
  · exact cut_pre h
  · unfold cutD HT.sIx
    simp only
    rw [if_neg (by omega), Int.toNat_natCast, Nat.min_eq_right (by omega), List.drop_zero, Nat.sub_zero, List.take_of_length_le (Nat.le_refl _), List.take_of_length_le (by omega)]
theorem den_l {L : Ly} (h : okL L) {f : Int → List (Int × Int) → Option (List (Int × Int))} (hf : ∀ (i : Nat) s, i < L.length → s.length ≤ 100 → f (i : Int) s = some (s ++ (rowB L i).map cI2)) : forN f ((List.range L.length).map fun i : Nat => (i : Int)) [] = some ((prs L).map cI2) := by
  obtain ⟨s', h1, h2, _⟩ := forN_rng (f := f) (n := L.length) (s := []) (fun i s => s = ((List.range i).flatMap (rowB L)).map cI2 ∧ i ≤ L.length) ⟨rfl, Nat.zero_le _⟩ fun i hi s ⟨e, _⟩ => by
    subst e
    have l1 : (((List.range i).flatMap (rowB L)).map cI2).length ≤ 100 := by
      rw [List.length_map]
      have h6 := h.l6
      have := flat_len (f := rowB L) (n := 6) (l := List.range i) fun i _ => by have := rowB_len L i; omega
      rw [List.length_range] at this
      omega
    refine ⟨_, hf i _ hi l1, ?_, by omega⟩
    rw [List.range_succ, List.flatMap_append, List.map_append]
    simp
  rw [h1, h2]; rfl
theorem offs_l {n : Nat} (hn : n ≤ 6) {f : Int → List (List Int) → Option (List (List Int))} (hf : ∀ (k : Nat) (s : List (List Nat)), s.length ≤ 100 → (∀ x ∈ s, x.length ≤ 100) → f (k : Int) (s.map toI) = some ((s ++ s.map (· ++ [k])).map toI)) : forN f ((List.range n).map fun i : Nat => (i : Int)) [[]] = some ((subs n).map toI) := by
  obtain ⟨s', h1, h2, _⟩ := forN_rng (f := f) (n := n) (s := [[]]) (fun i s => s = (subs i).map toI ∧ i ≤ n) ⟨rfl, Nat.zero_le _⟩ fun i hi s ⟨e, _⟩ => by
    subst e
    refine ⟨_, hf i (subs i) ?_ ?_, rfl, by omega⟩
    · rw [subs_len]
      have : 2 ^ i ≤ 2 ^ 6 := Nat.pow_le_pow_right (by omega) (by omega)
      omega
    · intro x hx
      obtain ⟨g1, g2⟩ := (subs_mem i x).mp hx
      have : x.length ≤ i := by
        have nd : x.Nodup := g1.imp fun h => by omega
        have := List.Nodup.length_le_of_subset nd (l₂ := List.range i) fun a ha => List.mem_range.mpr (by have := g2 a ha; omega)
        rwa [List.length_range] at this
      omega
  rw [h1, h2]
theorem dL_lL (L : Ly) : dL (dL dI) (eL (eL eI) (lL L)) = some (lL L) := dMap_self (e := eL eI) (fun x => dMap_self (e := eI) (fun _ => rfl) x) (lL L)
theorem toI_len (l : List Nat) : (toI l).length = l.length := List.length_map _
theorem same_T (l : List Int) (h : l.length ≤ 1000) : m__law_same (eT eI l) (eT eI l) = some true := same_d (n := 1) (sm_T h fun x _ => sm_I 0 x) (by omega)
theorem same_B (b : Bool) : m__law_same (eB b) (eB b) = some true := same_d (n := 0) (sm_B 0 b) (by omega)
theorem same_P (p : Int × Int) : m__law_same (e2 p) (e2 p) = some true := same_d (n := 1) (sm_P2 (sm_I 0 _) (sm_I 0 _)) (by omega)
theorem law_t (ns : List Int) : m_law ns = some true := by
  have c1 : m__law_cell ns 1 = some (cell ns 1) := cell_t ns 1
  have c2 : m__law_cell ns 2 = some (cell ns 2) := cell_t ns 2
  have c3 : m__law_cell ns 3 = some (cell ns 3) := cell_t ns 3
  obtain ⟨xs, hx, hn⟩ := numbers_t ns 0 (1 + cell ns 1 % 6).toNat (by omega)
  rw [show (((1 + cell ns 1 % 6).toNat : Nat) : Int) = 1 + cell ns 1 % 6 by omega] at hn
  have hn : m__law_numbers ns 0 (1 + cell ns 1 % 6) = some xs := hn
  have hx : 1 ≤ xs.length ∧ xs.length ≤ 6 := by omega
  unfold m_law
  simp (config := { implicitDefEqProofs := false }) only [Option.bind_some, Option.bind_none, Option.map_some, Option.map_none, Option.isNone_none, Option.isNone_some, Option.isSome_none, Option.isSome_some, Bool.not_true, Bool.not_false, Bool.true_and, Bool.false_and, Bool.and_true, Bool.and_false, Bool.or_true, Bool.or_false, Bool.true_or, Bool.false_or, if_true, if_false, Bool.false_eq_true, reduceIte, cI, bq_t, bq_f, mapF_pure, mapF_pureF, Int.reduceLT, Int.reduceLE, and_self, and_true, true_and, c1, hn]
  rw [forN_app (g := mk) (N := 100) (by simp; omega) ?_]
  · simp (config := { implicitDefEqProofs := false }) only [Option.bind_some, Option.bind_none, Option.map_some, Option.map_none, Option.isNone_none, Option.isNone_some, Option.isSome_none, Option.isSome_some, Bool.not_true, Bool.not_false, Bool.true_and, Bool.false_and, Bool.and_true, Bool.and_false, Bool.or_true, Bool.or_false, Bool.true_or, Bool.false_or, if_true, if_false, Bool.false_eq_true, reduceIte, cI, bq_t, bq_f, mapF_pure, mapF_pureF, Int.reduceLT, Int.reduceLE, and_self, and_true, true_and, List.nil_append]
    rw [show List.map (fun x : Int × Int => (x.1, if x.2 > 0 then x.2 else 0)) (xs.map mk) = mkL xs from rfl]
    have h := mkL_ok xs hx
    generalize mkL xs = L at *
    have l1 := h.l1
    have l6 := h.l6
    simp (config := { implicitDefEqProofs := false }) only [Option.bind_some, Option.bind_none, Option.map_some, Option.map_none, Option.isNone_none, Option.isNone_some, Option.isSome_none, Option.isSome_some, Bool.not_true, Bool.not_false, Bool.true_and, Bool.false_and, Bool.and_true, Bool.and_false, Bool.or_true, Bool.or_false, Bool.true_or, Bool.false_or, if_true, if_false, Bool.false_eq_true, reduceIte, cI, bq_t, bq_f, mapF_pure, mapF_pureF, Int.reduceLT, Int.reduceLE, and_self, and_true, true_and, listed_t, rg_L h]
    rw [den_l h ?_]
    · simp (config := { implicitDefEqProofs := false }) only [Option.bind_some, Option.bind_none, Option.map_some, Option.map_none, Option.isNone_none, Option.isNone_some, Option.isSome_none, Option.isSome_some, Bool.not_true, Bool.not_false, Bool.true_and, Bool.false_and, Bool.and_true, Bool.and_false, Bool.or_true, Bool.or_false, Bool.true_or, Bool.false_or, if_true, if_false, Bool.false_eq_true, reduceIte, cI, bq_t, bq_f, mapF_pure, mapF_pureF, Int.reduceLT, Int.reduceLE, and_self, and_true, true_and]
      rw [offs_l l6 ?_]
      · simp (config := { implicitDefEqProofs := false }) only [Option.bind_some, Option.bind_none, Option.map_some, Option.map_none, Option.isNone_none, Option.isNone_some, Option.isSome_none, Option.isSome_some, Bool.not_true, Bool.not_false, Bool.true_and, Bool.false_and, Bool.and_true, Bool.and_false, Bool.or_true, Bool.or_false, Bool.true_or, Bool.false_or, if_true, if_false, Bool.false_eq_true, reduceIte, cI, bq_t, bq_f, mapF_pure, mapF_pureF, Int.reduceLT, Int.reduceLE, and_self, and_true, true_and]
        rw [mapF_comp, mapF_filter (p := fun off => suits 0 (kp 0 L off)) (g := lenR)]
        · obtain ⟨rest, hs⟩ := first_t (L := L)
          obtain ⟨g1, g2, g3⟩ := gr_ok L 0 0
          have gl : (gr 0 L 0).length ≤ 6 := by
            have nd : (gr 0 L 0).Nodup := g1.1.imp fun h => by omega
            have := List.Nodup.length_le_of_subset nd (l₂ := List.range L.length) fun a ha => List.mem_range.mpr (by have := g1.2 a ha; omega)
            rw [List.length_range] at this
            omega
          have nf0 : m_no_fewer_holds L 0 [] = some true := by
            have := no_fewer_t h 0 [] (fun p hp => by cases hp) (by simp)
            exact this
          have nf3 : m_no_fewer_holds L (((gr 0 L 0).length : Int) + 1) (((prs L).take ((gr 0 L 0).length + 1)).map cI2) = some false := by
            have := no_fewer_t h ((gr 0 L 0).length + 1) ((prs L).take ((gr 0 L 0).length + 1)) (fun p hp => by have := prs_mem.mp (List.mem_of_mem_take hp); exact ⟨this.1, this.2.1⟩) (by rw [List.length_take]; omega)
            rw [show (((gr 0 L 0).length + 1 : Nat) : Int) = ((gr 0 L 0).length : Int) + 1 by omega] at this
            rw [this]
            by_cases z : ((prs L).take ((gr 0 L 0).length + 1)).length = (gr 0 L 0).length + 1
            · rw [no_more L (gr 0 L 0) g2 _ (fun p hp => List.mem_of_mem_take hp) z]; simp
            · rw [decide_eq_false z]; simp
          have ct : cutD ((prs L).map cI2) none (some (((gr 0 L 0).length : Int) + 1)) = ((prs L).take ((gr 0 L 0).length + 1)).map cI2 := by
            have := cut_take ((prs L).map cI2) ((gr 0 L 0).length + 1)
            rwa [show (((gr 0 L 0).length + 1 : Nat) : Int) = ((gr 0 L 0).length : Int) + 1 by omega, ← List.map_take] at this
          simp (config := { implicitDefEqProofs := false }) only [Option.bind_some, Option.bind_none, Option.map_some, Option.map_none, Option.isNone_none, Option.isNone_some, Option.isSome_none, Option.isSome_some, Bool.not_true, Bool.not_false, Bool.true_and, Bool.false_and, Bool.and_true, Bool.and_false, Bool.or_true, Bool.or_false, Bool.true_or, Bool.false_or, if_true, if_false, Bool.false_eq_true, reduceIte, cI, bq_t, bq_f, mapF_pure, mapF_pureF, Int.reduceLT, Int.reduceLE, and_self, and_true, true_and, hs, ixD_0, List.getElem?_cons_zero, lenR, dL_lL, least_off_t h, same_T _ (show (toI (gr 0 L 0)).length ≤ 1000 by rw [toI_len]; omega), nf0, toI_len, ct, nf3]
          rw [forT_unit ?_]
          · simp (config := { implicitDefEqProofs := false }) only [Option.bind_some, Option.bind_none, Option.map_some, Option.map_none, Option.isNone_none, Option.isNone_some, Option.isSome_none, Option.isSome_some, Bool.not_true, Bool.not_false, Bool.true_and, Bool.false_and, Bool.and_true, Bool.and_false, Bool.or_true, Bool.or_false, Bool.true_or, Bool.false_or, if_true, if_false, Bool.false_eq_true, reduceIte, cI, bq_t, bq_f, mapF_pure, mapF_pureF, Int.reduceLT, Int.reduceLE, and_self, and_true, true_and, sumK, ne_prs, dQ_L2]
            cases q : prs L with
            | cons p ps =>
              have su : suits 0 L = false := by
                cases z : suits 0 L with
                | false => rfl
                | true => rw [(suits_prs L h).mp z] at q; cases q
              have pm := prs_mem.mp (q ▸ List.mem_cons_self : p ∈ prs L)
              obtain ⟨a, e, eq⟩ : ∃ a e, p :: ps = a ++ [e] := by
                rcases List.eq_nil_or_concat (p :: ps) with z | ⟨a, e, z⟩
                · cases z
                · exact ⟨a, e, by rw [z, List.concat_eq_append]⟩
              have em := prs_mem.mp (q ▸ eq ▸ List.mem_append.mpr (.inr List.mem_cons_self) : e ∈ prs L)
              have ie : ixD ((p :: ps).map cI2) (-1) = some (cI2 e) := by
                rw [eq, List.map_append]; exact ixD_neg1 _ _
              rw [List.map_cons] at ie
              have dn : m_denial (qL true true L) = some (some (cI2 p)) := by rw [denial_t true true h, q]; rfl
              have d1 : m_denies L (false, [(cI2 e).1, (cI2 e).2]) = some true := by
                have := denies_t h (is_denial_pair_t (L := L) false em.1 em.2.1)
                rw [em.2.2] at this
                exact this
              have d2 : m_denies L (qP true ((cI2 p).1, (L.length : Int))) = some false := denies_t h (is_denial_pair_n true (show p.1 < L.length by omega))
              have n1 : m_no_fewer_holds L 1 [cI2 e] = some true := by
                have := no_fewer_t h 1 [e] (fun x hx => by rw [List.mem_singleton] at hx; subst hx; exact ⟨em.1, em.2.1⟩) (by simp)
                have this : m_no_fewer_holds L 1 [cI2 e] = _ := this
                rw [this, show noF L [] [e] = (bad L e.1 e.2 && (!(decide (e.1 ∈ []) || decide (e.2 ∈ [])) && true)) from rfl, em.2.2]
                simp; omega
              have sp := span_t h (i := 0) (j := L.length - 1) (by omega) (by omega)
              rw [show ((L.length - 1 : Nat) : Int) = (L.length : Int) - 1 by omega, show ((0 : Nat) : Int) = 0 from rfl, su] at sp
              have ea := earliest_t true true h
              have la := latest_t h
              have na := narrowed_t h
              have br := breaks_t h
              rw [su] at ea la na br
              have so : m__law_same (eO (eP (fc eI (f1 eI))) (some (cI2 p))) (eP (fc eI (f1 eI)) (cI2 p)) = some true := same_P (cI2 p)
              simp (config := { implicitDefEqProofs := false }) only [Option.bind_some, Option.bind_none, Option.map_some, Option.map_none, Option.isNone_none, Option.isNone_some, Option.isSome_none, Option.isSome_some, Bool.not_true, Bool.not_false, Bool.true_and, Bool.false_and, Bool.and_true, Bool.and_false, Bool.or_true, Bool.or_false, Bool.true_or, Bool.false_or, if_true, if_false, Bool.false_eq_true, reduceIte, cI, bq_t, bq_f, mapF_pure, mapF_pureF, Int.reduceLT, Int.reduceLE, and_self, and_true, true_and, List.map_cons, List.isEmpty_cons, dn, List.getElem?_cons_zero, so, ie, d1, dQ_P, d2, n1, sp, ea, la, na, br]
              done
            | nil =>
              have su : suits 0 L = true := (suits_prs L h).mpr q
              have ea := earliest_t false false h
              have la := latest_t h
              have na := narrowed_t h
              have br := breaks_t h
              rw [su] at ea la na br
              have dn : m_denial (qL false false L) = some none := by rw [denial_t false false h, q]; rfl
              have b0 : bad L 0 0 = false := by
                cases z : bad L 0 0 with
                | false => rfl
                | true =>
                  have : (0, 0) ∈ prs L := prs_mem.mpr ⟨Nat.le_refl _, by show 0 < _; omega, z⟩
                  rw [q] at this; cases this
              have d0 : m_denies L (qP true (0, 0)) = some false := by
                have := denies_t h (is_denial_pair_t (L := L) (i := 0) (j := 0) true (Nat.le_refl _) (by omega))
                rw [b0] at this
                exact this
              have lw := law_low_t true (fun p hp => (h.ok p hp).1.1) (show L.length ≤ 50 by omega)
              have hg := law_high_t (L := L) (fun p hp => by have := (h.ok p hp).2.2; omega) (by omega)
              have s1 : m__law_same (eO (eT eI) (some (lows 0 L))) (eT eI (lows 0 L)) = some true := same_T _ (by rw [lows_len]; omega)
              have s2 : m__law_same (eO (eT eI) (some (highs L))) (eT eI (highs L)) = some true := same_T _ (by rw [highs_len]; omega)
              have ql : dQ (dQ dI) (eL (eL eI) (lL L)) = some (qL false false L) := dQ_lL L
              have m1 : mapF (fun v28 : Int => Option.map some ((ixD (lows 0 L) v28).bind fun u => (ixD (highs L) v28).bind fun v => some (u, v))) ((List.range L.length).map fun i : Nat => (i : Int)) = some (narr L) := by
                rw [mapF_comp, mapF_map (g := fun i => (lo L i, hi L i))]
                · rfl
                · intro i hi
                  have hi := List.mem_range.mp hi
                  simp (config := { implicitDefEqProofs := false }) only [Option.bind_some, Option.bind_none, Option.map_some, Option.map_none, Option.isNone_none, Option.isNone_some, Option.isSome_none, Option.isSome_some, Bool.not_true, Bool.not_false, Bool.true_and, Bool.false_and, Bool.and_true, Bool.and_false, Bool.or_true, Bool.or_false, Bool.true_or, Bool.false_or, if_true, if_false, Bool.false_eq_true, reduceIte, cI, bq_t, bq_f, mapF_pure, mapF_pureF, Int.reduceLT, Int.reduceLE, and_self, and_true, true_and, lo_ix L hi, hi_ix L hi]
              have s3 : m__law_same (eO (eT (eP (fc eI (f1 eI)))) (some (narr L))) (eT (eP (fc eI (f1 eI))) (narr L)) = some true := same_d (n := 2) (sm_T (by unfold narr; rw [List.length_map, List.length_range]; omega) fun p _ => sm_P2 (sm_I 0 _) (sm_I 0 _)) (by omega)
              have rb : rgM 0 ((L.length : Int) - 1) = some ((List.range (L.length - 1)).map fun i : Nat => (i : Int)) := by
                rw [show (L.length : Int) - 1 = ((L.length - 1 : Nat) : Int) by omega, rgM_0 (by omega)]
              have m2 : mapF (fun v29 : Int => Option.map some (((ixD (lows 0 L) (v29 + 1)).bind fun u => (ixD (highs L) v29).bind fun v => some (u - v)).bind fun v => some (if v > 0 then v else 0))) ((List.range (L.length - 1)).map fun i : Nat => (i : Int)) = some (brk L) := by
                rw [mapF_comp, mapF_map (g := fun i => mx 0 (lo L (i + 1) - hi L i))]
                · rfl
                · intro i hi
                  have hi := List.mem_range.mp hi
                  have e := lo_ix L (i := i + 1) (by omega)
                  rw [show ((i + 1 : Nat) : Int) = (i : Int) + 1 by omega] at e
                  simp (config := { implicitDefEqProofs := false }) only [Option.bind_some, Option.bind_none, Option.map_some, Option.map_none, Option.isNone_none, Option.isNone_some, Option.isSome_none, Option.isSome_some, Bool.not_true, Bool.not_false, Bool.true_and, Bool.false_and, Bool.and_true, Bool.and_false, Bool.or_true, Bool.or_false, Bool.true_or, Bool.false_or, if_true, if_false, Bool.false_eq_true, reduceIte, cI, bq_t, bq_f, mapF_pure, mapF_pureF, Int.reduceLT, Int.reduceLE, and_self, and_true, true_and, e, hi_ix L (i := i) (by omega)]; rfl
              have s4 : m__law_same (eO (eT eI) (some (brk L))) (eT eI (brk L)) = some true := same_T _ (by unfold brk; rw [List.length_map, List.length_range]; omega)
              have m3 : ∀ y : Int, mapF (fun v36 : Int => ((ixD (lows 0 L) v36).bind fun u => if decide (u ≤ y) = true then (ixD (highs L) v36).bind fun w => some (decide (y ≤ w)) else some false).bind fun b => if b = true then some (some v36) else some none) ((List.range L.length).map fun i : Nat => (i : Int)) = some (toI (atF L y)) := by
                intro y
                rw [mapF_comp, mapF_filter (p := fun i => decide (lo L i ≤ y) && decide (y ≤ hi L i)) (g := fun i : Nat => (i : Int))]
                · rfl
                · intro i hi'
                  have hi' := List.mem_range.mp hi'
                  simp (config := { implicitDefEqProofs := false }) only [Option.bind_some, Option.bind_none, Option.map_some, Option.map_none, Option.isNone_none, Option.isNone_some, Option.isSome_none, Option.isSome_some, Bool.not_true, Bool.not_false, Bool.true_and, Bool.false_and, Bool.and_true, Bool.and_false, Bool.or_true, Bool.or_false, Bool.true_or, Bool.false_or, if_true, if_false, Bool.false_eq_true, reduceIte, cI, bq_t, bq_f, mapF_pure, mapF_pureF, Int.reduceLT, Int.reduceLE, and_self, and_true, true_and, lo_ix L hi', hi_ix L hi']
                  by_cases h1 : lo L i ≤ y <;> by_cases h2 : y ≤ K06.hi L i <;> simp [h1, h2]
              have s5 : ∀ y, m__law_same (eT eI (toI (atF L y))) (eT eI (toI (atF L y))) = some true := fun y => same_T _ (by
                rw [toI_len]
                unfold atF
                have := List.length_filter_le (fun i => decide (lo L i ≤ y) && decide (y ≤ hi L i)) (List.range L.length)
                rw [List.length_range] at this
                omega)
              have aty := fun y => at_year_t h y
              simp only [su, if_true] at aty
              simp (config := { implicitDefEqProofs := false }) only [Option.bind_some, Option.bind_none, Option.map_some, Option.map_none, Option.isNone_none, Option.isNone_some, Option.isSome_none, Option.isSome_some, Bool.not_true, Bool.not_false, Bool.true_and, Bool.false_and, Bool.and_true, Bool.and_false, Bool.or_true, Bool.or_false, Bool.true_or, Bool.false_or, if_true, if_false, Bool.false_eq_true, reduceIte, cI, bq_t, bq_f, mapF_pure, mapF_pureF, Int.reduceLT, Int.reduceLE, and_self, and_true, true_and, List.map_nil, List.isEmpty_nil, lw, hg, ql, dn, dQ_P, d0, ea, la, s1, s2, na, m1, s3, br, rb, m2, s4, c2, aty, m3, s5, c3, ixD_0]
              rw [forT_unit ?_]
              · simp (config := { implicitDefEqProofs := false }) only [Option.bind_some, Option.bind_none, Option.map_some, Option.map_none, Option.isNone_none, Option.isNone_some, Option.isSome_none, Option.isSome_some, Bool.not_true, Bool.not_false, Bool.true_and, Bool.false_and, Bool.and_true, Bool.and_false, Bool.or_true, Bool.or_false, Bool.true_or, Bool.false_or, if_true, if_false, Bool.false_eq_true, reduceIte, cI, bq_t, bq_f, mapF_pure, mapF_pureF, Int.reduceLT, Int.reduceLE, and_self, and_true, true_and, sumK]
                generalize hf : (fun (v40 : Int) (v39 : Int × List Int) => _ : Int → Int × List Int → Option (Int × List Int)) = f
                have key : ∀ i, i < L.length → ∀ s : Int × List Int, (s.2.length = i ∧ s.1 = s.2.sum ∧ (∀ v ∈ s.2, 1 ≤ v ∧ v ≤ 9) ∧ (i : Int) ≤ s.1) → ∃ s', f (i : Int) s = some s' ∧ (s'.2.length = i + 1 ∧ s'.1 = s'.2.sum ∧ (∀ v ∈ s'.2, 1 ≤ v ∧ v ≤ 9) ∧ ((i + 1 : Nat) : Int) ≤ s'.1) := by
                  rintro i hi ⟨tot, T⟩ ⟨q1, q2, q3, q4⟩
                  have q1 : T.length = i := q1
                  have q2 : tot = T.sum := q2
                  have q4 : (i : Int) ≤ tot := q4
                  have hL : T.length < LIM := lim_lt (by omega)
                  have dv : (if (0 : Int) < 1 + (i : Int) ∧ 1 + (i : Int) < 1073741824 then some (cell ns 3 / (1 + (i : Int))) else none) = some (cell ns 3 / (1 + (i : Int))) := if_pos ⟨by omega, by omega⟩
                  refine ⟨(tot + (1 + cell ns 3 / (1 + (i : Int)) % 9), T ++ [1 + cell ns 3 / (1 + (i : Int)) % 9]), ?_, by rw [List.length_append, q1]; rfl, ?_, fun v hv => ?_, ?_⟩
                  · subst hf
                    simp (config := { implicitDefEqProofs := false }) only [Option.bind_some, Option.bind_none, Option.map_some, Option.map_none, Option.isNone_none, Option.isNone_some, Option.isSome_none, Option.isSome_some, Bool.not_true, Bool.not_false, Bool.true_and, Bool.false_and, Bool.and_true, Bool.and_false, Bool.or_true, Bool.or_false, Bool.true_or, Bool.false_or, if_true, if_false, Bool.false_eq_true, reduceIte, cI, bq_t, bq_f, mapF_pure, mapF_pureF, Int.reduceLT, Int.reduceLE, and_self, and_true, true_and, dv, hL, ixD_neg1]
                  · show tot + _ = (T ++ [_]).sum
                    rw [List.sum_append, q2]; simp
                  · rcases List.mem_append.mp hv with hv | hv
                    · exact q3 v hv
                    · rw [List.mem_singleton] at hv; subst hv; omega
                  · show ((i + 1 : Nat) : Int) ≤ tot + (1 + cell ns 3 / (1 + (i : Int)) % 9)
                    omega
                obtain ⟨⟨tot, T⟩, k1, k2, k3, k4, k5⟩ := forN_rng (f := f) (fun i (s : Int × List Int) => s.2.length = i ∧ s.1 = s.2.sum ∧ (∀ v ∈ s.2, 1 ≤ v ∧ v ≤ 9) ∧ (i : Int) ≤ s.1) (n := L.length) (s := (0, [])) ⟨rfl, rfl, fun v hv => (by cases hv), by simp⟩ key
                have k2 : T.length = L.length := k2
                have k3 : tot = T.sum := k3
                have k5 : (L.length : Int) ≤ tot := k5
                have k4 : ∀ v ∈ T, 1 ≤ v ∧ v ≤ 9 := k4
                have hT : okT L T := ⟨k2, k4⟩
                rw [k1]
                have et : tot = ((tot.toNat : Nat) : Int) := by omega
                have ra := rate_t h hT (tot := tot.toNat) (by omega) su
                obtain ⟨a0, a1, b0', b1, ab⟩ := span_facts L h su
                have v43 : (if decide (1 < (L.length : Int)) = true then (((ixD (lows 0 L) (-1)).bind fun u => (highs L)[0]?.bind fun v => some (u - v)).bind fun v => some (if v > 0 then v else 0)).bind fun u => ((ixD (highs L) (-1)).bind fun u => (lows 0 L)[0]?.bind fun v => some (u - v)).bind fun v => some (u, v) else some (0, 0)) = some (spanP L 0 (L.length - 1)) := by
                  unfold spanP
                  by_cases z : L.length = 1
                  · rw [decide_eq_false (by omega), if_neg (by decide), if_pos (by omega)]
                  · have i1 : ixD (lows 0 L) (-1) = some (lo L (L.length - 1)) := by
                      have := lo_ix L (i := L.length - 1) (by omega)
                      unfold ixD at this ⊢
                      rw [if_pos (by omega)] at this
                      rw [if_neg (by omega), if_pos (by rw [lows_len]; omega), lows_len, show ((-1 : Int) + (L.length : Nat)).toNat = L.length - 1 by omega]
                      rw [show (((L.length - 1 : Nat) : Int)).toNat = L.length - 1 by omega] at this
                      exact this
                    have i2 : ixD (highs L) (-1) = some (hi L (L.length - 1)) := by
                      have := hi_ix L (i := L.length - 1) (by omega)
                      unfold ixD at this ⊢
                      rw [if_pos (by omega)] at this
                      rw [if_neg (by omega), if_pos (by rw [highs_len]; omega), highs_len, show ((-1 : Int) + (L.length : Nat)).toNat = L.length - 1 by omega]
                      rw [show (((L.length - 1 : Nat) : Int)).toNat = L.length - 1 by omega] at this
                      exact this
                    have i3 : (lows 0 L)[0]? = some (lo L 0) := by
                      have := lo_ix L (i := 0) (by omega)
                      rwa [ixD_nat] at this
                    have i4 : (highs L)[0]? = some (hi L 0) := by
                      have := hi_ix L (i := 0) (by omega)
                      rwa [ixD_nat] at this
                    rw [decide_eq_true (by omega), if_pos rfl, if_neg (by omega), i1, i2, i3, i4]
                    rfl
                simp (config := { implicitDefEqProofs := false }) only [Option.bind_some, Option.bind_none, Option.map_some, Option.map_none, Option.isNone_none, Option.isNone_some, Option.isSome_none, Option.isSome_some, Bool.not_true, Bool.not_false, Bool.true_and, Bool.false_and, Bool.and_true, Bool.and_false, Bool.or_true, Bool.or_false, Bool.true_or, Bool.false_or, if_true, if_false, Bool.false_eq_true, reduceIte, cI, bq_t, bq_f, mapF_pure, mapF_pureF, Int.reduceLT, Int.reduceLE, and_self, and_true, true_and, v43, ra]
                have fr : ∀ l : Int, 0 ≤ l → l ≤ 300 → (if decide (0 < l) = true then Option.map some (m__law_frac tot l) else some none) = some (if l > 0 then some (frT tot.toNat l.toNat) else none) := by
                  intro l l0 l3
                  by_cases z : 0 < l
                  · rw [decide_eq_true z, if_pos rfl, if_pos z]
                    have := law_frac_t tot.toNat l.toNat (by omega) (by omega) (by omega)
                    rw [show ((l.toNat : Nat) : Int) = l by omega, ← et] at this
                    rw [this]; rfl
                  · rw [decide_eq_false z, if_neg (by decide), if_neg z]
                rw [fr _ a0 a1, fr _ b0' b1]
                simp (config := { implicitDefEqProofs := false }) only [Option.bind_some, Option.bind_none, Option.map_some, Option.map_none, Option.isNone_none, Option.isNone_some, Option.isSome_none, Option.isSome_some, Bool.not_true, Bool.not_false, Bool.true_and, Bool.false_and, Bool.and_true, Bool.and_false, Bool.or_true, Bool.or_false, Bool.true_or, Bool.false_or, if_true, if_false, Bool.false_eq_true, reduceIte, cI, bq_t, bq_f, mapF_pure, mapF_pureF, Int.reduceLT, Int.reduceLE, and_self, and_true, true_and]
                show (m__law_same (eP _ (rateT L tot.toNat)) (eP _ (rateT L tot.toNat))).map _ = _
                rw [same_d (n := 2) (sm_P2 (sm_O fun y _ => sm_P2 (sm_I 0 _) (sm_I 0 _)) (sm_O fun y _ => sm_P2 (sm_I 0 _) (sm_I 0 _))) (by omega)]
                rfl
              · intro x hx
                obtain ⟨i, hi', rfl⟩ := List.mem_map.mp hx
                have hi' := List.mem_range.mp hi'
                simp (config := { implicitDefEqProofs := false }) only [Option.bind_some, Option.bind_none, Option.map_some, Option.map_none, Option.isNone_none, Option.isNone_some, Option.isSome_none, Option.isSome_some, Bool.not_true, Bool.not_false, Bool.true_and, Bool.false_and, Bool.and_true, Bool.and_false, Bool.or_true, Bool.or_false, Bool.true_or, Bool.false_or, if_true, if_false, Bool.false_eq_true, reduceIte, cI, bq_t, bq_f, mapF_pure, mapF_pureF, Int.reduceLT, Int.reduceLE, and_self, and_true, true_and, rgM_from (Nat.le_of_lt hi') (show L.length ≤ 1000000 by omega)]
                rw [forT_unit ?_]
                · rfl
                · intro y hy
                  obtain ⟨d, hd, rfl⟩ := List.mem_map.mp hy
                  have hd := List.mem_range.mp hd
                  have sp := span_t h (show i ≤ i + d by omega) (show i + d < L.length by omega)
                  rw [su] at sp
                  have due : (if decide ((i : Int) = ((i + d : Nat) : Int)) = true then some ((0 : Int), (0 : Int)) else (((ixD (lows 0 L) ((i + d : Nat) : Int)).bind fun u => (ixD (highs L) (i : Int)).bind fun v => some (u - v)).bind fun v => some (if v > 0 then v else 0)).bind fun u => ((ixD (highs L) ((i + d : Nat) : Int)).bind fun u => (ixD (lows 0 L) (i : Int)).bind fun v => some (u - v)).bind fun v => some (u, v)) = some (spanP L i (i + d)) := by
                    unfold spanP
                    by_cases z : i = i + d
                    · rw [decide_eq_true (by omega), if_pos rfl, if_pos z]
                    · rw [decide_eq_false (by omega), if_neg (by decide), if_neg z, lo_ix L hi', hi_ix L hi', lo_ix L (show i + d < L.length by omega), hi_ix L (show i + d < L.length by omega)]
                      rfl
                  have s6 : m__law_same (eO (eP (fc eI (f1 eI))) (some (spanP L i (i + d)))) (eP (fc eI (f1 eI)) (spanP L i (i + d))) = some true := same_P _
                  simp (config := { implicitDefEqProofs := false }) only [Option.bind_some, Option.bind_none, Option.map_some, Option.map_none, Option.isNone_none, Option.isNone_some, Option.isSome_none, Option.isSome_some, Bool.not_true, Bool.not_false, Bool.true_and, Bool.false_and, Bool.and_true, Bool.and_false, Bool.or_true, Bool.or_false, Bool.true_or, Bool.false_or, if_true, if_false, Bool.false_eq_true, reduceIte, cI, bq_t, bq_f, mapF_pure, mapF_pureF, Int.reduceLT, Int.reduceLE, and_self, and_true, true_and, due, sp, s6]
          · intro x hx
            obtain ⟨i, hi, rfl⟩ := List.mem_map.mp hx
            have hi := List.mem_range.mp hi
            simp (config := { implicitDefEqProofs := false }) only [Option.bind_some, Option.bind_none, Option.map_some, Option.map_none, Option.isNone_none, Option.isNone_some, Option.isSome_none, Option.isSome_some, Bool.not_true, Bool.not_false, Bool.true_and, Bool.false_and, Bool.and_true, Bool.and_false, Bool.or_true, Bool.or_false, Bool.true_or, Bool.false_or, if_true, if_false, Bool.false_eq_true, reduceIte, cI, bq_t, bq_f, mapF_pure, mapF_pureF, Int.reduceLT, Int.reduceLE, and_self, and_true, true_and, rgM_from (Nat.le_of_lt hi) (show L.length ≤ 1000000 by omega)]
            rw [forT_unit ?_]
            · rfl
            · intro y hy
              obtain ⟨d, hd, rfl⟩ := List.mem_map.mp hy
              have hd := List.mem_range.mp hd
              have d1 := denies_t h (is_denial_pair_t true (show i ≤ i + d by omega) (show i + d < L.length by omega))
              have ip := in_prs (L := L) (show i ≤ i + d by omega) (show i + d < L.length by omega)
              have n1 := no_fewer_t h 1 [(i, i + d)] (fun x hx => by rw [List.mem_singleton] at hx; subst hx; exact ⟨by show i ≤ i + d; omega, by show i + d < _; omega⟩) (by simp)
              have n1 : m_no_fewer_holds L 1 [((i : Int), ((i + d : Nat) : Int))] = some (bad L i (i + d)) := by
                rw [show m_no_fewer_holds L 1 [((i : Int), ((i + d : Nat) : Int))] = _ from n1, show noF L [] [(i, i + d)] = (bad L i (i + d) && (!(decide (i ∈ []) || decide (i + d ∈ [])) && true)) from rfl]
                cases bad L i (i + d) <;> simp
                omega
              simp (config := { implicitDefEqProofs := false }) only [Option.bind_some, Option.bind_none, Option.map_some, Option.map_none, Option.isNone_none, Option.isNone_some, Option.isSome_none, Option.isSome_some, Bool.not_true, Bool.not_false, Bool.true_and, Bool.false_and, Bool.and_true, Bool.and_false, Bool.or_true, Bool.or_false, Bool.true_or, Bool.false_or, if_true, if_false, Bool.false_eq_true, reduceIte, cI, bq_t, bq_f, mapF_pure, mapF_pureF, Int.reduceLT, Int.reduceLE, and_self, and_true, true_and, dQ_P, d1, ip, n1, same_B]
        · intro off ho
          obtain ⟨k1, k2⟩ := kp_ok h 0 off
          simp (config := { implicitDefEqProofs := false }) only [Option.bind_some, Option.bind_none, Option.map_some, Option.map_none, Option.isNone_none, Option.isNone_some, Option.isSome_none, Option.isSome_some, Bool.not_true, Bool.not_false, Bool.true_and, Bool.false_and, Bool.and_true, Bool.and_false, Bool.or_true, Bool.or_false, Bool.true_or, Bool.false_or, if_true, if_false, Bool.false_eq_true, reduceIte, cI, bq_t, bq_f, mapF_pure, mapF_pureF, Int.reduceLT, Int.reduceLE, and_self, and_true, true_and, law_kept_t (show L.length ≤ 50 by omega), eq_kp, law_suits_t (fun p hp => (h.ok p (k1 p hp)).1.1) (show (kp 0 L off).length ≤ 50 by omega), toI_len]
          cases z : kp 0 L off with
          | nil => rfl
          | cons a b =>
            simp (config := { implicitDefEqProofs := false }) only [Option.bind_some, Option.bind_none, Option.map_some, Option.map_none, Option.isNone_none, Option.isNone_some, Option.isSome_none, Option.isSome_some, Bool.not_true, Bool.not_false, Bool.true_and, Bool.false_and, Bool.and_true, Bool.and_false, Bool.or_true, Bool.or_false, Bool.true_or, Bool.false_or, if_true, if_false, Bool.false_eq_true, reduceIte, cI, bq_t, bq_f, mapF_pure, mapF_pureF, Int.reduceLT, Int.reduceLE, and_self, and_true, true_and, List.isEmpty_cons]
            cases suits 0 (a :: b) <;> rfl
      · intro k s hs hx
        have e : mapF (fun v18 => Option.map some (catM v18 [(k : Int)])) (s.map toI) = some ((s.map (· ++ [k])).map toI) := by
          rw [mapF_comp, mapF_map (g := fun o => toI (o ++ [k])), List.map_map]; rfl
          intro o ho
          rw [catM_ok (by rw [toI_len]; have := hx o ho; simp; omega)]
          unfold toI
          rw [List.map_append]; rfl
        rw [e]
        simp (config := { implicitDefEqProofs := false }) only [Option.bind_some, Option.bind_none, Option.map_some, Option.map_none, Option.isNone_none, Option.isNone_some, Option.isSome_none, Option.isSome_some, Bool.not_true, Bool.not_false, Bool.true_and, Bool.false_and, Bool.and_true, Bool.and_false, Bool.or_true, Bool.or_false, Bool.true_or, Bool.false_or, if_true, if_false, Bool.false_eq_true, reduceIte, cI, bq_t, bq_f, mapF_pure, mapF_pureF, Int.reduceLT, Int.reduceLE, and_self, and_true, true_and]
        rw [catM_ok (by simp; omega), List.map_append]; rfl
    · intro i s hi hs
      simp (config := { implicitDefEqProofs := false }) only [Option.bind_some, Option.bind_none, Option.map_some, Option.map_none, Option.isNone_none, Option.isNone_some, Option.isSome_none, Option.isSome_some, Bool.not_true, Bool.not_false, Bool.true_and, Bool.false_and, Bool.and_true, Bool.and_false, Bool.or_true, Bool.or_false, Bool.true_or, Bool.false_or, if_true, if_false, Bool.false_eq_true, reduceIte, cI, bq_t, bq_f, mapF_pure, mapF_pureF, Int.reduceLT, Int.reduceLE, and_self, and_true, true_and, rgM_from (Nat.le_of_lt hi) (show L.length ≤ 1000000 by omega)]
      rw [mapF_filter (p := fun j => bad L i j.toNat) (g := fun j => ((i : Int), j))]
      · simp (config := { implicitDefEqProofs := false }) only [Option.bind_some, Option.bind_none, Option.map_some, Option.map_none, Option.isNone_none, Option.isNone_some, Option.isSome_none, Option.isSome_some, Bool.not_true, Bool.not_false, Bool.true_and, Bool.false_and, Bool.and_true, Bool.and_false, Bool.or_true, Bool.or_false, Bool.true_or, Bool.false_or, if_true, if_false, Bool.false_eq_true, reduceIte, cI, bq_t, bq_f, mapF_pure, mapF_pureF, Int.reduceLT, Int.reduceLE, and_self, and_true, true_and]
        have e : (((List.range (L.length - i)).map fun d : Nat => ((i + d : Nat) : Int)).filter fun j => bad L i j.toNat).map (fun j => ((i : Int), j)) = (rowB L i).map cI2 := by
          unfold rowB
          rw [List.filter_map, List.map_map, List.map_map]; rfl
        rw [e, catM_ok (by rw [List.length_map]; have := rowB_len L i; omega)]
        rfl
      · intro y hy
        obtain ⟨d, hd, rfl⟩ := List.mem_map.mp hy
        have hd := List.mem_range.mp hd
        simp (config := { implicitDefEqProofs := false }) only [Option.bind_some, Option.bind_none, Option.map_some, Option.map_none, Option.isNone_none, Option.isNone_some, Option.isSome_none, Option.isSome_some, Bool.not_true, Bool.not_false, Bool.true_and, Bool.false_and, Bool.and_true, Bool.and_false, Bool.or_true, Bool.or_false, Bool.true_or, Bool.false_or, if_true, if_false, Bool.false_eq_true, reduceIte, cI, bq_t, bq_f, mapF_pure, mapF_pureF, Int.reduceLT, Int.reduceLE, and_self, and_true, true_and, ly_ix L hi, ly_ix L (show i + d < L.length by omega)]
        show _ = some (if bad L i (i + d) = true then _ else _)
        unfold bad
        by_cases z : (lyAt L (i + d)).2 < (lyAt L i).1 <;> simp [z]
  · intro n hn s hs
    have hL : s.length < LIM := lim_lt (by omega)
    simp (config := { implicitDefEqProofs := false }) only [Option.bind_some, Option.bind_none, Option.map_some, Option.map_none, Option.isNone_none, Option.isNone_some, Option.isSome_none, Option.isSome_some, Bool.not_true, Bool.not_false, Bool.true_and, Bool.false_and, Bool.and_true, Bool.and_false, Bool.or_true, Bool.or_false, Bool.true_or, Bool.false_or, if_true, if_false, Bool.false_eq_true, reduceIte, cI, bq_t, bq_f, mapF_pure, mapF_pureF, Int.reduceLT, Int.reduceLE, and_self, and_true, true_and, hL]
    unfold mk
    by_cases z : n % 7 = 0
    · rw [decide_eq_true z, if_pos rfl, if_pos z]; rfl
    · rw [decide_eq_false z, if_neg (by decide), if_neg z]; rfl
theorem law_ok (k : Nat) (ns : List Int) : call fs (k + 49) 39 [.list (ns.map .int)] = .ok (.bool true) := ok_law k ns true (law_t ns)
end K06
end Ws

set_option Elab.async false
set_option linter.all false
set_option maxRecDepth 100000
set_option maxHeartbeats 0
namespace Hd
open PySem PySem.Spec PyProof.Rows L2 Ws
abbrev Pg : Program := PySem.Challenge.pw_wellstell_k06_years_of_layers_whole
def top (i : Nat) : Stmt := Pg.main.body.getD i (.Pass ⟨0, 0, 0, 0⟩)
def r0 : DRow := ⟨"need", top 5, [("good" : PySem.Str), ("at" : PySem.Str)], [("good" : PySem.Str), ("at" : PySem.Str)], Ws.K06.b_need⟩
def r1 : DRow := ⟨"is_integer", top 6, [("value" : PySem.Str)], [("value" : PySem.Str)], Ws.K06.b_is_integer⟩
def r2 : DRow := ⟨"is_between", top 7, [("value" : PySem.Str), ("low" : PySem.Str), ("high" : PySem.Str)], [("value" : PySem.Str), ("low" : PySem.Str), ("high" : PySem.Str)], Ws.K06.b_is_between⟩
def r3 : DRow := ⟨"is_sequence", top 8, [("value" : PySem.Str)], [("value" : PySem.Str)], Ws.K06.b_is_sequence⟩
def r4 : DRow := ⟨"is_row", top 9, [("value" : PySem.Str), ("low" : PySem.Str), ("high" : PySem.Str)], [("value" : PySem.Str), ("low" : PySem.Str), ("high" : PySem.Str)], Ws.K06.b_is_row⟩
def r5 : DRow := ⟨"tupled", top 10, [("value" : PySem.Str), ("member" : PySem.Str)], [("value" : PySem.Str)], Ws.K06.b_tupled⟩
def r6 : DRow := ⟨"rank", top 11, [("value" : PySem.Str), ("member" : PySem.Str)], [("value" : PySem.Str)], Ws.K06.b_rank⟩
def r7 : DRow := ⟨"distinct", top 12, [("rows" : PySem.Str), ("told" : PySem.Str), ("row" : PySem.Str)], [("rows" : PySem.Str)], Ws.K06.b_distinct⟩
def r8 : DRow := ⟨"ratio", top 14, [("above" : PySem.Str), ("below" : PySem.Str), ("common" : PySem.Str)], [("above" : PySem.Str), ("below" : PySem.Str)], Ws.K06.b_ratio⟩
def r9 : DRow := ⟨"is_age_pair", top 19, [("value" : PySem.Str), ("year" : PySem.Str)], [("value" : PySem.Str)], Ws.K06.b_is_age_pair⟩
def r10 : DRow := ⟨"is_age_layers", top 20, [("value" : PySem.Str), ("pair" : PySem.Str)], [("value" : PySem.Str)], Ws.K06.b_is_age_layers⟩
def r11 : DRow := ⟨"years_of", top 21, [("layers" : PySem.Str), ("early" : PySem.Str), ("year" : PySem.Str), ("late" : PySem.Str), ("pair" : PySem.Str), ("youngest" : PySem.Str), ("oldest" : PySem.Str)], [("layers" : PySem.Str)], Ws.K06.b_years_of⟩
def r12 : DRow := ⟨"earliest", top 22, [("layers" : PySem.Str), ("years" : PySem.Str)], [("layers" : PySem.Str)], Ws.K06.b_earliest⟩
def r13 : DRow := ⟨"latest", top 23, [("layers" : PySem.Str), ("years" : PySem.Str)], [("layers" : PySem.Str)], Ws.K06.b_latest⟩
def r14 : DRow := ⟨"denial_pairs", top 24, [("layers" : PySem.Str), ("many" : PySem.Str), ("i" : PySem.Str), ("j" : PySem.Str)], [("layers" : PySem.Str)], Ws.K06.b_denial_pairs⟩
def r15 : DRow := ⟨"denial", top 25, [("layers" : PySem.Str), ("pairs" : PySem.Str)], [("layers" : PySem.Str)], Ws.K06.b_denial⟩
def r16 : DRow := ⟨"is_denial_pair", top 26, [("layers" : PySem.Str), ("value" : PySem.Str)], [("layers" : PySem.Str), ("value" : PySem.Str)], Ws.K06.b_is_denial_pair⟩
def r17 : DRow := ⟨"denies", top 27, [("layers" : PySem.Str), ("value" : PySem.Str)], [("layers" : PySem.Str), ("value" : PySem.Str)], Ws.K06.b_denies⟩
def r18 : DRow := ⟨"breaks", top 28, [("layers" : PySem.Str), ("years" : PySem.Str), ("early" : PySem.Str), ("late" : PySem.Str), ("k" : PySem.Str)], [("layers" : PySem.Str)], Ws.K06.b_breaks⟩
def r19 : DRow := ⟨"span_of", top 29, [("years" : PySem.Str), ("i" : PySem.Str), ("j" : PySem.Str), ("early" : PySem.Str), ("late" : PySem.Str)], [("years" : PySem.Str), ("i" : PySem.Str), ("j" : PySem.Str)], Ws.K06.b_span_of⟩
def r20 : DRow := ⟨"span", top 30, [("layers" : PySem.Str), ("i" : PySem.Str), ("j" : PySem.Str), ("years" : PySem.Str)], [("layers" : PySem.Str), ("i" : PySem.Str), ("j" : PySem.Str)], Ws.K06.b_span⟩
def r21 : DRow := ⟨"narrowed", top 31, [("layers" : PySem.Str), ("years" : PySem.Str), ("k" : PySem.Str)], [("layers" : PySem.Str)], Ws.K06.b_narrowed⟩
def r22 : DRow := ⟨"are_thicknesses", top 32, [("layers" : PySem.Str), ("value" : PySem.Str), ("thickness" : PySem.Str)], [("layers" : PySem.Str), ("value" : PySem.Str)], Ws.K06.b_are_thicknesses⟩
def r23 : DRow := ⟨"rate", top 33, [("layers" : PySem.Str), ("thicknesses" : PySem.Str), ("years" : PySem.Str), ("thickness" : PySem.Str), ("least" : PySem.Str), ("most" : PySem.Str)], [("layers" : PySem.Str), ("thicknesses" : PySem.Str)], Ws.K06.b_rate⟩
def r24 : DRow := ⟨"at_year", top 34, [("layers" : PySem.Str), ("year" : PySem.Str), ("years" : PySem.Str), ("early" : PySem.Str), ("late" : PySem.Str), ("k" : PySem.Str)], [("layers" : PySem.Str), ("year" : PySem.Str)], Ws.K06.b_at_year⟩
def r25 : DRow := ⟨"off_table", top 35, [("layers" : PySem.Str), ("years" : PySem.Str), ("table" : PySem.Str), ("youngest" : PySem.Str), ("oldest" : PySem.Str), ("behind" : PySem.Str), ("row" : PySem.Str), ("year" : PySem.Str), ("reached" : PySem.Str), ("pair" : PySem.Str)], [("layers" : PySem.Str)], Ws.K06.b_off_table⟩
def r26 : DRow := ⟨"places_off", top 36, [("layers" : PySem.Str), ("table" : PySem.Str), ("year" : PySem.Str), ("told" : PySem.Str), ("k" : PySem.Str)], [("layers" : PySem.Str)], Ws.K06.b_places_off⟩
def r27 : DRow := ⟨"least_off", top 37, [("layers" : PySem.Str)], [("layers" : PySem.Str)], Ws.K06.b_least_off⟩
def r28 : DRow := ⟨"no_fewer_holds", top 38, [("layers" : PySem.Str), ("many" : PySem.Str), ("value" : PySem.Str), ("known" : PySem.Str), ("used" : PySem.Str), ("pair" : PySem.Str), ("i" : PySem.Str), ("j" : PySem.Str)], [("layers" : PySem.Str), ("many" : PySem.Str), ("value" : PySem.Str)], Ws.K06.b_no_fewer_holds⟩
def r29 : DRow := ⟨"_law_same", top 40, [("one" : PySem.Str), ("other" : PySem.Str), ("kin" : PySem.Str), ("k" : PySem.Str)], [("one" : PySem.Str), ("other" : PySem.Str)], Ws.K06.b__law_same⟩
def r30 : DRow := ⟨"_law_listed", top 41, [("value" : PySem.Str), ("member" : PySem.Str)], [("value" : PySem.Str)], Ws.K06.b__law_listed⟩
def r31 : DRow := ⟨"_law_cell", top 42, [("script" : PySem.Str), ("place" : PySem.Str)], [("script" : PySem.Str), ("place" : PySem.Str)], Ws.K06.b__law_cell⟩
def r32 : DRow := ⟨"_law_numbers", top 43, [("script" : PySem.Str), ("place" : PySem.Str), ("size" : PySem.Str), ("cell" : PySem.Str), ("numbers" : PySem.Str), ("rest" : PySem.Str), ("k" : PySem.Str), ("twice" : PySem.Str)], [("script" : PySem.Str), ("place" : PySem.Str), ("size" : PySem.Str)], Ws.K06.b__law_numbers⟩
def r33 : DRow := ⟨"_law_gcd", top 44, [("one" : PySem.Str), ("other" : PySem.Str), ("k" : PySem.Str)], [("one" : PySem.Str), ("other" : PySem.Str)], Ws.K06.b__law_gcd⟩
def r34 : DRow := ⟨"_law_frac", top 45, [("above" : PySem.Str), ("below" : PySem.Str), ("common" : PySem.Str)], [("above" : PySem.Str), ("below" : PySem.Str)], Ws.K06.b__law_frac⟩
def r35 : DRow := ⟨"_law_low", top 46, [("layers" : PySem.Str), ("years" : PySem.Str), ("youngest" : PySem.Str), ("oldest" : PySem.Str)], [("layers" : PySem.Str)], Ws.K06.b__law_low⟩
def r36 : DRow := ⟨"_law_high", top 47, [("layers" : PySem.Str), ("years" : PySem.Str), ("youngest" : PySem.Str), ("oldest" : PySem.Str)], [("layers" : PySem.Str)], Ws.K06.b__law_high⟩
def r37 : DRow := ⟨"_law_suits", top 48, [("layers" : PySem.Str), ("low" : PySem.Str), ("k" : PySem.Str)], [("layers" : PySem.Str)], Ws.K06.b__law_suits⟩
def r38 : DRow := ⟨"_law_kept", top 49, [("layers" : PySem.Str), ("off" : PySem.Str), ("k" : PySem.Str)], [("layers" : PySem.Str), ("off" : PySem.Str)], Ws.K06.b__law_kept⟩
def r39 : DRow := ⟨"law", top 50, [("script" : PySem.Str), ("layers" : PySem.Str), ("number" : PySem.Str), ("rows" : PySem.Str), ("denied" : PySem.Str), ("i" : PySem.Str), ("offs" : PySem.Str), ("k" : PySem.Str), ("fewest" : PySem.Str), ("low" : PySem.Str), ("high" : PySem.Str), ("year" : PySem.Str), ("total" : PySem.Str), ("thin" : PySem.Str), ("n" : PySem.Str), ("youngest" : PySem.Str), ("j" : PySem.Str), ("least" : PySem.Str), ("most" : PySem.Str), ("due" : PySem.Str), ("off" : PySem.Str)], [("script" : PySem.Str)], Ws.K06.b_law⟩
def rows : List DRow := [r0, r1, r2, r3, r4, r5, r6, r7, r8, r9, r10, r11, r12, r13, r14, r15, r16, r17, r18, r19, r20, r21, r22, r23, r24, r25, r26, r27, r28, r29, r30, r31, r32, r33, r34, r35, r36, r37, r38, r39]
def c0 : Cfg := ⟨[], [("need" : PySem.Str), ("is_integer" : PySem.Str), ("is_between" : PySem.Str), ("is_sequence" : PySem.Str), ("is_row" : PySem.Str), ("tupled" : PySem.Str), ("rank" : PySem.Str), ("distinct" : PySem.Str), ("ratio" : PySem.Str), ("is_age_pair" : PySem.Str), ("is_age_layers" : PySem.Str), ("years_of" : PySem.Str), ("earliest" : PySem.Str), ("latest" : PySem.Str), ("denial_pairs" : PySem.Str), ("denial" : PySem.Str), ("is_denial_pair" : PySem.Str), ("denies" : PySem.Str), ("breaks" : PySem.Str), ("span_of" : PySem.Str), ("span" : PySem.Str), ("narrowed" : PySem.Str), ("are_thicknesses" : PySem.Str), ("rate" : PySem.Str), ("at_year" : PySem.Str), ("off_table" : PySem.Str), ("places_off" : PySem.Str), ("least_off" : PySem.Str), ("no_fewer_holds" : PySem.Str), ("_law_same" : PySem.Str), ("_law_listed" : PySem.Str), ("_law_cell" : PySem.Str), ("_law_numbers" : PySem.Str), ("_law_gcd" : PySem.Str), ("_law_frac" : PySem.Str), ("_law_low" : PySem.Str), ("_law_high" : PySem.Str), ("_law_suits" : PySem.Str), ("_law_kept" : PySem.Str), ("law" : PySem.Str)], [(("MOST_LAYERS" : PySem.Str), (.int (96))), (("LAST_YEAR" : PySem.Str), (.int (9999))), (("MOST_THICK" : PySem.Str), (.int (9999)))], [("abs" : PySem.Str), ("all" : PySem.Str), ("bool" : PySem.Str), ("int" : PySem.Str), ("isinstance" : PySem.Str), ("len" : PySem.Str), ("list" : PySem.Str), ("max" : PySem.Str), ("min" : PySem.Str), ("range" : PySem.Str), ("reversed" : PySem.Str), ("sorted" : PySem.Str), ("str" : PySem.Str), ("sum" : PySem.Str), ("tuple" : PySem.Str)], [("need" : PySem.Str), ("is_integer" : PySem.Str), ("is_between" : PySem.Str), ("is_sequence" : PySem.Str), ("is_row" : PySem.Str), ("tupled" : PySem.Str), ("rank" : PySem.Str), ("distinct" : PySem.Str), ("ratio" : PySem.Str), ("is_age_pair" : PySem.Str), ("is_age_layers" : PySem.Str), ("years_of" : PySem.Str), ("earliest" : PySem.Str), ("latest" : PySem.Str), ("denial" : PySem.Str), ("is_denial_pair" : PySem.Str), ("denies" : PySem.Str), ("breaks" : PySem.Str), ("span_of" : PySem.Str), ("span" : PySem.Str), ("narrowed" : PySem.Str), ("are_thicknesses" : PySem.Str), ("rate" : PySem.Str), ("at_year" : PySem.Str), ("places_off" : PySem.Str), ("least_off" : PySem.Str), ("no_fewer_holds" : PySem.Str), ("_law_same" : PySem.Str), ("_law_cell" : PySem.Str), ("_law_gcd" : PySem.Str), ("_law_frac" : PySem.Str), ("_law_suits" : PySem.Str)], true, [], [([("good" : PySem.Str), ("at" : PySem.Str)], [("good" : PySem.Str), ("at" : PySem.Str)]), ([("value" : PySem.Str)], [("value" : PySem.Str)]), ([("value" : PySem.Str), ("low" : PySem.Str), ("high" : PySem.Str)], [("value" : PySem.Str), ("low" : PySem.Str), ("high" : PySem.Str)]), ([("value" : PySem.Str), ("member" : PySem.Str)], [("value" : PySem.Str), ("member" : PySem.Str)]), ([("rows" : PySem.Str), ("told" : PySem.Str), ("row" : PySem.Str)], [("rows" : PySem.Str), ("row" : PySem.Str)]), ([("above" : PySem.Str), ("below" : PySem.Str), ("common" : PySem.Str)], [("above" : PySem.Str), ("below" : PySem.Str), ("common" : PySem.Str)]), ([("value" : PySem.Str), ("year" : PySem.Str)], [("value" : PySem.Str), ("year" : PySem.Str)]), ([("value" : PySem.Str), ("pair" : PySem.Str)], [("value" : PySem.Str), ("pair" : PySem.Str)]), ([("layers" : PySem.Str), ("early" : PySem.Str), ("year" : PySem.Str), ("late" : PySem.Str), ("pair" : PySem.Str), ("youngest" : PySem.Str), ("oldest" : PySem.Str)], [("layers" : PySem.Str), ("year" : PySem.Str), ("pair" : PySem.Str), ("youngest" : PySem.Str), ("oldest" : PySem.Str)]), ([("layers" : PySem.Str), ("years" : PySem.Str)], [("layers" : PySem.Str), ("years" : PySem.Str)]), ([("layers" : PySem.Str), ("many" : PySem.Str), ("i" : PySem.Str), ("j" : PySem.Str)], [("layers" : PySem.Str), ("many" : PySem.Str), ("i" : PySem.Str), ("j" : PySem.Str)]), ([("layers" : PySem.Str), ("pairs" : PySem.Str)], [("layers" : PySem.Str), ("pairs" : PySem.Str)]), ([("layers" : PySem.Str), ("value" : PySem.Str)], [("layers" : PySem.Str), ("value" : PySem.Str)]), ([("layers" : PySem.Str), ("years" : PySem.Str), ("early" : PySem.Str), ("late" : PySem.Str), ("k" : PySem.Str)], [("layers" : PySem.Str), ("years" : PySem.Str), ("early" : PySem.Str), ("late" : PySem.Str), ("k" : PySem.Str)]), ([("years" : PySem.Str), ("i" : PySem.Str), ("j" : PySem.Str), ("early" : PySem.Str), ("late" : PySem.Str)], [("years" : PySem.Str), ("i" : PySem.Str), ("j" : PySem.Str), ("early" : PySem.Str), ("late" : PySem.Str)]), ([("layers" : PySem.Str), ("i" : PySem.Str), ("j" : PySem.Str), ("years" : PySem.Str)], [("layers" : PySem.Str), ("i" : PySem.Str), ("j" : PySem.Str), ("years" : PySem.Str)]), ([("layers" : PySem.Str), ("years" : PySem.Str), ("k" : PySem.Str)], [("layers" : PySem.Str), ("years" : PySem.Str), ("k" : PySem.Str)]), ([("layers" : PySem.Str), ("value" : PySem.Str), ("thickness" : PySem.Str)], [("layers" : PySem.Str), ("value" : PySem.Str), ("thickness" : PySem.Str)]), ([("layers" : PySem.Str), ("thicknesses" : PySem.Str), ("years" : PySem.Str), ("thickness" : PySem.Str), ("least" : PySem.Str), ("most" : PySem.Str)], [("layers" : PySem.Str), ("thicknesses" : PySem.Str), ("years" : PySem.Str), ("thickness" : PySem.Str), ("least" : PySem.Str), ("most" : PySem.Str)]), ([("layers" : PySem.Str), ("year" : PySem.Str), ("years" : PySem.Str), ("early" : PySem.Str), ("late" : PySem.Str), ("k" : PySem.Str)], [("layers" : PySem.Str), ("year" : PySem.Str), ("years" : PySem.Str), ("early" : PySem.Str), ("late" : PySem.Str), ("k" : PySem.Str)]), ([("layers" : PySem.Str), ("years" : PySem.Str), ("table" : PySem.Str), ("youngest" : PySem.Str), ("oldest" : PySem.Str), ("behind" : PySem.Str), ("row" : PySem.Str), ("year" : PySem.Str), ("reached" : PySem.Str), ("pair" : PySem.Str)], [("layers" : PySem.Str), ("years" : PySem.Str), ("youngest" : PySem.Str), ("oldest" : PySem.Str), ("behind" : PySem.Str), ("year" : PySem.Str), ("reached" : PySem.Str), ("pair" : PySem.Str)]), ([("layers" : PySem.Str), ("table" : PySem.Str), ("year" : PySem.Str), ("told" : PySem.Str), ("k" : PySem.Str)], [("layers" : PySem.Str), ("table" : PySem.Str), ("year" : PySem.Str), ("k" : PySem.Str)]), ([("layers" : PySem.Str)], [("layers" : PySem.Str)]), ([("layers" : PySem.Str), ("many" : PySem.Str), ("value" : PySem.Str), ("known" : PySem.Str), ("used" : PySem.Str), ("pair" : PySem.Str), ("i" : PySem.Str), ("j" : PySem.Str)], [("layers" : PySem.Str), ("many" : PySem.Str), ("value" : PySem.Str), ("known" : PySem.Str), ("pair" : PySem.Str), ("i" : PySem.Str), ("j" : PySem.Str)]), ([("one" : PySem.Str), ("other" : PySem.Str), ("kin" : PySem.Str), ("k" : PySem.Str)], [("one" : PySem.Str), ("other" : PySem.Str), ("kin" : PySem.Str), ("k" : PySem.Str)]), ([("script" : PySem.Str), ("place" : PySem.Str)], [("script" : PySem.Str), ("place" : PySem.Str)]), ([("script" : PySem.Str), ("place" : PySem.Str), ("size" : PySem.Str), ("cell" : PySem.Str), ("numbers" : PySem.Str), ("rest" : PySem.Str), ("k" : PySem.Str), ("twice" : PySem.Str)], [("script" : PySem.Str), ("place" : PySem.Str), ("size" : PySem.Str), ("cell" : PySem.Str), ("rest" : PySem.Str), ("k" : PySem.Str), ("twice" : PySem.Str)]), ([("one" : PySem.Str), ("other" : PySem.Str), ("k" : PySem.Str)], [("one" : PySem.Str), ("other" : PySem.Str), ("k" : PySem.Str)]), ([("layers" : PySem.Str), ("years" : PySem.Str), ("youngest" : PySem.Str), ("oldest" : PySem.Str)], [("layers" : PySem.Str), ("youngest" : PySem.Str), ("oldest" : PySem.Str)]), ([("layers" : PySem.Str), ("low" : PySem.Str), ("k" : PySem.Str)], [("layers" : PySem.Str), ("low" : PySem.Str), ("k" : PySem.Str)]), ([("layers" : PySem.Str), ("off" : PySem.Str), ("k" : PySem.Str)], [("layers" : PySem.Str), ("off" : PySem.Str), ("k" : PySem.Str)]), ([("script" : PySem.Str), ("layers" : PySem.Str), ("number" : PySem.Str), ("rows" : PySem.Str), ("denied" : PySem.Str), ("i" : PySem.Str), ("offs" : PySem.Str), ("k" : PySem.Str), ("fewest" : PySem.Str), ("low" : PySem.Str), ("high" : PySem.Str), ("year" : PySem.Str), ("total" : PySem.Str), ("thin" : PySem.Str), ("n" : PySem.Str), ("youngest" : PySem.Str), ("j" : PySem.Str), ("least" : PySem.Str), ("most" : PySem.Str), ("due" : PySem.Str), ("off" : PySem.Str)], [("script" : PySem.Str), ("number" : PySem.Str), ("rows" : PySem.Str), ("denied" : PySem.Str), ("i" : PySem.Str), ("offs" : PySem.Str), ("k" : PySem.Str), ("fewest" : PySem.Str), ("low" : PySem.Str), ("high" : PySem.Str), ("year" : PySem.Str), ("total" : PySem.Str), ("n" : PySem.Str), ("youngest" : PySem.Str), ("j" : PySem.Str), ("least" : PySem.Str), ("most" : PySem.Str), ("due" : PySem.Str), ("off" : PySem.Str)])]⟩
def fa : List He.Fa := ([.glo "need", .glo "is_integer", .glo "is_between", .glo "is_sequence", .glo "is_row", .glo "tupled", .glo "rank", .glo "distinct", .glo "ratio", .glo "is_age_pair", .glo "is_age_layers", .glo "years_of", .glo "earliest", .glo "latest", .glo "denial_pairs", .glo "denial", .glo "is_denial_pair", .glo "denies", .glo "breaks", .glo "span_of", .glo "span", .glo "narrowed", .glo "are_thicknesses", .glo "rate", .glo "at_year", .glo "off_table", .glo "places_off", .glo "least_off", .glo "no_fewer_holds", .glo "_law_same"] : List He.Fa) ++ ([.glo "_law_listed", .glo "_law_cell", .glo "_law_numbers", .glo "_law_gcd", .glo "_law_frac", .glo "_law_low", .glo "_law_high", .glo "_law_suits", .glo "_law_kept", .glo "law", .free "Exception", .free "abs", .free "all", .free "bool", .free "int", .free "isinstance", .free "len", .free "list", .free "max", .free "min", .free "range", .free "reversed", .free "sorted", .free "str", .free "sum", .free "tuple"] : List He.Fa)
def loose : List PySem.Str := (["WellError", "BadValue", "need", "is_integer", "is_between", "is_sequence", "is_row", "tupled", "rank", "distinct", "ratio", "MOST_LAYERS", "LAST_YEAR", "MOST_THICK", "is_age_pair", "is_age_layers", "years_of", "earliest", "latest", "denial_pairs", "denial", "is_denial_pair", "denies", "breaks", "span_of", "span", "narrowed", "are_thicknesses", "rate", "at_year"] : List PySem.Str) ++ (["off_table", "places_off", "least_off", "no_fewer_holds", "_law_same", "_law_listed", "_law_cell", "_law_numbers", "_law_gcd", "_law_frac", "_law_low", "_law_high", "_law_suits", "_law_kept"] : List PySem.Str)
abbrev R : PySem.W.OpenRow := PySem.W.OpenLaw.row PySem.Challenge.rw_wellstell_k06_years_of_layers_whole
def tb : List He.Tab := []
def ex (K : PySem.W.Frag) : Bool := csB K c0.cs && He.eqO (PySem.W.nsIn K mainGlobals "gcd") (some (some (.builtin "math.gcd")))
abbrev hk : PySem.W.Hook := He.hookX 4 fa (rows.map DRow.dd) tb [] ex
def ob (s : PySem.W.SharedT) : He.AlX := He.obsX 4 fa (rows.map DRow.dd) tb [] ex (HandSHeadRun.getT s)
theorem ob_eq (s : PySem.W.SharedT) : ob s = hk.obs s.abs := He.obsX_eq (HandSHeadRun.getT_eq s)
theorem run (w : World) : HandSHeadRun.RunEqI R (PySem.W.view R.prog [0, 50]) hk ob 4000 loose w := by
  unfold HandSHeadRun.RunEqI
  kernel_rfl
theorem ok0 : DRowOk c0 r0 := ⟨⟨rfl, rfl, rfl, by decide +kernel, rfl, by decide +kernel, by decide +kernel⟩, fun _ _ _ _ _ _ us hl => match us, hl with | [_, _], _ => rfl, by kernel_rfl⟩
theorem ok1 : DRowOk c0 r1 := ⟨⟨rfl, rfl, rfl, by decide +kernel, rfl, by decide +kernel, by decide +kernel⟩, fun _ _ _ _ _ _ us hl => match us, hl with | [_], _ => rfl, by kernel_rfl⟩
theorem ok2 : DRowOk c0 r2 := ⟨⟨rfl, rfl, rfl, by decide +kernel, rfl, by decide +kernel, by decide +kernel⟩, fun _ _ _ _ _ _ us hl => match us, hl with | [_, _, _], _ => rfl, by kernel_rfl⟩
theorem ok3 : DRowOk c0 r3 := ⟨⟨rfl, rfl, rfl, by decide +kernel, rfl, by decide +kernel, by decide +kernel⟩, fun _ _ _ _ _ _ us hl => match us, hl with | [_], _ => rfl, by kernel_rfl⟩
theorem ok4 : DRowOk c0 r4 := ⟨⟨rfl, rfl, rfl, by decide +kernel, rfl, by decide +kernel, by decide +kernel⟩, fun _ _ _ _ _ _ us hl => match us, hl with | [_, _, _], _ => rfl, by kernel_rfl⟩
theorem ok5 : DRowOk c0 r5 := ⟨⟨rfl, rfl, rfl, by decide +kernel, rfl, by decide +kernel, by decide +kernel⟩, fun _ _ _ _ _ _ us hl => match us, hl with | [_], _ => rfl, by kernel_rfl⟩
theorem ok6 : DRowOk c0 r6 := ⟨⟨rfl, rfl, rfl, by decide +kernel, rfl, by decide +kernel, by decide +kernel⟩, fun _ _ _ _ _ _ us hl => match us, hl with | [_], _ => rfl, by kernel_rfl⟩
theorem ok7 : DRowOk c0 r7 := ⟨⟨rfl, rfl, rfl, by decide +kernel, rfl, by decide +kernel, by decide +kernel⟩, fun _ _ _ _ _ _ us hl => match us, hl with | [_], _ => rfl, by kernel_rfl⟩
theorem ok8 : DRowOk c0 r8 := ⟨⟨rfl, rfl, rfl, by decide +kernel, rfl, by decide +kernel, by decide +kernel⟩, fun _ _ _ _ _ _ us hl => match us, hl with | [_, _], _ => rfl, by kernel_rfl⟩
theorem ok9 : DRowOk c0 r9 := ⟨⟨rfl, rfl, rfl, by decide +kernel, rfl, by decide +kernel, by decide +kernel⟩, fun _ _ _ _ _ _ us hl => match us, hl with | [_], _ => rfl, by kernel_rfl⟩
theorem ok10 : DRowOk c0 r10 := ⟨⟨rfl, rfl, rfl, by decide +kernel, rfl, by decide +kernel, by decide +kernel⟩, fun _ _ _ _ _ _ us hl => match us, hl with | [_], _ => rfl, by kernel_rfl⟩
theorem ok11 : DRowOk c0 r11 := ⟨⟨rfl, rfl, rfl, by decide +kernel, rfl, by decide +kernel, by decide +kernel⟩, fun _ _ _ _ _ _ us hl => match us, hl with | [_], _ => rfl, by kernel_rfl⟩
theorem ok12 : DRowOk c0 r12 := ⟨⟨rfl, rfl, rfl, by decide +kernel, rfl, by decide +kernel, by decide +kernel⟩, fun _ _ _ _ _ _ us hl => match us, hl with | [_], _ => rfl, by kernel_rfl⟩
theorem ok13 : DRowOk c0 r13 := ⟨⟨rfl, rfl, rfl, by decide +kernel, rfl, by decide +kernel, by decide +kernel⟩, fun _ _ _ _ _ _ us hl => match us, hl with | [_], _ => rfl, by kernel_rfl⟩
theorem ok14 : DRowOk c0 r14 := ⟨⟨rfl, rfl, rfl, by decide +kernel, rfl, by decide +kernel, by decide +kernel⟩, fun _ _ _ _ _ _ us hl => match us, hl with | [_], _ => rfl, by kernel_rfl⟩
theorem ok15 : DRowOk c0 r15 := ⟨⟨rfl, rfl, rfl, by decide +kernel, rfl, by decide +kernel, by decide +kernel⟩, fun _ _ _ _ _ _ us hl => match us, hl with | [_], _ => rfl, by kernel_rfl⟩
theorem ok16 : DRowOk c0 r16 := ⟨⟨rfl, rfl, rfl, by decide +kernel, rfl, by decide +kernel, by decide +kernel⟩, fun _ _ _ _ _ _ us hl => match us, hl with | [_, _], _ => rfl, by kernel_rfl⟩
theorem ok17 : DRowOk c0 r17 := ⟨⟨rfl, rfl, rfl, by decide +kernel, rfl, by decide +kernel, by decide +kernel⟩, fun _ _ _ _ _ _ us hl => match us, hl with | [_, _], _ => rfl, by kernel_rfl⟩
theorem ok18 : DRowOk c0 r18 := ⟨⟨rfl, rfl, rfl, by decide +kernel, rfl, by decide +kernel, by decide +kernel⟩, fun _ _ _ _ _ _ us hl => match us, hl with | [_], _ => rfl, by kernel_rfl⟩
theorem ok19 : DRowOk c0 r19 := ⟨⟨rfl, rfl, rfl, by decide +kernel, rfl, by decide +kernel, by decide +kernel⟩, fun _ _ _ _ _ _ us hl => match us, hl with | [_, _, _], _ => rfl, by kernel_rfl⟩
theorem ok20 : DRowOk c0 r20 := ⟨⟨rfl, rfl, rfl, by decide +kernel, rfl, by decide +kernel, by decide +kernel⟩, fun _ _ _ _ _ _ us hl => match us, hl with | [_, _, _], _ => rfl, by kernel_rfl⟩
theorem ok21 : DRowOk c0 r21 := ⟨⟨rfl, rfl, rfl, by decide +kernel, rfl, by decide +kernel, by decide +kernel⟩, fun _ _ _ _ _ _ us hl => match us, hl with | [_], _ => rfl, by kernel_rfl⟩
theorem ok22 : DRowOk c0 r22 := ⟨⟨rfl, rfl, rfl, by decide +kernel, rfl, by decide +kernel, by decide +kernel⟩, fun _ _ _ _ _ _ us hl => match us, hl with | [_, _], _ => rfl, by kernel_rfl⟩
theorem ok23 : DRowOk c0 r23 := ⟨⟨rfl, rfl, rfl, by decide +kernel, rfl, by decide +kernel, by decide +kernel⟩, fun _ _ _ _ _ _ us hl => match us, hl with | [_, _], _ => rfl, by kernel_rfl⟩
theorem ok24 : DRowOk c0 r24 := ⟨⟨rfl, rfl, rfl, by decide +kernel, rfl, by decide +kernel, by decide +kernel⟩, fun _ _ _ _ _ _ us hl => match us, hl with | [_, _], _ => rfl, by kernel_rfl⟩
theorem ok25 : DRowOk c0 r25 := ⟨⟨rfl, rfl, rfl, by decide +kernel, rfl, by decide +kernel, by decide +kernel⟩, fun _ _ _ _ _ _ us hl => match us, hl with | [_], _ => rfl, by kernel_rfl⟩
theorem ok26 : DRowOk c0 r26 := ⟨⟨rfl, rfl, rfl, by decide +kernel, rfl, by decide +kernel, by decide +kernel⟩, fun _ _ _ _ _ _ us hl => match us, hl with | [_], _ => rfl, by kernel_rfl⟩
theorem ok27 : DRowOk c0 r27 := ⟨⟨rfl, rfl, rfl, by decide +kernel, rfl, by decide +kernel, by decide +kernel⟩, fun _ _ _ _ _ _ us hl => match us, hl with | [_], _ => rfl, by kernel_rfl⟩
theorem ok28 : DRowOk c0 r28 := ⟨⟨rfl, rfl, rfl, by decide +kernel, rfl, by decide +kernel, by decide +kernel⟩, fun _ _ _ _ _ _ us hl => match us, hl with | [_, _, _], _ => rfl, by kernel_rfl⟩
theorem ok29 : DRowOk c0 r29 := ⟨⟨rfl, rfl, rfl, by decide +kernel, rfl, by decide +kernel, by decide +kernel⟩, fun _ _ _ _ _ _ us hl => match us, hl with | [_, _], _ => rfl, by kernel_rfl⟩
theorem ok30 : DRowOk c0 r30 := ⟨⟨rfl, rfl, rfl, by decide +kernel, rfl, by decide +kernel, by decide +kernel⟩, fun _ _ _ _ _ _ us hl => match us, hl with | [_], _ => rfl, by kernel_rfl⟩
theorem ok31 : DRowOk c0 r31 := ⟨⟨rfl, rfl, rfl, by decide +kernel, rfl, by decide +kernel, by decide +kernel⟩, fun _ _ _ _ _ _ us hl => match us, hl with | [_, _], _ => rfl, by kernel_rfl⟩
theorem ok32 : DRowOk c0 r32 := ⟨⟨rfl, rfl, rfl, by decide +kernel, rfl, by decide +kernel, by decide +kernel⟩, fun _ _ _ _ _ _ us hl => match us, hl with | [_, _, _], _ => rfl, by kernel_rfl⟩
theorem ok33 : DRowOk c0 r33 := ⟨⟨rfl, rfl, rfl, by decide +kernel, rfl, by decide +kernel, by decide +kernel⟩, fun _ _ _ _ _ _ us hl => match us, hl with | [_, _], _ => rfl, by kernel_rfl⟩
theorem ok34 : DRowOk c0 r34 := ⟨⟨rfl, rfl, rfl, by decide +kernel, rfl, by decide +kernel, by decide +kernel⟩, fun _ _ _ _ _ _ us hl => match us, hl with | [_, _], _ => rfl, by kernel_rfl⟩
theorem ok35 : DRowOk c0 r35 := ⟨⟨rfl, rfl, rfl, by decide +kernel, rfl, by decide +kernel, by decide +kernel⟩, fun _ _ _ _ _ _ us hl => match us, hl with | [_], _ => rfl, by kernel_rfl⟩
theorem ok36 : DRowOk c0 r36 := ⟨⟨rfl, rfl, rfl, by decide +kernel, rfl, by decide +kernel, by decide +kernel⟩, fun _ _ _ _ _ _ us hl => match us, hl with | [_], _ => rfl, by kernel_rfl⟩
theorem ok37 : DRowOk c0 r37 := ⟨⟨rfl, rfl, rfl, by decide +kernel, rfl, by decide +kernel, by decide +kernel⟩, fun _ _ _ _ _ _ us hl => match us, hl with | [_], _ => rfl, by kernel_rfl⟩
theorem ok38 : DRowOk c0 r38 := ⟨⟨rfl, rfl, rfl, by decide +kernel, rfl, by decide +kernel, by decide +kernel⟩, fun _ _ _ _ _ _ us hl => match us, hl with | [_, _], _ => rfl, by kernel_rfl⟩
theorem ok39 : DRowOk c0 r39 := ⟨⟨rfl, rfl, rfl, by decide +kernel, rfl, by decide +kernel, by decide +kernel⟩, fun _ _ _ _ _ _ us hl => match us, hl with | [_], _ => rfl, by kernel_rfl⟩
theorem rows_ok : ∀ r ∈ rows, DRowOk c0 r := by
  unfold rows
  simp only [List.forall_mem_cons]
  exact ⟨ok0, ok1, ok2, ok3, ok4, ok5, ok6, ok7, ok8, ok9, ok10, ok11, ok12, ok13, ok14, ok15, ok16, ok17, ok18, ok19, ok20, ok21, ok22, ok23, ok24, ok25, ok26, ok27, ok28, ok29, ok30, ok31, ok32, ok33, ok34, ok35, ok36, ok37, ok38, ok39, fun r h => by cases h⟩
theorem fs_eq : Ws.K06.fs = rows.map DRow.fn := rfl
theorem glo_in : ∀ r ∈ rows, He.Fa.glo r.x ∈ fa := by
  unfold rows
  simp only [List.forall_mem_cons]
  exact ⟨List.mem_of_getElem? (i := 0) rfl, List.mem_of_getElem? (i := 1) rfl, List.mem_of_getElem? (i := 2) rfl, List.mem_of_getElem? (i := 3) rfl, List.mem_of_getElem? (i := 4) rfl, List.mem_of_getElem? (i := 5) rfl, List.mem_of_getElem? (i := 6) rfl, List.mem_of_getElem? (i := 7) rfl, List.mem_of_getElem? (i := 8) rfl, List.mem_of_getElem? (i := 9) rfl, List.mem_of_getElem? (i := 10) rfl, List.mem_of_getElem? (i := 11) rfl, List.mem_of_getElem? (i := 12) rfl, List.mem_of_getElem? (i := 13) rfl, List.mem_of_getElem? (i := 14) rfl, List.mem_of_getElem? (i := 15) rfl, List.mem_of_getElem? (i := 16) rfl, List.mem_of_getElem? (i := 17) rfl, List.mem_of_getElem? (i := 18) rfl, List.mem_of_getElem? (i := 19) rfl, List.mem_of_getElem? (i := 20) rfl, List.mem_of_getElem? (i := 21) rfl, List.mem_of_getElem? (i := 22) rfl, List.mem_of_getElem? (i := 23) rfl, List.mem_of_getElem? (i := 24) rfl, List.mem_of_getElem? (i := 25) rfl, List.mem_of_getElem? (i := 26) rfl, List.mem_of_getElem? (i := 27) rfl, List.mem_of_getElem? (i := 28) rfl, List.mem_of_getElem? (i := 29) rfl, List.mem_of_getElem? (i := 30) rfl, List.mem_of_getElem? (i := 31) rfl, List.mem_of_getElem? (i := 32) rfl, List.mem_of_getElem? (i := 33) rfl, List.mem_of_getElem? (i := 34) rfl, List.mem_of_getElem? (i := 35) rfl, List.mem_of_getElem? (i := 36) rfl, List.mem_of_getElem? (i := 37) rfl, List.mem_of_getElem? (i := 38) rfl, List.mem_of_getElem? (i := 39) rfl, fun r h => by cases h⟩
end Hd
open PySem PySem.W PySem.Calls PyProof.Rows Ws

theorem PySem.Challenge.cw_wellstell_k06_years_of_layers_whole_holds : PySem.Challenge.rw_wellstell_k06_years_of_layers_whole.Holds := by
  w_on; o_law
  refine HandSHeadRun.head_imp (r := OpenLaw.row PySem.Challenge.rw_wellstell_k06_years_of_layers_whole) (q := view (OpenLaw.row PySem.Challenge.rw_wellstell_k06_years_of_layers_whole).prog [0, 50]) (H := Hd.hk) (ob := Hd.ob) (M := 4000) (loose := Hd.loose) (d := HandSHeadRun.topDef (OpenLaw.row PySem.Challenge.rw_wellstell_k06_years_of_layers_whole).prog 50) (kwd := []) Hd.ob_eq
    Hd.run (by kernel_rfl) (by kernel_rfl) (by kernel_rfl) (by rfl) (by first | assumption | decide +kernel) (by decide +kernel) ⟨rfl, rfl, rfl, rfl, rfl, by decide +kernel⟩ ?hw ?hc
  case hw => w_witness2
  case hc =>
    refine L2.walk_ofE (l := PySem.Challenge.rw_wellstell_k06_years_of_layers_whole) (n := 63) (k := 3 * (48 + 1)) (x := "script") (CX := CXa (PySem.Challenge.rw_wellstell_k06_years_of_layers_whole).prog) rfl (by decide) (by kernel_rfl) ⟨rfl, by decide, by decide⟩ ?F cxa_end
    intro w mg fa h Y G hmg0
    obtain ⟨K, KX, c⟩ := Y
    have hmg : mg ("law" : PySem.Str) = some (.ref fa) := by
      have e : (HandSHeadRun.topDef (OpenLaw.row PySem.Challenge.rw_wellstell_k06_years_of_layers_whole).prog 50).name = ("law" : PySem.Str) := by kernel_rfl
      rw [← e]
      exact hmg0
    have more := c.more
    unfold Hd.ex at more
    obtain ⟨m0, mg0⟩ := He.ba more
    obtain ⟨fd, sp, e1, e2, e3, e4⟩ := law_of (P := (PySem.Challenge.rw_wellstell_k06_years_of_layers_whole).prog) (w := w) (k := 48) (i := 39) (r := Hd.r39) (p := "script") KX G c.t.d rfl Hd.rows_ok Hd.glo_in
      (fun x hx => by
        have : (Hd.c0.bl.all fun x => Hd.fa.any fun f => match f with | .free y => decide (y = x) | _ => false) = true := by decide +kernel
        obtain ⟨f, hf, e⟩ := List.any_eq_true.mp (List.all_eq_true.mp this x hx)
        cases f <;> first | cases e | (have e := of_decide_eq_true e; subst e; exact hf))
      m0 (fun _ => PySem.W.mg_of KX G (He.eqO_ok mg0)) (fun T kvs e => by cases e) Hd.fs_eq rfl rfl (fun ns _ => Ws.K06.law_ok _ ns)
    have e1 : mg ("law" : PySem.Str) = some (.ref (He.ga K "law")) := e1
    rw [hmg] at e1
    injection e1 with e1
    injection e1 with e1
    subst e1
    exact ⟨K, fd, sp, KX, e2, e3, e4⟩

