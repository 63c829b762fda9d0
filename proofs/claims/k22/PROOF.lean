import PyProof.Rows.All
import Wide.All
import OpenK.AllK
import Wide.FinOn
import PyProof.EqAt
import PyProof.EqKinds
import PyProof.TupleCall
import KE.KStateDown
import HandS.ForMost
import HandS.Flow
import HandS.Style
import HandS.IsInst
import HandS.Deep
import HandS.TupAny
import HandS.Exc
import HandS.TryOnly
import HandS.ExcOwn
import HandS.WordsExc
import HandS.ExcInit
import HandS.ExcField
import HandS.Defaults
import HandS.Rev
import HandS.More
import HandS.Walk
import HandS.Gcd
import HandS.SortRule
import HandS.SortKw
import KE.LtData
import KE.DataCmp
import KE.DataMinMax
import KE.SortData
import KE.SortKeyHeap
import KE.DataIsa
import HandS.TupSets
import HandS.HeadEnd
import HandS.HeadHook1
import HandS.HeadHook2
import HandS.HeadHook3
import HandS.HeadHook4
import HandS.Head0
import HandS.Head1
import HandS.Head2
import HandS.Head3
import Wide.Once
import PySem.Challenge.RW_wellstell_k22_curves_cut_and_smoothed
set_option Elab.async false
set_option linter.all false
set_option maxRecDepth 100000
set_option maxHeartbeats 4000000
/-! Sim1: the data that a value stands for -/
namespace Ws
open PySem PySem.Spec PyProof.Rows L2

abbrev D := PyData
/-- who may change an object: a slot of the running def -/
abbrev Ow := Addr → Option Nat
/-- a list that is not to be changed -/
def SL (K : PySem.W.Frag) (O : Ow) (H : Hp) (a : Addr) (xs : List V) : Prop := (Rd H a (.lst xs) ∧ O a = none) ∨
  ∃ (o : Obj) (its : Array Value) (n : Nat), K.lookup a = some o ∧ o.cls = .type "list" ∧ o.dict = none ∧ o.data = .seq its n ∧ its.size ≤ sizeLine ∧ Vals xs its.toList
theorem SL.seq {K : PySem.W.Frag} {O : Ow} {H : Hp} {a : Addr} {xs : List V} (h : SL K O H a xs) : SqL K H a xs := h.imp (fun h => h.1) fun h => h
theorem SL.of {K : PySem.W.Frag} {O : Ow} {H : Hp} {a : Addr} {xs : List V} (h : SqL K H a xs) (q : O a = none) : SL K O H a xs := h.imp (fun h => ⟨h, q⟩) fun h => h

def keyD : Key → D
  | .inl i => .int i
  | .inr x => .str x

mutual
/-- the value v stands for the data d; what is reached through it is owned by nobody -/
inductive Rp (K : PySem.W.Frag) (O : Ow) (H : Hp) : V → D → Prop
  | non : Rp K O H .non .none
  | bl (b : Bool) : Rp K O H (.bl b) (.bool b)
  | int (i : Int) : Rp K O H (.int i) (.int i)
  | str (x : Str) : PyData.strOk x = true → x.length ≤ sizeLine → Rp K O H (.str x) (.str x)
  | lst {a : Addr} {xs : List V} {ds : List D} : SL K O H a xs → xs.length ≤ sizeLine → Rps K O H xs ds → Rp K O H (.ref a) (.list ds)
  | tup {a : Addr} {xs : List V} {ds : List D} : SqT K H a xs → xs.length ≤ sizeLine → Rps K O H xs ds → Rp K O H (.ref a) (.tuple ds)
  | dk {a : Addr} {kvs : List (Key × V)} {ds : List (D × D)} : H a = some (.dK kvs) → O a = none → RpK K O H kvs ds → Rp K O H (.ref a) (.dict ds)
inductive Rps (K : PySem.W.Frag) (O : Ow) (H : Hp) : List V → List D → Prop
  | nil : Rps K O H [] []
  | cons {v : V} {vs : List V} {d : D} {ds : List D} : Rp K O H v d → Rps K O H vs ds → Rps K O H (v :: vs) (d :: ds)
inductive RpK (K : PySem.W.Frag) (O : Ow) (H : Hp) : List (Key × V) → List (D × D) → Prop
  | nil : RpK K O H [] []
  | cons {k : Key} {v : V} {vs : List (Key × V)} {d : D} {ds : List (D × D)} : Rp K O H v d → RpK K O H vs ds → RpK K O H ((k, v) :: vs) ((keyD k, d) :: ds)
end

/-- nothing that is tracked and owned by nobody is lost -/
structure Fz (O : Ow) (H : Hp) (O' : Ow) (H' : Hp) : Prop where
  keep : ∀ a o, H a = some o → O a = none → H' a = some o ∧ O' a = none
  tup : ∀ a xs, H a = some (.tup xs) → H' a = some (.tup xs)
  ftup : ∀ a o xs, H a = some (.frz o (.tup xs)) → H' a = some (.frz o (.tup xs))
theorem Fz.refl (O : Ow) (H : Hp) : Fz O H O H := ⟨fun _ _ h o => ⟨h, o⟩, fun _ _ h => h, fun _ _ _ h => h⟩
theorem Fz.trans {O O1 O2 : Ow} {H H1 H2 : Hp} (a : Fz O H O1 H1) (b : Fz O1 H1 O2 H2) : Fz O H O2 H2 :=
  ⟨fun c o h q => let ⟨h1, q1⟩ := a.keep c o h q; b.keep c o h1 q1, fun c xs h => b.tup c xs (a.tup c xs h), fun c o xs h => b.ftup c o xs (a.ftup c o xs h)⟩
theorem Fz.same {O : Ow} {H H' : Hp} (h : Same H H') : Fz O H O H' := ⟨fun a o e q => ⟨h a o e, q⟩, fun a xs e => h a _ e, fun a o xs e => h a _ e⟩
theorem Fz.rd {O O' : Ow} {H H' : Hp} (f : Fz O H O' H') {a : Addr} {u : HO} (h : Rd H a u) (q : O a = none) : Rd H' a u ∧ O' a = none := by
  rcases h with h | ⟨o, h⟩
  · obtain ⟨h1, q1⟩ := f.keep a u h q
    exact ⟨.inl h1, q1⟩
  · obtain ⟨h1, q1⟩ := f.keep a _ h q
    exact ⟨.inr ⟨o, h1⟩, q1⟩
theorem Fz.sl {K : PySem.W.Frag} {O O' : Ow} {H H' : Hp} (f : Fz O H O' H') {a : Addr} {xs : List V} (h : SL K O H a xs) : SL K O' H' a xs := by
  exact h.imp (fun h => f.rd h.1 h.2) fun h => h
theorem Fz.st {K : PySem.W.Frag} {O O' : Ow} {H H' : Hp} (f : Fz O H O' H') {a : Addr} {xs : List V} (h : SqT K H a xs) : SqT K H' a xs := by
  rcases h with (h | ⟨o, h⟩) | h
  · exact .inl (.inl (f.tup a xs h))
  · exact .inl (.inr ⟨o, f.ftup a o xs h⟩)
  · exact .inr h

section
variable {K : PySem.W.Frag} {O O' : Ow} {H H' : Hp}
mutual
theorem Rp.mv (f : Fz O H O' H') : ∀ {v : V} {d : D}, Rp K O H v d → Rp K O' H' v d
  | _, _, .non => .non
  | _, _, .bl b => .bl b
  | _, _, .int i => .int i
  | _, _, .str x h1 h2 => .str x h1 h2
  | _, _, .lst h z r => .lst (f.sl h) z (Rps.mv f r)
  | _, _, .tup h z r => .tup (f.st h) z (Rps.mv f r)
  | _, _, .dk h q r => .dk (f.keep _ _ h q).1 (f.keep _ _ h q).2 (RpK.mv f r)
theorem Rps.mv (f : Fz O H O' H') : ∀ {vs : List V} {ds : List D}, Rps K O H vs ds → Rps K O' H' vs ds
  | _, _, .nil => .nil
  | _, _, .cons h r => .cons (Rp.mv f h) (Rps.mv f r)
theorem RpK.mv (f : Fz O H O' H') : ∀ {vs : List (Key × V)} {ds : List (D × D)}, RpK K O H vs ds → RpK K O' H' vs ds
  | _, _, .nil => .nil
  | _, _, .cons h r => .cons (Rp.mv f h) (RpK.mv f r)
end
theorem Rp.same {v : V} {d : D} (h : Rp K O H v d) (s : Same H H') : Rp K O H' v d := h.mv (.same s)
theorem Rps.same {v : List V} {d : List D} (h : Rps K O H v d) (s : Same H H') : Rps K O H' v d := h.mv (.same s)
theorem RpK.same {v : List (Key × V)} {d : List (D × D)} (h : RpK K O H v d) (s : Same H H') : RpK K O H' v d := h.mv (.same s)

theorem Rps.length : ∀ {vs : List V} {ds : List D}, Rps K O H vs ds → vs.length = ds.length
  | _, _, .nil => rfl
  | _, _, .cons _ r => by simp [Rps.length r]
theorem Rps.get : ∀ {vs : List V} {ds : List D} {i : Nat} {d : D}, Rps K O H vs ds → ds[i]? = some d → ∃ v, vs[i]? = some v ∧ Rp K O H v d
  | _, _, _, _, .nil, e => by simp at e
  | _, _, 0, _, .cons r _, e => by simp at e; subst e; exact ⟨_, rfl, r⟩
  | _, _, i + 1, d, .cons _ t, e => by
    obtain ⟨u, h1, h2⟩ := Rps.get (i := i) (d := d) t (by simpa using e)
    exact ⟨u, by simpa using h1, h2⟩
theorem Rps.getV : ∀ {vs : List V} {ds : List D} {i : Nat} {v : V}, Rps K O H vs ds → vs[i]? = some v → ∃ d, ds[i]? = some d ∧ Rp K O H v d
  | _, _, _, _, .nil, e => by simp at e
  | _, _, 0, _, .cons r _, e => by simp at e; subst e; exact ⟨_, rfl, r⟩
  | _, _, i + 1, v, .cons _ t, e => by
    obtain ⟨u, h1, h2⟩ := Rps.getV (i := i) (v := v) t (by simpa using e)
    exact ⟨u, by simpa using h1, h2⟩
theorem Rps.app : ∀ {xs ys : List V} {ds es : List D}, Rps K O H xs ds → Rps K O H ys es → Rps K O H (xs ++ ys) (ds ++ es)
  | _, _, _, _, .nil, s => s
  | _, _, _, _, .cons r t, s => .cons r (Rps.app t s)
theorem Rps.take : ∀ {xs : List V} {ds : List D} (n : Nat), Rps K O H xs ds → Rps K O H (xs.take n) (ds.take n)
  | _, _, 0, _ => .nil
  | _, _, _ + 1, .nil => .nil
  | _, _, n + 1, .cons r t => .cons r (Rps.take n t)
theorem Rps.drop : ∀ {xs : List V} {ds : List D} (n : Nat), Rps K O H xs ds → Rps K O H (xs.drop n) (ds.drop n)
  | _, _, 0, r => r
  | _, _, _ + 1, .nil => .nil
  | _, _, n + 1, .cons _ t => Rps.drop n t
theorem Rps.set {v : V} {d : D} (q : Rp K O H v d) : ∀ {xs : List V} {ds : List D} (i : Nat), Rps K O H xs ds → Rps K O H (xs.set i v) (ds.set i d)
  | _, _, _, .nil => .nil
  | _, _, 0, .cons _ t => .cons q t
  | _, _, i + 1, .cons r t => .cons r (Rps.set q i t)
theorem Rps.rev {xs : List V} {ds : List D} (r : Rps K O H xs ds) : Rps K O H xs.reverse ds.reverse := by
  induction r using Rps.rec (motive_1 := fun _ _ _ => True) (motive_3 := fun _ _ _ => True) with
  | nil => exact .nil
  | cons h t _ ih => rw [List.reverse_cons, List.reverse_cons]; exact ih.app (.cons h .nil)
  | _ => trivial
theorem Rps.one {v : V} {d : D} (h : Rp K O H v d) : Rps K O H [v] [d] := .cons h .nil

mutual
theorem Rp.dp : ∀ {v : V} {d : D}, Rp K O H v d → d.canLay0 = true → Dp K H v d
  | _, _, .non, _ => .non
  | _, _, .bl b, _ => .bl b
  | _, _, .int i, _ => .int i
  | _, _, .str x _ _, _ => .str x
  | _, _, .lst h z r, c => .lst h.seq (Rps.dp r (by simpa [PyData.canLay0] using c))
  | _, _, .tup h z r, c => .tup h (Rps.dp r (by simpa [PyData.canLay0] using c))
  | _, _, .dk .., c => by simp [PyData.canLay0] at c
theorem Rps.dp : ∀ {vs : List V} {ds : List D}, Rps K O H vs ds → PyData.canLayAll0 ds = true → DpAll K H vs ds
  | _, _, .nil, _ => .nil
  | _, _, .cons h r, c => by
    have c' := c
    simp only [PyData.canLayAll0, Bool.and_eq_true] at c'
    exact .cons (Rp.dp h c'.1) (Rps.dp r c'.2)
end
end

/-- as deep as n, without dicts -/
def lim : Nat → D → Bool
  | _, .none => true
  | _, .bool _ => true
  | _, .int _ => true
  | _, .str _ => true
  | 0, _ => false
  | n + 1, .list xs => xs.all (lim n)
  | n + 1, .tuple xs => xs.all (lim n)
  | _ + 1, .dict _ => false

theorem lim_depthAll {n : Nat} (ih : ∀ d, lim n d = true → d.depth ≤ n) : ∀ ds : List D, ds.all (lim n) = true → PyData.depthAll ds ≤ n
  | [], _ => by simp [PyData.depthAll]
  | d :: ds, h => by
    simp only [List.all_cons, Bool.and_eq_true] at h
    have h1 := ih d h.1
    have h2 := lim_depthAll ih ds h.2
    simp only [PyData.depthAll]; omega
theorem lim_depth : ∀ (n : Nat) (d : D), lim n d = true → d.depth ≤ n
  | n, .none, _ => by simp [PyData.depth]
  | n, .bool _, _ => by simp [PyData.depth]
  | n, .int _, _ => by simp [PyData.depth]
  | n, .str _, _ => by simp [PyData.depth]
  | 0, .list _, h => by simp [lim] at h
  | 0, .tuple _, h => by simp [lim] at h
  | 0, .dict _, h => by simp [lim] at h
  | n + 1, .dict _, h => by simp [lim] at h
  | n + 1, .list xs, h => by
    have := lim_depthAll (lim_depth n) xs (by simpa [lim] using h)
    simp only [PyData.depth]; omega
  | n + 1, .tuple xs, h => by
    have := lim_depthAll (lim_depth n) xs (by simpa [lim] using h)
    simp only [PyData.depth]; omega

section
variable {K : PySem.W.Frag} {O : Ow} {H : Hp}
theorem lim_lays {n : Nat} (ih : ∀ (d : D) (v : V), Rp K O H v d → lim n d = true → d.canLay0 = true) : ∀ (ds : List D) (vs : List V), Rps K O H vs ds → ds.all (lim n) = true → PyData.canLayAll0 ds = true
  | [], _, _, _ => by simp [PyData.canLayAll0]
  | d :: ds, _, .cons r t, h => by
    simp only [List.all_cons, Bool.and_eq_true] at h
    simp [PyData.canLayAll0, ih d _ r h.1, lim_lays ih ds _ t h.2]
theorem lim_lay : ∀ (n : Nat) (d : D) (v : V), Rp K O H v d → lim n d = true → d.canLay0 = true
  | n, .none, _, _, _ => by simp [PyData.canLay0]
  | n, .bool _, _, _, _ => by simp [PyData.canLay0]
  | n, .int _, _, _, _ => by simp [PyData.canLay0]
  | n, .str x, _, .str _ h _, _ => by simpa [PyData.canLay0] using h
  | 0, .list _, _, _, h => by simp [lim] at h
  | 0, .tuple _, _, _, h => by simp [lim] at h
  | 0, .dict _, _, _, h => by simp [lim] at h
  | n + 1, .dict _, _, _, h => by simp [lim] at h
  | n + 1, .list xs, _, .lst _ _ r, h => by
    simp only [PyData.canLay0]
    exact lim_lays (lim_lay n) xs _ r (by simpa [lim] using h)
  | n + 1, .tuple xs, _, .tup _ _ r, h => by
    simp only [PyData.canLay0]
    exact lim_lays (lim_lay n) xs _ r (by simpa [lim] using h)
theorem lim_shaped {n : Nat} {d : D} {v : V} (r : Rp K O H v d) (h : lim n d = true) (hn : n ≤ 64) : SeqAt.shaped d = true := by
  unfold SeqAt.shaped
  rw [lim_lay n d v r h]
  have := lim_depth n d h
  simp; omega
end

/-- the root may be anybody's, what lies within is nobody's -/
def RpW (K : PySem.W.Frag) (O : Ow) (H : Hp) (v : V) (d : D) : Prop := match d with
  | .list ds => ∃ a xs, v = .ref a ∧ SqL K H a xs ∧ xs.length ≤ sizeLine ∧ Rps K O H xs ds
  | .dict ds => ∃ a kvs, v = .ref a ∧ H a = some (.dK kvs) ∧ RpK K O H kvs ds
  | d => Rp K O H v d
section
variable {K : PySem.W.Frag} {O : Ow} {H H' : Hp}
theorem Rp.weak {v : V} {d : D} (h : Rp K O H v d) : RpW K O H v d := by
  cases h with
  | lst h z r => exact ⟨_, _, rfl, h.seq, z, r⟩
  | dk h q r => exact ⟨_, _, rfl, h, r⟩
  | non => exact .non
  | bl b => exact .bl b
  | int i => exact .int i
  | str x h z => exact .str x h z
  | tup h z r => exact .tup h z r
theorem Same.rd (s : Same H H') {a : Addr} {u : HO} (h : Rd H a u) : Rd H' a u := by
  rcases h with h | ⟨o, h⟩
  · exact .inl (s _ _ h)
  · exact .inr ⟨o, s _ _ h⟩
theorem Same.sql (s : Same H H') {a : Addr} {xs : List V} (h : SqL K H a xs) : SqL K H' a xs := h.imp (fun h => Same.rd s h) fun h => h
theorem RpW.same {v : V} {d : D} (h : RpW K O H v d) (s : Same H H') : RpW K O H' v d := by
  cases d with
  | list ds => obtain ⟨a, xs, e, q, z, r⟩ := h; exact ⟨a, xs, e, Same.sql s q, z, r.same s⟩
  | dict ds => obtain ⟨a, kvs, e, q, r⟩ := h; exact ⟨a, kvs, e, s _ _ q, r.same s⟩
  | none => exact Rp.same (show Rp K O H v _ from h) s
  | bool b => exact Rp.same (show Rp K O H v _ from h) s
  | int i => exact Rp.same (show Rp K O H v _ from h) s
  | str x => exact Rp.same (show Rp K O H v _ from h) s
  | tuple ds => exact Rp.same (show Rp K O H v _ from h) s
/-- weak: HandS' own reading -/
theorem RpW.dp {v : V} {d : D} (h : RpW K O H v d) (c : d.canLay0 = true) : Dp K H v d := by
  cases d with
  | list ds => obtain ⟨a, xs, e, q, z, r⟩ := h; subst e; exact .lst q (r.dp (by simpa [PyData.canLay0] using c))
  | dict ds => simp [PyData.canLay0] at c
  | none => exact Rp.dp (show Rp K O H v _ from h) c
  | bool b => exact Rp.dp (show Rp K O H v _ from h) c
  | int i => exact Rp.dp (show Rp K O H v _ from h) c
  | str x => exact Rp.dp (show Rp K O H v _ from h) c
  | tuple ds => exact Rp.dp (show Rp K O H v _ from h) c
theorem RpW.lay {n : Nat} {v : V} {d : D} (h : RpW K O H v d) (l : lim n d = true) : d.canLay0 = true := by
  cases d with
  | list ds =>
    obtain ⟨a, xs, e, q, z, r⟩ := h
    cases n with
    | zero => simp [lim] at l
    | succ n =>
      simp only [PyData.canLay0]
      exact lim_lays (lim_lay n) ds _ r (by simpa [lim] using l)
  | dict ds => cases n <;> simp [lim] at l
  | none => exact lim_lay n _ v (show Rp K O H v _ from h) l
  | bool b => exact lim_lay n _ v (show Rp K O H v _ from h) l
  | int i => exact lim_lay n _ v (show Rp K O H v _ from h) l
  | str x => exact lim_lay n _ v (show Rp K O H v _ from h) l
  | tuple ds => exact lim_lay n _ v (show Rp K O H v _ from h) l
theorem RpW.shaped {n : Nat} {v : V} {d : D} (h : RpW K O H v d) (l : lim n d = true) (hn : n ≤ 64) : SeqAt.shaped d = true := by
  unfold SeqAt.shaped
  rw [h.lay l]
  have := lim_depth n d l
  simp; omega
end
end Ws

set_option Elab.async false
set_option linter.all false
set_option maxRecDepth 100000
set_option maxHeartbeats 4000000
/-! Sim2: the pure language and what it does -/
namespace Ws
open PySem PySem.Spec PyProof.Rows L2

/-- an answer: a datum, a BadValue with its place, or nothing is said -/
inductive Rs (α : Type) where
  | ok (a : α) | ex (d : D) | st
def Rs.bnd {α β : Type} (x : Rs α) (f : α → Rs β) : Rs β := match x with
  | .ok a => f a
  | .ex d => .ex d
  | .st => .st
@[simp] theorem Rs.bnd_ok {α β : Type} (a : α) (f : α → Rs β) : (Rs.ok a).bnd f = f a := rfl
@[simp] theorem Rs.bnd_ex {α β : Type} (d : D) (f : α → Rs β) : (Rs.ex d : Rs α).bnd f = .ex d := rfl
@[simp] theorem Rs.bnd_st {α β : Type} (f : α → Rs β) : (Rs.st : Rs α).bnd f = .st := rfl
def Rs.of {α : Type} : Option α → Rs α
  | some a => .ok a
  | none => .st
@[simp] theorem Rs.of_some {α : Type} (a : α) : Rs.of (some a) = .ok a := rfl
@[simp] theorem Rs.of_none {α : Type} : Rs.of (none : Option α) = .st := rfl

/-- a slot: not set, a datum that may be known elsewhere, a list or dict that the def alone knows -/
inductive Sl where
  | u | f (d : D) | o (d : D)
abbrev Env := List Sl

inductive Op2 where
  | add | sub | mul | fdiv | mod | pow
  deriving DecidableEq
inductive Cp where
  | eq | ne | lt | le | gt | ge | is_ | isn | in_ | nin
  deriving DecidableEq
inductive Bi where
  | len | abs | max | min | maxd | mind | sum | any | all | sorted | tuple | list | int | gcd | str
  deriving DecidableEq
inductive Ty where
  | int | bool | str | list | tuple | dict
  deriving DecidableEq
inductive Pt where
  | nm (i : Nat) | tp (ps : List Pt)

mutual
inductive E where
  | lit (d : D)
  | var (i : Nat)
  | wv (i : Nat)
  | gl (d : D)
  | bin (o : Op2) (a b : E)
  | neg (a : E)
  | not_ (a : E)
  | and_ (a b : E)
  | or_ (a b : E)
  | ite (c a b : E)
  | cmp (o : Cp) (a b : E)
  | chain (o o' : Cp) (a b c : E)
  | tup (es : List E)
  | lst (es : List E)
  | dnew
  | idx (a b : E)
  | sli (a : E) (lo hi : Option E)
  | rev (a : E)
  | lc (vs : List Nat) (elt : E) (tg : Pt) (it : It) (cond : Option E)
  | lc2 (vs vs1 : List Nat) (elt : E) (tg : Pt) (it : It) (cond : Option E) (tg1 : Pt) (it1 : It) (cond1 : Option E)
  | dc (vs : List Nat) (k v : E) (tg : Pt) (it : It) (cond : Option E)
  | call (f : Nat) (es : List E)
  | bi (b : Bi) (es : List E)
  | isi (a : E) (ts : List Ty)
  | nomut (a : E)
  | inT (ks : List Str) (neg : Bool) (a : E)
  | atT (kvs : List (Str × D)) (a : E)
  | lset (a : E)
  | dd (ks : List Key) (es : List E)
inductive It where
  | seq (e : E)
  | rng1 (a : E)
  | rng2 (a b : E)
  | rng3 (a b c : E)
  | rev (e : E)
end

inductive S where
  | asg (t : Pt) (e : E) (fr : Bool) (lk : List Nat)
  | par (i j : Nat) (a b : E) (lk : List Nat)
  | aug (i : Nat) (o : Op2) (e : E) (lk : List Nat)
  | seti (i : Nat) (e1 e2 : E) (lk : List Nat)
  | app (i : Nat) (e : E) (lk : List Nat)
  | ret (e : E)
  | retn
  | drop (e : E) (lk : List Nat)
  | iff (c : E) (a b : List S)
  | for_ (t : Pt) (it : It) (body : List S) (lk : List Nat)
  | whil (c : E) (body : List S)
  | brk | cont | pass
  | raise (e : E)
  | try_ (body : List S) (i : Nat) (hb : List S)
  | stuck

/-- what a def is: how many parameters, its body, how many slots -/
structure Fn where
  np : Nat
  body : List S
  n : Nat

/-! ### data -/
def truth : D → Bool
  | .none => false
  | .bool b => b
  | .int i => i != 0
  | .str x => x.length != 0
  | .list xs => !xs.isEmpty
  | .tuple xs => !xs.isEmpty
  | .dict xs => !xs.isEmpty
abbrev LIM : Nat := 16777216
def mulOk (i j : Int) : Bool := (decide (-(2 ^ 64) < i) && decide (i < 2 ^ 64)) || (decide (-(2 ^ 64) < j) && decide (j < 2 ^ 64))
def binD : Op2 → D → D → Rs D
  | .add, .int i, .int j => .ok (.int (i + j))
  | .add, .str x, .str y => if x.length + y.length ≤ LIM then .ok (.str (x ++ y)) else .st
  | .add, .list xs, .list ys => if xs.length + ys.length ≤ LIM then .ok (.list (xs ++ ys)) else .st
  | .add, .tuple xs, .tuple ys => if xs.length + ys.length ≤ LIM then .ok (.tuple (xs ++ ys)) else .st
  | .sub, .int i, .int j => .ok (.int (i - j))
  | .mul, .int i, .int j => if mulOk i j then .ok (.int (i * j)) else .st
  | .fdiv, .int i, .int j => if 0 < j ∧ j < 1073741824 then .ok (.int (i / j)) else .st
  | .mod, .int i, .int j => if 0 < j then .ok (.int (i % j)) else .st
  | .pow, .int i, .int j => if 0 ≤ j ∧ j ≤ 1000000 ∧ i.natAbs < 2 ^ 64 then .ok (.int (i ^ j.toNat)) else .st
  | _, _, _ => .st
def negD : D → Rs D
  | .int i => .ok (.int (-i))
  | _ => .st

/-- == -/
def eqD (d e : D) : Rs D := if lim 40 d && lim 40 e then .ok (.bool (PyData.eqv d e)) else .st
def isNone : D → Bool
  | .none => true
  | _ => false
def keyOf : D → Option Key
  | .int i => some (.inl i)
  | .str x => some (.inr x)
  | _ => none
def getK (kvs : List (D × D)) (k : D) : Option D := (kvs.find? fun p => PyData.eqv p.1 k).map (·.2)
def hasChar (x y : Str) : Option Bool := match x.cps.toList with
  | [c] => some (decide (c ∈ y.cps.toList))
  | _ => none
def inD (d e : D) : Rs D := match e with
  | .list ds => if lim 40 d && lim 40 (.list ds) then .ok (.bool (ds.any fun z => PyData.eqv z d)) else .st
  | .tuple ds => if lim 40 d && lim 40 (.tuple ds) then .ok (.bool (ds.any fun z => PyData.eqv z d)) else .st
  | .dict kvs => match keyOf d with
    | some _ => .ok (.bool (getK kvs d).isSome)
    | none => .st
  | .str y => match d with
    | .str x => (Rs.of (hasChar x y)).bnd fun b => .ok (.bool b)
    | _ => .st
  | _ => .st
def notD (r : Rs D) : Rs D := r.bnd fun
  | .bool b => .ok (.bool (!b))
  | _ => .st
def isD (d e : D) : Rs D := match e with
  | .none => .ok (.bool (isNone d))
  | .bool b => match d with
    | .bool c => .ok (.bool (c == b))
    | _ => .ok (.bool false)
  | _ => .st
/-- they can be told apart -/
def cmpOk (d e : D) : Bool := PySem.W.alike d e && !isNone d && lim 40 d && lim 40 e
def ltB (d e : D) : Rs D := if cmpOk d e then .ok (.bool (PySem.W.dataLt d e)) else .st
def cmpD : Cp → D → D → Rs D
  | .eq, d, e => eqD d e
  | .ne, d, e => notD (eqD d e)
  | .lt, d, e => ltB d e
  | .gt, d, e => ltB e d
  | .le, d, e => notD (ltB e d)
  | .ge, d, e => notD (ltB d e)
  | .is_, d, e => isD d e
  | .isn, d, e => notD (isD d e)
  | .in_, d, e => inD d e
  | .nin, d, e => notD (inD d e)

/-- the place that an index of any sign means -/
def ixD {α : Type} (xs : List α) (i : Int) : Option α := if 0 ≤ i then xs[i.toNat]? else if -(xs.length : Int) ≤ i then xs[(i + xs.length).toNat]? else none
def idxD (d e : D) : Rs D := match d, e with
  | .list xs, .int i => Rs.of (ixD xs i)
  | .tuple xs, .int i => Rs.of (ixD xs i)
  | .str x, .int i => (Rs.of (ixD x.cps.toList i)).bnd fun c => .ok (.str ⟨#[c]⟩)
  | .dict kvs, k => match keyOf k with
    | some _ => Rs.of (getK kvs k)
    | none => .st
  | _, _ => .st
def cutD {α : Type} (xs : List α) (lo hi : Option Int) : List α := (xs.drop (HT.sIx xs.length 0 lo)).take (HT.sIx xs.length xs.length hi - HT.sIx xs.length 0 lo)
def sliD (d : D) (lo hi : Option Int) : Rs D := match d with
  | .list xs => .ok (.list (cutD xs lo hi))
  | .tuple xs => .ok (.tuple (cutD xs lo hi))
  | _ => .st
def revD : D → Rs D
  | .list xs => .ok (.list xs.reverse)
  | _ => .st
def intOf : D → Option Int
  | .int i => some i
  | _ => none
def bolOf : D → Option Bool
  | .bool b => some b
  | _ => none
def intsD (ds : List D) : Option (List Int) := ds.mapM intOf
def bolsD (ds : List D) : Option (List Bool) := ds.mapM bolOf
/-- all of them can be told apart -/
def allOk (xs : List D) : Bool := xs.all fun x => !isNone x && lim 40 x && xs.all fun y => PySem.W.alike x y
def isTup : D → Bool
  | .tuple [] => false
  | .tuple _ => true
  | _ => false
def isTupE : D → Bool
  | .tuple _ => true
  | _ => false
def sortOk (xs : List D) : Bool := allOk xs && (xs.all isTup || xs.all fun x => !isTupE x)
/-- stable insertion -/
def insD {α : Type} (le : α → α → Bool) (x : α) : List α → List α
  | [] => [x]
  | y :: ys => if le x y then x :: y :: ys else y :: insD le x ys
def sortD {α : Type} (le : α → α → Bool) (xs : List α) : List α := xs.foldr (insD le) []
def leT (d e : D) : Bool := !PySem.W.dataLt e d
def minL : List D → Option D
  | [] => none
  | x :: xs => some (PySem.W.minD x xs)
def maxL : List D → Option D
  | [] => none
  | x :: xs => some (PySem.W.maxD x xs)
def tyIs (t : Ty) (d : D) : Bool := match t, d with
  | .int, .int _ => true
  | .int, .bool _ => true
  | .bool, .bool _ => true
  | .str, .str _ => true
  | .list, .list _ => true
  | .tuple, .tuple _ => true
  | .dict, .dict _ => true
  | _, _ => false
mutual
def noMut : D → Bool
  | .list _ => false
  | .dict _ => false
  | .tuple xs => noMuts xs
  | _ => true
def noMuts : List D → Bool
  | [] => true
  | x :: xs => noMut x && noMuts xs
end
def biD : Bi → List D → Rs D
  | .len, [.list xs] => .ok (.int xs.length)
  | .len, [.tuple xs] => .ok (.int xs.length)
  | .len, [.str x] => .ok (.int x.length)
  | .len, [.dict x] => .ok (.int x.length)
  | .abs, [.int i] => .ok (.int (if i < 0 then -i else i))
  | .max, [.int i, .int j] => .ok (.int (if j > i then j else i))
  | .min, [.int i, .int j] => .ok (.int (if j < i then j else i))
  | .max, [.list xs] => if allOk xs then Rs.of (maxL xs) else .st
  | .min, [.list xs] => if allOk xs then Rs.of (minL xs) else .st
  | .max, [.tuple xs] => if allOk xs then Rs.of (maxL xs) else .st
  | .min, [.tuple xs] => if allOk xs then Rs.of (minL xs) else .st
  | .maxd, [.list xs, d] => if allOk xs then .ok ((maxL xs).getD d) else .st
  | .mind, [.list xs, d] => if allOk xs then .ok ((minL xs).getD d) else .st
  | .sum, [.list xs] => (Rs.of (intsD xs)).bnd fun ns => .ok (.int ns.sum)
  | .any, [.list xs] => (Rs.of (bolsD xs)).bnd fun bs => .ok (.bool (bs.any id))
  | .all, [.list xs] => (Rs.of (bolsD xs)).bnd fun bs => .ok (.bool (bs.all id))
  | .sorted, [.list xs] => if sortOk xs then .ok (.list (sortD leT xs)) else .st
  | .sorted, [.tuple xs] => if sortOk xs then .ok (.list (sortD leT xs)) else .st
  | .tuple, [.list xs] => .ok (.tuple xs)
  | .tuple, [.tuple xs] => .ok (.tuple xs)
  | .list, [.list xs] => .ok (.list xs)
  | .list, [.tuple xs] => .ok (.list xs)
  | .int, [.int i] => .ok (.int i)
  | .int, [.bool b] => .ok (.int (if b then 1 else 0))
  | .gcd, [.int a, .int b] => .ok (.int ((Nat.gcd a.natAbs b.natAbs : Nat) : Int))
  | _, _ => .st
/-- a name of a table of the module -/
def inTD (ks : List Str) (neg : Bool) : D → Rs D
  | .str x => .ok (.bool (if neg then !ks.any (fun k => decide (k = x)) else ks.any fun k => decide (k = x)))
  | _ => .st
def tabAt (kvs : List (Str × D)) (x : Str) : Option D := (kvs.find? fun p => decide (p.1 = x)).map (·.2)
def atTD (kvs : List (Str × D)) : D → Rs D
  | .str x => Rs.of (tabAt kvs x)
  | _ => .st
def tupI : D → Option (List Int)
  | .tuple ds => intsD ds
  | _ => none
/-- how many there are -/
def dnum : List (List Int) → Nat
  | [] => 0
  | x :: xs => if xs.any (fun y => decide (y = x)) then dnum xs else dnum xs + 1
/-- len(set(xs)) -/
def lsetD : D → Rs D
  | .list xs => if xs.length < 64 then (Rs.of (xs.mapM tupI)).bnd fun ks => .ok (.int (dnum ks)) else .st
  | _ => .st
/-- what is walked -/
def seqD2 : D → Rs (List D)
  | .list xs => .ok xs
  | .tuple xs => .ok xs
  | _ => .st
def seqD : D → Rs (List D)
  | .list xs => .ok xs
  | .tuple xs => .ok xs
  | .str x => .ok (x.cps.toList.map fun c => .str ⟨#[c]⟩)
  | _ => .st
def rngL (lo : Int) (n : Nat) : List D := (List.range n).map fun i => .int (lo + (i : Nat))
def rngD (lo hi : Int) : Rs (List D) := if -(2 ^ 62) ≤ lo ∧ lo < 2 ^ 62 ∧ -(2 ^ 62) ≤ hi ∧ hi < 2 ^ 62 ∧ (hi - lo).toNat ≤ LIM then .ok (rngL lo (hi - lo).toNat) else .st

/-! ### slots -/
def put (ε : Env) (i : Nat) (d : D) : Env := ε.set i (.f d)
def puto (ε : Env) (i : Nat) (d : D) : Env := ε.set i (.o d)
mutual
def bnd : Pt → D → Env → Rs Env
  | .nm i, d, ε => .ok (put ε i d)
  | .tp ps, .tuple ds, ε => bnds ps ds ε
  | .tp ps, .list ds, ε => bnds ps ds ε
  | .tp _, _, _ => .st
def bnds : List Pt → List D → Env → Rs Env
  | [], [], ε => .ok ε
  | p :: ps, d :: ds, ε => (bnd p d ε).bnd fun ε' => bnds ps ds ε'
  | _, _, _ => .st
end
def wipeE (ε : Env) : List Nat → Env
  | [] => ε
  | v :: vs => (wipeE ε vs).set v .u
def frzS : Sl → Sl
  | .o d => .f d
  | s => s
/-- the slots ls are known elsewhere from now on -/
def frzE (ε : Env) : List Nat → Env
  | [] => ε
  | i :: is => match ε[i]? with
    | some (.o d) => frzE (ε.set i (.f d)) is
    | _ => frzE ε is

/-! ### what an expression says -/
section
variable (φ : Nat → List D → Rs D)
/-- no error comes out of a comprehension's block -/
def Rs.nx {α : Type} : Rs α → Rs α
  | .ok a => .ok a
  | _ => .st
@[simp] theorem Rs.nx_ok {α : Type} (a : α) : (Rs.ok a).nx = .ok a := rfl
@[simp] theorem Rs.nx_st {α : Type} : (Rs.st : Rs α).nx = .st := rfl
/-- [elt ..]: what the turns give -/
def lcL (turn : D → Rs (List D)) : List D → Rs (List D)
  | [] => .ok []
  | x :: xs => (turn x).nx.bnd fun ys => (lcL turn xs).bnd fun zs => .ok (ys ++ zs)
/-- {k: v ..} -/
def putD (kvs : List (D × D)) (k v : D) : List (D × D) := if (getK kvs k).isSome then kvs.map fun p => if PyData.eqv p.1 k then (p.1, v) else p else kvs ++ [(k, v)]
/-- only what holds no list and no dict -/
def nmR : Rs D → Rs D
  | .ok x => if noMut x then .ok x else .st
  | .ex x => if noMut x then .ex x else .st
  | .st => .st
mutual
def ev : E → Env → Rs D
  | .lit d, _ => .ok d
  | .gl d, _ => .ok d
  | .var i, ε => match ε[i]? with
    | some (.f d) => .ok d
    | _ => .st
  | .wv i, ε => match ε[i]? with
    | some (.f d) => .ok d
    | some (.o d) => .ok d
    | _ => .st
  | .bin o a b, ε => (ev a ε).bnd fun x => (ev b ε).bnd fun y => binD o x y
  | .neg a, ε => (ev a ε).bnd negD
  | .not_ a, ε => (ev a ε).bnd fun x => .ok (.bool (!truth x))
  | .and_ a b, ε => (ev a ε).bnd fun x => if truth x then ev b ε else .ok x
  | .or_ a b, ε => (ev a ε).bnd fun x => if truth x then .ok x else ev b ε
  | .ite c a b, ε => (ev c ε).bnd fun x => if truth x then ev a ε else ev b ε
  | .cmp o a b, ε => (ev a ε).bnd fun x => (ev b ε).bnd fun y => cmpD o x y
  | .chain o o' a b c, ε => (ev a ε).bnd fun x => (ev b ε).bnd fun y => (cmpD o x y).bnd fun
    | .bool true => (ev c ε).bnd fun z => cmpD o' y z
    | .bool false => .ok (.bool false)
    | _ => .st
  | .tup es, ε => (evs es ε).bnd fun ds => .ok (.tuple ds)
  | .lst es, ε => (evs es ε).bnd fun ds => .ok (.list ds)
  | .dnew, _ => .ok (.dict [])
  | .idx a b, ε => (ev a ε).bnd fun x => (ev b ε).bnd fun y => idxD x y
  | .sli a lo hi, ε => (ev a ε).bnd fun x => (evo lo ε).bnd fun l => (evo hi ε).bnd fun h => sliD x l h
  | .rev a, ε => (ev a ε).bnd revD
  | .lc vs elt tg it cond, ε => (evi it ε).bnd fun ds => (lcL (fun x => (bnd tg x (wipeE ε vs)).bnd fun ε' =>
      (evc cond ε').bnd fun b => if b then (ev elt ε').bnd fun y => .ok [y] else .ok []) ds).bnd fun ys => .ok (.list ys)
  | .lc2 vs vs1 elt tg it cond tg1 it1 cond1, ε => (evi it ε).bnd fun ds => (lcL (fun x => (bnd tg x (wipeE ε vs)).bnd fun ε' =>
      (evc cond ε').bnd fun b => if b then (evi it1 ε').bnd fun ds1 => lcL (fun x1 => (bnd tg1 x1 (wipeE ε' vs1)).bnd fun ε'' =>
        (evc cond1 ε'').bnd fun b1 => if b1 then (ev elt ε'').bnd fun y => .ok [y] else .ok []) ds1 else .ok []) ds).bnd fun ys => if ys.length ≤ LIM then .ok (.list ys) else .st
  | .dc vs k v tg it cond, ε => (evi it ε).bnd fun ds => (lcL (fun x => (bnd tg x (wipeE ε vs)).bnd fun ε' =>
      (evc cond ε').bnd fun b => if b then (ev k ε').bnd fun y => (Rs.of (keyOf y)).bnd fun _ => (ev v ε').bnd fun z => .ok [.tuple [y, z]] else .ok []) ds).bnd fun ys =>
        .ok (.dict (ys.foldl (fun acc p => match p with | .tuple [y, z] => putD acc y z | _ => acc) []))
  | .call f es, ε => (evs es ε).bnd fun ds => φ f ds
  | .bi b es, ε => (evs es ε).bnd fun ds => biD b ds
  | .isi a ts, ε => (ev a ε).bnd fun x => .ok (.bool (ts.any fun t => tyIs t x))
  | .inT ks neg a, ε => (ev a ε).bnd (inTD ks neg)
  | .atT kvs a, ε => (ev a ε).bnd (atTD kvs)
  | .lset a, ε => (ev a ε).bnd lsetD
  | .dd ks es, ε => (evs es ε).bnd fun ds => .ok (.dict ((ks.zip ds).foldl (fun acc p => putD acc (keyD p.1) p.2) []))
  | .nomut a, ε => nmR (ev a (ε.map frzS))
def evs : List E → Env → Rs (List D)
  | [], _ => .ok []
  | e :: es, ε => (ev e ε).bnd fun x => (evs es ε).bnd fun xs => .ok (x :: xs)
/-- a slice's part -/
def evo : Option E → Env → Rs (Option Int)
  | none, _ => .ok none
  | some e, ε => (ev e ε).bnd fun x => (Rs.of (intOf x)).bnd fun i => .ok (some i)
/-- a condition -/
def evc : Option E → Env → Rs Bool
  | none, _ => .ok true
  | some e, ε => (ev e ε).bnd fun x => .ok (truth x)
def evi : It → Env → Rs (List D)
  | .seq e, ε => (ev e ε).bnd seqD
  | .rng1 a, ε => (ev a ε).bnd fun x => (Rs.of (intOf x)).bnd fun i => rngD 0 i
  | .rng2 a b, ε => (ev a ε).bnd fun x => (ev b ε).bnd fun y => (Rs.of (intOf x)).bnd fun i => (Rs.of (intOf y)).bnd fun j => rngD i j
  | .rng3 a b c, ε => (ev a ε).bnd fun x => (ev b ε).bnd fun y => (ev c ε).bnd fun z => (Rs.of (intOf x)).bnd fun i => (Rs.of (intOf y)).bnd fun j => (Rs.of (intOf z)).bnd fun k =>
      if k = -1 ∧ -1 ≤ j ∧ -1 ≤ i then (rngD (j + 1) (i + 1)).bnd fun ds => .ok ds.reverse else .st
  | .rev e, ε => (ev e ε).bnd fun x => (seqD2 x).bnd fun ds => .ok ds.reverse
end

/-! ### what a statement does -/
inductive Fl where
  | nx | br | ct | rt (d : D)
def putF (ε : Env) (t : Pt) (d : D) (fr : Bool) : Rs Env := if fr then (match t, d with
    | .nm i, .list ds => .ok (puto ε i (.list ds))
    | .nm i, .dict ds => .ok (puto ε i (.dict ds))
    | t, d => bnd t d ε) else bnd t d ε
def setD (d k v : D) : Rs D := match d with
  | .list xs => (Rs.of (intOf k)).bnd fun i => (Rs.of (ixN xs.length i)).bnd fun j => .ok (.list (xs.set j v))
  | .dict kvs => match keyOf k with
    | some _ => if kvs.length < LIM then .ok (.dict (putD kvs k v)) else .st
    | none => .st
  | _ => .st
def lstD : D → Rs (List D)
  | .list xs => .ok xs
  | _ => .st
def own (ε : Env) (i : Nat) : Rs D := match ε[i]? with
  | some (.o d) => .ok d
  | _ => .st
def exFor (step : D → Env → Rs (Fl × Env)) : List D → Env → Rs (Fl × Env)
  | [], ε => .ok (.nx, ε)
  | x :: xs, ε => (step x ε).bnd fun
    | (.nx, ε') => exFor step xs ε'
    | (.ct, ε') => exFor step xs ε'
    | (.br, ε') => .ok (.nx, ε')
    | (.rt d, ε') => .ok (.rt d, ε')
def exWh (c : Env → Rs Bool) (step : Env → Rs (Fl × Env)) : Nat → Env → Rs (Fl × Env)
  | 0, _ => .st
  | n + 1, ε => (c ε).bnd fun b => if b then (step ε).bnd fun
    | (.nx, ε') => exWh c step n ε'
    | (.ct, ε') => exWh c step n ε'
    | (.br, ε') => .ok (.nx, ε')
    | (.rt d, ε') => .ok (.rt d, ε') else .ok (.nx, ε)
abbrev WH : Nat := 1000000
mutual
def exS : S → Env → Rs (Fl × Env)
  | .asg t e fr lk, ε => (ev φ e (frzE ε lk)).bnd fun d => (putF (frzE ε lk) t d fr).bnd fun ε' => .ok (.nx, ε')
  | .par i j a b lk, ε => (ev φ a (frzE ε lk)).bnd fun x => (ev φ b (frzE ε lk)).bnd fun y => .ok (.nx, put (put (frzE ε lk) i x) j y)
  | .aug i o e lk, ε => (ev φ (.var i) (frzE ε lk)).bnd fun x => (ev φ e (frzE ε lk)).bnd fun y => (binD o x y).bnd fun z => match z with
    | .int n => .ok (.nx, put (frzE ε lk) i (.int n))
    | _ => .st
  | .seti i e1 e2 lk, ε => (ev φ e2 (frzE ε lk)).bnd fun v => (own (frzE ε lk) i).bnd fun d => (ev φ e1 (frzE ε lk)).bnd fun k => (setD d k v).bnd fun d' => .ok (.nx, puto (frzE ε lk) i d')
  | .app i e lk, ε => (own (frzE ε lk) i).bnd fun d => (lstD d).bnd fun xs => (ev φ e (frzE ε lk)).bnd fun v => if xs.length < LIM then .ok (.nx, puto (frzE ε lk) i (.list (xs ++ [v]))) else .st
  | .ret e, ε => (ev φ e (ε.map frzS)).bnd fun d => .ok (.rt d, ε)
  | .retn, ε => .ok (.rt .none, ε)
  | .drop e lk, ε => (ev φ e (frzE ε lk)).bnd fun _ => .ok (.nx, frzE ε lk)
  | .iff c a b, ε => (ev φ c (ε.map frzS)).bnd fun x => if truth x then exSs a ε else exSs b ε
  | .for_ t it body lk, ε => (evi φ it (frzE ε lk)).bnd fun ds => exFor (fun x ε' => (bnd t x ε').bnd fun ε'' => exSs body ε'') ds (frzE ε lk)
  | .whil c body, ε => exWh (fun ε' => (ev φ c (ε'.map frzS)).bnd fun x => .ok (truth x)) (fun ε' => exSs body ε') WH ε
  | .brk, ε => .ok (.br, ε)
  | .cont, ε => .ok (.ct, ε)
  | .pass, ε => .ok (.nx, ε)
  | .raise e, ε => (ev φ e (ε.map frzS)).bnd fun d => .ex d
  | .stuck, _ => .st
  | .try_ _ _ _, _ => .st
def exSs : List S → Env → Rs (Fl × Env)
  | [], ε => .ok (.nx, ε)
  | s :: ss, ε => (exS s ε).bnd fun
    | (.nx, ε') => exSs ss ε'
    | (f, ε') => .ok (f, ε')
end
end
/-- what a body's end tells -/
def retv : Fl × Env → Rs D
  | (.rt d, _) => .ok d
  | (.nx, _) => .ok .none
  | _ => .st
/-- a def, called -/
def run (φ : Nat → List D → Rs D) (f : Fn) (ds : List D) : Rs D := if ds.length = f.np then
    (exSs φ f.body (ds.map .f ++ List.replicate (f.n - f.np) .u)).bnd retv else .st
def call (fs : List Fn) : Nat → Nat → List D → Rs D
  | 0, _, _ => .st
  | k + 1, i, ds => match fs[i]? with
    | some f => run (call fs k) f ds
    | none => .st
end Ws

set_option Elab.async false
set_option linter.all false
set_option maxRecDepth 100000
set_option maxHeartbeats 4000000
/-! Sim3: from the text to the pure language -/
namespace Ws
open PySem PySem.Spec PyProof.Rows L2

/-- what is known of the names -/
structure Cfg where
  /-- the def's slots -/
  N : List Str
  /-- the module's defs -/
  fns : List Str
  /-- the module's constants -/
  cs : List (Str × D)
  /-- the built-in names that the module leaves as they are -/
  bl : List Str
  /-- defs whose answers hold no list and no dict -/
  pu : List Str
  /-- math.gcd stands at gcd -/
  gcd : Bool := false
  /-- the module's tables by texts -/
  tabs : List (Str × List (Str × D)) := []

def slotIx (N : List Str) (x : Str) : Option Nat := N.findIdx? fun y => decide (y = x)
def slotOf (c : Cfg) (sc : Scope) (x : Str) : Option Nat := match sc.names.lookup x with
  | some .local => slotIx c.N x
  | some .cell => slotIx c.N x
  | some .free => slotIx c.N x
  | _ => none
def glob (sc : Scope) (x : Str) : Bool := match sc.names.lookup x with
  | some .globalImplicit => !decide (x = "__debug__")
  | _ => false
def op2Of : Operator → Option Op2
  | .Add => some .add
  | .Sub => some .sub
  | .Mult => some .mul
  | .FloorDiv => some .fdiv
  | .Mod => some .mod
  | .Pow => some .pow
  | _ => none
def cpOf : CmpOp → Cp
  | .Eq => .eq | .NotEq => .ne | .Lt => .lt | .LtE => .le | .Gt => .gt | .GtE => .ge
  | .Is => .is_ | .IsNot => .isn | .In => .in_ | .NotIn => .nin
def biOf (x : Str) : Option Bi :=
  if x = "len" then some .len else if x = "abs" then some .abs else if x = "max" then some .max else if x = "min" then some .min else
  if x = "sum" then some .sum else if x = "any" then some .any else if x = "all" then some .all else if x = "sorted" then some .sorted else
  if x = "tuple" then some .tuple else if x = "list" then some .list else if x = "int" then some .int else none
def tyOf (x : Str) : Option Ty :=
  if x = "int" then some .int else if x = "bool" then some .bool else if x = "str" then some .str else if x = "list" then some .list else
  if x = "tuple" then some .tuple else if x = "dict" then some .dict else none
def ownOf (N : List Str) (scope : Scope) : List (Str × Nat) := scope.names.filterMap fun (n, k) => match k with
  | .local => (slotIx N n).map fun i => (n, i)
  | .cell => (slotIx N n).map fun i => (n, i)
  | _ => none
def noStar : List Expr → Bool
  | [] => true
  | .Starred _ _ :: _ => false
  | _ :: es => noStar es
/-- no display stands there -/
def walkable : Expr → Bool
  | .Name _ _ => true
  | .Call (.Name f _) _ _ _ => !decide (f = "range") && !decide (f = "reversed")
  | .Subscript _ _ _ => true
  | .ListComp _ _ _ _ => true
  | .BinOp _ _ _ _ => true
  | .List _ _ => true
  | .Tuple _ _ _ => true
  | .IfExp _ _ _ _ => true
  | _ => false
mutual
/-- a target: names and tuples of names (the scope as the text has it) -/
def compT (c : Cfg) (sc : Scope) : Nat → Expr → Option Pt
  | 0, _ => none
  | n + 1, .Name x _ => match sc.names.lookup x with
    | some .local => (slotIx c.N x).map .nm
    | some .cell => (slotIx c.N x).map .nm
    | _ => none
  | n + 1, .Tuple es _ _ => if noStar es then (compTs c sc n es).map .tp else none
  | _, _ => none
def compTs (c : Cfg) (sc : Scope) : Nat → List Expr → Option (List Pt)
  | 0, _ => none
  | n + 1, [] => some []
  | n + 1, e :: es => do some ((← compT c sc n e) :: (← compTs c sc n es))
end
mutual
def Pt.sl : Pt → List Nat
  | .nm i => [i]
  | .tp ps => Pt.sls ps
def Pt.sls : List Pt → List Nat
  | [] => []
  | p :: ps => p.sl ++ Pt.sls ps
end
def Pt.isin (p : Pt) (vs : List Nat) : Bool := p.sl.all fun i => decide (i ∈ vs)
def tabE (c : Cfg) (sc : Scope) : Expr → Option (List (Str × D))
  | .Name x _ => if glob sc x then c.tabs.lookup x else none
  | _ => none
/-- a written key -/
def keyE : Option Expr → Option Key
  | some (.Constant (.str x) _ _) => some (.inr x)
  | some (.Constant (.int i) _ _) => some (.inl i)
  | _ => none
def wk : E → E
  | .var i => .wv i
  | e => e
def lone : Expr → Bool
  | .Starred _ _ => false
  | _ => true
/-- a list's places: behind a subscript no slice, no tuple -/
def plainIx : Expr → Bool
  | .Slice _ _ _ _ => false
  | .Tuple _ _ _ => false
  | _ => true
mutual
def compE (c : Cfg) : Nat → Scope → Expr → Option E
  | 0, _, _ => none
  | n + 1, sc, e => match e with
    | .Constant (.int i) _ _ => some (.lit (.int i))
    | .Constant (.bool b) _ _ => some (.lit (.bool b))
    | .Constant .none _ _ => some (.lit .none)
    | .Constant (.str x) _ _ => if PyData.strOk x && decide (x.length ≤ LIM) then some (.lit (.str x)) else none
    | .Name x _ => if decide (x = "__debug__") || decide (x = "__classdict__") then none else match slotOf c sc x with
      | some i => some (.var i)
      | none => if glob sc x then (c.cs.lookup x).map .gl else none
    | .BinOp a o b _ => do some (.bin (← op2Of o) (wk (← compE c n sc a)) (wk (← compE c n sc b)))
    | .UnaryOp .USub a _ => do some (.neg (wk (← compE c n sc a)))
    | .UnaryOp .Not a _ => do some (.not_ (wk (← compE c n sc a)))
    | .BoolOp o vs _ => if 2 ≤ vs.length then compB c n sc o vs else none
    | .IfExp t a b _ => do some (.ite (wk (← compE c n sc t)) (← compE c n sc a) (← compE c n sc b))
    | .Compare a [o] [b] _ => if behindInMarks o b then none else match tabE c sc b with
      | some kvs => (match o with
        | .In => do some (.inT (kvs.map (·.1)) false (wk (← compE c n sc a)))
        | .NotIn => do some (.inT (kvs.map (·.1)) true (wk (← compE c n sc a)))
        | _ => none)
      | none => do some (.cmp (cpOf o) (wk (← compE c n sc a)) (wk (← compE c n sc b)))
    | .Compare a [o, o'] [b, d] _ => if lastMarks [o, o'] [b, d] then none else do some (.chain (cpOf o) (cpOf o') (wk (← compE c n sc a)) (wk (← compE c n sc b)) (wk (← compE c n sc d)))
    | .Tuple es _ _ => if es.length ≤ 1000000 then do some (.tup (← compEs c n sc es)) else none
    | .List es _ => if es.length ≤ 1000000 then do some (.lst (← compEs c n sc es)) else none
    | .Dict [] [] _ => some .dnew
    | .Dict (k :: ks) es _ => if decide ((k :: ks).length = es.length) && decide (es.length ≤ 15) then do
        let kk ← (k :: ks).mapM keyE
        some (.dd kk (← compEs c n sc es)) else none
    | .Subscript a (.Slice none none (some (.UnaryOp .USub (.Constant (.int 1) _ _) _)) _) _ => do some (.rev (wk (← compE c n sc a)))
    | .Subscript a (.Slice lo hi none _) _ => do some (.sli (wk (← compE c n sc a)) (← compO c n sc lo) (← compO c n sc hi))
    | .Subscript a b _ => if plainIx b then match tabE c sc a with
      | some kvs => do some (.atT kvs (wk (← compE c n sc b)))
      | none => do some (.idx (wk (← compE c n sc a)) (wk (← compE c n sc b))) else none
    | .ListComp elt [⟨tg, iter, ifs, 0⟩] scope _ => if blkC c.N sc scope (ownOf c.N scope) then do
        let it ← compI c n sc true iter
        let t ← compT c scope n tg
        let x ← compE c n (relS scope sc) elt
        let cd ← compC c n (relS scope sc) ifs
        if t.isin ((ownOf c.N scope).map (·.2)) then some (.lc ((ownOf c.N scope).map (·.2)) x t it cd) else none else none
    | .ListComp elt [⟨tg, iter, ifs, 0⟩, ⟨tg1, iter1, ifs1, 0⟩] scope _ => if blkC c.N sc scope (ownOf c.N scope) then do
        let it ← compI c n sc true iter
        let t ← compT c scope n tg
        let cd ← compC c n (relS scope sc) ifs
        let it1 ← compI c n (relS scope sc) false iter1
        let t1 ← compT c scope n tg1
        let cd1 ← compC c n (relS scope sc) ifs1
        let x ← compE c n (relS scope sc) elt
        if t.isin ((ownOf c.N scope).map (·.2)) && t1.isin ((ownOf c.N scope).map (·.2)) then some (.lc2 ((ownOf c.N scope).map (·.2)) t1.sl x t it cd t1 it1 cd1) else none else none
    | .Call (.Name "len" _) [.Call (.Name "set" _) [a] [] _] [] _ => if glob sc "len" && decide (("len" : Str) ∈ c.bl) && glob sc "set" && decide (("set" : Str) ∈ c.bl) && lone a then do some (.lset (wk (← compE c n sc a))) else none
    | .Call (.Name f _) [e] [⟨some x, d, _⟩] _ => if glob sc f && decide (f ∈ c.bl) && decide (x = "default") && lone e then (if f = "min" then do some (.bi .mind [wk (← compE c n sc e), ← compE c n sc d]) else if f = "max" then do some (.bi .maxd [wk (← compE c n sc e), ← compE c n sc d]) else none) else none
    | .Call (.Name f _) es [] _ => if glob sc f then (match c.fns.findIdx? fun y => decide (y = f) with
        | some i => do
          let ds ← compEs c n sc es
          some (if decide (f ∈ c.pu) then .nomut (.call i ds) else .call i ds)
        | none => if decide (f ∈ c.bl) && !es.isEmpty then (if f = "isinstance" then compIs c n sc es else do
            let b ← biOf f
            let ds ← compWs c n sc es
            some (.bi b ds)) else if c.gcd && decide (f = "gcd") && !es.isEmpty then do
            let ds ← compWs c n sc es
            some (.bi .gcd ds) else none) else none
    | _ => none
def compIs (c : Cfg) : Nat → Scope → List Expr → Option E
  | 0, _, _ => none
  | n + 1, sc, [e, .Name t _] => if lone e && glob sc t && decide (t ∈ c.bl) then do some (.isi (wk (← compE c n sc e)) [← tyOf t]) else none
  | n + 1, sc, [e, .Tuple [.Name t _, .Name u _] _ _] => if lone e && glob sc t && decide (t ∈ c.bl) && glob sc u && decide (u ∈ c.bl) then do some (.isi (wk (← compE c n sc e)) [← tyOf t, ← tyOf u]) else none
  | _, _, _ => none
def compB (c : Cfg) : Nat → Scope → BoolOp → List Expr → Option E
  | 0, _, _, _ => none
  | n + 1, sc, o, [] => none
  | n + 1, sc, o, [e] => compE c n sc e
  | n + 1, sc, .And, e :: e' :: es => do some (.and_ (← compE c n sc e) (← compB c n sc .And (e' :: es)))
  | n + 1, sc, .Or, e :: e' :: es => do some (.or_ (← compE c n sc e) (← compB c n sc .Or (e' :: es)))
def compEs (c : Cfg) : Nat → Scope → List Expr → Option (List E)
  | 0, _, _ => none
  | n + 1, sc, [] => some []
  | n + 1, sc, e :: es => if lone e then do some ((← compE c n sc e) :: (← compEs c n sc es)) else none
def compWs (c : Cfg) : Nat → Scope → List Expr → Option (List E)
  | 0, _, _ => none
  | n + 1, sc, [] => some []
  | n + 1, sc, e :: es => if lone e then do some (wk (← compE c n sc e) :: (← compWs c n sc es)) else none
def compO (c : Cfg) : Nat → Scope → Option Expr → Option (Option E)
  | 0, _, _ => none
  | n + 1, sc, none => some none
  | n + 1, sc, some e => do some (some (wk (← compE c n sc e)))
def compC (c : Cfg) : Nat → Scope → List Expr → Option (Option E)
  | 0, _, _ => none
  | n + 1, sc, [] => some none
  | n + 1, sc, [e] => do some (some (wk (← compE c n sc e)))
  | _, _, _ => none
/-- what is walked; w: its list may be a list that the def alone knows -/
def compI (c : Cfg) : Nat → Scope → Bool → Expr → Option It
  | 0, _, _, _ => none
  | n + 1, sc, w, .Call (.Name "range" _) [a] [] _ => if glob sc "range" && decide (("range" : Str) ∈ c.bl) && lone a then do some (.rng1 (wk (← compE c n sc a))) else none
  | n + 1, sc, w, .Call (.Name "range" _) [a, b] [] _ => if glob sc "range" && decide (("range" : Str) ∈ c.bl) && lone a && lone b then do some (.rng2 (wk (← compE c n sc a)) (wk (← compE c n sc b))) else none
  | n + 1, sc, w, .Call (.Name "range" _) [a, b, d] [] _ => if glob sc "range" && decide (("range" : Str) ∈ c.bl) && lone a && lone b && lone d then do some (.rng3 (wk (← compE c n sc a)) (wk (← compE c n sc b)) (wk (← compE c n sc d))) else none
  | n + 1, sc, w, .Call (.Name "reversed" _) [a] [] _ => if glob sc "reversed" && decide (("reversed" : Str) ∈ c.bl) && lone a then do
      let e ← compE c n sc a
      some (.rev (if w then wk e else e)) else none
  | n + 1, sc, w, e => if walkable e then do
      let e ← compE c n sc e
      some (.seq (if w then wk e else e)) else none
end

/-! ### statements -/
mutual
/-- the slots whose lists may be known elsewhere behind it -/
def E.sv : E → List Nat
  | .lit _ => [] | .gl _ => [] | .wv _ => [] | .dnew => []
  | .var i => [i]
  | .bin _ a b => a.sv ++ b.sv
  | .neg a => a.sv
  | .not_ a => a.sv
  | .and_ a b => a.sv ++ b.sv
  | .or_ a b => a.sv ++ b.sv
  | .ite c a b => c.sv ++ (a.sv ++ b.sv)
  | .cmp _ a b => a.sv ++ b.sv
  | .chain _ _ a b c => a.sv ++ (b.sv ++ c.sv)
  | .tup es => E.svs es
  | .lst es => E.svs es
  | .idx a b => a.sv ++ b.sv
  | .sli a _ _ => a.sv
  | .rev a => a.sv
  | .lc _ e _ it _ => e.sv ++ it.sv
  | .lc2 _ _ e _ it _ _ it1 _ => e.sv ++ (it.sv ++ it1.sv)
  | .dc _ k v _ it _ => k.sv ++ (v.sv ++ it.sv)
  | .call _ es => E.svs es
  | .bi _ es => E.svs es
  | .isi a _ => a.sv
  | .nomut _ => []
  | .inT _ _ a => a.sv
  | .atT _ a => a.sv
  | .lset a => a.sv
  | .dd _ es => E.svs es
def E.svs : List E → List Nat
  | [] => []
  | e :: es => e.sv ++ E.svs es
def It.sv : It → List Nat
  | .seq e => e.sv
  | .rng1 a => a.sv
  | .rng2 a b => a.sv ++ b.sv
  | .rng3 a b c => a.sv ++ (b.sv ++ c.sv)
  | .rev e => e.sv
end
/-- its lists and dicts are new -/
def biFr : Bi → Bool
  | .max => false | .min => false | .maxd => false | .mind => false | _ => true
def frE : E → Bool
  | .lit _ => false | .var _ => false | .wv _ => false | .gl _ => false
  | .and_ _ _ => false | .or_ _ _ => false | .ite _ _ _ => false | .idx _ _ => false
  | .call _ _ => false | .nomut _ => false
  | .bi b _ => biFr b
  | .dc .. => false
  | .atT _ _ => false
  | _ => true
def starV : Expr → Bool
  | .Starred _ _ => true
  | _ => false
def nmS (kind : Str → Option NameKind) (line : Nat) : Expr → Option Str
  | .Name id pos => if kind id == some .local && pos.line == line then some id else none
  | _ => none
/-- the pair that is stored without a tuple: none: nothing is said -/
def swT (kind : Str → Option NameKind) (ts vs : List Expr) : Option (Option (List Str)) :=
    if !(ts.length == 2 || ts.length == 3) || vs.length != ts.length then some none else
    if vs.any starV then some none else
    if (ts.filterMap (nmS kind ((ts.head?.map (·.pos.line)).getD 0))).length != ts.length || (ts.filterMap (nmS kind ((ts.head?.map (·.pos.line)).getD 0))).eraseDups.length != (ts.filterMap (nmS kind ((ts.head?.map (·.pos.line)).getD 0))).length then some none else
    if vs.all (foldedForSure 8) then some none else
    if vs.all (constantsAlone 8) then none else some (some (ts.filterMap (nmS kind ((ts.head?.map (·.pos.line)).getD 0))))
def swS (sc : Scope) (ts : List Expr) (value : Expr) : Option (Option (List Str)) := match value with
  | .Tuple vs _ _ => swT (fun x => sc.names.lookup x) ts vs
  | _ => some none
def isFun (sc : Scope) : Bool := match sc.kind with
  | .function => true
  | _ => false
/-- no comprehension: its place is not reused -/
def noComp : Expr → Bool
  | .ListComp _ _ _ _ => false
  | .SetComp _ _ _ _ => false
  | .DictComp _ _ _ _ _ => false
  | _ => true
/-- name = [..]: the name is stored in the comprehension's own block -/
def inComp (sc : Scope) (e : Expr) (y : Str) (py : Pos) : Bool := match e with
  | .ListComp _ _ s p => sc.names.lookup y == some .local && (py.line == p.line) && !(s.names.any fun (n, k) => n == y && (k == .local || k == .cell))
  | _ => false
mutual
def compS (c : Cfg) (sc : Scope) : Nat → Stmt → Option S
  | 0, _ => none
  | n + 1, st => match st with
    | .Pass _ => some .pass
    | .Break _ => some .brk
    | .Continue _ => some .cont
    | .Return none _ => some .retn
    | .Return (some e) _ => do some (.ret (← compE c n sc e))
    | .If t a b _ => do some (.iff (wk (← compE c n sc t)) (← compSs c sc n a) (← compSs c sc n b))
    | .For tg it body [] _ => do
        let i ← compI c n sc false it
        let t ← compT c sc n tg
        some (.for_ t i (← compSs c sc n body) i.sv)
    | .While t body [] _ => do some (.whil (wk (← compE c n sc t)) (← compSs c sc n body))
    | .Assign [.Subscript (.Name x _) ix _] e _ => if noComp e && decide (x ≠ "__debug__") && decide (x ≠ "__classdict__") then do
        let i ← slotOf c sc x
        let k ← compE c n sc ix
        let v ← compE c n sc e
        some (.seti i (wk k) v (v.sv)) else none
    | .Assign [.Name y py] e _ => if inComp sc e y py then (match e with
        | .ListComp elt [⟨tg, iter, ifs, 0⟩] scope pos => do
          let x ← compE c n sc (.ListComp elt [⟨tg, iter, ifs, 0⟩] scope pos)
          let i ← slotIx c.N y
          some (.asg (.nm i) x true x.sv)
        | .ListComp elt [⟨tg, iter, ifs, 0⟩, ⟨tg1, iter1, ifs1, 0⟩] scope pos => do
          let x ← compE c n sc (.ListComp elt [⟨tg, iter, ifs, 0⟩, ⟨tg1, iter1, ifs1, 0⟩] scope pos)
          let i ← slotIx c.N y
          some (.asg (.nm i) x true x.sv)
        | _ => none) else match e with
        | .DictComp _ _ _ _ _ => none
        | .SetComp _ _ _ _ => none
        | _ => do
          let x ← compE c n sc e
          let t ← compT c sc n (.Name y py)
          some (.asg t x (frE x) x.sv)
    | .Assign [.Tuple ts kk tp] e _ => if noComp e then (match swS sc ts e with
        | some none => do
          let x ← compE c n sc e
          let t ← compT c sc n (.Tuple ts kk tp)
          some (.asg t x false x.sv)
        | some (some [x, y]) => (match ts, e with
          | [.Name x' _, .Name y' _], .Tuple [a, b] _ _ => if decide (x' = x) && decide (y' = y) && decide (x ≠ y) && lone a && lone b then do
              let i ← slotIx c.N x
              let j ← slotIx c.N y
              let a' ← compE c n sc a
              let b' ← compE c n sc b
              if decide (sc.names.lookup x = some .local) && decide (sc.names.lookup y = some .local) then some (.par i j a' b' (a'.sv ++ b'.sv)) else none else none
          | _, _ => none)
        | _ => none) else none
    | .AugAssign (.Name x _) .Add e _ => if decide (sc.names.lookup x = some .local) || decide (sc.names.lookup x = some .cell) then do some (.aug (← slotIx c.N x) .add (wk (← compE c n sc e)) []) else none
    | .AugAssign (.Name x _) .Sub e _ => if decide (sc.names.lookup x = some .local) || decide (sc.names.lookup x = some .cell) then do some (.aug (← slotIx c.N x) .sub (wk (← compE c n sc e)) []) else none
    | .Expr (.Call (.Attribute (.Name x _) "append" ap) [e] [] cp) _ => if decide (x ≠ "__debug__") && decide (x ≠ "__classdict__") && lone e && (ap.endLine == cp.line) then do
        let i ← slotOf c sc x
        let v ← compE c n sc e
        some (.app i v v.sv) else none
    | .Expr (.Constant (.str _) _ _) _ => some .pass
    | .Expr (.Call (.Name f p) es [] cp) _ => do
        let x ← compE c n sc (.Call (.Name f p) es [] cp)
        some (.drop x x.sv)
    | .Raise _ _ _ => some .stuck
    | _ => none
def compSs (c : Cfg) (sc : Scope) : Nat → List Stmt → Option (List S)
  | 0, _ => none
  | n + 1, [] => some []
  | n + 1, s :: ss => do some ((← compS c sc n s) :: (← compSs c sc n ss))
end
end Ws

set_option Elab.async false
set_option linter.all false
set_option maxRecDepth 100000
set_option maxHeartbeats 4000000
/-! Sim4: operations on data are what the machine does -/
namespace Ws
open PySem PySem.Spec PyProof.Rows L2

/-- what is owned is tracked -/
def OT (O : Ow) (H : Hp) : Prop := ∀ a i, O a = some i → ∃ o, H a = some o
theorem OT.none {O : Ow} {H : Hp} (t : OT O H) {a : Addr} (h : H a = none) : O a = none := by
  cases e : O a with
  | none => rfl
  | some i =>
    obtain ⟨o, q⟩ := t a i e
    rw [h] at q; cases q
theorem OT.same {O : Ow} {H H' : Hp} (t : OT O H) (s : Same H H') : OT O H' := fun a i e => let ⟨o, q⟩ := t a i e; ⟨o, s a o q⟩

/-- a new list or dict, that nobody knows yet; other data as ever -/
def Fr (K : PySem.W.Frag) (O : Ow) (H H' : Hp) (v : V) (d : D) : Prop := match d with
  | .list ds => ∃ p xs, v = .ref p ∧ H p = none ∧ H' p = some (.lst xs) ∧ xs.length ≤ sizeLine ∧ ∀ O' : Ow, (∀ a, a ≠ p → O' a = O a) → Rps K O' H' xs ds
  | .dict ds => ∃ p kvs, v = .ref p ∧ H p = none ∧ H' p = some (.dK kvs) ∧ ∀ O' : Ow, (∀ a, a ≠ p → O' a = O a) → RpK K O' H' kvs ds
  | d => Rp K O H' v d
section
variable {K : PySem.W.Frag} {O : Ow} {H H' : Hp}
theorem Fr.rp {v : V} {d : D} (t : OT O H) (h : Fr K O H H' v d) : Rp K O H' v d := by
  cases d with
  | list ds => obtain ⟨p, xs, e, n, q, z, r⟩ := h; subst e; exact .lst (.inl ⟨.inl q, t.none n⟩) z (r O fun _ _ => rfl)
  | dict ds => obtain ⟨p, kvs, e, n, q, r⟩ := h; subst e; exact .dk q (t.none n) (r O fun _ _ => rfl)
  | none => exact h
  | bool b => exact h
  | int i => exact h
  | str x => exact h
  | tuple ds => exact h

/-- what lies in H stays data in a heap with one new object more, whoever owns that one -/
theorem Fz.new {p : Addr} {o : HO} (n : H p = none) {O' : Ow} (h : ∀ a, a ≠ p → O' a = O a) : Fz O H O' (upd H p o) :=
  ⟨fun a u e q => by
    have ne : a ≠ p := fun z => by rw [z, n] at e; cases e
    exact ⟨by rw [upd_ne ne]; exact e, by rw [h a ne]; exact q⟩,
   fun a xs e => by rw [upd_ne (ne_of_none e n)]; exact e, fun a u xs e => by rw [upd_ne (ne_of_none e n)]; exact e⟩
theorem same_new {p : Addr} {o : HO} (n : H p = none) : Same H (upd H p o) := fun a u e => by rw [upd_ne (ne_of_none e n)]; exact e
theorem Fr.newL {p : Addr} {xs : List V} {ds : List D} (n : H p = none) (r : Rps K O H xs ds) (z : xs.length ≤ sizeLine) : Fr K O H (upd H p (.lst xs)) (.ref p) (.list ds) :=
  ⟨p, xs, rfl, n, upd_same, z, fun O' h => r.mv (Fz.new n h)⟩
theorem Rp.newT {p : Addr} {xs : List V} {ds : List D} (n : H p = none) (r : Rps K O H xs ds) (z : xs.length ≤ sizeLine) : Rp K O (upd H p (.tup xs)) (.ref p) (.tuple ds) :=
  .tup (.inl (.inl upd_same)) z (r.mv (Fz.new n fun _ _ => rfl))
/-- Same backwards at the start: what is new stays new -/
theorem Fr.same0 {H0 : Hp} {v : V} {d : D} (s : Same H0 H) (h : Fr K O H H' v d) : Fr K O H0 H' v d := by
  cases d with
  | list ds => obtain ⟨p, xs, e, n, q, z, r⟩ := h; exact ⟨p, xs, e, s.free n, q, z, r⟩
  | dict ds => obtain ⟨p, kvs, e, n, q, r⟩ := h; exact ⟨p, kvs, e, s.free n, q, r⟩
  | none => exact h
  | bool b => exact h
  | int i => exact h
  | str x => exact h
  | tuple ds => exact h
end

/-- an operation's end: no error comes -/
def PoF (K : PySem.W.Frag) (O : Ow) (H : Hp) (r : Rs D) (Q : VK) : Prop := match r with
  | .ok d => ∀ v H', Same H H' → Fr K O H H' v d → Q v H'
  | _ => False

section
variable {X : Cx}
abbrev rIn2 (K : PySem.W.Frag) (f : D → D → Rs D) : R2 := fun x y H Q => ∃ O d e, OT O H ∧ RpW K O H x d ∧ RpW K O H y e ∧ PoF K O H (f d e) Q
theorem PoF.int {K : PySem.W.Frag} {O : Ow} {H : Hp} {i : Int} {Q : VK} (h : PoF K O H (.ok (.int i)) Q) : Q (.int i) H := h _ H (Same.refl H) (Rp.int i)
theorem PoF.bool {K : PySem.W.Frag} {O : Ow} {H : Hp} {b : Bool} {Q : VK} (h : PoF K O H (.ok (.bool b)) Q) : Q (.bl b) H := h _ H (Same.refl H) (Rp.bl b)

/-! ### list + list, whether frozen or not -/
theorem op_catR : OpR X (binaryOp .Add) (fun x y H Q => ∃ l b xs zs, x = .ref l ∧ y = .ref b ∧ SqL X.K H l xs ∧ SqL X.K H b zs ∧ xs.length + zs.length ≤ sizeLine ∧ ∀ p, H p = none → Q (.ref p) (upd H p (.lst (xs ++ zs)))) := by
  intro pins s σ H x y v u Q I rx ry h
  obtain ⟨l, b, xs, zs, rfl, rfl, hH, hB, hz, q⟩ := h
  cases rx
  cases ry
  obtain ⟨its, r, e, hzz⟩ := I.list hH
  obtain ⟨its2, r2, e2, hzz2⟩ := I.list hB
  have hl := r.length
  have hl2 := r2.length
  have ea : its.toArray ++ its2.toArray = (its ++ its2).toArray := by simp
  obtain ⟨⟨cls, dd, data, sl⟩, ho, hc, n, hd⟩ := e.isList
  obtain ⟨⟨cls2, dd2, data2, sl2⟩, ho2, hc2, n2, hd2⟩ := e2.isList
  simp only at hc hd hc2 hd2
  subst hc hd hc2 hd2
  refine concat_meets ⟨_, ho, rfl⟩ ⟨_, ho2, rfl⟩ noFill_list_add seq_list_add PySem.F.slot_list_add PySem.F.entry_list_add (PySem.F.args_list_add_2 _ _) (list_addW l b its.toArray its2.toArray n n2 dd dd2 sl sl2 (by simp only [List.size_toArray]; omega)) ⟨ho, ho2, ?_⟩
  rw [ea]
  exact ⟨.ref _, _, I.lnew (t' := s.toks) (r.append r2) (by rw [List.length_append]; omega), rfl, q _ I.fresh⟩

def opOf : Op2 → Operator
  | .add => .Add | .sub => .Sub | .mul => .Mult | .fdiv => .FloorDiv | .mod => .Mod | .pow => .Pow
theorem op2Of_eq {o : Operator} {o' : Op2} (h : op2Of o = some o') : o = opOf o' := by
  cases o <;> simp [op2Of] at h <;> subst h <;> rfl
theorem lim_line : LIM = sizeLine := by rw [sizeLine_eq]
theorem strOk_app {x y : Str} (hx : PyData.strOk x = true) (hy : PyData.strOk y = true) : PyData.strOk (x ++ y) = true := by
  unfold PyData.strOk at *
  have e : (x ++ y).cps = x.cps ++ y.cps := rfl
  rw [e, Array.all_append, hx, hy]; rfl
theorem str_len_app (x y : Str) : (x ++ y).length = x.length + y.length := by
  show (x.cps ++ y.cps).size = _
  rw [Array.size_append]; rfl

theorem bin_ok (o : Op2) : OpR X (binaryOp (opOf o)) (rIn2 X.K (binD o)) := by
  intro pins s σ H x y v u Q I rx ry h
  obtain ⟨O, d, e, ot, hd, he, q⟩ := h
  cases o with
  | add =>
    cases d <;> cases e <;> try exact (show False from q).elim
    · -- ints
      cases (show Rp X.K O H x _ from hd); cases (show Rp X.K O H y _ from he)
      exact op_add pins s σ H _ _ v u Q I rx ry ⟨_, _, rfl, rfl, q.int⟩
    · -- texts
      rename_i z z'
      cases (show Rp X.K O H x _ from hd) with | str _ h1 h2 =>
      cases (show Rp X.K O H y _ from he) with | str _ h3 h4 =>
      simp only [binD] at q
      split at q
      · rename_i hl
        refine op_add_str pins s σ H _ _ v u Q I rx ry ⟨_, _, rfl, rfl, by rw [← lim_line]; exact hl, q _ H (Same.refl H) (Rp.str _ (strOk_app h1 h3) ?_)⟩
        rw [str_len_app, ← lim_line]; exact hl
      · exact (show False from q).elim
    · -- lists
      obtain ⟨a, xs, rfl, ha, za, ra⟩ := hd
      obtain ⟨b, ys, rfl, hb, zb, rb⟩ := he
      simp only [binD] at q
      split at q
      · rename_i hl
        rw [← ra.length, ← rb.length, lim_line] at hl
        exact op_catR pins s σ H _ _ v u Q I rx ry ⟨a, b, xs, ys, rfl, rfl, ha, hb, hl, fun p hp => q _ _ (same_new hp) (Fr.newL hp (ra.app rb) (by rw [List.length_append]; exact hl))⟩
      · exact (show False from q).elim
    · -- tuples
      cases (show Rp X.K O H x _ from hd) with | tup ha za ra =>
      cases (show Rp X.K O H y _ from he) with | tup hb zb rb =>
      simp only [binD] at q
      split at q
      · rename_i hl
        rw [← ra.length, ← rb.length, lim_line] at hl
        refine op_catA pins s σ H _ _ v u Q I rx ry ⟨_, _, _, _, rfl, rfl, ha, hb, hl, fun e => ?_, fun _ e => ?_, fun _ _ p hp => ?_⟩
        · subst e; cases ra
          exact q _ H (Same.refl H) (Rp.tup hb zb rb)
        · subst e; cases rb
          exact q _ H (Same.refl H) (by rw [List.append_nil]; exact Rp.tup ha za ra)
        · exact q _ _ (same_new hp) (Rp.newT hp (ra.app rb) (by rw [List.length_append]; exact hl))
      · exact (show False from q).elim
  | sub =>
    cases d <;> cases e <;> try exact (show False from q).elim
    cases (show Rp X.K O H x _ from hd); cases (show Rp X.K O H y _ from he)
    exact op_sub pins s σ H _ _ v u Q I rx ry ⟨_, _, rfl, rfl, q.int⟩
  | mul =>
    cases d <;> cases e <;> try exact (show False from q).elim
    cases (show Rp X.K O H x _ from hd); cases (show Rp X.K O H y _ from he)
    simp only [binD] at q
    split at q
    · rename_i hm
      unfold mulOk at hm
      simp only [Bool.or_eq_true, Bool.and_eq_true, decide_eq_true_eq] at hm
      exact op_mul pins s σ H _ _ v u Q I rx ry ⟨_, _, rfl, rfl, hm, q.int⟩
    · exact (show False from q).elim
  | fdiv =>
    cases d <;> cases e <;> try exact (show False from q).elim
    cases (show Rp X.K O H x _ from hd); cases (show Rp X.K O H y _ from he)
    simp only [binD] at q
    split at q
    · rename_i hm
      exact op_fdiv pins s σ H _ _ v u Q I rx ry ⟨_, _, rfl, rfl, hm, q.int⟩
    · exact (show False from q).elim
  | mod =>
    cases d <;> cases e <;> try exact (show False from q).elim
    cases (show Rp X.K O H x _ from hd); cases (show Rp X.K O H y _ from he)
    simp only [binD] at q
    split at q
    · rename_i hm
      exact op_mod pins s σ H _ _ v u Q I rx ry ⟨_, _, rfl, rfl, hm, q.int⟩
    · exact (show False from q).elim
  | pow =>
    cases d <;> cases e <;> try exact (show False from q).elim
    cases (show Rp X.K O H x _ from hd); cases (show Rp X.K O H y _ from he)
    simp only [binD] at q
    split at q
    · rename_i hm
      exact op_pow pins s σ H _ _ v u Q I rx ry ⟨_, _, rfl, rfl, hm, q.int⟩
    · exact (show False from q).elim

theorem neg_ok : UnR X (unaryOp .USub) (fun x H Q => ∃ O d, OT O H ∧ RpW X.K O H x d ∧ PoF X.K O H (negD d) Q) := by
  intro pins s σ H x v Q I rx h
  obtain ⟨O, d, ot, hd, q⟩ := h
  cases d <;> try exact (show False from q).elim
  cases (show Rp X.K O H x _ from hd)
  exact un_neg pins s σ H _ v Q I rx ⟨_, rfl, q.int⟩
end
end Ws

set_option Elab.async false
set_option linter.all false
set_option maxRecDepth 100000
set_option maxHeartbeats 4000000
/-! Sim5: comparisons, subscripts -/
namespace Ws
open PySem PySem.Spec PyProof.Rows L2
section
variable {X : Cx}

theorem PoF.bl {K : PySem.W.Frag} {O : Ow} {H : Hp} {b : Bool} {r : Rs D} {Q : VK} (h : PoF K O H r Q) (e : r = .ok (.bool b)) : Q (.bl b) H := by
  subst e; exact h.bool
theorem notD_ok {K : PySem.W.Frag} {O : Ow} {H : Hp} {r : Rs D} {Q : VK} (h : PoF K O H (notD r) Q) : ∃ b, r = .ok (.bool b) ∧ Q (.bl (!b)) H := by
  cases r with
  | ok d =>
    cases d <;> try exact (show False from h).elim
    rename_i b
    exact ⟨b, rfl, PoF.bool (b := !b) h⟩
  | ex d => exact (show False from h).elim
  | st => exact (show False from h).elim
theorem eqD_of {d e : D} {b : Bool} (h : eqD d e = .ok (.bool b)) : lim 40 d = true ∧ lim 40 e = true ∧ b = PyData.eqv d e := by
  unfold eqD at h
  split at h
  · rename_i c
    simp only [Bool.and_eq_true] at c
    injection h with h; injection h with h
    exact ⟨c.1, c.2, h.symm⟩
  · cases h
theorem PoF.st {K : PySem.W.Frag} {O : Ow} {H : Hp} {Q : VK} (h : PoF K O H .st Q) : False := h
theorem eqD_ok {K : PySem.W.Frag} {O : Ow} {H : Hp} {d e : D} {Q : VK} (h : PoF K O H (eqD d e) Q) : lim 40 d = true ∧ lim 40 e = true ∧ Q (.bl (PyData.eqv d e)) H := by
  unfold eqD at h
  split at h
  · rename_i c
    simp only [Bool.and_eq_true] at c
    exact ⟨c.1, c.2, h.bool⟩
  · exact h.st.elim
theorem ltB_of {d e : D} {b : Bool} (h : ltB d e = .ok (.bool b)) : cmpOk d e = true ∧ b = PySem.W.dataLt d e := by
  unfold ltB at h
  split at h
  · rename_i c
    injection h with h; injection h with h
    exact ⟨c, h.symm⟩
  · cases h
theorem ltB_ok {K : PySem.W.Frag} {O : Ow} {H : Hp} {d e : D} {Q : VK} (h : PoF K O H (ltB d e) Q) : cmpOk d e = true ∧ Q (.bl (PySem.W.dataLt d e)) H := by
  unfold ltB at h
  split at h
  · rename_i c
    exact ⟨c, h.bool⟩
  · exact h.st.elim
theorem isNone_iff {d : D} (h : isNone d = false) : d ≠ .none := by rintro rfl; cases h

/-- two data that may be told apart, as the machine reads them -/
theorem reads2 {pins : List (Addr × Obj)} {s : Shared} {σ : L2.St} {H : Hp} {x : V} {v : Value} {O : Ow} {d : D} (I : Inv X pins σ H s) (rx : RelV x v) (h : RpW X.K O H x d) (l : lim 40 d = true) :
    ∃ as, Reads s.heap v d as := Dp.reads I d x v (h.dp (h.lay l)) rx

theorem eq_ok (hu : X.A.units + 64 < cLine) : OpR X (compareOp .Eq) (rIn2 X.K eqD) := by
  intro pins s σ H x y v u Q I rx ry h
  obtain ⟨O, d, e, ot, hd, he, q⟩ := h
  obtain ⟨l1, l2, q⟩ := eqD_ok q
  exact op_eqD hu pins s σ H x y v u Q I rx ry ⟨d, e, hd.dp (hd.lay l1), he.dp (he.lay l2), hd.shaped l1 (by decide), he.shaped l2 (by decide), q⟩
theorem ne_ok (hu : X.A.units + 64 < cLine) : OpR X (compareOp .NotEq) (rIn2 X.K fun d e => notD (eqD d e)) := by
  intro pins s σ H x y v u Q I rx ry h
  obtain ⟨O, d, e, ot, hd, he, q⟩ := h
  obtain ⟨b, eb, q⟩ := notD_ok q
  obtain ⟨l1, l2, rfl⟩ := eqD_of eb
  exact op_neD hu pins s σ H x y v u Q I rx ry ⟨d, e, hd.dp (hd.lay l1), he.dp (he.lay l2), hd.shaped l1 (by decide), he.shaped l2 (by decide), q⟩
theorem cmpOk_of {d e : D} (h : cmpOk d e = true) : PySem.W.alike d e = true ∧ d ≠ .none ∧ lim 40 d = true ∧ lim 40 e = true := by
  unfold cmpOk at h
  simp only [Bool.and_eq_true, Bool.not_eq_true'] at h
  exact ⟨h.1.1.1, isNone_iff h.1.1.2, h.1.2, h.2⟩
theorem room_of {d e : D} {A : Around} (hu : A.units + 64 < cLine) (l : lim 40 d = true) : A.units + min d.depth e.depth < cLine := by
  have h1 := lim_depth 40 d l
  have h2 : min d.depth e.depth ≤ d.depth := Nat.min_le_left _ _
  omega
theorem fin2 {pins : List (Addr × Obj)} {s : Shared} {σ : L2.St} {H : Hp} {Q : VK} {b : Bool} (I : Inv X pins σ H s) (q : Q (.bl b) H) : EP X pins σ Q (.bool b) s := ⟨.bl b, H, I, rfl, q⟩
theorem lt_ok (hu : X.A.units + 64 < cLine) : OpR X (compareOp .Lt) (rIn2 X.K ltB) := by
  intro pins s σ H x y v u Q I rx ry h
  obtain ⟨O, d, e, ot, hd, he, q⟩ := h
  obtain ⟨c, q⟩ := ltB_ok q
  obtain ⟨al, nn, l1, l2⟩ := cmpOk_of c
  obtain ⟨as, r1⟩ := reads2 I rx hd l1
  obtain ⟨bs, r2⟩ := reads2 I ry he l2
  exact PySem.W.lt_data r1 r2 al nn (room_of hu l1) (fin2 I q)
theorem gt_ok (hu : X.A.units + 64 < cLine) : OpR X (compareOp .Gt) (rIn2 X.K fun d e => ltB e d) := by
  intro pins s σ H x y v u Q I rx ry h
  obtain ⟨O, d, e, ot, hd, he, q⟩ := h
  obtain ⟨c, q⟩ := ltB_ok q
  obtain ⟨al, nn, l2, l1⟩ := cmpOk_of c
  obtain ⟨as, r1⟩ := reads2 I rx hd l1
  obtain ⟨bs, r2⟩ := reads2 I ry he l2
  have al' : PySem.W.alike d e = true := by rw [PySem.W.alike_comm]; exact al
  exact PySem.W.gt_data r1 r2 al' (PySem.W.ne_none_both al nn) (room_of hu l1) (fin2 I q)
theorem le_ok (hu : X.A.units + 64 < cLine) : OpR X (compareOp .LtE) (rIn2 X.K fun d e => notD (ltB e d)) := by
  intro pins s σ H x y v u Q I rx ry h
  obtain ⟨O, d, e, ot, hd, he, q⟩ := h
  obtain ⟨b, eb, q⟩ := notD_ok q
  obtain ⟨c, rfl⟩ := ltB_of eb
  obtain ⟨al, nn, l2, l1⟩ := cmpOk_of c
  obtain ⟨as, r1⟩ := reads2 I rx hd l1
  obtain ⟨bs, r2⟩ := reads2 I ry he l2
  have al' : PySem.W.alike d e = true := by rw [PySem.W.alike_comm]; exact al
  exact PySem.W.le_data r1 r2 al' (PySem.W.ne_none_both al nn) (room_of hu l1) (fin2 I q)
theorem ge_ok (hu : X.A.units + 64 < cLine) : OpR X (compareOp .GtE) (rIn2 X.K fun d e => notD (ltB d e)) := by
  intro pins s σ H x y v u Q I rx ry h
  obtain ⟨O, d, e, ot, hd, he, q⟩ := h
  obtain ⟨b, eb, q⟩ := notD_ok q
  obtain ⟨c, rfl⟩ := ltB_of eb
  obtain ⟨al, nn, l1, l2⟩ := cmpOk_of c
  obtain ⟨as, r1⟩ := reads2 I rx hd l1
  obtain ⟨bs, r2⟩ := reads2 I ry he l2
  exact PySem.W.ge_data r1 r2 al nn (room_of hu l1) (fin2 I q)

/-! ### is, is not -/
theorem is_bool_gen {M : Model} {A : Around} {E : Value → Shared → Prop} {s : Shared} {Q : Value → Shared → Prop} {v : Value} {b : Bool} (h : Q (.bool (v == .bool b)) s) (hv : absV v ≠ none) : wpAny M A (compareOp .Is v (.bool b)) Q E s := by
  cases v <;> first | exact wpAny_pure h | exact absurd rfl hv
theorem isnot_bool_gen {M : Model} {A : Around} {E : Value → Shared → Prop} {s : Shared} {Q : Value → Shared → Prop} {v : Value} {b : Bool} (h : Q (.bool (!(v == .bool b))) s) (hv : absV v ≠ none) : wpAny M A (compareOp .IsNot v (.bool b)) Q E s := by
  cases v <;> first | exact wpAny_pure h | exact absurd rfl hv
theorem rel_abs {x : V} {v : Value} (r : RelV x v) : absV v ≠ none := by rw [r.abs]; simp
theorem rel_bool {K : PySem.W.Frag} {O : Ow} {H : Hp} {x : V} {v : Value} {d : D} {b : Bool} (r : RelV x v) (h : RpW K O H x d) : isD d (.bool b) = .ok (.bool (v == .bool b)) := by
  cases d with
  | list ds => obtain ⟨a, xs, e, _⟩ := h; subst e; cases r; rfl
  | dict ds => obtain ⟨a, xs, e, _⟩ := h; subst e; cases r; rfl
  | none => cases (show Rp K O H x _ from h); cases r; rfl
  | bool c =>
    cases (show Rp K O H x _ from h); cases r
    show (Rs.ok (PyData.bool (c == b)) : Rs D) = _
    congr 2
    rw [Bool.eq_iff_iff]; simp
  | int i => cases (show Rp K O H x _ from h); obtain ⟨t, rfl⟩ := r; rfl
  | str z => cases (show Rp K O H x _ from h); obtain ⟨t, rfl⟩ := r; rfl
  | tuple ds => cases (show Rp K O H x _ from h); cases r; rfl
theorem rel_none {K : PySem.W.Frag} {O : Ow} {H : Hp} {x : V} {d : D} (h : RpW K O H x d) : isNone d = decide (x = .non) := by
  cases d with
  | list ds => obtain ⟨a, xs, e, _⟩ := h; subst e; rfl
  | dict ds => obtain ⟨a, xs, e, _⟩ := h; subst e; rfl
  | none => cases (show Rp K O H x _ from h); rfl
  | bool c => cases (show Rp K O H x _ from h); rfl
  | int i => cases (show Rp K O H x _ from h); rfl
  | str z => cases (show Rp K O H x _ from h); rfl
  | tuple ds => cases (show Rp K O H x _ from h); rfl
theorem is_ok : OpR X (compareOp .Is) (rIn2 X.K isD) := by
  intro pins s σ H x y v u Q I rx ry h
  obtain ⟨O, d, e, ot, hd, he, q⟩ := h
  cases e <;> try exact (show False from q).elim
  · cases (show Rp X.K O H y _ from he)
    have q' : Q (.bl (isNone d)) H := PoF.bool q
    rw [rel_none hd] at q'
    exact op_isN pins s σ H x _ v u Q I rx ry ⟨rfl, q'⟩
  · cases (show Rp X.K O H y _ from he)
    cases ry
    rw [rel_bool rx hd] at q
    exact is_bool_gen (fin2 I q.bool) (rel_abs rx)
theorem isn_ok : OpR X (compareOp .IsNot) (rIn2 X.K fun d e => notD (isD d e)) := by
  intro pins s σ H x y v u Q I rx ry h
  obtain ⟨O, d, e, ot, hd, he, q⟩ := h
  obtain ⟨b, eb, q⟩ := notD_ok q
  cases e <;> try (cases eb; done)
  · cases (show Rp X.K O H y _ from he)
    have e1 : isNone d = b := by
      have : Rs.ok (PyData.bool (isNone d)) = Rs.ok (PyData.bool b) := eb
      injection this with h1; injection h1
    rw [rel_none hd] at e1
    subst e1
    exact op_notN pins s σ H x _ v u Q I rx ry ⟨rfl, q⟩
  · cases (show Rp X.K O H y _ from he)
    cases ry
    rw [rel_bool rx hd] at eb
    injection eb with h1; injection h1 with h2
    subst h2
    exact isnot_bool_gen (fin2 I q) (rel_abs rx)
end
end Ws

set_option Elab.async false
set_option linter.all false
set_option maxRecDepth 100000
set_option maxHeartbeats 4000000
/-! Sim6: in, subscripts, slices -/
namespace Ws
open PySem PySem.Spec PyProof.Rows L2

theorem eqv_key (k k' : Key) : PyData.eqv (keyD k) (keyD k') = decide (k = k') := by
  cases k <;> cases k'
  · rw [key_ll]; rfl
  · rw [key_lr]; rfl
  · rw [key_rl]; rfl
  · rename_i a b
    rw [key_rr]
    show (a == b) = _
    rw [Bool.beq_eq_decide_eq]
theorem keyOf_D (k : Key) : keyOf (keyD k) = some k := by cases k <;> rfl
theorem keyOf_inv {d : D} {k : Key} (h : keyOf d = some k) : d = keyD k := by
  cases d <;> simp [keyOf] at h <;> subst h <;> rfl
section
variable {K : PySem.W.Frag} {O : Ow} {H : Hp}
theorem RpK.val : ∀ {kvs : List (Key × V)} {ds : List (D × D)}, RpK K O H kvs ds → ∀ k : Key,
    (∃ v d, valV kvs k = some v ∧ getK ds (keyD k) = some d ∧ Rp K O H v d) ∨ (valV kvs k = none ∧ getK ds (keyD k) = none)
  | _, _, .nil, k => .inr ⟨rfl, rfl⟩
  | _, _, .cons (k := k0) (v := v) (vs := vs) (d := d) (ds := ds) h r, k => by
    by_cases e : k0 = k
    · refine .inl ⟨v, d, valV_pos (p := (k0, v)) e, ?_, h⟩
      unfold getK
      rw [List.find?_cons]
      have : PyData.eqv (keyD k0) (keyD k) = true := by rw [eqv_key]; exact decide_eq_true e
      simp only [this]; rfl
    · have h2 : valV ((k0, v) :: vs) k = valV vs k := valV_neg (p := (k0, v)) e
      have h3 : getK ((keyD k0, d) :: ds) (keyD k) = getK ds (keyD k) := by
        unfold getK
        rw [List.find?_cons]
        have : PyData.eqv (keyD k0) (keyD k) = false := by rw [eqv_key]; exact decide_eq_false e
        simp only [this]
      rw [h2, h3]
      exact RpK.val r k
theorem RpK.length : ∀ {kvs : List (Key × V)} {ds : List (D × D)}, RpK K O H kvs ds → kvs.length = ds.length
  | _, _, .nil => rfl
  | _, _, .cons _ r => by simp [RpK.length r]
theorem RpK.map {k : Key} {v : V} {d : D} (q : Rp K O H v d) : ∀ {kvs : List (Key × V)} {ds : List (D × D)}, RpK K O H kvs ds →
    RpK K O H (kvs.map fun kv => if kv.1 = k then (kv.1, v) else kv) (ds.map fun p => if PyData.eqv p.1 (keyD k) then (p.1, d) else p)
  | _, _, .nil => .nil
  | _, _, .cons (k := k0) h r => by
    simp only [List.map_cons]
    rw [eqv_key]
    by_cases e : k0 = k
    · rw [if_pos e, if_pos (decide_eq_true e)]; exact .cons q (RpK.map q r)
    · rw [if_neg e, if_neg (by simpa using e)]; exact .cons h (RpK.map q r)
theorem RpK.snoc {k : Key} {v : V} {d : D} (q : Rp K O H v d) : ∀ {kvs : List (Key × V)} {ds : List (D × D)}, RpK K O H kvs ds → RpK K O H (kvs ++ [(k, v)]) (ds ++ [(keyD k, d)])
  | _, _, .nil => .cons q .nil
  | _, _, .cons h r => .cons h (RpK.snoc q r)
theorem RpK.put {k : Key} {v : V} {d : D} (q : Rp K O H v d) {kvs : List (Key × V)} {ds : List (D × D)} (r : RpK K O H kvs ds) : RpK K O H (putK kvs k v) (putD ds (keyD k) d) := by
  unfold putK putD
  rw [valV_any]
  rcases r.val k with ⟨v', d', h1, h2, _⟩ | ⟨h1, h2⟩
  · rw [h1, h2]; exact r.map q
  · rw [h1, h2]; exact r.snoc q
/-- what the dict holds at a key -/
theorem RpW.dget {x y : V} {kvs : List (D × D)} {k : Key} (h : RpW K O H x (.dict kvs)) (hy : RpW K O H y (keyD k)) : ∃ a o, x = .ref a ∧ DGet H a y o ∧ ((∃ v d, o = some v ∧ getK kvs (keyD k) = some d ∧ Rp K O H v d) ∨ (o = none ∧ getK kvs (keyD k) = none)) := by
  obtain ⟨a, vs, rfl, ha, r⟩ := h
  have ey : y = kV k := by
    cases k with
    | inl i => cases (show Rp K O H y (.int i) from hy); rfl
    | inr z => cases (show Rp K O H y (.str z) from hy); rfl
  refine ⟨a, valV vs k, rfl, .inl ⟨vs, k, .inl ha, ey, rfl⟩, ?_⟩
  rcases r.val k with ⟨v, d, h1, h2, h3⟩ | ⟨h1, h2⟩
  · exact .inl ⟨v, d, h1, h2, h3⟩
  · exact .inr ⟨h1, h2⟩
end

section
variable {X : Cx}
theorem inD_of {d e : D} {b : Bool} (h : inD d e = .ok (.bool b)) : ((∃ ds, (e = .list ds ∨ e = .tuple ds) ∧ lim 40 d = true ∧ lim 40 e = true ∧ b = ds.any fun z => PyData.eqv z d) ∨
    (∃ kvs k, e = .dict kvs ∧ d = keyD k ∧ b = (getK kvs d).isSome) ∨ ∃ y x, e = .str y ∧ d = .str x ∧ hasChar x y = some b) := by
  cases e with
  | list ds =>
    simp only [inD] at h
    split at h
    · rename_i c
      simp only [Bool.and_eq_true] at c
      injection h with h; injection h with h
      exact .inl ⟨ds, .inl rfl, c.1, c.2, h.symm⟩
    · cases h
  | tuple ds =>
    simp only [inD] at h
    split at h
    · rename_i c
      simp only [Bool.and_eq_true] at c
      injection h with h; injection h with h
      exact .inl ⟨ds, .inr rfl, c.1, c.2, h.symm⟩
    · cases h
  | dict kvs =>
    simp only [inD] at h
    split at h
    · rename_i k e
      injection h with h; injection h with h
      exact .inr (.inl ⟨kvs, k, rfl, keyOf_inv e, h.symm⟩)
    · cases h
  | str y =>
    cases d <;> simp only [inD] at h <;> try (cases h; done)
    rename_i x
    cases e : hasChar x y with
    | none => rw [e] at h; cases h
    | some c => rw [e] at h; simp at h; subst h; exact .inr (.inr ⟨y, x, rfl, rfl, e⟩)
  | none => cases h
  | bool c => cases h
  | int i => cases h
theorem PoF.boolOf {K : PySem.W.Frag} {O : Ow} {H : Hp} {d e : D} {Q : VK} (h : PoF K O H (inD d e) Q) : ∃ b, inD d e = .ok (.bool b) ∧ Q (.bl b) H := by
  cases e with
  | list ds =>
    simp only [inD] at h ⊢
    split at h
    · rename_i c; rw [if_pos c]; exact ⟨_, rfl, h.bool⟩
    · exact h.st.elim
  | tuple ds =>
    simp only [inD] at h ⊢
    split at h
    · rename_i c; rw [if_pos c]; exact ⟨_, rfl, h.bool⟩
    · exact h.st.elim
  | dict kvs =>
    simp only [inD] at h ⊢
    split at h
    · rename_i k c; exact ⟨_, rfl, h.bool⟩
    · exact h.st.elim
  | str y =>
    cases d <;> simp only [inD] at h ⊢ <;> try exact (show False from h).elim
    rename_i x
    cases e : hasChar x y with
    | none => rw [e] at h; exact (show False from h).elim
    | some c => rw [e] at h; exact ⟨c, rfl, h.bool⟩
  | none => exact (show False from h).elim
  | bool c => exact (show False from h).elim
  | int i => exact (show False from h).elim
theorem hasChar_of {x y : Str} {b : Bool} (h : hasChar x y = some b) : ∃ c, x = ⟨#[c]⟩ ∧ b = decide (c ∈ y.cps.toList) := by
  unfold hasChar at h
  split at h
  · rename_i c e
    refine ⟨c, ?_, (Option.some.inj h).symm⟩
    obtain ⟨⟨l⟩⟩ := x
    simp at e; subst e; rfl
  · cases h
theorem lim_all {d : D} {ds : List D} (h : d = .list ds ∨ d = .tuple ds) (l : lim 40 d = true) : ds.all (lim 39) = true := by
  rcases h with rfl | rfl <;> simpa [lim] using l
theorem in_gen {pins : List (Addr × Obj)} {s : Shared} {σ : L2.St} {H : Hp} {x y : V} {v u : Value} {Q : VK} {O : Ow} {d e : D} {b : Bool} {neg : Bool} (hu : X.A.units + 65 < cLine) (I : Inv X pins σ H s) (rx : RelV x v) (ry : RelV y u)
    (hd : RpW X.K O H x d) (he : RpW X.K O H y e) (hb : inD d e = .ok (.bool b)) (q : Q (.bl (if neg then !b else b)) H) :
    wpAny (model X.prog X.w) X.A (compareOp (if neg then .NotIn else .In) v u) (EP X pins σ Q) X.xe s := by
  rcases inD_of hb with ⟨ds, eq, l1, l2, rfl⟩ | ⟨kvs, k, rfl, rfl, rfl⟩ | ⟨z, z', rfl, rfl, hc⟩
  · have r1 := reads2 I rx hd l1
    have r2 := reads2 I ry he l2
    obtain ⟨as, r1⟩ := r1
    obtain ⟨bs, r2⟩ := r2
    have c1 := hd.lay l1
    have c2 := he.lay l2
    have dep := lim_depth 40 d l1
    have room : ∀ n : Nat, X.A.units + 1 + min n d.depth < cLine := fun n => by
      have := Nat.min_le_right n d.depth
      omega
    rcases eq with rfl | rfl
    · have c2' : PyData.canLayAll0 ds = true := by simpa [PyData.canLay0] using c2
      cases neg
      · exact SeqAt.in_list_reads r2 r1 c2' c1 (by first | exact room _ | (have := room 0; omega) | omega) (fin2 I q)
      · exact SeqAt.notIn_list_reads r2 r1 c2' c1 (by first | exact room _ | (have := room 0; omega) | omega) (fin2 I q)
    · have c2' : PyData.canLayAll0 ds = true := by simpa [PyData.canLay0] using c2
      cases neg
      · exact SeqAt.in_tuple_reads r2 r1 c2' c1 (by first | exact room _ | (have := room 0; omega) | omega) (fin2 I q)
      · exact SeqAt.notIn_tuple_reads r2 r1 c2' c1 (by first | exact room _ | (have := room 0; omega) | omega) (fin2 I q)
  · obtain ⟨a, o, rfl, g, ho⟩ := RpW.dget he hd
    cases ry
    have eo : o.isSome = (getK kvs (keyD k)).isSome := by
      rcases ho with ⟨v', d', rfl, h2, _⟩ | ⟨rfl, h2⟩ <;> rw [h2] <;> rfl
    cases neg
    · exact d_in (by omega) I g rx fun s3 I3 => ⟨.bl o.isSome, H, I3, rfl, by rw [eo]; exact q⟩
    · exact d_notIn (by omega) I g rx fun s3 I3 => ⟨.bl (!o.isSome), H, I3, rfl, by rw [eo]; exact q⟩
  · obtain ⟨c, rfl, rfl⟩ := hasChar_of hc
    cases (show Rp X.K O H x _ from hd)
    cases (show Rp X.K O H y _ from he)
    cases neg
    · exact op_in_sign pins s σ H _ _ v u Q I rx ry ⟨c, _, rfl, rfl, q⟩
    · exact op_notIn_sign pins s σ H _ _ v u Q I rx ry ⟨c, _, rfl, rfl, q⟩
theorem in_ok (hu : X.A.units + 65 < cLine) : OpR X (compareOp .In) (rIn2 X.K inD) := by
  intro pins s σ H x y v u Q I rx ry h
  obtain ⟨O, d, e, ot, hd, he, q⟩ := h
  obtain ⟨b, hb, q⟩ := q.boolOf
  exact in_gen (neg := false) hu I rx ry hd he hb q
theorem nin_ok (hu : X.A.units + 65 < cLine) : OpR X (compareOp .NotIn) (rIn2 X.K fun d e => notD (inD d e)) := by
  intro pins s σ H x y v u Q I rx ry h
  obtain ⟨O, d, e, ot, hd, he, q⟩ := h
  obtain ⟨b, hb, q⟩ := notD_ok q
  exact in_gen (neg := true) hu I rx ry hd he hb q
/-- every comparison -/
theorem cmp_ok (hu : X.A.units + 65 < cLine) (o : CmpOp) : OpR X (compareOp o) (rIn2 X.K (cmpD (cpOf o))) := by
  have hu' : X.A.units + 64 < cLine := by omega
  cases o with
  | Eq => exact eq_ok hu'
  | NotEq => exact ne_ok hu'
  | Lt => exact lt_ok hu'
  | LtE => exact le_ok hu'
  | Gt => exact gt_ok hu'
  | GtE => exact ge_ok hu'
  | Is => exact is_ok
  | IsNot => exact isn_ok
  | In => exact in_ok hu
  | NotIn => exact nin_ok hu

/-! ### subscripts -/
theorem atI_eq {α : Type} (xs : List α) (i : Int) : atI xs i = ixD xs i := by
  unfold atI ixN ixD
  by_cases h : 0 ≤ i
  · rw [if_pos h, if_pos h]
    by_cases h2 : i < xs.length
    · rw [if_pos h2]; rfl
    · rw [if_neg h2]
      exact (List.getElem?_eq_none_iff.mpr (by omega)).symm
  · rw [if_neg h, if_neg h]
    by_cases h2 : -(xs.length : Int) ≤ i
    · rw [if_pos h2, if_pos h2]; rfl
    · rw [if_neg h2, if_neg h2]; rfl
theorem Rps.at {K : PySem.W.Frag} {O : Ow} {H : Hp} {vs : List V} {ds : List D} {i : Int} {d : D} (r : Rps K O H vs ds) (h : ixD ds i = some d) : ∃ v, atI vs i = some v ∧ Rp K O H v d := by
  rw [atI_eq]
  unfold ixD at *
  rw [r.length]
  split at h
  · rename_i c; rw [if_pos c]; exact r.get h
  · rename_i c; rw [if_neg c]
    split at h
    · rename_i c2; rw [if_pos c2]; exact r.get h
    · cases h
theorem PoF.of {K : PySem.W.Frag} {O : Ow} {H : Hp} {o : Option D} {Q : VK} (h : PoF K O H (Rs.of o) Q) : ∃ d, o = some d ∧ PoF K O H (.ok d) Q := by
  cases o with
  | none => exact (show False from h).elim
  | some d => exact ⟨d, rfl, h⟩
/-- an answer that stands in H already -/
def Po (K : PySem.W.Frag) (O : Ow) (H : Hp) (r : Rs D) (Q : VK) : Prop := match r with
  | .ok d => ∀ v H', Same H H' → Rp K O H' v d → Q v H'
  | _ => False
theorem Po.of {K : PySem.W.Frag} {O : Ow} {H : Hp} {o : Option D} {Q : VK} (h : Po K O H (Rs.of o) Q) : ∃ d, o = some d ∧ Po K O H (.ok d) Q := by
  cases o with
  | none => exact (show False from h).elim
  | some d => exact ⟨d, rfl, h⟩
theorem strOk_one {z : Str} {c : Nat} {i : Int} (h : PyData.strOk z = true) (e : ixD z.cps.toList i = some c) : PyData.strOk ⟨#[c]⟩ = true := by
  have hm : c ∈ z.cps.toList := by
    unfold ixD at e
    split at e
    · exact List.mem_of_getElem? e
    · split at e
      · exact List.mem_of_getElem? e
      · cases e
  unfold PyData.strOk at *
  rw [← Array.all_toList] at h
  have := List.all_eq_true.mp h c hm
  simp at this ⊢; exact this
theorem idx_ok (hu : X.A.units + 65 < cLine) : IxR X (fun x y H Q => ∃ O d e, OT O H ∧ RpW X.K O H x d ∧ RpW X.K O H y e ∧ Po X.K O H (idxD d e) Q) := by
  intro value slice pins s σ H x y v u Q I rx ry h hs
  obtain ⟨O, d, e, ot, hd, he, q⟩ := h
  cases d with
  | list ds =>
    cases e <;> try exact (show False from q).elim
    rename_i i
    obtain ⟨a, xs, rfl, ha, za, ra⟩ := hd
    cases (show Rp X.K O H y _ from he)
    obtain ⟨d, hd, q⟩ := Po.of q
    obtain ⟨w, hw, rw'⟩ := ra.at hd
    exact ix_list value slice pins s σ H _ _ v u Q I rx ry ⟨a, xs, i, w, rfl, rfl, ha, hw, q w H (Same.refl H) rw'⟩ hs
  | tuple ds =>
    cases e <;> try exact (show False from q).elim
    rename_i i
    cases (show Rp X.K O H x _ from hd) with | tup ha za ra =>
    cases (show Rp X.K O H y _ from he)
    obtain ⟨d, hd, q⟩ := Po.of q
    obtain ⟨w, hw, rw'⟩ := ra.at hd
    exact ix_tup value slice pins s σ H _ _ v u Q I rx ry ⟨_, _, i, w, rfl, rfl, ha, hw, q w H (Same.refl H) rw'⟩ hs
  | str z =>
    cases e <;> try exact (show False from q).elim
    rename_i i
    cases (show Rp X.K O H x _ from hd) with | str _ h1 h2 =>
    cases (show Rp X.K O H y _ from he)
    simp only [idxD] at q
    cases e : ixD z.cps.toList i with
    | none => rw [e] at q; exact (show False from q).elim
    | some c =>
      rw [e] at q
      refine ix_str value slice pins s σ H _ _ v u Q I rx ry ⟨z, i, c, rfl, rfl, h2, by rw [atI_eq]; exact e, ?_⟩ hs
      exact q (.str ⟨#[c]⟩) H (Same.refl H) (.str _ (strOk_one h1 e) (by show (1 : Nat) ≤ sizeLine; rw [sizeLine_eq]; decide))
  | dict kvs =>
    simp only [idxD] at q
    split at q
    · rename_i k ek
      have := keyOf_inv ek
      subst this
      obtain ⟨d, hd', q⟩ := Po.of q
      obtain ⟨a, o, rfl, g, ho⟩ := RpW.dget hd he
      rcases ho with ⟨w, d', rfl, h2, h3⟩ | ⟨rfl, h2⟩
      · rw [hd'] at h2
        cases h2
        cases rx
        unfold subscriptTail
        refine wpAny_bind ?_
        rw [getitemInPython_of_ne (dict_typeIs I g).not_modules]
        refine wpAny_bind (wpAny_specialOf (dict_typeIs I g) PySem.F.slot_dict_getitem.lookup ?_)
        have fin : wpAny (model X.prog X.w) X.A (subscripted slice false (.ref a) u) (fun r s₃ => wpAny (model X.prog X.w) X.A (letTemporaryGo value (.ref a) r >>= fun _ => pure r) (EP X pins σ Q) X.xe s₃) X.xe s := by
          rw [hs]
          exact wpAny_operating (d_getItem (by omega) I g ry fun w' s3 I3 rw' => wpAny_bind (wpAny_letTemporaryGo (wpAny_pure ⟨w, H, I3, rw', q w H (Same.refl H) h3⟩)))
        first
          | exact wpAny_pure (wpAny_bind fin)
          | exact wpAny_bind (wpAny_pure (wpAny_bind fin))
          | exact wpAny_bind fin
      · rw [hd'] at h2; cases h2
    · exact (show False from q).elim
  | none => cases e <;> exact (show False from q).elim
  | bool b => cases e <;> exact (show False from q).elim
  | int i => cases e <;> exact (show False from q).elim

/-! ### slices -/
theorem Rps.cut {K : PySem.W.Frag} {O : Ow} {H : Hp} {vs : List V} {ds : List D} (r : Rps K O H vs ds) (lo hi : Option Int) : Rps K O H (cutV vs lo hi) (cutD ds lo hi) := by
  unfold cutV cutD
  rw [r.length]
  exact (r.drop _).take _
theorem sli_ok : SlR X (fun x lo hi H Q => ∃ O d, OT O H ∧ RpW X.K O H x d ∧ PoF X.K O H (sliD d lo hi) Q) := by
  intro pins s σ H x v vl vu lo hi sl Q I rx hs pl pu h
  obtain ⟨O, d, ot, hd, q⟩ := h
  cases d with
  | list ds =>
    obtain ⟨a, xs, rfl, ha, za, ra⟩ := hd
    exact sl_list pins s σ H _ v vl vu lo hi sl Q I rx hs pl pu ⟨a, xs, rfl, ha, fun p hp => q _ _ (same_new hp) (Fr.newL hp (ra.cut lo hi) (Nat.le_trans (cutV_length _ _ _) za))⟩
  | tuple ds =>
    cases (show Rp X.K O H x _ from hd) with | tup ha za ra =>
    rename_i a xs
    refine sl_tupA pins s σ H _ v vl vu lo hi sl Q I rx hs pl pu ⟨a, xs, rfl, ha, fun hw => ?_, fun _ p hp => q _ _ (same_new hp) (Rp.newT hp (ra.cut lo hi) (Nat.le_trans (cutV_length _ _ _) za))⟩
    refine q _ H (Same.refl H) (Rp.tup ha za ?_)
    have e : cutD ds lo hi = ds := by
      unfold cutD
      rw [← ra.length, hw.1, hw.2]
      simp [ra.length]
    rw [e]; exact ra
  | none => exact (show False from q).elim
  | bool b => exact (show False from q).elim
  | int i => exact (show False from q).elim
  | str z => exact (show False from q).elim
  | dict kvs => exact (show False from q).elim
end
end Ws

set_option Elab.async false
set_option linter.all false
set_option maxRecDepth 100000
set_option maxHeartbeats 4000000
/-! Sim7: the built-in functions -/
namespace Ws
open PySem PySem.Spec PyProof.Rows L2

/-! ### sorting: by insertion -/
theorem insD_at {α : Type} {le : α → α → Bool} {a : α} : ∀ {l r : List α}, (∀ b ∈ l, le a b = false) → (∀ b ∈ r.head?, le a b = true) → insD le a (l ++ r) = l ++ a :: r
  | [], [], _, _ => rfl
  | [], b :: r, _, h => by
    show (if le a b = true then _ else _) = _
    rw [if_pos (h b rfl)]; rfl
  | b :: l, r, h, h' => by
    show (if le a b = true then _ else _) = _
    rw [if_neg (by rw [h b List.mem_cons_self]; decide)]
    exact congrArg (b :: ·) (insD_at (l := l) (fun c hc => h c (List.mem_cons_of_mem _ hc)) h')
theorem sortD_merge {α : Type} {le : α → α → Bool} (tr : ∀ a b c, le a b = true → le b c = true → le a c = true) (tot : ∀ a b, (le a b || le b a) = true) : ∀ xs : List α, xs.mergeSort le = sortD le xs
  | [] => by simp [sortD]
  | a :: xs => by
    obtain ⟨l1, l2, e1, e2, h⟩ := List.mergeSort_cons tr tot a xs
    have ih := sortD_merge tr tot xs
    show _ = insD le a (sortD le xs)
    rw [← ih, e2, e1]
    refine (insD_at (fun b hb => by simpa using h b hb) fun b hb => ?_).symm
    have s : ((a :: xs).mergeSort le).Pairwise fun x y => le x y = true := List.pairwise_mergeSort tr tot (a :: xs)
    rw [e1] at s
    have s2 := (List.pairwise_append.mp s).2.1
    refine (List.pairwise_cons.mp s2).1 b ?_
    cases l2 with
    | nil => cases hb
    | cons c r => simp at hb; subst hb; exact List.mem_cons_self
theorem leT_eq : PySem.W.dataLe false (fun d : D => d) = leT := by
  funext a b
  rw [PySem.W.dataLe_eq]; rfl
theorem sortD_data (xs : List D) : xs.mergeSort (PySem.W.dataLe false fun d : D => d) = sortD leT xs := by
  rw [← leT_eq]
  have t := PySem.W.sortLe_total (PyProof.Rows.listOrd itemOrd) false fun d : D => PySem.W.keyToks d
  exact sortD_merge t.trans (fun a b => by rw [Bool.or_eq_true]; exact t.total a b) xs
theorem sortD_perm {α : Type} {le : α → α → Bool} : ∀ xs : List α, (sortD le xs).Perm xs
  | [] => .nil
  | a :: xs => by
    have ins : ∀ (l : List α), (insD le a l).Perm (a :: l) := fun l => by
      induction l with
      | nil => exact .refl _
      | cons b l ih =>
        show (if le a b = true then _ else _ : List α).Perm _
        split
        · exact .refl _
        · exact (ih.cons b).trans (.swap a b l)
    exact (ins _).trans ((sortD_perm xs).cons a)

theorem allOk_of {xs : List D} (h : allOk xs = true) : PySem.W.AllAlike xs ∧ (∀ d ∈ xs, d ≠ .none) ∧ ∀ d ∈ xs, lim 40 d = true := by
  unfold allOk at h
  rw [List.all_eq_true] at h
  refine ⟨fun d hd e he => ?_, fun d hd => ?_, fun d hd => ?_⟩
  · have := h d hd
    simp only [Bool.and_eq_true, List.all_eq_true] at this
    exact this.2 e he
  · have := h d hd
    simp only [Bool.and_eq_true, Bool.not_eq_true'] at this
    exact isNone_iff this.1.1
  · have := h d hd
    simp only [Bool.and_eq_true] at this
    exact this.1.2
theorem sortOk_of {xs : List D} (h : sortOk xs = true) : PySem.W.AllAlike xs ∧ PySem.W.Sortable xs ∧ ∀ d ∈ xs, lim 40 d = true := by
  unfold sortOk at h
  simp only [Bool.and_eq_true, Bool.or_eq_true] at h
  obtain ⟨h1, h2⟩ := h
  obtain ⟨a, n, l⟩ := allOk_of h1
  refine ⟨a, ?_, l⟩
  rcases h2 with h2 | h2
  · refine .inl fun d hd => ?_
    have := List.all_eq_true.mp h2 d hd
    cases d <;> simp [isTup] at this
    rename_i ys
    cases ys with
    | nil => simp [isTup] at this
    | cons y r => exact ⟨y, r, rfl⟩
  · refine .inr fun d hd => ⟨n d hd, fun ys e => ?_⟩
    have := List.all_eq_true.mp h2 d hd
    subst e
    simp [isTupE] at this

section
variable {K : PySem.W.Frag} {O : Ow} {H : Hp}
/-- the values behind a list's items: what they stand for -/
def RV (K : PySem.W.Frag) (O : Ow) (H : Hp) (u : Value) (d : D) : Prop := ∃ x, RelV x u ∧ Rp K O H x d
theorem rv_each : ∀ {xs : List V} {us : List Value} {ds : List D}, Vals xs us → Rps K O H xs ds → PySem.W.EachIs (RV K O H) us ds
  | _, _, _, .nil, .nil => .nil
  | _, _, _, .cons r rs, .cons h hs => .cons ⟨_, r, h⟩ (rv_each rs hs)
theorem rv_back : ∀ {us : List Value} {ds : List D}, PySem.W.EachIs (RV K O H) us ds → ∃ xs, Vals xs us ∧ Rps K O H xs ds
  | _, _, .nil => ⟨[], .nil, .nil⟩
  | _, _, .cons ⟨x, r, h⟩ t => by
    obtain ⟨xs, rs, hs⟩ := rv_back t
    exact ⟨x :: xs, .cons r rs, .cons h hs⟩
inductive RpWs (K : PySem.W.Frag) (O : Ow) (H : Hp) : List V → List D → Prop
  | nil : RpWs K O H [] []
  | cons {v : V} {vs : List V} {d : D} {ds : List D} : RpW K O H v d → RpWs K O H vs ds → RpWs K O H (v :: vs) (d :: ds)
theorem Rps.weak : ∀ {vs : List V} {ds : List D}, Rps K O H vs ds → RpWs K O H vs ds
  | _, _, .nil => .nil
  | _, _, .cons h r => .cons h.weak (Rps.weak r)
theorem RpWs.same {H' : Hp} (s : Same H H') : ∀ {vs : List V} {ds : List D}, RpWs K O H vs ds → RpWs K O H' vs ds
  | _, _, .nil => .nil
  | _, _, .cons h r => .cons (h.same s) (RpWs.same s r)
end

section
variable {X : Cx} {pins : List (Addr × Obj)} {s : Shared} {σ : L2.St} {H : Hp}
theorem reads_each (I : Inv X pins σ H s) {O : Ow} : ∀ {xs : List V} {us : List Value} {ds : List D}, Vals xs us → Rps X.K O H xs ds → (∀ d ∈ ds, lim 40 d = true) → PySem.W.EachIs (fun v d => ∃ as, Reads s.heap v d as) us ds
  | _, _, _, .nil, .nil, _ => .nil
  | _, _, _, .cons r rs, .cons h hs, l => .cons (reads2 I r h.weak (l _ List.mem_cons_self)) (reads_each I rs hs fun d hd => l d (List.mem_cons_of_mem _ hd))
theorem reads_all (I : Inv X pins σ H s) {O : Ow} : ∀ {xs : List V} {us : List Value} {ds : List D}, Vals xs us → Rps X.K O H xs ds → (∀ d ∈ ds, lim 40 d = true) → ∃ as, ReadsAll s.heap us ds as
  | _, _, _, .nil, .nil, _ => ⟨_, .nil⟩
  | _, _, _, .cons r rs, .cons h hs, l => by
    obtain ⟨as, h1⟩ := reads2 I r h.weak (l _ List.mem_cons_self)
    obtain ⟨bs, h2⟩ := reads_all I rs hs fun d hd => l d (List.mem_cons_of_mem _ hd)
    exact ⟨_, .cons h1 h2⟩
theorem depths_all {ds : List D} (l : ∀ d ∈ ds, lim 40 d = true) : PyData.depthAll ds ≤ 40 := by
  induction ds with
  | nil => simp [PyData.depthAll]
  | cons d ds ih =>
    have h1 := lim_depth 40 d (l d List.mem_cons_self)
    have h2 := ih fun e he => l e (List.mem_cons_of_mem _ he)
    simp only [PyData.depthAll]; omega
end

/-- what stands for the built-in -/
def biVal : Bi → Value
  | .len => .builtin "len" | .abs => .builtin "abs" | .max => .builtin "max" | .min => .builtin "min" | .maxd => .builtin "max" | .mind => .builtin "min"
  | .sum => .builtin "sum" | .any => .builtin "any" | .all => .builtin "all" | .sorted => .builtin "sorted"
  | .tuple => .type "tuple" | .list => .type "list" | .int => .type "int" | .gcd => .builtin "math.gcd" | .str => .type "str"
/-- its answer is new -/
abbrev biNew : Bi → Bool := biFr
/-- an answer, new or not -/
def PoB (fr : Bool) (K : PySem.W.Frag) (O : Ow) (H : Hp) (r : Rs D) (Q : VK) : Prop := match fr with
  | true => PoF K O H r Q
  | false => Po K O H r Q
abbrev rBi (K : PySem.W.Frag) (b : Bi) : List V → Hp → VK → Prop := fun xs H Q => ∃ O ds, OT O H ∧ RpWs K O H xs ds ∧ PoB (biNew b) K O H (biD b ds) Q

section
variable {X : Cx}
theorem intsD_some {K : PySem.W.Frag} {O : Ow} {H : Hp} : ∀ {xs : List V} {ds : List D} {ns : List Int}, Rps K O H xs ds → intsD ds = some ns → xs = ns.map V.int
  | _, _, ns, .nil, h => by simp [intsD] at h; subst h; rfl
  | _, _, ns, .cons (d := d) (ds := ds) h r, e => by
    have e' : (intOf d).bind (fun i => (intsD ds).map (i :: ·)) = some ns := by
      unfold intsD at e ⊢
      rw [List.mapM_cons] at e
      cases h1 : intOf d with
      | none => rw [h1] at e; cases e
      | some i =>
        rw [h1] at e
        cases h2 : ds.mapM intOf with
        | none => rw [h2] at e; cases e
        | some l => rw [h2] at e; exact e
    cases d <;> try (cases e'; done)
    rename_i i
    cases h
    cases h2 : intsD ds with
    | none => rw [h2] at e'; cases e'
    | some l =>
      rw [h2] at e'
      cases e'
      rw [intsD_some r h2]; rfl
theorem bolsD_some {K : PySem.W.Frag} {O : Ow} {H : Hp} : ∀ {xs : List V} {ds : List D} {ns : List Bool}, Rps K O H xs ds → bolsD ds = some ns → xs = ns.map V.bl
  | _, _, ns, .nil, h => by simp [bolsD] at h; subst h; rfl
  | _, _, ns, .cons (d := d) (ds := ds) h r, e => by
    have e' : (bolOf d).bind (fun i => (bolsD ds).map (i :: ·)) = some ns := by
      unfold bolsD at e ⊢
      rw [List.mapM_cons] at e
      cases h1 : bolOf d with
      | none => rw [h1] at e; cases e
      | some i =>
        rw [h1] at e
        cases h2 : ds.mapM bolOf with
        | none => rw [h2] at e; cases e
        | some l => rw [h2] at e; exact e
    cases d <;> try (cases e'; done)
    rename_i i
    cases h
    cases h2 : bolsD ds with
    | none => rw [h2] at e'; cases e'
    | some l =>
      rw [h2] at e'
      cases e'
      rw [bolsD_some r h2]; rfl
theorem listW {K : PySem.W.Frag} {O : Ow} {H : Hp} {v : V} {ds : List D} (h : RpW K O H v (.list ds)) : ∃ a xs, v = .ref a ∧ SqL K H a xs ∧ xs.length ≤ sizeLine ∧ Rps K O H xs ds := h
theorem tupW {K : PySem.W.Frag} {O : Ow} {H : Hp} {v : V} {ds : List D} (h : RpW K O H v (.tuple ds)) : ∃ a xs, v = .ref a ∧ SqT K H a xs ∧ xs.length ≤ sizeLine ∧ Rps K O H xs ds := by
  cases (show Rp K O H v _ from h) with
  | tup ha z r => exact ⟨_, _, rfl, ha, z, r⟩
theorem intW {K : PySem.W.Frag} {O : Ow} {H : Hp} {v : V} {i : Int} (h : RpW K O H v (.int i)) : v = .int i := by
  cases (show Rp K O H v _ from h); rfl
theorem boolW {K : PySem.W.Frag} {O : Ow} {H : Hp} {v : V} {b : Bool} (h : RpW K O H v (.bool b)) : v = .bl b := by
  cases (show Rp K O H v _ from h); rfl
theorem strW {K : PySem.W.Frag} {O : Ow} {H : Hp} {v : V} {x : Str} (h : RpW K O H v (.str x)) : v = .str x ∧ PyData.strOk x = true ∧ x.length ≤ sizeLine := by
  cases (show Rp K O H v _ from h) with
  | str _ h1 h2 => exact ⟨rfl, h1, h2⟩
theorem one_of {K : PySem.W.Frag} {O : Ow} {H : Hp} {xs : List V} {d : D} (h : RpWs K O H xs [d]) : ∃ x, xs = [x] ∧ RpW K O H x d := by
  cases h with
  | cons h t => cases t; exact ⟨_, rfl, h⟩
theorem two_of {K : PySem.W.Frag} {O : Ow} {H : Hp} {xs : List V} {d e : D} (h : RpWs K O H xs [d, e]) : ∃ x y, xs = [x, y] ∧ RpW K O H x d ∧ RpW K O H y e := by
  cases h with
  | cons h t =>
    cases t with
    | cons h2 t2 => cases t2; exact ⟨_, _, rfl, h, h2⟩

theorem bi_len : CallR X (.builtin "len") (rBi X.K .len) := by
  intro pins s σ H xs us Q I r h
  obtain ⟨O, ds, ot, hd, q⟩ := h
  have q : PoF X.K O H (biD .len ds) Q := q
  match ds, hd, q with
  | [.list ds], hd, q =>
    obtain ⟨x, rfl, h1⟩ := one_of hd
    obtain ⟨a, ys, rfl, ha, z, ra⟩ := listW h1
    refine call_len pins s σ H _ us Q I r ⟨_, ys.length, rfl, .inl ⟨ys, ha, rfl⟩, ?_⟩
    rw [ra.length]; exact PoF.int q
  | [.tuple ds], hd, q =>
    obtain ⟨x, rfl, h1⟩ := one_of hd
    obtain ⟨a, ys, rfl, ha, z, ra⟩ := tupW h1
    refine call_len pins s σ H _ us Q I r ⟨_, ys.length, rfl, .inr ⟨ys, ha, rfl⟩, ?_⟩
    rw [ra.length]; exact PoF.int q
  | [.str z], hd, q =>
    obtain ⟨x, rfl, h1⟩ := one_of hd
    obtain ⟨rfl, h2, h3⟩ := strW h1
    exact call_len pins s σ H _ us Q I r ⟨_, z.length, rfl, ⟨h3, rfl⟩, PoF.int q⟩
  | [.dict kvs], hd, q =>
    obtain ⟨x, rfl, h1⟩ := one_of hd
    obtain ⟨a, vs, rfl, ha, ra⟩ := h1
    obtain ⟨u, rfl, ru⟩ := vals1 r
    cases ru
    have e := ra.length
    exact d_len I (.inl ha) fun t s' I' => ⟨.int vs.length, H, I', ⟨_, rfl⟩, by rw [e]; exact PoF.int q⟩
  | [], _, q => exact q.st.elim
  | [.none], _, q => exact q.st.elim
  | [.bool _], _, q => exact q.st.elim
  | [.int _], _, q => exact q.st.elim
  | _ :: _ :: _, _, q => exact (show False by simpa [biD, PoF] using q).elim
theorem bi_abs : CallR X (.builtin "abs") (rBi X.K .abs) := by
  intro pins s σ H xs us Q I r h
  obtain ⟨O, ds, ot, hd, q⟩ := h
  have q : PoF X.K O H (biD .abs ds) Q := q
  match ds, hd, q with
  | [.int i], hd, q =>
    obtain ⟨x, rfl, h1⟩ := one_of hd
    cases intW h1
    exact call_abs pins s σ H _ us Q I r ⟨i, rfl, PoF.int q⟩
  | [], _, q => exact q.st.elim
  | [.none], _, q => exact q.st.elim
  | [.bool _], _, q => exact q.st.elim
  | [.str _], _, q => exact q.st.elim
  | [.list _], _, q => exact q.st.elim
  | [.tuple _], _, q => exact q.st.elim
  | [.dict _], _, q => exact q.st.elim
  | _ :: _ :: _, _, q => exact (show False by simpa [biD, PoF] using q).elim
theorem bi_int : CallR X (.type "int") (rBi X.K .int) := by
  intro pins s σ H xs us Q I r h
  obtain ⟨O, ds, ot, hd, q⟩ := h
  have q : PoF X.K O H (biD .int ds) Q := q
  match ds, hd, q with
  | [.int i], hd, q =>
    obtain ⟨x, rfl, h1⟩ := one_of hd
    cases intW h1
    exact call_int1 pins s σ H _ us Q I r (.inl ⟨i, rfl, PoF.int q⟩)
  | [.bool b], hd, q =>
    obtain ⟨x, rfl, h1⟩ := one_of hd
    cases boolW h1
    exact call_int1 pins s σ H _ us Q I r (.inr ⟨b, rfl, PoF.int q⟩)
  | [], _, q => exact q.st.elim
  | [.none], _, q => exact q.st.elim
  | [.str _], _, q => exact q.st.elim
  | [.list _], _, q => exact q.st.elim
  | [.tuple _], _, q => exact q.st.elim
  | [.dict _], _, q => exact q.st.elim
  | _ :: _ :: _, _, q => exact (show False by simpa [biD, PoF] using q).elim
theorem biD_gcd (ds : List D) : (∃ a b, ds = [.int a, .int b]) ∨ biD .gcd ds = .st := by
  unfold biD; split <;> first | (exact .inl ⟨_, _, rfl⟩) | (exact .inr rfl) | simp_all
theorem bi_gcd : CallR X (.builtin "math.gcd") (rBi X.K .gcd) := by
  intro pins s σ H xs us Q I r h
  obtain ⟨O, ds, ot, hd, q⟩ := h
  have q : PoF X.K O H (biD .gcd ds) Q := q
  rcases biD_gcd ds with ⟨a, b, rfl⟩ | e
  · obtain ⟨x, y, rfl, h1, h2⟩ := two_of hd
    cases intW h1; cases intW h2
    exact cr_gcd pins s σ H _ us Q I r ⟨a, b, rfl, PoF.int q⟩
  · rw [e] at q; exact q.st.elim
end
end Ws

set_option Elab.async false
set_option linter.all false
set_option maxRecDepth 100000
set_option maxHeartbeats 4000000
/-! Sim8: the built-in functions of lists -/
namespace Ws
open PySem PySem.Spec PyProof.Rows L2
section
variable {X : Cx}
theorem biD_sum (ds : List D) : (∃ xs, ds = [.list xs]) ∨ biD .sum ds = .st := by
  unfold biD; split <;> first | (exact .inl ⟨_, rfl⟩) | (exact .inr rfl) | simp_all
theorem biD_any (ds : List D) : (∃ xs, ds = [.list xs]) ∨ biD .any ds = .st := by
  unfold biD; split <;> first | (exact .inl ⟨_, rfl⟩) | (exact .inr rfl) | simp_all
theorem biD_all (ds : List D) : (∃ xs, ds = [.list xs]) ∨ biD .all ds = .st := by
  unfold biD; split <;> first | (exact .inl ⟨_, rfl⟩) | (exact .inr rfl) | simp_all
theorem biD_tuple (ds : List D) : (∃ xs, ds = [.list xs]) ∨ (∃ xs, ds = [.tuple xs]) ∨ biD .tuple ds = .st := by
  unfold biD; split <;> first | (exact .inl ⟨_, rfl⟩) | (exact .inr (.inl ⟨_, rfl⟩)) | (exact .inr (.inr rfl)) | simp_all
theorem biD_list (ds : List D) : (∃ xs, ds = [.list xs]) ∨ (∃ xs, ds = [.tuple xs]) ∨ biD .list ds = .st := by
  unfold biD; split <;> first | (exact .inl ⟨_, rfl⟩) | (exact .inr (.inl ⟨_, rfl⟩)) | (exact .inr (.inr rfl)) | simp_all
theorem biD_sorted (ds : List D) : (∃ xs, ds = [.list xs]) ∨ (∃ xs, ds = [.tuple xs]) ∨ biD .sorted ds = .st := by
  unfold biD; split <;> first | (exact .inl ⟨_, rfl⟩) | (exact .inr (.inl ⟨_, rfl⟩)) | (exact .inr (.inr rfl)) | simp_all
theorem biD_max (ds : List D) : (∃ i j, ds = [.int i, .int j]) ∨ (∃ xs, ds = [.list xs]) ∨ (∃ xs, ds = [.tuple xs]) ∨ biD .max ds = .st := by
  unfold biD; split <;> first | (exact .inl ⟨_, _, rfl⟩) | (exact .inr (.inl ⟨_, rfl⟩)) | (exact .inr (.inr (.inl ⟨_, rfl⟩))) | (exact .inr (.inr (.inr rfl))) | simp_all
theorem biD_min (ds : List D) : (∃ i j, ds = [.int i, .int j]) ∨ (∃ xs, ds = [.list xs]) ∨ (∃ xs, ds = [.tuple xs]) ∨ biD .min ds = .st := by
  unfold biD; split <;> first | (exact .inl ⟨_, _, rfl⟩) | (exact .inr (.inl ⟨_, rfl⟩)) | (exact .inr (.inr (.inl ⟨_, rfl⟩))) | (exact .inr (.inr (.inr rfl))) | simp_all

theorem bi_sum (hc : X.calm = true) : CallR X (.builtin "sum") (rBi X.K .sum) := by
  intro pins s σ H xs us Q I r h
  obtain ⟨O, ds, ot, hd, q⟩ := h
  have q : PoF X.K O H (biD .sum ds) Q := q
  rcases biD_sum ds with ⟨es, rfl⟩ | e
  · obtain ⟨x, rfl, h1⟩ := one_of hd
    obtain ⟨a, ys, rfl, ha, z, ra⟩ := listW h1
    have q : PoF X.K O H ((Rs.of (intsD es)).bnd fun ns => .ok (.int ns.sum)) Q := q
    cases e : intsD es with
    | none => rw [e] at q; exact q.st.elim
    | some ns =>
      rw [e] at q
      have := intsD_some ra e
      subst this
      exact cr_sum hc pins s σ H _ us Q I r ⟨a, ns, rfl, ha, PoF.int q⟩
  · rw [e] at q; exact q.st.elim
theorem bi_any (hc : X.calm = true) : CallR X (.builtin "any") (rBi X.K .any) := by
  intro pins s σ H xs us Q I r h
  obtain ⟨O, ds, ot, hd, q⟩ := h
  have q : PoF X.K O H (biD .any ds) Q := q
  rcases biD_any ds with ⟨es, rfl⟩ | e
  · obtain ⟨x, rfl, h1⟩ := one_of hd
    obtain ⟨a, ys, rfl, ha, z, ra⟩ := listW h1
    have q : PoF X.K O H ((Rs.of (bolsD es)).bnd fun ns => .ok (.bool (ns.any id))) Q := q
    cases e : bolsD es with
    | none => rw [e] at q; exact q.st.elim
    | some ns =>
      rw [e] at q
      have := bolsD_some ra e
      subst this
      exact cr_any hc pins s σ H _ us Q I r ⟨a, ns, rfl, ha, PoF.bool q⟩
  · rw [e] at q; exact q.st.elim
theorem bi_all (hc : X.calm = true) : CallR X (.builtin "all") (rBi X.K .all) := by
  intro pins s σ H xs us Q I r h
  obtain ⟨O, ds, ot, hd, q⟩ := h
  have q : PoF X.K O H (biD .all ds) Q := q
  rcases biD_all ds with ⟨es, rfl⟩ | e
  · obtain ⟨x, rfl, h1⟩ := one_of hd
    obtain ⟨a, ys, rfl, ha, z, ra⟩ := listW h1
    have q : PoF X.K O H ((Rs.of (bolsD es)).bnd fun ns => .ok (.bool (ns.all id))) Q := q
    cases e : bolsD es with
    | none => rw [e] at q; exact q.st.elim
    | some ns =>
      rw [e] at q
      have := bolsD_some ra e
      subst this
      exact cr_all hc pins s σ H _ us Q I r ⟨a, ns, rfl, ha, PoF.bool q⟩
  · rw [e] at q; exact q.st.elim
theorem bi_tuple : CallR X (.type "tuple") (rBi X.K .tuple) := by
  intro pins s σ H xs us Q I r h
  obtain ⟨O, ds, ot, hd, q⟩ := h
  have q : PoF X.K O H (biD .tuple ds) Q := q
  rcases biD_tuple ds with ⟨es, rfl⟩ | ⟨es, rfl⟩ | e
  · obtain ⟨x, rfl, h1⟩ := one_of hd
    obtain ⟨a, ys, rfl, ha, z, ra⟩ := listW h1
    exact call_tuple_of pins s σ H _ us Q I r ⟨a, ys, rfl, .inl ⟨ha, fun l hl => q _ _ (same_new hl) (Rp.newT hl ra z)⟩⟩
  · obtain ⟨x, rfl, h1⟩ := one_of hd
    obtain ⟨a, ys, rfl, ha, z, ra⟩ := tupW h1
    exact call_tuple_of pins s σ H _ us Q I r ⟨a, ys, rfl, .inr ⟨ha, q _ H (Same.refl H) (Rp.tup ha z ra)⟩⟩
  · rw [e] at q; exact q.st.elim
theorem bi_list : CallR X (.type "list") (rBi X.K .list) := by
  intro pins s σ H xs us Q I r h
  obtain ⟨O, ds, ot, hd, q⟩ := h
  have q : PoF X.K O H (biD .list ds) Q := q
  rcases biD_list ds with ⟨es, rfl⟩ | ⟨es, rfl⟩ | e
  · obtain ⟨x, rfl, h1⟩ := one_of hd
    obtain ⟨a, ys, rfl, ha, z, ra⟩ := listW h1
    exact call_list_of pins s σ H _ us Q I r ⟨a, ys, rfl, .inl ha, fun l hl => q _ _ (same_new hl) (Fr.newL hl ra z)⟩
  · obtain ⟨x, rfl, h1⟩ := one_of hd
    obtain ⟨a, ys, rfl, ha, z, ra⟩ := tupW h1
    exact call_list_of pins s σ H _ us Q I r ⟨a, ys, rfl, .inr ha, fun l hl => q _ _ (same_new hl) (Fr.newL hl ra z)⟩
  · rw [e] at q; exact q.st.elim

/-! ### sorted -/
/-- the new list behind sorted -/
theorem sorted_end {pins : List (Addr × Obj)} {s : Shared} {σ : L2.St} {H : Hp} {O : Ow} {es : List D} {vs out : List Value} {Q : VK} (I : Inv X pins σ H s) (hz : es.length ≤ sizeLine) (hl : out.length = es.length)
    (eo : PySem.W.EachIs (RV X.K O H) out (es.mergeSort (PySem.W.dataLe false fun d : D => d))) (q : PoF X.K O H (.ok (.list (sortD leT es))) Q) :
    EP X pins σ Q (.ref (s.heap.objs.size + 1)) { s with heap := sortedAll s.heap vs out.toArray } := by
  rw [sortD_data] at eo
  obtain ⟨xs, r1, r2⟩ := rv_back eo
  obtain ⟨c, hc⟩ := sortedAll_at s.heap vs out.toArray
  have hn : H (s.heap.objs.size + 1) = none := I.hok.fresh (Nat.le_succ _)
  have hx : xs.length ≤ sizeLine := by rw [r1.length, hl]; exact hz
  refine ⟨.ref (s.heap.objs.size + 1), upd H (s.heap.objs.size + 1) (.lst xs), I.laid (t' := s.toks) (fun b o e => sortedAll_old e) (Nat.le_succ _) ⟨hx, out, c, r1, hc⟩, rfl, ?_⟩
  exact q _ _ (same_new hn) (Fr.newL hn r2 hx)
/-- as list.sort and sorted begin: a new list of a tuple's items -/
theorem collect_tup {prog : Program} {w : World} {A : Around} {E : Value → Shared → Prop} {s : Shared} {l : Addr} {vs : List Value} {Q : List Value → Shared → Prop} (hl : IsTup s.heap l vs.toArray) (hsz : vs.length ≤ sizeLine)
    (h : Q vs { s with heap := (s.heap.push (seqObj "list" #[] 0)).update s.heap.objs.size (Obj.mapSeq (· ++ vs.toArray)) }) : wpAny (model prog w) A (collect (.ref l)) Q E s := by
  obtain ⟨o, ho, hc, n, hd⟩ := id hl
  unfold collect
  refine wpAny_bind (wpAny_runValue (codeAny_builtin entry_proto_collect' ?_))
  show wpAny _ _ (do again (.builtin "list.__iadd__" ⟨[← newList [], .ref l], []⟩)) _ _ s
  refine wpAny_bind (wpAny_newList (wpAny_pure ⟨Code.quiet_builtin _ (by decide +kernel), codeAny_builtin entry_list_iadd' ?_⟩))
  have ho2 : (s.heap.push (seqObj "list" #[] 0)).get? l = some o := Heap.get?_push_of_some _ ho
  have hnew := Heap.get?_push_size s.heap (o := seqObj "list" #[] 0) rfl
  show wpAny _ _ (Builtin.List.listExtendWith (.ref s.heap.objs.size) (.ref l) (.ref s.heap.objs.size)) _ _ { s with heap := s.heap.push (seqObj "list" #[] 0) }
  unfold Builtin.List.listExtendWith
  refine wpAny_bind (wpAny_typeOf (T := "tuple") ⟨o, ho2, hc⟩ ?_)
  have ht : (Value.type "tuple" == Value.type "tuple") = true := rfl
  rw [if_pos (by rw [ht]; simp)]
  refine wpAny_bind (listItems_at ho2 hd (wpAny_bind (listItems_at (xs := #[]) (n := 0) hnew rfl ?_)))
  rw [if_neg (by simp)]
  refine wpAny_bind (listUpdate_at (xs := #[]) (n := 0) hnew rfl (wpAny_pure ?_) (Nat.zero_le _) (by show (#[] ++ vs.toArray).size ≤ sizeLine + 1; simp only [Array.size_append, List.size_toArray, List.length_nil]; omega))
  refine wpAny_bind (wpAny_load (get?_update_seq hnew _) ?_)
  have e : ((#[] : Array Value) ++ vs.toArray).toList = vs := by simp
  show wpAny _ _ (pure ((#[] : Array Value) ++ vs.toArray).toList) Q E _
  rw [e]
  exact wpAny_pure h
theorem map_idD (ds : List D) : ds.map (fun d : D => d) = ds := List.map_id' ds
theorem sorted_tup {prog : Program} {w : World} {A : Around} {E : Value → Shared → Prop} {s : Shared} {R : Value → D → Prop} {l : Addr} {vs : List Value} {bs : List D} {Q : Value → Shared → Prop} (hl : IsTup s.heap l vs.toArray) (e : PySem.W.EachIs R vs bs)
    (er : PySem.W.EachIs (fun v d => ∃ as, Reads s.heap v d as) vs bs) (hal : PySem.W.AllAlike bs) (hk : PySem.W.Sortable bs) (hL : bs.length ≤ sizeLine) (hu : ∀ b, b ∈ bs → A.units + 2 + b.depth < cLine)
    (h : ∀ out, out.length = bs.length → PySem.W.EachIs R out (bs.mergeSort (PySem.W.dataLe false fun d : D => d)) → Q (.ref (s.heap.objs.size + 1)) { s with heap := sortedAll s.heap vs (List.toArray out) }) :
    wpAny (model prog w) A (PySem.call (.builtin "sorted") [.ref l]) Q E s := by
  have hz : vs.length ≤ sizeLine := by rw [e.length]; exact hL
  have er' : PySem.W.EachIs (fun v d => ∃ as, Reads (PySem.W.sortingHeap (PySem.W.copyHeap s.heap vs) (s.heap.objs.size + 1) vs) v d as) vs bs := er.mono fun _ _ ⟨as, r⟩ => ⟨as, PyProof.Rows.Reads.keeps (fun _ _ => PySem.W.sorting_copy_old) r⟩
  have S := PySem.W.SortsAt.data (prog := prog) (w := w) (A := A.in1.in1) (s := { s with heap := PySem.W.sortingHeap (PySem.W.copyHeap s.heap vs) (s.heap.objs.size + 1) vs }) er' hal hk (fun d hd => hu d hd)
  refine call_function_entry_kw kind_sorted plain_sorted entry_sorted (args_sorted1 _) ?_
  unfold Builtin.«sorted»
  refine wpAny_bind (m := checkCount "sorted" 1 1 _) (wpAny_pure (wpAny_bind (collect_tup hl hz (wpAny_bind (wpAny_newList ?_ hz)))))
  have hsz : ((s.heap.push (seqObj "list" #[] 0)).update s.heap.objs.size (Obj.mapSeq (· ++ vs.toArray))).objs.size = s.heap.objs.size + 1 := by
    rw [Heap.size_update, size_push']
  show wpAny _ _ _ _ _ { s with heap := PySem.W.copyHeap s.heap vs }
  rw [hsz]
  have hat := PySem.W.copyHeap_at s.heap vs
  refine wpAny_bind (wpAny_holding (wpAny_call_entry_kw slot_list_sort ⟨_, hat, rfl⟩ entry_list_sort (PySem.W.list_sort_vals (s := { s with heap := PySem.W.copyHeap s.heap vs }) hat S hz ⟨_, rfl, ?_⟩) (args_list_sort _)))
  refine wpAny_pure ⟨_, rfl, h _ ?_ ?_⟩
  · rw [PySem.W.sortVals_length false rfl]; exact e.length
  · have z := PySem.W.sortVals_data (enc := fun d : D => d) false e (by exact er') (by rw [List.map_id']; exact hal)
    rw [map_idD] at z
    exact z
theorem bi_sorted (hu : X.A.units + 64 < cLine) : CallR X (.builtin "sorted") (rBi X.K .sorted) := by
  intro pins s σ H xs us Q I r h
  obtain ⟨O, ds, ot, hd, q⟩ := h
  have q : PoF X.K O H (biD .sorted ds) Q := q
  rcases biD_sorted ds with ⟨es, rfl⟩ | ⟨es, rfl⟩ | e
  · obtain ⟨x, rfl, h1⟩ := one_of hd
    obtain ⟨a, ys, rfl, ha, z, ra⟩ := listW h1
    have q : PoF X.K O H (if sortOk es then .ok (.list (sortD leT es)) else .st) Q := q
    split at q
    · rename_i ok
      obtain ⟨al, so, li⟩ := sortOk_of ok
      obtain ⟨u, rfl, ru⟩ := vals1 r
      obtain rfl : u = Value.ref a := ru
      obtain ⟨its, rv, hl, _⟩ := I.list ha
      have hz : es.length ≤ sizeLine := by rw [← ra.length]; exact z
      exact PySem.W.sorted_data (enc := fun d : D => d) hl.isList (rv_each rv ra) (reads_each I rv ra li) (by rw [map_idD]; exact al) (by rw [map_idD]; exact so) hz
        (fun b hb => by have := lim_depth 40 b (li b hb); show X.A.units + 2 + b.depth < cLine; omega) fun out ho eo => sorted_end I hz ho eo q
    · exact q.st.elim
  · obtain ⟨x, rfl, h1⟩ := one_of hd
    obtain ⟨a, ys, rfl, ha, z, ra⟩ := tupW h1
    have q : PoF X.K O H (if sortOk es then .ok (.list (sortD leT es)) else .st) Q := q
    split at q
    · rename_i ok
      obtain ⟨al, so, li⟩ := sortOk_of ok
      obtain ⟨u, rfl, ru⟩ := vals1 r
      obtain rfl : u = Value.ref a := ru
      obtain ⟨its, rv, hl, _⟩ := I.tuple ha
      have hz : es.length ≤ sizeLine := by rw [← ra.length]; exact z
      exact sorted_tup hl (rv_each rv ra) (reads_each I rv ra li) al so hz
        (fun b hb => by have := lim_depth 40 b (li b hb); omega) fun out ho eo => sorted_end I hz ho eo q
    · exact q.st.elim
  · rw [e] at q; exact q.st.elim

/-! ### max, min -/
theorem alike_of {es : List D} (ok : allOk es = true) : PySem.W.AlikeAll es ∧ ∀ d ∈ es, lim 40 d = true := by
  obtain ⟨al, nn, li⟩ := allOk_of ok
  exact ⟨⟨al, nn⟩, li⟩
theorem best_end {pins : List (Addr × Obj)} {s : Shared} {σ : L2.St} {H : Hp} {O : Ow} {ys : List V} {its : List Value} {es : List D} {Q : VK} {d : D} {i : Nat} {v : Value} {h' : Heap} {tk : Nat} {bs : List Addr} (I : Inv X pins σ H s) (rv : Vals ys its) (ra : Rps X.K O H ys es)
    (al : PySem.W.AlikeAll es) (li : ∀ d ∈ es, lim 40 d = true) (hd : d ∈ es) (hv : its.toArray[i]? = some v) (rd : Reads h' v d bs) (k : ∀ b o, s.heap.get? b = some o → h'.get? b = some o) (q : Po X.K O H (.ok d) Q) :
    EP X pins σ Q v { s with heap := h', toks := tk } := by
  have hv' : its[i]? = some v := by simpa using hv
  have hi : i < its.length := by
    rcases Nat.lt_or_ge i its.length with h | h
    · exact h
    · rw [List.getElem?_eq_none h] at hv'; cases hv'
  have hlen := rv.length
  obtain ⟨y, hy⟩ : ∃ y, ys[i]? = some y := ⟨ys[i]'(by omega), by simp⟩
  obtain ⟨u, hu, ry⟩ := rv.get hy
  rw [hv'] at hu; cases hu
  obtain ⟨e, he, re⟩ := ra.getV hy
  have hm : e ∈ es := List.mem_of_getElem? he
  have I' : Inv X pins σ H { s with heap := h', toks := tk } := I.kept k
  obtain ⟨as, r2⟩ := reads2 I' ry re.weak (li e hm)
  have : e = d := PySem.W.alike_unique e d v as bs (al.1 e hm d hd) r2 rd
  subst this
  exact ⟨y, H, I', ry, q y H (Same.refl H) re⟩
theorem minD_mem : ∀ (xs : List D) (x : D), PySem.W.minD x xs ∈ x :: xs := by
  intro xs
  induction xs with
  | nil => intro x; exact List.mem_cons_self
  | cons y ys ih =>
    intro x
    show PySem.W.minD (if PySem.W.dataLt y x then y else x) ys ∈ _
    have := ih (if PySem.W.dataLt y x then y else x)
    rcases List.mem_cons.mp this with e | e
    · rw [e]
      split
      · exact List.mem_cons_of_mem _ List.mem_cons_self
      · exact List.mem_cons_self
    · exact List.mem_cons_of_mem _ (List.mem_cons_of_mem _ e)
theorem maxD_mem : ∀ (xs : List D) (x : D), PySem.W.maxD x xs ∈ x :: xs := by
  intro xs
  induction xs with
  | nil => intro x; exact List.mem_cons_self
  | cons y ys ih =>
    intro x
    show PySem.W.maxD (if PySem.W.dataLt x y then y else x) ys ∈ _
    have := ih (if PySem.W.dataLt x y then y else x)
    rcases List.mem_cons.mp this with e | e
    · rw [e]
      split
      · exact List.mem_cons_of_mem _ List.mem_cons_self
      · exact List.mem_cons_self
    · exact List.mem_cons_of_mem _ (List.mem_cons_of_mem _ e)
theorem Po.int {K : PySem.W.Frag} {O : Ow} {H : Hp} {i : Int} {Q : VK} (h : Po K O H (.ok (.int i)) Q) : Q (.int i) H := h _ H (Same.refl H) (Rp.int i)
theorem bi_min (hc : X.calm = true) (hu : X.A.units + 64 < cLine) : CallR X (.builtin "min") (rBi X.K .min) := by
  intro pins s σ H xs us Q I r h
  obtain ⟨O, ds, ot, hd, q⟩ := h
  have q : Po X.K O H (biD .min ds) Q := q
  rcases biD_min ds with ⟨i, j, rfl⟩ | ⟨es, rfl⟩ | ⟨es, rfl⟩ | e
  · obtain ⟨x, y, rfl, h1, h2⟩ := two_of hd
    cases intW h1; cases intW h2
    exact call_min2 hc pins s σ H _ us Q I r ⟨i, j, rfl, Po.int q⟩
  · obtain ⟨x, rfl, h1⟩ := one_of hd
    obtain ⟨a, ys, rfl, ha, z, ra⟩ := listW h1
    have q : Po X.K O H (if allOk es then Rs.of (minL es) else .st) Q := q
    split at q
    · rename_i ok
      obtain ⟨al, li⟩ := alike_of ok
      obtain ⟨u, rfl, ru⟩ := vals1 r
      obtain rfl : u = Value.ref a := ru
      obtain ⟨its, rv, hl, _⟩ := I.list ha
      obtain ⟨as, rr⟩ := reads_all I rv ra li
      have dp := depths_all li
      cases es with
      | nil => exact (show False from q).elim
      | cons e es => exact PySem.W.min_list_data (I.ok.hd hc) hl.isList (by simpa using rr) al (by omega) fun i v h' tk bs hv rd k => best_end I rv ra al li (minD_mem es e) hv rd k q
    · exact (show False from q).elim
  · obtain ⟨x, rfl, h1⟩ := one_of hd
    obtain ⟨a, ys, rfl, ha, z, ra⟩ := tupW h1
    have q : Po X.K O H (if allOk es then Rs.of (minL es) else .st) Q := q
    split at q
    · rename_i ok
      obtain ⟨al, li⟩ := alike_of ok
      obtain ⟨u, rfl, ru⟩ := vals1 r
      obtain rfl : u = Value.ref a := ru
      obtain ⟨its, rv, hl, _⟩ := I.tuple ha
      obtain ⟨as, rr⟩ := reads_all I rv ra li
      have dp := depths_all li
      cases es with
      | nil => exact (show False from q).elim
      | cons e es => exact PySem.W.min_tuple_data (I.ok.hd hc) hl (by simpa using rr) al (by omega) fun i v h' tk bs hv rd k => best_end I rv ra al li (minD_mem es e) hv rd k q
    · exact (show False from q).elim
  · rw [e] at q; exact (show False from q).elim
theorem bi_max (hc : X.calm = true) (hu : X.A.units + 64 < cLine) : CallR X (.builtin "max") (rBi X.K .max) := by
  intro pins s σ H xs us Q I r h
  obtain ⟨O, ds, ot, hd, q⟩ := h
  have q : Po X.K O H (biD .max ds) Q := q
  rcases biD_max ds with ⟨i, j, rfl⟩ | ⟨es, rfl⟩ | ⟨es, rfl⟩ | e
  · obtain ⟨x, y, rfl, h1, h2⟩ := two_of hd
    cases intW h1; cases intW h2
    exact call_max2 hc pins s σ H _ us Q I r ⟨i, j, rfl, Po.int q⟩
  · obtain ⟨x, rfl, h1⟩ := one_of hd
    obtain ⟨a, ys, rfl, ha, z, ra⟩ := listW h1
    have q : Po X.K O H (if allOk es then Rs.of (maxL es) else .st) Q := q
    split at q
    · rename_i ok
      obtain ⟨al, li⟩ := alike_of ok
      obtain ⟨u, rfl, ru⟩ := vals1 r
      obtain rfl : u = Value.ref a := ru
      obtain ⟨its, rv, hl, _⟩ := I.list ha
      obtain ⟨as, rr⟩ := reads_all I rv ra li
      have dp := depths_all li
      cases es with
      | nil => exact (show False from q).elim
      | cons e es => exact PySem.W.max_list_data (I.ok.hd hc) hl.isList (by simpa using rr) al (by omega) fun i v h' tk bs hv rd k => best_end I rv ra al li (maxD_mem es e) hv rd k q
    · exact (show False from q).elim
  · obtain ⟨x, rfl, h1⟩ := one_of hd
    obtain ⟨a, ys, rfl, ha, z, ra⟩ := tupW h1
    have q : Po X.K O H (if allOk es then Rs.of (maxL es) else .st) Q := q
    split at q
    · rename_i ok
      obtain ⟨al, li⟩ := alike_of ok
      obtain ⟨u, rfl, ru⟩ := vals1 r
      obtain rfl : u = Value.ref a := ru
      obtain ⟨its, rv, hl, _⟩ := I.tuple ha
      obtain ⟨as, rr⟩ := reads_all I rv ra li
      have dp := depths_all li
      cases es with
      | nil => exact (show False from q).elim
      | cons e es => exact PySem.W.max_tuple_data (I.ok.hd hc) hl (by simpa using rr) al (by omega) fun i v h' tk bs hv rd k => best_end I rv ra al li (maxD_mem es e) hv rd k q
    · exact (show False from q).elim
  · rw [e] at q; exact (show False from q).elim
/-- min(xs, default=d), max(xs, default=d) -/
abbrev rBiD (K : PySem.W.Frag) (b : Bi) : List V → List V → Hp → VK → Prop := fun vs zs H Q => ∃ O x z d e, vs = [x] ∧ zs = [z] ∧ OT O H ∧ RpW K O H x d ∧ Rp K O H z e ∧ Po K O H (biD b [d, e]) Q
theorem biD_mind (d e : D) : (∃ xs, d = .list xs) ∨ biD .mind [d, e] = .st := by
  cases d <;> first | exact .inl ⟨_, rfl⟩ | exact .inr rfl
theorem biD_maxd (d e : D) : (∃ xs, d = .list xs) ∨ biD .maxd [d, e] = .st := by
  cases d <;> first | exact .inl ⟨_, rfl⟩ | exact .inr rfl
theorem bi_mind (hc : X.calm = true) (hu : X.A.units + 64 < cLine) : CallRK X (.builtin "min") [Str.ofString "default"] (rBiD X.K .mind) := by
  intro pins s σ H xs zs us ws Q I r rz h
  obtain ⟨O, x, z, d, e, rfl, rfl, ot, h1, h2, q⟩ := h
  rcases biD_mind d e with ⟨es, rfl⟩ | e0
  · obtain ⟨a, ys, rfl, ha, zz, ra⟩ := listW h1
    have q : Po X.K O H (if allOk es then .ok ((minL es).getD e) else .st) Q := q
    split at q
    · rename_i ok
      obtain ⟨al, li⟩ := alike_of ok
      obtain ⟨u, rfl, ru⟩ := vals1 r
      obtain rfl : u = Value.ref a := ru
      obtain ⟨w, rfl, rw⟩ := vals1 rz
      obtain ⟨its, rv, hl, _⟩ := I.list ha
      obtain ⟨as, rr⟩ := reads_all I rv ra li
      have dp := depths_all li
      refine PySem.W.min_list_default (I.ok.hd hc) hl.isList (by simpa using rr) al (by omega) (fun h0 h' tk k => ?_) fun y es' i v h' tk bs he hv rd k => ?_
      · subst h0
        exact ⟨z, H, I.kept k, rw, q _ _ (Same.refl H) h2⟩
      · subst he
        exact best_end I rv ra al li (minD_mem es' y) hv rd k q
    · exact (show False from q).elim
  · rw [e0] at q; exact (show False from q).elim
theorem bi_maxd (hc : X.calm = true) (hu : X.A.units + 64 < cLine) : CallRK X (.builtin "max") [Str.ofString "default"] (rBiD X.K .maxd) := by
  intro pins s σ H xs zs us ws Q I r rz h
  obtain ⟨O, x, z, d, e, rfl, rfl, ot, h1, h2, q⟩ := h
  rcases biD_maxd d e with ⟨es, rfl⟩ | e0
  · obtain ⟨a, ys, rfl, ha, zz, ra⟩ := listW h1
    have q : Po X.K O H (if allOk es then .ok ((maxL es).getD e) else .st) Q := q
    split at q
    · rename_i ok
      obtain ⟨al, li⟩ := alike_of ok
      obtain ⟨u, rfl, ru⟩ := vals1 r
      obtain rfl : u = Value.ref a := ru
      obtain ⟨w, rfl, rw⟩ := vals1 rz
      obtain ⟨its, rv, hl, _⟩ := I.list ha
      obtain ⟨as, rr⟩ := reads_all I rv ra li
      have dp := depths_all li
      refine PySem.W.max_list_default (I.ok.hd hc) hl.isList (by simpa using rr) al (by omega) (fun h0 h' tk k => ?_) fun y es' i v h' tk bs he hv rd k => ?_
      · subst h0
        exact ⟨z, H, I.kept k, rw, q _ _ (Same.refl H) h2⟩
      · subst he
        exact best_end I rv ra al li (maxD_mem es' y) hv rd k q
    · exact (show False from q).elim
  · rw [e0] at q; exact (show False from q).elim
/-- a built-in that comp knows by its name -/
theorem bi_ok (hc : X.calm = true) (hu : X.A.units + 64 < cLine) {x : Str} {b : Bi} (h : biOf x = some b) : CallR X (biVal b) (rBi X.K b) ∧ bootBuiltins x = some (biVal b) ∧ x ≠ "__name__" ∧ (x == ("__debug__" : Str)) = false ∧
    ((∃ id, biVal b = .builtin id) ∨ ∃ T, biVal b = .type T) := by
  unfold biOf at h
  split at h
  · rename_i e; cases h; subst e; exact ⟨bi_len, by decide +kernel, by decide +kernel, by decide +kernel, .inl ⟨_, rfl⟩⟩
  split at h
  · rename_i e; cases h; subst e; exact ⟨bi_abs, by decide +kernel, by decide +kernel, by decide +kernel, .inl ⟨_, rfl⟩⟩
  split at h
  · rename_i e; cases h; subst e; exact ⟨bi_max hc hu, by decide +kernel, by decide +kernel, by decide +kernel, .inl ⟨_, rfl⟩⟩
  split at h
  · rename_i e; cases h; subst e; exact ⟨bi_min hc hu, by decide +kernel, by decide +kernel, by decide +kernel, .inl ⟨_, rfl⟩⟩
  split at h
  · rename_i e; cases h; subst e; exact ⟨bi_sum hc, by decide +kernel, by decide +kernel, by decide +kernel, .inl ⟨_, rfl⟩⟩
  split at h
  · rename_i e; cases h; subst e; exact ⟨bi_any hc, by decide +kernel, by decide +kernel, by decide +kernel, .inl ⟨_, rfl⟩⟩
  split at h
  · rename_i e; cases h; subst e; exact ⟨bi_all hc, by decide +kernel, by decide +kernel, by decide +kernel, .inl ⟨_, rfl⟩⟩
  split at h
  · rename_i e; cases h; subst e; exact ⟨bi_sorted hu, by decide +kernel, by decide +kernel, by decide +kernel, .inl ⟨_, rfl⟩⟩
  split at h
  · rename_i e; cases h; subst e; exact ⟨bi_tuple, by decide +kernel, by decide +kernel, by decide +kernel, .inr ⟨_, rfl⟩⟩
  split at h
  · rename_i e; cases h; subst e; exact ⟨bi_list, by decide +kernel, by decide +kernel, by decide +kernel, .inr ⟨_, rfl⟩⟩
  split at h
  · rename_i e; cases h; subst e; exact ⟨bi_int, by decide +kernel, by decide +kernel, by decide +kernel, .inr ⟨_, rfl⟩⟩
  · cases h
end
end Ws

set_option Elab.async false
set_option linter.all false
set_option maxRecDepth 100000
set_option maxHeartbeats 4000000
/-! Sim9: readings by the pure language -/
namespace Ws
open PySem PySem.Spec PyProof.Rows L2

def atS : Str := "at"
/-- the slots hold what the pure slots say -/
def ER (K : PySem.W.Frag) (O : Ow) (H : Hp) (σ : L2.St) (ε : Env) : Prop := ε.length ≤ σ.length ∧ ∀ (i : Nat) (s : Sl), ε[i]? = some s → match s with
  | .u => True
  | .f d => ∃ v, σ[i]? = some (some v) ∧ Rp K O H v d
  | .o d => ∃ v, σ[i]? = some (some v) ∧ RpW K O H v d
theorem ER.same {K : PySem.W.Frag} {O : Ow} {H H' : Hp} {σ : L2.St} {ε : Env} (h : ER K O H σ ε) (s : Same H H') : ER K O H' σ ε := ⟨h.1, fun i x e => by
  have := h.2 i x e
  cases x with
  | u => trivial
  | f d => obtain ⟨v, h1, h2⟩ := this; exact ⟨v, h1, h2.same s⟩
  | o d => obtain ⟨v, h1, h2⟩ := this; exact ⟨v, h1, h2.same s⟩⟩

/-- what is wanted of a BadValue with this place -/
def exW (K : PySem.W.Frag) (C : Addr) (W : WX) (O : Ow) (σ : L2.St) (H : Hp) (d : D) : Prop :=
  ∀ dx v H', Same H H' → H' dx = some (.xd [(atS, v)]) → Rp K O H' v d → W (.ref C) (some dx) σ H'
theorem exW.same {K : PySem.W.Frag} {C : Addr} {W : WX} {O : Ow} {σ : L2.St} {H H' : Hp} {d : D} (h : exW K C W O σ H d) (s : Same H H') : exW K C W O σ H' d :=
  fun dx v H2 s2 e r => h dx v H2 (s.trans s2) e r

/-- an answer's use -/
def Res {α : Type} (K : PySem.W.Frag) (C : Addr) (W : WX) (O : Ow) (σ : L2.St) (H : Hp) (r : Rs α) (k : α → Prop) : Prop := match r with
  | .ok a => k a
  | .ex d => exW K C W O σ H d
  | .st => False
abbrev kD (K : PySem.W.Frag) (O : Ow) (H : Hp) (Q : VK) : D → Prop := fun d => ∀ v H', Same H H' → Rp K O H' v d → Q v H'
abbrev kW (K : PySem.W.Frag) (O : Ow) (H : Hp) (Q : VK) : D → Prop := fun d => ∀ v H', Same H H' → RpW K O H' v d → Q v H'
abbrev kF (K : PySem.W.Frag) (O : Ow) (H : Hp) (Q : VK) : D → Prop := fun d => ∀ v H', Same H H' → Fr K O H H' v d → Q v H'
abbrev kT (H : Hp) (Q : Bool → Hp → Prop) : D → Prop := fun d => ∀ H', Same H H' → Q (truth d) H'
abbrev kL (K : PySem.W.Frag) (O : Ow) (H : Hp) (Q : List V → Hp → Prop) : List D → Prop := fun ds => ∀ vs H', Same H H' → Rps K O H' vs ds → Q vs H'
abbrev kLW (K : PySem.W.Frag) (O : Ow) (H : Hp) (Q : List V → Hp → Prop) : List D → Prop := fun ds => ∀ vs H', Same H H' → RpWs K O H' vs ds → Q vs H'

section
variable (K : PySem.W.Frag) (φ : Nat → List D → Rs D) (C : Addr) (W : WX)
def tD (e : E) : TE := fun σ H Q => ∃ O ε, ER K O H σ ε ∧ OT O H ∧ Res K C W O σ H (ev φ e ε) (kD K O H Q)
def tW (e : E) : TE := fun σ H Q => ∃ O ε, ER K O H σ ε ∧ OT O H ∧ Res K C W O σ H (ev φ e ε) (kW K O H Q)
def tF (e : E) : TE := fun σ H Q => ∃ O ε, ER K O H σ ε ∧ OT O H ∧ Res K C W O σ H (ev φ e ε) (kF K O H Q)
def tT (e : E) : TT := fun σ H Q => ∃ O ε, ER K O H σ ε ∧ OT O H ∧ Res K C W O σ H (ev φ e ε) (kT H Q)
def tA (es : List E) : TA := fun σ H Q => ∃ O ε, ER K O H σ ε ∧ OT O H ∧ Res K C W O σ H (evs φ es ε) (kL K O H Q)
def tAW (es : List E) : TA := fun σ H Q => ∃ O ε, ER K O H σ ε ∧ OT O H ∧ Res K C W O σ H (evs φ es ε) (kLW K O H Q)
end

section
variable {K : PySem.W.Frag} {φ : Nat → List D → Rs D} {C : Addr} {W : WX} {O : Ow} {ε : Env} {σ : L2.St} {H : Hp}
/-- through the first part of an answer -/
theorem Res.bind {α β : Type} {r : Rs α} {f : α → Rs β} {k : β → Prop} {k' : α → Prop} (h : Res K C W O σ H (r.bnd f) k) (g : ∀ a, r = .ok a → Res K C W O σ H (f a) k → k' a) : Res K C W O σ H r k' := by
  cases r with
  | ok a => exact g a rfl h
  | ex d => exact h
  | st => exact h
theorem Res.imp {α : Type} {r : Rs α} {k k' : α → Prop} (h : Res K C W O σ H r k) (g : ∀ a, r = .ok a → k a → k' a) : Res K C W O σ H r k' := by
  cases r with
  | ok a => exact g a rfl h
  | ex d => exact h
  | st => exact h
theorem Res.same {α : Type} {r : Rs α} {k k' : α → Prop} {H' : Hp} (h : Res K C W O σ H r k) (s : Same H H') (g : ∀ a, k a → k' a) : Res K C W O σ H' r k' := by
  cases r with
  | ok a => exact g a h
  | ex d => exact exW.same h s
  | st => exact h
theorem Res.sD {r : Rs D} {Q : VK} {H' : Hp} (h : Res K C W O σ H r (kD K O H Q)) (s : Same H H') : Res K C W O σ H' r (kD K O H' Q) := h.same s fun _ k v H2 s2 r => k v H2 (s.trans s2) r
theorem Res.sW {r : Rs D} {Q : VK} {H' : Hp} (h : Res K C W O σ H r (kW K O H Q)) (s : Same H H') : Res K C W O σ H' r (kW K O H' Q) := h.same s fun _ k v H2 s2 r => k v H2 (s.trans s2) r
theorem Res.sF {r : Rs D} {Q : VK} {H' : Hp} (h : Res K C W O σ H r (kF K O H Q)) (s : Same H H') : Res K C W O σ H' r (kF K O H' Q) := h.same s fun _ k v H2 s2 r => k v H2 (s.trans s2) (r.same0 s)
theorem Res.sT {r : Rs D} {Q : Bool → Hp → Prop} {H' : Hp} (h : Res K C W O σ H r (kT H Q)) (s : Same H H') : Res K C W O σ H' r (kT H' Q) := h.same s fun _ k H2 s2 => k H2 (s.trans s2)
theorem Res.sL {r : Rs (List D)} {Q : List V → Hp → Prop} {H' : Hp} (h : Res K C W O σ H r (kL K O H Q)) (s : Same H H') : Res K C W O σ H' r (kL K O H' Q) := h.same s fun _ k v H2 s2 r => k v H2 (s.trans s2) r
theorem Res.sLW {r : Rs (List D)} {Q : List V → Hp → Prop} {H' : Hp} (h : Res K C W O σ H r (kLW K O H Q)) (s : Same H H') : Res K C W O σ H' r (kLW K O H' Q) := h.same s fun _ k v H2 s2 r => k v H2 (s.trans s2) r

/-- r never is an error -/
def NoEx {α : Type} (r : Rs α) : Prop := ∀ d, r ≠ .ex d
theorem Res.poF {r : Rs D} {Q : VK} (n : NoEx r) (ot : OT O H) (h : Res K C W O σ H r (kD K O H Q)) : PoF K O H r Q := by
  cases r with
  | ok d => exact fun v H' s f => h v H' s (f.rp ot |> fun x => x)
  | ex d => exact absurd rfl (n d)
  | st => exact h
theorem Res.poF' {r : Rs D} {Q : VK} (n : NoEx r) (h : Res K C W O σ H r (kF K O H Q)) : PoF K O H r Q := by
  cases r with
  | ok d => exact h
  | ex d => exact absurd rfl (n d)
  | st => exact h
theorem Res.po {r : Rs D} {Q : VK} (n : NoEx r) (h : Res K C W O σ H r (kD K O H Q)) : Po K O H r Q := by
  cases r with
  | ok d => exact h
  | ex d => exact absurd rfl (n d)
  | st => exact h
theorem NoEx.ok {α : Type} (a : α) : NoEx (Rs.ok a) := fun _ h => by cases h
theorem NoEx.st {α : Type} : NoEx (Rs.st : Rs α) := fun _ h => by cases h
theorem NoEx.of {α : Type} (o : Option α) : NoEx (Rs.of o) := by cases o <;> exact fun _ h => by cases h
theorem NoEx.bnd {α β : Type} {r : Rs α} {f : α → Rs β} (h : NoEx r) (g : ∀ a, NoEx (f a)) : NoEx (r.bnd f) := by
  cases r with
  | ok a => exact g a
  | ex d => exact absurd rfl (h d)
  | st => exact NoEx.st
theorem NoEx.ite {α : Type} {c : Prop} [Decidable c] {a b : Rs α} (h : NoEx a) (g : NoEx b) : NoEx (if c then a else b) := by split <;> assumption
theorem binD_noex (o : Op2) (d e : D) : NoEx (binD o d e) := by
  unfold binD; split <;> first | exact NoEx.ok _ | exact NoEx.st | exact NoEx.ite (NoEx.ok _) NoEx.st
theorem negD_noex (d : D) : NoEx (negD d) := by cases d <;> first | exact NoEx.ok _ | exact NoEx.st
theorem notD_noex {r : Rs D} (h : NoEx r) : NoEx (notD r) := h.bnd fun d => by cases d <;> first | exact NoEx.ok _ | exact NoEx.st
theorem eqD_noex (d e : D) : NoEx (eqD d e) := NoEx.ite (NoEx.ok _) NoEx.st
theorem ltB_noex (d e : D) : NoEx (ltB d e) := NoEx.ite (NoEx.ok _) NoEx.st
theorem inD_noex (d e : D) : NoEx (inD d e) := by
  unfold inD
  split
  · exact NoEx.ite (NoEx.ok _) NoEx.st
  · exact NoEx.ite (NoEx.ok _) NoEx.st
  · split <;> first | exact NoEx.ok _ | exact NoEx.st
  · split
    · exact (NoEx.of _).bnd fun _ => NoEx.ok _
    · exact NoEx.st
  · exact NoEx.st
theorem isD_noex (d e : D) : NoEx (isD d e) := by
  unfold isD
  split
  · exact NoEx.ok _
  · split <;> exact NoEx.ok _
  · exact NoEx.st
theorem cmpD_noex (o : Cp) (d e : D) : NoEx (cmpD o d e) := by
  cases o
  · exact eqD_noex d e
  · exact notD_noex (eqD_noex d e)
  · exact ltB_noex d e
  · exact notD_noex (ltB_noex e d)
  · exact ltB_noex e d
  · exact notD_noex (ltB_noex d e)
  · exact isD_noex d e
  · exact notD_noex (isD_noex d e)
  · exact inD_noex d e
  · exact notD_noex (inD_noex d e)
theorem idxD_noex (d e : D) : NoEx (idxD d e) := by
  unfold idxD
  split
  · exact NoEx.of _
  · exact NoEx.of _
  · exact (NoEx.of _).bnd fun _ => NoEx.ok _
  · split
    · exact NoEx.of _
    · exact NoEx.st
  · exact NoEx.st
theorem sliD_noex (d : D) (lo hi : Option Int) : NoEx (sliD d lo hi) := by cases d <;> first | exact NoEx.ok _ | exact NoEx.st
theorem revD_noex (d : D) : NoEx (revD d) := by cases d <;> first | exact NoEx.ok _ | exact NoEx.st
theorem biD_noex (b : Bi) (ds : List D) : NoEx (biD b ds) := by
  unfold biD
  split <;> first
    | exact NoEx.ok _
    | exact NoEx.st
    | exact NoEx.ite (NoEx.of _) NoEx.st
    | exact NoEx.ite (NoEx.ok _) NoEx.st
    | exact (NoEx.of _).bnd fun _ => NoEx.ok _
/-- a comparison gives a truth value -/
theorem cmpD_bool {o : Cp} {d e x : D} (h : cmpD o d e = .ok x) : ∃ b, x = .bool b := by
  have nb : ∀ {r : Rs D} {x : D}, notD r = .ok x → ∃ b, x = .bool b := by
    intro r x h
    cases r with
    | ok z => cases z <;> first | (cases h; done) | (injection h with h; exact ⟨_, h.symm⟩)
    | ex z => cases h
    | st => cases h
  have eb : ∀ {d e x : D}, eqD d e = .ok x → ∃ b, x = .bool b := by
    intro d e x h; unfold eqD at h; split at h
    · injection h with h; exact ⟨_, h.symm⟩
    · cases h
  have lb : ∀ {d e x : D}, ltB d e = .ok x → ∃ b, x = .bool b := by
    intro d e x h; unfold ltB at h; split at h
    · injection h with h; exact ⟨_, h.symm⟩
    · cases h
  have ib : ∀ {d e x : D}, isD d e = .ok x → ∃ b, x = .bool b := by
    intro d e x h; unfold isD at h; split at h
    · injection h with h; exact ⟨_, h.symm⟩
    · split at h <;> (injection h with h; exact ⟨_, h.symm⟩)
    · cases h
  have nn : ∀ {d e x : D}, inD d e = .ok x → ∃ b, x = .bool b := by
    intro d e x h; unfold inD at h; split at h
    · split at h
      · injection h with h; exact ⟨_, h.symm⟩
      · cases h
    · split at h
      · injection h with h; exact ⟨_, h.symm⟩
      · cases h
    · split at h
      · injection h with h; exact ⟨_, h.symm⟩
      · cases h
    · split at h
      · rename_i y _ z
        cases hc : hasChar z y with
        | none => rw [hc] at h; cases h
        | some b => rw [hc] at h; injection h with h; exact ⟨_, h.symm⟩
      · cases h
    · cases h
  cases o
  · exact eb h
  · exact nb h
  · exact lb h
  · exact nb h
  · exact lb h
  · exact nb h
  · exact ib h
  · exact nb h
  · exact nn h
  · exact nb h
end
end Ws

set_option Elab.async false
set_option linter.all false
set_option maxRecDepth 100000
set_option maxHeartbeats 4000000
/-! Sim10: each construct, from its parts -/
namespace Ws
open PySem PySem.Spec PyProof.Rows L2

theorem pem {X : Cx} {e : Expr} {t t' : TE} (h : PE X e t) (f : ∀ σ H Q, t' σ H Q → t σ H Q) : PE X e t' := ⟨fun p s σ H Q I q => h.run p s σ H Q I (f σ H Q q)⟩
theorem ptm {X : Cx} {e : Expr} {t t' : TT} (h : PT X e t) (f : ∀ σ H Q, t' σ H Q → t σ H Q) : PT X e t' := ⟨fun p s σ H Q I q => h.run p s σ H Q I (f σ H Q q)⟩
theorem pwm {X : Cx} {e : Expr} {t t' : TT} (h : PW X e t) (f : ∀ σ H Q, t' σ H Q → t σ H Q) : PW X e t' := ⟨fun w p s σ H Q I q => h.run w p s σ H Q I (f σ H Q q)⟩
theorem pam {X : Cx} {e : List Expr} {t t' : TA} (h : PA X e t) (f : ∀ σ H Q, t' σ H Q → t σ H Q) : PA X e t' := ⟨fun pos p s σ H Q I q => h.run pos p s σ H Q I (f σ H Q q)⟩
theorem pom {X : Cx} {e : Option Expr} {t t' : TO} (h : PO X e t) (f : ∀ σ H Q, t' σ H Q → t σ H Q) : PO X e t' := ⟨fun p s σ H Q I q => h.run p s σ H Q I (f σ H Q q)⟩

section
variable {X : Cx} {φ : Nat → List D → Rs D} {C : Addr} {W : WX}

/-- through a part that is read weakly -/
theorem tW_in {a : E} {O : Ow} {ε : Env} {σ : L2.St} {H : Hp} {Q : VK} {β : Type} {f : D → Rs β} {k : β → Prop} (er : ER X.K O H σ ε) (ot : OT O H) (h : Res X.K C W O σ H ((ev φ a ε).bnd f) k)
    (g : ∀ d v H', Same H H' → RpW X.K O H' v d → Res X.K C W O σ H (f d) k → Q v H') : (tW X.K φ C W) a σ H Q :=
  ⟨O, ε, er, ot, h.bind fun d _ q v H' s r => g d v H' s r q⟩
theorem tD_in {a : E} {O : Ow} {ε : Env} {σ : L2.St} {H : Hp} {Q : VK} {β : Type} {f : D → Rs β} {k : β → Prop} (er : ER X.K O H σ ε) (ot : OT O H) (h : Res X.K C W O σ H ((ev φ a ε).bnd f) k)
    (g : ∀ d v H', Same H H' → Rp X.K O H' v d → Res X.K C W O σ H (f d) k → Q v H') : (tD X.K φ C W) a σ H Q :=
  ⟨O, ε, er, ot, h.bind fun d _ q v H' s r => g d v H' s r q⟩
theorem tT_in {a : E} {O : Ow} {ε : Env} {σ : L2.St} {H : Hp} {Q : Bool → Hp → Prop} {β : Type} {f : D → Rs β} {k : β → Prop} (er : ER X.K O H σ ε) (ot : OT O H) (h : Res X.K C W O σ H ((ev φ a ε).bnd f) k)
    (g : ∀ d H', Same H H' → Res X.K C W O σ H (f d) k → Q (truth d) H') : (tT X.K φ C W) a σ H Q :=
  ⟨O, ε, er, ot, h.bind fun d _ q H' s => g d H' s q⟩
theorem tL_in {a : List E} {O : Ow} {ε : Env} {σ : L2.St} {H : Hp} {Q : List V → Hp → Prop} {β : Type} {f : List D → Rs β} {k : β → Prop} (er : ER X.K O H σ ε) (ot : OT O H) (h : Res X.K C W O σ H ((evs φ a ε).bnd f) k)
    (g : ∀ d v H', Same H H' → Rps X.K O H' v d → Res X.K C W O σ H (f d) k → Q v H') : (tA X.K φ C W) a σ H Q :=
  ⟨O, ε, er, ot, h.bind fun d _ q v H' s r => g d v H' s r q⟩
theorem tLW_in {a : List E} {O : Ow} {ε : Env} {σ : L2.St} {H : Hp} {Q : List V → Hp → Prop} {β : Type} {f : List D → Rs β} {k : β → Prop} (er : ER X.K O H σ ε) (ot : OT O H) (h : Res X.K C W O σ H ((evs φ a ε).bnd f) k)
    (g : ∀ d v H', Same H H' → RpWs X.K O H' v d → Res X.K C W O σ H (f d) k → Q v H') : (tAW X.K φ C W) a σ H Q :=
  ⟨O, ε, er, ot, h.bind fun d _ q v H' s r => g d v H' s r q⟩

theorem pe_FD {e : Expr} {a : E} (h : PE X e ((tF X.K φ C W) a)) : PE X e ((tD X.K φ C W) a) := pem h fun σ H Q ⟨O, ε, er, ot, q⟩ => ⟨O, ε, er, ot, q.imp fun d _ k v H' s r => k v H' s (r.rp ot)⟩
theorem pe_DW {e : Expr} {a : E} (h : PE X e ((tD X.K φ C W) a)) : PE X e ((tW X.K φ C W) a) := pem h fun σ H Q ⟨O, ε, er, ot, q⟩ => ⟨O, ε, er, ot, q.imp fun d _ k v H' s r => k v H' s r.weak⟩

/-! ### names and constants -/
theorem s_var {i : Nat} {x : Str} {pos : Pos} (hN : X.N[i]? = some x) (hv : Vis X.env.scope x) (hd : (x == ("__debug__" : Str)) = false) (hc : (x == ("__classdict__" : Str)) = false) : PE X (.Name x pos) ((tD X.K φ C W) (.var i)) ∧ PE X (.Name x pos) ((tW X.K φ C W) (.wv i)) := by
  refine ⟨pem (pe_var hN hv hd hc) fun σ H Q ⟨O, ε, er, ot, q⟩ => ?_, pem (pe_var hN hv hd hc) fun σ H Q ⟨O, ε, er, ot, q⟩ => ?_⟩
  · simp only [ev] at q
    split at q
    · rename_i d e
      obtain ⟨v, h1, h2⟩ := er.2 i _ e
      exact ⟨v, h1, q v H (Same.refl H) h2⟩
    · exact (show False from q).elim
  · simp only [ev] at q
    split at q
    · rename_i d e
      obtain ⟨v, h1, h2⟩ := er.2 i _ e
      exact ⟨v, h1, q v H (Same.refl H) h2.weak⟩
    · rename_i d e
      obtain ⟨v, h1, h2⟩ := er.2 i _ e
      exact ⟨v, h1, q v H (Same.refl H) h2⟩
    · exact (show False from q).elim
theorem s_lit {e : Expr} {v : V} {d : D} (h : PE X e (tC v)) (r : ∀ O H, Rp X.K O H v d) : PE X e ((tD X.K φ C W) (.lit d)) := pem h fun σ H Q ⟨O, ε, er, ot, q⟩ => by
  simp only [ev] at q
  exact q v H (Same.refl H) (r O H)
theorem s_gl {x : Str} {u : Value} {v : V} {d : D} {pos : Pos} (hg : Gl X x) (hm : X.mg x = some u) (rv : RelV v u) (r : ∀ O H, Rp X.K O H v d) (hd : (x == ("__debug__" : Str)) = false) : PE X (.Name x pos) ((tD X.K φ C W) (.gl d)) :=
  pem (pe_glob hg hm rv hd) fun σ H Q ⟨O, ε, er, ot, q⟩ => by
    simp only [ev] at q
    exact q v H (Same.refl H) (r O H)

/-! ### operators -/
theorem s_bin {a b : Expr} {a' b' : E} {o : Op2} {pos : Pos} (ha : PE X a ((tW X.K φ C W) a')) (hb : PE X b ((tW X.K φ C W) b')) : PE X (.BinOp a (opOf o) b pos) ((tF X.K φ C W) (.bin o a' b')) :=
  pem (pe_op (bin_ok o) ha hb) fun σ H Q ⟨O, ε, er, ot, q⟩ => by
    simp only [ev] at q
    refine tW_in er ot q fun x v H1 s1 r1 q1 => ?_
    refine tW_in (er.same s1) (ot.same s1) (Res.sF q1 s1) fun y u H2 s2 r2 q2 => ?_
    exact ⟨O, x, y, (ot.same s1).same s2, r1.same s2, r2, Res.poF' (binD_noex _ _ _) (Res.sF q2 s2)⟩
theorem s_neg {a : Expr} {a' : E} {pos : Pos} (ha : PE X a ((tW X.K φ C W) a')) : PE X (.UnaryOp .USub a pos) ((tF X.K φ C W) (.neg a')) :=
  pem (pe_un neg_ok ha) fun σ H Q ⟨O, ε, er, ot, q⟩ => by
    simp only [ev] at q
    refine tW_in er ot q fun x v H1 s1 r1 q1 => ?_
    exact ⟨O, x, ot.same s1, r1, Res.poF' (negD_noex _) (Res.sF q1 s1)⟩
/-- a value's truth -/
theorem RpW.tru {K : PySem.W.Frag} {O : Ow} {H : Hp} {v : V} {d : D} (h : RpW K O H v d) : TruV K v H (truth d) := by
  cases d with
  | none => cases (show Rp K O H v _ from h); rfl
  | bool b => cases (show Rp K O H v _ from h); rfl
  | int i => cases (show Rp K O H v _ from h); rfl
  | str x =>
    obtain ⟨rfl, _, h2⟩ := strW h
    refine ⟨h2, ?_⟩
    show (x.length != 0) = ((x.length : Int) != 0)
    cases x.length <;> rfl
  | list ds =>
    obtain ⟨a, xs, rfl, ha, z, r⟩ := listW h
    refine .inl ⟨xs, ha, ?_⟩
    cases r <;> rfl
  | tuple ds =>
    obtain ⟨a, xs, rfl, ha, z, r⟩ := tupW h
    refine .inr (.inl ⟨xs, ha, ?_⟩)
    cases r <;> rfl
  | dict kvs =>
    obtain ⟨a, vs, rfl, ha, r⟩ := h
    refine .inr (.inr ⟨vs, ha, ?_⟩)
    cases r <;> rfl

theorem s_notV {a : Expr} {a' : E} {pos : Pos} (ha : PE X a ((tW X.K φ C W) a')) : PE X (.UnaryOp .Not a pos) ((tF X.K φ C W) (.not_ a')) :=
  pem (pe_notT ha) fun σ H Q ⟨O, ε, er, ot, q⟩ => by
    simp only [ev] at q
    refine tW_in er ot q fun x v H1 s1 r1 q1 => ?_
    exact ⟨_, r1.tru, q1 _ H1 s1 (Rp.bl _)⟩
theorem s_notT {a : Expr} {a' : E} {pos : Pos} (ha : PT X a ((tT X.K φ C W) a')) : PT X (.UnaryOp .Not a pos) ((tT X.K φ C W) (.not_ a')) :=
  ptm (pt_not ha) fun σ H Q ⟨O, ε, er, ot, q⟩ => by
    simp only [ev] at q
    exact tT_in er ot q fun x H1 s1 q1 => q1 H1 s1
theorem s_andV {a b : Expr} {rest : List Expr} {a' b' : E} {pos : Pos} (ha : PE X a ((tD X.K φ C W) a')) (hb : PE X (.BoolOp .And (b :: rest) pos) ((tD X.K φ C W) b')) : PE X (.BoolOp .And (a :: b :: rest) pos) ((tD X.K φ C W) (.and_ a' b')) :=
  pem (pe_andT ha hb) fun σ H Q ⟨O, ε, er, ot, q⟩ => by
    simp only [ev] at q
    refine tD_in er ot q fun x v H1 s1 r1 q1 => ⟨_, r1.weak.tru, ?_⟩
    by_cases c : truth x = true
    · rw [if_pos c] at q1 ⊢
      exact ⟨O, ε, er.same s1, ot.same s1, Res.sD q1 s1⟩
    · rw [if_neg c] at q1 ⊢
      exact q1 v H1 s1 r1
theorem s_orV {a b : Expr} {rest : List Expr} {a' b' : E} {pos : Pos} (ha : PE X a ((tD X.K φ C W) a')) (hb : PE X (.BoolOp .Or (b :: rest) pos) ((tD X.K φ C W) b')) : PE X (.BoolOp .Or (a :: b :: rest) pos) ((tD X.K φ C W) (.or_ a' b')) :=
  pem (pe_orT ha hb) fun σ H Q ⟨O, ε, er, ot, q⟩ => by
    simp only [ev] at q
    refine tD_in er ot q fun x v H1 s1 r1 q1 => ⟨_, r1.weak.tru, ?_⟩
    by_cases c : truth x = true
    · rw [if_pos c] at q1 ⊢
      exact q1 v H1 s1 r1
    · rw [if_neg c] at q1 ⊢
      exact ⟨O, ε, er.same s1, ot.same s1, Res.sD q1 s1⟩
theorem s_andT {a b : Expr} {rest : List Expr} {a' b' : E} {pos : Pos} (ha : PT X a ((tT X.K φ C W) a')) (hb : PW X (.BoolOp .And (b :: rest) pos) ((tT X.K φ C W) b')) : PW X (.BoolOp .And (a :: b :: rest) pos) ((tT X.K φ C W) (.and_ a' b')) :=
  pwm (pw_and ha hb) fun σ H Q ⟨O, ε, er, ot, q⟩ => by
    simp only [ev] at q
    refine tT_in er ot q fun x H1 s1 q1 => ?_
    by_cases c : truth x = true
    · rw [if_pos c] at q1 ⊢
      exact ⟨O, ε, er.same s1, ot.same s1, Res.sT q1 s1⟩
    · rw [if_neg c] at q1 ⊢
      have c' : truth x = false := by simpa using c
      have := q1 H1 s1
      rwa [c'] at this
theorem s_orT {a b : Expr} {rest : List Expr} {a' b' : E} {pos : Pos} (ha : PT X a ((tT X.K φ C W) a')) (hb : PW X (.BoolOp .Or (b :: rest) pos) ((tT X.K φ C W) b')) : PW X (.BoolOp .Or (a :: b :: rest) pos) ((tT X.K φ C W) (.or_ a' b')) :=
  pwm (pw_or ha hb) fun σ H Q ⟨O, ε, er, ot, q⟩ => by
    simp only [ev] at q
    refine tT_in er ot q fun x H1 s1 q1 => ?_
    by_cases c : truth x = true
    · rw [if_pos c] at q1 ⊢
      have := q1 H1 s1
      rwa [c] at this
    · rw [if_neg c] at q1 ⊢
      exact ⟨O, ε, er.same s1, ot.same s1, Res.sT q1 s1⟩
theorem s_ifV {c a b : Expr} {c' a' b' : E} {pos : Pos} (hc : PT X c ((tT X.K φ C W) c')) (ha : PE X a ((tD X.K φ C W) a')) (hb : PE X b ((tD X.K φ C W) b')) : PE X (.IfExp c a b pos) ((tD X.K φ C W) (.ite c' a' b')) :=
  pem (pe_ifExp hc ha hb) fun σ H Q ⟨O, ε, er, ot, q⟩ => by
    simp only [ev] at q
    refine tT_in er ot q fun x H1 s1 q1 => ?_
    by_cases c : truth x = true
    · rw [if_pos c] at q1 ⊢
      exact ⟨O, ε, er.same s1, ot.same s1, Res.sD q1 s1⟩
    · rw [if_neg c] at q1 ⊢
      exact ⟨O, ε, er.same s1, ot.same s1, Res.sD q1 s1⟩
theorem pt_if {c a b : Expr} {tc ta tb : TT} {pos : Pos} (hc : PT X c tc) (ha : PT X a ta) (hb : PT X b tb) : PT X (.IfExp c a b pos) (fun σ H Q => tc σ H fun k H1 => if k = true then ta σ H1 Q else tb σ H1 Q) := by
  refine ⟨fun pins s σ H Q I h => ?_⟩
  rw [arm_isTrue_IfExp]
  refine wpAny_bind (thn (hc.run pins s σ H _ I h) fun k s1 ⟨H1, I1, q1⟩ => ?_)
  cases k with
  | true => exact ha.run pins s1 σ H1 Q I1 q1
  | false => exact hb.run pins s1 σ H1 Q I1 q1
theorem s_ifT {c a b : Expr} {c' a' b' : E} {pos : Pos} (hc : PT X c ((tT X.K φ C W) c')) (ha : PT X a ((tT X.K φ C W) a')) (hb : PT X b ((tT X.K φ C W) b')) : PT X (.IfExp c a b pos) ((tT X.K φ C W) (.ite c' a' b')) :=
  ptm (pt_if hc ha hb) fun σ H Q ⟨O, ε, er, ot, q⟩ => by
    simp only [ev] at q
    refine tT_in er ot q fun x H1 s1 q1 => ?_
    by_cases c : truth x = true
    · rw [if_pos c] at q1 ⊢
      exact ⟨O, ε, er.same s1, ot.same s1, Res.sT q1 s1⟩
    · rw [if_neg c] at q1 ⊢
      exact ⟨O, ε, er.same s1, ot.same s1, Res.sT q1 s1⟩
/-- a test by its value -/
theorem s_truth {a : Expr} {a' : E} (ha : PE X a ((tW X.K φ C W) a')) (he : ∀ whole, isTrue a X.env whole = (do let v ← whole; standAt a.pos; holding [v] (truthy v))) : PT X a ((tT X.K φ C W) a') :=
  ptm (pt_truth ha he) fun σ H Q ⟨O, ε, er, ot, q⟩ => ⟨O, ε, er, ot, q.imp fun d _ k v H' s r => ⟨_, r.tru, k H' s⟩⟩

theorem s_cmp (hu : X.A.units + 65 < cLine) {a b : Expr} {a' b' : E} {o : CmpOp} {pos : Pos} (ha : PE X a ((tW X.K φ C W) a')) (hb : PE X b ((tW X.K φ C W) b')) (hm : behindInMarks o b = false) : PE X (.Compare a [o] [b] pos) ((tF X.K φ C W) (.cmp (cpOf o) a' b')) :=
  pem (pe_cmpR (cmp_ok hu o) ha hb hm) fun σ H Q ⟨O, ε, er, ot, q⟩ => by
    simp only [ev] at q
    refine tW_in er ot q fun x v H1 s1 r1 q1 => ?_
    refine tW_in (er.same s1) (ot.same s1) (Res.sF q1 s1) fun y u H2 s2 r2 q2 => ?_
    exact ⟨O, x, y, (ot.same s1).same s2, r1.same s2, r2, Res.poF' (cmpD_noex _ _ _) (Res.sF q2 s2)⟩
theorem s_cmpT (hu : X.A.units + 65 < cLine) {a b : Expr} {a' b' : E} {o : CmpOp} {pos : Pos} (ha : PE X a ((tW X.K φ C W) a')) (hb : PE X b ((tW X.K φ C W) b')) (hm : behindInMarks o b = false) : PT X (.Compare a [o] [b] pos) ((tT X.K φ C W) (.cmp (cpOf o) a' b')) :=
  ptm (pt_cmpR (cmp_ok hu o) ha hb hm) fun σ H Q ⟨O, ε, er, ot, q⟩ => by
    simp only [ev] at q
    refine tW_in er ot q fun x v H1 s1 r1 q1 => ?_
    refine tW_in (er.same s1) (ot.same s1) (Res.sT q1 s1) fun y u H2 s2 r2 q2 => ?_
    refine ⟨O, x, y, (ot.same s1).same s2, r1.same s2, r2, ?_⟩
    have q3 := Res.sT q2 s2
    cases e : cmpD (cpOf o) x y with
    | ok d =>
      rw [e] at q3
      obtain ⟨b, rfl⟩ := cmpD_bool e
      exact fun v H' s f => by cases (show Rp X.K O H' v _ from f); exact ⟨b, rfl, q3 H' s⟩
    | ex d => exact absurd e (cmpD_noex _ _ _ d)
    | st => rw [e] at q3; exact q3
theorem s_chain (hu : X.A.units + 65 < cLine) {a b d : Expr} {a' b' d' : E} {o o2 : CmpOp} {pos : Pos} (ha : PE X a ((tW X.K φ C W) a')) (hb : PE X b ((tW X.K φ C W) b')) (hd : PE X d ((tW X.K φ C W) d')) (hm : lastMarks [o, o2] [b, d] = false) :
    PE X (.Compare a [o, o2] [b, d] pos) ((tF X.K φ C W) (.chain (cpOf o) (cpOf o2) a' b' d')) :=
  pem (pe_chain (cmp_ok hu o) (cmp_ok hu o2) ha hb hd hm) fun σ H Q ⟨O, ε, er, ot, q⟩ => by
    simp only [ev] at q
    refine tW_in er ot q fun x v H1 s1 r1 q1 => ?_
    refine tW_in (er.same s1) (ot.same s1) (Res.sF q1 s1) fun y u H2 s2 r2 q2 => ?_
    refine ⟨O, x, y, (ot.same s1).same s2, r1.same s2, r2, ?_⟩
    have q3 := Res.sF q2 s2
    cases e : cmpD (cpOf o) x y with
    | ok z =>
      rw [e] at q3
      obtain ⟨k, rfl⟩ := cmpD_bool e
      refine fun w H3 s3 f => ?_
      cases (show Rp X.K O H3 w _ from f)
      refine ⟨k, rfl, ?_⟩
      cases k with
      | true =>
        rw [if_pos rfl]
        refine tW_in (((er.same s1).same s2).same s3) (((ot.same s1).same s2).same s3) (Res.sF q3 s3) fun z t H4 s4 r4 q4 => ?_
        exact ⟨O, y, z, (((ot.same s1).same s2).same s3).same s4, (r2.same s3).same s4, r4, Res.poF' (cmpD_noex _ _ _) (Res.sF q4 s4)⟩
      | false =>
        rw [if_neg Bool.false_ne_true]
        exact q3 _ H3 s3 (Rp.bl false)
    | ex z => exact absurd e (cmpD_noex _ _ _ z)
    | st => rw [e] at q3; exact q3
theorem s_chainT (hu : X.A.units + 65 < cLine) {a b d : Expr} {a' b' d' : E} {o o2 : CmpOp} {pos : Pos} (ha : PE X a ((tW X.K φ C W) a')) (hb : PE X b ((tW X.K φ C W) b')) (hd : PE X d ((tW X.K φ C W) d')) (hm : lastMarks [o, o2] [b, d] = false) :
    PT X (.Compare a [o, o2] [b, d] pos) ((tT X.K φ C W) (.chain (cpOf o) (cpOf o2) a' b' d')) :=
  ptm (pt_chain (cmp_ok hu o) (cmp_ok hu o2) ha hb hd hm) fun σ H Q ⟨O, ε, er, ot, q⟩ => by
    simp only [ev] at q
    refine tW_in er ot q fun x v H1 s1 r1 q1 => ?_
    refine tW_in (er.same s1) (ot.same s1) (Res.sT q1 s1) fun y u H2 s2 r2 q2 => ?_
    refine ⟨O, x, y, (ot.same s1).same s2, r1.same s2, r2, ?_⟩
    have q3 := Res.sT q2 s2
    cases e : cmpD (cpOf o) x y with
    | ok z =>
      rw [e] at q3
      obtain ⟨k, rfl⟩ := cmpD_bool e
      refine fun w H3 s3 f => ?_
      cases (show Rp X.K O H3 w _ from f)
      refine ⟨k, rfl, ?_⟩
      cases k with
      | true =>
        rw [if_pos rfl]
        refine tW_in (((er.same s1).same s2).same s3) (((ot.same s1).same s2).same s3) (Res.sT q3 s3) fun z t H4 s4 r4 q4 => ?_
        refine ⟨O, y, z, (((ot.same s1).same s2).same s3).same s4, (r2.same s3).same s4, r4, ?_⟩
        have q5 := Res.sT q4 s4
        cases e2 : cmpD (cpOf o2) y z with
        | ok z2 =>
          rw [e2] at q5
          obtain ⟨k2, rfl⟩ := cmpD_bool e2
          exact fun v5 H5 s5 f5 => by cases (show Rp X.K O H5 v5 _ from f5); exact ⟨k2, rfl, q5 H5 s5⟩
        | ex z2 => exact absurd e2 (cmpD_noex _ _ _ z2)
        | st => rw [e2] at q5; exact q5
      | false =>
        rw [if_neg Bool.false_ne_true]
        exact ⟨false, rfl, q3 H3 s3⟩
    | ex z => exact absurd e (cmpD_noex _ _ _ z)
    | st => rw [e] at q3; exact q3

/-! ### displays, subscripts -/
theorem s_nil : PA X [] ((tA X.K φ C W) []) := pam pa_nil fun σ H Q ⟨O, ε, er, ot, q⟩ => by
  simp only [evs] at q
  exact q [] H (Same.refl H) .nil
theorem s_cons {a : Expr} {es : List Expr} {a' : E} {es' : List E} (ha : PE X a ((tD X.K φ C W) a')) (hr : PA X es ((tA X.K φ C W) es')) (hs : starEach (a :: es) X.env = (false, eval a X.env) :: starEach es X.env) : PA X (a :: es) ((tA X.K φ C W) (a' :: es')) :=
  pam (pa_cons ha hr hs) fun σ H Q ⟨O, ε, er, ot, q⟩ => by
    simp only [evs] at q
    refine tD_in er ot q fun x v H1 s1 r1 q1 => ?_
    refine tL_in (er.same s1) (ot.same s1) (Res.sL q1 s1) fun xs vs H2 s2 r2 q2 => ?_
    exact q2 (v :: vs) H2 s2 (.cons (r1.same s2) r2)
theorem s_nilW : PA X [] ((tAW X.K φ C W) []) := pam pa_nil fun σ H Q ⟨O, ε, er, ot, q⟩ => by
  simp only [evs] at q
  exact q [] H (Same.refl H) .nil
theorem s_consW {a : Expr} {es : List Expr} {a' : E} {es' : List E} (ha : PE X a ((tW X.K φ C W) a')) (hr : PA X es ((tAW X.K φ C W) es')) (hs : starEach (a :: es) X.env = (false, eval a X.env) :: starEach es X.env) : PA X (a :: es) ((tAW X.K φ C W) (a' :: es')) :=
  pam (pa_cons ha hr hs) fun σ H Q ⟨O, ε, er, ot, q⟩ => by
    simp only [evs] at q
    refine tW_in er ot q fun x v H1 s1 r1 q1 => ?_
    refine tLW_in (er.same s1) (ot.same s1) (Res.sLW q1 s1) fun xs vs H2 s2 r2 q2 => ?_
    exact q2 (v :: vs) H2 s2 (.cons (r1.same s2) r2)
theorem s_tup {es : List Expr} {es' : List E} {k : Nat} {pos : Pos} (hl : es'.length ≤ 1000000) (h : PA X es ((tA X.K φ C W) es')) (hlen : ∀ ε ds, evs φ es' ε = .ok ds → ds.length = es'.length) : PE X (.Tuple es k pos) ((tF X.K φ C W) (.tup es')) :=
  pem (pe_tup h) fun σ H Q ⟨O, ε, er, ot, q⟩ => by
    simp only [ev] at q
    refine ⟨O, ε, er, ot, q.bind fun ds e k vs H1 s1 r1 => ?_⟩
    have hz : vs.length ≤ sizeLine := by rw [r1.length, hlen ε ds e, sizeLine_eq]; omega
    exact ⟨hz, fun p hp => k _ _ (s1.trans (same_new hp)) (Rp.newT hp r1 hz)⟩
theorem s_lst {es : List Expr} {es' : List E} {pos : Pos} (hl : es'.length ≤ 1000000) (h : PA X es ((tA X.K φ C W) es')) (hlen : ∀ ε ds, evs φ es' ε = .ok ds → ds.length = es'.length) : PE X (.List es pos) ((tF X.K φ C W) (.lst es')) :=
  pem (pe_lst h) fun σ H Q ⟨O, ε, er, ot, q⟩ => by
    simp only [ev] at q
    refine ⟨O, ε, er, ot, q.bind fun ds e k vs H1 s1 r1 => ?_⟩
    have hz : vs.length ≤ sizeLine := by rw [r1.length, hlen ε ds e, sizeLine_eq]; omega
    exact ⟨hz, fun p hp => k _ _ (s1.trans (same_new hp)) ((Fr.newL hp r1 hz).same0 s1)⟩
theorem s_dnew {pos : Pos} : PE X (.Dict [] [] pos) ((tF X.K φ C W) .dnew) :=
  pem pe_dnewK fun σ H Q ⟨O, ε, er, ot, q⟩ => by
    simp only [ev] at q
    exact fun p hp => q _ _ (same_new hp) ⟨p, [], rfl, hp, upd_same, fun _ _ => .nil⟩
theorem s_idx (hu : X.A.units + 65 < cLine) {a b : Expr} {a' b' : E} {pos : Pos} (ha : PE X a ((tW X.K φ C W) a')) (hb : PE X b ((tW X.K φ C W) b')) (hs : PlainIx b) : PE X (.Subscript a b pos) ((tD X.K φ C W) (.idx a' b')) :=
  pem (pe_ix (idx_ok hu) ha hb hs) fun σ H Q ⟨O, ε, er, ot, q⟩ => by
    simp only [ev] at q
    refine tW_in er ot q fun x v H1 s1 r1 q1 => ?_
    refine tW_in (er.same s1) (ot.same s1) (Res.sD q1 s1) fun y u H2 s2 r2 q2 => ?_
    exact ⟨O, x, y, (ot.same s1).same s2, r1.same s2, r2, Res.po (idxD_noex _ _) (Res.sD q2 s2)⟩
/-- a slice's part -/
def tOO (K : PySem.W.Frag) (φ : Nat → List D → Rs D) (C : Addr) (W : WX) (e : Option E) : TO := fun σ H Q => ∃ O ε, ER K O H σ ε ∧ OT O H ∧ Res K C W O σ H (evo φ e ε) fun o => ∀ H', Same H H' → Q o H'
theorem s_po0 : PO X none (tOO X.K φ C W none) := pom po_none fun σ H Q ⟨O, ε, er, ot, q⟩ => by
  simp only [evo] at q
  exact q H (Same.refl H)
theorem s_po1 {e : Expr} {e' : E} (h : PE X e ((tW X.K φ C W) e')) : PO X (some e) (tOO X.K φ C W (some e')) := pom (po_some h) fun σ H Q ⟨O, ε, er, ot, q⟩ => by
  simp only [evo] at q
  refine tW_in er ot q fun x v H1 s1 r1 q1 => ?_
  cases x <;> try exact (show False from q1).elim
  rename_i i
  cases intW r1
  exact ⟨i, rfl, q1 H1 s1⟩
theorem tO_in {a : Option E} {O : Ow} {ε : Env} {σ : L2.St} {H : Hp} {Q : Option Int → Hp → Prop} {β : Type} {f : Option Int → Rs β} {k : β → Prop} (er : ER X.K O H σ ε) (ot : OT O H) (h : Res X.K C W O σ H ((evo φ a ε).bnd f) k)
    (g : ∀ d H', Same H H' → Res X.K C W O σ H (f d) k → Q d H') : tOO X.K φ C W a σ H Q :=
  ⟨O, ε, er, ot, h.bind fun d _ q H' s => g d H' s q⟩
theorem s_sli {a : Expr} {lo hi : Option Expr} {a' : E} {lo' hi' : Option E} {p2 pos : Pos} (ha : PE X a ((tW X.K φ C W) a')) (hl : PO X lo (tOO X.K φ C W lo')) (hh : PO X hi (tOO X.K φ C W hi')) : PE X (.Subscript a (.Slice lo hi none p2) pos) ((tF X.K φ C W) (.sli a' lo' hi')) :=
  pem (pe_slice sli_ok ha hl hh) fun σ H Q ⟨O, ε, er, ot, q⟩ => by
    simp only [ev] at q
    refine tW_in er ot q fun x v H1 s1 r1 q1 => ?_
    refine tO_in (er.same s1) (ot.same s1) (Res.sF q1 s1) fun l H2 s2 q2 => ?_
    refine tO_in ((er.same s1).same s2) ((ot.same s1).same s2) (Res.sF q2 s2) fun h H3 s3 q3 => ?_
    exact ⟨O, x, ((ot.same s1).same s2).same s3, (r1.same s2).same s3, Res.poF' (sliD_noex _ _ _) (Res.sF q3 s3)⟩
theorem s_rev {a : Expr} {a' : E} {k : Nat} {p1 p2 p3 pos : Pos} (ha : PE X a ((tW X.K φ C W) a')) : PE X (.Subscript a (.Slice none none (some (.UnaryOp .USub (.Constant (.int 1) k p1) p2)) p3) pos) ((tF X.K φ C W) (.rev a')) :=
  pem (pe_revL ha) fun σ H Q ⟨O, ε, er, ot, q⟩ => by
    simp only [ev] at q
    refine tW_in er ot q fun x v H1 s1 r1 q1 => ?_
    cases x <;> try exact (show False from q1).elim
    obtain ⟨b, xs, rfl, hb, z, r⟩ := listW r1
    exact ⟨b, xs, rfl, hb, fun p hp => q1 _ _ (s1.trans (same_new hp)) ((Fr.newL hp r.rev (by rw [List.length_reverse]; exact z)).same0 s1)⟩
mutual
theorem Rp.nm {K : PySem.W.Frag} {O O' : Ow} {H : Hp} : ∀ {v : V} {d : D}, Rp K O H v d → noMut d = true → Rp K O' H v d
  | _, _, .non, _ => .non
  | _, _, .bl b, _ => .bl b
  | _, _, .int i, _ => .int i
  | _, _, .str x a b, _ => .str x a b
  | _, _, .lst h z r, c => by simp [noMut] at c
  | _, _, .tup h z r, c => .tup h z (Rps.nm r (by simpa [noMut] using c))
  | _, _, .dk .., c => by simp [noMut] at c
theorem Rps.nm {K : PySem.W.Frag} {O O' : Ow} {H : Hp} : ∀ {vs : List V} {ds : List D}, Rps K O H vs ds → noMuts ds = true → Rps K O' H vs ds
  | _, _, .nil, _ => .nil
  | _, _, .cons h r, c => by
    simp only [noMuts, Bool.and_eq_true] at c
    exact .cons (Rp.nm h c.1) (Rps.nm r c.2)
end
/-- all that is owned counts as nobody's -/
def On : Ow := fun _ => none
theorem fzOn {O : Ow} {H : Hp} : Fz O H On H := ⟨fun _ _ e _ => ⟨e, rfl⟩, fun _ _ e => e, fun _ _ _ e => e⟩
theorem ER.frzAll {K : PySem.W.Frag} {O O' : Ow} {H : Hp} {σ : L2.St} {ε : Env} (er : ER K O H σ ε) (f : Fz O H O' H) (n : ∀ (i : Nat) (p : Addr) (d : D), ε[i]? = some (Sl.o d) → σ[i]? = some (some (V.ref p)) → O' p = none) : ER K O' H σ (ε.map frzS) := by
  refine ⟨by rw [List.length_map]; exact er.1, fun i s e => ?_⟩
  rw [List.getElem?_map] at e
  cases h : ε[i]? with
  | none => rw [h] at e; cases e
  | some s' =>
    rw [h] at e
    cases e
    have q := er.2 i s' h
    cases s' with
    | u => trivial
    | f d => obtain ⟨v, h1, h2⟩ := q; exact ⟨v, h1, h2.mv f⟩
    | o d =>
      obtain ⟨v, h1, h2⟩ := q
      refine ⟨v, h1, ?_⟩
      cases d with
      | list ds => obtain ⟨a, xs, e, q, z, r⟩ := h2; subst e; exact .lst (.of q (n i a _ h h1)) z (r.mv f)
      | dict ds => obtain ⟨a, kvs, e, q, r⟩ := h2; subst e; exact .dk q (n i a _ h h1) (r.mv f)
      | none => exact Rp.mv f (show Rp K O H v _ from h2)
      | bool b => exact Rp.mv f (show Rp K O H v _ from h2)
      | int i => exact Rp.mv f (show Rp K O H v _ from h2)
      | str x => exact Rp.mv f (show Rp K O H v _ from h2)
      | tuple ds => exact Rp.mv f (show Rp K O H v _ from h2)
theorem s_nomut {a : Expr} {a' : E} (ha : PE X a ((tD X.K φ C W) a')) : PE X a ((tD X.K φ C W) (.nomut a')) :=
  pem ha fun σ H Q ⟨O, ε, er, ot, q⟩ => by
    simp only [ev] at q
    refine ⟨On, ε.map frzS, er.frzAll fzOn fun _ _ _ _ _ => rfl, (fun a i e => by cases e), ?_⟩
    cases e : ev φ a' (ε.map frzS) with
    | ok x =>
      rw [e] at q
      by_cases c : noMut x = true
      · have q : Res X.K C W O σ H (if noMut x = true then .ok x else .st) (kD X.K O H Q) := q
        rw [if_pos c] at q
        exact fun v H' s r => q v H' s (r.nm c)
      · have q : Res X.K C W O σ H (if noMut x = true then .ok x else .st) (kD X.K O H Q) := q
        rw [if_neg c] at q; exact q.elim
    | ex x =>
      rw [e] at q
      by_cases c : noMut x = true
      · have q : Res X.K C W O σ H (if noMut x = true then .ex x else .st) (kD X.K O H Q) := q
        rw [if_pos c] at q
        exact fun dx v H' s a r => q dx v H' s a (r.nm c)
      · have q : Res X.K C W O σ H (if noMut x = true then .ex x else .st) (kD X.K O H Q) := q
        rw [if_neg c] at q; exact q.elim
    | st => rw [e] at q; exact q.elim
end
end Ws

set_option Elab.async false
set_option linter.all false
set_option maxRecDepth 100000
set_option maxHeartbeats 4000000
/-! Sim11: calls, walks, targets -/
namespace Ws
open PySem PySem.Spec PyProof.Rows L2

section
variable {K : PySem.W.Frag} {O O' : Ow} {H H' : Hp} {σ : L2.St} {ε : Env}
theorem ER.mvS (h : ER K O H σ ε) (f : Fz O H O' H') (s : Same H H') : ER K O' H' σ ε := ⟨h.1, fun i x e => by
  have := h.2 i x e
  cases x with
  | u => trivial
  | f d => obtain ⟨v, h1, h2⟩ := this; exact ⟨v, h1, h2.mv f⟩
  | o d =>
    obtain ⟨v, h1, h2⟩ := this
    refine ⟨v, h1, ?_⟩
    cases d with
    | list ds => obtain ⟨a, xs, e, q, z, r⟩ := h2; exact ⟨a, xs, e, Same.sql s q, z, r.mv f⟩
    | dict ds => obtain ⟨a, kvs, e, q, r⟩ := h2; exact ⟨a, kvs, e, s _ _ q, r.mv f⟩
    | none => exact Rp.mv f (show Rp K O H v _ from h2)
    | bool b => exact Rp.mv f (show Rp K O H v _ from h2)
    | int i => exact Rp.mv f (show Rp K O H v _ from h2)
    | str x => exact Rp.mv f (show Rp K O H v _ from h2)
    | tuple ds => exact Rp.mv f (show Rp K O H v _ from h2)⟩
theorem ER.set {i : Nat} {v : V} {d : D} (h : ER K O H σ ε) (r : Rp K O H v d) : ER K O H (σ.set i (some v)) (put ε i d) := by
  refine ⟨by simp only [put, List.length_set]; exact h.1, fun j s e => ?_⟩
  unfold put at e
  by_cases ij : i = j
  · subst ij
    have lt : i < ε.length := by
      have := (List.getElem?_eq_some_iff.mp e).1
      rwa [List.length_set] at this
    rw [List.getElem?_set_self lt] at e
    injection e with e; subst e
    exact ⟨v, by rw [List.getElem?_set_self (Nat.lt_of_lt_of_le lt h.1)], r⟩
  · rw [List.getElem?_set_ne ij] at e
    have := h.2 j s e
    cases s with
    | u => trivial
    | f d => obtain ⟨w, h1, h2⟩ := this; exact ⟨w, by rw [List.getElem?_set_ne ij]; exact h1, h2⟩
    | o d => obtain ⟨w, h1, h2⟩ := this; exact ⟨w, by rw [List.getElem?_set_ne ij]; exact h1, h2⟩
theorem ER.wipe (h : ER K O H σ ε) : ∀ vs : List Nat, ER K O H (L2.wipe σ vs) (wipeE ε vs)
  | [] => h
  | v :: vs => by
    have ih := ER.wipe h vs
    unfold L2.wipe wipeE
    refine ⟨by simp only [List.length_set]; exact ih.1, fun j s e => ?_⟩
    by_cases ij : v = j
    · subst ij
      have lt : v < (wipeE ε vs).length := by
        have := (List.getElem?_eq_some_iff.mp e).1
        rwa [List.length_set] at this
      rw [List.getElem?_set_self lt] at e
      injection e with e; subst e; trivial
    · rw [List.getElem?_set_ne ij] at e
      have := ih.2 j s e
      cases s with
      | u => trivial
      | f d => obtain ⟨w, h1, h2⟩ := this; exact ⟨w, by rw [List.getElem?_set_ne ij]; exact h1, h2⟩
      | o d => obtain ⟨w, h1, h2⟩ := this; exact ⟨w, by rw [List.getElem?_set_ne ij]; exact h1, h2⟩
theorem wipe_set {v : Option V} {i : Nat} : ∀ {vs : List Nat}, i ∈ vs → L2.wipe (σ.set i v) vs = L2.wipe σ vs
  | j :: vs, h => by
    unfold L2.wipe
    by_cases m : i ∈ vs
    · rw [wipe_set m]
    · have e : i = j := by
        rcases List.mem_cons.mp h with h | h
        · exact h
        · exact absurd h m
      subst e
      refine List.ext_getElem? fun n => ?_
      by_cases hn : i = n
      · subst hn
        rw [List.getElem?_set, List.getElem?_set, wipe_length, wipe_length, List.length_set]
        simp
      · rw [List.getElem?_set_ne hn, List.getElem?_set_ne hn]
        by_cases m2 : n ∈ vs
        · have aux : ∀ (us : List Nat) (τ : L2.St), n ∈ us → (L2.wipe τ us)[n]? = if n < τ.length then some none else none := by
            intro us
            induction us with
            | nil => intro τ h; cases h
            | cons a us ih =>
              intro τ h
              unfold L2.wipe
              rw [List.getElem?_set, wipe_length]
              by_cases an : a = n
              · rw [if_pos an]; subst an; rfl
              · rw [if_neg an]
                rcases List.mem_cons.mp h with h | h
                · exact absurd h.symm an
                · exact ih τ h
          rw [aux vs _ m2, aux vs _ m2, List.length_set]
        · rw [wipe_out m2, wipe_out m2, List.getElem?_set_ne hn]
theorem wipe_wipe' : ∀ {us vs : List Nat}, (∀ i ∈ us, i ∈ vs) → L2.wipe (L2.wipe σ us) vs = L2.wipe σ vs
  | [], vs, _ => rfl
  | u :: us, vs, h => by
    have e : L2.wipe σ (u :: us) = (L2.wipe σ us).set u none := rfl
    rw [e, wipe_set (h u List.mem_cons_self), wipe_wipe' fun i hi => h i (List.mem_cons_of_mem _ hi)]
theorem wipe_wipe {vs : List Nat} : L2.wipe (L2.wipe σ vs) vs = L2.wipe σ vs := wipe_wipe' fun _ h => h
end

/-! ### calls -/
/-- what a def promises -/
def spD (K : PySem.W.Frag) (φ : Nat → List D → Rs D) (C : Addr) (i n : Nat) : Sp := fun vs H Q E => ∃ O ds, OT O H ∧ Rps K O H vs ds ∧ vs.length = n ∧ (match φ i ds with
  | .ok d => ∀ v H', Same H H' → Rp K O H' v d → Q v H'
  | .ex d => ∀ dx v H', Same H H' → H' dx = some (.xd [(atS, v)]) → Rp K O H' v d → E (.ref C) (some dx) H'
  | .st => False)
/-- a table of the module by texts -/
def TabIs (K : PySem.W.Frag) (w : World) (mg : Str → Option Value) (T : Str) (kvs : List (Str × D)) : Prop :=
  ∃ a es n, mg T = some (.ref a) ∧ KDict K w a es n ∧ ∀ z : Str, (∀ d, tabAt kvs z = some d → ∃ u v, PySem.W.nsIn K a z = some (some u) ∧ RelV v u ∧ ∀ O H, Rp K O H v d) ∧ (tabAt kvs z = none → PySem.W.nsIn K a z = some none)
/-- what the body's context gives -/
structure Good (c : Cfg) (φ : Nat → List D → Rs D) (C : Addr) (k : Nat) (X : Cx) : Prop where
  hN : X.N = c.N
  nd : X.N.Nodup
  calm : X.calm = true
  room : Room k X.A
  fns : ∀ i x, c.fns[i]? = some x → ∃ f fd ps, X.mg x = some (.ref f) ∧ PySem.W.keepIn X.K (.ref f) = true ∧ Binds X.K fd ps [] ∧ FnOk X.prog X.w X.K X.mg X.base (L2.CX X.prog X.w) k f fd ps (spD X.K φ C i ps.length) ∧ (∀ ds, φ i ds ≠ .st → ds.length = ps.length)
  cs : ∀ x d, c.cs.lookup x = some d → ∃ u v, X.mg x = some u ∧ RelV v u ∧ ∀ O H, Rp X.K O H v d
  bl : ∀ x, x ∈ c.bl → X.mg x = none
  gcd : c.gcd = true → X.mg "gcd" = some (.builtin "math.gcd")
  tabs : ∀ T kvs, c.tabs.lookup T = some kvs → TabIs X.K X.w X.mg T kvs
theorem Good.hu {c : Cfg} {φ : Nat → List D → Rs D} {C : Addr} {k : Nat} {X : Cx} (g : Good c φ C k X) : X.A.units + 65 < cLine := by
  have := g.room.un; omega
theorem Good.blk {c : Cfg} {φ : Nat → List D → Rs D} {C : Addr} {k : Nat} {X : Cx} (g : Good c φ C k X) (s : Shared) (H : Hp) (scope : Scope) (ce : PySem.Env) (fp : List Addr) : Good c φ C k (X.blk s H scope ce fp) :=
  ⟨g.hN, g.nd, g.calm, g.room, g.fns, g.cs, g.bl, g.gcd, g.tabs⟩
abbrev W0 : WX := fun _ _ _ _ => False
theorem starCons {e : Expr} {es : List Expr} {env : PySem.Env} (h : lone e = true) : starEach (e :: es) env = (false, eval e env) :: starEach es env := by
  cases e <;> first | rfl | (simp [lone] at h; done)
def lones : List Expr → Bool
  | [] => true
  | e :: es => lone e && lones es
theorem starNone {env : PySem.Env} {pos : Pos} : ∀ {es : List Expr}, lones es = true → (backTo pos (starEach es env)).any (·.1) = false := by
  have aux : ∀ {es : List Expr}, lones es = true → (starEach es env).any (·.1) = false := by
    intro es
    induction es with
    | nil => intro _; rfl
    | cons e es ih =>
      intro h
      simp only [lones, Bool.and_eq_true] at h
      rw [starCons h.1]
      simpa using ih h.2
  intro es h
  have h := aux h
  first
    | simpa [backTo] using h
    | (unfold backTo; split <;> simp_all)
    | simp_all

section
variable {X : Cx} {φ : Nat → List D → Rs D} {C : Addr} {W : WX} {c : Cfg} {k : Nat}
theorem pe_callS0 {CX : CXT} {f : Addr} {fd : FuncData} {ps : List Str} {sp : Sp} {E : L2.St → XK} {x : Str} {p pos : Pos} (F : FnOk X.prog X.w X.K X.mg X.base CX k f fd ps sp) (hr : Room k X.A) (hg : Gl X x) (hm : X.mg x = some (.ref f)) (hk : PySem.W.keepIn X.K (.ref f) = true) (hb : Binds X.K fd ps []) (hx : ∀ σ, PassesAt CX X σ (E σ))
    (hdb : (x == ("__debug__" : Str)) = false) : PE X (.Call (.Name x p) [] [] pos) (tCallS sp E tNil) := by
  refine ⟨fun pins s σ H Q I h => ?_⟩
  refine wpAny_Call_Name_kw (ld_glob I hg hm ?_ hdb)
  exact PySem.W.callWith_K0 I.kIn hk (run_fnS (us := []) F hr hb (hx σ) I .nil h)
theorem sp_in {i n : Nat} {es : List E} {O : Ow} {ε : Env} {σ : L2.St} {H : Hp} {Q : VK} (ot : OT O H) (hl : ∀ ds, φ i ds ≠ .st → ds.length = n) {ds : List D} {vs : List V} {H1 : Hp} (s1 : Same H H1) (r1 : Rps X.K O H1 vs ds)
    (q : Res X.K C W O σ H (φ i ds) (kD X.K O H Q)) : spD X.K φ C i n vs H1 Q (WE W σ) := by
  refine ⟨O, ds, ot.same s1, r1, ?_, ?_⟩
  · rw [r1.length]
    refine hl ds fun e => ?_
    rw [e] at q; exact q
  · cases e : φ i ds with
    | ok d => rw [e] at q; exact fun v H' s r => q v H' (s1.trans s) r
    | ex d => rw [e] at q; exact fun dx v H' s a r => q dx v H' (s1.trans s) a r
    | st => rw [e] at q; exact q
theorem s_call (g : Good c φ C k X) (tk : Takes X W) {i : Nat} {x : Str} {es : List Expr} {es' : List E} {p pos : Pos} (hi : c.fns[i]? = some x) (hg : Gl X x) (hd : (x == ("__debug__" : Str)) = false) (ha : PA X es ((tA X.K φ C W) es')) (hl : lones es = true) (h0 : es = [] → es' = []) :
    PE X (.Call (.Name x p) es [] pos) ((tD X.K φ C W) (.call i es')) := by
  obtain ⟨f, fd, ps, hm, hk, hb, F, hn⟩ := g.fns i x hi
  cases es with
  | nil =>
    rw [h0 rfl]
    refine pem (pe_callS0 F g.room hg hm hk hb (passAt tk) hd) fun σ H Q ⟨O, ε, er, ot, q⟩ => ?_
    simp only [ev, evs, Rs.bnd_ok] at q
    exact sp_in (es := []) (ε := ε) ot hn (Same.refl H) .nil q
  | cons e es =>
    simp only [lones, Bool.and_eq_true] at hl
    refine pem (pe_callS F g.room hg hm hk hb (passAt tk) ha hd (starCons hl.1) (starNone hl.2)) fun σ H Q ⟨O, ε, er, ot, q⟩ => ?_
    simp only [ev] at q
    exact tL_in er ot q fun ds vs H1 s1 r1 q1 => sp_in (es := es') (ε := ε) ot hn s1 r1 q1
theorem Good.bi (g : Good c φ C k X) {x : Str} {b : Bi} (h : biOf x = some b) : CallR X (biVal b) (rBi X.K b) := (bi_ok g.calm (by have := g.hu; omega) h).1
theorem s_biG {b : Bi} {es : List Expr} {es' : List E} {x : Str} {p pos : Pos} (h : PE X (.Call (.Name x p) es [] pos) (tCB (rBi X.K b) ((tAW X.K φ C W) es'))) :
    PE X (.Call (.Name x p) es [] pos) ((tD X.K φ C W) (.bi b es')) ∧ (biNew b = true → PE X (.Call (.Name x p) es [] pos) ((tF X.K φ C W) (.bi b es'))) := by
  refine ⟨pem h fun σ H Q ⟨O, ε, er, ot, q⟩ => ?_, fun nw => pem h fun σ H Q ⟨O, ε, er, ot, q⟩ => ?_⟩
  · simp only [ev] at q
    refine tLW_in er ot q fun ds vs H1 s1 r1 q1 => ⟨O, ds, ot.same s1, r1, ?_⟩
    have q2 := Res.sD q1 s1
    unfold PoB
    split
    · exact Res.poF (biD_noex _ _) (ot.same s1) q2
    · exact Res.po (biD_noex _ _) q2
  · simp only [ev] at q
    refine tLW_in er ot q fun ds vs H1 s1 r1 q1 => ⟨O, ds, ot.same s1, r1, ?_⟩
    have q2 := Res.sF q1 s1
    rw [nw]
    exact Res.poF' (biD_noex _ _) q2
theorem s_bi (g : Good c φ C k X) {x : Str} {b : Bi} (hb : biOf x = some b) {e : Expr} {es : List Expr} {es' : List E} {p pos : Pos} (hg : Gl X x) (hm : X.mg x = none) (ha : PA X (e :: es) ((tAW X.K φ C W) es')) (hl : lones (e :: es) = true) :
    PE X (.Call (.Name x p) (e :: es) [] pos) ((tD X.K φ C W) (.bi b es')) ∧ (biNew b = true → PE X (.Call (.Name x p) (e :: es) [] pos) ((tF X.K φ C W) (.bi b es'))) := by
  obtain ⟨cr, hv, hn, hd, hk⟩ := bi_ok g.calm (by have := g.hu; omega) hb
  simp only [lones, Bool.and_eq_true] at hl
  refine s_biG ?_
  rcases hk with ⟨id, hid⟩ | ⟨T, hT⟩
  · rw [hid] at cr hv
    exact pe_callB cr hg hm hv ha hn hd (starCons hl.1) (starNone hl.2)
  · rw [hT] at cr hv
    exact pe_callTy cr hg hm hv ha hn hd (starCons hl.1) (starNone hl.2)
theorem s_gcd (g : Good c φ C k X) (hc : c.gcd = true) {e : Expr} {es : List Expr} {es' : List E} {p pos : Pos} (hg : Gl X "gcd") (ha : PA X (e :: es) ((tAW X.K φ C W) es')) (hl : lones (e :: es) = true) :
    PE X (.Call (.Name "gcd" p) (e :: es) [] pos) ((tD X.K φ C W) (.bi .gcd es')) ∧ (biNew .gcd = true → PE X (.Call (.Name "gcd" p) (e :: es) [] pos) ((tF X.K φ C W) (.bi .gcd es'))) := by
  simp only [lones, Bool.and_eq_true] at hl
  exact s_biG (pe_callBfun bi_gcd hg (g.gcd hc) ha (by decide +kernel) (starCons hl.1) (starNone hl.2))

/-- min(xs, default=d) -/
theorem s_biD (g : Good c φ C k X) {f : Str} {b : Bi} {id : String} (hb : CallRK X (.builtin id) [Str.ofString "default"] (rBiD X.K b)) (hv : bootBuiltins f = some (.builtin id)) (hn : f ≠ "__name__") (hdb : (f == ("__debug__" : Str)) = false) {e d : Expr} {e' d' : E} {p pos kp : Pos} (hg : Gl X f) (hm : X.mg f = none) (he : PE X e ((tW X.K φ C W) e')) (hd : PE X d ((tD X.K φ C W) d')) (hl : lone e = true) :
    PE X (.Call (.Name f p) [e] [⟨some (Str.ofString "default"), d, kp⟩] pos) ((tD X.K φ C W) (.bi b [e', d'])) := by
  refine pem (pe_callBK (t := tCons ((tW X.K φ C W) e') tNil) (tk := tCons ((tD X.K φ C W) d') tNil) hb hg hm hv (pa_cons he pa_nil (starCons hl)) (pk_cons hd pk_nil) hn hdb (by rw [starCons hl]; rfl) (starNone (by simp [lones, hl]))) fun σ H Q ⟨O, ε, er, ot, q⟩ => ?_
  simp only [ev, evs] at q
  have q' : Res X.K C W O σ H ((ev φ e' ε).bnd fun x => (ev φ d' ε).bnd fun y => biD b [x, y]) (kD X.K O H Q) := by
    cases h1 : ev φ e' ε <;> rw [h1] at q
    · simp only [Rs.bnd_ok] at q ⊢
      cases h2 : ev φ d' ε <;> rw [h2] at q <;> exact q
    · exact q
    · exact q
  refine tW_in er ot q' fun x v H1 s1 r1 q1 => ?_
  refine tD_in (er.same s1) (ot.same s1) (Res.sD q1 s1) fun y w H2 s2 r2 q2 => ?_
  exact ⟨O, v, w, x, y, rfl, rfl, (ot.same s1).same s2, r1.same s2, r2, Res.po (biD_noex _ _) (Res.sD q2 s2)⟩

/-! ### isinstance -/
def tyN : Ty → String
  | .int => "int" | .bool => "bool" | .str => "str" | .list => "list" | .tuple => "tuple" | .dict => "dict"
def tyD : D → String
  | .none => "NoneType" | .bool _ => "bool" | .int _ => "int" | .str _ => "str" | .list _ => "list" | .tuple _ => "tuple" | .dict _ => "dict"
theorem tyOf_eq {x : Str} {t : Ty} (h : tyOf x = some t) : bootBuiltins x = some (.type (tyN t)) ∧ x ≠ "__name__" ∧ (x == ("__debug__" : Str)) = false := by
  unfold tyOf at h
  split at h
  · rename_i e; cases h; subst e; exact ⟨by decide +kernel, by decide +kernel, by decide +kernel⟩
  split at h
  · rename_i e; cases h; subst e; exact ⟨by decide +kernel, by decide +kernel, by decide +kernel⟩
  split at h
  · rename_i e; cases h; subst e; exact ⟨by decide +kernel, by decide +kernel, by decide +kernel⟩
  split at h
  · rename_i e; cases h; subst e; exact ⟨by decide +kernel, by decide +kernel, by decide +kernel⟩
  split at h
  · rename_i e; cases h; subst e; exact ⟨by decide +kernel, by decide +kernel, by decide +kernel⟩
  split at h
  · rename_i e; cases h; subst e; exact ⟨by decide +kernel, by decide +kernel, by decide +kernel⟩
  · cases h
theorem tyX {K : PySem.W.Frag} {O : Ow} {H : Hp} {v : V} {d : D} (h : RpW K O H v d) : TyX K H v (.type (tyD d)) := by
  cases d with
  | list ds =>
    obtain ⟨a, xs, rfl, q, z, r⟩ := h
    rcases q with (q | ⟨o, q⟩) | ⟨o, its, n, q1, q2, q3⟩
    · exact .base (.lst q)
    · exact .base (.frz q)
    · exact .kList q1 q2
  | dict ds => obtain ⟨a, kvs, rfl, q, r⟩ := h; exact .base (.dK q)
  | none => cases (show Rp K O H v _ from h); exact .base .non
  | bool b => cases (show Rp K O H v _ from h); exact .base (.bl b)
  | int i => cases (show Rp K O H v _ from h); exact .base (.int i)
  | str x => cases (show Rp K O H v _ from h); exact .base (.str x)
  | tuple ds =>
    obtain ⟨a, xs, rfl, q, z, r⟩ := tupW h
    rcases q with (q | ⟨o, q⟩) | ⟨o, its, n, q1, q2, q3⟩
    · exact .base (.tup q)
    · exact .fTuple q
    · exact .kTuple q1 q2
def tyS (s : String) (t : Ty) : Bool := match t with
  | .int => s == "int" || s == "bool"
  | t => s == tyN t
theorem tyIs_S (t : Ty) (d : D) : tyIs t d = tyS (tyD d) t := by
  cases d <;> cases t <;> simp [tyIs, tyS, tyD, tyN]
theorem kit7 : ∀ s ∈ ["NoneType", "bool", "int", "str", "list", "tuple", "dict"], ∀ t ∈ [Ty.int, .bool, .str, .list, .tuple, .dict], kitB s (tyN t) = some (tyS s t) := by decide +kernel
theorem kitD (K : PySem.W.Frag) (d : D) (t : Ty) : PySem.W.kitOne K (.type (tyD d)) (.type (tyN t)) = some (tyIs t d) := by
  refine kit_ty ?_
  rw [tyIs_S]
  exact kit7 _ (by cases d <;> simp [tyD]) _ (by cases t <;> simp)
theorem s_ty {x : Str} {t : Ty} {pos : Pos} (h : tyOf x = some t) (hg : Gl X x) (hm : X.mg x = none) : PE X (.Name x pos) (tC (.ty (tyN t))) := by
  obtain ⟨h1, h2, h3⟩ := tyOf_eq h
  exact pe_bltn hg hm h1 rfl h2 h3
theorem s_isi1 {e : Expr} {e' : E} {x : Str} {t : Ty} {p p2 pos : Pos} (he : PE X e ((tW X.K φ C W) e')) (hl : lone e = true) (ht : tyOf x = some t) (hgx : Gl X x) (hmx : X.mg x = none) (hg : Gl X "isinstance") (hm : X.mg "isinstance" = none) :
    PE X (.Call (.Name "isinstance" p) [e, .Name x p2] [] pos) ((tF X.K φ C W) (.isi e' [t])) := by
  have ha : PA X [e, .Name x p2] (tCons ((tW X.K φ C W) e') (tCons (tC (.ty (tyN t))) tNil)) := pa_cons he (pa_cons (s_ty ht hgx hmx) pa_nil rfl) (starCons hl)
  refine pem (pe_callB call_isi hg hm (by decide +kernel) ha (by decide +kernel) (by decide +kernel) (starCons hl) (starNone (es := [_]) rfl)) fun σ H Q ⟨O, ε, er, ot, q⟩ => ?_
  simp only [ev] at q
  refine tW_in er ot q fun d v H1 s1 r1 q1 => ?_
  refine ⟨v, .ty (tyN t), _, _, tyIs t d, rfl, .ty _, tyX r1, kitD _ _ _, ?_⟩
  refine q1 (.bl _) H1 s1 ?_
  simp only [List.any_cons, List.any_nil, Bool.or_false]
  exact Rp.bl _
theorem s_isi2 {e : Expr} {e' : E} {x y : Str} {t u : Ty} {kk : Nat} {p p2 p3 p4 pos : Pos} (he : PE X e ((tW X.K φ C W) e')) (hl : lone e = true) (ht : tyOf x = some t) (hu : tyOf y = some u) (hgx : Gl X x) (hmx : X.mg x = none) (hgy : Gl X y) (hmy : X.mg y = none) (hg : Gl X "isinstance") (hm : X.mg "isinstance" = none) :
    PE X (.Call (.Name "isinstance" p) [e, .Tuple [.Name x p2, .Name y p3] kk p4] [] pos) ((tF X.K φ C W) (.isi e' [t, u])) := by
  have hT : PE X (.Tuple [.Name x p2, .Name y p3] kk p4) (tTup (tCons (tC (.ty (tyN t))) (tCons (tC (.ty (tyN u))) tNil))) := pe_tup (pa_cons (s_ty ht hgx hmx) (pa_cons (s_ty hu hgy hmy) pa_nil rfl) rfl)
  have ha : PA X [e, .Tuple [.Name x p2, .Name y p3] kk p4] (tCons ((tW X.K φ C W) e') (tCons (tTup (tCons (tC (.ty (tyN t))) (tCons (tC (.ty (tyN u))) tNil))) tNil)) := pa_cons he (pa_cons hT pa_nil rfl) (starCons hl)
  refine pem (pe_callB call_isiT hg hm (by decide +kernel) ha (by decide +kernel) (by decide +kernel) (starCons hl) (starNone (es := [_]) rfl)) fun σ H Q ⟨O, ε, er, ot, q⟩ => ?_
  simp only [ev] at q
  refine tW_in er ot q fun d v H1 s1 r1 q1 => ?_
  refine ⟨by show 2 ≤ sizeLine; rw [sizeLine_eq]; omega, fun T hT => ?_⟩
  have s2 := same_new (o := .tup [.ty (tyN t), .ty (tyN u)]) hT
  refine ⟨v, T, _, _, _, tyIs t d || tyIs u d, rfl, upd_same, .cons (.ty _) (.cons (.ty _) .nil), tyX (r1.same s2), kitAny_cons (kitD _ d t) (b := tyIs t d) (fun e => kitAny_cons (kitD _ d u) (fun e2 => ?_) (fun e2 => ?_)) (fun e => ?_), ?_⟩
  · rw [e, e2]; exact kitAny_nil
  · rw [e, e2]; rfl
  · rw [e]; rfl
  · refine q1 (.bl _) _ (s1.trans s2) ?_
    simp only [List.any_cons, List.any_nil, Bool.or_false]
    exact Rp.bl _
end
end Ws

set_option Elab.async false
set_option linter.all false
set_option maxRecDepth 100000
set_option maxHeartbeats 4000000
/-! Sim12: walks, targets, comprehensions -/
namespace Ws
open PySem PySem.Spec PyProof.Rows L2

/-- a walk over the data ds, whoever owns what -/
structure WkA (K : PySem.W.Frag) (O : Ow) (H : Hp) (J : L2.It) (ds : List D) : Prop where
  go : ∀ i d, ds[i]? = some d → J.go i H
  yld : ∀ i d x H', ds[i]? = some d → J.yld i H x H' → H' = H ∧ Rp K O H x d
  stop : J.stop ds.length H
section
variable {K : PySem.W.Frag} {O : Ow} {H : Hp} {a : Addr} {xs : List V} {ds : List D}
theorem lt_of_some {α : Type} {l : List α} {i : Nat} {d : α} (h : l[i]? = some d) : i < l.length := (List.getElem?_eq_some_iff.mp h).1
theorem wka_list (q : SqL K H a xs) (r : Rps K O H xs ds) : WkA K O H (Itl K a) ds where
  go i d e := walk_list.goes i H (by rw [r.length]; exact lt_of_some e) q
  yld i d x H' e y := by
    obtain ⟨h1, h2⟩ := walk_list.yields i H x H' (by rw [r.length]; exact lt_of_some e) q y
    obtain ⟨v, h3, h4⟩ := r.get e
    rw [h2] at h3; cases h3
    exact ⟨h1, h4⟩
  stop := by rw [← r.length]; exact walk_list.stops H q
theorem wka_tup (q : SqT K H a xs) (r : Rps K O H xs ds) : WkA K O H (Itt K a) ds where
  go i d e := walk_tup.goes i H (by rw [r.length]; exact lt_of_some e) q
  yld i d x H' e y := by
    obtain ⟨h1, h2⟩ := walk_tup.yields i H x H' (by rw [r.length]; exact lt_of_some e) q y
    obtain ⟨v, h3, h4⟩ := r.get e
    rw [h2] at h3; cases h3
    exact ⟨h1, h4⟩
  stop := by rw [← r.length]; exact walk_tup.stops H q
theorem wka_str {z : Str} (hz : PyData.strOk z = true) : WkA K O H (Its z) (z.cps.toList.map fun c => .str ⟨#[c]⟩) where
  go i d e := by
    have lt := lt_of_some e
    rw [List.length_map] at lt
    exact lt
  yld i d x H' e y := by
    obtain ⟨h1, c, h2, h3⟩ := (show H' = H ∧ ∃ c, z.cps[i]? = some c ∧ x = .str ⟨#[c]⟩ from y)
    subst h3
    rw [List.getElem?_map] at e
    have h2' : z.cps.toList[i]? = some c := by rw [Array.getElem?_toList]; exact h2
    rw [h2'] at e
    cases e
    refine ⟨h1, .str _ ?_ (by show 1 ≤ sizeLine; rw [sizeLine_eq]; omega)⟩
    refine strOk_one (i := (i : Int)) hz ?_
    unfold ixD
    rw [if_pos (by omega)]
    exact h2'
  stop := by rw [List.length_map]; exact Nat.le_refl _
theorem rev_get {α : Type} {l : List α} {i : Nat} {d : α} (h : l.reverse[i]? = some d) : l[l.length - 1 - i]? = some d := by
  have lt := lt_of_some h
  rw [List.length_reverse] at lt
  rwa [List.getElem?_reverse lt] at h
theorem wka_rev (q : SqL K H a xs) (r : Rps K O H xs ds) : WkA K O H (Itv K a xs.length) ds.reverse where
  go i d e := walk_rev.goes i H (by rw [r.length, ← List.length_reverse]; exact lt_of_some e) q
  yld i d x H' e y := by
    have lt := lt_of_some e
    rw [List.length_reverse] at lt
    obtain ⟨h1, h2⟩ := walk_rev.yields i H x H' (by rw [r.length]; exact lt) q y
    have e2 := rev_get e
    rw [← r.length] at e2
    obtain ⟨v, h3, h4⟩ := r.get e2
    rw [h2] at h3; cases h3
    exact ⟨h1, h4⟩
  stop := by rw [List.length_reverse, ← r.length]; exact walk_rev.stops H q
theorem wka_revT (q : SqT K H a xs) (r : Rps K O H xs ds) : WkA K O H (RT.ItvT K a xs.length) ds.reverse where
  go i d e := by
    have lt := lt_of_some e
    rw [List.length_reverse] at lt
    have e2 := rev_get e
    rw [← r.length] at e2
    obtain ⟨v, h3, h4⟩ := r.get e2
    exact ⟨by rw [r.length]; exact lt, xs, v, q, h3⟩
  yld i d x H' e y := by
    have e2 := rev_get e
    rw [← r.length] at e2
    obtain ⟨v, h3, h4⟩ := r.get e2
    obtain ⟨h1, h2⟩ := (show H' = H ∧ _ from y)
    have h2 := h2 xs q
    rw [h2] at h3; cases h3
    exact ⟨h1, h4⟩
  stop := by rw [List.length_reverse, ← r.length]; exact Nat.le_refl _
theorem rngL_get {lo : Int} {n i : Nat} {d : D} (h : (rngL lo n)[i]? = some d) : i < n ∧ d = .int (lo + (i : Nat)) := by
  have lt := lt_of_some h
  have lt' : i < n := by simpa [rngL] using lt
  unfold rngL at h
  rw [List.getElem?_map, List.getElem?_range lt'] at h
  cases h
  exact ⟨lt', rfl⟩
theorem rngL_len {lo : Int} {n : Nat} : (rngL lo n).length = n := by simp [rngL]
theorem wka_rng {lo : Int} {n : Nat} : WkA K O H (Itr lo n) (rngL lo n) where
  go i d e := (rngL_get e).1
  yld i d x H' e y := by
    obtain ⟨h1, h2⟩ := (show H' = H ∧ x = .int (lo + i) from y)
    obtain ⟨_, e2⟩ := rngL_get e
    subst e2; subst h2
    exact ⟨h1, .int _⟩
  stop := by rw [rngL_len]; exact Nat.le_refl _
theorem rngR_get {lo : Int} {n i : Nat} {d : D} (e : (rngL lo n).reverse[i]? = some d) : i < n ∧ d = .int (lo + n - 1 - i) := by
  have hl : i < (rngL lo n).reverse.length := (List.getElem?_eq_some_iff.mp e).1
  rw [List.length_reverse, rngL_len] at hl
  rw [List.getElem?_reverse (by rw [rngL_len]; exact hl), rngL_len] at e
  obtain ⟨h1, h2⟩ := rngL_get e
  refine ⟨hl, ?_⟩
  rw [h2]
  congr 1
  omega
theorem wka_rngR {lo : Int} {n : Nat} : WkA K O H (Itc (lo + n - 1) (-1) n) (rngL lo n).reverse where
  go i d e := (rngR_get e).1
  yld i d x H' e y := by
    obtain ⟨h1, h2⟩ := (show H' = H ∧ x = .int (lo + n - 1 + (i : Nat) * (-1)) from y)
    obtain ⟨_, e2⟩ := rngR_get e
    subst e2; subst h2
    refine ⟨h1, ?_⟩
    rw [show lo + (n : Int) - 1 + (i : Nat) * (-1) = lo + n - 1 - i by omega]
    exact .int _
  stop := by rw [List.length_reverse, rngL_len]; exact Nat.le_refl _
end

/-- an iterator over what `it` says; F: whoever owns what later, else only while all stands -/
def tI (F : Bool) (K : PySem.W.Frag) (φ : Nat → List D → Rs D) (C : Addr) (W : WX) (it : It) : TI := fun σ H R => ∃ O ε, ER K O H σ ε ∧ OT O H ∧ Res K C W O σ H (evi φ it ε) fun ds =>
  ∀ J H1, Same H H1 → ds.length ≤ sizeLine → (∀ O' H', (F = false → Same H1 H') → Fz O H1 O' H' → WkA K O' H' J ds) → R J H1
theorem pim {X : Cx} {tg e : Expr} {t t' : TI} (h : PI X tg e t) (f : ∀ σ H Q, t' σ H Q → t σ H Q) : PI X tg e t' := ⟨fun p s σ H Q I q => h.run p s σ H Q I (f σ H Q q)⟩
theorem pgm {X : Cx} {e : Expr} {t t' : TG} (h : PG X e t) (f : ∀ v σ H Q, t' v σ H Q → t v σ H Q) : PG X e t' := ⟨fun p s σ H v u Q I r q => h.run p s σ H v u Q I r (f v σ H Q q)⟩
theorem pgsm {X : Cx} {e : List Expr} {t t' : TGs} (h : PGs X e t) (f : ∀ v σ H Q, t' v σ H Q → t v σ H Q) : PGs X e t' := ⟨fun p s σ H v u Q I r q => h.run p s σ H v u Q I r (f v σ H Q q)⟩

def iSeq (K : PySem.W.Frag) (tl : TE) : TI := fun σ H R => tl σ H fun x H1 => (∃ a xs, x = .ref a ∧ ((SqL K H1 a xs ∧ R (Itl K a) H1) ∨ (SqT K H1 a xs ∧ R (Itt K a) H1))) ∨ ∃ z, x = .str z ∧ R (Its z) H1
theorem pi_seq {X : Cx} {tg l : Expr} {tl : TE} (hl : PE X l tl) : PI X tg l (iSeq X.K tl) := by
  refine ⟨fun pins s σ H R I h => ?_⟩
  refine thn (hl.run pins s σ H _ I h) fun v s1 ⟨x, H1, I1, r1, q1⟩ => ?_
  rcases q1 with q1 | ⟨z, rfl, q⟩
  rotate_left
  · obtain ⟨t, rfl⟩ := r1
    cases ha : z.cps.all (· < 128)
    · exact wpAny_pyIter_wide ha (pi_one (tk := s1.toks) I1 _ (turn_str _ z t "str_iterator" (.inr rfl)) ⟨_, Heap.get?_push_size _ rfl, rfl, rfl⟩ q)
    · exact wpAny_pyIter_ascii ha (pi_one (tk := s1.toks) I1 _ (turn_str _ z t "str_ascii_iterator" (.inl rfl)) ⟨_, Heap.get?_push_size _ rfl, rfl, rfl⟩ q)
  obtain ⟨a, xs, e, q⟩ := q1
  subst e
  cases r1
  have fin : ∀ b ∈ [s1.heap.objs.size], FpOk X pins H1 b := fun b hb => by
    have e : b = s1.heap.objs.size := by simpa using hb
    subst e
    exact I1.fpOk (Nat.le_refl _) (I1.hok.fresh (Nat.le_refl _))
  rcases q with ⟨hq, q⟩ | ⟨hq, q⟩
  · obtain ⟨its, rv, p, hz⟩ := I1.list hq
    refine wpAny_pyIter_list p.isList ?_
    exact ⟨s1.heap.objs.size, [s1.heap.objs.size], _, _, H1, rfl, I1.kept (t' := s1.toks) fun b o e => Heap.get?_push_of_some _ e, turn_list a _, ⟨_, Heap.get?_push_size _ rfl, rfl, rfl⟩, fin, q⟩
  · obtain ⟨its, rv, p, hz⟩ := I1.tuple hq
    refine wpAny_pyIter_tuple (show s1.heap.IsTuple a its.toArray from p) ?_
    exact ⟨s1.heap.objs.size, [s1.heap.objs.size], _, _, H1, rfl, I1.kept (t' := s1.toks) fun b o e => Heap.get?_push_of_some _ e, turn_tuple a _, ⟨_, Heap.get?_push_size _ rfl, rfl, rfl⟩, fin, q⟩

section
variable {X : Cx} {φ : Nat → List D → Rs D} {C : Addr} {W : WX} {c : Cfg} {k : Nat} {tg : Expr}
theorem seqD_noex (d : D) : NoEx (seqD d) := by cases d <;> first | exact NoEx.ok _ | exact NoEx.st
/-- what a reading gives for a walk; weak readings only where all stands -/
def Rd2 (F : Bool) (K : PySem.W.Frag) (O : Ow) (H : Hp) (v : V) (d : D) : Prop := if F = true then Rp K O H v d else RpW K O H v d
theorem Rd2.list {F : Bool} {K : PySem.W.Frag} {O : Ow} {H : Hp} {v : V} {ds : List D} (h : Rd2 F K O H v (.list ds)) : ∃ a xs, v = .ref a ∧ SqL K H a xs ∧ xs.length ≤ sizeLine ∧ Rps K O H xs ds ∧ ∀ O' H', (F = false → Same H H') → Fz O H O' H' → SqL K H' a xs := by
  cases F with
  | true =>
    cases (show Rp K O H v _ from h) with
    | lst q z r => exact ⟨_, _, rfl, q.seq, z, r, fun O' H' _ f => (f.sl q).seq⟩
  | false =>
    obtain ⟨a, xs, e, q, z, r⟩ := (show RpW K O H v (.list ds) from h)
    exact ⟨a, xs, e, q, z, r, fun O' H' s _ => Same.sql (s rfl) q⟩
theorem Rd2.tup {F : Bool} {K : PySem.W.Frag} {O : Ow} {H : Hp} {v : V} {ds : List D} (h : Rd2 F K O H v (.tuple ds)) : ∃ a xs, v = .ref a ∧ SqT K H a xs ∧ xs.length ≤ sizeLine ∧ Rps K O H xs ds := by
  refine tupW (O := O) (?_ : RpW K O H v (.tuple ds))
  cases F with
  | true => exact Rp.weak (show Rp K O H v _ from h)
  | false => exact (show RpW K O H v _ from h)
def tR (F : Bool) (K : PySem.W.Frag) (φ : Nat → List D → Rs D) (C : Addr) (W : WX) (e : E) : TE := if F = true then tD K φ C W e else tW K φ C W e
theorem tR_in {F : Bool} {K : PySem.W.Frag} {a : E} {O : Ow} {ε : Env} {σ : L2.St} {H : Hp} {Q : VK} {β : Type} {f : D → Rs β} {k : β → Prop} (er : ER K O H σ ε) (ot : OT O H) (h : Res K C W O σ H ((ev φ a ε).bnd f) k)
    (g : ∀ d v H', Same H H' → Rd2 F K O H' v d → Res K C W O σ H (f d) k → Q v H') : tR F K φ C W a σ H Q := by
  cases F with
  | true => exact ⟨O, ε, er, ot, h.bind fun d _ q v H' s r => g d v H' s r q⟩
  | false => exact ⟨O, ε, er, ot, h.bind fun d _ q v H' s r => g d v H' s r q⟩
theorem s_seq {F : Bool} {e : Expr} {e' : E} (he : PE X e (tR F X.K φ C W e')) : PI X tg e (tI F X.K φ C W (.seq e')) :=
  pim (pi_seq he) fun σ H R ⟨O, ε, er, ot, q⟩ => by
    simp only [evi] at q
    refine tR_in er ot q fun d v H1 s1 r1 q1 => ?_
    cases d <;> try exact (show False from q1).elim
    · rename_i z
      have r2 : RpW X.K O H1 v (.str z) := by
        cases F with
        | true => exact Rp.weak (show Rp X.K O H1 v _ from r1)
        | false => exact (show RpW X.K O H1 v (.str z) from r1)
      obtain ⟨e, hz, hl⟩ := strW r2
      exact .inr ⟨z, e, q1 _ H1 s1 (by rw [List.length_map]; exact hl) fun O' H' s f => wka_str hz⟩
    · obtain ⟨a, xs, e, hq, z, r, mv⟩ := r1.list
      exact .inl ⟨a, xs, e, .inl ⟨hq, q1 _ H1 s1 (by rw [← r.length]; exact z) fun O' H' s f => wka_list (mv O' H' s f) (r.mv f)⟩⟩
    · obtain ⟨a, xs, e, hq, z, r⟩ := r1.tup
      exact .inl ⟨a, xs, e, .inr ⟨hq, q1 _ H1 s1 (by rw [← r.length]; exact z) fun O' H' s f => wka_tup (f.st hq) (r.mv f)⟩⟩
theorem s_revI {F : Bool} (g : Good c φ C k X) {e : Expr} {e' : E} {p pos : Pos} (hg : Gl X "reversed") (hm : X.mg "reversed" = none) (hl : lone e = true) (he : PE X e (tR F X.K φ C W e')) : PI X tg (.Call (.Name "reversed" p) [e] [] pos) (tI F X.K φ C W (.rev e')) :=
  pim (RT.pi_revA hg hm he (starCons hl)) fun σ H R ⟨O, ε, er, ot, q⟩ => by
    simp only [evi] at q
    refine tR_in er ot q fun d v H1 s1 r1 q1 => ?_
    cases d <;> try exact (show False from q1).elim
    · obtain ⟨a, xs, e, hq, z, r, mv⟩ := r1.list
      exact ⟨a, xs, e, .inl ⟨hq, q1 _ H1 s1 (by rw [List.length_reverse, ← r.length]; exact z) fun O' H' s f => wka_rev (mv O' H' s f) (r.mv f)⟩⟩
    · obtain ⟨a, xs, e, hq, z, r⟩ := r1.tup
      exact ⟨a, xs, e, .inr ⟨hq, q1 _ H1 s1 (by rw [List.length_reverse, ← r.length]; exact z) fun O' H' s f => wka_revT (f.st hq) (r.mv f)⟩⟩
theorem rngD_of {lo hi : Int} {β : Type} {f : List D → Rs β} {O : Ow} {σ : L2.St} {H : Hp} {k : β → Prop} (h : Res X.K C W O σ H ((rngD lo hi).bnd f) k) : -(2 ^ 62) ≤ lo ∧ lo < 2 ^ 62 ∧ -(2 ^ 62) ≤ hi ∧ hi < 2 ^ 62 ∧ (hi - lo).toNat ≤ LIM ∧ Res X.K C W O σ H (f (rngL lo (hi - lo).toNat)) k := by
  unfold rngD at h
  split at h
  · rename_i c
    obtain ⟨c1, c2, c3, c4, c5⟩ := c
    exact ⟨c1, c2, c3, c4, c5, h⟩
  · exact (show False from h).elim
theorem Rs.bnd_ok' {α : Type} (r : Rs α) : r.bnd .ok = r := by cases r <;> rfl
theorem s_rng1 {F : Bool} {e : Expr} {e' : E} {p pos : Pos} (hg : Gl X "range") (hm : X.mg "range" = none) (hl : lone e = true) (he : PE X e ((tW X.K φ C W) e')) : PI X tg (.Call (.Name "range" p) [e] [] pos) (tI F X.K φ C W (.rng1 e')) :=
  pim (pi_range1 hg hm (ta := tCons ((tW X.K φ C W) e') tNil) (pa_cons he pa_nil (starCons hl)) (by rw [starCons hl]; rfl)) fun σ H R ⟨O, ε, er, ot, q⟩ => by
    simp only [evi] at q
    refine tW_in er ot q fun d v H1 s1 r1 q1 => ?_
    cases d <;> try exact (show False from q1).elim
    rename_i i
    cases intW r1
    have q1 : Res X.K C W O σ H (rngD 0 i) _ := q1
    rw [← Rs.bnd_ok' (rngD 0 i)] at q1
    obtain ⟨_, _, c3, c4, c5, q2⟩ := rngD_of q1
    rw [Int.sub_zero] at c5 q2
    exact ⟨i, rfl, c3, c4, (show ∀ J H1, Same H H1 → _ → _ → R J H1 from q2) _ H1 s1 (by rw [rngL_len, ← lim_line]; exact c5) fun O' H' _ _ => wka_rng⟩
theorem s_rng2 {F : Bool} {e e2 : Expr} {e' e2' : E} {p pos : Pos} (hg : Gl X "range") (hm : X.mg "range" = none) (hl : lone e = true) (hl2 : lone e2 = true) (he : PE X e ((tW X.K φ C W) e')) (he2 : PE X e2 ((tW X.K φ C W) e2')) : PI X tg (.Call (.Name "range" p) [e, e2] [] pos) (tI F X.K φ C W (.rng2 e' e2')) :=
  pim (pi_range2 hg hm (ta := tCons ((tW X.K φ C W) e') (tCons ((tW X.K φ C W) e2') tNil)) (pa_cons he (pa_cons he2 pa_nil (starCons hl2)) (starCons hl)) (by rw [starCons hl, starCons hl2]; rfl) (by rw [starCons hl2]; rfl)) fun σ H R ⟨O, ε, er, ot, q⟩ => by
    simp only [evi] at q
    refine tW_in er ot q fun d v H1 s1 r1 q1 => ?_
    refine tW_in (er.same s1) (ot.same s1) (q1.same s1 (k' := fun ds => ∀ J H2, Same H1 H2 → ds.length ≤ sizeLine → (∀ O' H', (F = false → Same H2 H') → Fz O H2 O' H' → WkA X.K O' H' J ds) → R J H2) fun ds k J H2 s => k J H2 (s1.trans s)) fun d2 v2 H2 s2 r2 q2 => ?_
    cases d <;> try exact (show False from q2).elim
    cases d2 <;> try exact (show False from q2).elim
    rename_i i j
    cases intW r1; cases intW r2
    have q2 : Res X.K C W O σ H1 (rngD i j) _ := q2
    rw [← Rs.bnd_ok' (rngD i j)] at q2
    obtain ⟨c1, c2, c3, c4, c5, q3⟩ := rngD_of q2
    exact ⟨i, j, rfl, ⟨c1, c2, c3, c4⟩, (show ∀ J H2, Same H1 H2 → _ → _ → R J H2 from q3) _ H2 s2 (by rw [rngL_len, ← lim_line]; exact c5) fun O' H' _ _ => wka_rng⟩
theorem s_rng3 {F : Bool} {e e2 e3 : Expr} {e' e2' e3' : E} {p pos : Pos} (hg : Gl X "range") (hm : X.mg "range" = none) (hl : lone e = true) (hl2 : lone e2 = true) (hl3 : lone e3 = true) (he : PE X e ((tW X.K φ C W) e')) (he2 : PE X e2 ((tW X.K φ C W) e2')) (he3 : PE X e3 ((tW X.K φ C W) e3')) : PI X tg (.Call (.Name "range" p) [e, e2, e3] [] pos) (tI F X.K φ C W (.rng3 e' e2' e3')) :=
  pim (pi_range3 hg hm (ta := tCons ((tW X.K φ C W) e') (tCons ((tW X.K φ C W) e2') (tCons ((tW X.K φ C W) e3') tNil))) (pa_cons he (pa_cons he2 (pa_cons he3 pa_nil (starCons hl3)) (starCons hl2)) (starCons hl)) (by rw [starCons hl]) (by rw [starCons hl2, starCons hl3]; rfl)) fun σ H R ⟨O, ε, er, ot, q⟩ => by
    simp only [evi] at q
    refine tW_in er ot q fun d v H1 s1 r1 q1 => ?_
    refine tW_in (er.same s1) (ot.same s1) (q1.same s1 (k' := fun ds => ∀ J H2, Same H1 H2 → ds.length ≤ sizeLine → (∀ O' H', (F = false → Same H2 H') → Fz O H2 O' H' → WkA X.K O' H' J ds) → R J H2) fun ds k J H2 s => k J H2 (s1.trans s)) fun d2 v2 H2 s2 r2 q2 => ?_
    refine tW_in ((er.same s1).same s2) ((ot.same s1).same s2) (q2.same s2 (k' := fun ds => ∀ J H3, Same H2 H3 → ds.length ≤ sizeLine → (∀ O' H', (F = false → Same H3 H') → Fz O H3 O' H' → WkA X.K O' H' J ds) → R J H3) fun ds k J H3 s => k J H3 (s2.trans s)) fun d3 v3 H3 s3 r3 q3 => ?_
    cases d <;> try exact (show False from q3).elim
    cases d2 <;> try exact (show False from q3).elim
    cases d3 <;> try exact (show False from q3).elim
    rename_i i j k
    cases intW r1; cases intW r2; cases intW r3
    have q6 : Res X.K C W O σ H2 (if k = -1 ∧ -1 ≤ j ∧ -1 ≤ i then (rngD (j + 1) (i + 1)).bnd fun ds => .ok ds.reverse else .st) _ := q3
    split at q6
    · rename_i hk
      obtain ⟨hk, hj, hi⟩ := hk
      subst hk
      obtain ⟨c1, c2, c3, c4, c5, q4⟩ := rngD_of q6
      have en : (i + 1 - (j + 1)).toNat = (i - j).toNat := by congr 1; omega
      rw [en] at c5 q4
      refine ⟨i, j, -1, (i - j).toNat, rfl, RgC.neg (by omega) (by omega) (by omega) (by omega), ?_⟩
      have q5 := (show ∀ J H3, Same H2 H3 → _ → _ → R J H3 from q4) (Itc i (-1) (i - j).toNat) H3 s3 (by rw [List.length_reverse, rngL_len, ← lim_line]; exact c5) fun O' H' _ _ => by
        by_cases hp : 0 ≤ i - j
        · have w := wka_rngR (K := X.K) (O := O') (H := H') (lo := j + 1) (n := (i - j).toNat)
          rwa [show j + 1 + ((i - j).toNat : Int) - 1 = i by omega] at w
        · have e0 : (i - j).toNat = 0 := by omega
          rw [e0]
          exact ⟨fun i d e => by simp [rngL] at e, fun i d x H' e y => by simp [rngL] at e, Nat.le_refl _⟩
      exact q5
    · exact (show False from q6).elim
end

/-! ### targets -/
/-- a target takes what stands for d -/
def gP (K : PySem.W.Frag) (t : Pt) : TG := fun v σ H Q => ∃ O d ε ε', Rp K O H v d ∧ bnd t d ε = .ok ε' ∧ ∀ σ', (∀ O' H', Fz O H O' H' → ER K O' H' σ ε → ER K O' H' σ' ε') → (∀ vs, (∀ i ∈ t.sl, i ∈ vs) → L2.wipe σ' vs = L2.wipe σ vs) → Q σ' H
def gPs (K : PySem.W.Frag) (ts : List Pt) : TGs := fun xs σ H Q => ∃ O ds ε ε', Rps K O H xs ds ∧ bnds ts ds ε = .ok ε' ∧ ∀ σ', (∀ O' H', Fz O H O' H' → ER K O' H' σ ε → ER K O' H' σ' ε') → (∀ vs, (∀ i ∈ Pt.sls ts, i ∈ vs) → L2.wipe σ' vs = L2.wipe σ vs) → Q σ' H
/-- what the scope of the text says of a target's names holds in the frame -/
def TgOk (X : Cx) (sc : Scope) : Prop := ∀ x, (sc.names.lookup x = some .local → X.env.scope.names.lookup x = some .local) ∧ (sc.names.lookup x = some .cell → X.env.scope.names.lookup x = some .cell ∧ X.fn x = true)
theorem slotIx_get {N : List Str} {x : Str} {i : Nat} (h : slotIx N x = some i) : N[i]? = some x := by
  unfold slotIx at h
  obtain ⟨lt, e, _⟩ := List.findIdx?_eq_some_iff_getElem.mp h
  rw [List.getElem?_eq_getElem lt]
  simp at e; rw [e]
theorem assignEach_len {env : PySem.Env} : ∀ {es : List Expr}, (assignEach es env).length = es.length
  | [] => rfl
  | e :: es => by cases e <;> (show (_ :: assignEach es env).length = _; rw [List.length_cons, assignEach_len]; rfl)
theorem assignEach_star {env : PySem.Env} : ∀ {es : List Expr}, noStar es = true → (assignEach es env).findIdx? (·.1) = none
  | [], _ => rfl
  | e :: es, h => by
    cases e <;> first
      | (simp [noStar] at h; done)
      | (show List.findIdx? _ ((false, _) :: assignEach es env) = none
         rw [List.findIdx?_cons]
         have h : noStar es = true := h
         simp [assignEach_star h])
def gUn (K : PySem.W.Frag) (n : Nat) (t : TGs) : TG := fun v σ H Q => ∃ a xs, v = .ref a ∧ (SqT K H a xs ∨ SqL K H a xs) ∧ xs.length = n ∧ t xs σ H Q
theorem pg_un {X : Cx} {es : List Expr} {kk : Nat} {t : TGs} {n : Nat} {pos : Pos} (hc : X.calm = true) (h : PGs X es t) (hn : (assignEach es X.env).length = n) (hst : (assignEach es X.env).findIdx? (·.1) = none) : PG X (.Tuple es kk pos) (gUn X.K n t) := by
  refine ⟨fun pins s σ H v u Q I r hw => ?_⟩
  obtain ⟨a, xs, e1, hq | hq, hl, hw⟩ := hw
  · exact (pg_tup hc h hn hst).run pins s σ H v u Q I r ⟨a, xs, e1, hq, hl, hw⟩
  · exact (pg_lst hc h hn hst).run pins s σ H v u Q I r ⟨a, xs, e1, hq, hl, hw⟩
theorem bnds_len : ∀ {ps : List Pt} {ds : List D} {ε ε' : Env}, bnds ps ds ε = .ok ε' → ds.length = ps.length
  | [], [], _, _, _ => rfl
  | [], _ :: _, _, _, h => by simp [bnds] at h
  | _ :: _, [], _, _, h => by simp [bnds] at h
  | p :: ps, d :: ds, ε, ε', h => by
    simp only [bnds] at h
    cases e : bnd p d ε with
    | ok ε2 => rw [e] at h; rw [List.length_cons, List.length_cons, bnds_len (ε := ε2) (ε' := ε') h]
    | ex z => rw [e] at h; cases h
    | st => rw [e] at h; cases h
theorem Rs.bnd_of {α β : Type} {r : Rs α} {f : α → Rs β} {b : β} (h : r.bnd f = .ok b) : ∃ a, r = .ok a ∧ f a = .ok b := by
  cases r with
  | ok a => exact ⟨a, rfl, h⟩
  | ex d => cases h
  | st => cases h
section
variable {X : Cx} {c : Cfg} {sc : Scope}
mutual
theorem pg_sound (hN : X.N = c.N) (nd : X.N.Nodup) (hc : X.calm = true) (tk : TgOk X sc) : ∀ (n : Nat) (e : Expr) (t : Pt), compT c sc n e = some t → PG X e (gP X.K t)
  | 0, _, _, h => by simp [compT] at h
  | n + 1, e, t, h => by
    cases e <;> try (simp [compT] at h; done)
    · rename_i x pos
      have nm : ∀ i, slotIx c.N x = some i → Loc X.env.scope x → (X.fn x = true ∨ X.env.scope.names.lookup x = some .local) → PG X (.Name x pos) (gP X.K (.nm i)) := fun i hi hl hf => by
        refine pgm (pg_name nd (by rw [hN]; exact slotIx_get hi) hl hf) fun v σ H Q ⟨O, d, ε, ε', r, b, q⟩ => ?_
        simp only [bnd] at b
        injection b with b
        subst b
        exact q _ (fun O' H' f er => er.set (r.mv f)) fun vs hv => wipe_set (hv i (by simp [Pt.sl]))
      simp only [compT] at h
      split at h
      · rename_i e
        cases hs : slotIx c.N x with
        | none => rw [hs] at h; cases h
        | some i =>
          rw [hs] at h; cases h
          exact nm i hs (.inl ((tk x).1 e)) (.inr ((tk x).1 e))
      · rename_i e
        cases hs : slotIx c.N x with
        | none => rw [hs] at h; cases h
        | some i =>
          rw [hs] at h; cases h
          exact nm i hs (.inr ((tk x).2 e).1) (.inl ((tk x).2 e).2)
      · cases h
    · rename_i es kk pos
      simp only [compT] at h
      split at h
      · rename_i hst
        cases hs : compTs c sc n es with
        | none => rw [hs] at h; cases h
        | some ts =>
          rw [hs] at h; cases h
          refine pgm (pg_un hc (pgs_sound hN nd hc tk n es ts hs).1 (n := ts.length) (by rw [assignEach_len]; exact (pgs_sound hN nd hc tk n es ts hs).2.symm) (assignEach_star hst)) fun v σ H Q ⟨O, d, ε, ε', r, b, q⟩ => ?_
          cases d <;> try (simp [bnd] at b; done)
          · simp only [bnd] at b
            cases r with
            | lst q1 z r => exact ⟨_, _, rfl, .inr q1.seq, by rw [r.length]; exact bnds_len b, O, _, ε, ε', r, b, fun σ' e' w => q σ' e' fun vs hv => w vs fun i hi => hv i (by simpa [Pt.sl] using hi)⟩
          · simp only [bnd] at b
            cases r with
            | tup q1 z r => exact ⟨_, _, rfl, .inl q1, by rw [r.length]; exact bnds_len b, O, _, ε, ε', r, b, fun σ' e' w => q σ' e' fun vs hv => w vs fun i hi => hv i (by simpa [Pt.sl] using hi)⟩
      · cases h
theorem pgs_sound (hN : X.N = c.N) (nd : X.N.Nodup) (hc : X.calm = true) (tk : TgOk X sc) : ∀ (n : Nat) (es : List Expr) (ts : List Pt), compTs c sc n es = some ts → PGs X es (gPs X.K ts) ∧ ts.length = es.length
  | 0, _, _, h => by simp [compTs] at h
  | n + 1, [], ts, h => by
    simp only [compTs] at h
    cases h
    refine ⟨pgsm pgs_nil fun v σ H Q ⟨O, ds, ε, ε', r, b, q⟩ => ?_, rfl⟩
    cases ds with
    | nil =>
      cases r
      simp only [bnds] at b
      injection b with b; subst b
      exact ⟨rfl, q σ (fun _ _ _ er => er) fun _ _ => rfl⟩
    | cons d ds => simp [bnds] at b
  | n + 1, e :: es, ts, h => by
    simp only [compTs] at h
    cases h1 : compT c sc n e with
    | none => rw [h1] at h; cases h
    | some t =>
      cases h2 : compTs c sc n es with
      | none => rw [h1, h2] at h; cases h
      | some us =>
        rw [h1, h2] at h
        cases h
        obtain ⟨p2, l2⟩ := pgs_sound hN nd hc tk n es us h2
        refine ⟨pgsm (pgs_cons (pg_sound hN nd hc tk n e t h1) p2 ?_) fun v σ H Q ⟨O, ds, ε, ε', r, b, q⟩ => ?_, by rw [List.length_cons, List.length_cons, l2]⟩
        · cases n with
          | zero => simp [compT] at h1
          | succ m => cases e <;> first | rfl | (simp [compT] at h1; done)
        · cases r with
          | nil => simp [bnds] at b
          | cons r rs =>
            simp only [bnds] at b
            obtain ⟨ε2, b1, b2⟩ := Rs.bnd_of b
            refine ⟨_, _, rfl, O, _, ε, ε2, r, b1, fun σ1 er1 w1 => ⟨O, _, ε2, ε', rs, b2, fun σ2 er2 w2 => q σ2 (fun O' H' f er => er2 O' H' f (er1 O' H' f er)) fun vs hv => ?_⟩⟩
            rw [w2 vs fun i hi => hv i (by simp [Pt.sls, hi]), w1 vs fun i hi => hv i (by simp [Pt.sls, hi])]
end
end
end Ws

set_option Elab.async false
set_option linter.all false
set_option maxRecDepth 100000
set_option maxHeartbeats 4000000
/-! Sim13: comprehensions -/
namespace Ws
open PySem PySem.Spec PyProof.Rows L2

/-- a condition -/
def tC (K : PySem.W.Frag) (φ : Nat → List D → Rs D) (C : Addr) (W : WX) (cd : Option E) : TT := fun σ H Q => ∃ O ε, ER K O H σ ε ∧ OT O H ∧ Res K C W O σ H (evc φ cd ε) fun b => ∀ H', Same H H' → Q b H'
theorem lcL_noex {t : D → Rs (List D)} : ∀ ds, NoEx (lcL t ds)
  | [] => NoEx.ok _
  | d :: ds => by
    unfold lcL
    refine NoEx.bnd ?_ fun ys => (lcL_noex ds).bnd fun _ => NoEx.ok _
    cases t d <;> first | exact NoEx.ok _ | exact NoEx.st
theorem lcL_cons {t : D → Rs (List D)} {d : D} {ds zs : List D} (h : lcL t (d :: ds) = .ok zs) : ∃ ys ws, t d = .ok ys ∧ lcL t ds = .ok ws ∧ zs = ys ++ ws := by
  unfold lcL at h
  obtain ⟨ys, h1, h⟩ := Rs.bnd_of h
  obtain ⟨ws, h2, h⟩ := Rs.bnd_of h
  injection h with h
  refine ⟨ys, ws, ?_, h2, h.symm⟩
  cases e : t d with
  | ok a => rw [e] at h1; exact h1
  | ex z => rw [e] at h1; cases h1
  | st => rw [e] at h1; cases h1
theorem Res.of_noex {α : Type} {K : PySem.W.Frag} {C : Addr} {W : WX} {O : Ow} {σ : L2.St} {H : Hp} {r : Rs α} {k : α → Prop} (n : NoEx r) (h : Res K C W O σ H r k) : ∃ a, r = .ok a ∧ k a := by
  cases r with
  | ok a => exact ⟨a, rfl, h⟩
  | ex d => exact absurd rfl (n d)
  | st => exact h.elim

/-- the owners while a comprehension's list grows -/
def O1 (O : Ow) (p : Addr) : Ow := fun a => if a = p then some 0 else O a
section
variable {K : PySem.W.Frag} {O : Ow} {H H' : Hp} {p : Addr}
theorem fzO1 (hp : H p = none) (s : Same H H') : Fz O H (O1 O p) H' :=
  ⟨fun a o e q => ⟨s a o e, by
    have ne : a ≠ p := fun z => by rw [z, hp] at e; cases e
    unfold O1; rw [if_neg ne]; exact q⟩, fun a xs e => s a _ e, fun a o xs e => s a _ e⟩
theorem otO1 (ot : OT O H) (s : Same H H') (h : ∃ o, H' p = some o) : OT (O1 O p) H' := fun a i e => by
  unfold O1 at e
  split at e
  · rename_i z; rw [z]; exact h
  · obtain ⟨o, q⟩ := ot a i e; exact ⟨o, s a o q⟩
theorem fzUp {acc : List V} {o : HO} (h : H p = some (.lst acc)) : Fz (O1 O p) H (O1 O p) (upd H p o) := by
  refine ⟨fun a u e q => ?_, fun a xs e => ?_, fun a u xs e => ?_⟩
  · have ne : a ≠ p := fun z => by unfold O1 at q; rw [if_pos z] at q; cases q
    exact ⟨by rw [upd_ne ne]; exact e, q⟩
  · have ne : a ≠ p := fun z => by rw [z, h] at e; cases e
    rw [upd_ne ne]; exact e
  · have ne : a ≠ p := fun z => by rw [z, h] at e; cases e
    rw [upd_ne ne]; exact e
theorem sameUp {H0 : Hp} {o : HO} (hp : H0 p = none) (s : Same H0 H) : Same H0 (upd H p o) := fun a u e => by
  have ne : a ≠ p := fun z => by rw [z, hp] at e; cases e
  rw [upd_ne ne]; exact s a u e
theorem fzOff {o : HO} (h : ∃ acc, H p = some (.lst acc)) {O' : Ow} (g : ∀ a, a ≠ p → O' a = O a) : Fz (O1 O p) H O' H := by
  refine ⟨fun a u e q => ⟨e, ?_⟩, fun a xs e => e, fun a u xs e => e⟩
  have ne : a ≠ p := fun z => by unfold O1 at q; rw [if_pos z] at q; cases q
  rw [g a ne]
  unfold O1 at q; rwa [if_neg ne] at q
end
theorem drop_cons {α : Type} {l : List α} {i : Nat} {d : α} (h : l[i]? = some d) : l.drop i = d :: l.drop (i + 1) := by
  obtain ⟨lt, e⟩ := List.getElem?_eq_some_iff.mp h
  rw [List.drop_eq_getElem_cons lt, e]
theorem isin_of {t : Pt} {vs : List Nat} (h : t.isin vs = true) : ∀ i ∈ t.sl, i ∈ vs := fun i hi => by
  unfold Pt.isin at h
  rw [List.all_eq_true] at h
  simpa using h i hi

section
variable {X : Cx} {φ : Nat → List D → Rs D} {C : Addr} {W : WX} {c : Cfg} {k : Nat}
theorem lc_rd {own : List (Str × Nat)} {t : Pt} {it : It} {cd : Option E} {x : E} (hin : t.isin (own.map (·.2)) = true) {σ : L2.St} {H : Hp} {Q : VK} (h : (tF X.K φ C W) (.lc (own.map (·.2)) x t it cd) σ H Q) :
    tLc (tI false X.K φ C W it) (gP X.K t) (tC X.K φ C W0 cd) (tD X.K φ C W0 x) (own.map (·.2)) σ H Q := by
    obtain ⟨O, ε, er, ot, q⟩ := h
    simp only [ev] at q
    refine ⟨O, ε, er, ot, q.bind fun ds _ q1 J H1 s1 hz wk Dd hD => ?_⟩
    revert q1
    generalize htn : (fun x_1 => (bnd t x_1 (wipeE ε (own.map (·.2)))).bnd fun ε' => (evc φ cd ε').bnd fun b => if b then (ev φ x ε').bnd fun y => Rs.ok [y] else Rs.ok []) = turn
    intro q1
    obtain ⟨tot, e1, q2⟩ := Res.of_noex (lcL_noex ds) (q1.bind fun ys _ q2 => q2)
    have q2 : kF X.K O H Q (.list tot) := q2
    have er1 := er.same s1
    have ot1 := ot.same s1
    refine ⟨fun i m H' => m = ds.length - i ∧ i ≤ ds.length ∧ ∃ acc dacc rest, H' Dd = some (.lst acc) ∧ Same H1 H' ∧ acc.length ≤ i ∧ Rps X.K (O1 O Dd) H' acc dacc ∧ lcL turn (ds.drop i) = .ok rest ∧ dacc ++ rest = tot,
      ⟨ds.length, by simp, Nat.zero_le _, [], [], tot, upd_same, sameUp hD (Same.refl _), Nat.le_refl _, .nil, by simpa using e1, rfl⟩, ?_⟩
    rintro i m H' ⟨rfl, hi, acc, dacc, rest, hA, sH, hl, ra, er', et⟩
    have w := wk (O1 O Dd) H' (fun _ => sH) (fzO1 hD sH)
    by_cases lt : i < ds.length
    · have hd : ds[i]? = some ds[i] := List.getElem?_eq_getElem lt
      rw [drop_cons hd] at er'
      obtain ⟨ys, ws, t1, t2, t3⟩ := lcL_cons er'
      rw [← htn] at t1
      obtain ⟨ε', b1, t1⟩ := Rs.bnd_of t1
      obtain ⟨b, b2, t1⟩ := Rs.bnd_of t1
      refine .inr ⟨w.go i _ hd, fun H' => i + 1 ≤ ds.length ∧ ∃ acc dacc rest, H' Dd = some (.lst acc) ∧ Same H1 H' ∧ acc.length ≤ i + 1 ∧ Rps X.K (O1 O Dd) H' acc dacc ∧ lcL turn (ds.drop (i + 1)) = .ok rest ∧ dacc ++ rest = tot, fun H'' hN => ⟨ds.length - (i + 1), ?_, rfl, hN⟩, fun z H'' y => ?_⟩
      · omega
      obtain ⟨e, rz⟩ := w.yld i _ z H'' hd y
      subst e
      refine ⟨O1 O Dd, _, _, ε', rz, b1, fun σ2 er2 w2 => ⟨by rw [w2 _ (isin_of hin), wipe_wipe], ?_⟩⟩
      have er3 := er2 _ _ (Fz.refl _ _) ((er1.mvS (fzO1 hD sH) sH).wipe _)
      have ot3 := otO1 (p := Dd) ot1 sH ⟨_, hA⟩
      refine ⟨O1 O Dd, ε', er3, ot3, ?_⟩
      rw [b2]
      refine fun H3 s3 => ?_
      cases b with
      | true =>
        rw [if_pos rfl] at t1 ⊢
        obtain ⟨dy, b3, t1⟩ := Rs.bnd_of t1
        injection t1 with t1
        refine ⟨O1 O Dd, ε', er3.same s3, ot3.same s3, ?_⟩
        rw [b3]
        refine fun yv H4 s4 ry => ⟨acc, s4 _ _ (s3 _ _ hA), by omega, lt, acc ++ [yv], dacc ++ [dy], ws, upd_same, sameUp hD ((sH.trans s3).trans s4), by rw [List.length_append]; simp; omega, ?_, t2, ?_⟩
        · exact (((ra.same s3).same s4).app (.cons ry .nil)).mv (fzUp (s4 _ _ (s3 _ _ hA)))
        · rw [← et, t3, ← t1]; simp
      | false =>
        rw [if_neg Bool.false_ne_true] at t1 ⊢
        injection t1 with t1
        refine ⟨lt, acc, dacc, ws, s3 _ _ hA, sH.trans s3, by omega, ra.same s3, t2, ?_⟩
        rw [← et, t3, ← t1]; rfl
    · have e : i = ds.length := by omega
      subst e
      refine .inl ⟨w.stop, q2 _ H' (s1.trans sH) ?_⟩
      rw [List.drop_length] at er'
      have er' : Rs.ok [] = Rs.ok rest := er'
      injection er' with er'
      subst er'
      rw [List.append_nil] at et
      subst et
      exact ⟨Dd, acc, rfl, s1.free hD, hA, by omega, fun O' h => ra.mv (fzOff (o := .lst []) ⟨_, hA⟩ h)⟩
theorem s_lc (g : Good c φ C k X) {elt tg iter : Expr} {ifs : List Expr} {scope : Scope} {own : List (Str × Nat)} {pos : Pos} {t : Pt} {it : It} {cd : Option E} {x : E} (ok : BlkOk X.N X.env.scope scope own) (hi : PI X tg iter (tI false X.K φ C W it)) (hs : ∀ x, foldedSetIterable iter X.env x = pure x)
    (hg : ∀ (s : Shared) (H : Hp) (Cc : Addr) (cl : List (Str × Addr)) (fp : List Addr), PG (X.blk s H scope (compEnvC scope cl Cc X.env) fp) tg (gP X.K t)) (ht : ∀ (s : Shared) (H : Hp) (Cc : Addr) (cl : List (Str × Addr)) (fp : List Addr), PTs (X.blk s H scope (compEnvC scope cl Cc X.env) fp) ifs (tC X.K φ C W0 cd))
    (he : ∀ (s : Shared) (H : Hp) (Cc : Addr) (cl : List (Str × Addr)) (fp : List Addr), PE (X.blk s H scope (compEnvC scope cl Cc X.env) fp) elt (tD X.K φ C W0 x)) (hin : t.isin (own.map (·.2)) = true) :
    PE X (.ListComp elt [⟨tg, iter, ifs, 0⟩] scope pos) ((tF X.K φ C W) (.lc (own.map (·.2)) x t it cd)) :=
  pem (pe_lc g.calm g.nd hi ok hg ht he hs) fun σ H Q h => lc_rd hin h
theorem lc2_rd {own : List (Str × Nat)} {t t1 : Pt} {it it1 : It} {cd cd1 : Option E} {x : E} (hin : t.isin (own.map (·.2)) = true) (hin1 : t1.isin (own.map (·.2)) = true) {σ : L2.St} {H : Hp} {Q : VK} (h : (tF X.K φ C W) (.lc2 (own.map (·.2)) t1.sl x t it cd t1 it1 cd1) σ H Q) :
    tLc2 (tI false X.K φ C W it) (gP X.K t) (tC X.K φ C W0 cd) (tI true X.K φ C W0 it1) (gP X.K t1) (tC X.K φ C W0 cd1) (tD X.K φ C W0 x) (own.map (·.2)) t1.sl σ H Q := by
    obtain ⟨O, ε, er, ot, q⟩ := h
    simp only [ev] at q
    refine ⟨O, ε, er, ot, q.bind fun ds _ q1 J H1 s1 hz wk Dd hD => ?_⟩
    revert q1
    generalize htn1 : (fun (ε' : Env) (x1 : D) => (bnd t1 x1 (wipeE ε' t1.sl)).bnd fun ε'' => (evc φ cd1 ε'').bnd fun b1 => if b1 then (ev φ x ε'').bnd fun y => Rs.ok [y] else Rs.ok []) = turn1
    have ht' : ∀ ε', (fun (x1 : D) => (bnd t1 x1 (wipeE ε' t1.sl)).bnd fun ε'' => (evc φ cd1 ε'').bnd fun b1 => if b1 then (ev φ x ε'').bnd fun y => Rs.ok [y] else Rs.ok []) = turn1 ε' := fun ε' => by rw [← htn1]
    simp only [ht']
    generalize htn : (fun x_1 => (bnd t x_1 (wipeE ε (own.map (·.2)))).bnd fun ε' => (evc φ cd ε').bnd fun b => if b then (evi φ it1 ε').bnd fun ds1 => lcL (turn1 ε') ds1 else Rs.ok []) = turn
    intro q1
    obtain ⟨tot, e1, q2⟩ := Res.of_noex (lcL_noex ds) (q1.bind fun ys _ q2 => q2)
    have hT : tot.length ≤ LIM := by
      by_cases z : tot.length ≤ LIM
      · exact z
      · have q2 : Res X.K C W O σ H (if tot.length ≤ LIM then _ else _) _ := q2
        rw [if_neg z] at q2; exact q2.elim
    have q2 : Res X.K C W O σ H (if tot.length ≤ LIM then _ else _) _ := q2
    rw [if_pos hT] at q2
    have q2 : kF X.K O H Q (.list tot) := q2
    rw [lim_line] at hT
    have er1 := er.same s1
    have ot1 := ot.same s1
    refine ⟨fun i m H' => m = ds.length - i ∧ i ≤ ds.length ∧ ∃ acc dacc rest, H' Dd = some (.lst acc) ∧ Same H1 H' ∧ Rps X.K (O1 O Dd) H' acc dacc ∧ lcL turn (ds.drop i) = .ok rest ∧ dacc ++ rest = tot,
      ⟨ds.length, by simp, Nat.zero_le _, [], [], tot, upd_same, sameUp hD (Same.refl _), .nil, by simpa using e1, rfl⟩, ?_⟩
    rintro i m H' ⟨rfl, hi, acc, dacc, rest, hA, sH, ra, er', et⟩
    have w := wk (O1 O Dd) H' (fun _ => sH) (fzO1 hD sH)
    by_cases lt : i < ds.length
    · have hd : ds[i]? = some ds[i] := List.getElem?_eq_getElem lt
      rw [drop_cons hd] at er'
      obtain ⟨ys, ws, t1', t2, t3⟩ := lcL_cons er'
      rw [← htn] at t1'
      obtain ⟨ε', b1, t1'⟩ := Rs.bnd_of t1'
      obtain ⟨b, b2, t1'⟩ := Rs.bnd_of t1'
      refine .inr ⟨w.go i _ hd, fun H' => i + 1 ≤ ds.length ∧ ∃ acc dacc rest, H' Dd = some (.lst acc) ∧ Same H1 H' ∧ Rps X.K (O1 O Dd) H' acc dacc ∧ lcL turn (ds.drop (i + 1)) = .ok rest ∧ dacc ++ rest = tot, fun H'' hN => ⟨ds.length - (i + 1), ?_, rfl, hN⟩, fun z H'' y => ?_⟩
      · omega
      obtain ⟨e, rz⟩ := w.yld i _ z H'' hd y
      subst e
      refine ⟨O1 O Dd, _, _, ε', rz, b1, fun σ2 er2 w2 => ⟨by rw [w2 _ (isin_of hin), wipe_wipe], ?_⟩⟩
      have er3 := er2 _ _ (Fz.refl _ _) ((er1.mvS (fzO1 hD sH) sH).wipe _)
      have ot3 := otO1 (p := Dd) ot1 sH ⟨_, hA⟩
      refine ⟨O1 O Dd, ε', er3, ot3, ?_⟩
      rw [b2]
      refine fun H3 s3 => ?_
      cases b with
      | true =>
        rw [if_pos rfl] at t1' ⊢
        obtain ⟨ds1, b3, t1'⟩ := Rs.bnd_of t1'
        refine ⟨O1 O Dd, ε', er3.same s3, ot3.same s3, ?_⟩
        rw [b3]
        refine fun J1 H4 s4 hz1 wk1 => ?_
        refine ⟨fun j m H5 => m = ds1.length - j ∧ j ≤ ds1.length ∧ ∃ acc dacc rest, H5 Dd = some (.lst acc) ∧ Same H1 H5 ∧ Fz (O1 O Dd) H'' (O1 O Dd) H5 ∧ Fz (O1 O Dd) H4 (O1 O Dd) H5 ∧ Rps X.K (O1 O Dd) H5 acc dacc ∧ lcL (turn1 ε') (ds1.drop j) = .ok rest ∧ dacc ++ rest ++ ws = tot,
          ⟨ds1.length, by simp, Nat.zero_le _, acc, dacc, ys, s4 _ _ (s3 _ _ hA), (sH.trans s3).trans s4, .same (s3.trans s4), .refl _ _, (ra.same s3).same s4, by simpa using t1', by rw [← et, t3, List.append_assoc]⟩, ?_⟩
        rintro j m1 H5 ⟨rfl, hj, acc5, dacc5, rest5, hA5, sH5, f5, f45, ra5, er5, et5⟩
        have w5 := wk1 (O1 O Dd) H5 (fun z => by cases z) f45
        by_cases lt5 : j < ds1.length
        · have hd5 : ds1[j]? = some ds1[j] := List.getElem?_eq_getElem lt5
          rw [drop_cons hd5] at er5
          obtain ⟨ys5, ws5, u1, u2, u3⟩ := lcL_cons er5
          rw [← htn1] at u1
          obtain ⟨ε5, c1, u1⟩ := Rs.bnd_of u1
          obtain ⟨bb, c2, u1⟩ := Rs.bnd_of u1
          refine .inr ⟨w5.go j _ hd5, fun H5 => j + 1 ≤ ds1.length ∧ ∃ acc dacc rest, H5 Dd = some (.lst acc) ∧ Same H1 H5 ∧ Fz (O1 O Dd) H'' (O1 O Dd) H5 ∧ Fz (O1 O Dd) H4 (O1 O Dd) H5 ∧ Rps X.K (O1 O Dd) H5 acc dacc ∧ lcL (turn1 ε') (ds1.drop (j + 1)) = .ok rest ∧ dacc ++ rest ++ ws = tot, fun H6 hN => ⟨ds1.length - (j + 1), ?_, rfl, hN⟩, fun z5 H6 y5 => ?_⟩
          · omega
          obtain ⟨e6, rz5⟩ := w5.yld j _ z5 H6 hd5 y5
          subst e6
          refine ⟨O1 O Dd, _, _, ε5, rz5, c1, fun σ3 er6 w6 => ⟨by rw [w6 _ fun i hi => hi, wipe_wipe], ?_⟩⟩
          have er7 := er6 _ _ (Fz.refl _ _) ((er2 _ _ f5 ((er1.mvS (fzO1 hD sH5) sH5).wipe _)).wipe _)
          have ot7 := otO1 (p := Dd) ot1 sH5 ⟨_, hA5⟩
          refine ⟨O1 O Dd, ε5, er7, ot7, ?_⟩
          rw [c2]
          refine fun H7 s7 => ?_
          cases bb with
          | true =>
            rw [if_pos rfl] at u1 ⊢
            obtain ⟨dy, c3, u1⟩ := Rs.bnd_of u1
            injection u1 with u1
            refine ⟨O1 O Dd, ε5, er7.same s7, ot7.same s7, ?_⟩
            rw [c3]
            refine fun yv H8 s8 ry => ⟨acc5, s8 _ _ (s7 _ _ hA5), ?_, lt5, acc5 ++ [yv], dacc5 ++ [dy], ws5, upd_same, sameUp hD ((sH5.trans s7).trans s8), ?_, ?_, ?_, u2, ?_⟩
            · have h1 := congrArg List.length et5
              rw [u3, ← u1] at h1
              have h2 := ra5.length
              simp only [List.length_append, List.length_cons, List.length_nil] at h1
              omega
            · exact (f5.trans (.same (s7.trans s8))).trans (fzUp (s8 _ _ (s7 _ _ hA5)))
            · exact (f45.trans (.same (s7.trans s8))).trans (fzUp (s8 _ _ (s7 _ _ hA5)))
            · exact (((ra5.same s7).same s8).app (.cons ry .nil)).mv (fzUp (s8 _ _ (s7 _ _ hA5)))
            · rw [← et5, u3, ← u1]; simp
          | false =>
            rw [if_neg Bool.false_ne_true] at u1 ⊢
            injection u1 with u1
            refine ⟨lt5, acc5, dacc5, ws5, s7 _ _ hA5, sH5.trans s7, f5.trans (.same s7), f45.trans (.same s7), ra5.same s7, u2, ?_⟩
            rw [← et5, u3, ← u1]; rfl
        · have e : j = ds1.length := by omega
          subst e
          rw [List.drop_length] at er5
          have er5 : Rs.ok [] = Rs.ok rest5 := er5
          injection er5 with er5
          subst er5
          rw [List.append_nil] at et5
          exact .inl ⟨w5.stop, lt, acc5, dacc5, ws, hA5, sH5, ra5, t2, et5⟩
      | false =>
        rw [if_neg Bool.false_ne_true] at t1' ⊢
        injection t1' with t1'
        refine ⟨lt, acc, dacc, ws, s3 _ _ hA, sH.trans s3, ra.same s3, t2, ?_⟩
        rw [← et, t3, ← t1']; rfl
    · have e : i = ds.length := by omega
      subst e
      refine .inl ⟨w.stop, q2 _ H' (s1.trans sH) ?_⟩
      rw [List.drop_length] at er'
      have er' : Rs.ok [] = Rs.ok rest := er'
      injection er' with er'
      subst er'
      rw [List.append_nil] at et
      subst et
      exact ⟨Dd, acc, rfl, s1.free hD, hA, by rw [ra.length]; exact hT, fun O' h => ra.mv (fzOff (o := .lst []) ⟨_, hA⟩ h)⟩
theorem s_lc2 (g : Good c φ C k X) {elt tg iter tg1 iter1 : Expr} {ifs ifs1 : List Expr} {scope : Scope} {own : List (Str × Nat)} {pos : Pos} {t t1 : Pt} {it it1 : It} {cd cd1 : Option E} {x : E} (ok : BlkOk X.N X.env.scope scope own) (hi : PI X tg iter (tI false X.K φ C W it)) (hs : ∀ x, foldedSetIterable iter X.env x = pure x) (hs1 : ∀ env x, foldedSetIterable iter1 env x = pure x)
    (hg : ∀ (s : Shared) (H : Hp) (Cc : Addr) (cl : List (Str × Addr)) (fp : List Addr), PG (X.blk s H scope (compEnvC scope cl Cc X.env) fp) tg (gP X.K t)) (ht : ∀ (s : Shared) (H : Hp) (Cc : Addr) (cl : List (Str × Addr)) (fp : List Addr), PTs (X.blk s H scope (compEnvC scope cl Cc X.env) fp) ifs (tC X.K φ C W0 cd))
    (hi1 : ∀ (s : Shared) (H : Hp) (Cc : Addr) (cl : List (Str × Addr)) (fp : List Addr), PI (X.blk s H scope (compEnvC scope cl Cc X.env) fp) tg1 iter1 (tI true X.K φ C W0 it1))
    (hg1 : ∀ (s : Shared) (H : Hp) (Cc : Addr) (cl : List (Str × Addr)) (fp : List Addr), PG (X.blk s H scope (compEnvC scope cl Cc X.env) fp) tg1 (gP X.K t1)) (ht1 : ∀ (s : Shared) (H : Hp) (Cc : Addr) (cl : List (Str × Addr)) (fp : List Addr), PTs (X.blk s H scope (compEnvC scope cl Cc X.env) fp) ifs1 (tC X.K φ C W0 cd1))
    (he : ∀ (s : Shared) (H : Hp) (Cc : Addr) (cl : List (Str × Addr)) (fp : List Addr), PE (X.blk s H scope (compEnvC scope cl Cc X.env) fp) elt (tD X.K φ C W0 x)) (hin : t.isin (own.map (·.2)) = true) (hin1 : t1.isin (own.map (·.2)) = true) :
    PE X (.ListComp elt [⟨tg, iter, ifs, 0⟩, ⟨tg1, iter1, ifs1, 0⟩] scope pos) ((tF X.K φ C W) (.lc2 (own.map (·.2)) t1.sl x t it cd t1 it1 cd1)) :=
  pem (pe_lc2 g.calm g.nd hi ok (isin_of hin1) hg ht hi1 hg1 ht1 he hs hs1) fun σ H Q h => lc2_rd hin hin1 h
end
end Ws

set_option Elab.async false
set_option linter.all false
set_option maxRecDepth 100000
set_option maxHeartbeats 4000000
/-! Sim14: the pure language says what the text does: expressions -/
namespace Ws
open PySem PySem.Spec PyProof.Rows L2

theorem ev_wk {φ : Nat → List D → Rs D} {K : PySem.W.Frag} {C : Addr} {W : WX} {O : Ow} {σ : L2.St} {H : Hp} {k : D → Prop} : ∀ {a : E} {ε : Env}, Res K C W O σ H (ev φ a ε) k → Res K C W O σ H (ev φ (wk a) ε) k := by
  intro a ε h
  cases a <;> try exact h
  rename_i i
  simp only [ev, wk] at h ⊢
  cases hh : ε[i]? with
  | none => rw [hh] at h; exact h.elim
  | some s => cases s <;> (rw [hh] at h; first | exact h | exact h.elim)
structure SE (X : Cx) (φ : Nat → List D → Rs D) (C : Addr) (W : WX) (e : Expr) (a : E) : Prop where
  d : PE X e (tD X.K φ C W a)
  w : PE X e (tW X.K φ C W (wk a))
  f : frE a = true → PE X e (tF X.K φ C W a)
  t : PT X e (tT X.K φ C W (wk a))
section
variable {X : Cx} {φ : Nat → List D → Rs D} {C : Addr} {W : WX} {e : Expr} {a : E}
theorem SE.r (h : SE X φ C W e a) (F : Bool) : PE X e (tR F X.K φ C W (if F = true then a else wk a)) := by
  cases F with
  | true => exact h.d
  | false => exact h.w
theorem SE.ofF (h : PE X e (tF X.K φ C W a)) (hw : wk a = a) (he : ∀ whole, isTrue e X.env whole = (do let v ← whole; standAt e.pos; holding [v] (truthy v))) : SE X φ C W e a :=
  ⟨pe_FD h, by rw [hw]; exact pe_DW (pe_FD h), fun _ => h, by rw [hw]; exact s_truth (pe_DW (pe_FD h)) he⟩
theorem SE.ofD (h : PE X e (tD X.K φ C W a)) (hw : wk a = a) (hf : frE a = false) (he : ∀ whole, isTrue e X.env whole = (do let v ← whole; standAt e.pos; holding [v] (truthy v))) : SE X φ C W e a :=
  ⟨h, by rw [hw]; exact pe_DW h, fun z => absurd z (by rw [hf]; decide), by rw [hw]; exact s_truth (pe_DW h) he⟩
theorem ptwk (h : PT X e (tT X.K φ C W (wk a))) : PT X e (tT X.K φ C W a) := ptm h fun σ H Q ⟨O, ε, er, ot, q⟩ => ⟨O, ε, er, ot, ev_wk q⟩
theorem pwwk (h : PW X e (tT X.K φ C W (wk a))) : PW X e (tT X.K φ C W a) := pwm h fun σ H Q ⟨O, ε, er, ot, q⟩ => ⟨O, ε, er, ot, ev_wk q⟩
end
theorem evs_len {φ : Nat → List D → Rs D} : ∀ {es : List E} {ε : Env} {ds : List D}, evs φ es ε = .ok ds → ds.length = es.length
  | [], ε, ds, h => by simp only [evs] at h; injection h with h; subst h; rfl
  | e :: es, ε, ds, h => by
    simp only [evs] at h
    obtain ⟨x, _, h⟩ := Rs.bnd_of h
    obtain ⟨xs, h2, h⟩ := Rs.bnd_of h
    injection h with h
    subst h
    rw [List.length_cons, List.length_cons, evs_len h2]
theorem slot_of {c : Cfg} {X : Cx} {sc : Scope} {x : Str} {i : Nat} (hN : X.N = c.N) (hs : X.env.scope = sc) (h : slotOf c sc x = some i) : X.N[i]? = some x ∧ Vis X.env.scope x := by
  unfold slotOf at h
  rw [hN, hs]
  split at h
  · exact ⟨slotIx_get h, .inl (by assumption)⟩
  · exact ⟨slotIx_get h, .inr (.inl (by assumption))⟩
  · exact ⟨slotIx_get h, .inr (.inr (by assumption))⟩
  · cases h
theorem glob_of {X : Cx} {sc : Scope} {x : Str} (hs : X.env.scope = sc) (h : glob sc x = true) : Gl X x ∧ (x == ("__debug__" : Str)) = false := by
  unfold glob at h
  split at h
  · rename_i e
    simp only [Bool.not_eq_true', decide_eq_false_iff_not] at h
    exact ⟨by show X.env.scope.names.lookup x = _; rw [hs]; exact e, by simpa using h⟩
  · cases h
theorem relS_tg {X : Cx} {sc scope : Scope} (s : Shared) (H : Hp) (Cc : Addr) (cl : List (Str × Addr)) (fp : List Addr) (hs : X.env.scope = sc) : TgOk (X.blk s H scope (compEnvC scope cl Cc X.env) fp) scope := fun x => by
  refine ⟨fun h => ?_, fun h => ⟨?_, ?_⟩⟩
  · exact lookup_relS_keep (sc := X.env.scope) (by decide) h
  · exact lookup_relS_keep (sc := X.env.scope) (by decide) h
  · show (scope.names.lookup x == some NameKind.cell) = true
    rw [h]; rfl
theorem fix_of {l : List Str} {x : Str} {i : Nat} (h : (l.findIdx? fun y => decide (y = x)) = some i) : l[i]? = some x := slotIx_get (N := l) h
theorem folded_of {e : Expr} (h : walkable e = true) : ∀ (env : PySem.Env) (x : Value), foldedSetIterable e env x = pure x := by
  cases e <;> first | (simp [walkable] at h; done) | (intro _ _; rfl)

structure SN (c : Cfg) (φ : Nat → List D → Rs D) (C : Addr) (k n : Nat) : Prop where
  e : ∀ {X : Cx} {W : WX} {sc : Scope} {e : Expr} {a : E}, Good c φ C k X → Takes X W → X.env.scope = sc → compE c n sc e = some a → SE X φ C W e a
  is_ : ∀ {X : Cx} {W : WX} {sc : Scope} {es : List Expr} {a : E}, Good c φ C k X → Takes X W → X.env.scope = sc → compIs c n sc es = some a → glob sc "isinstance" = true → ("isinstance" : Str) ∈ c.bl → (∀ p pos, PE X (.Call (.Name "isinstance" p) es [] pos) (tF X.K φ C W a)) ∧ wk a = a
  b : ∀ {X : Cx} {W : WX} {sc : Scope} {o : BoolOp} {es : List Expr} {a : E}, Good c φ C k X → Takes X W → X.env.scope = sc → compB c n sc o es = some a → ∀ pos, PE X (.BoolOp o es pos) (tD X.K φ C W a) ∧ PW X (.BoolOp o es pos) (tT X.K φ C W (wk a)) ∧ (2 ≤ es.length → wk a = a ∧ frE a = false)
  es : ∀ {X : Cx} {W : WX} {sc : Scope} {es : List Expr} {as : List E}, Good c φ C k X → Takes X W → X.env.scope = sc → compEs c n sc es = some as → PA X es (tA X.K φ C W as) ∧ lones es = true ∧ as.length = es.length ∧ (es = [] → as = []) ∧ Paired (fun e a => PE X e (tD X.K φ C W a)) es as
  ws : ∀ {X : Cx} {W : WX} {sc : Scope} {es : List Expr} {as : List E}, Good c φ C k X → Takes X W → X.env.scope = sc → compWs c n sc es = some as → PA X es (tAW X.K φ C W as) ∧ lones es = true
  o : ∀ {X : Cx} {W : WX} {sc : Scope} {e : Option Expr} {a : Option E}, Good c φ C k X → Takes X W → X.env.scope = sc → compO c n sc e = some a → PO X e (tOO X.K φ C W a)
  cd : ∀ {X : Cx} {W : WX} {sc : Scope} {es : List Expr} {a : Option E}, Good c φ C k X → Takes X W → X.env.scope = sc → compC c n sc es = some a → PTs X es (tC X.K φ C W a)
  i : ∀ {X : Cx} {W : WX} {sc : Scope} {w : Bool} {e : Expr} {a : It}, Good c φ C k X → Takes X W → X.env.scope = sc → compI c n sc w e = some a → (∀ tg, PI X tg e (tI (!w) X.K φ C W a)) ∧ ∀ (env : PySem.Env) (x : Value), foldedSetIterable e env x = pure x
theorem bndO {α β : Type} {o : Option α} {f : α → Option β} {b : β} (h : o.bind f = some b) : ∃ a, o = some a ∧ f a = some b := by
  cases o with
  | none => cases h
  | some a => exact ⟨a, rfl, h⟩
theorem plain_of {b : Expr} (h : plainIx b = true) : PlainIx b := by
  intro o i
  cases b <;> first | (simp [plainIx] at h; done) | rfl

variable {c : Cfg} {φ : Nat → List D → Rs D} {C : Addr} {k : Nat}
theorem sn_is {n : Nat} (ih : SN c φ C k n) {X : Cx} {W : WX} {sc : Scope} {es : List Expr} {a : E} (g : Good c φ C k X) (tk : Takes X W) (hs : X.env.scope = sc) (h : compIs c (n + 1) sc es = some a) (hg : glob sc "isinstance" = true) (hb : ("isinstance" : Str) ∈ c.bl) :
    (∀ p pos, PE X (.Call (.Name "isinstance" p) es [] pos) (tF X.K φ C W a)) ∧ wk a = a := by
  obtain ⟨hgi, _⟩ := glob_of hs hg
  have hmi := g.bl _ hb
  unfold compIs at h
  split at h
  · cases h
  · rename_i nn e t p0 hn; cases hn
    split at h
    · rename_i cnd
      simp only [Bool.and_eq_true, decide_eq_true_eq] at cnd
      obtain ⟨e', h1, h⟩ := bndO h
      obtain ⟨t', h2, h⟩ := bndO h
      cases h
      exact ⟨fun p pos => s_isi1 (ih.e g tk hs h1).w cnd.1.1 h2 (glob_of hs cnd.1.2).1 (g.bl _ cnd.2) hgi hmi, rfl⟩
    · cases h
  · rename_i nn e t p0 u p1 kk p2 hn; cases hn
    split at h
    · rename_i cnd
      simp only [Bool.and_eq_true, decide_eq_true_eq] at cnd
      obtain ⟨e', h1, h⟩ := bndO h
      obtain ⟨t', h2, h⟩ := bndO h
      obtain ⟨u', h3, h⟩ := bndO h
      cases h
      exact ⟨fun p pos => s_isi2 (ih.e g tk hs h1).w cnd.1.1.1.1 h2 h3 (glob_of hs cnd.1.1.1.2).1 (g.bl _ cnd.1.1.2) (glob_of hs cnd.1.2).1 (g.bl _ cnd.2) hgi hmi, rfl⟩
    · cases h
  · cases h
theorem pw_one' {X : Cx} {o : BoolOp} {e : Expr} {t : TT} {pos : Pos} (h : PT X e t) : PW X (.BoolOp o [e] pos) t := by
  cases o with
  | And => exact pw_and1 h
  | Or => exact pw_or1 h
theorem sn_b {n : Nat} (ih : SN c φ C k n) {X : Cx} {W : WX} {sc : Scope} {o : BoolOp} {es : List Expr} {a : E} (g : Good c φ C k X) (tk : Takes X W) (hs : X.env.scope = sc) (h : compB c (n + 1) sc o es = some a) (pos : Pos) :
    PE X (.BoolOp o es pos) (tD X.K φ C W a) ∧ PW X (.BoolOp o es pos) (tT X.K φ C W (wk a)) ∧ (2 ≤ es.length → wk a = a ∧ frE a = false) := by
  unfold compB at h
  split at h
  · cases h
  · cases h
  · rename_i nn e hn; cases hn
    have se := ih.e g tk hs h
    exact ⟨pe_one se.d, pw_one' se.t, fun z => by simp at z⟩
  · rename_i nn e e' es hn; cases hn
    obtain ⟨a1, h1, h⟩ := bndO h
    obtain ⟨b1, h2, h⟩ := bndO h
    cases h
    have se := ih.e g tk hs h1
    obtain ⟨q1, q2, _⟩ := ih.b g tk hs h2 pos
    exact ⟨s_andV se.d q1, s_andT (ptwk se.t) (pwwk q2), fun _ => ⟨rfl, rfl⟩⟩
  · rename_i nn e e' es hn; cases hn
    obtain ⟨a1, h1, h⟩ := bndO h
    obtain ⟨b1, h2, h⟩ := bndO h
    cases h
    have se := ih.e g tk hs h1
    obtain ⟨q1, q2, _⟩ := ih.b g tk hs h2 pos
    exact ⟨s_orV se.d q1, s_orT (ptwk se.t) (pwwk q2), fun _ => ⟨rfl, rfl⟩⟩
theorem sn_es {n : Nat} (ih : SN c φ C k n) {X : Cx} {W : WX} {sc : Scope} {es : List Expr} {as : List E} (g : Good c φ C k X) (tk : Takes X W) (hs : X.env.scope = sc) (h : compEs c (n + 1) sc es = some as) :
    PA X es (tA X.K φ C W as) ∧ lones es = true ∧ as.length = es.length ∧ (es = [] → as = []) ∧ Paired (fun e a => PE X e (tD X.K φ C W a)) es as := by
  unfold compEs at h
  split at h
  · cases h
  · cases h; exact ⟨s_nil, rfl, rfl, fun _ => rfl, .nil⟩
  · rename_i nn e es hn; cases hn
    split at h
    · rename_i hl
      obtain ⟨a1, h1, h⟩ := bndO h
      obtain ⟨b1, h2, h⟩ := bndO h
      cases h
      obtain ⟨q1, q2, q3, _, q5⟩ := ih.es g tk hs h2
      exact ⟨s_cons (ih.e g tk hs h1).d q1 (starCons hl), by simp only [lones, hl, q2, Bool.and_true], by rw [List.length_cons, List.length_cons, q3], fun z => (by cases z), .cons (ih.e g tk hs h1).d q5⟩
    · cases h
theorem sn_ws {n : Nat} (ih : SN c φ C k n) {X : Cx} {W : WX} {sc : Scope} {es : List Expr} {as : List E} (g : Good c φ C k X) (tk : Takes X W) (hs : X.env.scope = sc) (h : compWs c (n + 1) sc es = some as) :
    PA X es (tAW X.K φ C W as) ∧ lones es = true := by
  unfold compWs at h
  split at h
  · cases h
  · cases h; exact ⟨s_nilW, rfl⟩
  · rename_i nn e es hn; cases hn
    split at h
    · rename_i hl
      obtain ⟨a1, h1, h⟩ := bndO h
      obtain ⟨b1, h2, h⟩ := bndO h
      cases h
      obtain ⟨q1, q2⟩ := ih.ws g tk hs h2
      exact ⟨s_consW (ih.e g tk hs h1).w q1 (starCons hl), by simp only [lones, hl, q2, Bool.and_true]⟩
    · cases h
theorem sn_o {n : Nat} (ih : SN c φ C k n) {X : Cx} {W : WX} {sc : Scope} {e : Option Expr} {a : Option E} (g : Good c φ C k X) (tk : Takes X W) (hs : X.env.scope = sc) (h : compO c (n + 1) sc e = some a) : PO X e (tOO X.K φ C W a) := by
  unfold compO at h
  split at h
  · cases h
  · cases h; exact s_po0
  · rename_i nn e hn; cases hn
    obtain ⟨a1, h1, h⟩ := bndO h
    cases h
    exact s_po1 (ih.e g tk hs h1).w
theorem sn_cd {n : Nat} (ih : SN c φ C k n) {X : Cx} {W : WX} {sc : Scope} {es : List Expr} {a : Option E} (g : Good c φ C k X) (tk : Takes X W) (hs : X.env.scope = sc) (h : compC c (n + 1) sc es = some a) : PTs X es (tC X.K φ C W a) := by
  unfold compC at h
  split at h
  · cases h
  · cases h
    exact ⟨fun p s σ H Q I ⟨O, ε, er, ot, q⟩ => pts_nil.run p s σ H Q I (by simp only [evc] at q; exact q H (Same.refl H))⟩
  · rename_i nn e hn; cases hn
    obtain ⟨a1, h1, h⟩ := bndO h
    cases h
    exact ⟨fun p s σ H Q I ⟨O, ε, er, ot, q⟩ => (pts_one (ih.e g tk hs h1).t).run p s σ H Q I (by simp only [evc] at q; exact tT_in er ot q fun d H' s q1 => q1 H' s)⟩
  · cases h
theorem sn_i {n : Nat} (ih : SN c φ C k n) {X : Cx} {W : WX} {sc : Scope} {w : Bool} {e : Expr} {a : It} (g : Good c φ C k X) (tk : Takes X W) (hs : X.env.scope = sc) (h : compI c (n + 1) sc w e = some a) :
    (∀ tg, PI X tg e (tI (!w) X.K φ C W a)) ∧ ∀ (env : PySem.Env) (x : Value), foldedSetIterable e env x = pure x := by
  have hw : ∀ a1 : E, (if (!w) = true then a1 else wk a1) = (if w = true then wk a1 else a1) := fun a1 => by cases w <;> rfl
  unfold compI at h
  split at h
  · cases h
  · rename_i nn a1 p pos hn; cases hn
    split at h
    · rename_i cnd
      simp only [Bool.and_eq_true, decide_eq_true_eq] at cnd
      obtain ⟨e', h1, h⟩ := bndO h
      cases h
      exact ⟨fun tg => s_rng1 (glob_of hs cnd.1.1).1 (g.bl _ cnd.1.2) cnd.2 (ih.e g tk hs h1).w, fun _ _ => rfl⟩
    · cases h
  · rename_i nn a1 b1 p pos hn; cases hn
    split at h
    · rename_i cnd
      simp only [Bool.and_eq_true, decide_eq_true_eq] at cnd
      obtain ⟨e', h1, h⟩ := bndO h
      obtain ⟨e2', h2, h⟩ := bndO h
      cases h
      exact ⟨fun tg => s_rng2 (glob_of hs cnd.1.1.1).1 (g.bl _ cnd.1.1.2) cnd.1.2 cnd.2 (ih.e g tk hs h1).w (ih.e g tk hs h2).w, fun _ _ => rfl⟩
    · cases h
  · rename_i nn a1 b1 d1 p pos hn; cases hn
    split at h
    · rename_i cnd
      simp only [Bool.and_eq_true, decide_eq_true_eq] at cnd
      obtain ⟨e', h1, h⟩ := bndO h
      obtain ⟨e2', h2, h⟩ := bndO h
      obtain ⟨e3', h3, h⟩ := bndO h
      cases h
      exact ⟨fun tg => s_rng3 (glob_of hs cnd.1.1.1.1).1 (g.bl _ cnd.1.1.1.2) cnd.1.1.2 cnd.1.2 cnd.2 (ih.e g tk hs h1).w (ih.e g tk hs h2).w (ih.e g tk hs h3).w, fun _ _ => rfl⟩
    · cases h
  · rename_i nn a1 p pos hn; cases hn
    split at h
    · rename_i cnd
      simp only [Bool.and_eq_true, decide_eq_true_eq] at cnd
      obtain ⟨e', h1, h⟩ := bndO h
      cases h
      refine ⟨fun tg => s_revI g (glob_of hs cnd.1.1).1 (g.bl _ cnd.1.2) cnd.2 ?_, fun _ _ => rfl⟩
      rw [← hw]
      exact (ih.e g tk hs h1).r _
    · cases h
  · rename_i nn e hn n1 n2 n3 n4; cases hn
    split at h
    · rename_i hwk
      obtain ⟨e', h1, h⟩ := bndO h
      cases h
      refine ⟨fun tg => s_seq ?_, folded_of hwk⟩
      rw [← hw]
      exact (ih.e g tk hs h1).r _
    · cases h
end Ws

set_option Elab.async false
set_option linter.all false
set_option maxRecDepth 100000
set_option maxHeartbeats 4000000
/-! Sim14b: tables of the module; len(set(..)); dict displays -/
namespace Ws
open PySem PySem.Spec PyProof.Rows L2

section
variable {X : Cx} {φ : Nat → List D → Rs D} {C : Addr} {W : WX} {c : Cfg} {k : Nat}
theorem tab_some {kvs : List (Str × D)} {x : Str} : (kvs.map (·.1)).any (fun k => decide (k = x)) = (tabAt kvs x).isSome := by
  unfold tabAt
  rw [Option.isSome_map]
  induction kvs with
  | nil => rfl
  | cons p r ih =>
    rw [List.map_cons, List.any_cons, List.find?_cons, ih]
    by_cases e : p.1 = x
    · simp [e]
    · simp [e]
theorem inTD_noex (ks : List Str) (n : Bool) (d : D) : NoEx (inTD ks n d) := by cases d <;> first | exact NoEx.ok _ | exact NoEx.st
theorem s_inT {a : Expr} {a' : E} {T : Str} {kvs : List (Str × D)} {p pos : Pos} (g : Good c φ C k X) (hT : c.tabs.lookup T = some kvs) (hg : Gl X T) (hd : (T == ("__debug__" : Str)) = false) (ha : PE X a (tW X.K φ C W a')) :
    PE X (.Compare a [.In] [.Name T p] pos) (tF X.K φ C W (.inT (kvs.map (·.1)) false a')) ∧ PE X (.Compare a [.NotIn] [.Name T p] pos) (tF X.K φ C W (.inT (kvs.map (·.1)) true a')) := by
  obtain ⟨ad, es, n, hm, D0, hz⟩ := g.tabs T kvs hT
  have hb : PE X (.Name T p) (L2.tC (V.ref ad)) := pe_glob (v := V.ref ad) hg hm (show RelV (V.ref ad) (Value.ref ad) from rfl) hd
  refine ⟨pem (pe_cmpR (op_in_kd D0) ha hb rfl) fun σ H Q ⟨O, ε, er, ot, q⟩ => ?_, pem (pe_cmpR (op_notIn_kd D0) ha hb rfl) fun σ H Q ⟨O, ε, er, ot, q⟩ => ?_⟩
  · simp only [ev] at q
    refine tW_in er ot q fun d v H1 s1 r1 q1 => ?_
    cases d <;> try exact (show False from q1).elim
    rename_i x
    obtain ⟨rfl, _, _⟩ := strW r1
    have q1 : kF X.K O H Q (.bool ((kvs.map (·.1)).any fun k => decide (k = x))) := q1
    rw [tab_some] at q1
    cases e : tabAt kvs x with
    | none => rw [e] at q1; exact ⟨x, none, rfl, rfl, (hz x).2 e, q1 _ H1 s1 (Rp.bl _)⟩
    | some d =>
      obtain ⟨u, w, h1, _⟩ := (hz x).1 d e
      rw [e] at q1
      exact ⟨x, some u, rfl, rfl, h1, q1 _ H1 s1 (Rp.bl _)⟩
  · simp only [ev] at q
    refine tW_in er ot q fun d v H1 s1 r1 q1 => ?_
    cases d <;> try exact (show False from q1).elim
    rename_i x
    obtain ⟨rfl, _, _⟩ := strW r1
    have q1 : kF X.K O H Q (.bool (!(kvs.map (·.1)).any fun k => decide (k = x))) := q1
    rw [tab_some] at q1
    cases e : tabAt kvs x with
    | none => rw [e] at q1; exact ⟨x, none, rfl, rfl, (hz x).2 e, q1 _ H1 s1 (Rp.bl _)⟩
    | some d =>
      obtain ⟨u, w, h1, _⟩ := (hz x).1 d e
      rw [e] at q1
      exact ⟨x, some u, rfl, rfl, h1, q1 _ H1 s1 (Rp.bl _)⟩
theorem s_inTT {a : Expr} {a' : E} {T : Str} {kvs : List (Str × D)} {p pos : Pos} (g : Good c φ C k X) (hT : c.tabs.lookup T = some kvs) (hg : Gl X T) (hd : (T == ("__debug__" : Str)) = false) (ha : PE X a (tW X.K φ C W a')) :
    PT X (.Compare a [.In] [.Name T p] pos) (tT X.K φ C W (.inT (kvs.map (·.1)) false a')) ∧ PT X (.Compare a [.NotIn] [.Name T p] pos) (tT X.K φ C W (.inT (kvs.map (·.1)) true a')) := by
  obtain ⟨ad, es, n, hm, D0, hz⟩ := g.tabs T kvs hT
  have hb : PE X (.Name T p) (L2.tC (V.ref ad)) := pe_glob (v := V.ref ad) hg hm (show RelV (V.ref ad) (Value.ref ad) from rfl) hd
  refine ⟨ptm (pt_cmpR (op_in_kd D0) ha hb rfl) fun σ H Q ⟨O, ε, er, ot, q⟩ => ?_, ptm (pt_cmpR (op_notIn_kd D0) ha hb rfl) fun σ H Q ⟨O, ε, er, ot, q⟩ => ?_⟩
  · simp only [ev] at q
    refine tW_in er ot q fun d v H1 s1 r1 q1 => ?_
    cases d <;> try exact (show False from q1).elim
    rename_i x
    obtain ⟨rfl, _, _⟩ := strW r1
    have q1 : ∀ H', Same H H' → Q ((kvs.map (·.1)).any fun k => decide (k = x)) H' := q1
    rw [tab_some] at q1
    cases e : tabAt kvs x with
    | none => rw [e] at q1; exact ⟨x, none, rfl, rfl, (hz x).2 e, _, rfl, q1 H1 s1⟩
    | some d =>
      obtain ⟨u, w, h1, _⟩ := (hz x).1 d e
      rw [e] at q1
      exact ⟨x, some u, rfl, rfl, h1, _, rfl, q1 H1 s1⟩
  · simp only [ev] at q
    refine tW_in er ot q fun d v H1 s1 r1 q1 => ?_
    cases d <;> try exact (show False from q1).elim
    rename_i x
    obtain ⟨rfl, _, _⟩ := strW r1
    have q1 : ∀ H', Same H H' → Q (!(kvs.map (·.1)).any fun k => decide (k = x)) H' := q1
    rw [tab_some] at q1
    cases e : tabAt kvs x with
    | none => rw [e] at q1; exact ⟨x, none, rfl, rfl, (hz x).2 e, _, rfl, q1 H1 s1⟩
    | some d =>
      obtain ⟨u, w, h1, _⟩ := (hz x).1 d e
      rw [e] at q1
      exact ⟨x, some u, rfl, rfl, h1, _, rfl, q1 H1 s1⟩
theorem s_atT {b : Expr} {b' : E} {T : Str} {kvs : List (Str × D)} {p pos : Pos} (g : Good c φ C k X) (hT : c.tabs.lookup T = some kvs) (hg : Gl X T) (hd : (T == ("__debug__" : Str)) = false) (hb : PE X b (tW X.K φ C W b')) (hs : NoSl b) :
    PE X (.Subscript (.Name T p) b pos) (tD X.K φ C W (.atT kvs b')) := by
  obtain ⟨ad, es, n, hm, D0, hz⟩ := g.tabs T kvs hT
  have ha : PE X (.Name T p) (L2.tC (V.ref ad)) := pe_glob (v := V.ref ad) hg hm (show RelV (V.ref ad) (Value.ref ad) from rfl) hd
  refine ⟨fun pins s σ H Q I ⟨O, ε, er, ot, q⟩ => ?_⟩
  simp only [ev] at q
  refine subD_of PySem.F.slot_dict_getitem.lookup hs (thn (ha.run pins s σ H (fun x H1 => x = .ref ad ∧ H1 = H) I ⟨rfl, rfl⟩) fun u s1 ⟨x, H1, I1, rx, ex, eH⟩ => ?_)
  subst ex eH
  refine thn (hb.run pins s1 σ H1 (fun y H2 => ∃ (z : Str) (u0 : Value) (v0 : V), y = .str z ∧ PySem.W.nsIn X.K ad z = some (some u0) ∧ RelV v0 u0 ∧ Q v0 H2) I1 ?_) fun iv s2 ⟨y, H2, I2, ry, z, u0, v0, ey, hn, r0, q0⟩ => ?_
  · refine tW_in er ot q fun d v H2 s2 r1 q1 => ?_
    cases d <;> try exact (show False from q1).elim
    rename_i x
    obtain ⟨rfl, _, _⟩ := strW r1
    cases e : tabAt kvs x with
    | none =>
      have q1 : Res X.K C W O σ H1 (Rs.of (tabAt kvs x)) (kD X.K O H1 Q) := q1
      rw [e] at q1; exact q1.elim
    | some d =>
      have q1 : Res X.K C W O σ H1 (Rs.of (tabAt kvs x)) (kD X.K O H1 Q) := q1
      rw [e] at q1
      obtain ⟨u, w, h1, h2, h3⟩ := (hz x).1 d e
      exact ⟨x, u, w, rfl, h1, h2, q1 w H2 s2 (h3 O H2)⟩
  · subst ey
    obtain rfl : u = Value.ref ad := rx
    exact ⟨kd_type D0 I2, op_item_kd D0 pins s2 σ H2 (.ref ad) (.str z) (.ref ad) iv Q I2 rfl ry ⟨z, u0, v0, rfl, rfl, hn, r0, q0⟩⟩

/-! ### len(set(xs)), xs a list of tuples of ints -/
theorem dnum_eq : ∀ (ks L : List (List Int)), L.Nodup → (∀ x ∈ L, x ∈ ks) → (∀ x ∈ ks, x ∈ L) → L.length = dnum ks
  | [], L, _, h1, _ => by
    cases L with
    | nil => rfl
    | cons x L => exact absurd (h1 x List.mem_cons_self) (by simp)
  | k :: ks, L, nd, h1, h2 => by
    unfold dnum
    by_cases m : k ∈ ks
    · rw [if_pos (by rw [List.any_eq_true]; exact ⟨k, m, by simp⟩)]
      refine dnum_eq ks L nd (fun x hx => ?_) fun x hx => h2 x (List.mem_cons_of_mem _ hx)
      rcases List.mem_cons.mp (h1 x hx) with e | e
      · rw [e]; exact m
      · exact e
    · rw [if_neg (by rw [List.any_eq_true]; rintro ⟨y, hy, e⟩; exact m (by simpa [← of_decide_eq_true e] using hy))]
      have hk : k ∈ L := h2 k List.mem_cons_self
      have e1 : (L.erase k).length + 1 = L.length := by
        rw [List.length_erase_of_mem hk]
        have := List.length_pos_of_mem hk
        omega
      rw [← e1, dnum_eq ks (L.erase k) (nd.erase k) (fun x hx => ?_) fun x hx => ?_]
      · have hx' := List.mem_of_mem_erase hx
        rcases List.mem_cons.mp (h1 x hx') with e | e
        · exfalso
          subst e
          exact (nd.mem_erase_iff.mp hx).1 rfl
        · exact e
      · refine nd.mem_erase_iff.mpr ⟨fun e => m (e ▸ hx), h2 x (List.mem_cons_of_mem _ hx)⟩
theorem tups_of {K : PySem.W.Frag} {O : Ow} {H : Hp} : ∀ {xs : List V} {ds : List D} {ks : List (List Int)}, Rps K O H xs ds → ds.mapM tupI = some ks → ∃ ps : List (Addr × List Int), xs = ps.map (fun p => V.ref p.1) ∧ ps.map (·.2) = ks ∧ ∀ p ∈ ps, SqT K H p.1 (p.2.map V.int)
  | _, _, ks, .nil, h => by simp at h; subst h; exact ⟨[], rfl, rfl, by simp⟩
  | _, _, ks, .cons (d := d) (ds := ds) r rs, h => by
    rw [List.mapM_cons] at h
    cases h1 : tupI d with
    | none => rw [h1] at h; cases h
    | some k1 =>
      rw [h1] at h
      cases h2 : ds.mapM tupI with
      | none => rw [h2] at h; cases h
      | some k2 =>
        rw [h2] at h
        cases h
        obtain ⟨ps, e1, e2, e3⟩ := tups_of rs h2
        cases d <;> try (cases h1; done)
        rename_i ys
        cases r with
        | tup q z rr =>
          have ei := intsD_some rr h1
          subst ei
          refine ⟨(_, k1) :: ps, by rw [e1]; rfl, by rw [List.map_cons, e2], fun p hp => ?_⟩
          rcases List.mem_cons.mp hp with rfl | hp
          · exact q
          · exact e3 p hp
theorem s_lset {a : Expr} {a' : E} {p p2 q pos : Pos} (g : Good c φ C k X) (hg : Gl X "len") (hm : X.mg "len" = none) (hg2 : Gl X "set") (hm2 : X.mg "set" = none) (ha : PE X a (tW X.K φ C W a')) (hl : lone a = true) :
    PE X (.Call (.Name "len" p) [.Call (.Name "set" p2) [a] [] q] [] pos) (tF X.K φ C W (.lset a')) := by
  have na : starEach [a] X.env = (false, eval a X.env) :: starEach [] X.env := starCons hl
  refine ⟨fun pins s σ H Q I ⟨O, ε, er, ot, q⟩ => ?_⟩
  simp only [ev] at q
  refine Call_ (ld_blt I hg hm PySem.boot_len ?_)
  refine PyProof.Rows.callWith_builtin1 (PyProof.Rows.args_cons ?_ rfl) rfl rfl
  refine Call_ (ld_blt I hg2 hm2 PyProof.Rows.boot_set ?_)
  refine PyProof.Rows.callWith_type1 (PyProof.Rows.args_cons (thn (ha.run pins s σ H (fun x H1 => ∃ (l : Addr) (ks : List (Addr × List Int)), x = V.ref l ∧ SqL X.K H1 l (ks.map fun p => V.ref p.1) ∧ (∀ p ∈ ks, SqT X.K H1 p.1 (p.2.map V.int)) ∧ ks.length < 64 ∧ Q (.int (dnum (ks.map (·.2)))) H1) I ?_) fun v s1 ⟨x, H1, I1, r1, q1⟩ => PyProof.Rows.args_nil ?_) na) na rfl
  · refine tW_in er ot q fun d v H1 s1 r1 q1 => ?_
    cases d <;> try exact (show False from q1).elim
    rename_i ds
    obtain ⟨b, xs, rfl, hb, z, r⟩ := listW r1
    have q1 : Res X.K C W O σ H (if ds.length < 64 then (Rs.of (ds.mapM tupI)).bnd fun ks => .ok (.int (dnum ks)) else .st) (kF X.K O H Q) := q1
    by_cases lt : ds.length < 64
    · rw [if_pos lt] at q1
      cases e : ds.mapM tupI with
      | none => rw [e] at q1; exact q1.elim
      | some ks =>
        rw [e] at q1
        obtain ⟨ps, e1, e2, e3⟩ := tups_of r e
        subst e1
        refine ⟨b, ps, rfl, hb, e3, ?_, ?_⟩
        · have := r.length
          rw [List.length_map] at this; omega
        · rw [e2]; exact q1 _ H1 s1 (Rp.int _)
    · rw [if_neg lt] at q1; exact q1.elim
  · obtain ⟨l, ks, rfl, hq, hk, h64, q1⟩ := q1
    cases r1
    obtain ⟨its, rv, pl, hz⟩ := I1.list hq
    have hu := g.hu
    refine call_set_tups (P := X.prog) (w := X.w) ks (I1.ok.hd g.calm) pl.isList (by simpa using refs_of_vals rv) (fun p hp => I1.isT (hk p hp)) h64 (by omega) fun h' tk L es ep t R gt kp => ?_
    refine PyProof.Rows.args_nil ?_
    obtain ⟨o, ho, hex, hd⟩ := R.ob
    have sz := SetTR.size (s := { s1 with heap := h', toks := tk }) R
    have ft := SetTR.fits (s := { s1 with heap := h', toks := tk }) R
    have hsz : es.size = dnum (ks.map (·.2)) := by
      rw [sz, ← List.length_map (f := (·.2))]
      refine dnum_eq _ _ R.nd (fun x hx => ?_) fun x hx => ?_
      · obtain ⟨p, hp, rfl⟩ := List.mem_map.mp hx
        exact List.mem_map.mpr ⟨p, List.mem_of_mem_take (gt.sub p hp), rfl⟩
      · obtain ⟨p, hp, rfl⟩ := List.mem_map.mp hx
        exact gt.all p (by rw [List.take_length]; exact hp)
    have I2 : Inv X pins σ H1 { s1 with heap := h', toks := tk } := I1.kept kp
    refine call_len_set ho hex hd ft (by rw [sz]; have := R.few; omega) ⟨.int (dnum (ks.map (·.2))), H1, I2.tok _, ⟨_, by rw [hsz]⟩, q1⟩

/-! ### {k: v, ..} -/
theorem pps_of {pos : Pos} : ∀ {keys : List (Option Expr)} {kk : List Key} {es : List Expr} {as : List E}, keys.mapM keyE = some kk → Paired (fun e a => PE X e (tD X.K φ C W a)) es as → keys.length = es.length →
    PPs X pos keys es ((kk.zip as).map fun p => (L2.tC (kV p.1), tD X.K φ C W p.2))
  | [], kk, es, as, h, pr, hl => by
    simp at h; subst h
    cases pr with
    | nil => exact pps_nil
    | cons _ _ => simp at hl
  | k :: ks, kk, es, as, h, pr, hl => by
    rw [List.mapM_cons] at h
    obtain ⟨k1, h1, h⟩ := bndO h
    obtain ⟨k2, h2, h⟩ := bndO h
    cases h
    cases pr with
    | nil => simp at hl
    | cons pe pr =>
      have ih := pps_of (pos := pos) h2 pr (by simpa using hl)
      cases k with
      | none => simp [keyE] at h1
      | some ke =>
        have hk : PE X ke (L2.tC (kV k1)) := by
          unfold keyE at h1
          split at h1
          · rename_i x j p e0
            cases e0; cases h1
            exact pe_str
          · rename_i i j p e0
            cases e0; cases h1
            exact pe_int
          · cases h1
        exact pps_cons hk pe ih
theorem tPairs_in {O : Ow} {ε : Env} {σ : L2.St} : ∀ {kk : List Key} {as : List E} {H : Hp} {Q : List (V × V) → Hp → Prop}, kk.length = as.length → ER X.K O H σ ε → OT O H →
    Res X.K C W O σ H (evs φ as ε) (fun ds => ∀ vs H', Same H H' → Rps X.K O H' vs ds → Q ((kk.zip vs).map fun p => (kV p.1, p.2)) H') → tPairs ((kk.zip as).map fun p => (L2.tC (kV p.1), tD X.K φ C W p.2)) σ H Q
  | [], [], H, Q, _, er, ot, q => by
    simp only [evs] at q
    exact q [] H (Same.refl H) .nil
  | k :: kk, a :: as, H, Q, hl, er, ot, q => by
    simp only [evs] at q
    show tD X.K φ C W a σ H fun y H2 => tPairs ((kk.zip as).map fun p => (L2.tC (kV p.1), tD X.K φ C W p.2)) σ H2 fun ps H3 => Q ((kV k, y) :: ps) H3
    refine tD_in er ot q fun d v H1 s1 r1 q1 => ?_
    refine tPairs_in (O := O) (ε := ε) (by simpa using hl) (er.same s1) (ot.same s1) ?_
    have q2 := q1.same s1 (k' := fun ds => ∀ vs H', Same H1 H' → Rps X.K O H' vs ds → Q (((k :: kk).zip vs).map fun p => (kV p.1, p.2)) H') fun ds kq vs H' s r => kq vs H' (s1.trans s) r
    exact q2.bind fun ds _ q3 vs H' s r => q3 (v :: vs) H' s (.cons (r1.same s) r)
  | [], _ :: _, _, _, hl, _, _, _ => by simp at hl
  | _ :: _, [], _, _, hl, _, _, _ => by simp at hl
theorem fzUpK {O : Ow} {H : Hp} {p : Addr} {kvs : List (Key × V)} {o : HO} (h : H p = some (.dK kvs)) : Fz (O1 O p) H (O1 O p) (upd H p o) := by
  refine ⟨fun a u e q => ?_, fun a xs e => ?_, fun a u xs e => ?_⟩
  · have ne : a ≠ p := fun z => by unfold O1 at q; rw [if_pos z] at q; cases q
    exact ⟨by rw [upd_ne ne]; exact e, q⟩
  · have ne : a ≠ p := fun z => by rw [z, h] at e; cases e
    rw [upd_ne ne]; exact e
  · have ne : a ≠ p := fun z => by rw [z, h] at e; cases e
    rw [upd_ne ne]; exact e
theorem fzOffK {O : Ow} {H : Hp} {p : Addr} {O' : Ow} (g : ∀ a, a ≠ p → O' a = O a) : Fz (O1 O p) H O' H := by
  refine ⟨fun a u e q => ⟨e, ?_⟩, fun a xs e => e, fun a u xs e => e⟩
  have ne : a ≠ p := fun z => by unfold O1 at q; rw [if_pos z] at q; cases q
  rw [g a ne]
  unfold O1 at q; rwa [if_neg ne] at q
theorem RpK.merge {K : PySem.W.Frag} {O : Ow} {H : Hp} : ∀ {kk : List Key} {vs : List V} {ds : List D} {kvs : List (Key × V)} {es : List (D × D)}, Rps K O H vs ds → RpK K O H kvs es → RpK K O H (mergeK kvs (kk.zip vs)) ((kk.zip ds).foldl (fun acc p => putD acc (keyD p.1) p.2) es)
  | [], _, _, _, _, _, r => by simpa [mergeK] using r
  | _ :: _, _, _, _, _, .nil, r => by simpa [mergeK] using r
  | k :: kk, _, _, _, _, .cons h t, r => RpK.merge (kk := kk) t (r.put h)
theorem s_dd {keys : List (Option Expr)} {kk : List Key} {es : List Expr} {as : List E} {pos : Pos} (hk : keys.mapM keyE = some kk) (pr : Paired (fun e a => PE X e (tD X.K φ C W a)) es as) (hl : keys.length = es.length) (h0 : keys ≠ []) (h15 : es.length ≤ 15) :
    PE X (.Dict keys es pos) (tF X.K φ C W (.dd kk as)) := by
  have hkl : ∀ {l : List (Option Expr)} {kk : List Key}, l.mapM keyE = some kk → kk.length = l.length ∧ l.all (·.isSome) = true := by
    intro l
    induction l with
    | nil => intro kk h; simp at h; subst h; exact ⟨rfl, rfl⟩
    | cons k l ih =>
      intro kk h
      rw [List.mapM_cons] at h
      obtain ⟨k1, h1, h⟩ := bndO h
      obtain ⟨k2, h2, h⟩ := bndO h
      cases h
      obtain ⟨i1, i2⟩ := ih h2
      refine ⟨by rw [List.length_cons, List.length_cons, i1], ?_⟩
      rw [List.all_cons, i2, Bool.and_true]
      cases k with
      | none => simp [keyE] at h1
      | some _ => rfl
  obtain ⟨e1, e2⟩ := hkl hk
  have hpl : es.length = as.length := by
    have : ∀ {es : List Expr} {as : List E}, Paired (fun e a => PE X e (tD X.K φ C W a)) es as → es.length = as.length := by
      intro es as h
      induction h with
      | nil => rfl
      | cons _ _ ih => rw [List.length_cons, List.length_cons, ih]
    exact this pr
  refine pem (pe_disp (pps_of hk pr hl) e2 hl h0 (by omega)) fun σ H Q ⟨O, ε, er, ot, q⟩ p hp => ?_
  simp only [ev] at q
  have s0 : Same H (upd H p (.dK [])) := same_new hp
  have f0 := fzO1 (O := O) hp s0
  refine tPairs_in (O := O1 O p) (ε := ε) (by omega) (er.mvS f0 s0) (otO1 ot s0 ⟨_, upd_same⟩) ?_
  have q1 : Res X.K C W O σ H (evs φ as ε) fun ds => kF X.K O H Q (.dict ((kk.zip ds).foldl (fun acc p => putD acc (keyD p.1) p.2) [])) := q.bind fun ds _ k => k
  cases hev : evs φ as ε with
  | st => rw [hev] at q1; exact q1.elim
  | ex d =>
    rw [hev] at q1
    exact fun dx v H' s a r => q1 dx v H' (s0.trans s) a (r.mv (fzOffK fun _ _ => rfl))
  | ok ds =>
    rw [hev] at q1
    refine fun vs H' s r => ?_
    have hH : H' p = some (.dK []) := s _ _ upd_same
    refine ⟨hH, kk.zip vs, rfl, ?_, q1 _ _ (sameUp hp (s0.trans s)) ?_⟩
    · rw [List.length_zip]; omega
    · have r2 := RpK.merge (kk := kk) r (RpK.nil (K := X.K) (O := O1 O p) (H := H'))
      exact ⟨p, _, rfl, hp, upd_same, fun O' g => (r2.mv (fzUpK hH)).mv (fzOffK g)⟩
end
end Ws

set_option Elab.async false
set_option linter.all false
set_option maxRecDepth 100000
set_option maxHeartbeats 4000000
/-! Sim15: the pure language says what the text does: expressions, all of them -/
namespace Ws
open PySem PySem.Spec PyProof.Rows L2

variable {c : Cfg} {φ : Nat → List D → Rs D} {C : Addr} {k : Nat}
theorem compI_fold {n : Nat} {sc : Scope} {w : Bool} {e : Expr} {a : It} (h : compI c n sc w e = some a) : ∀ (env : PySem.Env) (x : Value), foldedSetIterable e env x = pure x := by
  cases n with
  | zero => simp [compI] at h
  | succ n =>
    unfold compI at h
    split at h
    · cases h
    · exact fun _ _ => rfl
    · exact fun _ _ => rfl
    · exact fun _ _ => rfl
    · exact fun _ _ => rfl
    · split at h
      · rename_i hwk
        exact folded_of hwk
      · cases h
theorem tabE_of {c : Cfg} {sc : Scope} {e : Expr} {kvs : List (Str × D)} (h : tabE c sc e = some kvs) : ∃ T p, e = .Name T p ∧ glob sc T = true ∧ c.tabs.lookup T = some kvs := by
  unfold tabE at h
  split at h
  · rename_i x p
    split at h
    · rename_i hg
      exact ⟨x, p, rfl, hg, h⟩
    · cases h
  · cases h
theorem sn_e {n : Nat} (ih : SN c φ C k n) {X : Cx} {W : WX} {sc : Scope} {e : Expr} {a : E} (g : Good c φ C k X) (tk : Takes X W) (hs : X.env.scope = sc) (h : compE c (n + 1) sc e = some a) : SE X φ C W e a := by
  have blk : ∀ (s : Shared) (H : Hp) (scope : Scope) (Cc : Addr) (cl : List (Str × Addr)) (fp : List Addr), Good c φ C k (X.blk s H scope (compEnvC scope cl Cc X.env) fp) := fun s H scope Cc cl fp => g.blk s H scope _ fp
  have hsc : ∀ (s : Shared) (H : Hp) (scope : Scope) (Cc : Addr) (cl : List (Str × Addr)) (fp : List Addr), (X.blk s H scope (compEnvC scope cl Cc X.env) fp).env.scope = relS scope sc := fun s H scope Cc cl fp => by rw [← hs]; rfl
  unfold compE at h
  split at h
  · -- int
    cases h
    exact .ofD (s_lit pe_int fun _ _ => .int _) rfl rfl fun _ => rfl
  · cases h
    exact .ofD (s_lit pe_bl fun _ _ => .bl _) rfl rfl fun _ => rfl
  · cases h
    exact .ofD (s_lit pe_non fun _ _ => .non) rfl rfl fun _ => rfl
  · -- text
    split at h
    · rename_i cnd
      simp only [Bool.and_eq_true, decide_eq_true_eq] at cnd
      cases h
      exact .ofD (s_lit pe_str fun _ _ => .str _ cnd.1 (by rw [← lim_line]; exact cnd.2)) rfl rfl fun _ => rfl
    · cases h
  · -- a name
    rename_i x pos
    split at h
    · cases h
    · rename_i nd
      simp only [Bool.or_eq_true, decide_eq_true_eq, not_or] at nd
      have d1 : (x == ("__debug__" : Str)) = false := by simpa using nd.1
      have d2 : (x == ("__classdict__" : Str)) = false := by simpa using nd.2
      split at h
      · rename_i i hi
        cases h
        obtain ⟨h1, h2⟩ := slot_of g.hN hs hi
        obtain ⟨q1, q2⟩ := s_var (φ := φ) (C := C) (W := W) (pos := pos) h1 h2 d1 d2
        exact ⟨q1, q2, fun z => (by cases z), s_truth q2 fun _ => rfl⟩
      · split at h
        · rename_i hgl
          cases hl : c.cs.lookup x with
          | none => rw [hl] at h; cases h
          | some d =>
            rw [hl] at h
            cases h
            obtain ⟨u, v, h1, h2, h3⟩ := g.cs x d hl
            exact .ofD (s_gl (glob_of hs hgl).1 h1 h2 h3 d1) rfl rfl fun _ => rfl
        · cases h
  · -- a op b
    rename_i a1 o b1 pos
    obtain ⟨o', h1, h⟩ := bndO h
    obtain ⟨a', h2, h⟩ := bndO h
    obtain ⟨b', h3, h⟩ := bndO h
    cases h
    rw [op2Of_eq h1]
    exact .ofF (s_bin (ih.e g tk hs h2).w (ih.e g tk hs h3).w) rfl fun _ => rfl
  · obtain ⟨a', h2, h⟩ := bndO h
    cases h
    exact .ofF (s_neg (ih.e g tk hs h2).w) rfl fun _ => rfl
  · obtain ⟨a', h2, h⟩ := bndO h
    cases h
    have se := ih.e g tk hs h2
    exact ⟨pe_FD (s_notV se.w), pe_DW (pe_FD (s_notV se.w)), fun _ => s_notV se.w, s_notT se.t⟩
  · -- and, or
    rename_i o vs pos
    split at h
    · rename_i z
      obtain ⟨q1, q2, q3⟩ := ih.b g tk hs h pos
      have wa := (q3 z).1
      refine ⟨q1, by rw [wa]; exact pe_DW q1, fun f => ?_, q2.pt⟩
      rw [(q3 z).2] at f; cases f
    · cases h
  · -- a if c else b
    obtain ⟨t', h1, h⟩ := bndO h
    obtain ⟨a', h2, h⟩ := bndO h
    obtain ⟨b', h3, h⟩ := bndO h
    cases h
    have st := ih.e g tk hs h1
    have sa := ih.e g tk hs h2
    have sb := ih.e g tk hs h3
    exact ⟨s_ifV st.t sa.d sb.d, pe_DW (s_ifV st.t sa.d sb.d), fun z => (by cases z), s_ifT st.t (ptwk sa.t) (ptwk sb.t)⟩
  · -- a op b
    split at h
    · cases h
    · rename_i hm
      split at h
      · rename_i kvs htab
        obtain ⟨T, pT, rfl, hgT, hlT⟩ := tabE_of htab
        obtain ⟨gT, dT⟩ := glob_of hs hgT
        split at h
        · obtain ⟨a', h2, h⟩ := bndO h
          cases h
          have q := fun p pos => (s_inT (p := p) (pos := pos) g hlT gT dT (ih.e g tk hs h2).w).1
          exact ⟨pe_FD (q _ _), pe_DW (pe_FD (q _ _)), fun _ => q _ _, (s_inTT g hlT gT dT (ih.e g tk hs h2).w).1⟩
        · obtain ⟨a', h2, h⟩ := bndO h
          cases h
          have q := fun p pos => (s_inT (p := p) (pos := pos) g hlT gT dT (ih.e g tk hs h2).w).2
          exact ⟨pe_FD (q _ _), pe_DW (pe_FD (q _ _)), fun _ => q _ _, (s_inTT g hlT gT dT (ih.e g tk hs h2).w).2⟩
        · cases h
      obtain ⟨a', h2, h⟩ := bndO h
      obtain ⟨b', h3, h⟩ := bndO h
      cases h
      have sa := ih.e g tk hs h2
      have sb := ih.e g tk hs h3
      have hm := (Bool.not_eq_true _).mp hm
      have q := fun p => s_cmp (pos := p) g.hu sa.w sb.w hm
      exact ⟨pe_FD (q _), pe_DW (pe_FD (q _)), fun _ => q _, s_cmpT g.hu sa.w sb.w hm⟩
  · -- a op b op d
    split at h
    · cases h
    · rename_i hm
      obtain ⟨a', h2, h⟩ := bndO h
      obtain ⟨b', h3, h⟩ := bndO h
      obtain ⟨d', h4, h⟩ := bndO h
      cases h
      have sa := ih.e g tk hs h2
      have sb := ih.e g tk hs h3
      have sd := ih.e g tk hs h4
      have hm := (Bool.not_eq_true _).mp hm
      have q := fun p => s_chain (pos := p) g.hu sa.w sb.w sd.w hm
      exact ⟨pe_FD (q _), pe_DW (pe_FD (q _)), fun _ => q _, s_chainT g.hu sa.w sb.w sd.w hm⟩
  · -- a tuple
    split at h
    · rename_i z
      obtain ⟨as, h2, h⟩ := bndO h
      cases h
      obtain ⟨q1, q2, q3, _, _⟩ := ih.es g tk hs h2
      exact .ofF (s_tup (by rw [q3]; exact z) q1 fun ε ds e => evs_len e) rfl fun _ => rfl
    · cases h
  · -- a list
    split at h
    · rename_i z
      obtain ⟨as, h2, h⟩ := bndO h
      cases h
      obtain ⟨q1, q2, q3, _, _⟩ := ih.es g tk hs h2
      exact .ofF (s_lst (by rw [q3]; exact z) q1 fun ε ds e => evs_len e) rfl fun _ => rfl
    · cases h
  · cases h
    exact .ofF s_dnew rfl fun _ => rfl
  · -- {k: v, ..}
    split at h
    · rename_i cnd
      simp only [Bool.and_eq_true, decide_eq_true_eq] at cnd
      obtain ⟨kk, h1, h⟩ := bndO h
      obtain ⟨as, h2, h⟩ := bndO h
      cases h
      obtain ⟨_, _, _, _, q5⟩ := ih.es g tk hs h2
      exact .ofF (s_dd h1 q5 cnd.1 (by simp) cnd.2) rfl fun _ => rfl
    · cases h
  · obtain ⟨a', h2, h⟩ := bndO h
    cases h
    exact .ofF (s_rev (ih.e g tk hs h2).w) rfl fun _ => rfl
  · obtain ⟨a', h2, h⟩ := bndO h
    obtain ⟨l', h3, h⟩ := bndO h
    obtain ⟨u', h4, h⟩ := bndO h
    cases h
    exact .ofF (s_sli (ih.e g tk hs h2).w (ih.o g tk hs h3) (ih.o g tk hs h4)) rfl fun _ => rfl
  · split at h
    · rename_i hp
      split at h
      · rename_i kvs htab
        obtain ⟨T, pT, rfl, hgT, hlT⟩ := tabE_of htab
        obtain ⟨gT, dT⟩ := glob_of hs hgT
        obtain ⟨b', h3, h⟩ := bndO h
        cases h
        exact .ofD (s_atT g hlT gT dT (ih.e g tk hs h3).w (plain_of hp)) rfl rfl fun _ => rfl
      obtain ⟨a', h2, h⟩ := bndO h
      obtain ⟨b', h3, h⟩ := bndO h
      cases h
      exact .ofD (s_idx g.hu (ih.e g tk hs h2).w (ih.e g tk hs h3).w (plain_of hp)) rfl rfl fun _ => rfl
    · cases h
  · -- [.. for ..]
    rename_i elt tg iter ifs scope pos
    split at h
    · rename_i hb
      obtain ⟨it, h1, h⟩ := bndO h
      obtain ⟨t, h2, h⟩ := bndO h
      obtain ⟨x, h3, h⟩ := bndO h
      obtain ⟨cd, h4, h⟩ := bndO h
      split at h
      · rename_i hin
        cases h
        obtain ⟨i1, i2⟩ := ih.i g tk hs h1
        have ok : BlkOk X.N X.env.scope scope (ownOf c.N scope) := by rw [g.hN, hs]; exact blkOk_by hb
        refine .ofF (s_lc g ok (i1 _) (i2 _) (fun s H Cc cl fp => pg_sound (X := X.blk s H scope (compEnvC scope cl Cc X.env) fp) (c := c) g.hN g.nd g.calm (relS_tg s H Cc cl fp rfl) n _ t h2) (fun s H Cc cl fp => ih.cd (blk s H _ Cc cl fp) takes0 (hsc s H _ Cc cl fp) h4) (fun s H Cc cl fp => (ih.e (blk s H _ Cc cl fp) takes0 (hsc s H _ Cc cl fp) h3).d) hin) rfl fun _ => rfl
      · cases h
    · cases h
  · rename_i elt tg iter ifs tg1 iter1 ifs1 scope pos
    split at h
    · rename_i hb
      obtain ⟨it, h1, h⟩ := bndO h
      obtain ⟨t, h2, h⟩ := bndO h
      obtain ⟨cd, h4, h⟩ := bndO h
      obtain ⟨it1, h5, h⟩ := bndO h
      obtain ⟨t1, h6, h⟩ := bndO h
      obtain ⟨cd1, h7, h⟩ := bndO h
      obtain ⟨x, h3, h⟩ := bndO h
      split at h
      · rename_i hin
        simp only [Bool.and_eq_true] at hin
        cases h
        obtain ⟨i1, i2⟩ := ih.i g tk hs h1
        have ok : BlkOk X.N X.env.scope scope (ownOf c.N scope) := by rw [g.hN, hs]; exact blkOk_by hb
        have i5 := fun (s : Shared) (H : Hp) (Cc : Addr) (cl : List (Str × Addr)) (fp : List Addr) => ih.i (blk s H _ Cc cl fp) takes0 (hsc s H _ Cc cl fp) h5
        refine .ofF (s_lc2 g ok (i1 _) (i2 _) (compI_fold h5) (fun s H Cc cl fp => pg_sound (X := X.blk s H scope (compEnvC scope cl Cc X.env) fp) (c := c) g.hN g.nd g.calm (relS_tg s H Cc cl fp rfl) n _ t h2) (fun s H Cc cl fp => ih.cd (blk s H _ Cc cl fp) takes0 (hsc s H _ Cc cl fp) h4)
          (fun s H Cc cl fp => (i5 s H Cc cl fp).1 _) (fun s H Cc cl fp => pg_sound (X := X.blk s H scope (compEnvC scope cl Cc X.env) fp) (c := c) g.hN g.nd g.calm (relS_tg s H Cc cl fp rfl) n _ t1 h6) (fun s H Cc cl fp => ih.cd (blk s H _ Cc cl fp) takes0 (hsc s H _ Cc cl fp) h7)
          (fun s H Cc cl fp => (ih.e (blk s H _ Cc cl fp) takes0 (hsc s H _ Cc cl fp) h3).d) hin.1 hin.2) rfl fun _ => rfl
      · cases h
    · cases h
  · -- len(set(..))
    split at h
    · rename_i cnd
      simp only [Bool.and_eq_true, decide_eq_true_eq] at cnd
      obtain ⟨a', h2, h⟩ := bndO h
      cases h
      exact .ofF (s_lset g (glob_of hs cnd.1.1.1.1).1 (g.bl _ cnd.1.1.1.2) (glob_of hs cnd.1.1.2).1 (g.bl _ cnd.1.2) (ih.e g tk hs h2).w cnd.2) rfl fun _ => rfl
    · cases h
  · -- min(.., default=..)
    rename_i f p e1 x d1 kp pos
    split at h
    · rename_i cnd
      simp only [Bool.and_eq_true, decide_eq_true_eq] at cnd
      obtain ⟨gl, gd⟩ := glob_of hs cnd.1.1.1
      have hu : X.A.units + 64 < cLine := by have := g.hu; omega
      obtain rfl := cnd.1.2
      split at h
      · rename_i hf
        subst hf
        obtain ⟨a', h2, h⟩ := bndO h
        obtain ⟨b', h3, h⟩ := bndO h
        cases h
        exact .ofD (s_biD g (bi_mind g.calm hu) (by decide +kernel) (by decide +kernel) (by decide +kernel) gl (g.bl _ cnd.1.1.2) (ih.e g tk hs h2).w (ih.e g tk hs h3).d cnd.2) rfl rfl fun _ => rfl
      · split at h
        · rename_i hf
          subst hf
          obtain ⟨a', h2, h⟩ := bndO h
          obtain ⟨b', h3, h⟩ := bndO h
          cases h
          exact .ofD (s_biD g (bi_maxd g.calm hu) (by decide +kernel) (by decide +kernel) (by decide +kernel) gl (g.bl _ cnd.1.1.2) (ih.e g tk hs h2).w (ih.e g tk hs h3).d cnd.2) rfl rfl fun _ => rfl
        · cases h
    · cases h
  · -- a call
    rename_i f p es pos hneg
    split at h
    · rename_i hgl
      obtain ⟨gl, gd⟩ := glob_of hs hgl
      split at h
      · rename_i i hi
        obtain ⟨ds, h1, h⟩ := bndO h
        obtain ⟨q1, q2, q3, q4, _⟩ := ih.es g tk hs h1
        have q := s_call (pos := pos) (p := p) g tk (fix_of hi) gl gd q1 q2 q4
        injection h with h
        subst h
        split
        · exact .ofD (s_nomut q) rfl rfl fun _ => rfl
        · exact .ofD q rfl rfl fun _ => rfl
      · split at h
        · rename_i hb
          simp only [Bool.and_eq_true, decide_eq_true_eq] at hb
          split at h
          · rename_i hf
            subst hf
            obtain ⟨q1, q2⟩ := ih.is_ g tk hs h hgl hb.1
            exact .ofF (q1 p pos) q2 fun _ => rfl
          · obtain ⟨b, h1, h⟩ := bndO h
            obtain ⟨ds, h2, h⟩ := bndO h
            obtain ⟨q1, q2⟩ := ih.ws g tk hs h2
            cases h
            cases es with
            | nil => simp at hb
            | cons e es =>
              obtain ⟨r1, r2⟩ := s_bi (p := p) (pos := pos) g h1 gl (g.bl _ hb.1) q1 q2
              exact ⟨r1, pe_DW r1, fun z => r2 z, s_truth (pe_DW r1) fun _ => rfl⟩
        · split at h
          · rename_i hb
            simp only [Bool.and_eq_true, decide_eq_true_eq] at hb
            obtain ⟨ds, h2, h⟩ := bndO h
            obtain ⟨q1, q2⟩ := ih.ws g tk hs h2
            cases h
            cases es with
            | nil => simp at hb
            | cons e es =>
              obtain ⟨⟨hb1, hb2⟩, hb3⟩ := hb
              subst hb2
              obtain ⟨r1, r2⟩ := s_gcd (p := p) (pos := pos) g hb1 gl q1 q2
              exact ⟨r1, pe_DW r1, fun z => r2 z, s_truth (pe_DW r1) fun _ => rfl⟩
          · cases h
    · cases h
  · cases h
theorem sn : ∀ n, SN c φ C k n
  | 0 => ⟨fun _ _ _ h => by simp [compE] at h, fun _ _ _ h => by simp [compIs] at h, fun _ _ _ h => by simp [compB] at h, fun _ _ _ h => by simp [compEs] at h, fun _ _ _ h => by simp [compWs] at h, fun _ _ _ h => by simp [compO] at h, fun _ _ _ h => by simp [compC] at h, fun _ _ _ h => by simp [compI] at h⟩
  | n + 1 => ⟨sn_e (sn n), sn_is (sn n), sn_b (sn n), sn_es (sn n), sn_ws (sn n), sn_o (sn n), sn_cd (sn n), sn_i (sn n)⟩
end Ws

set_option Elab.async false
set_option linter.all false
set_option maxRecDepth 100000
set_option maxHeartbeats 4000000
/-! Sim16: states between statements -/
namespace Ws
open PySem PySem.Spec PyProof.Rows L2

/-- a list or dict that slot i alone knows -/
def OwnAt (K : PySem.W.Frag) (O : Ow) (H : Hp) (p : Addr) : D → Prop
  | .list ds => ∃ xs, H p = some (.lst xs) ∧ xs.length ≤ sizeLine ∧ Rps K O H xs ds
  | .dict ds => ∃ kvs, H p = some (.dK kvs) ∧ RpK K O H kvs ds
  | _ => False
theorem OwnAt.mv {K : PySem.W.Frag} {O O' : Ow} {H H' : Hp} {p : Addr} {d : D} (h : OwnAt K O H p d) (f : Fz O H O' H') (e : ∀ o, H p = some o → H' p = some o) : OwnAt K O' H' p d := by
  cases d with
  | list ds => obtain ⟨xs, q, z, r⟩ := h; exact ⟨xs, e _ q, z, r.mv f⟩
  | dict ds => obtain ⟨xs, q, r⟩ := h; exact ⟨xs, e _ q, r.mv f⟩
  | none => exact h
  | bool b => exact h
  | int i => exact h
  | str x => exact h
  | tuple ds => exact h
theorem OwnAt.rp {K : PySem.W.Frag} {O : Ow} {H : Hp} {p : Addr} {d : D} (h : OwnAt K O H p d) : RpW K O H (.ref p) d := by
  cases d with
  | list ds => obtain ⟨xs, q, z, r⟩ := h; exact ⟨p, xs, rfl, .inl (.inl q), z, r⟩
  | dict ds => obtain ⟨xs, q, r⟩ := h; exact ⟨p, xs, rfl, q, r⟩
  | none => exact h.elim
  | bool b => exact h.elim
  | int i => exact h.elim
  | str x => exact h.elim
  | tuple ds => exact h.elim
theorem OwnAt.at {K : PySem.W.Frag} {O : Ow} {H : Hp} {p : Addr} {d : D} (h : OwnAt K O H p d) : (∃ xs, H p = some (.lst xs)) ∨ ∃ kvs, H p = some (.dK kvs) := by
  cases d <;> first | exact (show False from h).elim | (obtain ⟨xs, q, _⟩ := h; first | exact .inl ⟨_, q⟩ | exact .inr ⟨_, q⟩)
structure SR (X : Cx) (O0 O : Ow) (H : Hp) (σ : L2.St) (ε : Env) : Prop where
  er : ER X.K O H σ ε
  ot : OT O H
  ow : ∀ (i : Nat) (d : D), ε[i]? = some (.o d) → ∃ p, σ[i]? = some (some (.ref p)) ∧ O p = some i ∧ X.H_0 p = none ∧ OwnAt X.K O H p d
  sm : Same X.H_0 H
  o0 : ∀ a o, X.H_0 a = some o → O a = O0 a
  ot0 : OT O0 X.H_0
section
variable {X : Cx} {O0 O : Ow} {H H' : Hp} {σ : L2.St} {ε : Env}
theorem OwnAt.same {K : PySem.W.Frag} {p : Addr} {d : D} (h : OwnAt K O H p d) (s : Same H H') : OwnAt K O H' p d := h.mv (.same s) fun o e => s _ _ e
theorem SR.same (h : SR X O0 O H σ ε) (s : Same H H') : SR X O0 O H' σ ε :=
  ⟨h.er.same s, h.ot.same s, fun i d e => let ⟨p, h1, h2, h3, h4⟩ := h.ow i d e; ⟨p, h1, h2, h3, h4.same s⟩, h.sm.trans s, h.o0, h.ot0⟩
theorem SR.fz0 (h : SR X O0 O H σ ε) : Fz O H O0 H := ⟨fun a o e q => ⟨e, by
  cases z : X.H_0 a with
  | none => exact h.ot0.none z
  | some u => rw [← h.o0 a u z]; exact q⟩, fun _ _ e => e, fun _ _ _ e => e⟩
/-- as it looks when all is known elsewhere -/
theorem SR.all (h : SR X O0 O H σ ε) : ER X.K O0 H σ (ε.map frzS) ∧ OT O0 H :=
  ⟨h.er.frzAll h.fz0 fun i p d e e2 => by
    obtain ⟨p', h1, h2, h3, _⟩ := h.ow i d e
    rw [e2] at h1; cases h1
    exact h.ot0.none h3, h.ot0.same h.sm⟩
theorem SR.put {i : Nat} {v : V} {d : D} (h : SR X O0 O H σ ε) (r : Rp X.K O H v d) : SR X O0 O H (σ.set i (some v)) (put ε i d) :=
  ⟨h.er.set r, h.ot, fun j d' e => by
    unfold Ws.put at e
    by_cases ij : i = j
    · subst ij
      by_cases lt : i < ε.length
      · rw [List.getElem?_set_self lt] at e; cases e
      · rw [List.getElem?_eq_none (by rw [List.length_set]; omega)] at e; cases e
    · rw [List.getElem?_set_ne ij] at e ⊢
      exact h.ow j d' e, h.sm, h.o0, h.ot0⟩
/-- a new list or dict in slot i -/
theorem SR.newo {i : Nat} {v : V} {d : D} {Hs : Hp} (h : SR X O0 O H σ ε) (s : Same H Hs) (hd : (∃ ds, d = .list ds) ∨ ∃ ds, d = .dict ds) (f : Fr X.K O H Hs v d) : ∃ O', SR X O0 O' Hs (σ.set i (some v)) (Ws.puto ε i d) ∧ Fz O H O' Hs := by
  have hs := h.same s
  obtain ⟨p, hv, hn, ho⟩ : ∃ p, v = .ref p ∧ H p = none ∧ ∀ O' : Ow, (∀ a, a ≠ p → O' a = O a) → OwnAt X.K O' Hs p d := by
    rcases hd with ⟨ds, rfl⟩ | ⟨ds, rfl⟩
    · obtain ⟨p, xs, e, n, q, z, r⟩ := f
      exact ⟨p, e, n, fun O' g => ⟨xs, q, z, r O' g⟩⟩
    · obtain ⟨p, kvs, e, n, q, r⟩ := f
      exact ⟨p, e, n, fun O' g => ⟨kvs, q, r O' g⟩⟩
  subst hv
  have g : ∀ a, a ≠ p → (fun a => if a = p then some i else O a) a = O a := fun a ne => by simp [ne]
  have f0 : Fz O H (fun a => if a = p then some i else O a) Hs := ⟨fun a o e q => ⟨s a o e, by
    have ne : a ≠ p := fun z => by rw [z, hn] at e; cases e
    exact (g a ne).trans q⟩, fun a xs e => s a _ e, fun a o xs e => s a _ e⟩
  refine ⟨fun a => if a = p then some i else O a, ⟨?_, ?_, fun j d' e => ?_, hs.sm, fun a o e => ?_, h.ot0⟩, f0⟩
  · have er := h.er.mvS f0 s
    refine ⟨by simp only [Ws.puto, List.length_set]; exact er.1, fun j sl e => ?_⟩
    unfold Ws.puto at e
    by_cases ij : i = j
    · subst ij
      have lt : i < ε.length := by
        have := (List.getElem?_eq_some_iff.mp e).1
        rwa [List.length_set] at this
      rw [List.getElem?_set_self lt] at e
      cases e
      exact ⟨_, by rw [List.getElem?_set_self (Nat.lt_of_lt_of_le lt er.1)], (ho _ g).rp⟩
    · rw [List.getElem?_set_ne ij] at e ⊢
      exact er.2 j sl e
  · intro a j e
    by_cases z : a = p
    · subst z
      rcases (ho _ g).at with ⟨u, e⟩ | ⟨u, e⟩ <;> exact ⟨_, e⟩
    · have e : (if a = p then some i else O a) = some j := e
      rw [if_neg z] at e
      exact hs.ot a j e
  · unfold Ws.puto at e
    by_cases ij : i = j
    · subst ij
      have lt : i < ε.length := by
        have := (List.getElem?_eq_some_iff.mp e).1
        rwa [List.length_set] at this
      rw [List.getElem?_set_self lt] at e
      cases e
      exact ⟨p, by rw [List.getElem?_set_self (Nat.lt_of_lt_of_le lt h.er.1)], by simp, h.sm.free hn, ho _ g⟩
    · rw [List.getElem?_set_ne ij] at e ⊢
      obtain ⟨p', h1, h2, h3, h4⟩ := h.ow j d' e
      refine ⟨p', h1, ?_, h3, h4.mv f0 fun o e => s _ _ e⟩
      have ne : p' ≠ p := fun z => by
        obtain ⟨o, q⟩ := h.ot p' j h2
        rw [z, hn] at q; cases q
      rw [← h2]; exact g p' ne
  · have ne : a ≠ p := fun z => by
      have := h.sm a o e
      rw [z, hn] at this; cases this
    rw [← h.o0 a o e]; exact g a ne
theorem fzOwn {p : Addr} {i : Nat} {o u : HO} (h : O p = some i) (e : H p = some u) (hu : (∃ xs, u = .lst xs) ∨ ∃ kvs, u = .dK kvs) : Fz O H O (upd H p o) := by
  refine ⟨fun a w q z => ?_, fun a xs q => ?_, fun a w xs q => ?_⟩
  · have ne : a ≠ p := fun y => by rw [y, h] at z; cases z
    exact ⟨by rw [upd_ne ne]; exact q, z⟩
  · have ne : a ≠ p := fun y => by
      rw [y, e] at q
      rcases hu with ⟨_, rfl⟩ | ⟨_, rfl⟩ <;> cases q
    rw [upd_ne ne]; exact q
  · have ne : a ≠ p := fun y => by
      rw [y, e] at q
      rcases hu with ⟨_, rfl⟩ | ⟨_, rfl⟩ <;> cases q
    rw [upd_ne ne]; exact q
/-- what slot i alone knows is changed -/
theorem SR.chg {i : Nat} {p : Addr} {d d' : D} {o : HO} (h : SR X O0 O H σ ε) (hi : ε[i]? = some (.o d)) (hp : σ[i]? = some (some (.ref p))) (ho : OwnAt X.K O (upd H p o) p d') : SR X O0 O (upd H p o) σ (Ws.puto ε i d') ∧ Fz O H O (upd H p o) := by
  obtain ⟨p', h1, h2, h3, h4⟩ := h.ow i d hi
  rw [hp] at h1; cases h1
  have f : Fz O H O (upd H p o) := by
    rcases h4.at with ⟨u, e⟩ | ⟨u, e⟩
    · exact fzOwn h2 e (.inl ⟨_, rfl⟩)
    · exact fzOwn h2 e (.inr ⟨_, rfl⟩)
  have lt := lt_of_some hi
  have hne : ∀ (j : Nat) (d2 : D) (p2 : Addr), j ≠ i → O p2 = some j → p2 ≠ p := fun j d2 p2 ji e z => by
    rw [z, h2] at e; cases e; exact ji rfl
  refine ⟨⟨⟨by simp only [Ws.puto, List.length_set]; exact h.er.1, fun j sl e => ?_⟩, ?_, fun j d2 e => ?_, ?_, h.o0, h.ot0⟩, f⟩
  · unfold Ws.puto at e
    by_cases ij : i = j
    · subst ij
      rw [List.getElem?_set_self lt] at e
      cases e
      exact ⟨_, hp, ho.rp⟩
    · rw [List.getElem?_set_ne ij] at e
      have q := h.er.2 j sl e
      cases sl with
      | u => trivial
      | f d => obtain ⟨v, q1, q2⟩ := q; exact ⟨v, q1, q2.mv f⟩
      | o d2 =>
        obtain ⟨v, q1, q2⟩ := q
        refine ⟨v, q1, ?_⟩
        obtain ⟨p2, k1, k2, k3, k4⟩ := h.ow j d2 e
        rw [k1] at q1; cases q1
        have ne := hne j d2 p2 (fun z => ij z.symm) k2
        exact (k4.mv f fun o e => by rw [upd_ne ne]; exact e).rp
  · intro a j e
    by_cases z : a = p
    · subst z; exact ⟨_, upd_same⟩
    · obtain ⟨u, q⟩ := h.ot a j e
      exact ⟨u, by rw [upd_ne z]; exact q⟩
  · unfold Ws.puto at e
    by_cases ij : i = j
    · subst ij
      rw [List.getElem?_set_self lt] at e
      cases e
      exact ⟨p, hp, h2, h3, ho⟩
    · rw [List.getElem?_set_ne ij] at e
      obtain ⟨p2, k1, k2, k3, k4⟩ := h.ow j d2 e
      have ne := hne j d2 p2 (fun z => ij z.symm) k2
      exact ⟨p2, k1, k2, k3, k4.mv f fun o e => by rw [upd_ne ne]; exact e⟩
  · exact sameUp h3 h.sm
/-- slot i is known elsewhere from now on -/
theorem SR.frz1 {i : Nat} {d : D} (h : SR X O0 O H σ ε) (hi : ε[i]? = some (.o d)) : ∃ O', SR X O0 O' H σ (ε.set i (.f d)) ∧ Fz O H O' H := by
  obtain ⟨p, h1, h2, h3, h4⟩ := h.ow i d hi
  have f : Fz O H (fun a => if a = p then none else O a) H := ⟨fun a o e q => ⟨e, by
    show (if a = p then none else O a) = none
    split
    · rfl
    · exact q⟩, fun _ _ e => e, fun _ _ _ e => e⟩
  have lt := lt_of_some hi
  refine ⟨fun a => if a = p then none else O a, ⟨⟨by rw [List.length_set]; exact h.er.1, fun j sl e => ?_⟩, fun a j e => ?_, fun j d2 e => ?_, h.sm, fun a o e => ?_, h.ot0⟩, f⟩
  · by_cases ij : i = j
    · subst ij
      rw [List.getElem?_set_self lt] at e
      cases e
      refine ⟨_, h1, ?_⟩
      cases d with
      | list ds => obtain ⟨xs, e2, z, r⟩ := h4; exact .lst (.inl ⟨.inl e2, by simp⟩) z (r.mv f)
      | dict ds => obtain ⟨xs, e2, r⟩ := h4; exact .dk e2 (by simp) (r.mv f)
      | none => exact h4.elim
      | bool b => exact h4.elim
      | int i => exact h4.elim
      | str x => exact h4.elim
      | tuple ds => exact h4.elim
    · rw [List.getElem?_set_ne ij] at e
      have er := h.er.mvS f (Same.refl H)
      exact er.2 j sl e
  · have e : (if a = p then none else O a) = some j := e
    split at e
    · cases e
    · exact h.ot a j e
  · by_cases ij : i = j
    · subst ij
      rw [List.getElem?_set_self lt] at e; cases e
    · rw [List.getElem?_set_ne ij] at e
      obtain ⟨p2, k1, k2, k3, k4⟩ := h.ow j d2 e
      refine ⟨p2, k1, ?_, k3, k4.mv f fun o e => e⟩
      have ne : p2 ≠ p := fun z => by rw [z, h2] at k2; cases k2; exact ij rfl
      show (if p2 = p then none else O p2) = _
      rw [if_neg ne]; exact k2
  · have ne : a ≠ p := fun z => by rw [z, h3] at e; cases e
    show (if a = p then none else O a) = _
    rw [if_neg ne]; exact h.o0 a o e
theorem SR.frz : ∀ (lk : List Nat) {O : Ow} {ε : Env}, SR X O0 O H σ ε → ∃ O', SR X O0 O' H σ (frzE ε lk) ∧ Fz O H O' H
  | [], O, ε, h => ⟨O, h, .refl _ _⟩
  | i :: is, O, ε, h => by
    unfold frzE
    split
    · rename_i d e
      obtain ⟨O1, h1, f1⟩ := h.frz1 e
      obtain ⟨O2, h2, f2⟩ := SR.frz is h1
      exact ⟨O2, h2, f1.trans f2⟩
    · exact SR.frz is h
end

/-! ### targets -/
theorem bnd_nm {j : Nat} (i : Nat) (d : D) (ε ε' : Env) (h : bnd (.nm i) d ε = .ok ε') : (j ∉ (Pt.nm i).sl → ε'[j]? = ε[j]?) ∧ (∀ x, j ∈ (Pt.nm i).sl → ε'[j]? ≠ some (.o x)) := by
    simp only [bnd] at h
    injection h with h
    subst h
    unfold put
    refine ⟨fun n => ?_, fun x m => ?_⟩
    · rw [List.getElem?_set_ne (fun z => n (by simp [Pt.sl, z]))]
    · have m1 : j = i := by simpa [Pt.sl] using m
      have e : i = j := m1.symm
      subst e
      by_cases lt : i < ε.length
      · rw [List.getElem?_set_self lt]; simp
      · rw [List.getElem?_eq_none (by rw [List.length_set]; omega)]; simp
theorem bnd_out {j : Nat} : (∀ (t : Pt) (d : D) (ε ε' : Env), bnd t d ε = .ok ε' → (j ∉ t.sl → ε'[j]? = ε[j]?) ∧ (∀ x, j ∈ t.sl → ε'[j]? ≠ some (.o x))) ∧
    ∀ (ts : List Pt) (ds : List D) (ε ε' : Env), bnds ts ds ε = .ok ε' → (j ∉ Pt.sls ts → ε'[j]? = ε[j]?) ∧ (∀ x, j ∈ Pt.sls ts → ε'[j]? ≠ some (.o x)) := by
  have nm := bnd_nm (j := j)
  have nil : ∀ (ds : List D) (ε ε' : Env), bnds [] ds ε = .ok ε' → (j ∉ Pt.sls [] → ε'[j]? = ε[j]?) ∧ (∀ x, j ∈ Pt.sls [] → ε'[j]? ≠ some (.o x)) := fun ds ε ε' h => by
    cases ds with
    | nil => simp only [bnds] at h; injection h with h; subst h; exact ⟨fun _ => rfl, fun x m => by simp [Pt.sls] at m⟩
    | cons d ds => simp [bnds] at h
  refine ⟨fun t => ?_, fun ts => ?_⟩
  · refine Pt.rec (motive_1 := fun t => ∀ (d : D) (ε ε' : Env), bnd t d ε = .ok ε' → (j ∉ t.sl → ε'[j]? = ε[j]?) ∧ (∀ x, j ∈ t.sl → ε'[j]? ≠ some (.o x)))
      (motive_2 := fun ts => ∀ (ds : List D) (ε ε' : Env), bnds ts ds ε = .ok ε' → (j ∉ Pt.sls ts → ε'[j]? = ε[j]?) ∧ (∀ x, j ∈ Pt.sls ts → ε'[j]? ≠ some (.o x))) nm ?_ nil ?_ t
    · intro ps ih d ε ε' h
      cases d <;> try (simp [bnd] at h; done)
      · exact ih _ ε ε' (by simpa only [bnd] using h)
      · exact ih _ ε ε' (by simpa only [bnd] using h)
    · intro p ps ih1 ih2 ds ε ε' h
      cases ds with
      | nil => simp [bnds] at h
      | cons d ds =>
        simp only [bnds] at h
        obtain ⟨ε1, h1, h2⟩ := Rs.bnd_of h
        obtain ⟨a1, b1⟩ := ih1 d ε ε1 h1
        obtain ⟨a2, b2⟩ := ih2 ds ε1 ε' h2
        refine ⟨fun n => ?_, fun x m => ?_⟩
        · simp only [Pt.sls, List.mem_append, not_or] at n
          rw [a2 n.2, a1 n.1]
        · by_cases z : j ∈ Pt.sls ps
          · exact b2 x z
          · rw [a2 z]
            simp only [Pt.sls, List.mem_append] at m
            exact b1 x (m.resolve_right z)
  · refine Pt.rec_1 (motive_1 := fun t => ∀ (d : D) (ε ε' : Env), bnd t d ε = .ok ε' → (j ∉ t.sl → ε'[j]? = ε[j]?) ∧ (∀ x, j ∈ t.sl → ε'[j]? ≠ some (.o x)))
      (motive_2 := fun ts => ∀ (ds : List D) (ε ε' : Env), bnds ts ds ε = .ok ε' → (j ∉ Pt.sls ts → ε'[j]? = ε[j]?) ∧ (∀ x, j ∈ Pt.sls ts → ε'[j]? ≠ some (.o x))) nm ?_ nil ?_ ts
    · intro ps ih d ε ε' h
      cases d <;> try (simp [bnd] at h; done)
      · exact ih _ ε ε' (by simpa only [bnd] using h)
      · exact ih _ ε ε' (by simpa only [bnd] using h)
    · intro p ps ih1 ih2 ds ε ε' h
      cases ds with
      | nil => simp [bnds] at h
      | cons d ds =>
        simp only [bnds] at h
        obtain ⟨ε1, h1, h2⟩ := Rs.bnd_of h
        obtain ⟨a1, b1⟩ := ih1 d ε ε1 h1
        obtain ⟨a2, b2⟩ := ih2 ds ε1 ε' h2
        refine ⟨fun n => ?_, fun x m => ?_⟩
        · simp only [Pt.sls, List.mem_append, not_or] at n
          rw [a2 n.2, a1 n.1]
        · by_cases z : j ∈ Pt.sls ps
          · exact b2 x z
          · rw [a2 z]
            simp only [Pt.sls, List.mem_append] at m
            exact b1 x (m.resolve_right z)
theorem SR.bnd {X : Cx} {O0 O : Ow} {H : Hp} {σ σ' : L2.St} {ε ε' : Env} {t : Pt} {d : D} (h : SR X O0 O H σ ε) (b : Ws.bnd t d ε = .ok ε') (er : ∀ O' H', Fz O H O' H' → ER X.K O' H' σ ε → ER X.K O' H' σ' ε') (w : ∀ vs, (∀ i ∈ t.sl, i ∈ vs) → L2.wipe σ' vs = L2.wipe σ vs) : SR X O0 O H σ' ε' :=
  ⟨er O H (.refl _ _) h.er, h.ot, fun j d' e => by
    obtain ⟨a1, b1⟩ := (bnd_out (j := j)).1 t d ε ε' b
    by_cases z : j ∈ t.sl
    · exact absurd e (b1 d' z)
    · rw [a1 z] at e
      have q := congrArg (fun l => l[j]?) (w t.sl fun i hi => hi)
      simp only [wipe_out z] at q
      rw [q]; exact h.ow j d' e, h.sm, h.o0, h.ot0⟩
end Ws

set_option Elab.async false
set_option linter.all false
set_option maxRecDepth 100000
set_option maxHeartbeats 4000000
/-! Sim17: statements -/
namespace Ws
open PySem PySem.Spec PyProof.Rows L2

theorem psm {X : Cx} {e : Stmt} {t t' : TS} (h : PS X e t) (f : ∀ D σ H, t' D σ H → t D σ H) : PS X e t' := ⟨fun p s σ H D I q => h.run p s σ H D I (f D σ H q)⟩
theorem pssm {X : Cx} {e : List Stmt} {t t' : TS} (h : PSs X e t) (f : ∀ D σ H, t' D σ H → t D σ H) : PSs X e t' := ⟨fun p s σ H D I q => h.run p s σ H D I (f D σ H q)⟩
/-- what is wanted behind a statement's answer -/
def sRes (X : Cx) (C : Addr) (O0 : Ow) (Ek : XK) (O : Ow) (H : Hp) (D : Ends) : Rs (Fl × Env) → Prop
  | .ok (.nx, ε') => ∀ O' σ' H', SR X O0 O' H' σ' ε' → Fz O H O' H' → D.nx σ' H'
  | .ok (.br, ε') => ∀ O' σ' H', SR X O0 O' H' σ' ε' → Fz O H O' H' → D.bk σ' H'
  | .ok (.ct, ε') => ∀ O' σ' H', SR X O0 O' H' σ' ε' → Fz O H O' H' → D.ct σ' H'
  | .ok (.rt d, _) => ∀ v H', Same X.H_0 H' → Rp X.K O0 H' v d → D.rt v H'
  | .ex d => ∀ dx v H', Same X.H_0 H' → H' dx = some (.xd [(atS, v)]) → Rp X.K O0 H' v d → Ek (.ref C) (some dx) H'
  | .st => False
def tSt (X : Cx) (C : Addr) (O0 : Ow) (Ek : XK) (f : Env → Rs (Fl × Env)) : TS := fun D σ H => ∃ O ε, SR X O0 O H σ ε ∧ sRes X C O0 Ek O H D (f ε)
abbrev WK (Ek : XK) : WX := fun cls d _ H => Ek cls d H
section
variable {X : Cx} {C : Addr} {O0 O O2 : Ow} {Ek : XK} {H H2 : Hp} {D : Ends} {σ : L2.St} {ε : Env}
theorem sRes.mono {r : Rs (Fl × Env)} (h : sRes X C O0 Ek O H D r) (f : Fz O H O2 H2) : sRes X C O0 Ek O2 H2 D r := by
  cases r with
  | ex d => exact h
  | st => exact h
  | ok p =>
    obtain ⟨fl, ε'⟩ := p
    cases fl with
    | nx => exact fun O' σ' H' s g => h O' σ' H' s (f.trans g)
    | br => exact fun O' σ' H' s g => h O' σ' H' s (f.trans g)
    | ct => exact fun O' σ' H' s g => h O' σ' H' s (f.trans g)
    | rt d => exact h
theorem SR.exW {d : Ws.D} (sr : SR X O0 O H σ ε) (h : ∀ dx v H', Same X.H_0 H' → H' dx = some (.xd [(atS, v)]) → Rp X.K O0 H' v d → Ek (.ref C) (some dx) H') : Ws.exW X.K C (WK Ek) O σ H d :=
  fun dx v H' s e r => h dx v H' (sr.sm.trans s) e (r.mv (sr.same s).fz0)
/-- through an expression -/
theorem sRes.rd {α : Type} {r : Rs α} {f : α → Rs (Fl × Env)} {k : α → Prop} (h : sRes X C O0 Ek O H D (r.bnd f)) (sr : SR X O0 O2 H2 σ ε) (g : ∀ a, r = .ok a → sRes X C O0 Ek O H D (f a) → k a) : Res X.K C (WK Ek) O2 σ H2 r k := by
  cases r with
  | ok a => exact g a rfl h
  | ex d => exact sr.exW h
  | st => exact h
/-- .. with all known elsewhere -/
theorem sRes.rdA {α : Type} {r : Rs α} {f : α → Rs (Fl × Env)} {k : α → Prop} (h : sRes X C O0 Ek O H D (r.bnd f)) (sr : SR X O0 O2 H2 σ ε) (g : ∀ a, r = .ok a → sRes X C O0 Ek O H D (f a) → k a) : Res X.K C (WK Ek) O0 σ H2 r k := by
  cases r with
  | ok a => exact g a rfl h
  | ex d => exact fun dx v H' s e r => h dx v H' (sr.sm.trans s) e r
  | st => exact h
end

/-- what a body's context gives -/
structure GS (c : Cfg) (φ : Nat → List D → Rs D) (C : Addr) (k : Nat) (X : Cx) (sc : Scope) (Ek : XK) : Prop where
  g : Good c φ C k X
  tk : Takes X (WK Ek)
  po : PassesOwn (model X.prog X.w) X.A X.env X.xe
  hs : X.env.scope = sc
  tg : TgOk X sc
  fn : X.env.scope.kind = .function

/-! ### places reused -/
theorem sw_no {e : Expr} {tg : Option Expr} {l : Nat} {env : PySem.Env} (h : noComp e = true) : swapsWith e tg l env = pure false := by
  cases e <;> first | (simp [noComp] at h; done) | rfl
theorem blockKind_fn {env : PySem.Env} (h : env.scope.kind = .function) : env.blockKind = .function := by unfold Env.blockKind; rw [h]; rfl
theorem sw_sub {e : Expr} {a i : Expr} {p : Pos} {l : Nat} {env : PySem.Env} : swapsWith e (some (.Subscript a i p)) l env = pure false := by cases e <;> rfl
theorem sw_tup {e : Expr} {ts : List Expr} {k : Nat} {p : Pos} {l : Nat} {env : PySem.Env} : swapsWith e (some (.Tuple ts k p)) l env = pure false := by cases e <;> rfl
theorem sw_name {e : Expr} {y : Str} {py : Pos} {l : Nat} {env : PySem.Env} {sc : Scope} (hs : env.scope = sc) (hk : env.scope.kind = .function) (h1 : ∀ a b c d f, e ≠ .DictComp a b c d f) (h2 : ∀ a b c d, e ≠ .SetComp a b c d) (h : inComp sc e y py = false) : swapsWith e (some (.Name y py)) l env = pure false := by
  cases e <;> first | rfl | exact absurd rfl (h1 _ _ _ _ _) | exact absurd rfl (h2 _ _ _ _) | skip
  rename_i elt gs s p
  unfold swapsWith
  have hb := blockKind_fn hk
  have ky : env.kindOf y = sc.names.lookup y := by rw [← hs]; rfl
  simp only [hb, ky, Expr.pos]
  have h : ((sc.names.lookup y == some .local) && (py.line == p.line) && !(s.names.any fun (n, k) => n == y && (k == .local || k == .cell))) = false := h
  simp only [beq_self_eq_true, Bool.true_and]
  rw [h]
theorem sw_key {ts vs : List Expr} {kk k2 : Nat} {tp p2 : Pos} {env : PySem.Env} : swappedStores [.Tuple ts kk tp] (.Tuple vs k2 p2) env =
    (if (!(ts.length == 2 || ts.length == 3) || vs.length != ts.length || env.blockKind != .function) = true then pure none else
     if (vs.any starV) = true then pure none else
     if ((ts.filterMap (nmS env.kindOf ((ts.head?.map (·.pos.line)).getD 0))).length != ts.length || (ts.filterMap (nmS env.kindOf ((ts.head?.map (·.pos.line)).getD 0))).eraseDups.length != (ts.filterMap (nmS env.kindOf ((ts.head?.map (·.pos.line)).getD 0))).length) = true then pure none else
     if (vs.all (foldedForSure 8)) = true then pure none else
     if (vs.all (constantsAlone 8)) = true then (do unsupported "assign.tuple-of-constant-expressions:order-of-the-stores"; pure (some (ts.filterMap (nmS env.kindOf ((ts.head?.map (·.pos.line)).getD 0))))) else pure (some (ts.filterMap (nmS env.kindOf ((ts.head?.map (·.pos.line)).getD 0))))) := rfl
theorem sw_st {ts : List Expr} {kk : Nat} {tp : Pos} {e : Expr} {env : PySem.Env} {sc : Scope} {r : Option (List Str)} (hs : env.scope = sc) (hk : env.scope.kind = .function) (h : swS sc ts e = some r) : swappedStores [.Tuple ts kk tp] e env = pure r := by
  have hb := blockKind_fn hk
  have ky : env.kindOf = fun y => sc.names.lookup y := by funext y; rw [← hs]; rfl
  cases e <;> first | (cases h; rfl) | skip
  rename_i vs k2 p2
  have h : swT (fun x => sc.names.lookup x) ts vs = some r := h
  rw [sw_key, hb, ky, bne_self_eq_false, Bool.or_false]
  unfold swT at h
  split at h
  · rename_i c1; cases h; rw [if_pos c1]
  rename_i c1
  rw [if_neg c1]
  split at h
  · rename_i c1; cases h; rw [if_pos c1]
  rename_i c1
  rw [if_neg c1]
  split at h
  · rename_i c1; cases h; rw [if_pos c1]
  rename_i c1
  rw [if_neg c1]
  split at h
  · rename_i c1; cases h; rw [if_pos c1]
  rename_i c1
  rw [if_neg c1]
  split at h
  · cases h
  rename_i c1
  cases h
  rw [if_neg c1]
end Ws

set_option Elab.async false
set_option linter.all false
set_option maxRecDepth 100000
set_option maxHeartbeats 4000000
/-! Sim18: each statement, from its parts -/
namespace Ws
open PySem PySem.Spec PyProof.Rows L2

theorem bnd_noex : (∀ (t : Pt) (d : D) (ε : Env), NoEx (bnd t d ε)) ∧ ∀ (ts : List Pt) (ds : List D) (ε : Env), NoEx (bnds ts ds ε) := by
  have nm : ∀ (i : Nat) (d : D) (ε : Env), NoEx (bnd (.nm i) d ε) := fun i d ε => by simp only [bnd]; exact NoEx.ok _
  have nil : ∀ (ds : List D) (ε : Env), NoEx (bnds [] ds ε) := fun ds ε => by cases ds <;> simp only [bnds] <;> first | exact NoEx.ok _ | exact NoEx.st
  have tp : ∀ (ps : List Pt), (∀ (ds : List D) (ε : Env), NoEx (bnds ps ds ε)) → ∀ (d : D) (ε : Env), NoEx (bnd (.tp ps) d ε) := fun ps ih d ε => by
    cases d <;> simp only [bnd] <;> first | exact NoEx.st | exact ih _ _
  have cons : ∀ (p : Pt) (ps : List Pt), (∀ (d : D) (ε : Env), NoEx (bnd p d ε)) → (∀ (ds : List D) (ε : Env), NoEx (bnds ps ds ε)) → ∀ (ds : List D) (ε : Env), NoEx (bnds (p :: ps) ds ε) := fun p ps ih1 ih2 ds ε => by
    cases ds with
    | nil => simp only [bnds]; exact NoEx.st
    | cons d ds => simp only [bnds]; exact (ih1 d ε).bnd fun _ => ih2 _ _
  exact ⟨fun t => Pt.rec (motive_1 := fun t => ∀ (d : D) (ε : Env), NoEx (bnd t d ε)) (motive_2 := fun ts => ∀ (ds : List D) (ε : Env), NoEx (bnds ts ds ε)) nm tp nil cons t,
    fun ts => Pt.rec_1 (motive_1 := fun t => ∀ (d : D) (ε : Env), NoEx (bnd t d ε)) (motive_2 := fun ts => ∀ (ds : List D) (ε : Env), NoEx (bnds ts ds ε)) nm tp nil cons ts⟩
section
variable {X : Cx} {φ : Nat → List D → Rs D} {C : Addr} {c : Cfg} {k : Nat} {sc : Scope} {O0 : Ow} {Ek : XK}
theorem sRes.ok_of {α : Type} {O : Ow} {H : Hp} {D : Ends} {r : Rs α} {f : α → Rs (Fl × Env)} (h : sRes X C O0 Ek O H D (r.bnd f)) (n : NoEx r) : ∃ a, r = .ok a ∧ sRes X C O0 Ek O H D (f a) := by
  cases r with
  | ok a => exact ⟨a, rfl, h⟩
  | ex d => exact absurd rfl (n d)
  | st => exact h.elim
theorem s_pass {pos : Pos} : PS X (.Pass pos) (tSt X C O0 Ek (exS φ .pass)) := psm ps_pass fun D σ H ⟨O, ε, sr, q⟩ => by
  simp only [exS] at q
  exact q O σ H sr (.refl _ _)
theorem s_doc {x : Str} {j : Nat} {p pos : Pos} : PS X (.Expr (.Constant (.str x) j p) pos) (tSt X C O0 Ek (exS φ .pass)) := psm ps_doc fun D σ H ⟨O, ε, sr, q⟩ => by
  simp only [exS] at q
  exact q O σ H sr (.refl _ _)
theorem s_brk {pos : Pos} : PS X (.Break pos) (tSt X C O0 Ek (exS φ .brk)) := psm ps_break fun D σ H ⟨O, ε, sr, q⟩ => by
  simp only [exS] at q
  exact q O σ H sr (.refl _ _)
theorem s_cont {pos : Pos} : PS X (.Continue pos) (tSt X C O0 Ek (exS φ .cont)) := psm ps_continue fun D σ H ⟨O, ε, sr, q⟩ => by
  simp only [exS] at q
  exact q O σ H sr (.refl _ _)
theorem s_stuck {st : Stmt} : PS X st (tSt X C O0 Ek (exS φ .stuck)) := ⟨fun _ _ _ _ _ _ ⟨O, ε, sr, q⟩ => by simp only [exS] at q; exact q.elim⟩
theorem s_retn {pos : Pos} : PS X (.Return none pos) (tSt X C O0 Ek (exS φ .retn)) := psm ps_retN fun D σ H ⟨O, ε, sr, q⟩ => by
  simp only [exS] at q
  exact q .non H sr.sm .non
theorem s_ret {e : Expr} {a : E} {pos : Pos} (he : PE X e ((tD X.K φ C (WK Ek)) a)) : PS X (.Return (some e) pos) (tSt X C O0 Ek (exS φ (.ret a))) := psm (ps_ret he) fun D σ H ⟨O, ε, sr, q⟩ => by
  simp only [exS] at q
  obtain ⟨er0, ot0⟩ := sr.all
  exact ⟨O0, ε.map frzS, er0, ot0, q.rdA sr fun d _ k v H' s r => k v H' (sr.sm.trans s) r⟩
theorem s_iff {e : Expr} {a : E} {p q : List Stmt} {p' q' : List S} {pos : Pos} (he : PT X e ((tT X.K φ C (WK Ek)) a)) (hp : PSs X p (tSt X C O0 Ek (exSs φ p'))) (hq : PSs X q (tSt X C O0 Ek (exSs φ q'))) : PS X (.If e p q pos) (tSt X C O0 Ek (exS φ (.iff a p' q'))) :=
  psm (ps_if he hp hq) fun D σ H ⟨O, ε, sr, q⟩ => by
    simp only [exS] at q
    obtain ⟨er0, ot0⟩ := sr.all
    refine ⟨O0, ε.map frzS, er0, ot0, q.rdA sr fun d _ k H' s => ?_⟩
    by_cases cc : truth d = true
    · rw [if_pos cc] at k ⊢
      exact ⟨O, ε, sr.same s, k.mono (.same s)⟩
    · rw [if_neg cc] at k ⊢
      exact ⟨O, ε, sr.same s, k.mono (.same s)⟩
/-- behind a value that goes into a target -/
theorem asg_end {O O1 : Ow} {H H1 : Hp} {D : Ends} {σ : L2.St} {ε : Env} {t : Pt} {d : Ws.D} {v : V} (sr : SR X O0 O1 H1 σ ε) (f : Fz O H O1 H1) (r : Rp X.K O1 H1 v d) (q : sRes X C O0 Ek O H D ((bnd t d ε).bnd fun ε' => .ok (.nx, ε'))) : gP X.K t v σ H1 D.nx := by
  obtain ⟨ε', h1, h2⟩ := q.ok_of (bnd_noex.1 t d ε)
  exact ⟨O1, d, ε, ε', r, h1, fun σ' er' w' => h2 O1 σ' H1 (sr.bnd h1 er' w') f⟩
theorem s_asg {tg e : Expr} {a : E} {t : Pt} {lk : List Nat} {pos : Pos} (he : PE X e ((tD X.K φ C (WK Ek)) a)) (hg : PG X tg (gP X.K t)) (hs : swapsWithSole [tg] e pos.line X.env = pure false) (hw : swappedStores [tg] e X.env = pure none) (h1 : (assignEach [tg] X.env).map (·.2) = [assign tg X.env]) :
    PS X (.Assign [tg] e pos) (tSt X C O0 Ek (exS φ (.asg t a false lk))) := psm (ps_asg he hg hs hw h1) fun D σ H ⟨O, ε, sr, q⟩ => by
  simp only [exS] at q
  obtain ⟨O1, sr1, f1⟩ := sr.frz lk
  refine ⟨O1, frzE ε lk, sr1.er, sr1.ot, q.rd sr1 fun d _ k v H1 s r => ?_⟩
  exact asg_end (sr1.same s) (f1.trans (.same s)) r k
/-- .. a new one goes into a name -/
theorem asgF_end {O O1 : Ow} {H H0 H1 : Hp} {D : Ends} {σ : L2.St} {ε : Env} {i : Nat} {d : Ws.D} {v : V} (sr : SR X O0 O1 H0 σ ε) (f : Fz O H O1 H0) (s : Same H0 H1) (r : Fr X.K O1 H0 H1 v d) (q : sRes X C O0 Ek O H D ((putF ε (.nm i) d true).bnd fun ε' => .ok (.nx, ε'))) : D.nx (σ.set i (some v)) H1 := by
  have plain : Rp X.K O1 H1 v d → (putF ε (.nm i) d true = .ok (put ε i d)) → D.nx (σ.set i (some v)) H1 := fun r e => by
    rw [e] at q
    exact q O1 _ H1 ((sr.same s).put r) (f.trans (.same s))
  have new : ((∃ ds, d = .list ds) ∨ ∃ ds, d = .dict ds) → (putF ε (.nm i) d true = .ok (puto ε i d)) → D.nx (σ.set i (some v)) H1 := fun hd e => by
    rw [e] at q
    obtain ⟨O', sr', f'⟩ := sr.newo s hd r
    exact q O' _ H1 sr' (f.trans f')
  cases d with
  | list ds => exact new (.inl ⟨_, rfl⟩) (by simp [putF])
  | dict ds => exact new (.inr ⟨_, rfl⟩) (by simp [putF])
  | none => exact plain r (by simp [putF, bnd])
  | bool b => exact plain r (by simp [putF, bnd])
  | int i => exact plain r (by simp [putF, bnd])
  | str x => exact plain r (by simp [putF, bnd])
  | tuple ds => exact plain r (by simp [putF, bnd])
theorem s_asgF {x : Str} {e : Expr} {a : E} {i : Nat} {lk : List Nat} {px pos : Pos} (hN : X.N.Nodup) (hi : X.N[i]? = some x) (hx : Loc X.env.scope x) (hf : X.fn x = true ∨ X.env.scope.names.lookup x = some .local) (he : PE X e ((tF X.K φ C (WK Ek)) a)) (hs : swapsWith e (some (.Name x px)) pos.line X.env = pure false) :
    PS X (.Assign [.Name x px] e pos) (tSt X C O0 Ek (exS φ (.asg (.nm i) a true lk))) := psm (ps_set hN hi hx he hs hf) fun D σ H ⟨O, ε, sr, q⟩ => by
  simp only [exS] at q
  obtain ⟨O1, sr1, f1⟩ := sr.frz lk
  refine ⟨O1, frzE ε lk, sr1.er, sr1.ot, q.rd sr1 fun d _ k v H1 s r => ?_⟩
  exact asgF_end sr1 f1 s r k
theorem s_drop {e : Expr} {a : E} {lk : List Nat} {pos : Pos} (he : PE X e ((tD X.K φ C (WK Ek)) a)) (hs : swapsWith e none pos.line X.env = pure false) : PS X (.Expr e pos) (tSt X C O0 Ek (exS φ (.drop a lk))) := psm (ps_expr he hs) fun D σ H ⟨O, ε, sr, q⟩ => by
  simp only [exS] at q
  obtain ⟨O1, sr1, f1⟩ := sr.frz lk
  refine ⟨O1, frzE ε lk, sr1.er, sr1.ot, q.rd sr1 fun d _ k v H1 s r => ?_⟩
  exact k O1 σ H1 (sr1.same s) (f1.trans (.same s))
theorem s_par {x y : Str} {a b : Expr} {a' b' : E} {i j : Nat} {lk : List Nat} {px py pt pos pt2 : Pos} {kt k2 : Nat} (hc : X.calm = true) (hN : X.N.Nodup) (hi : X.N[i]? = some x) (hj : X.N[j]? = some y) (hij : i ≠ j) (hx : X.env.scope.names.lookup x = some .local) (hy : X.env.scope.names.lookup y = some .local)
    (ha : PA X [a, b] ((tA X.K φ C (WK Ek)) [a', b'])) (hw : swappedStores [.Tuple [.Name x px, .Name y py] kt pt] (.Tuple [a, b] k2 pt2) X.env = pure (some [x, y])) :
    PS X (.Assign [.Tuple [.Name x px, .Name y py] kt pt] (.Tuple [a, b] k2 pt2) pos) (tSt X C O0 Ek (exS φ (.par i j a' b' lk))) := psm (ps_par hc hN hi hj hij hx hy ha hw (by rfl)) fun D σ H ⟨O, ε, sr, q⟩ => by
  simp only [exS] at q
  obtain ⟨O1, sr1, f1⟩ := sr.frz lk
  refine ⟨O1, frzE ε lk, sr1.er, sr1.ot, ?_⟩
  have q' : sRes X C O0 Ek O H D ((evs φ [a', b'] (frzE ε lk)).bnd fun ds => match ds with | [x, y] => .ok (.nx, put (put (frzE ε lk) i x) j y) | _ => .st) := by
    simp only [evs]
    cases e1 : ev φ a' (frzE ε lk) with
    | ok d1 =>
      rw [e1] at q
      simp only [Rs.bnd_ok] at q ⊢
      cases e2 : ev φ b' (frzE ε lk) with
      | ok d2 => rw [e2] at q; exact q
      | ex d2 => rw [e2] at q; exact q
      | st => rw [e2] at q; exact q
    | ex d1 => rw [e1] at q; exact q
    | st => rw [e1] at q; exact q
  refine q'.rd sr1 fun ds _ k vs H1 s r => ?_
  match ds, r, k with
  | [d1, d2], .cons r1 (.cons r2 .nil), k =>
    exact ⟨_, _, rfl, k O1 _ H1 (((sr1.same s).put r1).put r2) (f1.trans (.same s))⟩
  | [], .nil, k => exact k.elim
  | [_], .cons _ .nil, k => exact k.elim
  | _ :: _ :: _ :: _, .cons _ (.cons _ (.cons _ _)), k => exact k.elim
theorem s_aug {x : Str} {e : Expr} {a : E} {i : Nat} {o : Op2} {op : Operator} {f : Int → Int → Int} {px pos : Pos} (hN : X.N.Nodup) (hi : X.N[i]? = some x) (hx : Loc X.env.scope x) (hf : X.fn x = true ∨ X.env.scope.names.lookup x = some .local) (he : PE X e ((tW X.K φ C (WK Ek)) a)) (ho : PIp X op (ipI f))
    (hb : ∀ d1 d2 n, binD o d1 d2 = .ok (.int n) → ∃ i1 i2, d1 = .int i1 ∧ d2 = .int i2 ∧ n = f i1 i2) :
    PS X (.AugAssign (.Name x px) op e pos) (tSt X C O0 Ek (exS φ (.aug i o a []))) := psm (ps_aug hN hi hx he ho hf) fun D σ H ⟨O, ε, sr, q⟩ => by
  simp only [exS, frzE] at q
  have h0 : ∃ d, ev φ (.var i) ε = .ok d := by
    cases e1 : ev φ (.var i) ε with
    | ok d => exact ⟨d, rfl⟩
    | ex d => simp only [ev] at e1; split at e1 <;> cases e1
    | st => rw [e1] at q; exact q.elim
  obtain ⟨d1, e1⟩ := h0
  rw [e1] at q
  simp only [Rs.bnd_ok] at q
  have e1' := e1
  simp only [ev] at e1
  cases e0 : ε[i]? with
  | none => rw [e0] at e1; cases e1
  | some sl =>
    rw [e0] at e1
    cases sl <;> try (cases e1; done)
    rename_i dd
    injection e1 with e1
    subst e1
    obtain ⟨v, hv, rv⟩ := sr.er.2 i _ e0
    refine ⟨v, hv, O, ε, sr.er, sr.ot, q.rd sr fun d2 _ k w H1 s r => ?_⟩
    obtain ⟨z, hz, k⟩ := k.ok_of (binD_noex _ _ _)
    cases z <;> try exact k.elim
    rename_i n
    obtain ⟨i1, i2, rfl, rfl, rfl⟩ := hb _ _ _ hz
    cases rv
    cases intW r
    refine ⟨i1, i2, rfl, rfl, ?_⟩
    exact k O _ H1 ((sr.same s).put (.int _)) (.same s)
theorem own_of {O : Ow} {H : Hp} {D : Ends} {ε : Env} {i : Nat} {f : Ws.D → Rs (Fl × Env)} (q : sRes X C O0 Ek O H D ((own ε i).bnd f)) : ∃ d, ε[i]? = some (.o d) ∧ sRes X C O0 Ek O H D (f d) := by
  unfold own at q
  cases e : ε[i]? with
  | none => rw [e] at q; exact q.elim
  | some sl =>
    rw [e] at q
    cases sl with
    | u => exact q.elim
    | f d => exact q.elim
    | o d => exact ⟨d, rfl, q⟩
theorem ownRp {O : Ow} {H : Hp} {σ : L2.St} {ε : Env} {i : Nat} {d : Ws.D} (sr : SR X O0 O H σ ε) (e : ε[i]? = some (.o d)) : ∃ p, σ[i]? = some (some (.ref p)) ∧ O p = some i ∧ OwnAt X.K O H p d := by
  obtain ⟨p, h1, h2, h3, h4⟩ := sr.ow i d e
  exact ⟨p, h1, h2, h4⟩
theorem s_app {x : Str} {e : Expr} {a : E} {i : Nat} {lk : List Nat} {px ap cp pos : Pos} (hi : X.N[i]? = some x) (hv : Vis X.env.scope x) (hd : (x == ("__debug__" : Str)) = false) (hcd : (x == ("__classdict__" : Str)) = false) (he : PE X e ((tD X.K φ C (WK Ek)) a)) (hl : lone e = true) (hline : (ap.endLine == cp.line) = true) :
    PS X (.Expr (.Call (.Attribute (.Name x px) "append" ap) [e] [] cp) pos) (tSt X C O0 Ek (exS φ (.app i a lk))) := by
  have hs1 : starEach [e] X.env = (false, eval e X.env) :: starEach [] X.env := starCons hl
  have hfew : ((backTo cp (starEach [e] X.env)).all (fun x => !x.1) && (backToKw cp (keywordEach [] X.env)).all (fun x => x.1.isSome)
      && decide ([e].length + ([] : List Keyword).length + (if ([] : List Keyword).isEmpty then 0 else 1) < 30)) = true := by
    rw [hs1]; rfl
  refine psm (ps_expr (pe_bm (cpos := cp) PySem.F.plainAttrs_list PySem.F.slot_list_append PySem.F.type_list_append mt_append (pe_var hi hv hd hcd) (pa_cons he pa_nil hs1) (by rfl) hfew hline hs1 (by rfl)) (by rfl)) fun D σ H ⟨O, ε, sr, q⟩ => ?_
  simp only [exS] at q
  obtain ⟨O1, sr1, f1⟩ := sr.frz lk
  obtain ⟨d, hd, q⟩ := own_of q
  obtain ⟨p, hp, hO, how⟩ := ownRp sr1 hd
  obtain ⟨ds, hx, q2⟩ := q.ok_of (r := lstD d) (by cases d <;> first | exact NoEx.ok _ | exact NoEx.st)
  clear q
  have hx : d = .list ds := by cases d <;> first | (cases hx; done) | (cases hx; rfl)
  subst hx
  obtain ⟨ys, hH, z, rs⟩ := how
  refine ⟨_, hp, .inl ⟨rfl, ys, .inl (.inl hH)⟩, ?_⟩
  refine ⟨O1, frzE ε lk, sr1.er, sr1.ot, q2.rd sr1 fun v _ k w H1 s r => ?_⟩
  by_cases lt : ds.length < LIM
  · rw [if_pos lt] at k
    rw [← rs.length, lim_line] at lt
    refine ⟨_, ys, w, rfl, rfl, s _ _ hH, lt, ?_⟩
    have sr2 := sr1.same s
    have f2 : Fz O1 H1 O1 (upd H1 p (.lst (ys ++ [w]))) := fzOwn hO (s _ _ hH) (.inl ⟨_, rfl⟩)
    obtain ⟨sr3, f3⟩ := sr2.chg (d' := .list (ds ++ [v])) (o := .lst (ys ++ [w])) hd hp ⟨_, upd_same, by rw [List.length_append]; simp; omega, (((rs.same s).app (.cons r .nil)).mv f2)⟩
    exact k O1 σ _ sr3 ((f1.trans (.same s)).trans f3)
  · rw [if_neg lt] at k; exact k.elim
def sPut (td ty tv : TE) : TS := fun D σ H => tv σ H fun v H1 => td σ H1 fun x H2 => ty σ H2 fun y H3 => ∃ a, x = .ref a ∧ ((∃ H4, DPut H3 a y v H4 ∧ D.nx σ H4) ∨ rSetL (.ref a) y v H3 fun H4 => D.nx σ H4)
theorem ps_put {o i value : Expr} {pos pos' : Pos} {td ty tv : TE} (hu : X.A.units + 1 < cLine) (ho : PE X o td) (hi : PE X i ty) (hv : PE X value tv) (hs : swapsWith value (some (.Subscript o i pos')) pos.line X.env = pure false) :
    PS X (.Assign [.Subscript o i pos'] value pos) (sPut td ty tv) := by
  refine ⟨fun pins s σ H D I h => ?_⟩
  refine wpAny_Assign_Subscript (thn (hv.run pins s σ H _ I h) fun r s1 ⟨v, H1, I1, rv, q1⟩ => thn (ho.run pins s1 σ H1 _ I1 q1) fun u s2 ⟨x, H2, I2, rx, q2⟩ => thn (hi.run pins s2 σ H2 _ I2 q2) fun iv s3 ⟨y, H3, I3, ry, a, ex, g⟩ => ?_) hs
  subst ex
  obtain rfl : u = Value.ref a := rx
  rcases g with ⟨H4, g, q3⟩ | g
  · exact d_setItem hu I3 g ry rv fun s4 I4 => ⟨σ, H4, I4, q3⟩
  · exact thn (set_list pins s3 σ H3 (V.ref a) y v (Value.ref a) iv r _ I3 (show RelV (V.ref a) (Value.ref a) from rfl) ry rv g) fun _ s4 ⟨H4, I4, q4⟩ => ⟨σ, H4, I4, q4⟩
theorem setD_noex (d k v : Ws.D) : NoEx (setD d k v) := by
  unfold setD
  split
  · exact (NoEx.of _).bnd fun _ => (NoEx.of _).bnd fun _ => NoEx.ok _
  · split
    · exact NoEx.ite (NoEx.ok _) NoEx.st
    · exact NoEx.st
  · exact NoEx.st
theorem keyRp {K : PySem.W.Frag} {O : Ow} {H : Hp} {y : V} {kk : Key} (h : RpW K O H y (keyD kk)) : y = kV kk := by
  cases kk with
  | inl i => exact intW h
  | inr x => exact (strW h).1
theorem s_seti {x : Str} {ix e : Expr} {a b : E} {i : Nat} {lk : List Nat} {px pp pos : Pos} (hu : X.A.units + 65 < cLine) (hi : X.N[i]? = some x) (hv : Vis X.env.scope x) (hd : (x == ("__debug__" : Str)) = false) (hcd : (x == ("__classdict__" : Str)) = false) (hk : PE X ix ((tW X.K φ C (WK Ek)) a)) (he : PE X e ((tD X.K φ C (WK Ek)) b))
    (hs : swapsWith e (some (.Subscript (.Name x px) ix pp)) pos.line X.env = pure false) : PS X (.Assign [.Subscript (.Name x px) ix pp] e pos) (tSt X C O0 Ek (exS φ (.seti i a b lk))) := by
  refine psm (ps_put (by omega) (pe_var hi hv hd hcd) hk he hs) fun D σ H ⟨O, ε, sr, q⟩ => ?_
  simp only [exS] at q
  obtain ⟨O1, sr1, f1⟩ := sr.frz lk
  refine ⟨O1, frzE ε lk, sr1.er, sr1.ot, q.rd sr1 fun v _ q w H1 s r => ?_⟩
  have sr2 := sr1.same s
  obtain ⟨d, hd, q⟩ := own_of q
  obtain ⟨p, hp, hO, how⟩ := ownRp sr2 hd
  refine ⟨_, hp, O1, frzE ε lk, sr2.er, sr2.ot, q.rd sr2 fun kd _ q y H2 s2 ry => ?_⟩
  have sr3 := sr2.same s2
  obtain ⟨d', hset, q⟩ := q.ok_of (setD_noex _ _ _)
  have how := how.same s2
  refine ⟨p, rfl, ?_⟩
  rcases (show (∃ ds, d = .list ds) ∨ ∃ ds, d = .dict ds from by cases d <;> first | exact .inl ⟨_, rfl⟩ | exact .inr ⟨_, rfl⟩ | exact how.elim) with ⟨ds, rfl⟩ | ⟨ds, rfl⟩
  · -- a list
    obtain ⟨ys, hH, z, rs⟩ := how
    simp only [setD] at hset
    obtain ⟨i0, rfl⟩ : ∃ i0, kd = .int i0 := by cases kd <;> first | (cases hset; done) | exact ⟨_, rfl⟩
    obtain ⟨m, hm, hset2⟩ := Rs.bnd_of (show (Rs.of (ixN ds.length i0)).bnd _ = _ from hset)
    cases intW ry
    have hset2 : Rs.ok (PyData.list (ds.set m v)) = Rs.ok d' := hset2
    injection hset2 with hset2
    subst hset2
    have hm' : ixN ys.length i0 = some m := by
      rw [rs.length]
      cases e : ixN ds.length i0 with
      | none => rw [e] at hm; cases hm
      | some m' => rw [e] at hm; cases hm; rfl
    refine .inr ⟨p, ys, i0, m, rfl, rfl, hH, hm', ?_⟩
    have f2 : Fz O1 H2 O1 (upd H2 p (.lst (ys.set m w))) := fzOwn hO hH (.inl ⟨_, rfl⟩)
    obtain ⟨sr4, f3⟩ := sr3.chg (d' := .list (ds.set m v)) (o := .lst (ys.set m w)) hd hp ⟨_, upd_same, by rw [List.length_set]; exact z, (rs.set (r.same s2) m).mv f2⟩
    exact q O1 σ _ sr4 (((f1.trans (.same s)).trans (.same s2)).trans f3)
  · -- a dict
    obtain ⟨vs, hH, rs⟩ := how
    simp only [setD] at hset
    cases hk : keyOf kd with
    | none => rw [hk] at hset; cases hset
    | some kk =>
      rw [hk] at hset
      have ek := keyOf_inv hk
      subst ek
      simp only at hset
      by_cases lt : ds.length < LIM
      · rw [if_pos lt] at hset
        injection hset with hset
        subst hset
        rw [← rs.length, lim_line] at lt
        have ey := keyRp ry
        subst ey
        refine .inl ⟨_, DPut.k hH lt, ?_⟩
        have f2 : Fz O1 H2 O1 (upd H2 p (.dK (putK vs kk w))) := fzOwn hO hH (.inr ⟨_, rfl⟩)
        obtain ⟨sr4, f3⟩ := sr3.chg (d' := .dict (putD ds (keyD kk) v)) (o := .dK (putK vs kk w)) hd hp ⟨_, upd_same, (rs.put (r.same s2)).mv f2⟩
        exact q O1 σ _ sr4 (((f1.trans (.same s)).trans (.same s2)).trans f3)
      · rw [if_neg lt] at hset; cases hset
end
end Ws

set_option Elab.async false
set_option linter.all false
set_option maxRecDepth 100000
set_option maxHeartbeats 4000000
/-! Sim19: loops; the pure language says what the text does: statements -/
namespace Ws
open PySem PySem.Spec PyProof.Rows L2

theorem Rs.bnd_assoc {α β γ : Type} (r : Rs α) (f : α → Rs β) (g : β → Rs γ) : (r.bnd f).bnd g = r.bnd fun x => (f x).bnd g := by cases r <;> rfl
section
variable {X : Cx} {φ : Nat → List D → Rs D} {C : Addr} {c : Cfg} {k : Nat} {sc : Scope} {O0 : Ow} {Ek : XK}
theorem s_for (po : PassesOwn (model X.prog X.w) X.A X.env X.xe) (hc : X.calm = true) {tg it : Expr} {body : List Stmt} {t : Pt} {it' : It} {body' : List S} {lk : List Nat} {pos : Pos} (hi : PI X tg it (tI true X.K φ C (WK Ek) it')) (hg : PG X tg (gP X.K t)) (hb : PSs X body (tSt X C O0 Ek (exSs φ body')))
    (hs : ∀ x, foldedSetIterable it X.env x = pure x) : PS X (.For tg it body [] pos) (tSt X C O0 Ek (exS φ (.for_ t it' body' lk))) := psm (ps_for po hc hi hg hb hs) fun D σ H ⟨O, ε, sr, q⟩ => by
  simp only [exS] at q
  obtain ⟨O1, sr1, f1⟩ := sr.frz lk
  refine ⟨O1, frzE ε lk, sr1.er, sr1.ot, q.rd sr1 fun ds _ q J H1 s1 hz wk => ?_⟩
  revert q
  generalize hst : (fun x ε' => (bnd t x ε').bnd fun ε'' => exSs φ body' ε'') = step
  intro q
  have sr2 := sr1.same s1
  have q := q.mono (f1.trans (.same s1))
  refine ⟨fun i m σ' H' => m = ds.length - i ∧ i ≤ ds.length ∧ ∃ O' ε', SR X O0 O' H' σ' ε' ∧ Fz O1 H1 O' H' ∧ sRes X C O0 Ek O' H' D (exFor step (ds.drop i) ε'),
    ⟨ds.length, by simp, Nat.zero_le _, O1, frzE ε lk, sr2, .refl _ _, by simpa using q⟩, ?_⟩
  rintro i m σ' H' ⟨rfl, hi, O', ε', sr', f', q'⟩
  have w := wk O' H' (fun z => by cases z) f'
  by_cases lt : i < ds.length
  · have hd : ds[i]? = some ds[i] := List.getElem?_eq_getElem lt
    rw [drop_cons hd] at q'
    simp only [exFor] at q'
    refine .inr ⟨w.go i _ hd, fun σ' H' => i + 1 ≤ ds.length ∧ ∃ O' ε', SR X O0 O' H' σ' ε' ∧ Fz O1 H1 O' H' ∧ sRes X C O0 Ek O' H' D (exFor step (ds.drop (i + 1)) ε'), fun σ2 H2 hN => ⟨ds.length - (i + 1), by omega, rfl, hN⟩, fun x H2 y => ?_⟩
    obtain ⟨e, rx⟩ := w.yld i _ x H2 hd y
    subst e
    rw [← hst] at q'
    simp only [Rs.bnd_assoc] at q'
    rw [hst] at q'
    obtain ⟨ε2, hb2, q2⟩ := q'.ok_of (bnd_noex.1 t ds[i] ε')
    refine ⟨O', ds[i], ε', ε2, rx, hb2, fun σ2 er2 w2 => ⟨O', ε2, sr'.bnd hb2 er2 w2, ?_⟩⟩
    cases e3 : exSs φ body' ε2 with
    | ex d => rw [e3] at q2; exact q2
    | st => rw [e3] at q2; exact q2
    | ok p =>
      obtain ⟨fl, ε3⟩ := p
      rw [e3] at q2
      cases fl with
      | nx => exact fun O4 σ4 H4 s4 f4 => ⟨lt, O4, ε3, s4, f'.trans f4, sRes.mono q2 f4⟩
      | ct => exact fun O4 σ4 H4 s4 f4 => ⟨lt, O4, ε3, s4, f'.trans f4, sRes.mono q2 f4⟩
      | br => exact q2
      | rt d => exact q2
  · have e : i = ds.length := by omega
    subst e
    rw [List.drop_length] at q'
    simp only [exFor] at q'
    exact .inl ⟨w.stop, q' O' σ' H' sr' (.refl _ _)⟩
theorem s_while (po : PassesOwn (model X.prog X.w) X.A X.env X.xe) {e : Expr} {a : E} {body : List Stmt} {body' : List S} {pos : Pos} (he : PT X e (tT X.K φ C (WK Ek) a)) (hb : PSs X body (tSt X C O0 Ek (exSs φ body'))) :
    PS X (.While e body [] pos) (tSt X C O0 Ek (exS φ (.whil a body'))) := psm (ps_while po he hb) fun D σ H ⟨O, ε, sr, q⟩ => by
  simp only [exS] at q
  generalize WH = n0 at q
  refine ⟨fun m σ' H' => ∃ O' ε', SR X O0 O' H' σ' ε' ∧ sRes X C O0 Ek O' H' D (exWh (fun ε' => (ev φ a (ε'.map frzS)).bnd fun x => .ok (truth x)) (fun ε' => exSs φ body' ε') m ε'), ⟨n0, O, ε, sr, q⟩, ?_⟩
  rintro m σ' H' ⟨O', ε', sr', q'⟩
  cases m with
  | zero => simp only [exWh] at q'; exact q'.elim
  | succ m =>
    simp only [exWh, Rs.bnd_assoc, Rs.bnd_ok] at q'
    obtain ⟨er0, ot0⟩ := sr'.all
    refine ⟨O0, ε'.map frzS, er0, ot0, q'.rdA sr' fun d _ k H1 s => ?_⟩
    by_cases cc : truth d = true
    · rw [if_pos cc] at k ⊢
      refine ⟨fun σ' H' => ∃ O' ε', SR X O0 O' H' σ' ε' ∧ sRes X C O0 Ek O' H' D (exWh (fun ε' => (ev φ a (ε'.map frzS)).bnd fun x => .ok (truth x)) (fun ε' => exSs φ body' ε') m ε'), fun σ2 H2 hN => ⟨m, Nat.lt_succ_self m, hN⟩, O', ε', sr'.same s, ?_⟩
      have k := k.mono (.same s)
      cases e3 : exSs φ body' ε' with
      | ex d => rw [e3] at k; exact k
      | st => rw [e3] at k; exact k
      | ok p =>
        obtain ⟨fl, ε3⟩ := p
        rw [e3] at k
        cases fl with
        | nx => exact fun O4 σ4 H4 s4 f4 => ⟨O4, ε3, s4, sRes.mono k f4⟩
        | ct => exact fun O4 σ4 H4 s4 f4 => ⟨O4, ε3, s4, sRes.mono k f4⟩
        | br => exact k
        | rt d => exact k
    · rw [if_neg cc] at k ⊢
      exact k O' σ' H1 (sr'.same s) (.same s)

structure SM (c : Cfg) (φ : Nat → List D → Rs D) (C : Addr) (k n : Nat) : Prop where
  s : ∀ {X : Cx} {sc : Scope} {O0 : Ow} {Ek : XK} {st : Stmt} {a : S}, GS c φ C k X sc Ek → compS c sc n st = some a → PS X st (tSt X C O0 Ek (exS φ a))
  ss : ∀ {X : Cx} {sc : Scope} {O0 : Ow} {Ek : XK} {sts : List Stmt} {as : List S}, GS c φ C k X sc Ek → compSs c sc n sts = some as → PSs X sts (tSt X C O0 Ek (exSs φ as))
theorem sm_ss {n : Nat} (ih : SM c φ C k n) (g : GS c φ C k X sc Ek) {sts : List Stmt} {as : List S} (h : compSs c sc (n + 1) sts = some as) : PSs X sts (tSt X C O0 Ek (exSs φ as)) := by
  unfold compSs at h
  split at h
  · cases h
  · cases h
    exact pssm pss_nil fun D σ H ⟨O, ε, sr, q⟩ => by
      simp only [exSs] at q
      exact q O σ H sr (.refl _ _)
  · rename_i nn st sts hn
    cases hn
    obtain ⟨a, h1, h⟩ := bndO h
    obtain ⟨as, h2, h⟩ := bndO h
    cases h
    refine pssm (pss_cons (ih.s (O0 := O0) g h1) (ih.ss (O0 := O0) g h2)) fun D σ H ⟨O, ε, sr, q⟩ => ⟨O, ε, sr, ?_⟩
    simp only [exSs] at q
    cases e3 : exS φ a ε with
    | ex d => rw [e3] at q; exact q
    | st => rw [e3] at q; exact q
    | ok p =>
      obtain ⟨fl, ε3⟩ := p
      rw [e3] at q
      cases fl with
      | nx => exact fun O4 σ4 H4 s4 f4 => ⟨O4, ε3, s4, sRes.mono q f4⟩
      | ct => exact q
      | br => exact q
      | rt d => exact q
theorem loc_of {x : Str} (g : GS c φ C k X sc Ek) (h : sc.names.lookup x = some .local ∨ sc.names.lookup x = some .cell) : Loc X.env.scope x ∧ (X.fn x = true ∨ X.env.scope.names.lookup x = some .local) := by
  rcases h with h | h
  · have := (g.tg x).1 h
    exact ⟨.inl this, .inr this⟩
  · obtain ⟨h1, h2⟩ := (g.tg x).2 h
    exact ⟨.inr h1, .inl h2⟩
theorem nm_of {n : Nat} {y : Str} {p : Pos} {t : Pt} (h : compT c sc n (.Name y p) = some t) : ∃ i, t = .nm i ∧ slotIx c.N y = some i ∧ (sc.names.lookup y = some .local ∨ sc.names.lookup y = some .cell) := by
  cases n with
  | zero => simp [compT] at h
  | succ n =>
    simp only [compT] at h
    split at h
    · rename_i e
      cases hs : slotIx c.N y with
      | none => rw [hs] at h; cases h
      | some i => rw [hs] at h; cases h; exact ⟨i, rfl, rfl, .inl e⟩
    · rename_i e
      cases hs : slotIx c.N y with
      | none => rw [hs] at h; cases h
      | some i => rw [hs] at h; cases h; exact ⟨i, rfl, rfl, .inr e⟩
    · cases h
theorem inComp_of {elt : Expr} {gs : List Comprehension} {scope : Scope} {p py : Pos} {y : Str} (h : inComp sc (.ListComp elt gs scope p) y py = true) : sc.names.lookup y = some .local ∧ (py.line == p.line) = true ∧ (scope.names.any fun (n, k) => n == y && (k == .local || k == .cell)) = false := by
  have h : ((sc.names.lookup y == some .local) && (py.line == p.line) && !(scope.names.any fun (n, k) => n == y && (k == .local || k == .cell))) = true := h
  simp only [Bool.and_eq_true, Bool.not_eq_true'] at h
  exact ⟨by simpa using h.1.1, h.1.2, h.2⟩
theorem lc_of {m : Nat} {elt tg iter : Expr} {ifs : List Expr} {scope : Scope} {p : Pos} {x : E} (h : compE c (m + 1) sc (.ListComp elt [⟨tg, iter, ifs, 0⟩] scope p) = some x) : ∃ it t x1 cd, compI c m sc true iter = some it ∧ compT c scope m tg = some t ∧ compE c m (relS scope sc) elt = some x1 ∧ compC c m (relS scope sc) ifs = some cd ∧
    t.isin ((ownOf c.N scope).map (·.2)) = true ∧ blkC c.N sc scope (ownOf c.N scope) = true ∧ x = .lc ((ownOf c.N scope).map (·.2)) x1 t it cd := by
  unfold compE at h
  simp only at h
  split at h
  · rename_i hb
    obtain ⟨it, h1, h⟩ := bndO h
    obtain ⟨t, h2, h⟩ := bndO h
    obtain ⟨x1, h3, h⟩ := bndO h
    obtain ⟨cd, h4, h⟩ := bndO h
    split at h
    · rename_i hin
      cases h
      exact ⟨it, t, x1, cd, h1, h2, h3, h4, hin, hb, rfl⟩
    · cases h
  · cases h
theorem lc2_of {m : Nat} {elt tg iter tg1 iter1 : Expr} {ifs ifs1 : List Expr} {scope : Scope} {p : Pos} {x : E} (h : compE c (m + 1) sc (.ListComp elt [⟨tg, iter, ifs, 0⟩, ⟨tg1, iter1, ifs1, 0⟩] scope p) = some x) : ∃ it t x1 cd it1 t1 cd1, compI c m sc true iter = some it ∧ compT c scope m tg = some t ∧ compE c m (relS scope sc) elt = some x1 ∧ compC c m (relS scope sc) ifs = some cd ∧
    compI c m (relS scope sc) false iter1 = some it1 ∧ compT c scope m tg1 = some t1 ∧ compC c m (relS scope sc) ifs1 = some cd1 ∧ t.isin ((ownOf c.N scope).map (·.2)) = true ∧ t1.isin ((ownOf c.N scope).map (·.2)) = true ∧ blkC c.N sc scope (ownOf c.N scope) = true ∧ x = .lc2 ((ownOf c.N scope).map (·.2)) t1.sl x1 t it cd t1 it1 cd1 := by
  unfold compE at h
  simp only at h
  split at h
  · rename_i hb
    obtain ⟨it, h1, h⟩ := bndO h
    obtain ⟨t, h2, h⟩ := bndO h
    obtain ⟨cd, h4, h⟩ := bndO h
    obtain ⟨it1, h5, h⟩ := bndO h
    obtain ⟨t1, h6, h⟩ := bndO h
    obtain ⟨cd1, h7, h⟩ := bndO h
    obtain ⟨x1, h3, h⟩ := bndO h
    split at h
    · rename_i hin
      simp only [Bool.and_eq_true] at hin
      cases h
      exact ⟨it, t, x1, cd, it1, t1, cd1, h1, h2, h3, h4, h5, h6, h7, hin.1, hin.2, hb, rfl⟩
    · cases h
  · cases h
theorem sm_s {n : Nat} (ih : SM c φ C k n) (g : GS c φ C k X sc Ek) {st : Stmt} {a : S} (h : compS c sc (n + 1) st = some a) : PS X st (tSt X C O0 Ek (exS φ a)) := by
  have E0 := sn (c := c) (φ := φ) (C := C) (k := k) n
  unfold compS at h
  split at h
  · cases h; exact s_pass
  · cases h; exact s_brk
  · cases h; exact s_cont
  · cases h; exact s_retn
  · obtain ⟨x, h1, h⟩ := bndO h
    cases h
    exact s_ret (E0.e g.g g.tk g.hs h1).d
  · obtain ⟨x, h1, h⟩ := bndO h
    obtain ⟨p, h2, h⟩ := bndO h
    obtain ⟨q, h3, h⟩ := bndO h
    cases h
    exact s_iff (E0.e g.g g.tk g.hs h1).t (ih.ss g h2) (ih.ss g h3)
  · obtain ⟨i, h1, h⟩ := bndO h
    obtain ⟨t, h2, h⟩ := bndO h
    obtain ⟨b, h3, h⟩ := bndO h
    cases h
    obtain ⟨i1, i2⟩ := E0.i g.g g.tk g.hs h1
    exact s_for g.po g.g.calm (i1 _) (pg_sound g.g.hN g.g.nd g.g.calm g.tg n _ t h2) (ih.ss g h3) (i2 _)
  · obtain ⟨x, h1, h⟩ := bndO h
    obtain ⟨b, h3, h⟩ := bndO h
    cases h
    exact s_while g.po (E0.e g.g g.tk g.hs h1).t (ih.ss g h3)
  · -- x[i] = e
    split at h
    · rename_i cnd
      simp only [Bool.and_eq_true, decide_eq_true_eq] at cnd
      obtain ⟨i, h1, h⟩ := bndO h
      obtain ⟨kx, h2, h⟩ := bndO h
      obtain ⟨v, h3, h⟩ := bndO h
      cases h
      obtain ⟨q1, q2⟩ := slot_of g.g.hN g.hs h1
      exact s_seti g.g.hu q1 q2 (by simpa using cnd.1.2) (by simpa using cnd.2) (E0.e g.g g.tk g.hs h2).w (E0.e g.g g.tk g.hs h3).d sw_sub
    · cases h
  · -- y = e
    rename_i y py e pos
    split at h
    · rename_i hic
      split at h
      · rename_i elt tg iter ifs scope p2
        obtain ⟨x, h1, h⟩ := bndO h
        obtain ⟨i, hi, h⟩ := bndO h
        cases h
        obtain ⟨ic1, ic2, ic3⟩ := inComp_of hic
        cases n with
        | zero => simp [compE] at h1
        | succ m =>
          obtain ⟨it, t, x1, cd, k1, k2, k3, k4, k5, hb, rfl⟩ := lc_of h1
          have E1 := sn (c := c) (φ := φ) (C := C) (k := k) m
          obtain ⟨i1, i2⟩ := E1.i g.g g.tk g.hs k1
          have ok : BlkOk X.N X.env.scope scope (ownOf c.N scope) := by rw [g.g.hN, g.hs]; exact blkOk_by hb
          have blk : ∀ (s : Shared) (H : Hp) (Cc : Addr) (cl : List (Str × Addr)) (fp : List Addr), Good c φ C k (X.blk s H scope (compEnvC scope cl Cc X.env) fp) := fun s H Cc cl fp => g.g.blk s H scope _ fp
          have hsc : ∀ (s : Shared) (H : Hp) (Cc : Addr) (cl : List (Str × Addr)) (fp : List Addr), (X.blk s H scope (compEnvC scope cl Cc X.env) fp).env.scope = relS scope sc := fun s H Cc cl fp => by rw [← g.hs]; rfl
          refine psm (ps_setLc (i := i) (g := gP X.K t) (te := tD X.K φ C W0 x1) (tt := tC X.K φ C W0 cd) g.g.calm g.g.nd (by rw [g.g.hN]; exact slotIx_get hi) (by rw [g.hs]; exact ic1) (sw_true g.fn (by rw [g.hs]; exact ic1) ic2 ic3) (i1 _) ok
            (fun s H Cc cl fp => pg_sound (X := X.blk s H scope (compEnvC scope cl Cc X.env) fp) (c := c) g.g.hN g.g.nd g.g.calm (relS_tg s H Cc cl fp rfl) m _ t k2) (fun s H Cc cl fp => E1.cd (blk s H Cc cl fp) takes0 (hsc s H Cc cl fp) k4) (fun s H Cc cl fp => (E1.e (blk s H Cc cl fp) takes0 (hsc s H Cc cl fp) k3).d) (i2 _)) fun D σ H ⟨O, ε, sr, q⟩ => ?_
          simp only [exS] at q
          obtain ⟨O1, sr1, f1⟩ := sr.frz (E.lc ((ownOf c.N scope).map (·.2)) x1 t it cd).sv
          exact lc_rd k5 ⟨O1, _, sr1.er, sr1.ot, q.rd sr1 fun d _ k v H1 s r => asgF_end sr1 f1 s r k⟩
      · rename_i elt tg iter ifs tg1 iter1 ifs1 scope p2
        obtain ⟨x, h1, h⟩ := bndO h
        obtain ⟨i, hi, h⟩ := bndO h
        cases h
        obtain ⟨ic1, ic2, ic3⟩ := inComp_of hic
        cases n with
        | zero => simp [compE] at h1
        | succ m =>
          obtain ⟨it, t, x1, cd, it1, t1, cd1, k1, k2, k3, k4, k5, k6, k7, k8, k9, hb, rfl⟩ := lc2_of h1
          have E1 := sn (c := c) (φ := φ) (C := C) (k := k) m
          obtain ⟨i1, i2⟩ := E1.i g.g g.tk g.hs k1
          have ok : BlkOk X.N X.env.scope scope (ownOf c.N scope) := by rw [g.g.hN, g.hs]; exact blkOk_by hb
          have blk : ∀ (s : Shared) (H : Hp) (Cc : Addr) (cl : List (Str × Addr)) (fp : List Addr), Good c φ C k (X.blk s H scope (compEnvC scope cl Cc X.env) fp) := fun s H Cc cl fp => g.g.blk s H scope _ fp
          have hsc : ∀ (s : Shared) (H : Hp) (Cc : Addr) (cl : List (Str × Addr)) (fp : List Addr), (X.blk s H scope (compEnvC scope cl Cc X.env) fp).env.scope = relS scope sc := fun s H Cc cl fp => by rw [← g.hs]; rfl
          have tgx : ∀ (s : Shared) (H : Hp) (Cc : Addr) (cl : List (Str × Addr)) (fp : List Addr) (tg : Expr) (t : Pt), compT c scope m tg = some t → PG (X.blk s H scope (compEnvC scope cl Cc X.env) fp) tg (gP X.K t) := fun s H Cc cl fp tg t z => pg_sound (X := X.blk s H scope (compEnvC scope cl Cc X.env) fp) (c := c) g.g.hN g.g.nd g.g.calm (relS_tg s H Cc cl fp rfl) m _ t z
          refine psm (ps_setLc2 (i := i) (vs1 := t1.sl) (g := gP X.K t) (g1 := gP X.K t1) (te := tD X.K φ C W0 x1) (tt := tC X.K φ C W0 cd) (tt1 := tC X.K φ C W0 cd1) (wi1 := tI true X.K φ C W0 it1) g.g.calm g.g.nd (by rw [g.g.hN]; exact slotIx_get hi) (by rw [g.hs]; exact ic1) (sw_true g.fn (by rw [g.hs]; exact ic1) ic2 ic3) (i1 _) ok (isin_of k9)
            (fun s H Cc cl fp => tgx s H Cc cl fp _ _ k2) (fun s H Cc cl fp => E1.cd (blk s H Cc cl fp) takes0 (hsc s H Cc cl fp) k4)
            (fun s H Cc cl fp => (E1.i (blk s H Cc cl fp) takes0 (hsc s H Cc cl fp) k5).1 _) (fun s H Cc cl fp => tgx s H Cc cl fp _ _ k6) (fun s H Cc cl fp => E1.cd (blk s H Cc cl fp) takes0 (hsc s H Cc cl fp) k7)
            (fun s H Cc cl fp => (E1.e (blk s H Cc cl fp) takes0 (hsc s H Cc cl fp) k3).d) (i2 _) (compI_fold k5)) fun D σ H ⟨O, ε, sr, q⟩ => ?_
          simp only [exS] at q
          obtain ⟨O1, sr1, f1⟩ := sr.frz (E.lc2 ((ownOf c.N scope).map (·.2)) t1.sl x1 t it cd t1 it1 cd1).sv
          exact lc2_rd k8 k9 ⟨O1, _, sr1.er, sr1.ot, q.rd sr1 fun d _ k v H1 s r => asgF_end sr1 f1 s r k⟩
      · cases h
    · rename_i hic
      have hic := (Bool.not_eq_true _).mp hic
      split at h
      · cases h
      · cases h
      · rename_i n1 n2
        obtain ⟨x, h1, h⟩ := bndO h
        obtain ⟨t, h2, h⟩ := bndO h
        obtain ⟨i, rfl, hi, hl⟩ := nm_of h2
        obtain ⟨l1, l2⟩ := loc_of g hl
        have se := E0.e g.g g.tk g.hs h1
        have sw : swapsWith e (some (.Name y py)) pos.line X.env = pure false := sw_name g.hs g.fn (fun a b c d f z => n1 a b c d f z) (fun a b c d z => n2 a b c d z) hic
        injection h with h
        subst h
        by_cases hf : frE x = true
        · rw [hf]
          exact s_asgF g.g.nd (by rw [g.g.hN]; exact slotIx_get hi) l1 l2 (se.f hf) sw
        · rw [(Bool.not_eq_true _).mp hf]
          exact s_asg se.d (pg_sound g.g.hN g.g.nd g.g.calm g.tg n _ _ h2) sw rfl rfl
  · -- (..) = e
    rename_i ts kk tp e pos
    split at h
    · rename_i hnc
      split at h
      · rename_i hsw
        obtain ⟨x, h1, h⟩ := bndO h
        obtain ⟨t, h2, h⟩ := bndO h
        cases h
        exact s_asg (E0.e g.g g.tk g.hs h1).d (pg_sound g.g.hN g.g.nd g.g.calm g.tg n _ _ h2) (sw_tup (env := X.env) (l := pos.line) (ts := ts) (k := kk) (p := tp) (e := e)) (sw_st g.hs g.fn hsw) rfl
      · rename_i x y hsw
        split at h
        · rename_i x' p1 y' p2 a b k2 p3
          split at h
          · rename_i cnd
            simp only [Bool.and_eq_true, decide_eq_true_eq] at cnd
            obtain ⟨⟨⟨⟨e1, e2⟩, ne⟩, l1⟩, l2⟩ := cnd
            subst e1 e2
            obtain ⟨i, h1, h⟩ := bndO h
            obtain ⟨j, h2, h⟩ := bndO h
            obtain ⟨a', h3, h⟩ := bndO h
            obtain ⟨b', h4, h⟩ := bndO h
            split at h
            · rename_i lo
              simp only [Bool.and_eq_true, decide_eq_true_eq] at lo
              cases h
              have hi : X.N[i]? = some x' := by rw [g.g.hN]; exact slotIx_get h1
              have hj : X.N[j]? = some y' := by rw [g.g.hN]; exact slotIx_get h2
              refine s_par g.g.calm g.g.nd hi hj (fun z => ?_) ((g.tg _).1 lo.1) ((g.tg _).1 lo.2) (s_cons (E0.e g.g g.tk g.hs h3).d (s_cons (E0.e g.g g.tk g.hs h4).d s_nil (starCons l2)) (starCons l1)) (sw_st g.hs g.fn hsw)
              subst z
              rw [hi] at hj; cases hj; exact ne rfl
            · cases h
          · cases h
        · cases h
      · cases h
    · cases h
  · -- +=
    rename_i x p1 e pos
    split at h
    · rename_i lo
      simp only [Bool.or_eq_true, decide_eq_true_eq] at lo
      obtain ⟨i, h1, h⟩ := bndO h
      obtain ⟨x, h2, h⟩ := bndO h
      cases h
      obtain ⟨l1, l2⟩ := loc_of g lo
      refine s_aug g.g.nd (by rw [g.g.hN]; exact slotIx_get h1) l1 l2 (E0.e g.g g.tk g.hs h2).w ip_add fun d1 d2 n hb => ?_
      cases d1 <;> cases d2 <;> first | (cases hb; exact ⟨_, _, rfl, rfl, rfl⟩) | (simp only [binD] at hb; split at hb <;> cases hb; done) | (cases hb; done)
    · cases h
  · rename_i x p1 e pos
    split at h
    · rename_i lo
      simp only [Bool.or_eq_true, decide_eq_true_eq] at lo
      obtain ⟨i, h1, h⟩ := bndO h
      obtain ⟨x, h2, h⟩ := bndO h
      cases h
      obtain ⟨l1, l2⟩ := loc_of g lo
      refine s_aug g.g.nd (by rw [g.g.hN]; exact slotIx_get h1) l1 l2 (E0.e g.g g.tk g.hs h2).w ip_sub fun d1 d2 n hb => ?_
      cases d1 <;> cases d2 <;> first | (cases hb; exact ⟨_, _, rfl, rfl, rfl⟩) | (cases hb; done)
    · cases h
  · -- x.append(e)
    split at h
    · rename_i cnd
      simp only [Bool.and_eq_true, decide_eq_true_eq] at cnd
      obtain ⟨i, h1, h⟩ := bndO h
      obtain ⟨v, h2, h⟩ := bndO h
      cases h
      obtain ⟨q1, q2⟩ := slot_of g.g.hN g.hs h1
      exact s_app q1 q2 (by simpa using cnd.1.1.1) (by simpa using cnd.1.1.2) (E0.e g.g g.tk g.hs h2).d cnd.1.2 cnd.2
    · cases h
  · cases h; exact s_doc
  · obtain ⟨x, h2, h⟩ := bndO h
    cases h
    exact s_drop (E0.e g.g g.tk g.hs h2).d rfl
  · cases h; exact s_stuck
  · cases h
theorem smA : ∀ n, SM c φ C k n
  | 0 => ⟨fun _ h => by simp [compS] at h, fun _ h => by simp [compSs] at h⟩
  | n + 1 => ⟨fun g h => sm_s (smA n) g h, fun g h => sm_ss (smA n) g h⟩
end
end Ws

set_option Elab.async false
set_option linter.all false
set_option maxRecDepth 100000
set_option maxHeartbeats 4000000
/-! Sim20: the defs keep what the pure language says -/
namespace Ws
open PySem PySem.Spec PyProof.Rows L2

theorem call_len {fs : List Fn} {k i : Nat} {ds : List D} (h : call fs k i ds ≠ .st) : ∃ f, fs[i]? = some f ∧ ds.length = f.np := by
  cases k with
  | zero => exact absurd rfl h
  | succ k =>
    unfold call at h
    cases e : fs[i]? with
    | none => rw [e] at h; exact absurd rfl h
    | some f =>
      rw [e] at h
      refine ⟨f, rfl, ?_⟩
      by_cases z : ds.length = f.np
      · exact z
      · exfalso; apply h; show run _ f ds = _; unfold run; rw [if_neg z]

/-- what is known of a program's defs, whatever the level -/
structure Defs (P : Program) (w : World) (K : PySem.W.Frag) (mg : Str → Option Value) (c0 : Cfg) (fs : List Fn) : Prop where
  fn : ∀ (i : Nat) (x : Str), c0.fns[i]? = some x → ∃ (f : Addr) (fd : FuncData) (N ps : List Str) (qual : Str) (params : Arguments) (body : List Stmt) (scope : Scope) (b : List S) (n : Nat), mg x = some (.ref f) ∧ FunD K x qual params body scope [] [] f fd ∧ FnScope N ps scope ∧ Binds K fd ps [] ∧
    compSs { c0 with N := N } scope n body = some b ∧ fs[i]? = some ⟨ps.length, b, N.length⟩
  cs : ∀ x d, c0.cs.lookup x = some d → ∃ u v, mg x = some u ∧ RelV v u ∧ ∀ O H, Rp K O H v d
  bl : ∀ x, x ∈ c0.bl → mg x = none
  gcd : c0.gcd = true → mg "gcd" = some (.builtin "math.gcd")
  tabs : ∀ T kvs, c0.tabs.lookup T = some kvs → TabIs K w mg T kvs
/-- the def at level k -/
def FnAt (P : Program) (w : World) (K : PySem.W.Frag) (mg : Str → Option Value) (base : Heap) (fs : List Fn) (C : Addr) (k i : Nat) (x : Str) : Prop :=
  ∃ f fd ps, mg x = some (.ref f) ∧ PySem.W.keepIn K (.ref f) = true ∧ Binds K fd ps [] ∧ FnOk P w K mg base (L2.CX P w) k f fd ps (spD K (call fs k) C i ps.length) ∧ (∀ ds, call fs k i ds ≠ .st → ds.length = ps.length)
theorem start_er {K : PySem.W.Frag} {O : Ow} {H : Hp} {N : List Str} {vs : List V} {ds : List D} (r : Rps K O H vs ds) : ER K O H (L2.start N vs) (ds.map .f ++ List.replicate (N.length - ds.length) .u) := by
  have hl := r.length
  refine ⟨by simp only [L2.start, List.length_append, List.length_map, List.length_replicate]; omega, fun i s e => ?_⟩
  by_cases lt : i < ds.length
  · rw [List.getElem?_append_left (by simpa using lt), List.getElem?_map] at e
    have hd : ds[i]? = some ds[i] := List.getElem?_eq_getElem lt
    rw [hd] at e
    cases e
    obtain ⟨v, h1, h2⟩ := r.get hd
    refine ⟨v, ?_, h2⟩
    unfold L2.start
    rw [List.getElem?_append_left (by rw [List.length_map, hl]; exact lt), List.getElem?_map, h1]
    rfl
  · rw [List.getElem?_append_right (by simpa using lt)] at e
    rw [List.getElem?_replicate] at e
    split at e
    · cases e; trivial
    · cases e
theorem start_no {α : Prop} {ds : List D} {n i : Nat} {d : D} (e : (ds.map Sl.f ++ List.replicate n Sl.u)[i]? = some (.o d)) : α := by
  exfalso
  have m := List.mem_of_getElem? e
  rw [List.mem_append] at m
  rcases m with m | m
  · rw [List.mem_map] at m
    obtain ⟨_, _, z⟩ := m
    cases z
  · have := List.eq_of_mem_replicate m
    cases this
theorem start_sr {X : Cx} {O0 : Ow} {N : List Str} {vs : List V} {ds : List D} (ot : OT O0 X.H_0) (r : Rps X.K O0 X.H_0 vs ds) : SR X O0 O0 X.H_0 (L2.start N vs) (ds.map .f ++ List.replicate (N.length - ds.length) .u) :=
  ⟨start_er r, ot, fun i d e => start_no (ds := ds) (n := N.length - ds.length) e, Same.refl _, fun _ _ _ => rfl, ot⟩
section
variable {P : Program} {w : World} {K : PySem.W.Frag} {mg : Str → Option Value} {base : Heap} {c0 : Cfg} {fs : List Fn} {C : Addr}
theorem fn_zero {f : Addr} {fd : FuncData} {N ps : List Str} {x qual : Str} {params : Arguments} {body : List Stmt} {scope : Scope} {i : Nat} (F : FunD K x qual params body scope [] [] f fd) (S : FnScope N ps scope) : FnOk P w K mg base (L2.CX P w) 0 f fd ps (spD K (call fs 0) C i ps.length) := by
  refine ⟨?_, ?_⟩
  · rintro vs H Q E ⟨O, ds, ot, r, hl, m⟩; exact hl
  · rintro A outer s H args us vs Q E hr e0 hb rv ⟨O, ds, ot, r, hl, m⟩; exact m.elim
theorem fn_succ (h : Defs P w K mg c0 fs) {k : Nat} (ih : ∀ (i : Nat) (x : Str), c0.fns[i]? = some x → FnAt P w K mg base fs C k i x)
    {f : Addr} {fd : FuncData} {N ps : List Str} {x qual : Str} {params : Arguments} {body : List Stmt} {scope : Scope} {b : List S} {n i : Nat} (F : FunD K x qual params body scope [] [] f fd) (S : FnScope N ps scope)
    (hc : compSs { c0 with N := N } scope n body = some b) (hf : fs[i]? = some ⟨ps.length, b, N.length⟩) : FnOk P w K mg base (L2.CX P w) (k + 1) f fd ps (spD K (call fs (k + 1)) C i ps.length) := by
  refine F.ok S (fun vs H Q E z => ?_) fun cdv A outer s H vs Q E hr z => ?_
  · obtain ⟨O, ds, ot, r, hl, m⟩ := z; exact hl
  · obtain ⟨O0, ds, ot, r, hl, m⟩ := z
    generalize hX : cxOf (L2.CX P w) P w K mg base N qual scope f cdv A outer s H E = X
    have g : GS { c0 with N := N } (call fs k) C k X scope E := by
      subst hX
      exact ⟨⟨rfl, S.nd, rfl, hr, fun j y hj => ih j y hj, h.cs, h.bl, h.gcd, h.tabs⟩, takes_of rfl rfl rfl (E₁ := fun e' s'' => L2.CX P w outer H s E e' s'') rfl, passes_of (K := fun e s'' => L2.CX P w outer H s E e s'') (E₁ := fun e' s'' => L2.CX P w outer H s E e' s'') rfl, rfl, fun y => ⟨fun e => e, fun e => ⟨e, rfl⟩⟩, S.kind⟩
    refine ⟨tSt X C O0 E (exSs (call fs k) b), (smA n).ss g hc, O0, _, (?_ : SR X O0 O0 H (L2.start N vs) (ds.map .f ++ List.replicate (N.length - ds.length) .u)), ?_⟩
    · subst hX
      exact start_sr (X := cxOf (L2.CX P w) P w K mg base N qual scope f cdv A outer s H E) ot r
    · have hH : X.H_0 = H := by subst hX; rfl
      have hK : X.K = K := by subst hX; rfl
      have hl' : ds.length = ps.length := by rw [← r.length]; exact hl
      have m' := m
      unfold call at m'
      rw [hf] at m'
      simp only [run] at m'
      rw [if_pos hl', ← hl'] at m'
      cases e : exSs (call fs k) b (ds.map .f ++ List.replicate (N.length - ds.length) .u) with
      | st => rw [e] at m'; exact m'.elim
      | ex d =>
        rw [e] at m'
        intro dx v H' s1 a1 r1
        rw [hH] at s1
        rw [hK] at r1
        exact m' dx v H' s1 a1 r1
      | ok p =>
        obtain ⟨fl, ε'⟩ := p
        rw [e] at m'
        cases fl with
        | nx =>
          intro O' σ' H' sr f'
          have s1 := sr.sm
          rw [hH] at s1
          exact m' .non H' s1 .non
        | rt d =>
          intro v H' s1 r1
          rw [hH] at s1
          rw [hK] at r1
          exact m' v H' s1 r1
        | br => exact m'.elim
        | ct => exact m'.elim
theorem fn_all (h : Defs P w K mg c0 fs) : ∀ (k i : Nat) (x : Str), c0.fns[i]? = some x → FnAt P w K mg base fs C k i x
  | 0, i, x, hi => by
    obtain ⟨f, fd, N, ps, qual, params, body, scope, b, n, hm, F, S, B, hc, hf⟩ := h.fn i x hi
    exact ⟨f, fd, ps, hm, F.kp, B, fn_zero F S, fun ds z => absurd rfl z⟩
  | k + 1, i, x, hi => by
    have ih := fn_all h k
    obtain ⟨f, fd, N, ps, qual, params, body, scope, b, n, hm, F, S, B, hc, hf⟩ := h.fn i x hi
    refine ⟨f, fd, ps, hm, F.kp, B, fn_succ h ih F S hc hf, fun ds z => ?_⟩
    obtain ⟨f', h1, h2⟩ := call_len z
    rw [hf] at h1
    cases h1
    exact h2
theorem fn_top (h : Defs P w K mg c0 fs) {k : Nat} {f : Addr} {fd : FuncData} {N ps : List Str} {x qual : Str} {params : Arguments} {body : List Stmt} {scope : Scope} {b : List S} {n i : Nat} (F : FunD K x qual params body scope [] [] f fd) (S : FnScope N ps scope)
    (hc : compSs { c0 with N := N } scope n body = some b) (hf : fs[i]? = some ⟨ps.length, b, N.length⟩) : FnOk P w K mg base (L2.CX P w) (k + 1) f fd ps (spD K (call fs (k + 1)) C i ps.length) := fn_succ h (fn_all h k) F S hc hf
end

/-! ### a law's end -/
/-- an exception of any world -/
def CXa (P : Program) : CXT := fun outer H s E e s' => ∃ w, L2.CX P w outer H s E e s'
theorem FnOk.any {P : Program} {w : World} {K : PySem.W.Frag} {mg : Str → Option Value} {base : Heap} {k : Nat} {f : Addr} {fd : FuncData} {ps : List Str} {sp : Sp} (F : FnOk P w K mg base (L2.CX P w) k f fd ps sp) : FnOk P w K mg base (CXa P) k f fd ps sp :=
  ⟨F.len, fun A outer s H args us vs Q E hr e0 hb rv h => codeAny_mono (F.run A outer s H args us vs Q E hr e0 hb rv h) fun r s' q => by
    cases r with
    | error e => exact ⟨w, q⟩
    | ok fl => cases fl <;> exact q⟩
theorem ints_rps {K : PySem.W.Frag} {O : Ow} {H : Hp} : ∀ ns : List Int, Rps K O H (ns.map V.int) (ns.map .int)
  | [] => .nil
  | n :: ns => .cons (.int n) (ints_rps ns)
/-- the law's def: what the pure language says of every script is True -/
theorem law_sp {K : PySem.W.Frag} {fs : List Fn} {C : Addr} {k i n : Nat} {H : Hp} {a : Addr} {ns : List Int} (hl : ns.length ≤ n) (hn : n ≤ sizeLine) (hS : SqL K H a (ns.map V.int)) (h : call fs k i [.list (ns.map .int)] = .ok (.bool true)) :
    spD K (call fs k) C i 1 [.ref a] H (fun v _ => v = .bl true) fun _ _ _ => False := by
  refine ⟨fun _ => none, [.list (ns.map .int)], fun a i e => (by cases e), .cons (.lst (.of hS rfl) (by rw [List.length_map]; omega) (ints_rps ns)) .nil, rfl, ?_⟩
  rw [h]
  intro v H' s r
  cases r; rfl
theorem cxa_end {P : Program} : ∀ (H : Hp) (s : Shared) (e : Value) (s' : Shared), CXa P [] H s (fun _ _ _ => False) e s' → False := fun H s e s' ⟨w, c⟩ => by
  obtain ⟨_, _, _, _, _, _, _, _, _, _, _, _, z⟩ := c
  exact z
end Ws

set_option Elab.async false
set_option linter.all false
set_option maxRecDepth 100000
set_option maxHeartbeats 4000000
/-! Sim21: rows for walking through the pure language -/
namespace Ws
open PySem

theorem call_at {fs : List Fn} {k i : Nat} {f : Fn} {ds : List D} (h : fs[i]? = some f) (hl : ds.length = f.np) : call fs (k + 1) i ds = (exSs (call fs k) f.body (ds.map .f ++ List.replicate (f.n - f.np) .u)).bnd retv := by
  show (match fs[i]? with | some f => run (call fs k) f ds | none => .st) = _
  rw [h]
  show run _ f ds = _
  unfold run
  rw [if_pos hl]
theorem dataLt_int (a b : Int) : PySem.W.dataLt (.int a) (.int b) = decide (a < b) := by
  unfold PySem.W.dataLt
  simp only [PySem.W.keyToks]
  by_cases h : a = b
  · subst h
    simp only [PyProof.Rows.lexLt]
    simp [PyProof.Rows.itemOrd, PyProof.Rows.itemLt]
  · simp only [PyProof.Rows.lexLt]
    simp [PyProof.Rows.itemOrd, PyProof.Rows.itemLt, h]
@[simp] theorem lim_int (n : Nat) (i : Int) : lim n (.int i) = true := by cases n <;> rfl
@[simp] theorem lim_bool (n : Nat) (i : Bool) : lim n (.bool i) = true := by cases n <;> rfl
@[simp] theorem lim_none (n : Nat) : lim n .none = true := by cases n <;> rfl
@[simp] theorem lim_str (n : Nat) (i : Str) : lim n (.str i) = true := by cases n <;> rfl
theorem ltB_int (a b : Int) : ltB (.int a) (.int b) = .ok (.bool (decide (a < b))) := by
  unfold ltB cmpOk
  simp [PySem.W.alike, isNone, dataLt_int]
@[simp] theorem cmp_lt (a b : Int) : cmpD .lt (.int a) (.int b) = .ok (.bool (decide (a < b))) := ltB_int a b
@[simp] theorem cmp_gt (a b : Int) : cmpD .gt (.int a) (.int b) = .ok (.bool (decide (b < a))) := ltB_int b a
@[simp] theorem cmp_le (a b : Int) : cmpD .le (.int a) (.int b) = .ok (.bool (decide (a ≤ b))) := by
  show notD (ltB (.int b) (.int a)) = _
  rw [ltB_int]
  show Rs.ok (PyData.bool (!decide (b < a))) = _
  congr 2
  by_cases h : a ≤ b <;> simp [h] <;> omega
@[simp] theorem cmp_ge (a b : Int) : cmpD .ge (.int a) (.int b) = .ok (.bool (decide (b ≤ a))) := cmp_le b a
theorem eqD_int (a b : Int) : eqD (.int a) (.int b) = .ok (.bool (decide (a = b))) := by
  unfold eqD
  simp [PyData.eqv]
  rfl
/-- a list or a tuple -/
def sq (t : Bool) (xs : List D) : D := if t then .tuple xs else .list xs
@[simp] theorem len_sq (t : Bool) (xs : List D) : biD .len [sq t xs] = .ok (.int xs.length) := by cases t <;> rfl
@[simp] theorem seqD_sq (t : Bool) (xs : List D) : seqD (sq t xs) = .ok xs := by cases t <;> rfl
@[simp] theorem seqD2_sq (t : Bool) (xs : List D) : seqD2 (sq t xs) = .ok xs := by cases t <;> rfl
@[simp] theorem idx_sq (t : Bool) (xs : List D) (i : Int) : idxD (sq t xs) (.int i) = Rs.of (ixD xs i) := by cases t <;> rfl
@[simp] theorem truth_bool (b : Bool) : truth (.bool b) = b := rfl
theorem lcL_map {α : Type} {turn : D → Rs (List D)} {enc f : α → D} : ∀ {l : List α}, (∀ a ∈ l, turn (enc a) = .ok [f a]) → lcL turn (l.map enc) = .ok (l.map f)
  | [], _ => rfl
  | a :: l, h => by
    rw [List.map_cons, lcL, h a List.mem_cons_self, lcL_map fun b hb => h b (List.mem_cons_of_mem _ hb)]
    rfl
theorem lcL_flat {α : Type} {turn : D → Rs (List D)} {enc : α → D} {f : α → List D} : ∀ {l : List α}, (∀ a ∈ l, turn (enc a) = .ok (f a)) → lcL turn (l.map enc) = .ok (l.flatMap f)
  | [], _ => rfl
  | a :: l, h => by
    rw [List.map_cons, lcL, h a List.mem_cons_self, lcL_flat fun b hb => h b (List.mem_cons_of_mem _ hb)]
    rfl
theorem bolsD_map {α : Type} {p : α → Bool} : ∀ {l : List α}, bolsD (l.map fun a => .bool (p a)) = some (l.map p)
  | [] => rfl
  | a :: l => by
    have ih := bolsD_map (p := p) (l := l)
    unfold bolsD at ih ⊢
    rw [List.map_cons, List.mapM_cons, ih]; rfl
@[simp] theorem all_map {α : Type} {p : α → Bool} {l : List α} : biD .all [.list (l.map fun a => .bool (p a))] = .ok (.bool (l.all p)) := by
  show (Rs.of (bolsD _)).bnd _ = _
  rw [bolsD_map]
  show Rs.ok (PyData.bool ((l.map p).any id |> fun _ => (l.map p).all id)) = _
  rw [List.all_map]; rfl
@[simp] theorem any_map' {α : Type} {p : α → Bool} {l : List α} : biD .any [.list (l.map fun a => .bool (p a))] = .ok (.bool (l.any p)) := by
  show (Rs.of (bolsD _)).bnd _ = _
  rw [bolsD_map]
  show Rs.ok (PyData.bool ((l.map p).any id)) = _
  rw [List.any_map]; rfl
theorem intsD_map {α : Type} {p : α → Int} : ∀ {l : List α}, intsD (l.map fun a => .int (p a)) = some (l.map p)
  | [] => rfl
  | a :: l => by
    have ih := intsD_map (p := p) (l := l)
    unfold intsD at ih ⊢
    rw [List.map_cons, List.mapM_cons, ih]; rfl
@[simp] theorem sum_map' {α : Type} {p : α → Int} {l : List α} : biD .sum [.list (l.map fun a => .int (p a))] = .ok (.int (l.map p).sum) := by
  show (Rs.of (intsD _)).bnd _ = _
  rw [intsD_map]; rfl
theorem rngL_eq (lo : Int) (n : Nat) : rngL lo n = (List.range n).map fun i => .int (lo + (i : Nat)) := rfl
theorem rngD_ok {lo hi : Int} {n : Nat} (hn : hi = lo + n) (h1 : -(2 ^ 62) ≤ lo) (h2 : hi < 2 ^ 62) (h3 : n ≤ LIM) : rngD lo hi = .ok ((List.range n).map fun i => .int (lo + (i : Nat))) := by
  unfold rngD
  have e : (hi - lo).toNat = n := by omega
  rw [if_pos ⟨h1, by omega, by omega, h2, by omega⟩, e]; rfl
theorem cut_nat {α : Type} {xs : List α} {i j : Nat} (hi : i ≤ xs.length) (hj : j ≤ xs.length) : cutD xs (some (i : Int)) (some (j : Int)) = (xs.drop i).take (j - i) := by
  unfold cutD HT.sIx
  simp only
  rw [if_neg (by omega), if_neg (by omega), Int.toNat_natCast, Int.toNat_natCast, Nat.min_eq_left hi, Nat.min_eq_left hj]
@[simp] theorem sli_sq (q : Bool) (xs : List D) (lo hi : Option Int) : sliD (sq q xs) lo hi = .ok (sq q (cutD xs lo hi)) := by cases q <;> rfl
theorem cut_map {α β : Type} (f : α → β) (xs : List α) (lo hi : Option Int) : cutD (xs.map f) lo hi = (cutD xs lo hi).map f := by
  unfold cutD
  rw [List.length_map, List.map_take, List.map_drop]
/-- a slot that a new list or tuple stands in -/
def slq (q : Bool) (xs : List D) : Sl := if q then .f (.tuple xs) else .o (.list xs)
@[simp high] theorem putF_sq (ε : Env) (i : Nat) (q : Bool) (xs : List D) : putF ε (.nm i) (sq q xs) true = .ok (ε.set i (slq q xs)) := by cases q <;> rfl
@[simp] theorem frz_slq (q : Bool) (xs : List D) : frzS (slq q xs) = .f (sq q xs) := by cases q <;> rfl
@[simp] theorem putF_f (ε : Env) (t : Pt) (d : D) : putF ε t d false = bnd t d ε := rfl
@[simp] theorem putF_l (ε : Env) (i : Nat) (xs : List D) : putF ε (.nm i) (.list xs) true = .ok (ε.set i (.o (.list xs))) := rfl
@[simp] theorem putF_d (ε : Env) (i : Nat) (xs : List (D × D)) : putF ε (.nm i) (.dict xs) true = .ok (ε.set i (.o (.dict xs))) := rfl
@[simp] theorem putF_i (ε : Env) (i : Nat) (n : Int) : putF ε (.nm i) (.int n) true = .ok (ε.set i (.f (.int n))) := rfl
@[simp] theorem putF_b (ε : Env) (i : Nat) (n : Bool) : putF ε (.nm i) (.bool n) true = .ok (ε.set i (.f (.bool n))) := rfl
@[simp] theorem putF_s (ε : Env) (i : Nat) (n : Str) : putF ε (.nm i) (.str n) true = .ok (ε.set i (.f (.str n))) := rfl
@[simp] theorem putF_t (ε : Env) (i : Nat) (n : List D) : putF ε (.nm i) (.tuple n) true = .ok (ε.set i (.f (.tuple n))) := rfl
@[simp] theorem putF_n (ε : Env) (i : Nat) : putF ε (.nm i) .none true = .ok (ε.set i (.f .none)) := rfl
@[simp] theorem frz_o (d : D) : frzS (.o d) = .f d := rfl
@[simp] theorem frz_f (d : D) : frzS (.f d) = .f d := rfl
@[simp] theorem frz_u : frzS .u = .u := rfl
/-- a loop that looks for the first and returns -/
theorem exFor_find {α : Type} {enc : α → D} {step : D → Env → Rs (Fl × Env)} {p : α → Bool} {r : α → D} {I : Env → Prop} : ∀ {l : List α} {ε : Env}, I ε → (∀ a ∈ l, ∀ ε, I ε → ∃ ε', I ε' ∧ step (enc a) ε = .ok (if p a = true then .rt (r a) else .nx, ε')) →
    ∃ ε', I ε' ∧ exFor step (l.map enc) ε = .ok ((match l.find? p with | some a => .rt (r a) | none => .nx), ε')
  | [], ε, hi, _ => ⟨ε, hi, rfl⟩
  | a :: l, ε, hi, h => by
    obtain ⟨ε1, i1, e1⟩ := h a List.mem_cons_self ε hi
    rw [List.map_cons, exFor, e1, List.find?_cons]
    cases hp : p a with
    | true => exact ⟨ε1, i1, rfl⟩
    | false =>
      obtain ⟨ε2, i2, e2⟩ := exFor_find (l := l) i1 fun b hb => h b (List.mem_cons_of_mem _ hb)
      exact ⟨ε2, i2, e2⟩
/-- a loop that goes through -/
theorem exFor_fold {α β : Type} {enc : α → D} {step : D → Env → Rs (Fl × Env)} {f : β → α → β} {I : β → Env → Prop} : ∀ {l : List α} {b : β} {ε : Env}, I b ε → (∀ a ∈ l, ∀ b ε, I b ε → ∃ ε', I (f b a) ε' ∧ step (enc a) ε = .ok (.nx, ε')) →
    ∃ ε', I (l.foldl f b) ε' ∧ exFor step (l.map enc) ε = .ok (.nx, ε')
  | [], b, ε, hi, _ => ⟨ε, hi, rfl⟩
  | a :: l, b, ε, hi, h => by
    obtain ⟨ε1, i1, e1⟩ := h a List.mem_cons_self b ε hi
    obtain ⟨ε2, i2, e2⟩ := exFor_fold (l := l) i1 fun c hc => h c (List.mem_cons_of_mem _ hc)
    refine ⟨ε2, i2, ?_⟩
    rw [List.map_cons, exFor, e1]
    exact e2
def forStep (φ : Nat → List D → Rs D) (t : Pt) (body : List S) (x : D) (ε : Env) : Rs (Fl × Env) := (bnd t x ε).bnd fun ε' => exSs φ body ε'
section
variable (φ : Nat → List D → Rs D) (t : Pt) (it : It) (body a b : List S) (lk : List Nat) (ε : Env) (e e1 e2 : E) (fr : Bool) (i j : Nat) (o : Op2)
@[simp] theorem exS_for : exS φ (.for_ t it body lk) ε = (evi φ it (frzE ε lk)).bnd fun ds => exFor (forStep φ t body) ds (frzE ε lk) := by
  simp only [exS]
  rfl
@[simp] theorem exS_asg : exS φ (.asg t e fr lk) ε = (ev φ e (frzE ε lk)).bnd fun d => (putF (frzE ε lk) t d fr).bnd fun ε' => .ok (.nx, ε') := by simp only [exS]
@[simp] theorem exS_par : exS φ (.par i j e1 e2 lk) ε = (ev φ e1 (frzE ε lk)).bnd fun x => (ev φ e2 (frzE ε lk)).bnd fun y => .ok (.nx, put (put (frzE ε lk) i x) j y) := by simp only [exS]
@[simp] theorem exS_seti : exS φ (.seti i e1 e2 lk) ε = (ev φ e2 (frzE ε lk)).bnd fun v => (own (frzE ε lk) i).bnd fun d => (ev φ e1 (frzE ε lk)).bnd fun k => (setD d k v).bnd fun d' => .ok (.nx, puto (frzE ε lk) i d') := by simp only [exS]
@[simp] theorem exS_app : exS φ (.app i e lk) ε = (own (frzE ε lk) i).bnd fun d => (lstD d).bnd fun xs => (ev φ e (frzE ε lk)).bnd fun v => if xs.length < LIM then .ok (.nx, puto (frzE ε lk) i (.list (xs ++ [v]))) else .st := by simp only [exS]
@[simp] theorem exS_ret : exS φ (.ret e) ε = (ev φ e (ε.map frzS)).bnd fun d => .ok (.rt d, ε) := by simp only [exS]
@[simp] theorem exS_retn : exS φ .retn ε = .ok (.rt .none, ε) := by simp only [exS]
@[simp] theorem exS_drop : exS φ (.drop e lk) ε = (ev φ e (frzE ε lk)).bnd fun _ => .ok (.nx, frzE ε lk) := by simp only [exS]
@[simp] theorem exS_iff : exS φ (.iff e a b) ε = (ev φ e (ε.map frzS)).bnd fun x => if truth x then exSs φ a ε else exSs φ b ε := by simp only [exS]
@[simp] theorem exS_brk : exS φ .brk ε = .ok (.br, ε) := by simp only [exS]
@[simp] theorem exS_cont : exS φ .cont ε = .ok (.ct, ε) := by simp only [exS]
@[simp] theorem exS_pass : exS φ .pass ε = .ok (.nx, ε) := by simp only [exS]
@[simp] theorem exS_stuck : exS φ .stuck ε = .st := by simp only [exS]
end
@[simp] theorem bnd_nm1 (i : Nat) (d : D) (ε : Env) : bnd (.nm i) d ε = .ok (ε.set i (.f d)) := by simp only [bnd, put]
@[simp] theorem bnd_tt (ps : List Pt) (ds : List D) (ε : Env) : bnd (.tp ps) (.tuple ds) ε = bnds ps ds ε := by simp only [bnd]
@[simp] theorem bnd_tl (ps : List Pt) (ds : List D) (ε : Env) : bnd (.tp ps) (.list ds) ε = bnds ps ds ε := by simp only [bnd]
@[simp] theorem bnd_sq (ps : List Pt) (q : Bool) (ds : List D) (ε : Env) : bnd (.tp ps) (sq q ds) ε = bnds ps ds ε := by cases q <;> simp [sq]
@[simp] theorem bnds_n (ε : Env) : bnds [] [] ε = .ok ε := by simp only [bnds]
@[simp] theorem bnds_c (p : Pt) (ps : List Pt) (d : D) (ds : List D) (ε : Env) : bnds (p :: ps) (d :: ds) ε = (bnd p d ε).bnd fun ε' => bnds ps ds ε' := by simp only [bnds]
@[simp] theorem truth_list (xs : List D) : truth (.list xs) = !xs.isEmpty := rfl
@[simp] theorem truth_tup (xs : List D) : truth (.tuple xs) = !xs.isEmpty := rfl
@[simp] theorem truth_none : truth .none = false := rfl
@[simp] theorem truth_sq (q : Bool) (xs : List D) : truth (sq q xs) = !xs.isEmpty := by cases q <;> rfl
theorem lset_map {α : Type} {f g : α → Int} {l : List α} (h : l.length < 64) : lsetD (.list (l.map fun a => .tuple [.int (f a), .int (g a)])) = .ok (.int (dnum (l.map fun a => [f a, g a]))) := by
  have e : (l.map fun a => PyData.tuple [.int (f a), .int (g a)]).mapM tupI = some (l.map fun a => [f a, g a]) := by
    clear h
    induction l with
    | nil => rfl
    | cons a l ih => rw [List.map_cons, List.mapM_cons, ih]; rfl
  show (if (l.map _).length < 64 then _ else _) = _
  rw [List.length_map, if_pos h, e]; rfl
theorem eqD_int' (a b : Int) : cmpD .eq (.int a) (.int b) = .ok (.bool (decide (a = b))) := eqD_int a b
theorem eqD_str (a b : Str) : cmpD .eq (.str a) (.str b) = .ok (.bool (decide (a = b))) := by
  show eqD _ _ = _
  unfold eqD
  simp [PyData.eqv]
  rfl
@[simp] theorem nmR_ok (x : D) : nmR (.ok x) = if noMut x then .ok x else .st := rfl
/-- a loop that appends one a turn -/
theorem exFor_app {α : Type} {enc g : α → D} {step : D → Env → Rs (Fl × Env)} {N : Nat} {I : List D → Env → Prop} : ∀ {l : List α} {b : List D} {ε : Env}, b.length + l.length ≤ N → I b ε → (∀ a ∈ l, ∀ b ε, b.length < N → I b ε → ∃ ε', I (b ++ [g a]) ε' ∧ step (enc a) ε = .ok (.nx, ε')) →
    ∃ ε', I (b ++ l.map g) ε' ∧ exFor step (l.map enc) ε = .ok (.nx, ε')
  | [], b, ε, _, hi, _ => ⟨ε, by simpa using hi, rfl⟩
  | a :: l, b, ε, hN, hi, h => by
    rw [List.length_cons] at hN
    obtain ⟨ε1, i1, e1⟩ := h a List.mem_cons_self b ε (by omega) hi
    obtain ⟨ε2, i2, e2⟩ := exFor_app (l := l) (b := b ++ [g a]) (by rw [List.length_append, List.length_singleton]; omega) i1 fun c hc => h c (List.mem_cons_of_mem _ hc)
    refine ⟨ε2, by simpa using i2, ?_⟩
    rw [List.map_cons, exFor, e1]
    exact e2
end Ws

set_option Elab.async false
set_option linter.all false
set_option maxRecDepth 100000
set_option maxHeartbeats 4000000
/-! Sim22: the module's constants and tables, looked at -/
namespace Ws
open PySem PySem.Spec PyProof.Rows L2

def atomB (u : Value) : D → Bool
  | .none => He.relB .non u
  | .bool b => He.relB (.bl b) u
  | .int i => He.relB (.int i) u
  | .str x => He.relB (.str x) u && (PyData.strOk x && decide (x.length ≤ sizeLine))
  | _ => false
def all2 (f : Value → D → Bool) : List Value → List D → Bool
  | [], [] => true
  | u :: us, d :: ds => f u d && all2 f us ds
  | _, _ => false
def tupB (f : Value → D → Bool) (o : Option Obj) (ds : List D) : Bool := match o with
  | some ⟨.type c, _, .seq its _, _⟩ => decide (c = "tuple") && (decide (its.size ≤ sizeLine) && all2 f its.toList ds)
  | _ => false
def rpB (K : PySem.W.Frag) : Nat → Value → D → Bool
  | n + 1, .ref a, .tuple ds => tupB (rpB K n) (K.lookup a) ds
  | _, u, d => atomB u d
theorem atomB_ok {K : PySem.W.Frag} {u : Value} {d : D} (h : atomB u d = true) : ∃ v, RelV v u ∧ ∀ O H, Rp K O H v d := by
  cases d with
  | none => exact ⟨.non, He.relB_ok h, fun _ _ => .non⟩
  | bool b => exact ⟨.bl b, He.relB_ok h, fun _ _ => .bl b⟩
  | int i => exact ⟨.int i, He.relB_ok h, fun _ _ => .int i⟩
  | str x =>
    have h : (He.relB (.str x) u && (PyData.strOk x && decide (x.length ≤ sizeLine))) = true := h
    rw [Bool.and_eq_true, Bool.and_eq_true, decide_eq_true_eq] at h
    exact ⟨.str x, He.relB_ok h.1, fun _ _ => .str x h.2.1 h.2.2⟩
  | list _ => cases h
  | tuple _ => cases h
  | dict _ => cases h
theorem all2_ok {K : PySem.W.Frag} {f : Value → D → Bool} (hf : ∀ u d, f u d = true → ∃ v, RelV v u ∧ ∀ O H, Rp K O H v d) : ∀ {us : List Value} {ds : List D}, all2 f us ds = true → ∃ vs, Vals vs us ∧ ∀ O H, Rps K O H vs ds
  | [], [], _ => ⟨[], .nil, fun _ _ => .nil⟩
  | u :: us, d :: ds, h => by
    have h : (f u d && all2 f us ds) = true := h
    rw [Bool.and_eq_true] at h
    obtain ⟨v, a1, a2⟩ := hf u d h.1
    obtain ⟨vs, b1, b2⟩ := all2_ok hf h.2
    exact ⟨v :: vs, .cons a1 b1, fun O H => .cons (a2 O H) (b2 O H)⟩
  | [], _ :: _, h => by cases h
  | _ :: _, [], h => by cases h
theorem tupB_ok {K : PySem.W.Frag} {f : Value → D → Bool} (hf : ∀ u d, f u d = true → ∃ v, RelV v u ∧ ∀ O H, Rp K O H v d) {a : Addr} {ds : List D} (h : tupB f (K.lookup a) ds = true) : ∃ v, RelV v (.ref a) ∧ ∀ O H, Rp K O H v (.tuple ds) := by
  cases q : K.lookup a with
  | none => rw [q] at h; cases h
  | some o =>
    rw [q] at h
    obtain ⟨oc, od, dt, sl⟩ := o
    cases oc with
    | type c =>
      cases dt with
      | seq its m =>
        have h : (decide (c = "tuple") && (decide (its.size ≤ sizeLine) && all2 f its.toList ds)) = true := h
        rw [Bool.and_eq_true, Bool.and_eq_true, decide_eq_true_eq, decide_eq_true_eq] at h
        obtain ⟨rfl, h1, h2⟩ := h
        obtain ⟨vs, r1, r2⟩ := all2_ok hf h2
        refine ⟨.ref a, rfl, fun O H => .tup (.inr ⟨_, its, m, q, rfl, rfl, h1, r1⟩) ?_ (r2 O H)⟩
        rw [Vals.length r1]
        simpa using h1
      | _ => cases h
    | _ => cases h
theorem rpB_ok {K : PySem.W.Frag} : ∀ {n : Nat} (u : Value) (d : D), rpB K n u d = true → ∃ v, RelV v u ∧ ∀ O H, Rp K O H v d := by
  intro n
  induction n with
  | zero => intro u d h; exact atomB_ok h
  | succ n ih =>
    intro u d h
    by_cases c : ∃ a ds, u = .ref a ∧ d = .tuple ds
    · obtain ⟨a, ds, rfl, rfl⟩ := c
      exact tupB_ok ih h
    · have e : rpB K (n + 1) u d = atomB u d := by
        unfold rpB
        split
        · exact absurd ⟨_, _, rfl, rfl⟩ c
        · rfl
      rw [e] at h
      exact atomB_ok h
/-- the constants are these -/
def csB (K : PySem.W.Frag) (cs : List (Str × D)) : Bool := cs.all fun p => match PySem.W.nsIn K mainGlobals p.1 with
  | some (some u) => rpB K 5 u p.2
  | _ => false
theorem csB_ok {K : PySem.W.Frag} {h : Heap} {mg : Str → Option Value} (X : K.In h) (G : h.Ns mainGlobals mg) : ∀ {cs : List (Str × D)}, csB K cs = true → ∀ x d, cs.lookup x = some d → ∃ u v, mg x = some u ∧ RelV v u ∧ ∀ O H, Rp K O H v d
  | [], _, x, d, e => by cases e
  | (y, z) :: cs, h, x, d, e => by
    have h : ((match PySem.W.nsIn K mainGlobals y with
      | some (some u) => rpB K 5 u z
      | _ => false) && csB K cs) = true := h
    rw [Bool.and_eq_true] at h
    rw [List.lookup_cons] at e
    split at e
    · rename_i q
      have q : x = y := by simpa using q
      injection e with e
      subst q e
      have h1 := h.1
      split at h1
      · rename_i u hu
        obtain ⟨v, a1, a2⟩ := rpB_ok _ _ h1
        exact ⟨u, v, PySem.W.mg_of X G hu, a1, a2⟩
      · cases h1
    · exact csB_ok X G h.2 x d e
def esB (K : PySem.W.Frag) : List DictEntry → List (Str × D) → Bool
  | [], [] => true
  | e :: es, (k, d) :: kvs => (match e.key with
    | .str x _ => decide (x = k)
    | _ => false) && (rpB K 5 e.val d && esB K es kvs)
  | _, _ => false
theorem esB_ok {K : PySem.W.Frag} : ∀ {es : List DictEntry} {kvs : List (Str × D)}, esB K es kvs = true → ∀ z : Str,
    (∀ d, tabAt kvs z = some d → ∃ e, es.find? (fun e => e.key.isStr z) = some e ∧ rpB K 5 e.val d = true) ∧ (tabAt kvs z = none → es.find? (fun e => e.key.isStr z) = none ∧ es.any (·.refKey) = false)
  | [], [], _, z => ⟨fun d e => (by cases e), fun _ => ⟨rfl, rfl⟩⟩
  | [], _ :: _, h, _ => by simp [esB] at h
  | _ :: _, [], h, _ => by simp [esB] at h
  | e :: es, (k, d0) :: kvs, h, z => by
    have h : ((match e.key with
    | .str x _ => decide (x = k)
    | _ => false) && (rpB K 5 e.val d0 && esB K es kvs)) = true := h
    rw [Bool.and_eq_true, Bool.and_eq_true] at h
    obtain ⟨h1, h2, h3⟩ := h
    obtain ⟨i1, i2⟩ := esB_ok h3 z
    split at h1
    · rename_i x t q
      have q2 : x = k := by simpa using h1
      subst q2
      have rk : e.refKey = false := by unfold DictEntry.refKey; rw [q]
      have is : e.key.isStr z = (x == z) := by rw [q]; rfl
      by_cases c : x = z
      · subst c
        have t1 : tabAt ((x, d0) :: kvs) x = some d0 := by
          unfold tabAt; rw [List.find?_cons]; simp
        refine ⟨fun d hd => ?_, fun hd => by rw [t1] at hd; cases hd⟩
        rw [t1] at hd
        injection hd with hd
        subst hd
        exact ⟨e, by rw [List.find?_cons, is]; simp, h2⟩
      · have t1 : tabAt ((x, d0) :: kvs) z = tabAt kvs z := by
          unfold tabAt; rw [List.find?_cons]; simp [c]
        have f1 : (e :: es).find? (fun e => e.key.isStr z) = es.find? (fun e => e.key.isStr z) := by
          rw [List.find?_cons, is]
          have : (x == z) = false := by simpa using c
          rw [this]
        rw [t1, f1]
        exact ⟨i1, fun hd => ⟨(i2 hd).1, by rw [List.any_cons, rk, (i2 hd).2]; rfl⟩⟩
    · cases h1
def tabB (K : PySem.W.Frag) (T : Str) (kvs : List (Str × D)) : Bool := eqO' (PySem.W.nsIn K mainGlobals T) && (match K.lookup (He.ga K T) with
  | some ⟨_, _, .dict es _, _⟩ => esB K es.toList kvs
  | _ => false)
where eqO' : Option (Option Value) → Bool := fun o => He.eqO o (some (some (.ref (He.ga K T))))
theorem tab_is {K : PySem.W.Frag} {w : World} {h : Heap} {mg : Str → Option Value} (X : K.In h) (G : h.Ns mainGlobals mg) {T : Str} {kvs : List (Str × D)} {es : Array DictEntry} {n : Nat} (kd : KDict K w (He.ga K T) es n) (c : tabB K T kvs = true) : TabIs K w mg T kvs := by
  unfold tabB at c
  rw [Bool.and_eq_true] at c
  obtain ⟨c1, c2⟩ := c
  have lk := kd.at_
  rw [lk] at c2
  have c2 : esB K es.toList kvs = true := c2
  refine ⟨He.ga K T, es, n, PySem.W.mg_of X G (He.eqO_ok c1), kd, fun z => ?_⟩
  obtain ⟨i1, i2⟩ := esB_ok c2 z
  have nn : ∀ r, es.toList.find? (fun e => e.key.isStr z) = r → PySem.W.nsIn K (He.ga K T) z = (match r with
      | some e => some (some e.val)
      | none => if es.toList.any (·.refKey) then none else some none) := by
    rintro r rfl
    unfold PySem.W.nsIn
    rw [lk]
    rfl
  refine ⟨fun d hd => ?_, fun hd => ?_⟩
  · obtain ⟨e, e1, e2⟩ := i1 d hd
    obtain ⟨v, a1, a2⟩ := rpB_ok _ _ e2
    exact ⟨e.val, v, nn _ e1, a1, a2⟩
  · obtain ⟨e1, e2⟩ := i2 hd
    rw [nn _ e1, e2]; rfl
end Ws

set_option Elab.async false
set_option linter.all false
set_option maxRecDepth 100000
set_option maxHeartbeats 4000000
/-! Sim23: a law from its rows -/
namespace Ws
open PySem PySem.Spec PyProof.Rows L2

/-- a def of the module: its name, its text, its slots, its parameters, what it compiles to -/
structure DRow where
  x : Str
  st : Stmt
  N : List Str
  ps : List Str
  b : List S
def DRow.dd (r : DRow) : He.DefD := ⟨(r.x, none), r.x, r.x, defArgs r.st, defBody r.st, defScope r.st, [], []⟩
def DRow.fn (r : DRow) : Fn := ⟨r.ps.length, r.b, r.N.length⟩
structure DRowOk (c0 : Cfg) (r : DRow) : Prop where
  sc : FnScope r.N r.ps (defScope r.st)
  bs : ∀ (kV doc pm : Value) (an : Option Addr) (cdv ct : Value) (us : List Value), us.length = r.ps.length → bindArgs (PySem.W.fnOf r.x r.x (defArgs r.st) (defBody r.st) (defScope r.st) .none kV doc pm an cdv ct) ⟨us, []⟩ = pure (r.ps.zip us)
  cb : compSs { c0 with N := r.N } (defScope r.st) 200 (defBody r.st) = some r.b
theorem fact_of {fa : List He.Fa} {fn : List He.DefD} {K : PySem.W.Frag} (c : He.SaysD fa fn K) {f : He.Fa} (h : f ∈ fa) : f.ok K = true := by
  obtain ⟨i, hi⟩ := List.getElem?_of_mem h
  exact c.fact i hi
theorem row_def {fa : List He.Fa} {K : PySem.W.Frag} {rows : List DRow} (c : He.SaysD fa (rows.map DRow.dd) K) {i : Nat} {r : DRow} (hi : rows[i]? = some r) : ∃ fd, FunD K r.x r.x (defArgs r.st) (defBody r.st) (defScope r.st) [] [] (He.ga K r.x) fd := by
  obtain ⟨fd, F⟩ := c.def_ i (d := r.dd) (by rw [List.getElem?_map, hi]; rfl)
  exact ⟨fd, F⟩
theorem defs_of {P : Program} {w : World} {K : PySem.W.Frag} {h : Heap} {mg : Str → Option Value} {fa : List He.Fa} {rows : List DRow} {c0 : Cfg} (X : K.In h) (G : h.Ns mainGlobals mg) (c : He.SaysD fa (rows.map DRow.dd) K)
    (hfns : c0.fns = rows.map (·.x)) (ok : ∀ r ∈ rows, DRowOk c0 r) (hglo : ∀ r ∈ rows, He.Fa.glo r.x ∈ fa) (hbl : ∀ x ∈ c0.bl, He.Fa.free x ∈ fa) (hcs : csB K c0.cs = true) (hgcd : c0.gcd = true → mg "gcd" = some (.builtin "math.gcd"))
    (htb : ∀ T kvs, c0.tabs.lookup T = some kvs → TabIs K w mg T kvs) : Defs P w K mg c0 (rows.map DRow.fn) := by
  refine ⟨fun i x hi => ?_, csB_ok X G hcs, fun x hx => He.free_ok X G (fact_of c (hbl x hx)), hgcd, htb⟩
  rw [hfns, List.getElem?_map] at hi
  cases e : rows[i]? with
  | none => rw [e] at hi; cases hi
  | some r =>
    rw [e] at hi
    have hi : r.x = x := by injection hi
    subst hi
    have hr := List.mem_of_getElem? e
    obtain ⟨fd, F⟩ := row_def c e
    exact ⟨_, fd, r.N, r.ps, r.x, _, _, _, r.b, 200, He.glo_ok X G (fact_of c (hglo r hr)), F, (ok r hr).sc, F.bindsN (ok r hr).bs, (ok r hr).cb, by rw [List.getElem?_map, e]; rfl⟩
theorem lk_one {T a : Str} {v kvs : List (Str × D)} (h : List.lookup T [(a, v)] = some kvs) : T = a ∧ v = kvs := by
  rw [List.lookup_cons] at h
  split at h
  · rename_i q
    injection h with h
    exact ⟨by simpa using q, h⟩
  · cases h
/-- the law's def keeps what the pure language says -/
theorem law_of {P : Program} {w : World} {K : PySem.W.Frag} {h : Heap} {mg : Str → Option Value} {fa : List He.Fa} {rows : List DRow} {c0 : Cfg} {fs : List Fn} {i : Nat} {r : DRow} {k : Nat} {p : Str} (X : K.In h) (G : h.Ns mainGlobals mg) (c : He.SaysD fa (rows.map DRow.dd) K)
    (hfns : c0.fns = rows.map (·.x)) (ok : ∀ r ∈ rows, DRowOk c0 r) (hglo : ∀ r ∈ rows, He.Fa.glo r.x ∈ fa) (hbl : ∀ x ∈ c0.bl, He.Fa.free x ∈ fa) (hcs : csB K c0.cs = true) (hgcd : c0.gcd = true → mg "gcd" = some (.builtin "math.gcd"))
    (htb : ∀ T kvs, c0.tabs.lookup T = some kvs → TabIs K w mg T kvs) (hfs : fs = rows.map DRow.fn) (hi : rows[i]? = some r) (hp : r.ps = [p])
    (law : ∀ ns : List Int, ns.length ≤ 63 → call fs (k + 1) i [.list (ns.map .int)] = .ok (.bool true)) :
    ∃ (fd : FuncData) (sp : Sp), mg r.x = some (.ref (He.ga K r.x)) ∧ (∀ (s : Shared) (u : Value), BindsTo s fd ⟨[u], []⟩ [(p, u)]) ∧
      (∀ (H : Hp) (a : Addr) (ns : List Int), ns.length ≤ 63 → Only H → SqL K H a (ns.map V.int) → sp [.ref a] H (fun v _ => v = .bl true) fun _ _ _ => False) ∧
      ∀ base : Heap, K.In base → base.Ns mainGlobals mg → FnOk P w K mg base (CXa P) (k + 1) (He.ga K r.x) fd [p] sp := by
  subst hfs
  have hr := List.mem_of_getElem? hi
  obtain ⟨fd, F⟩ := row_def c hi
  have D := defs_of (P := P) (w := w) X G c hfns ok hglo hbl hcs hgcd htb
  refine ⟨fd, spD K (call (rows.map DRow.fn) (k + 1)) 0 i 1, He.glo_ok X G (fact_of c (hglo r hr)), fun s u => ?_, fun H a ns hn _ hS => law_sp hn (by decide) hS (law ns hn), fun base _ _ => ?_⟩
  · have b := F.bindsA (ps := r.ps) (ok r hr).bs s [u] (by rw [hp]; rfl)
    rw [hp] at b
    exact b
  · have := fn_top (base := base) (C := 0) (k := k) (i := i) D F (ok r hr).sc (ok r hr).cb (by rw [List.getElem?_map, hi]; rfl)
    rw [hp] at this
    exact FnOk.any this
end Ws

set_option Elab.async false
set_option linter.all false
set_option maxRecDepth 100000
set_option maxHeartbeats 400000
/-! Sim24: more rows for the pure language -/
namespace Ws
open PySem
theorem exFor_foldN {α β : Type} {enc : α → D} {step : D → Env → Rs (Fl × Env)} {f : β → α → β} {m : β → Nat} {N : Nat} {I : β → Env → Prop} (hm : ∀ b a, m (f b a) ≤ m b + 1) : ∀ {l : List α} {b : β} {ε : Env}, m b + l.length ≤ N → I b ε → (∀ a ∈ l, ∀ b ε, m b < N → I b ε → ∃ ε', I (f b a) ε' ∧ step (enc a) ε = .ok (.nx, ε')) →
    ∃ ε', I (l.foldl f b) ε' ∧ exFor step (l.map enc) ε = .ok (.nx, ε')
  | [], b, ε, _, hi, _ => ⟨ε, hi, rfl⟩
  | a :: l, b, ε, hN, hi, h => by
    rw [List.length_cons] at hN
    obtain ⟨ε1, i1, e1⟩ := h a List.mem_cons_self b ε (by omega) hi
    have := hm b a
    obtain ⟨ε2, i2, e2⟩ := exFor_foldN hm (l := l) (b := f b a) (by omega) i1 fun c hc => h c (List.mem_cons_of_mem _ hc)
    refine ⟨ε2, i2, ?_⟩
    rw [List.map_cons, exFor, e1]
    exact e2
theorem exFor_all {α : Type} {enc : α → D} {step : D → Env → Rs (Fl × Env)} {I : Env → Prop} {l : List α} {ε : Env} (hi : I ε) (h : ∀ a ∈ l, ∀ ε, I ε → ∃ ε', I ε' ∧ step (enc a) ε = .ok (.nx, ε')) :
    ∃ ε', I ε' ∧ exFor step (l.map enc) ε = .ok (.nx, ε') := by
  obtain ⟨ε', h1, h2⟩ := exFor_fold (f := fun (_ : Unit) _ => ()) (I := fun _ ε => I ε) (b := ()) hi fun a ha _ ε i => h a ha ε i
  exact ⟨ε', h1, h2⟩
theorem eqD_bool (a b : Bool) : cmpD .eq (.bool a) (.bool b) = .ok (.bool (decide (a = b))) := by cases a <;> cases b <;> rfl
theorem flat_nil {α β : Type} (l : List α) : l.flatMap (fun _ => ([] : List β)) = [] := by
  induction l with
  | nil => rfl
  | cons a l ih => rw [List.flatMap_cons, ih]; rfl
@[simp] theorem is_none (d : D) : cmpD .is_ d .none = .ok (.bool (isNone d)) := rfl
theorem isn_none (d : D) : cmpD .isn d .none = .ok (.bool (!isNone d)) := rfl
def sm : Nat → D → Bool
  | _, .none => true
  | _, .bool _ => true
  | _, .int _ => true
  | _, .str _ => true
  | n + 1, .tuple xs => decide (xs.length ≤ 1000) && xs.all (sm n)
  | _, _ => false
theorem foldl_len {α : Type} : ∀ (l : List α) (n : Nat), l.foldl (fun m _ => m + 1) n = n + l.length
  | [], n => rfl
  | a :: l, n => by rw [List.foldl_cons, foldl_len l, List.length_cons]; omega
theorem ixD_last {α : Type} (xs : List α) (x : α) : ixD (xs ++ [x]) (-1) = some x := by
  unfold ixD
  rw [if_neg (by omega), if_pos (by rw [List.length_append, List.length_singleton]; omega)]
  rw [show ((-1 : Int) + ((xs ++ [x]).length : Nat)).toNat = xs.length by rw [List.length_append, List.length_singleton]; omega]
  simp
theorem idx_last (xs : List D) (x : D) : idxD (.list (xs ++ [x])) (.int (-1)) = .ok x := by
  show Rs.of (ixD _ _) = _
  rw [ixD_last]; rfl
theorem lim_mono : ∀ (n : Nat) (d : D), lim n d = true → ∀ m, n ≤ m → lim m d = true
  | n, .none, _, m, _ => lim_none m
  | n, .bool b, _, m, _ => lim_bool m b
  | n, .int b, _, m, _ => lim_int m b
  | n, .str b, _, m, _ => lim_str m b
  | 0, .list _, h, _, _ => by simp [lim] at h
  | 0, .tuple _, h, _, _ => by simp [lim] at h
  | 0, .dict _, h, _, _ => by simp [lim] at h
  | n + 1, .dict _, h, _, _ => by simp [lim] at h
  | n + 1, .list xs, h, m + 1, hm => by
    have h : xs.all (lim n) = true := by simpa [lim] using h
    show lim (m + 1) (.list xs) = true
    have : xs.all (lim m) = true := List.all_eq_true.mpr fun x hx => lim_mono n x (List.all_eq_true.mp h x hx) m (by omega)
    simpa [lim] using this
  | n + 1, .tuple xs, h, m + 1, hm => by
    have h : xs.all (lim n) = true := by simpa [lim] using h
    show lim (m + 1) (.tuple xs) = true
    have : xs.all (lim m) = true := List.all_eq_true.mpr fun x hx => lim_mono n x (List.all_eq_true.mp h x hx) m (by omega)
    simpa [lim] using this
  | n + 1, .list _, _, 0, hm => by omega
  | n + 1, .tuple _, _, 0, hm => by omega
theorem cmp_ne_nil : cmpD .ne (.list []) (.list []) = .ok (.bool false) := rfl
theorem insD_map {α β : Type} (f : α → β) (le : β → β → Bool) (x : α) : ∀ l : List α, insD le (f x) (l.map f) = (insD (fun a b => le (f a) (f b)) x l).map f
  | [] => rfl
  | y :: ys => by
    show (if le (f x) (f y) then f x :: f y :: ys.map f else f y :: insD le (f x) (ys.map f)) = _
    rw [insD_map f le x ys]
    show _ = (if le (f x) (f y) then x :: y :: ys else y :: insD (fun a b => le (f a) (f b)) x ys).map f
    split <;> rfl
theorem sortD_map {α β : Type} (f : α → β) (le : β → β → Bool) : ∀ l : List α, sortD le (l.map f) = (sortD (fun a b => le (f a) (f b)) l).map f
  | [] => rfl
  | x :: xs => by
    show insD le (f x) (sortD le (xs.map f)) = (insD (fun a b => le (f a) (f b)) x (sortD (fun a b => le (f a) (f b)) xs)).map f
    rw [sortD_map f le xs, insD_map]
theorem insD_mem {α : Type} {le : α → α → Bool} {x y : α} : ∀ {l : List α}, y ∈ insD le x l → y = x ∨ y ∈ l
  | [], h => by
    have h : y ∈ [x] := h
    exact .inl (by simpa using h)
  | z :: zs, h => by
    have h : y ∈ (if le x z then x :: z :: zs else z :: insD le x zs) := h
    split at h
    · exact List.mem_cons.mp h
    · rcases List.mem_cons.mp h with h | h
      · exact .inr (h ▸ List.mem_cons_self)
      · rcases insD_mem h with h | h
        · exact .inl h
        · exact .inr (List.mem_cons_of_mem _ h)
theorem sortD_mem {α : Type} {le : α → α → Bool} {y : α} : ∀ {l : List α}, y ∈ sortD le l → y ∈ l
  | [], h => h
  | x :: xs, h => by
    rcases insD_mem (l := sortD le xs) h with h | h
    · exact h ▸ List.mem_cons_self
    · exact List.mem_cons_of_mem _ (sortD_mem h)
theorem insD_ne {α : Type} {le : α → α → Bool} {x : α} : ∀ {l : List α}, insD le x l ≠ []
  | [], h => by cases h
  | z :: zs, h => by
    have h : (if le x z then x :: z :: zs else z :: insD le x zs) = [] := h
    split at h <;> cases h
theorem insD_len {α : Type} {le : α → α → Bool} {x : α} : ∀ {l : List α}, (insD le x l).length = l.length + 1
  | [] => rfl
  | z :: zs => by
    show (if le x z then x :: z :: zs else z :: insD le x zs).length = _
    split
    · rfl
    · rw [List.length_cons, insD_len]; rfl
theorem sortD_len {α : Type} {le : α → α → Bool} : ∀ {l : List α}, (sortD le l).length = l.length
  | [] => rfl
  | x :: xs => by
    show (insD le x (sortD le xs)).length = _
    rw [insD_len, sortD_len]; rfl
theorem flat_filter {α β : Type} (p : α → Bool) (f : α → β) : ∀ l : List α, l.flatMap (fun a => if p a = true then [f a] else []) = (l.filter p).map f
  | [] => rfl
  | a :: l => by
    rw [List.flatMap_cons, flat_filter p f l, List.filter_cons]
    cases p a <;> rfl
theorem ne_str (a b : Str) : cmpD .ne (.str a) (.str b) = .ok (.bool (!decide (a = b))) := by
  show notD (cmpD .eq (.str a) (.str b)) = _
  rw [eqD_str]; rfl
theorem m1 (a c : Int) (h : 0 < c) : binD .mod (.int a) (.int c) = .ok (.int (a % c)) := if_pos h
theorem d1 (a c : Int) (h : 0 < c) (h' : c < 1073741824) : binD .fdiv (.int a) (.int c) = .ok (.int (a / c)) := if_pos ⟨h, h'⟩
theorem mu (a c : Int) (h : mulOk a c = true) : binD .mul (.int a) (.int c) = .ok (.int (a * c)) := if_pos h
theorem dnum_nd : ∀ {l : List (List Int)}, l.Nodup → dnum l = l.length
  | [], _ => rfl
  | x :: xs, h => by
    rw [List.nodup_cons] at h
    unfold dnum
    rw [if_neg, dnum_nd h.2]
    · rfl
    · intro c
      obtain ⟨y, hy, e⟩ := List.any_eq_true.mp c
      have e : y = x := by simpa using e
      exact h.1 (e ▸ hy)
theorem foldl_snoc {α : Type} : ∀ (l b : List α), l.foldl (fun d a => d ++ [a]) b = b ++ l
  | [], b => by simp
  | a :: l, b => by rw [List.foldl_cons, foldl_snoc l]; simp
theorem ne_self_int (a : Int) : cmpD .ne (.int a) (.int a) = .ok (.bool false) := by
  show notD (cmpD .eq (.int a) (.int a)) = _
  rw [eqD_int', decide_eq_true rfl]; rfl
theorem ne_self_none : cmpD .ne .none .none = .ok (.bool false) := rfl
theorem exSs_nx {φ : Nat → List D → Rs D} {s : S} {ss : List S} {ε ε' : Env} (h : exS φ s ε = .ok (.nx, ε')) : exSs φ (s :: ss) ε = exSs φ ss ε' := by
  simp only [exSs, h, Rs.bnd_ok]
theorem frzE_no {ε : Env} : ∀ {is : List Nat}, (∀ i ∈ is, ∀ d, ε[i]? ≠ some (.o d)) → frzE ε is = ε
  | [], _ => rfl
  | i :: is, h => by
    have h1 := h i List.mem_cons_self
    unfold frzE
    cases e : ε[i]? with
    | none => exact frzE_no fun j hj => h j (List.mem_cons_of_mem _ hj)
    | some s => cases s with
      | o d => exact absurd e (h1 d)
      | u => exact frzE_no fun j hj => h j (List.mem_cons_of_mem _ hj)
      | f d => exact frzE_no fun j hj => h j (List.mem_cons_of_mem _ hj)
theorem eq_nil {xs : List D} (h : xs.all (lim 39) = true) : cmpD .eq (.list xs) (.list []) = .ok (.bool xs.isEmpty) := by
  have l1 : lim 40 (.list xs) = true := by simpa [lim] using h
  show eqD _ _ = _
  unfold eqD
  rw [l1]
  cases xs <;> rfl
theorem ne_nil {xs : List D} (h : xs.all (lim 39) = true) : cmpD .ne (.list xs) (.list []) = .ok (.bool (!xs.isEmpty)) := by
  show notD (cmpD .eq _ _) = _
  rw [eq_nil h]; rfl
theorem sq_comm (a b : Int) : (a - b) ^ 2 = (b - a) ^ 2 := by
  rw [show a - b = -(b - a) by omega, Int.pow_succ, Int.pow_succ, Int.pow_zero, Int.pow_succ, Int.pow_succ, Int.pow_zero]
  simp only [Int.one_mul, Int.neg_mul_neg]
theorem p2 (i : Int) (h : i.natAbs < 2 ^ 64) : binD .pow (.int i) (.int 2) = .ok (.int (i ^ 2)) := by
  show (if 0 ≤ (2 : Int) ∧ (2 : Int) ≤ 1000000 ∧ i.natAbs < 2 ^ 64 then _ else _) = _
  rw [if_pos ⟨by decide, by decide, h⟩]; rfl
theorem isn_tt : cmpD .isn (.bool true) (.bool true) = .ok (.bool false) := rfl
theorem qa (i j : Int) : binD .add (.int i) (.int j) = .ok (.int (i + j)) := rfl
theorem qs (i j : Int) : binD .sub (.int i) (.int j) = .ok (.int (i - j)) := rfl
theorem mxb (i j : Int) : biD .max [.int i, .int j] = .ok (.int (if j > i then j else i)) := rfl
theorem mib (i j : Int) : biD .min [.int i, .int j] = .ok (.int (if j < i then j else i)) := rfl
theorem bt (xs : List D) : biD .tuple [.list xs] = .ok (.tuple xs) := rfl
theorem flat_filter' {α β : Type} (p : α → Bool) (f : α → β) (l : List α) (g : α → List β) (h : ∀ a ∈ l, g a = if p a = true then [f a] else []) : l.flatMap g = (l.filter p).map f := by
  rw [← flat_filter]
  induction l with
  | nil => rfl
  | cons a l ih =>
    rw [List.flatMap_cons, List.flatMap_cons, h a List.mem_cons_self, ih fun b hb => h b (List.mem_cons_of_mem _ hb)]
theorem noMut_c (xs : List D) : noMut (.tuple xs) = noMuts xs := rfl
theorem rng_len {n : Nat} (h : n ≤ 1000000) : rngD 0 (n : Int) = .ok ((List.range n).map fun i => .int (i : Nat)) := by
  rw [rngD_ok (n := n) (by omega) (by omega) (by omega) (by show n ≤ 16777216; omega)]
  simp
theorem nms_map {f : D → D} : ∀ {xs : List D}, (∀ x ∈ xs, noMut (f x) = true) → noMuts (xs.map f) = true
  | [], _ => rfl
  | x :: xs, h => by
    show (noMut (f x) && noMuts (xs.map f)) = true
    rw [h x List.mem_cons_self, nms_map fun y hy => h y (List.mem_cons_of_mem _ hy)]; rfl
theorem flat_len {α β : Type} {f : α → List β} {n : Nat} : ∀ {l : List α}, (∀ a ∈ l, (f a).length ≤ n) → (l.flatMap f).length ≤ l.length * n
  | [], _ => by simp
  | a :: l, h => by
    rw [List.flatMap_cons, List.length_append, List.length_cons]
    have h1 := h a List.mem_cons_self
    have h2 := flat_len (l := l) fun b hb => h b (List.mem_cons_of_mem _ hb)
    rw [Nat.succ_mul]; omega
mutual
/-- lists made tuples -/
def tpl : D → D
  | .list xs => .tuple (tpls xs)
  | .tuple xs => .tuple (tpls xs)
  | d => d
def tpls : List D → List D
  | [] => []
  | x :: xs => tpl x :: tpls xs
end
theorem tpls_map : ∀ xs : List D, tpls xs = xs.map tpl
  | [] => rfl
  | x :: xs => by rw [tpls, tpls_map xs]; rfl
theorem tpl_nm : ∀ (n : Nat) (d : D), lim n d = true → noMut (tpl d) = true
  | n, .none, _ => rfl
  | n, .bool _, _ => rfl
  | n, .int _, _ => rfl
  | n, .str _, _ => rfl
  | 0, .list _, h => by simp [lim] at h
  | 0, .tuple _, h => by simp [lim] at h
  | 0, .dict _, h => by simp [lim] at h
  | n + 1, .dict _, h => by simp [lim] at h
  | n + 1, .list xs, h => by
    have h : xs.all (lim n) = true := by simpa [lim] using h
    show noMuts (tpls xs) = true
    rw [tpls_map]
    exact nms_map fun x hx => tpl_nm n x (List.all_eq_true.mp h x hx)
  | n + 1, .tuple xs, h => by
    have h : xs.all (lim n) = true := by simpa [lim] using h
    show noMuts (tpls xs) = true
    rw [tpls_map]
    exact nms_map fun x hx => tpl_nm n x (List.all_eq_true.mp h x hx)
def isSq : D → Bool
  | .list _ => true
  | .tuple _ => true
  | _ => false
mutual
/-- tuples made lists -/
def ltd : D → D
  | .tuple xs => .list (ltds xs)
  | d => d
def ltds : List D → List D
  | [] => []
  | x :: xs => ltd x :: ltds xs
end
theorem ltds_map : ∀ xs : List D, ltds xs = xs.map ltd
  | [] => rfl
  | x :: xs => by rw [ltds, ltds_map xs]; rfl
end Ws

set_option maxRecDepth 100000
namespace Ws
open PySem
namespace K22
abbrev t (x : String) : Str := Str.ofString x
def b_need : List S := [(.iff (.not_ (.wv 0)) [.stuck] [])]
def f_need : Fn := ⟨2, b_need, 2⟩
def b_is_integer : List S := [(.ret (.and_ (.isi (.wv 0) [.int]) (.not_ (.isi (.wv 0) [.bool]))))]
def f_is_integer : Fn := ⟨1, b_is_integer, 1⟩
def b_is_between : List S := [(.ret (.and_ (.nomut (.call 1 [(.var 0)])) (.chain .le .le (.wv 1) (.wv 0) (.wv 2))))]
def f_is_between : Fn := ⟨3, b_is_between, 3⟩
def b_is_sequence : List S := [(.ret (.isi (.wv 0) [.list, .tuple]))]
def f_is_sequence : Fn := ⟨1, b_is_sequence, 1⟩
def b_is_row : List S := [(.ret (.and_ (.nomut (.call 3 [(.var 0)])) (.chain .le .le (.wv 1) (.bi .len [(.wv 0)]) (.wv 2))))]
def f_is_row : Fn := ⟨3, b_is_row, 3⟩
def b_tupled : List S := [(.iff (.nomut (.call 3 [(.var 0)])) [(.ret (.bi .tuple [(.lc [1] (.nomut (.call 5 [(.var 1)])) (.nm 1) (.seq (.wv 0)) .none)]))] []), (.ret (.var 0))]
def f_tupled : Fn := ⟨1, b_tupled, 2⟩
def b_same : List S := [(.iff (.isi (.wv 1) [.tuple]) [(.iff (.not_ (.nomut (.call 4 [(.var 0), (.bi .len [(.wv 1)]), (.bi .len [(.wv 1)])]))) [(.ret (.lit (.bool false)))] []), (.ret (.bi .all [(.lc [2] (.nomut (.call 6 [(.idx (.wv 0) (.wv 2)), (.idx (.wv 1) (.wv 2))])) (.nm 2) (.rng1 (.bi .len [(.wv 1)])) .none)]))] []), (.iff (.cmp .is_ (.wv 1) (.lit .none)) [(.ret (.cmp .is_ (.wv 0) (.lit .none)))] []), (.iff (.isi (.wv 1) [.bool]) [(.ret (.and_ (.isi (.wv 0) [.bool]) (.cmp .eq (.wv 0) (.wv 1))))] []), (.iff (.isi (.wv 1) [.int]) [(.ret (.and_ (.nomut (.call 1 [(.var 0)])) (.cmp .eq (.wv 0) (.wv 1))))] []), (.ret (.and_ (.isi (.wv 0) [.str]) (.cmp .eq (.wv 0) (.wv 1))))]
def f_same : Fn := ⟨2, b_same, 3⟩
def b_ratio : List S := [(.iff (.cmp .lt (.wv 1) (.lit (.int (0)))) [(.par 0 1 (.neg (.wv 0)) (.neg (.wv 1)) [])] []), (.asg (.nm 2) (.bi .gcd [(.wv 0), (.wv 1)]) true []), (.ret (.tup [(.bin .fdiv (.wv 0) (.wv 2)), (.bin .fdiv (.wv 1) (.wv 2))]))]
def f_ratio : Fn := ⟨2, b_ratio, 3⟩
def b_less : List S := [(.ret (.cmp .lt (.bin .mul (.idx (.wv 0) (.lit (.int (0)))) (.idx (.wv 1) (.lit (.int (1))))) (.bin .mul (.idx (.wv 1) (.lit (.int (0)))) (.idx (.wv 0) (.lit (.int (1)))))))]
def f_less : Fn := ⟨2, b_less, 2⟩
def b_is_curve : List S := [(.iff (.not_ (.nomut (.call 4 [(.var 0), (.lit (.int (1))), (.gl (.int (16)))]))) [(.ret (.lit (.bool false)))] []), (.ret (.bi .all [(.lc [1] (.nomut (.call 2 [(.var 1), (.lit (.int (0))), (.gl (.int (999)))])) (.nm 1) (.seq (.wv 0)) .none)]))]
def f_is_curve : Fn := ⟨1, b_is_curve, 2⟩
def b_pair_of : List S := [(.drop (.nomut (.call 0 [(.nomut (.call 9 [(.var 0)])), (.lit (.int (1)))])) []), (.drop (.nomut (.call 0 [(.nomut (.call 9 [(.var 1)])), (.lit (.int (2)))])) []), (.ret (.tup [(.nomut (.call 5 [(.var 0)])), (.nomut (.call 5 [(.var 1)]))]))]
def f_pair_of : Fn := ⟨2, b_pair_of, 2⟩
def b_gap : List S := [(.ret (.bi .abs [(.bin .sub (.idx (.wv 0) (.wv 2)) (.idx (.wv 1) (.wv 3)))]))]
def f_gap : Fn := ⟨4, b_gap, 4⟩
def b_middle_reading : List S := [(.ret (.idx (.bi .sorted [(.wv 0)]) (.bin .fdiv (.bin .sub (.bi .len [(.wv 0)]) (.lit (.int (1)))) (.lit (.int (2))))))]
def f_middle_reading : Fn := ⟨1, b_middle_reading, 1⟩
def b_roughness : List S := [(.asg (.nm 3) (.nomut (.call 12 [(.sli (.wv 0) (.some (.wv 1)) (.some (.wv 2)))])) false []), (.ret (.bi .sum [(.lc [4] (.bi .abs [(.bin .sub (.wv 4) (.wv 3))]) (.nm 4) (.seq (.sli (.wv 0) (.some (.wv 1)) (.some (.wv 2)))) .none)]))]
def f_roughness : Fn := ⟨3, b_roughness, 5⟩
def b_least_rough_f0 : List S := [(.iff (.cmp .isn (.idx (.idx (.wv 3) (.bin .sub (.wv 4) (.lit (.int (1))))) (.wv 8)) (.lit .none)) [(.app 7 (.bin .add (.nomut (.call 13 [(.var 0), (.var 6), (.var 8)])) (.idx (.idx (.wv 3) (.bin .sub (.wv 4) (.lit (.int (1))))) (.wv 8))) [])] [])]
def b_least_rough_f1 : List S := [(.asg (.nm 7) (.lst []) true []), (.for_ (.nm 8) (.rng2 (.bin .add (.wv 6) (.lit (.int (1)))) (.bin .add (.wv 2) (.lit (.int (1))))) b_least_rough_f0 []), (.app 5 (.bi .mind [(.wv 7), (.lit .none)]) [])]
def b_least_rough_f2 : List S := [(.asg (.nm 5) (.lst []) true []), (.for_ (.nm 6) (.rng1 (.bin .add (.wv 2) (.lit (.int (1))))) b_least_rough_f1 []), (.app 3 (.var 5) [5])]
def b_least_rough : List S := [(.asg (.nm 2) (.bi .len [(.wv 0)]) true []), (.asg (.nm 3) (.lst [(.bin .add (.lc [6] (.lit .none) (.nm 6) (.rng1 (.wv 2)) .none) (.lst [(.lit (.int (0)))]))]) true []), (.for_ (.nm 4) (.rng2 (.lit (.int (1))) (.bin .add (.wv 1) (.lit (.int (1))))) b_least_rough_f2 []), (.ret (.var 3))]
def f_least_rough : Fn := ⟨2, b_least_rough, 9⟩
def b_first_cut_f0 : List S := [(.asg (.nm 6) (.bin .add (.wv 4) (.lit (.int (1)))) true []), (.whil (.not_ (.nomut (.call 16 [(.var 0), (.var 2), (.var 5), (.var 4), (.var 6)]))) [(.aug 6 .add (.lit (.int (1))) [])]), (.app 3 (.var 6) [6]), (.asg (.nm 4) (.var 6) false [6])]
def b_first_cut : List S := [(.asg (.nm 2) (.call 14 [(.var 0), (.var 1)]) false [0, 1]), (.asg (.nm 3) (.lst []) true []), (.asg (.nm 4) (.lit (.int (0))) false []), (.for_ (.nm 5) (.rng3 (.bin .sub (.wv 1) (.lit (.int (1)))) (.lit (.int (0))) (.neg (.lit (.int (1))))) b_first_cut_f0 []), (.ret (.bi .tuple [(.wv 3)]))]
def f_first_cut : Fn := ⟨2, b_first_cut, 7⟩
def b_is_least_step : List S := [(.iff (.cmp .is_ (.idx (.idx (.wv 1) (.wv 2)) (.wv 4)) (.lit .none)) [(.ret (.lit (.bool false)))] []), (.ret (.cmp .eq (.bin .add (.nomut (.call 13 [(.var 0), (.var 3), (.var 4)])) (.idx (.idx (.wv 1) (.wv 2)) (.wv 4))) (.idx (.idx (.wv 1) (.bin .add (.wv 2) (.lit (.int (1))))) (.wv 3))))]
def f_is_least_step : Fn := ⟨5, b_is_least_step, 5⟩
def b_stretches : List S := [(.drop (.nomut (.call 0 [(.nomut (.call 9 [(.var 0)])), (.lit (.int (1)))])) []), (.drop (.nomut (.call 0 [(.nomut (.call 2 [(.var 1), (.lit (.int (1))), (.gl (.int (16)))])), (.lit (.int (2)))])) []), (.asg (.nm 0) (.nomut (.call 5 [(.var 0)])) false []), (.iff (.cmp .gt (.wv 1) (.bi .len [(.wv 0)])) [(.ret (.lit .none))] []), (.ret (.nomut (.call 15 [(.var 0), (.var 1)])))]
def f_stretches : Fn := ⟨2, b_stretches, 2⟩
def b_best_cut_f0 : List S := [(.iff (.cmp .lt (.bin .add (.idx (.idx (.wv 2) (.wv 4)) (.lit (.int (0)))) (.bin .mul (.wv 1) (.wv 4))) (.bin .add (.idx (.idx (.wv 2) (.wv 3)) (.lit (.int (0)))) (.bin .mul (.wv 1) (.wv 3)))) [(.asg (.nm 3) (.var 4) false [4])] [])]
def b_best_cut : List S := [(.drop (.nomut (.call 0 [(.nomut (.call 9 [(.var 0)])), (.lit (.int (1)))])) []), (.drop (.nomut (.call 0 [(.nomut (.call 2 [(.var 1), (.lit (.int (0))), (.gl (.int (9999)))])), (.lit (.int (2)))])) []), (.asg (.nm 0) (.nomut (.call 5 [(.var 0)])) false []), (.asg (.nm 2) (.call 14 [(.var 0), (.bi .len [(.wv 0)])]) false [0]), (.asg (.nm 3) (.lit (.int (1))) false []), (.for_ (.nm 4) (.rng2 (.lit (.int (1))) (.bin .add (.bi .len [(.wv 0)]) (.lit (.int (1))))) b_best_cut_f0 []), (.ret (.nomut (.call 15 [(.var 0), (.var 3)])))]
def f_best_cut : Fn := ⟨2, b_best_cut, 5⟩
def b_floor_of_f0 : List S := [(.app 4 (.bin .add (.bin .add (.wv 1) (.nomut (.call 13 [(.var 0), (.var 3), (.var 5)]))) (.idx (.wv 2) (.bin .sub (.bin .sub (.wv 5) (.wv 3)) (.lit (.int (1)))))) [])]
def b_floor_of_f1 : List S := [(.asg (.nm 4) (.lst []) true []), (.for_ (.nm 5) (.rng2 (.bin .add (.wv 3) (.lit (.int (1)))) (.bin .add (.bi .len [(.wv 0)]) (.lit (.int (1))))) b_floor_of_f0 []), (.asg (.nm 2) (.bin .add (.lst [(.bi .min [(.wv 4)])]) (.wv 2)) true [])]
def b_floor_of : List S := [(.asg (.nm 2) (.lst [(.lit (.int (0)))]) true []), (.for_ (.nm 3) (.rng3 (.bin .sub (.bi .len [(.wv 0)]) (.lit (.int (1)))) (.neg (.lit (.int (1)))) (.neg (.lit (.int (1))))) b_floor_of_f1 []), (.ret (.bi .tuple [(.wv 2)]))]
def f_floor_of : Fn := ⟨2, b_floor_of, 6⟩
def b_floor : List S := [(.drop (.nomut (.call 0 [(.nomut (.call 9 [(.var 0)])), (.lit (.int (1)))])) []), (.drop (.nomut (.call 0 [(.nomut (.call 2 [(.var 1), (.lit (.int (0))), (.gl (.int (9999)))])), (.lit (.int (2)))])) []), (.ret (.nomut (.call 19 [(.nomut (.call 5 [(.var 0)])), (.var 1)])))]
def f_floor : Fn := ⟨2, b_floor, 2⟩
def b_floor_holds : List S := [(.drop (.nomut (.call 0 [(.nomut (.call 9 [(.var 0)])), (.lit (.int (1)))])) []), (.drop (.nomut (.call 0 [(.nomut (.call 2 [(.var 1), (.lit (.int (0))), (.gl (.int (9999)))])), (.lit (.int (2)))])) []), (.ret (.nomut (.call 6 [(.var 2), (.nomut (.call 19 [(.nomut (.call 5 [(.var 0)])), (.var 1)]))])))]
def f_floor_holds : Fn := ⟨3, b_floor_holds, 3⟩
def b_smooth : List S := [(.drop (.nomut (.call 0 [(.nomut (.call 9 [(.var 0)])), (.lit (.int (1)))])) []), (.drop (.nomut (.call 0 [(.nomut (.call 2 [(.var 1), (.lit (.int (0))), (.gl (.int (5)))])), (.lit (.int (2)))])) []), (.asg (.nm 0) (.nomut (.call 5 [(.var 0)])) false []), (.ret (.bi .tuple [(.lc [2] (.nomut (.call 12 [(.sli (.wv 0) (.some (.bi .max [(.lit (.int (0))), (.bin .sub (.wv 2) (.wv 1))])) (.some (.bin .add (.bin .add (.wv 2) (.wv 1)) (.lit (.int (1))))))])) (.nm 2) (.rng1 (.bi .len [(.wv 0)])) .none)]))]
def f_smooth : Fn := ⟨2, b_smooth, 3⟩
def b_tops_f0 : List S := [(.asg (.nm 4) (.or_ (.cmp .eq (.wv 3) (.lit (.int (0)))) (.cmp .gt (.idx (.wv 0) (.idx (.wv 1) (.wv 3))) (.idx (.wv 0) (.idx (.wv 1) (.bin .sub (.wv 3) (.lit (.int (1)))))))) false []), (.asg (.nm 5) (.or_ (.cmp .eq (.wv 3) (.bin .sub (.bi .len [(.wv 1)]) (.lit (.int (1))))) (.cmp .gt (.idx (.wv 0) (.idx (.wv 1) (.wv 3))) (.idx (.wv 0) (.idx (.wv 1) (.bin .add (.wv 3) (.lit (.int (1)))))))) false []), (.iff (.and_ (.var 4) (.and_ (.var 5) (.cmp .gt (.bi .len [(.wv 1)]) (.lit (.int (1)))))) [(.app 2 (.idx (.wv 1) (.wv 3)) [])] [])]
def b_tops : List S := [(.drop (.nomut (.call 0 [(.nomut (.call 9 [(.var 0)])), (.lit (.int (1)))])) []), (.asg (.nm 0) (.nomut (.call 5 [(.var 0)])) false []), (.asg (.nm 1) (.lc [3] (.var 3) (.nm 3) (.rng1 (.bi .len [(.wv 0)])) (.some (.or_ (.cmp .eq (.wv 3) (.lit (.int (0)))) (.cmp .ne (.idx (.wv 0) (.wv 3)) (.idx (.wv 0) (.bin .sub (.wv 3) (.lit (.int (1))))))))) true [3]), (.asg (.nm 2) (.lst []) true []), (.for_ (.nm 3) (.rng1 (.bi .len [(.wv 1)])) b_tops_f0 []), (.ret (.bi .tuple [(.wv 2)]))]
def f_tops : Fn := ⟨1, b_tops, 6⟩
def b_steps : List S := [(.drop (.nomut (.call 0 [(.nomut (.call 9 [(.var 0)])), (.lit (.int (1)))])) []), (.drop (.nomut (.call 0 [(.and_ (.nomut (.call 1 [(.var 1)])) (.cmp .ge (.wv 1) (.lit (.int (1))))), (.lit (.int (2)))])) []), (.ret (.bi .tuple [(.lc [2] (.var 2) (.nm 2) (.rng2 (.lit (.int (1))) (.bi .len [(.wv 0)])) (.some (.cmp .ge (.bi .abs [(.bin .sub (.idx (.wv 0) (.wv 2)) (.idx (.wv 0) (.bin .sub (.wv 2) (.lit (.int (1))))))]) (.wv 1))))]))]
def f_steps : Fn := ⟨2, b_steps, 3⟩
def b_shifted_f0 : List S := [(.asg (.nm 6) (.lc [8] (.var 8) (.nm 8) (.rng1 (.bi .len [(.wv 1)])) (.some (.chain .le .lt (.lit (.int (0))) (.bin .add (.wv 8) (.wv 5)) (.bi .len [(.wv 0)])))) true [8]), (.iff (.cmp .lt (.bin .mul (.lit (.int (2))) (.bi .len [(.wv 6)])) (.bi .min [(.bi .len [(.wv 0)]), (.bi .len [(.wv 1)])])) [.cont] []), (.asg (.nm 7) (.nomut (.call 7 [(.bi .sum [(.lc [8] (.nomut (.call 11 [(.var 0), (.var 1), (.bin .add (.wv 8) (.wv 5)), (.var 8)])) (.nm 8) (.seq (.wv 6)) .none)]), (.bi .len [(.wv 6)])])) false []), (.iff (.or_ (.cmp .is_ (.wv 3) (.lit .none)) (.nomut (.call 8 [(.var 7), (.var 4)]))) [(.par 3 4 (.var 5) (.var 7) [5, 7])] [])]
def b_shifted_f1 : List S := [(.for_ (.nm 5) (.seq (.tup [(.neg (.wv 2)), (.var 2)])) b_shifted_f0 [2])]
def b_shifted : List S := [(.asg (.tp [(.nm 0), (.nm 1)]) (.nomut (.call 10 [(.var 0), (.var 1)])) false []), (.asg (.tp [(.nm 3), (.nm 4)]) (.tup [(.lit .none), (.lit .none)]) false []), (.for_ (.nm 2) (.rng1 (.bin .add (.gl (.int (5))) (.lit (.int (1))))) b_shifted_f1 []), (.iff (.cmp .is_ (.wv 3) (.lit .none)) [(.ret (.lit .none))] []), (.ret (.tup [(.var 3), (.var 4)]))]
def f_shifted : Fn := ⟨2, b_shifted, 9⟩
def b__law_cell : List S := [(.iff (.cmp .lt (.wv 1) (.bi .len [(.wv 0)])) [(.ret (.bi .int [(.idx (.wv 0) (.wv 1))]))] []), (.ret (.lit (.int (0))))]
def f__law_cell : Fn := ⟨2, b__law_cell, 2⟩
def b__law_listed : List S := [(.iff (.isi (.wv 0) [.tuple]) [(.ret (.lc [1] (.call 27 [(.var 1)]) (.nm 1) (.seq (.wv 0)) .none))] []), (.ret (.var 0))]
def f__law_listed : Fn := ⟨1, b__law_listed, 2⟩
def b__law_same : List S := [(.iff (.and_ (.isi (.wv 0) [.tuple]) (.isi (.wv 1) [.tuple])) [(.ret (.and_ (.cmp .eq (.bi .len [(.wv 0)]) (.bi .len [(.wv 1)])) (.cmp .eq (.lc [2] (.var 2) (.nm 2) (.rng1 (.bi .len [(.wv 0)])) (.some (.not_ (.nomut (.call 28 [(.idx (.wv 0) (.wv 2)), (.idx (.wv 1) (.wv 2))]))))) (.lst []))))] []), (.iff (.or_ (.cmp .is_ (.wv 0) (.lit .none)) (.cmp .is_ (.wv 1) (.lit .none))) [(.ret (.and_ (.cmp .is_ (.wv 0) (.lit .none)) (.cmp .is_ (.wv 1) (.lit .none))))] []), (.iff (.or_ (.isi (.wv 0) [.bool]) (.isi (.wv 1) [.bool])) [(.ret (.and_ (.isi (.wv 0) [.bool]) (.and_ (.isi (.wv 1) [.bool]) (.cmp .eq (.wv 0) (.wv 1)))))] []), (.ret (.and_ (.isi (.wv 0) [.int, .str]) (.and_ (.cmp .eq (.isi (.wv 0) [.int]) (.isi (.wv 1) [.int])) (.cmp .eq (.wv 0) (.wv 1)))))]
def f__law_same : Fn := ⟨2, b__law_same, 3⟩
def b__law_gcd : List S := [(.for_ (.nm 2) (.rng1 (.lit (.int (400)))) [(.iff (.cmp .eq (.wv 1) (.lit (.int (0)))) [(.ret (.var 0))] []), (.par 0 1 (.var 1) (.bin .mod (.bi .int [(.wv 0)]) (.wv 1)) [1])] []), (.ret (.var 0))]
def f__law_gcd : Fn := ⟨2, b__law_gcd, 3⟩
def b__law_frac : List S := [(.asg (.nm 2) (.nomut (.call 29 [(.bi .abs [(.wv 0)]), (.var 1)])) false []), (.ret (.ite (.cmp .ne (.wv 0) (.lit (.int (0)))) (.tup [(.bi .int [(.bin .fdiv (.wv 0) (.wv 2))]), (.bi .int [(.bin .fdiv (.wv 1) (.wv 2))])]) (.tup [(.lit (.int (0))), (.lit (.int (1)))])))]
def f__law_frac : Fn := ⟨2, b__law_frac, 3⟩
def b__law_less : List S := [(.ret (.cmp .lt (.bin .mul (.idx (.wv 0) (.lit (.int (0)))) (.idx (.wv 1) (.lit (.int (1))))) (.bin .mul (.idx (.wv 1) (.lit (.int (0)))) (.idx (.wv 0) (.lit (.int (1)))))))]
def f__law_less : Fn := ⟨2, b__law_less, 2⟩
def b__law_curve_f0 : List S := [(.app 2 (.idx (.lst [(.lit (.int (0))), (.lit (.int (1))), (.lit (.int (3))), (.lit (.int (5))), (.lit (.int (9))), (.lit (.int (12))), (.lit (.int (20)))]) (.bin .mod (.bi .int [(.bin .fdiv (.wv 0) (.bin .add (.lit (.int (1))) (.bin .mul (.lit (.int (5))) (.wv 3))))]) (.lit (.int (7))))) [])]
def b__law_curve : List S := [(.asg (.nm 2) (.lst []) true []), (.for_ (.nm 3) (.rng1 (.wv 1)) b__law_curve_f0 []), (.ret (.bi .tuple [(.wv 2)]))]
def f__law_curve : Fn := ⟨2, b__law_curve, 4⟩
def b__law_rough : List S := [(.asg (.nm 1) (.bi .sorted [(.wv 0)]) true []), (.asg (.nm 2) (.idx (.wv 1) (.bi .int [(.bin .fdiv (.bin .sub (.bi .len [(.wv 1)]) (.lit (.int (1)))) (.lit (.int (2))))])) false []), (.ret (.bi .sum [(.lc [3] (.bi .abs [(.bin .sub (.wv 3) (.wv 2))]) (.nm 3) (.seq (.wv 0)) .none)]))]
def f__law_rough : Fn := ⟨1, b__law_rough, 4⟩
def b__law_cuts_f0 : List S := [(.asg (.nm 1) (.bin .add (.wv 1) (.lc [3] (.bin .add (.wv 3) (.tup [(.var 2)])) (.nm 3) (.seq (.wv 1)) .none)) true [2])]
def b__law_cuts : List S := [(.asg (.nm 1) (.lst [(.tup [])]) true []), (.for_ (.nm 2) (.rng2 (.lit (.int (1))) (.wv 0)) b__law_cuts_f0 []), (.ret (.var 1))]
def f__law_cuts : Fn := ⟨1, b__law_cuts, 4⟩
def b__law_price : List S := [(.asg (.nm 2) (.bin .add (.bin .add (.tup [(.lit (.int (0)))]) (.wv 1)) (.tup [(.bi .len [(.wv 0)])])) true []), (.ret (.bi .sum [(.lc [3] (.nomut (.call 33 [(.sli (.wv 0) (.some (.idx (.wv 2) (.wv 3))) (.some (.idx (.wv 2) (.bin .add (.wv 3) (.lit (.int (1)))))))])) (.nm 3) (.rng1 (.bin .sub (.bi .len [(.wv 2)]) (.lit (.int (1))))) .none)]))]
def f__law_price : Fn := ⟨2, b__law_price, 4⟩
def b__law_tops_f0 : List S := [(.iff (.and_ (.cmp .eq (.wv 3) (.bin .sub (.wv 4) (.lit (.int (1))))) (.cmp .eq (.idx (.wv 0) (.wv 4)) (.idx (.wv 0) (.wv 2)))) [(.asg (.nm 3) (.var 4) false [4])] [])]
def b__law_tops_f1 : List S := [(.asg (.nm 3) (.var 2) false [2]), (.for_ (.nm 4) (.rng2 (.bin .add (.wv 2) (.lit (.int (1)))) (.bi .len [(.wv 0)])) b__law_tops_f0 []), (.asg (.nm 5) (.or_ (.cmp .eq (.wv 2) (.lit (.int (0)))) (.cmp .ne (.idx (.wv 0) (.bin .sub (.wv 2) (.lit (.int (1))))) (.idx (.wv 0) (.wv 2)))) false []), (.asg (.nm 6) (.lc [4] (.idx (.wv 0) (.wv 4)) (.nm 4) (.seq (.tup [(.bin .sub (.wv 2) (.lit (.int (1)))), (.bin .add (.wv 3) (.lit (.int (1))))])) (.some (.and_ (.cmp .ge (.wv 4) (.lit (.int (0)))) (.cmp .lt (.wv 4) (.bi .len [(.wv 0)]))))) true []), (.iff (.and_ (.var 5) (.and_ (.cmp .eq (.lc [7] (.var 7) (.nm 7) (.seq (.wv 6)) (.some (.cmp .gt (.wv 7) (.idx (.wv 0) (.wv 2))))) (.lst [])) (.cmp .ne (.wv 6) (.lst [])))) [(.app 1 (.var 2) [2])] [])]
def b__law_tops : List S := [(.asg (.nm 1) (.lst []) true []), (.for_ (.nm 2) (.rng1 (.bi .len [(.wv 0)])) b__law_tops_f1 []), (.ret (.var 1))]
def f__law_tops : Fn := ⟨1, b__law_tops, 8⟩
def b__law_shifts_f0 : List S := [(.asg (.nm 5) (.lc [7] (.tup [(.idx (.wv 0) (.wv 7)), (.idx (.wv 1) (.bin .sub (.wv 7) (.wv 4)))]) (.nm 7) (.rng1 (.bi .len [(.wv 0)])) (.some (.and_ (.cmp .ge (.bin .sub (.wv 7) (.wv 4)) (.lit (.int (0)))) (.cmp .lt (.bin .sub (.wv 7) (.wv 4)) (.bi .len [(.wv 1)]))))) true []), (.iff (.and_ (.cmp .ge (.bin .mul (.lit (.int (2))) (.bi .len [(.wv 5)])) (.wv 3)) (.cmp .ne (.wv 5) (.lst []))) [(.asg (.nm 6) (.nomut (.call 30 [(.bi .sum [(.lc [8, 9] (.bi .abs [(.bin .sub (.wv 8) (.wv 9))]) (.tp [(.nm 8), (.nm 9)]) (.seq (.wv 5)) .none)]), (.bi .len [(.wv 5)])])) false []), (.iff (.or_ (.cmp .is_ (.wv 2) (.lit .none)) (.or_ (.nomut (.call 31 [(.var 6), (.idx (.wv 2) (.lit (.int (0))))])) (.and_ (.cmp .eq (.wv 6) (.idx (.wv 2) (.lit (.int (0))))) (.cmp .lt (.tup [(.bi .abs [(.wv 4)]), (.var 4)]) (.tup [(.bi .abs [(.idx (.wv 2) (.lit (.int (1))))]), (.idx (.wv 2) (.lit (.int (1))))]))))) [(.asg (.nm 2) (.tup [(.var 6), (.var 4)]) true [6, 4])] [])] [])]
def b__law_shifts : List S := [(.asg (.nm 2) (.lit .none) false []), (.asg (.nm 3) (.bi .min [(.bi .len [(.wv 0)]), (.bi .len [(.wv 1)])]) false []), (.for_ (.nm 4) (.rng2 (.neg (.lit (.int (5)))) (.lit (.int (6)))) b__law_shifts_f0 []), (.ret (.ite (.cmp .isn (.wv 2) (.lit .none)) (.tup [(.idx (.wv 2) (.lit (.int (1)))), (.idx (.wv 2) (.lit (.int (0))))]) (.lit .none)))]
def f__law_shifts : Fn := ⟨2, b__law_shifts, 10⟩
def b_law_f0 : List S := [(.asg (.nm 15) (.bi .sorted [(.lc [20] (.tup [(.nomut (.call 35 [(.var 2), (.var 20)])), (.var 20)]) (.nm 20) (.seq (.wv 3)) (.some (.cmp .eq (.bi .len [(.wv 20)]) (.bin .sub (.wv 5) (.lit (.int (1)))))))]) true [20]), (.iff (.not_ (.nomut (.call 28 [(.nomut (.call 17 [(.call 27 [(.var 2)]), (.var 5)])), (.ite (.cmp .ne (.wv 15) (.lst [])) (.idx (.idx (.wv 15) (.lit (.int (0)))) (.lit (.int (1)))) (.lit .none))]))) [(.ret (.lit (.bool false)))] [])]
def b_law_f1 : List S := [(.asg (.nm 16) (.bin .sub (.bin .sub (.bi .len [(.wv 2)]) (.lit (.int (1)))) (.wv 8)) true []), (.asg (.nm 7) (.bin .add (.lst [(.bi .min [(.lc [21] (.bin .add (.bin .add (.wv 4) (.nomut (.call 33 [(.sli (.wv 2) (.some (.wv 16)) (.some (.wv 21)))]))) (.idx (.wv 7) (.bin .sub (.bin .sub (.wv 21) (.wv 16)) (.lit (.int (1)))))) (.nm 21) (.rng2 (.bin .add (.wv 16) (.lit (.int (1)))) (.bin .add (.bi .len [(.wv 2)]) (.lit (.int (1))))) .none)])]) (.wv 7)) true [])]
def b_law_f2 : List S := [(.asg (.nm 18) (.bi .sorted [(.sli (.wv 2) (.some (.bi .max [(.lit (.int (0))), (.bin .sub (.wv 10) (.wv 11))])) (.some (.bin .add (.bin .add (.wv 10) (.wv 11)) (.lit (.int (1))))))]) true []), (.app 17 (.idx (.wv 18) (.bi .int [(.bin .fdiv (.bin .sub (.bi .len [(.wv 18)]) (.lit (.int (1)))) (.lit (.int (2))))])) [])]
def b_law_f3 : List S := [(.asg (.nm 17) (.lst []) true []), (.for_ (.nm 10) (.rng1 (.bi .len [(.wv 2)])) b_law_f2 []), (.iff (.not_ (.nomut (.call 28 [(.nomut (.call 22 [(.var 2), (.var 11)])), (.bi .tuple [(.wv 17)])]))) [(.ret (.lit (.bool false)))] [])]
def b_law_f4 : List S := [(.iff (.not_ (.nomut (.call 28 [(.nomut (.call 24 [(.var 2), (.var 12)])), (.bi .tuple [(.lc [10] (.var 10) (.nm 10) (.rng2 (.lit (.int (1))) (.bi .len [(.wv 2)])) (.some (.cmp .ge (.bi .abs [(.bin .sub (.idx (.wv 2) (.wv 10)) (.idx (.wv 2) (.bin .sub (.wv 10) (.lit (.int (1))))))]) (.wv 12))))])]))) [(.ret (.lit (.bool false)))] [])]
def b_law : List S := [(.asg (.nm 1) (.bin .mod (.nomut (.call 26 [(.var 0), (.lit (.int (0)))])) (.bin .pow (.lit (.int (10))) (.lit (.int (6))))) true []), (.asg (.nm 2) (.nomut (.call 32 [(.var 1), (.bin .add (.lit (.int (1))) (.bin .mod (.wv 1) (.lit (.int (8)))))])) false []), (.asg (.nm 3) (.call 34 [(.bi .len [(.wv 2)])]) false []), (.asg (.nm 4) (.bin .mod (.nomut (.call 26 [(.var 0), (.lit (.int (1)))])) (.lit (.int (25)))) true []), (.for_ (.nm 5) (.rng2 (.lit (.int (1))) (.lit (.int (10)))) b_law_f0 []), (.asg (.nm 6) (.idx (.bi .sorted [(.lc [20] (.tup [(.bin .add (.nomut (.call 35 [(.var 2), (.var 20)])) (.bin .mul (.wv 4) (.bin .add (.bi .len [(.wv 20)]) (.lit (.int (1)))))), (.bi .len [(.wv 20)]), (.var 20)]) (.nm 20) (.seq (.wv 3)) .none)]) (.lit (.int (0)))) false [20]), (.iff (.not_ (.nomut (.call 28 [(.nomut (.call 18 [(.var 2), (.var 4)])), (.idx (.wv 6) (.lit (.int (2))))]))) [(.ret (.lit (.bool false)))] []), (.asg (.nm 7) (.lst [(.lit (.int (0)))]) true []), (.for_ (.nm 8) (.rng1 (.bi .len [(.wv 2)])) b_law_f1 []), (.asg (.nm 9) (.bi .tuple [(.wv 7)]) true []), (.asg (.nm 10) (.bin .mod (.nomut (.call 26 [(.var 0), (.lit (.int (2)))])) (.bi .len [(.wv 9)])) true []), (.iff (.or_ (.cmp .ne (.idx (.wv 9) (.lit (.int (0)))) (.idx (.wv 6) (.lit (.int (0))))) (.or_ (.not_ (.nomut (.call 28 [(.nomut (.call 20 [(.var 2), (.var 4)])), (.var 9)]))) (.cmp .isn (.nomut (.call 21 [(.var 2), (.var 4), (.call 27 [(.var 9)])])) (.lit (.bool true))))) [(.ret (.lit (.bool false)))] []), (.iff (.cmp .ne (.lc [19] (.var 19) (.nm 19) (.seq (.lst [(.lit (.int (7))), (.sli (.wv 9) (.some (.lit (.int (1)))) .none), (.bin .add (.bin .add (.sli (.wv 9) .none (.some (.wv 10))) (.tup [(.bin .add (.idx (.wv 9) (.wv 10)) (.lit (.int (1))))])) (.sli (.wv 9) (.some (.bin .add (.wv 10) (.lit (.int (1))))) .none)), (.bin .add (.bin .add (.sli (.wv 9) .none (.some (.wv 10))) (.tup [(.bin .sub (.idx (.wv 9) (.wv 10)) (.lit (.int (1))))])) (.sli (.wv 9) (.some (.bin .add (.wv 10) (.lit (.int (1))))) .none))])) (.some (.cmp .isn (.nomut (.call 21 [(.var 2), (.var 4), (.var 19)])) (.lit (.bool false))))) (.lst [])) [(.ret (.lit (.bool false)))] []), (.for_ (.nm 11) (.rng1 (.lit (.int (3)))) b_law_f3 []), (.iff (.and_ (.cmp .gt (.bi .len [(.wv 2)]) (.lit (.int (1)))) (.not_ (.nomut (.call 28 [(.nomut (.call 23 [(.var 2)])), (.bi .tuple [(.call 36 [(.var 2)])])])))) [(.ret (.lit (.bool false)))] []), (.for_ (.nm 12) (.seq (.tup [(.lit (.int (1))), (.lit (.int (3))), (.lit (.int (8)))])) b_law_f4 []), (.asg (.nm 13) (.bin .mod (.nomut (.call 26 [(.var 0), (.lit (.int (3)))])) (.bin .pow (.lit (.int (10))) (.lit (.int (6))))) true []), (.asg (.nm 14) (.nomut (.call 32 [(.var 13), (.bin .add (.lit (.int (1))) (.bin .mod (.wv 13) (.lit (.int (8)))))])) false []), (.ret (.nomut (.call 28 [(.nomut (.call 25 [(.var 2), (.call 27 [(.var 14)])])), (.nomut (.call 37 [(.var 2), (.var 14)]))])))]
def f_law : Fn := ⟨1, b_law, 22⟩
def fs : List Fn := [f_need, f_is_integer, f_is_between, f_is_sequence, f_is_row, f_tupled, f_same, f_ratio, f_less, f_is_curve, f_pair_of, f_gap, f_middle_reading, f_roughness, f_least_rough, f_first_cut, f_is_least_step, f_stretches, f_best_cut, f_floor_of, f_floor, f_floor_holds, f_smooth, f_tops, f_steps, f_shifted, f__law_cell, f__law_listed, f__law_same, f__law_gcd, f__law_frac, f__law_less, f__law_curve, f__law_rough, f__law_cuts, f__law_price, f__law_tops, f__law_shifts, f_law]
theorem at_need : fs[0]? = some f_need := rfl
theorem at_is_integer : fs[1]? = some f_is_integer := rfl
theorem at_is_between : fs[2]? = some f_is_between := rfl
theorem at_is_sequence : fs[3]? = some f_is_sequence := rfl
theorem at_is_row : fs[4]? = some f_is_row := rfl
theorem at_tupled : fs[5]? = some f_tupled := rfl
theorem at_same : fs[6]? = some f_same := rfl
theorem at_ratio : fs[7]? = some f_ratio := rfl
theorem at_less : fs[8]? = some f_less := rfl
theorem at_is_curve : fs[9]? = some f_is_curve := rfl
theorem at_pair_of : fs[10]? = some f_pair_of := rfl
theorem at_gap : fs[11]? = some f_gap := rfl
theorem at_middle_reading : fs[12]? = some f_middle_reading := rfl
theorem at_roughness : fs[13]? = some f_roughness := rfl
theorem at_least_rough : fs[14]? = some f_least_rough := rfl
theorem at_first_cut : fs[15]? = some f_first_cut := rfl
theorem at_is_least_step : fs[16]? = some f_is_least_step := rfl
theorem at_stretches : fs[17]? = some f_stretches := rfl
theorem at_best_cut : fs[18]? = some f_best_cut := rfl
theorem at_floor_of : fs[19]? = some f_floor_of := rfl
theorem at_floor : fs[20]? = some f_floor := rfl
theorem at_floor_holds : fs[21]? = some f_floor_holds := rfl
theorem at_smooth : fs[22]? = some f_smooth := rfl
theorem at_tops : fs[23]? = some f_tops := rfl
theorem at_steps : fs[24]? = some f_steps := rfl
theorem at_shifted : fs[25]? = some f_shifted := rfl
theorem at__law_cell : fs[26]? = some f__law_cell := rfl
theorem at__law_listed : fs[27]? = some f__law_listed := rfl
theorem at__law_same : fs[28]? = some f__law_same := rfl
theorem at__law_gcd : fs[29]? = some f__law_gcd := rfl
theorem at__law_frac : fs[30]? = some f__law_frac := rfl
theorem at__law_less : fs[31]? = some f__law_less := rfl
theorem at__law_curve : fs[32]? = some f__law_curve := rfl
theorem at__law_rough : fs[33]? = some f__law_rough := rfl
theorem at__law_cuts : fs[34]? = some f__law_cuts := rfl
theorem at__law_price : fs[35]? = some f__law_price := rfl
theorem at__law_tops : fs[36]? = some f__law_tops := rfl
theorem at__law_shifts : fs[37]? = some f__law_shifts := rfl
theorem at_law : fs[38]? = some f_law := rfl
end K22
end Ws

set_option Elab.async false
set_option linter.all false
set_option maxRecDepth 100000
set_option maxHeartbeats 400000
namespace Ws
namespace K22
open PySem
theorem is_integer_int (k : Nat) (v : Int) : call fs (k + 1) 1 [.int v] = .ok (.bool true) := by
  rw [call_at at_is_integer rfl]
  simp (config := { implicitDefEqProofs := false }) [exSs, ev, evs, evi, evc, evo, tyIs, retv, noMut, noMuts, put, puto, wipeE, ixD, frzE, inTD, notD, binD, negD, own, lstD, setD, intOf, isD, isNone, f_is_integer, b_is_integer, exSs]
theorem is_between_int (k : Nat) (v lo hi : Int) : call fs (k + 2) 2 [.int v, .int lo, .int hi] = .ok (.bool (decide (lo ≤ v) && decide (v ≤ hi))) := by
  rw [call_at at_is_between rfl]
  simp (config := { implicitDefEqProofs := false }) [exSs, ev, evs, evi, evc, evo, tyIs, retv, noMut, noMuts, put, puto, wipeE, ixD, frzE, inTD, notD, binD, negD, own, lstD, setD, intOf, isD, isNone, f_is_between, b_is_between, is_integer_int, noMut]
  by_cases h : lo ≤ v <;> simp [h, retv]
theorem is_seq_any (k : Nat) (d : D) : call fs (k + 1) 3 [d] = .ok (.bool (isSq d)) := by cases d <;> rfl
theorem is_sequence_sq (k : Nat) (q : Bool) (xs : List D) : call fs (k + 1) 3 [sq q xs] = .ok (.bool true) := by cases q <;> rfl
theorem is_row_sq (k : Nat) (q : Bool) (xs : List D) (lo hi : Int) : call fs (k + 2) 4 [sq q xs, .int lo, .int hi] = .ok (.bool (decide (lo ≤ xs.length) && decide ((xs.length : Int) ≤ hi))) := by
  rw [call_at at_is_row rfl]
  simp (config := { implicitDefEqProofs := false }) [exSs, ev, evs, evi, evc, evo, tyIs, retv, noMut, noMuts, put, puto, wipeE, ixD, frzE, inTD, notD, binD, negD, own, lstD, setD, intOf, isD, isNone, f_is_row, b_is_row, is_sequence_sq, noMut, len_sq]
  by_cases h : lo ≤ (xs.length : Int) <;> simp [h, retv]
theorem is_row_int (k : Nat) (v lo hi : Int) : call fs (k + 2) 4 [.int v, .int lo, .int hi] = .ok (.bool false) := by
  rw [call_at at_is_row rfl]
  simp (config := { implicitDefEqProofs := false }) [exSs, ev, evs, evi, evc, evo, tyIs, retv, noMut, noMuts, put, puto, wipeE, ixD, frzE, inTD, notD, binD, negD, own, lstD, setD, intOf, isD, isNone, f_is_row, b_is_row, is_seq_any, isSq, noMut]
theorem need_true (k : Nat) (d : D) : call fs (k + 1) 0 [.bool true, d] = .ok .none := by
  rw [call_at at_need rfl]
  simp (config := { implicitDefEqProofs := false }) [exSs, ev, evs, evi, evc, evo, tyIs, retv, noMut, noMuts, put, puto, wipeE, ixD, frzE, inTD, notD, binD, negD, own, lstD, setD, intOf, isD, isNone, f_need, b_need, exSs]
theorem tupled_ok (k : Nat) : ∀ (n : Nat) (d : D), lim n d = true → call fs (k + n + 2) 5 [d] = .ok (tpl d) := by
  intro n
  induction n with
  | zero =>
    intro d h
    rw [call_at at_tupled rfl]
    cases d <;> first | (simp [lim] at h; done) | (simp (config := { implicitDefEqProofs := false }) [exSs, ev, evs, evi, evc, evo, tyIs, retv, noMut, noMuts, put, puto, wipeE, ixD, frzE, inTD, notD, binD, negD, own, lstD, setD, intOf, isD, isNone, f_tupled, b_tupled, is_seq_any, isSq, tpl])
  | succ n ih =>
    intro d h
    rw [call_at at_tupled rfl]
    have lst : ∀ xs : List D, xs.all (lim n) = true → lcL (fun x => (nmR (call fs (k + n + 2) 5 [x])).bnd fun y => Rs.ok [y]) xs = .ok (xs.map tpl) := by
      intro xs h
      have := lcL_map (turn := fun x => (nmR (call fs (k + n + 2) 5 [x])).bnd fun y => Rs.ok [y]) (enc := fun d : D => d) (f := tpl) (l := xs) fun x hx => by
        have hl := List.all_eq_true.mp h x hx
        rw [ih x hl]
        simp [tpl_nm n x hl]
      rwa [List.map_id'] at this
    cases d with
    | list xs =>
      have h : xs.all (lim n) = true := by simpa [lim] using h
      simp (config := { implicitDefEqProofs := false }) [exSs, ev, evs, evi, evc, evo, tyIs, retv, noMut, noMuts, put, puto, wipeE, ixD, frzE, inTD, notD, binD, negD, own, lstD, setD, intOf, isD, isNone, f_tupled, b_tupled, is_seq_any, isSq, seqD]
      rw [show k + (n + 1) + 1 = k + n + 2 by omega, lst xs h]
      simp (config := { implicitDefEqProofs := false }) [exSs, ev, evs, evi, evc, evo, tyIs, retv, noMut, noMuts, put, puto, wipeE, ixD, frzE, inTD, notD, binD, negD, own, lstD, setD, intOf, isD, isNone, biD, tpl, tpls_map]
    | tuple xs =>
      have h : xs.all (lim n) = true := by simpa [lim] using h
      simp (config := { implicitDefEqProofs := false }) [exSs, ev, evs, evi, evc, evo, tyIs, retv, noMut, noMuts, put, puto, wipeE, ixD, frzE, inTD, notD, binD, negD, own, lstD, setD, intOf, isD, isNone, f_tupled, b_tupled, is_seq_any, isSq, seqD]
      rw [show k + (n + 1) + 1 = k + n + 2 by omega, lst xs h]
      simp (config := { implicitDefEqProofs := false }) [exSs, ev, evs, evi, evc, evo, tyIs, retv, noMut, noMuts, put, puto, wipeE, ixD, frzE, inTD, notD, binD, negD, own, lstD, setD, intOf, isD, isNone, biD, tpl, tpls_map]
    | dict _ => simp [lim] at h
    | none => simp (config := { implicitDefEqProofs := false }) [exSs, ev, evs, evi, evc, evo, tyIs, retv, noMut, noMuts, put, puto, wipeE, ixD, frzE, inTD, notD, binD, negD, own, lstD, setD, intOf, isD, isNone, f_tupled, b_tupled, is_seq_any, isSq, tpl]
    | bool _ => simp (config := { implicitDefEqProofs := false }) [exSs, ev, evs, evi, evc, evo, tyIs, retv, noMut, noMuts, put, puto, wipeE, ixD, frzE, inTD, notD, binD, negD, own, lstD, setD, intOf, isD, isNone, f_tupled, b_tupled, is_seq_any, isSq, tpl]
    | int _ => simp (config := { implicitDefEqProofs := false }) [exSs, ev, evs, evi, evc, evo, tyIs, retv, noMut, noMuts, put, puto, wipeE, ixD, frzE, inTD, notD, binD, negD, own, lstD, setD, intOf, isD, isNone, f_tupled, b_tupled, is_seq_any, isSq, tpl]
    | str _ => simp (config := { implicitDefEqProofs := false }) [exSs, ev, evs, evi, evc, evo, tyIs, retv, noMut, noMuts, put, puto, wipeE, ixD, frzE, inTD, notD, binD, negD, own, lstD, setD, intOf, isD, isNone, f_tupled, b_tupled, is_seq_any, isSq, tpl]
theorem listed_ok (k : Nat) : ∀ (n : Nat) (d : D), lim n d = true → call fs (k + n + 1) 27 [d] = .ok (ltd d) := by
  intro n
  induction n with
  | zero =>
    intro d h
    rw [call_at at__law_listed rfl]
    cases d <;> first | (simp [lim] at h; done) | (simp (config := { implicitDefEqProofs := false }) [exSs, ev, evs, evi, evc, evo, tyIs, retv, noMut, noMuts, put, puto, wipeE, ixD, frzE, inTD, notD, binD, negD, own, lstD, setD, intOf, isD, isNone, f__law_listed, b__law_listed, ltd])
  | succ n ih =>
    intro d h
    rw [call_at at__law_listed rfl]
    cases d with
    | tuple xs =>
      have h : xs.all (lim n) = true := by simpa [lim] using h
      simp (config := { implicitDefEqProofs := false }) [exSs, ev, evs, evi, evc, evo, tyIs, retv, noMut, noMuts, put, puto, wipeE, ixD, frzE, inTD, notD, binD, negD, own, lstD, setD, intOf, isD, isNone, f__law_listed, b__law_listed, seqD]
      have := lcL_map (turn := fun x => (call fs (k + n + 1) 27 [x]).bnd fun y => Rs.ok [y]) (enc := fun d : D => d) (f := ltd) (l := xs) fun x hx => by
        rw [ih x (List.all_eq_true.mp h x hx)]; rfl
      rw [List.map_id'] at this
      rw [show k + (n + 1) = k + n + 1 by omega, this]
      simp (config := { implicitDefEqProofs := false }) [exSs, ev, evs, evi, evc, evo, tyIs, retv, noMut, noMuts, put, puto, wipeE, ixD, frzE, inTD, notD, binD, negD, own, lstD, setD, intOf, isD, isNone, ltd, ltds_map]
    | list xs => simp (config := { implicitDefEqProofs := false }) [exSs, ev, evs, evi, evc, evo, tyIs, retv, noMut, noMuts, put, puto, wipeE, ixD, frzE, inTD, notD, binD, negD, own, lstD, setD, intOf, isD, isNone, f__law_listed, b__law_listed, ltd]
    | dict _ => simp [lim] at h
    | none => simp (config := { implicitDefEqProofs := false }) [exSs, ev, evs, evi, evc, evo, tyIs, retv, noMut, noMuts, put, puto, wipeE, ixD, frzE, inTD, notD, binD, negD, own, lstD, setD, intOf, isD, isNone, f__law_listed, b__law_listed, ltd]
    | bool _ => simp (config := { implicitDefEqProofs := false }) [exSs, ev, evs, evi, evc, evo, tyIs, retv, noMut, noMuts, put, puto, wipeE, ixD, frzE, inTD, notD, binD, negD, own, lstD, setD, intOf, isD, isNone, f__law_listed, b__law_listed, ltd]
    | int _ => simp (config := { implicitDefEqProofs := false }) [exSs, ev, evs, evi, evc, evo, tyIs, retv, noMut, noMuts, put, puto, wipeE, ixD, frzE, inTD, notD, binD, negD, own, lstD, setD, intOf, isD, isNone, f__law_listed, b__law_listed, ltd]
    | str _ => simp (config := { implicitDefEqProofs := false }) [exSs, ev, evs, evi, evc, evo, tyIs, retv, noMut, noMuts, put, puto, wipeE, ixD, frzE, inTD, notD, binD, negD, own, lstD, setD, intOf, isD, isNone, f__law_listed, b__law_listed, ltd]
theorem same_ok (k : Nat) : ∀ (n : Nat) (d : D), sm n d = true → call fs (k + n + 1) 28 [d, d] = .ok (.bool true) := by
  intro n
  induction n with
  | zero =>
    intro d h
    rw [call_at at__law_same rfl]
    cases d <;> first | (simp [sm] at h; done) | (simp (config := { implicitDefEqProofs := false }) [exSs, ev, evs, evi, evc, evo, tyIs, retv, noMut, noMuts, put, puto, wipeE, ixD, frzE, inTD, notD, binD, negD, own, lstD, setD, intOf, isD, isNone, f__law_same, b__law_same, eqD_int', eqD_bool, eqD_str])
  | succ n ih =>
    intro d h
    rw [call_at at__law_same rfl]
    cases d with
    | tuple xs =>
      have h : xs.length ≤ 1000 ∧ ∀ x ∈ xs, sm n x = true := by simpa [sm] using h
      have hr := rng_len (n := xs.length) (by omega)
      have hl : biD .len [.tuple xs] = .ok (.int xs.length) := rfl
      simp (config := { implicitDefEqProofs := false }) [exSs, ev, evs, evi, evc, evo, tyIs, retv, noMut, noMuts, put, puto, wipeE, ixD, frzE, inTD, notD, binD, negD, own, lstD, setD, intOf, isD, isNone, f__law_same, b__law_same, hl, eqD_int', hr]
      rw [lcL_flat (enc := fun i : Nat => .int (i : Nat)) (f := fun _ => []) fun i hi' => ?_]
      · rw [flat_nil]; rfl
      · have li : i < xs.length := by simpa using hi'
        have ix : idxD (.tuple xs) (.int (i : Nat)) = .ok xs[i] := by
          show Rs.of (ixD xs _) = _
          unfold ixD
          rw [if_pos (by omega), Int.toNat_natCast, List.getElem?_eq_getElem li]; rfl
        have s1 := ih xs[i] (h.2 _ (List.getElem_mem li))
        rw [show k + (n + 1) = k + n + 1 by omega]
        simp (config := { implicitDefEqProofs := false }) [exSs, ev, evs, evi, evc, evo, tyIs, retv, noMut, noMuts, put, puto, wipeE, ixD, frzE, inTD, notD, binD, negD, own, lstD, setD, intOf, isD, isNone, ix, s1]
    | none => simp (config := { implicitDefEqProofs := false }) [exSs, ev, evs, evi, evc, evo, tyIs, retv, noMut, noMuts, put, puto, wipeE, ixD, frzE, inTD, notD, binD, negD, own, lstD, setD, intOf, isD, isNone, f__law_same, b__law_same, eqD_int', eqD_bool, eqD_str]
    | bool _ => simp (config := { implicitDefEqProofs := false }) [exSs, ev, evs, evi, evc, evo, tyIs, retv, noMut, noMuts, put, puto, wipeE, ixD, frzE, inTD, notD, binD, negD, own, lstD, setD, intOf, isD, isNone, f__law_same, b__law_same, eqD_int', eqD_bool, eqD_str]
    | int _ => simp (config := { implicitDefEqProofs := false }) [exSs, ev, evs, evi, evc, evo, tyIs, retv, noMut, noMuts, put, puto, wipeE, ixD, frzE, inTD, notD, binD, negD, own, lstD, setD, intOf, isD, isNone, f__law_same, b__law_same, eqD_int', eqD_bool, eqD_str]
    | str _ => simp (config := { implicitDefEqProofs := false }) [exSs, ev, evs, evi, evc, evo, tyIs, retv, noMut, noMuts, put, puto, wipeE, ixD, frzE, inTD, notD, binD, negD, own, lstD, setD, intOf, isD, isNone, f__law_same, b__law_same, eqD_int', eqD_bool, eqD_str]
    | list _ => simp [sm] at h
    | dict _ => simp [sm] at h
def cell (ns : List Int) (p : Nat) : Int := ns.getD p 0
theorem len_ints (q : Bool) (ns : List Int) : biD .len [sq q (ns.map .int)] = .ok (.int ns.length) := by rw [len_sq, List.length_map]
theorem idx_ints (q : Bool) (ns : List Int) (p : Nat) (h : p < ns.length) : idxD (sq q (ns.map .int)) (.int (p : Nat)) = .ok (.int (ns.getD p 0)) := by
  rw [idx_sq]
  unfold ixD
  rw [if_pos (by omega), Int.toNat_natCast, List.getElem?_map, List.getElem?_eq_getElem h, List.getD_eq_getElem?_getD, List.getElem?_eq_getElem h]; rfl
theorem cell_ok (k : Nat) (ns : List Int) (p : Nat) : call fs (k + 1) 26 [.list (ns.map .int), .int p] = .ok (.int (cell ns p)) := by
  rw [call_at at__law_cell rfl]
  have hl := len_ints false ns
  by_cases h : p < ns.length
  · have ix := idx_ints false ns p h
    simp only [sq, Bool.false_eq_true, if_false] at hl ix
    simp (config := { implicitDefEqProofs := false }) [exSs, ev, evs, evi, evc, evo, tyIs, retv, noMut, noMuts, put, puto, wipeE, ixD, frzE, inTD, notD, binD, negD, own, lstD, setD, intOf, isD, isNone, f__law_cell, b__law_cell, hl, show (p : Int) < ns.length by omega, ix, biD, cell]
  · have : cell ns p = 0 := by
      unfold cell
      rw [List.getD_eq_getElem?_getD, List.getElem?_eq_none (by omega)]; rfl
    simp only [sq, Bool.false_eq_true, if_false] at hl
    simp (config := { implicitDefEqProofs := false }) [exSs, ev, evs, evi, evc, evo, tyIs, retv, noMut, noMuts, put, puto, wipeE, ixD, frzE, inTD, notD, binD, negD, own, lstD, setD, intOf, isD, isNone, f__law_cell, b__law_cell, hl, show ¬ (p : Int) < ns.length by omega, this]

/-! ### curves -/
abbrev encC (q : Bool) (c : List Int) : D := sq q (c.map .int)
def okC (c : List Int) : Prop := 1 ≤ c.length ∧ c.length ≤ 16 ∧ ∀ v ∈ c, 0 ≤ v ∧ v ≤ 999
theorem is_curve_ok (k : Nat) (q : Bool) (c : List Int) (h : okC c) : call fs (k + 3) 9 [encC q c] = .ok (.bool true) := by
  obtain ⟨h1, h2, h3⟩ := h
  have hr : call fs (k + 2) 4 [encC q c, .int 1, .int 16] = .ok (.bool true) := by
    rw [is_row_sq, List.length_map, decide_eq_true (show (1 : Int) ≤ c.length by omega), decide_eq_true (show (c.length : Int) ≤ 16 by omega)]; rfl
  rw [call_at at_is_curve rfl]
  simp (config := { implicitDefEqProofs := false }) [exSs, ev, evs, evi, evc, evo, tyIs, retv, noMut, noMuts, put, puto, wipeE, ixD, frzE, inTD, notD, binD, negD, own, lstD, setD, intOf, isD, isNone, f_is_curve, b_is_curve, hr]
  rw [lcL_map (enc := PyData.int) (f := fun _ => .bool true) fun v hv => by simp (config := { implicitDefEqProofs := false }) [exSs, ev, evs, evi, evc, evo, tyIs, retv, noMut, noMuts, put, puto, wipeE, ixD, frzE, inTD, notD, binD, negD, own, lstD, setD, intOf, isD, isNone, is_between_int, (h3 v hv).1, (h3 v hv).2]]
  simp (config := { implicitDefEqProofs := false }) [exSs, ev, evs, evi, evc, evo, tyIs, retv, noMut, noMuts, put, puto, wipeE, ixD, frzE, inTD, notD, binD, negD, own, lstD, setD, intOf, isD, isNone, all_map (p := fun _ : Int => true)]
theorem lim_ints (q : Bool) (c : List Int) : lim 1 (encC q c) = true := by
  have : (c.map PyData.int).all (lim 0) = true := by
    rw [List.all_eq_true]
    intro x hx
    obtain ⟨b, _, rfl⟩ := List.mem_map.mp hx
    exact lim_int 0 b
  cases q <;> (unfold encC sq; simpa [lim] using this)
theorem tpls_ints (c : List Int) : tpls (c.map .int) = c.map .int := by
  rw [tpls_map, List.map_map]
  exact List.map_congr_left fun b _ => rfl
theorem ltds_ints (c : List Int) : ltds (c.map .int) = c.map .int := by
  rw [ltds_map, List.map_map]
  exact List.map_congr_left fun b _ => rfl
theorem tpl_ints (q : Bool) (c : List Int) : tpl (encC q c) = encC true c := by
  cases q <;> (show PyData.tuple (tpls _) = PyData.tuple _; rw [tpls_ints])
theorem ltd_ints (c : List Int) : ltd (encC true c) = encC false c := by
  show PyData.list (ltds _) = PyData.list _
  rw [ltds_ints]
theorem tupled_curve (k : Nat) (q : Bool) (c : List Int) : call fs (k + 3) 5 [encC q c] = .ok (encC true c) := by
  have := tupled_ok k 1 (encC q c) (lim_ints q c)
  rwa [tpl_ints] at this
theorem listed_curve (k : Nat) (c : List Int) : call fs (k + 2) 27 [encC true c] = .ok (encC false c) := by
  have := listed_ok k 1 (encC true c) (lim_ints true c)
  rwa [ltd_ints] at this
theorem nm_ints (c : List Int) : noMuts (c.map .int) = true := by
  induction c with
  | nil => rfl
  | cons a c ih => exact ih
theorem nm_curve (c : List Int) : noMut (encC true c) = true := nm_ints c
theorem sm_ints (c : List Int) (h : c.length ≤ 1000) : sm 1 (.tuple (c.map .int)) = true := by
  show (decide ((c.map PyData.int).length ≤ 1000) && (c.map PyData.int).all (sm 0)) = true
  rw [Bool.and_eq_true]
  refine ⟨by simpa using h, List.all_eq_true.mpr fun x hx => ?_⟩
  obtain ⟨b, _, rfl⟩ := List.mem_map.mp hx
  rfl

/-! ### the middle reading, roughness -/
def isort (l : List Int) : List Int := sortD (fun a b => leT (.int a) (.int b)) l
def mid (l : List Int) : Int := (isort l).getD ((l.length - 1) / 2) 0
def ab (v : Int) : Int := if v < 0 then -v else v
def rough (l : List Int) : Int := (l.map fun v => ab (v - mid l)).sum
theorem sort_ints (q : Bool) (l : List Int) : biD .sorted [sq q (l.map .int)] = .ok (.list ((isort l).map .int)) := by
  have ok : sortOk (l.map .int) = true := by
    unfold sortOk allOk
    have h1 : ∀ x ∈ l.map PyData.int, ∃ a, x = .int a := by
      intro x hx
      obtain ⟨v, _, rfl⟩ := List.mem_map.mp hx
      exact ⟨_, rfl⟩
    generalize l.map PyData.int = xs at *
    rw [Bool.and_eq_true, Bool.or_eq_true]
    refine ⟨List.all_eq_true.mpr fun x hx => ?_, .inr (List.all_eq_true.mpr fun x hx => ?_)⟩
    · obtain ⟨a, rfl⟩ := h1 x hx
      rw [Bool.and_eq_true]
      refine ⟨by simp [isNone], List.all_eq_true.mpr fun z hz => ?_⟩
      obtain ⟨b, rfl⟩ := h1 z hz
      rfl
    · obtain ⟨a, rfl⟩ := h1 x hx
      rfl
  cases q <;> (show (if sortOk _ then _ else _) = _; rw [if_pos ok, sortD_map]; rfl)
theorem isort_len (l : List Int) : (isort l).length = l.length := sortD_len
theorem middle_ok (k : Nat) (q : Bool) (l : List Int) (h : 0 < l.length) : call fs (k + 1) 12 [sq q (l.map .int)] = .ok (.int (mid l)) := by
  rw [call_at at_middle_reading rfl]
  have e : ((l.length : Int) - 1) / 2 = (((l.length - 1) / 2 : Nat) : Int) := by omega
  have ix := idx_ints false (isort l) ((l.length - 1) / 2) (by rw [isort_len]; omega)
  simp only [sq, Bool.false_eq_true, if_false] at ix
  have dv : binD .fdiv (.int ((l.length : Int) - 1)) (.int 2) = .ok (.int (((l.length - 1) / 2 : Nat) : Int)) := by rw [← e]; exact d1 _ _ (by decide) (by decide)
  unfold mid
  generalize (l.length - 1) / 2 = m at *
  simp (config := { implicitDefEqProofs := false }) [exSs, ev, evs, evi, evc, evo, tyIs, retv, noMut, noMuts, put, puto, wipeE, ixD, frzE, inTD, notD, negD, own, lstD, setD, intOf, isD, isNone, f_middle_reading, b_middle_reading, sort_ints, len_ints, qs, dv, ix]
def cutL (c : List Int) (i j : Nat) : List Int := (c.drop i).take (j - i)
def R (c : List Int) (i j : Nat) : Int := rough (cutL c i j)
theorem cutL_len (c : List Int) (i j : Nat) (hij : i ≤ j) (hj : j ≤ c.length) : (cutL c i j).length = j - i := by
  unfold cutL
  rw [List.length_take, List.length_drop]; omega
theorem cutD_ints (c : List Int) (i j : Nat) (hi : i ≤ c.length) (hj : j ≤ c.length) : cutD (c.map PyData.int) (some (i : Int)) (some (j : Int)) = (cutL c i j).map .int := by
  rw [cut_map, cut_nat hi hj]; rfl
theorem abs_bi (v : Int) : biD .abs [.int v] = .ok (.int (ab v)) := rfl
theorem rough_ok (k : Nat) (q : Bool) (c : List Int) (i j : Nat) (hij : i < j) (hj : j ≤ c.length) : call fs (k + 2) 13 [encC q c, .int i, .int j] = .ok (.int (R c i j)) := by
  have hl := cutL_len c i j (by omega) hj
  have ct := cutD_ints c i j (by omega) hj
  have md := middle_ok k q (cutL c i j) (by omega)
  rw [call_at at_roughness rfl]
  simp (config := { implicitDefEqProofs := false }) [exSs, ev, evs, evi, evc, evo, tyIs, retv, noMut, noMuts, put, puto, wipeE, ixD, frzE, inTD, notD, negD, own, lstD, setD, intOf, isD, isNone, f_roughness, b_roughness, ct, md]
  rw [lcL_map (enc := PyData.int) (f := fun v => .int (ab (v - mid (cutL c i j)))) fun v hv => by simp (config := { implicitDefEqProofs := false }) [exSs, ev, evs, evi, evc, evo, tyIs, retv, noMut, noMuts, put, puto, wipeE, ixD, frzE, inTD, notD, negD, own, lstD, setD, intOf, isD, isNone, qs, abs_bi]]
  simp (config := { implicitDefEqProofs := false }) [exSs, ev, evs, evi, evc, evo, tyIs, retv, noMut, noMuts, put, puto, wipeE, ixD, frzE, inTD, notD, negD, own, lstD, setD, intOf, isD, isNone, sum_map' (p := fun v : Int => ab (v - mid (cutL c i j)))]
  rfl
theorem law_rough_ok (k : Nat) (q : Bool) (l : List Int) (h : 0 < l.length) : call fs (k + 1) 33 [sq q (l.map .int)] = .ok (.int (rough l)) := by
  rw [call_at at__law_rough rfl]
  have e : (((isort l).length : Int) - 1) / 2 = (((l.length - 1) / 2 : Nat) : Int) := by rw [isort_len]; omega
  have ix := idx_ints false (isort l) ((l.length - 1) / 2) (by rw [isort_len]; omega)
  have ln := len_ints false (isort l)
  simp only [sq, Bool.false_eq_true, if_false] at ix ln
  have dv : binD .fdiv (.int (((isort l).length : Int) - 1)) (.int 2) = .ok (.int (((l.length - 1) / 2 : Nat) : Int)) := by rw [← e]; exact d1 _ _ (by decide) (by decide)
  have b1 : ∀ i, biD .int [.int i] = .ok (.int i) := fun _ => rfl
  have hm : mid l = (isort l).getD ((l.length - 1) / 2) 0 := rfl
  rw [← hm] at ix
  generalize (l.length - 1) / 2 = m at *
  simp (config := { implicitDefEqProofs := false }) [exSs, ev, evs, evi, evc, evo, tyIs, retv, noMut, noMuts, put, puto, wipeE, ixD, frzE, inTD, notD, negD, own, lstD, setD, intOf, isD, isNone, f__law_rough, b__law_rough, sort_ints, ln, qs, dv, ix, b1]
  rw [lcL_map (enc := PyData.int) (f := fun v => .int (ab (v - mid l))) fun v hv => by simp (config := { implicitDefEqProofs := false }) [exSs, ev, evs, evi, evc, evo, tyIs, retv, noMut, noMuts, put, puto, wipeE, ixD, frzE, inTD, notD, negD, own, lstD, setD, intOf, isD, isNone, qs, abs_bi]]
  simp (config := { implicitDefEqProofs := false }) [exSs, ev, evs, evi, evc, evo, tyIs, retv, noMut, noMuts, put, puto, wipeE, ixD, frzE, inTD, notD, negD, own, lstD, setD, intOf, isD, isNone, sum_map' (p := fun v : Int => ab (v - mid l))]
  rfl
end K22
end Ws

set_option Elab.async false
set_option linter.all false
set_option maxRecDepth 100000
set_option maxHeartbeats 400000
/-! K22m: cuts into stretches, plain -/
namespace Ws
namespace K22
section
variable (w : Nat → Nat → Int) (n : Nat)
def mnO : List Int → Option Int
  | [] => none
  | x :: xs => some (xs.foldl min x)
theorem foldl_min_le : ∀ (xs : List Int) (x : Int), xs.foldl min x ≤ x ∧ ∀ y ∈ xs, xs.foldl min x ≤ y
  | [], x => ⟨Int.le_refl _, fun y h => by cases h⟩
  | z :: xs, x => by
    obtain ⟨h1, h2⟩ := foldl_min_le xs (min x z)
    rw [List.foldl_cons]
    refine ⟨by omega, fun y hy => ?_⟩
    rcases List.mem_cons.mp hy with rfl | hy
    · omega
    · exact h2 y hy
theorem foldl_min_mem : ∀ (xs : List Int) (x : Int), xs.foldl min x = x ∨ xs.foldl min x ∈ xs
  | [], x => .inl rfl
  | z :: xs, x => by
    rw [List.foldl_cons]
    rcases foldl_min_mem xs (min x z) with h | h
    · rcases Int.le_total x z with c | c
      · rw [h, Int.min_eq_left c]; exact .inl rfl
      · rw [h, Int.min_eq_right c]; exact .inr List.mem_cons_self
    · exact .inr (List.mem_cons_of_mem _ h)
theorem mnO_some {l : List Int} {m : Int} (h : mnO l = some m) : m ∈ l ∧ ∀ x ∈ l, m ≤ x := by
  cases l with
  | nil => cases h
  | cons x xs =>
    have h : xs.foldl min x = m := by injection h
    subst h
    obtain ⟨h1, h2⟩ := foldl_min_le xs x
    refine ⟨?_, fun y hy => ?_⟩
    · rcases foldl_min_mem xs x with e | e
      · rw [e]; exact List.mem_cons_self
      · exact List.mem_cons_of_mem _ e
    · rcases List.mem_cons.mp hy with rfl | hy
      · exact h1
      · exact h2 y hy
theorem mnO_of {l : List Int} {x : Int} (h : x ∈ l) : ∃ m, mnO l = some m := by
  cases l with
  | nil => cases h
  | cons y ys => exact ⟨_, rfl⟩
/-- the least price of k stretches from p on -/
def opt : Nat → Nat → Option Int
  | 0, p => if p = n then some 0 else none
  | k + 1, p => mnO ((List.range (n - p)).filterMap fun d => (opt k (p + 1 + d)).map fun v => w p (p + 1 + d) + v)
/-- cuts behind p, the last stretch is not empty -/
def ch : Nat → List Nat → Prop
  | p, [] => p < n
  | p, a :: r => p < a ∧ ch a r
def pr : Nat → List Nat → Int
  | p, [] => w p n
  | p, a :: r => w p a + pr a r
variable {w n}
theorem ch_lt : ∀ {r : List Nat} {p : Nat}, ch n p r → p + r.length < n
  | [], p, h => h
  | a :: r, p, h => by
    have := ch_lt h.2
    have := h.1
    rw [List.length_cons]; omega
theorem opt_mem {k p a : Nat} {v : Int} (ha : p < a) (hn : a ≤ n) (h : opt w n k a = some v) : ∃ m, opt w n (k + 1) p = some m ∧ m ≤ w p a + v := by
  have hm : w p a + v ∈ (List.range (n - p)).filterMap fun d => (opt w n k (p + 1 + d)).map fun v => w p (p + 1 + d) + v := by
    rw [List.mem_filterMap]
    refine ⟨a - p - 1, by rw [List.mem_range]; omega, ?_⟩
    rw [show p + 1 + (a - p - 1) = a by omega, h]; rfl
  obtain ⟨m, e⟩ := mnO_of hm
  exact ⟨m, e, (mnO_some e).2 _ hm⟩
theorem opt_out {k p : Nat} {m : Int} (h : opt w n (k + 1) p = some m) : ∃ a v, p < a ∧ a ≤ n ∧ opt w n k a = some v ∧ m = w p a + v := by
  obtain ⟨h1, _⟩ := mnO_some (show mnO _ = some m from h)
  rw [List.mem_filterMap] at h1
  obtain ⟨d, hd, e⟩ := h1
  rw [List.mem_range] at hd
  cases e2 : opt w n k (p + 1 + d) with
  | none => rw [e2] at e; cases e
  | some v =>
    rw [e2] at e
    injection e with e
    exact ⟨p + 1 + d, v, by omega, by omega, e2, e.symm⟩
theorem opt_le : ∀ {r : List Nat} {p : Nat}, ch n p r → ∃ v, opt w n (r.length + 1) p = some v ∧ v ≤ pr w n p r
  | [], p, h => by
    obtain ⟨m, e, l⟩ := opt_mem (w := w) (k := 0) (p := p) (a := n) (v := 0) h (Nat.le_refl _) (if_pos rfl)
    exact ⟨m, e, by show m ≤ w p n; omega⟩
  | a :: r, p, h => by
    obtain ⟨v, e, l⟩ := opt_le h.2
    have hn := ch_lt h.2
    obtain ⟨m, e', l'⟩ := opt_mem (w := w) (p := p) h.1 (by omega) e
    exact ⟨m, e', by show m ≤ w p a + pr w n a r; omega⟩
theorem opt_isSome : ∀ (k p : Nat), p + k < n → ∃ v, opt w n (k + 1) p = some v
  | 0, p, h => by
    obtain ⟨v, e, _⟩ := opt_le (w := w) (n := n) (r := []) (p := p) h
    exact ⟨v, e⟩
  | k + 1, p, h => by
    obtain ⟨v, e⟩ := opt_isSome k (p + 1) (by omega)
    obtain ⟨m, e', _⟩ := opt_mem (w := w) (p := p) (a := p + 1) (by omega) (by omega) e
    exact ⟨m, e'⟩
variable (w n)
def isStep (k p a : Nat) : Bool := match opt w n k a with
  | none => false
  | some va => decide (opt w n (k + 1) p = some (w p a + va))
def fst (P : Nat → Bool) : Nat → Nat → Nat
  | 0, a => a
  | f + 1, a => if P a then a else fst P f (a + 1)
variable {w n}
theorem fst_spec {P : Nat → Bool} : ∀ {f a b : Nat}, P b = true → a ≤ b → b < a + f → P (fst P f a) = true ∧ a ≤ fst P f a ∧ fst P f a ≤ b ∧ ∀ c, a ≤ c → c < fst P f a → P c = false
  | 0, a, b, _, h1, h2 => by omega
  | f + 1, a, b, hb, h1, h2 => by
    unfold fst
    by_cases c : P a = true
    · rw [if_pos c]
      exact ⟨c, Nat.le_refl _, h1, fun c h h' => by omega⟩
    · rw [if_neg c]
      have hne : a ≠ b := fun e => c (e ▸ hb)
      obtain ⟨q1, q2, q3, q4⟩ := fst_spec (f := f) (a := a + 1) hb (by omega) (by omega)
      refine ⟨q1, by omega, q3, fun d h h' => ?_⟩
      by_cases e : d = a
      · subst e; simpa using c
      · exact q4 d (by omega) h'
variable (w n)
def nxt (k p : Nat) : Nat := fst (isStep w n k p) n (p + 1)
def gcut : Nat → Nat → List Nat
  | 0, _ => []
  | k + 1, p => nxt w n (k + 1) p :: gcut k (nxt w n (k + 1) p)
variable {w n}
theorem isStep_iff {k p a : Nat} : isStep w n k p a = true ↔ ∃ va, opt w n k a = some va ∧ opt w n (k + 1) p = some (w p a + va) := by
  unfold isStep
  cases h : opt w n k a with
  | none => simp
  | some va => simp
theorem nxt_spec {k p : Nat} {v : Int} (h : opt w n (k + 2) p = some v) : ∃ va, p < nxt w n (k + 1) p ∧ nxt w n (k + 1) p ≤ n ∧ opt w n (k + 1) (nxt w n (k + 1) p) = some va ∧ v = w p (nxt w n (k + 1) p) + va ∧ ∀ c, p < c → c < nxt w n (k + 1) p → isStep w n (k + 1) p c = false := by
  obtain ⟨a, va, h1, h2, h3, h4⟩ := opt_out h
  have hs : isStep w n (k + 1) p a = true := isStep_iff.mpr ⟨va, h3, by rw [h, h4]⟩
  obtain ⟨q1, q2, q3, q4⟩ := fst_spec (f := n) (a := p + 1) hs (by omega) (by omega)
  obtain ⟨vb, e1, e2⟩ := isStep_iff.mp q1
  rw [h] at e2
  injection e2 with e2
  exact ⟨vb, q2, Nat.le_trans q3 h2, e1, e2, fun c hc hc' => q4 c hc hc'⟩
theorem gcut_spec : ∀ {k p : Nat} {v : Int}, opt w n (k + 1) p = some v → ch n p (gcut w n k p) ∧ (gcut w n k p).length = k ∧ pr w n p (gcut w n k p) = v
  | 0, p, v, h => by
    obtain ⟨a, va, h1, h2, h3, h4⟩ := opt_out h
    have h3 : (if a = n then some (0 : Int) else none) = some va := h3
    split at h3
    · rename_i e
      injection h3 with h3
      exact ⟨by show p < n; omega, rfl, by rw [h4, ← h3, ← e]; show w p a = w p a + 0; omega⟩
    · cases h3
  | k + 1, p, v, h => by
    obtain ⟨va, h1, _, h2, h3, _⟩ := nxt_spec h
    obtain ⟨q1, q2, q3⟩ := gcut_spec h2
    exact ⟨⟨h1, q1⟩, by show (gcut w n k _).length + 1 = k + 1; rw [q2], by rw [h3]; show w p _ + pr w n _ _ = _; rw [q3]⟩
def toI (r : List Nat) : List Int := r.map fun a : Nat => (a : Int)
theorem gcut_min : ∀ {r : List Nat} {p : Nat}, ch n p r → opt w n (r.length + 1) p = some (pr w n p r) → gcut w n r.length p = r ∨ toI (gcut w n r.length p) < toI r
  | [], p, _, _ => .inl rfl
  | a :: r, p, h, e => by
    obtain ⟨va, e1, l1⟩ := opt_le (w := w) h.2
    have hn := ch_lt h.2
    obtain ⟨m, e2, l2⟩ := opt_mem (w := w) (p := p) h.1 (by omega) e1
    have e : opt w n (r.length + 2) p = some (w p a + pr w n a r) := e
    rw [e] at e2
    injection e2 with e2
    have hv : va = pr w n a r := by omega
    have hs : isStep w n (r.length + 1) p a = true := isStep_iff.mpr ⟨va, e1, by rw [e, hv]⟩
    obtain ⟨vb, h1, _, h2, h3, h4⟩ := nxt_spec e
    have hle : nxt w n (r.length + 1) p ≤ a := by
      rcases Nat.lt_or_ge a (nxt w n (r.length + 1) p) with c | c
      · rw [h4 a h.1 c] at hs; cases hs
      · exact c
    show nxt w n (r.length + 1) p :: gcut w n r.length (nxt w n (r.length + 1) p) = a :: r ∨ ((nxt w n (r.length + 1) p : Nat) : Int) :: toI (gcut w n r.length (nxt w n (r.length + 1) p)) < (a : Int) :: toI r
    rcases Nat.lt_or_ge (nxt w n (r.length + 1) p) a with c | c
    · exact .inr (List.cons_lt_cons_iff.mpr (.inl (by omega)))
    · have ea : nxt w n (r.length + 1) p = a := by omega
      rw [ea]
      rcases gcut_min h.2 (by rw [e1, hv]) with q | q
      · exact .inl (by rw [q])
      · exact .inr (List.cons_lt_cons_iff.mpr (.inr ⟨rfl, q⟩))

/-! ### all cuts -/
def cuts : Nat → List (List Nat)
  | 0 => [[]]
  | m + 1 => cuts m ++ (cuts m).map (· ++ [m + 1])
theorem mem_cuts : ∀ {m : Nat} {r : List Nat}, r ∈ cuts m ↔ r.Pairwise (· < ·) ∧ ∀ x ∈ r, 1 ≤ x ∧ x ≤ m
  | 0, r => by
    constructor
    · intro h
      have : r = [] := by simpa [cuts] using h
      subst this
      exact ⟨.nil, fun x h => by cases h⟩
    · rintro ⟨_, h⟩
      cases r with
      | nil => simp [cuts]
      | cons a r => have := h a List.mem_cons_self; omega
  | m + 1, r => by
    constructor
    · intro h
      rcases List.mem_append.mp h with h | h
      · obtain ⟨h1, h2⟩ := mem_cuts.mp h
        exact ⟨h1, fun x hx => by have := h2 x hx; omega⟩
      · obtain ⟨r', hr, rfl⟩ := List.mem_map.mp h
        obtain ⟨h1, h2⟩ := mem_cuts.mp hr
        refine ⟨List.pairwise_append.mpr ⟨h1, List.pairwise_singleton _ _, fun x hx y hy => ?_⟩, fun x hx => ?_⟩
        · rw [List.mem_singleton.mp hy]
          have := h2 x hx; omega
        · rcases List.mem_append.mp hx with hx | hx
          · have := h2 x hx; omega
          · rw [List.mem_singleton.mp hx]; omega
    · rintro ⟨h1, h2⟩
      rcases List.eq_nil_or_concat r with rfl | ⟨r', a, rfl⟩
      · exact List.mem_append_left _ (mem_cuts.mpr ⟨.nil, fun x h => by cases h⟩)
      · rw [List.concat_eq_append] at h1 h2 ⊢
        obtain ⟨p1, _, p3⟩ := List.pairwise_append.mp h1
        have ha := h2 a (by simp)
        have hlt : ∀ x ∈ r', x < a := fun x hx => p3 x hx a (by simp)
        by_cases c : a = m + 1
        · subst c
          exact List.mem_append_right _ (List.mem_map.mpr ⟨r', mem_cuts.mpr ⟨p1, fun x hx => by have := hlt x hx; have := h2 x (by simp [hx]); omega⟩, rfl⟩)
        · refine List.mem_append_left _ (mem_cuts.mpr ⟨h1, fun x hx => ?_⟩)
          have := h2 x hx
          rcases List.mem_append.mp hx with hx | hx
          · have := hlt x hx; omega
          · rw [List.mem_singleton.mp hx]; omega
theorem ch_iff : ∀ {r : List Nat} {p : Nat}, ch n p r ↔ p < n ∧ (p :: r).Pairwise (· < ·) ∧ ∀ x ∈ r, x < n
  | [], p => ⟨fun h => ⟨h, List.pairwise_singleton _ _, fun x h => by cases h⟩, fun h => h.1⟩
  | a :: r, p => by
    constructor
    · rintro ⟨h1, h2⟩
      obtain ⟨q1, q2, q3⟩ := ch_iff.mp h2
      refine ⟨by omega, List.pairwise_cons.mpr ⟨fun x hx => ?_, q2⟩, fun x hx => ?_⟩
      · rcases List.mem_cons.mp hx with rfl | hx
        · exact h1
        · have := (List.pairwise_cons.mp q2).1 x hx; omega
      · rcases List.mem_cons.mp hx with rfl | hx
        · exact q1
        · exact q3 x hx
    · rintro ⟨h1, h2, h3⟩
      obtain ⟨q1, q2⟩ := List.pairwise_cons.mp h2
      exact ⟨q1 a List.mem_cons_self, ch_iff.mpr ⟨h3 a List.mem_cons_self, q2, fun x hx => h3 x (List.mem_cons_of_mem _ hx)⟩⟩
theorem cuts_ch {m : Nat} {r : List Nat} : r ∈ cuts m ↔ ch (m + 1) 0 r := by
  rw [mem_cuts, ch_iff]
  constructor
  · rintro ⟨h1, h2⟩
    exact ⟨by omega, List.pairwise_cons.mpr ⟨fun x hx => (h2 x hx).1, h1⟩, fun x hx => by have := (h2 x hx).2; omega⟩
  · rintro ⟨_, h2, h3⟩
    obtain ⟨q1, q2⟩ := List.pairwise_cons.mp h2
    exact ⟨q2, fun x hx => ⟨q1 x hx, by have := h3 x hx; omega⟩⟩
theorem cuts_len : ∀ m, (cuts m).length = 2 ^ m
  | 0 => rfl
  | m + 1 => by
    show (cuts m ++ (cuts m).map (· ++ [m + 1])).length = _
    rw [List.length_append, List.length_map, cuts_len m, Nat.pow_succ]; omega

/-! ### with fees -/
variable (w n)
def mnI (l : List Int) : Int := (mnO l).getD 0
/-- the floor's rows from the end: the last d + 1 of them -/
def flo (fee : Int) : Nat → List Int
  | 0 => [0]
  | d + 1 => mnI ((List.range (d + 1)).map fun j => fee + w (n - d - 1) (n - d - 1 + 1 + j) + (flo fee d).getD j 0) :: flo fee d
def hd (fee : Int) (d : Nat) : Int := (flo w n fee d).getD 0 0
variable {w n}
theorem flo_len (fee : Int) : ∀ d, (flo w n fee d).length = d + 1
  | 0 => rfl
  | d + 1 => by show (flo w n fee d).length + 1 = _; rw [flo_len fee d]
theorem flo_get (fee : Int) : ∀ {d j : Nat}, j ≤ d → (flo w n fee d).getD j 0 = hd w n fee (d - j)
  | d, 0, _ => rfl
  | 0, j + 1, h => by omega
  | d + 1, j + 1, h => by
    show (flo w n fee d).getD j 0 = _
    rw [flo_get fee (show j ≤ d by omega), show d + 1 - (j + 1) = d - j by omega]
theorem mnI_spec {l : List Int} (h : l ≠ []) : mnI l ∈ l ∧ ∀ x ∈ l, mnI l ≤ x := by
  cases l with
  | nil => exact absurd rfl h
  | cons x xs => exact mnO_some (m := xs.foldl min x) rfl
theorem hd_succ (fee : Int) (d : Nat) : hd w n fee (d + 1) = mnI ((List.range (d + 1)).map fun j => fee + w (n - d - 1) (n - d - 1 + 1 + j) + hd w n fee (d - j)) := by
  show mnI _ = _
  congr 1
  refine List.map_congr_left fun j hj => ?_
  rw [flo_get fee (show j ≤ d by have := List.mem_range.mp hj; omega)]
theorem hd_le_el (fee : Int) {d j : Nat} (hj : j ≤ d) : hd w n fee (d + 1) ≤ fee + w (n - d - 1) (n - d - 1 + 1 + j) + hd w n fee (d - j) := by
  rw [hd_succ]
  refine (mnI_spec ?_).2 _ (List.mem_map.mpr ⟨j, List.mem_range.mpr (by omega), rfl⟩)
  intro e
  have := congrArg List.length e
  rw [List.length_map, List.length_range] at this
  cases this
theorem hd_le (fee : Int) : ∀ {r : List Nat} {d : Nat}, d + 1 ≤ n → ch n (n - d - 1) r → hd w n fee (d + 1) ≤ pr w n (n - d - 1) r + fee * (r.length + 1)
  | [], d, hd', h => by
    have h1 := hd_le_el (w := w) (n := n) fee (d := d) (j := d) (Nat.le_refl _)
    rw [show n - d - 1 + 1 + d = n by omega, Nat.sub_self] at h1
    have h0 : hd w n fee 0 = 0 := rfl
    show _ ≤ w (n - d - 1) n + fee * ((0 : Nat) + 1)
    rw [h0] at h1
    have : fee * (((0 : Nat) : Int) + 1) = fee := by simp
    omega
  | a :: r, d, hd', h => by
    have hlt := ch_lt h.2
    have ha := h.1
    have h1 := hd_le_el (w := w) (n := n) fee (d := d) (j := a - (n - d - 1) - 1) (by omega)
    rw [show n - d - 1 + 1 + (a - (n - d - 1) - 1) = a by omega] at h1
    have e1 : d - (a - (n - d - 1) - 1) = (n - a - 1) + 1 := by omega
    rw [e1] at h1
    have h2 := hd_le fee (r := r) (d := n - a - 1) (by omega) (by rw [show n - (n - a - 1) - 1 = a by omega]; exact h.2)
    rw [show n - (n - a - 1) - 1 = a by omega] at h2
    show _ ≤ (w (n - d - 1) a + pr w n a r) + fee * (((a :: r).length : Nat) + 1)
    have : fee * ((((a :: r).length : Nat) : Int) + 1) = fee * ((r.length : Int) + 1) + fee := by
      rw [List.length_cons, Int.natCast_add, Int.natCast_one, Int.mul_add, Int.mul_one]
    rw [this]
    omega
theorem hd_ex (fee : Int) : ∀ (m d : Nat), d ≤ m → d + 1 ≤ n → ∃ r, ch n (n - d - 1) r ∧ hd w n fee (d + 1) = pr w n (n - d - 1) r + fee * (r.length + 1) := by
  intro m
  induction m with
  | zero =>
    intro d hm hd'
    have : d = 0 := by omega
    subst this
    refine ⟨[], by show n - 0 - 1 < n; omega, ?_⟩
    rw [hd_succ]
    show mnI [fee + w (n - 0 - 1) (n - 0 - 1 + 1 + 0) + 0] = w (n - 0 - 1) n + fee * ((0 : Nat) + 1)
    rw [show n - 0 - 1 + 1 + 0 = n by omega]
    show fee + w (n - 0 - 1) n + 0 = _
    have : fee * (((0 : Nat) : Int) + 1) = fee := by simp
    omega
  | succ m ih =>
    intro d hm hd'
    have hne : (List.range (d + 1)).map (fun j => fee + w (n - d - 1) (n - d - 1 + 1 + j) + hd w n fee (d - j)) ≠ [] := by
      intro e
      have := congrArg List.length e
      rw [List.length_map, List.length_range] at this
      cases this
    have h1 := (mnI_spec hne).1
    rw [← hd_succ] at h1
    obtain ⟨j, hj, e⟩ := List.mem_map.mp h1
    have hj := List.mem_range.mp hj
    by_cases c : j = d
    · subst c
      refine ⟨[], by show n - j - 1 < n; omega, ?_⟩
      rw [← e, show n - j - 1 + 1 + j = n by omega, Nat.sub_self]
      show fee + w (n - j - 1) n + 0 = w (n - j - 1) n + fee * ((0 : Nat) + 1)
      have : fee * (((0 : Nat) : Int) + 1) = fee := by simp
      omega
    · obtain ⟨r, q1, q2⟩ := ih (d - j - 1) (by omega) (by omega)
      have e1 : n - (d - j - 1) - 1 = n - d - 1 + 1 + j := by omega
      rw [e1] at q1 q2
      rw [show d - j - 1 + 1 = d - j by omega] at q2
      refine ⟨(n - d - 1 + 1 + j) :: r, ⟨by omega, q1⟩, ?_⟩
      rw [← e, q2]
      show _ = (w (n - d - 1) (n - d - 1 + 1 + j) + pr w n (n - d - 1 + 1 + j) r) + fee * ((((n - d - 1 + 1 + j) :: r).length : Nat) + 1)
      have : fee * (((((n - d - 1 + 1 + j) :: r).length : Nat) : Int) + 1) = fee * ((r.length : Int) + 1) + fee := by
        rw [List.length_cons, Int.natCast_add, Int.natCast_one, Int.mul_add, Int.mul_one]
      rw [this]
      omega
variable (w n)
def val (fee : Int) (k : Nat) : Int := (opt w n k 0).getD 0 + fee * k
def bestF (v : Nat → Int) (m : Nat) : Nat := (List.range m).foldl (fun b i => if v (i + 1) < v b then i + 1 else b) 1
variable {w n}
theorem bestF_spec (v : Nat → Int) : ∀ m, 1 ≤ bestF v m ∧ (bestF v m ≤ m ∨ bestF v m = 1) ∧ (∀ k, 1 ≤ k → k ≤ m → v (bestF v m) ≤ v k) ∧ ∀ k, 1 ≤ k → k < bestF v m → v (bestF v m) < v k
  | 0 => ⟨Nat.le_refl _, .inr rfl, fun k h h' => by omega, fun k h h' => by have : bestF v 0 = 1 := rfl; omega⟩
  | m + 1 => by
    obtain ⟨h1, h2, h3, h4⟩ := bestF_spec v m
    have e : bestF v (m + 1) = if v (m + 1) < v (bestF v m) then m + 1 else bestF v m := by
      unfold bestF
      rw [List.range_succ, List.foldl_append]; rfl
    rw [e]
    by_cases c : v (m + 1) < v (bestF v m)
    · rw [if_pos c]
      refine ⟨by omega, .inl (Nat.le_refl _), fun k a b => ?_, fun k a b => ?_⟩
      · by_cases z : k = m + 1
        · rw [z]; exact Int.le_refl _
        · have := h3 k a (by omega); omega
      · have := h3 k a (by omega); omega
    · rw [if_neg c]
      refine ⟨h1, ?_, fun k a b => ?_, h4⟩
      · rcases h2 with h2 | h2
        · exact .inl (by omega)
        · exact .inr h2
      · by_cases z : k = m + 1
        · rw [z]; omega
        · exact h3 k a (by omega)
/-- the best cut comes first -/
theorem best_first (fee : Int) (hn : 1 ≤ n) {r : List Nat} (h : ch n 0 r) :
    val w n fee (bestF (val w n fee) n) < pr w n 0 r + fee * (r.length + 1) ∨ (val w n fee (bestF (val w n fee) n) = pr w n 0 r + fee * (r.length + 1) ∧ (bestF (val w n fee) n - 1 < r.length ∨ (bestF (val w n fee) n - 1 = r.length ∧ (gcut w n (bestF (val w n fee) n - 1) 0 = r ∨ toI (gcut w n (bestF (val w n fee) n - 1) 0) < toI r)))) := by
  obtain ⟨b1, b2, b3, b4⟩ := bestF_spec (val w n fee) n
  obtain ⟨v, e1, l1⟩ := opt_le (w := w) h
  have hlt := ch_lt h
  have hv : val w n fee (r.length + 1) = v + fee * ((r.length : Int) + 1) := by
    unfold val; rw [e1]; rfl
  have h3 := b3 (r.length + 1) (by omega) (by omega)
  rw [hv] at h3
  rcases Int.lt_or_le (val w n fee (bestF (val w n fee) n)) (pr w n 0 r + fee * (r.length + 1)) with c | c
  · exact .inl c
  · have ev : v = pr w n 0 r := by omega
    refine .inr ⟨by omega, ?_⟩
    rcases Nat.lt_or_ge (bestF (val w n fee) n - 1) r.length with d | d
    · exact .inl d
    · refine .inr ?_
      have hb : bestF (val w n fee) n ≤ r.length + 1 := by
        rcases Nat.lt_or_ge (r.length + 1) (bestF (val w n fee) n) with z | z
        · have := b4 (r.length + 1) (by omega) z
          rw [hv] at this; omega
        · exact z
      have hb2 : bestF (val w n fee) n - 1 = r.length := by omega
      rw [hb2]
      exact ⟨rfl, gcut_min h (by rw [e1, ev])⟩
theorem best_in (fee : Int) (hn : 1 ≤ n) : ch n 0 (gcut w n (bestF (val w n fee) n - 1) 0) ∧ (gcut w n (bestF (val w n fee) n - 1) 0).length = bestF (val w n fee) n - 1 ∧
    pr w n 0 (gcut w n (bestF (val w n fee) n - 1) 0) + fee * ((gcut w n (bestF (val w n fee) n - 1) 0).length + 1) = val w n fee (bestF (val w n fee) n) := by
  obtain ⟨b1, b2, b3, b4⟩ := bestF_spec (val w n fee) n
  have hb : bestF (val w n fee) n ≤ n := by omega
  obtain ⟨v, e⟩ := opt_isSome (w := w) (n := n) (bestF (val w n fee) n - 1) 0 (by omega)
  obtain ⟨q1, q2, q3⟩ := gcut_spec e
  refine ⟨q1, q2, ?_⟩
  rw [q2, q3]
  have e2 : bestF (val w n fee) n - 1 + 1 = bestF (val w n fee) n := by omega
  rw [e2] at e
  show v + fee * (((bestF (val w n fee) n - 1 : Nat) : Int) + 1) = (opt w n (bestF (val w n fee) n) 0).getD 0 + fee * ((bestF (val w n fee) n : Nat) : Int)
  rw [e, show ((bestF (val w n fee) n - 1 : Nat) : Int) + 1 = ((bestF (val w n fee) n : Nat) : Int) by omega]; rfl
theorem hd_best (fee : Int) (hn : 1 ≤ n) : hd w n fee n = val w n fee (bestF (val w n fee) n) := by
  obtain ⟨q1, q2, q3⟩ := best_in (w := w) (n := n) fee hn
  have e0 : n - (n - 1) - 1 = 0 := by omega
  have e1 : n - 1 + 1 = n := by omega
  have h1 := hd_le (w := w) (n := n) (r := gcut w n (bestF (val w n fee) n - 1) 0) fee (d := n - 1) (by omega) (by rw [e0]; exact q1)
  rw [e0, e1, q3] at h1
  obtain ⟨r, r1, r2⟩ := hd_ex (w := w) (n := n) fee (n - 1) (n - 1) (Nat.le_refl _) (by omega)
  rw [e0] at r1 r2
  rw [e1] at r2
  rcases best_first (w := w) fee hn r1 with h | h <;> omega
end
end K22
end Ws

set_option Elab.async false
set_option linter.all false
set_option maxRecDepth 100000
set_option maxHeartbeats 400000
namespace Ws
/-- a loop that appends at some turns -/
theorem exFor_opt {α : Type} {enc : α → D} {g : α → Option D} {step : D → Env → Rs (Fl × Env)} {N : Nat} {I : List D → Env → Prop} : ∀ {l : List α} {b : List D} {ε : Env}, b.length + l.length ≤ N → I b ε → (∀ a ∈ l, ∀ b ε, b.length < N → I b ε → ∃ ε', I (b ++ (g a).toList) ε' ∧ step (enc a) ε = .ok (.nx, ε')) →
    ∃ ε', I (b ++ l.filterMap g) ε' ∧ exFor step (l.map enc) ε = .ok (.nx, ε')
  | [], b, ε, _, hi, _ => ⟨ε, by simpa using hi, rfl⟩
  | a :: l, b, ε, hN, hi, h => by
    rw [List.length_cons] at hN
    obtain ⟨ε1, i1, e1⟩ := h a List.mem_cons_self b ε (by omega) hi
    have hl : (b ++ (g a).toList).length + l.length ≤ N := by
      rw [List.length_append]
      cases g a <;> simp <;> omega
    obtain ⟨ε2, i2, e2⟩ := exFor_opt (l := l) (b := b ++ (g a).toList) hl i1 fun c hc => h c (List.mem_cons_of_mem _ hc)
    refine ⟨ε2, ?_, ?_⟩
    · rw [List.filterMap_cons]
      cases hg : g a <;> rw [hg] at i2 <;> simpa using i2
    · rw [List.map_cons, exFor, e1]
      exact e2
theorem idx_rng (f : Nat → D) (m i : Nat) (h : i < m) : idxD (.list ((List.range m).map f)) (.int (i : Nat)) = .ok (f i) := by
  show Rs.of (ixD _ _) = _
  unfold ixD
  rw [if_pos (by omega), Int.toNat_natCast, List.getElem?_map, List.getElem?_range h]; rfl
theorem rng_from {lo hi : Int} (p n : Nat) (hlo : lo = (p : Int)) (hhi : hi = (n : Int)) (h : p ≤ n) (hn : n ≤ 1000000) : rngD lo hi = .ok ((List.range (n - p)).map fun d => .int ((p : Int) + (d : Nat))) := by
  subst hlo hhi
  rw [rngD_ok (n := n - p) (by omega) (by omega) (by omega) (by show n - p ≤ 16777216; omega)]
theorem minL_ints : ∀ l : List Int, minL (l.map .int) = (K22.mnO l).map .int
  | [] => rfl
  | x :: xs => by
    show some (PySem.W.minD (.int x) (xs.map .int)) = some (.int (xs.foldl min x))
    rw [PySem.W.minD_ints]
theorem allOk_ints (l : List Int) : allOk (l.map .int) = true := by
  unfold allOk
  have h1 : ∀ x ∈ l.map PySem.PyData.int, ∃ a, x = .int a := by
    intro x hx
    obtain ⟨v, _, rfl⟩ := List.mem_map.mp hx
    exact ⟨_, rfl⟩
  generalize l.map PySem.PyData.int = xs at *
  refine List.all_eq_true.mpr fun x hx => ?_
  obtain ⟨a, rfl⟩ := h1 x hx
  rw [Bool.and_eq_true]
  refine ⟨by simp [isNone], List.all_eq_true.mpr fun z hz => ?_⟩
  obtain ⟨b, rfl⟩ := h1 z hz
  rfl
namespace K22
open PySem
def optD : Option Int → D
  | none => .none
  | some v => .int v
theorem mind_ints (l : List Int) : biD .mind [.list (l.map .int), .none] = .ok (optD (mnO l)) := by
  show (if allOk _ then Rs.ok ((minL _).getD .none) else .st) = _
  rw [if_pos (allOk_ints l), minL_ints]
  cases mnO l <;> rfl
theorem min_ints (l : List Int) (h : l ≠ []) : biD .min [.list (l.map .int)] = .ok (.int (mnI l)) := by
  show (if allOk _ then Rs.of (minL _) else .st) = _
  rw [if_pos (allOk_ints l), minL_ints]
  cases l with
  | nil => exact absurd rfl h
  | cons x xs => rfl
/-! ### the least prices -/
def rowD (c : List Int) (num : Nat) : D := .list ((List.range (c.length + 1)).map fun p => optD (opt (R c) c.length num p))
def rowsD (c : List Int) (m : Nat) : D := .list ((List.range m).map (rowD c))
theorem row_at (c : List Int) (m i a : Nat) (hi : i < m) (ha : a ≤ c.length) : idxD (rowsD c m) (.int (i : Nat)) = .ok (rowD c i) ∧ idxD (rowD c i) (.int (a : Nat)) = .ok (optD (opt (R c) c.length i a)) :=
  ⟨idx_rng _ _ _ hi, idx_rng _ _ _ (by omega)⟩
def tellO (c : List Int) (i p a : Nat) : Option Int := (opt (R c) c.length i a).map fun v => R c p a + v
theorem lr_f0 (k : Nat) (c : List Int) (m : D) (num : Int) (i p a : Nat) (hp : p < a) (ha : a ≤ c.length) (hn : num = (i : Int) + 1) (row told : List D) (hL : told.length < 100) (s8 : Sl) :
    forStep (call fs (k + 2)) (.nm 8) b_least_rough_f0 (.int (a : Nat)) [.f (encC true c), .f m, .f (.int c.length), .o (rowsD c (i + 1)), .f (.int num), .o (.list row), .f (.int (p : Nat)), .o (.list told), s8] =
      .ok (.nx, [.f (encC true c), .f m, .f (.int c.length), .o (rowsD c (i + 1)), .f (.int num), .o (.list row), .f (.int (p : Nat)), .o (.list (told ++ ((tellO c i p a).map .int).toList)), .f (.int (a : Nat))]) := by
  obtain ⟨r1, r2⟩ := row_at c (i + 1) i a (by omega) ha
  have sb : binD .sub (.int num) (.int 1) = .ok (.int (i : Nat)) := by
    rw [hn, qs]; congr 2; omega
  have rk := rough_ok k true c p a hp ha
  unfold tellO
  cases e : opt (R c) c.length i a with
  | none =>
    rw [e] at r2
    have nn : cmpD .isn (optD none) .none = .ok (.bool false) := rfl
    simp (config := { implicitDefEqProofs := false }) [exSs, ev, evs, evi, evc, evo, tyIs, retv, noMut, noMuts, put, puto, wipeE, ixD, frzE, inTD, notD, negD, own, lstD, setD, intOf, isD, isNone, forStep, b_least_rough_f0, r1, r2, sb, nn]
  | some v =>
    rw [e] at r2
    have nn : cmpD .isn (optD (some v)) .none = .ok (.bool true) := rfl
    have ad : binD .add (.int (R c p a)) (optD (some v)) = .ok (.int (R c p a + v)) := rfl
    simp (config := { implicitDefEqProofs := false }) [exSs, ev, evs, evi, evc, evo, tyIs, retv, noMut, noMuts, put, puto, wipeE, ixD, frzE, inTD, notD, negD, own, lstD, setD, intOf, isD, isNone, forStep, b_least_rough_f0, r1, r2, sb, nn, rk, ad, LIM, eq_true (show told.length < 16777216 by omega)]
theorem opt_succ (c : List Int) (i p : Nat) : opt (R c) c.length (i + 1) p = mnO ((List.range (c.length - p)).filterMap fun d => tellO c i p (p + 1 + d)) := rfl
theorem lr_f1 (k : Nat) (c : List Int) (hc : c.length ≤ 16) (m : D) (num : Int) (i p : Nat) (hp : p ≤ c.length) (hn : num = (i : Int) + 1) (row : List D) (hL : row.length < 100) (s6 s7 s8 : Sl) :
    ∃ t7 t8, forStep (call fs (k + 2)) (.nm 6) b_least_rough_f1 (.int (p : Nat)) [.f (encC true c), .f m, .f (.int c.length), .o (rowsD c (i + 1)), .f (.int num), .o (.list row), s6, s7, s8] =
      .ok (.nx, [.f (encC true c), .f m, .f (.int c.length), .o (rowsD c (i + 1)), .f (.int num), .o (.list (row ++ [optD (opt (R c) c.length (i + 1) p)])), .f (.int (p : Nat)), t7, t8]) := by
  have hr : rngD ((p : Int) + 1) ((c.length : Int) + 1) = .ok ((List.range (c.length - p)).map fun d => .int ((p : Int) + 1 + (d : Nat))) := by
    rw [rng_from (p + 1) (c.length + 1) (by omega) (by omega) (by omega) (by omega), show c.length + 1 - (p + 1) = c.length - p by omega]; rfl
  obtain ⟨ε', ⟨t8, hs⟩, e'⟩ := exFor_opt (N := 50) (enc := fun d : Nat => .int ((p : Int) + 1 + (d : Nat))) (g := fun d => (tellO c i p (p + 1 + d)).map .int) (l := List.range (c.length - p)) (b := []) (step := forStep (call fs (k + 2)) (.nm 8) b_least_rough_f0)
    (ε := [.f (encC true c), .f m, .f (.int c.length), .o (rowsD c (i + 1)), .f (.int num), .o (.list row), .f (.int (p : Nat)), .o (.list []), s8])
    (I := fun b ε => ∃ t8, ε = [.f (encC true c), .f m, .f (.int c.length), .o (rowsD c (i + 1)), .f (.int num), .o (.list row), .f (.int (p : Nat)), .o (.list b), t8]) (by rw [List.length_range]; show 0 + _ ≤ 50; omega) ⟨_, rfl⟩
    (fun d hd b ε hb ⟨t8, he⟩ => by
      have hd := List.mem_range.mp hd
      subst he
      exact ⟨_, ⟨_, rfl⟩, lr_f0 k c m num i p (p + 1 + d) (by omega) (by omega) hn row b (by omega) t8⟩)
  have hm : ([] ++ (List.range (c.length - p)).filterMap fun d => (tellO c i p (p + 1 + d)).map PyData.int) = ((List.range (c.length - p)).filterMap fun d => tellO c i p (p + 1 + d)).map .int := by
    rw [List.nil_append, List.map_filterMap]
  rw [hm] at hs
  have md := mind_ints ((List.range (c.length - p)).filterMap fun d => tellO c i p (p + 1 + d))
  rw [← opt_succ] at md
  generalize ((List.range (c.length - p)).filterMap fun d => tellO c i p (p + 1 + d)).map PyData.int = T at hs md
  refine ⟨.o (.list T), t8, ?_⟩
  simp (config := { implicitDefEqProofs := false }) [exSs, ev, evs, evi, evc, evo, tyIs, retv, noMut, noMuts, put, puto, wipeE, ixD, frzE, inTD, notD, negD, own, lstD, setD, intOf, isD, isNone, forStep, b_least_rough_f1, qa, hr]
  rw [e', hs]
  simp (config := { implicitDefEqProofs := false }) [exSs, ev, evs, evi, evc, evo, tyIs, retv, noMut, noMuts, put, puto, wipeE, ixD, frzE, inTD, notD, negD, own, lstD, setD, intOf, isD, isNone, md, LIM, eq_true (show row.length < 16777216 by omega)]
end K22
end Ws

set_option Elab.async false
set_option linter.all false
set_option maxRecDepth 100000
set_option maxHeartbeats 400000
namespace Ws
/-- a loop over a range, turn by turn -/
theorem exFor_from {enc : Nat → D} {step : D → Env → Rs (Fl × Env)} {I : Nat → Env → Prop} : ∀ (m j : Nat) {ε : Env}, I j ε → (∀ i, j ≤ i → i < j + m → ∀ ε, I i ε → ∃ ε', I (i + 1) ε' ∧ step (enc i) ε = .ok (.nx, ε')) →
    ∃ ε', I (j + m) ε' ∧ exFor step ((List.range' j m).map enc) ε = .ok (.nx, ε')
  | 0, j, ε, h, _ => ⟨ε, h, rfl⟩
  | m + 1, j, ε, h, hs => by
    obtain ⟨ε1, i1, e1⟩ := hs j (Nat.le_refl _) (by omega) ε h
    obtain ⟨ε2, i2, e2⟩ := exFor_from m (j + 1) i1 fun i h1 h2 => hs i (by omega) (by omega)
    refine ⟨ε2, by rw [show j + (m + 1) = j + 1 + m by omega]; exact i2, ?_⟩
    rw [List.range'_succ, List.map_cons, exFor, e1]
    exact e2
theorem exFor_rangeI {enc : Nat → D} {step : D → Env → Rs (Fl × Env)} {I : Nat → Env → Prop} {m : Nat} {ε : Env} (h : I 0 ε) (hs : ∀ i, i < m → ∀ ε, I i ε → ∃ ε', I (i + 1) ε' ∧ step (enc i) ε = .ok (.nx, ε')) :
    ∃ ε', I m ε' ∧ exFor step ((List.range m).map enc) ε = .ok (.nx, ε') := by
  obtain ⟨ε', h1, h2⟩ := exFor_from m 0 h fun i _ hi => hs i (by omega)
  rw [Nat.zero_add] at h1
  exact ⟨ε', h1, by rw [List.range_eq_range']; exact h2⟩
theorem rev_rng (lo : Int) (N : Nat) : ((List.range N).map fun i : Nat => PySem.PyData.int (lo + (i : Nat))).reverse = (List.range N).map fun i : Nat => .int (lo + N - 1 - (i : Nat)) := by
  refine List.ext_getElem? fun i => ?_
  by_cases h : i < N
  · rw [List.getElem?_reverse (by rw [List.length_map, List.length_range]; exact h), List.length_map, List.length_range, List.getElem?_map, List.getElem?_map, List.getElem?_range (by omega), List.getElem?_range h]
    show some (PySem.PyData.int (lo + ((N - 1 - i : Nat) : Int))) = some (PySem.PyData.int (lo + (N : Int) - 1 - (i : Nat)))
    rw [show lo + ((N - 1 - i : Nat) : Int) = lo + (N : Int) - 1 - (i : Nat) by omega]
  · rw [List.getElem?_eq_none (by rw [List.length_reverse, List.length_map, List.length_range]; omega), List.getElem?_eq_none (by rw [List.length_map, List.length_range]; omega)]
/-- a while loop that counts up to the first -/
theorem exWh_to {c : Env → Rs Bool} {step : Env → Rs (Fl × Env)} {I : Nat → Env → Prop} {P : Nat → Bool} {t : Nat} (ht : P t = true) (hc : ∀ a ε, a ≤ t → I a ε → c ε = .ok (!P a)) (hs : ∀ a ε, a < t → I a ε → ∃ ε', I (a + 1) ε' ∧ step ε = .ok (.nx, ε')) :
    ∀ (N a : Nat) (ε : Env), a ≤ t → t < a + N → (∀ b, a ≤ b → b < t → P b = false) → I a ε → ∃ ε', I t ε' ∧ exWh c step N ε = .ok (.nx, ε')
  | 0, a, ε, h1, h2, _, _ => by omega
  | N + 1, a, ε, h1, h2, hp, hi => by
    by_cases e : a = t
    · subst e
      refine ⟨ε, hi, ?_⟩
      rw [exWh, hc a ε h1 hi, ht]; rfl
    · obtain ⟨ε1, i1, e1⟩ := hs a ε (by omega) hi
      obtain ⟨ε2, i2, e2⟩ := exWh_to ht hc hs N (a + 1) ε1 (by omega) (by omega) (fun b hb hb' => hp b (by omega) hb') i1
      refine ⟨ε2, i2, ?_⟩
      rw [exWh, hc a ε h1 hi, hp a (Nat.le_refl _) (by omega)]
      show (step ε).bnd _ = _
      rw [e1]
      exact e2
@[simp] theorem exS_whil (φ : Nat → List D → Rs D) (e : E) (body : List S) (ε : Env) : exS φ (.whil e body) ε = exWh (fun ε' => (ev φ e (ε'.map frzS)).bnd fun x => .ok (truth x)) (fun ε' => exSs φ body ε') WH ε := by simp only [exS]
@[simp] theorem exS_aug (φ : Nat → List D → Rs D) (i : Nat) (o : Op2) (e : E) (lk : List Nat) (ε : Env) : exS φ (.aug i o e lk) ε = (ev φ (.var i) (frzE ε lk)).bnd fun x => (ev φ e (frzE ε lk)).bnd fun y => (binD o x y).bnd fun z => match z with
    | .int n => .ok (.nx, put (frzE ε lk) i (.int n))
    | _ => .st := by
  simp only [exS]
  all_goals rfl
namespace K22
open PySem
theorem rowsD_succ (c : List Int) (m : Nat) : PyData.list ((List.range m).map (rowD c) ++ [rowD c m]) = rowsD c (m + 1) := by
  unfold rowsD
  rw [List.range_succ, List.map_append]; rfl
theorem lr_f2 (k : Nat) (c : List Int) (hc : c.length ≤ 16) (m : D) (i : Nat) (hi : i < 50) (s4 s5 s6 s7 s8 : Sl) :
    ∃ t5 t6 t7 t8, forStep (call fs (k + 2)) (.nm 4) b_least_rough_f2 (.int (1 + (i : Nat))) [.f (encC true c), .f m, .f (.int c.length), .o (rowsD c (i + 1)), s4, s5, s6, s7, s8] =
      .ok (.nx, [.f (encC true c), .f m, .f (.int c.length), .o (rowsD c (i + 2)), .f (.int (1 + (i : Nat))), t5, t6, t7, t8]) := by
  have hr : rngD 0 ((c.length : Int) + 1) = .ok ((List.range (c.length + 1)).map fun d => .int (d : Nat)) := rng_len (n := c.length + 1) (by omega)
  obtain ⟨ε', ⟨t6, t7, t8, hs⟩, e'⟩ := exFor_app (N := 50) (enc := fun d : Nat => .int (d : Nat)) (g := fun p => optD (opt (R c) c.length (i + 1) p)) (l := List.range (c.length + 1)) (b := []) (step := forStep (call fs (k + 2)) (.nm 6) b_least_rough_f1)
    (ε := [.f (encC true c), .f m, .f (.int c.length), .o (rowsD c (i + 1)), .f (.int (1 + (i : Nat))), .o (.list []), s6, s7, s8])
    (I := fun b ε => ∃ t6 t7 t8, ε = [.f (encC true c), .f m, .f (.int c.length), .o (rowsD c (i + 1)), .f (.int (1 + (i : Nat))), .o (.list b), t6, t7, t8]) (by rw [List.length_range]; show 0 + _ ≤ 50; omega) ⟨_, _, _, rfl⟩
    (fun p hp b ε hb ⟨t6, t7, t8, he⟩ => by
      have hp := List.mem_range.mp hp
      subst he
      obtain ⟨u7, u8, e⟩ := lr_f1 k c hc m (1 + (i : Nat)) i p (by omega) (by omega) b (by omega) t6 t7 t8
      exact ⟨_, ⟨_, _, _, rfl⟩, e⟩)
  rw [List.nil_append] at hs
  have hrow : PyData.list ((List.range (c.length + 1)).map fun p => optD (opt (R c) c.length (i + 1) p)) = rowD c (i + 1) := rfl
  rw [hrow] at hs
  refine ⟨.f (rowD c (i + 1)), t6, t7, t8, ?_⟩
  have hR : rowsD c (i + 1) = .list ((List.range (i + 1)).map (rowD c)) := rfl
  simp (config := { implicitDefEqProofs := false }) [exSs, ev, evs, evi, evc, evo, tyIs, retv, noMut, noMuts, put, puto, wipeE, ixD, frzE, inTD, notD, negD, own, lstD, setD, intOf, isD, isNone, forStep, b_least_rough_f2, qa, hr]
  rw [e', hs]
  have hlen : ((List.range (i + 1)).map (rowD c)).length < LIM := by rw [List.length_map, List.length_range]; exact Nat.lt_of_lt_of_le (show i + 1 < 100 by omega) (by decide)
  have hrs := rowsD_succ c (i + 1)
  rw [hR]
  generalize (List.range (i + 1)).map (rowD c) = Rw at *
  simp (config := { implicitDefEqProofs := false }) [exSs, ev, evs, evi, evc, evo, tyIs, retv, noMut, noMuts, put, puto, wipeE, ixD, frzE, inTD, notD, negD, own, lstD, setD, intOf, isD, isNone, hlen, hrs]
theorem least_rough_ok (k : Nat) (c : List Int) (hc : c.length ≤ 16) (m : Nat) (hm : m ≤ 40) : call fs (k + 3) 14 [encC true c, .int m] = .ok (rowsD c (m + 1)) := by
  have hr0 := rng_len (n := c.length) (by omega)
  have hr : rngD 1 ((m : Int) + 1) = .ok ((List.range m).map fun d => .int (1 + (d : Nat))) := by
    rw [rng_from 1 (m + 1) (by omega) (by omega) (by omega) (by omega), show m + 1 - 1 = m by omega]; rfl
  have rl : (List.range (c.length + 1)).map (fun p => optD (opt (R c) c.length 0 p)) = ((List.range c.length).map fun _ => PyData.none) ++ [.int 0] := by
    rw [List.range_succ, List.map_append]
    have h1 : (List.range c.length).map (fun p => optD (opt (R c) c.length 0 p)) = (List.range c.length).map fun _ => PyData.none := by
      refine List.map_congr_left fun p hp => ?_
      have := List.mem_range.mp hp
      show optD (if p = c.length then some 0 else none) = _
      rw [if_neg (by omega)]; rfl
    have h2 : [c.length].map (fun p => optD (opt (R c) c.length 0 p)) = [.int 0] := by
      show [optD (if c.length = c.length then some 0 else none)] = _
      rw [if_pos rfl]; rfl
    rw [h1, h2]
  have r0 : PyData.list [PyData.list (((List.range c.length).map fun _ => PyData.none) ++ [.int 0])] = rowsD c 1 := by
    rw [← rl]; rfl
  have ad : binD .add (.list ((List.range c.length).map fun _ => PyData.none)) (.list [.int 0]) = .ok (.list (((List.range c.length).map fun _ => PyData.none) ++ [.int 0])) := by
    refine if_pos ?_
    rw [List.length_map, List.length_range]
    show c.length + 1 ≤ 16777216; omega
  obtain ⟨ε', ⟨t4, t5, t6, t7, t8, hs⟩, e'⟩ := exFor_rangeI (enc := fun d : Nat => .int (1 + (d : Nat))) (m := m) (step := forStep (call fs (k + 2)) (.nm 4) b_least_rough_f2)
    (ε := [.f (encC true c), .f (.int m), .f (.int c.length), .o (rowsD c 1), .u, .u, .u, .u, .u])
    (I := fun i ε => ∃ t4 t5 t6 t7 t8, ε = [.f (encC true c), .f (.int m), .f (.int c.length), .o (rowsD c (i + 1)), t4, t5, t6, t7, t8]) ⟨_, _, _, _, _, rfl⟩
    (fun i hi ε ⟨t4, t5, t6, t7, t8, he⟩ => by
      subst he
      obtain ⟨u5, u6, u7, u8, e⟩ := lr_f2 k c hc (.int m) i (by omega) t4 t5 t6 t7 t8
      exact ⟨_, ⟨_, _, _, _, _, rfl⟩, e⟩)
  rw [call_at at_least_rough rfl]
  simp (config := { implicitDefEqProofs := false }) [exSs, ev, evs, evi, evc, evo, tyIs, retv, noMut, noMuts, put, puto, wipeE, ixD, frzE, inTD, notD, negD, own, lstD, setD, intOf, isD, isNone, f_least_rough, b_least_rough, len_ints, hr0]
  rw [lcL_map (enc := fun i : Nat => PyData.int (i : Nat)) (f := fun _ => PyData.none) fun v hv => by simp (config := { implicitDefEqProofs := false }) [exSs, ev, evs, evi, evc, evo, tyIs, retv, noMut, noMuts, put, puto, wipeE, ixD, frzE, inTD, notD, negD, own, lstD, setD, intOf, isD, isNone]]
  simp (config := { implicitDefEqProofs := false }) [exSs, ev, evs, evi, evc, evo, tyIs, retv, noMut, noMuts, put, puto, wipeE, ixD, frzE, inTD, notD, negD, own, lstD, setD, intOf, isD, isNone, ad, r0, qa, hr]
  have p1 : putF [Sl.f (encC true c), .f (.int m), .f (.int c.length), .u, .u, .u, .u, .u, .u] (.nm 3) (rowsD c 1) true = .ok [.f (encC true c), .f (.int m), .f (.int c.length), .o (rowsD c 1), .u, .u, .u, .u, .u] := rfl
  simp (config := { implicitDefEqProofs := false }) [exSs, ev, evs, evi, evc, evo, tyIs, retv, noMut, noMuts, put, puto, wipeE, ixD, frzE, inTD, notD, negD, own, lstD, setD, intOf, isD, isNone, p1, qa, hr]
  rw [e', hs]
  simp (config := { implicitDefEqProofs := false }) [exSs, ev, evs, evi, evc, evo, tyIs, retv, noMut, noMuts, put, puto, wipeE, ixD, frzE, inTD, notD, negD, own, lstD, setD, intOf, isD, isNone]
end K22
end Ws

set_option Elab.async false
set_option linter.all false
set_option maxRecDepth 100000
set_option maxHeartbeats 400000
namespace Ws
namespace K22
open PySem
theorem eq_int_none (a : Int) : cmpD .eq (.int a) .none = .ok (.bool false) := rfl
theorem is_least_step_ok (k : Nat) (c : List Int) (M num p a : Nat) (hM : num + 1 < M) (hp : p < a) (ha : a ≤ c.length) : call fs (k + 3) 16 [encC true c, rowsD c M, .int num, .int p, .int a] = .ok (.bool (isStep (R c) c.length num p a)) := by
  obtain ⟨r1, r2⟩ := row_at c M num a (by omega) ha
  obtain ⟨r3, r4⟩ := row_at c M (num + 1) p hM (by omega)
  have rk := rough_ok k true c p a hp ha
  have r3 : idxD (rowsD c M) (.int ((num : Int) + 1)) = .ok (rowD c (num + 1)) := r3
  rw [call_at at_is_least_step rfl]
  unfold isStep
  cases e : opt (R c) c.length num a with
  | none =>
    rw [e] at r2
    have nn : cmpD .is_ (optD none) .none = .ok (.bool true) := rfl
    simp (config := { implicitDefEqProofs := false }) [exSs, ev, evs, evi, evc, evo, tyIs, retv, noMut, noMuts, put, puto, wipeE, ixD, frzE, inTD, notD, negD, own, lstD, setD, intOf, isD, isNone, f_is_least_step, b_is_least_step, r1, r2, nn, optD]
  | some va =>
    rw [e] at r2
    have nn : cmpD .is_ (optD (some va)) .none = .ok (.bool false) := rfl
    cases e2 : opt (R c) c.length (num + 1) p with
    | none =>
      rw [e2] at r4
      simp (config := { implicitDefEqProofs := false }) [exSs, ev, evs, evi, evc, evo, tyIs, retv, noMut, noMuts, put, puto, wipeE, ixD, frzE, inTD, notD, negD, own, lstD, setD, intOf, isD, isNone, f_is_least_step, b_is_least_step, r1, r2, r3, r4, rk, nn, optD, qa, eq_int_none]
    | some v =>
      rw [e2] at r4
      simp (config := { implicitDefEqProofs := false }) [exSs, ev, evs, evi, evc, evo, tyIs, retv, noMut, noMuts, put, puto, wipeE, ixD, frzE, inTD, notD, negD, own, lstD, setD, intOf, isD, isNone, f_is_least_step, b_is_least_step, r1, r2, r3, r4, rk, nn, optD, qa, eqD_int']
      by_cases z : R c p a + va = v
      · simp [z]
      · have z2 : ¬ v = R c p a + va := fun h => z h.symm
        simp [z, z2]
theorem fc_f0 (k : Nat) (c : List Int) (hc : c.length ≤ 16) (m : Nat) (j p : Nat) (hj : j + 2 ≤ m) {v : Int} (hv : opt (R c) c.length (j + 2) p = some v) (num : Int) (hn : num = ((j + 1 : Nat) : Int)) (told : List D) (hL : told.length < 100) (s5 s6 : Sl) :
    forStep (call fs (k + 3)) (.nm 5) b_first_cut_f0 (.int num) [.f (encC true c), .f (.int m), .f (rowsD c (m + 1)), .o (.list told), .f (.int (p : Nat)), s5, s6] =
      .ok (.nx, [.f (encC true c), .f (.int m), .f (rowsD c (m + 1)), .o (.list (told ++ [.int (nxt (R c) c.length (j + 1) p : Nat)])), .f (.int (nxt (R c) c.length (j + 1) p : Nat)), .f (.int num), .f (.int (nxt (R c) c.length (j + 1) p : Nat))]) := by
  obtain ⟨va, h1, h2, h3, h4, h5⟩ := nxt_spec hv
  have hs : isStep (R c) c.length (j + 1) p (nxt (R c) c.length (j + 1) p) = true := isStep_iff.mpr ⟨va, h3, by rw [hv, h4]⟩
  generalize nxt (R c) c.length (j + 1) p = t at *
  subst hn
  obtain ⟨ε', he, e'⟩ := exWh_to (P := isStep (R c) c.length (j + 1) p) (t := t) hs (c := fun ε' => (ev (call fs (k + 3)) (.not_ (.nomut (.call 16 [(.var 0), (.var 2), (.var 5), (.var 4), (.var 6)]))) (ε'.map frzS)).bnd fun x => .ok (truth x)) (step := fun ε' => exSs (call fs (k + 3)) [(.aug 6 .add (.lit (.int (1))) [])] ε')
    (I := fun a ε => p < a ∧ ε = [.f (encC true c), .f (.int m), .f (rowsD c (m + 1)), .o (.list told), .f (.int (p : Nat)), .f (.int ((j + 1 : Nat) : Int)), .f (.int (a : Nat))])
    (fun a ε ha ⟨hpa, he⟩ => by
      subst he
      have st := is_least_step_ok k c (m + 1) (j + 1) p a (by omega) hpa (by omega)
      show (ev _ _ (List.map frzS _)).bnd _ = _
      have st' : call fs (k + 3) 16 [encC true c, rowsD c (m + 1), .int ((j : Int) + 1), .int p, .int a] = .ok (.bool (isStep (R c) c.length (j + 1) p a)) := st
      simp (config := { implicitDefEqProofs := false }) [exSs, ev, evs, evi, evc, evo, tyIs, retv, noMut, noMuts, put, puto, wipeE, ixD, frzE, inTD, notD, negD, own, lstD, setD, intOf, isD, isNone, st'])
    (fun a ε ha ⟨hpa, he⟩ => by
      subst he
      exact ⟨_, ⟨by omega, rfl⟩, by show exSs _ _ _ = _; simp (config := { implicitDefEqProofs := false }) [exSs, ev, evs, evi, evc, evo, tyIs, retv, noMut, noMuts, put, puto, wipeE, ixD, frzE, inTD, notD, negD, own, lstD, setD, intOf, isD, isNone, qa]⟩) WH (p + 1)
    [.f (encC true c), .f (.int m), .f (rowsD c (m + 1)), .o (.list told), .f (.int (p : Nat)), .f (.int ((j + 1 : Nat) : Int)), .f (.int ((p + 1 : Nat) : Int))] (by omega) (by show t < p + 1 + 1000000; omega) (fun b hb hb' => h5 b (by omega) hb') ⟨by omega, rfl⟩
  obtain ⟨_, he⟩ := he
  have e2 : exWh (fun ε' => (ev (call fs (k + 3)) (.not_ (.nomut (.call 16 [(.var 0), (.var 2), (.var 5), (.var 4), (.var 6)]))) (ε'.map frzS)).bnd fun x => .ok (truth x)) (fun ε' => exSs (call fs (k + 3)) [(.aug 6 .add (.lit (.int (1))) [])] ε') WH
    [.f (encC true c), .f (.int m), .f (rowsD c (m + 1)), .o (.list told), .f (.int (p : Nat)), .f (.int ((j + 1 : Nat) : Int)), .f (.int ((p : Int) + 1))] = .ok (.nx, ε') := e'
  have c1 : exS (call fs (k + 3)) (.asg (.nm 6) (.bin .add (.wv 4) (.lit (.int (1)))) true []) [.f (encC true c), .f (.int m), .f (rowsD c (m + 1)), .o (.list told), .f (.int (p : Nat)), .f (.int ((j + 1 : Nat) : Int)), s6] = .ok (.nx, [.f (encC true c), .f (.int m), .f (rowsD c (m + 1)), .o (.list told), .f (.int (p : Nat)), .f (.int ((j + 1 : Nat) : Int)), .f (.int ((p : Int) + 1))]) := by
    simp (config := { implicitDefEqProofs := false }) [exSs, ev, evs, evi, evc, evo, tyIs, retv, noMut, noMuts, put, puto, wipeE, ixD, frzE, inTD, notD, negD, own, lstD, setD, intOf, isD, isNone, qa]
  unfold forStep
  rw [bnd_nm1, Rs.bnd_ok]
  show exSs _ b_first_cut_f0 [.f (encC true c), .f (.int m), .f (rowsD c (m + 1)), .o (.list told), .f (.int (p : Nat)), .f (.int ((j + 1 : Nat) : Int)), s6] = _
  unfold b_first_cut_f0
  rw [exSs_nx c1]
  rw [exSs_nx (ε' := ε') (by rw [exS_whil]; exact e2), he]
  simp (config := { implicitDefEqProofs := false }) [exSs, ev, evs, evi, evc, evo, tyIs, retv, noMut, noMuts, put, puto, wipeE, ixD, frzE, inTD, notD, negD, own, lstD, setD, intOf, isD, isNone, LIM, eq_true (show told.length < 16777216 by omega)]
theorem first_cut_ok (k : Nat) (c : List Int) (hc : c.length ≤ 16) (m : Nat) (h1 : 1 ≤ m) (h2 : m ≤ c.length) : call fs (k + 4) 15 [encC true c, .int m] = .ok (.tuple ((toI (gcut (R c) c.length (m - 1) 0)).map .int)) := by
  have lr := least_rough_ok k c hc m (by omega)
  have hr : rngD 1 (m : Int) = .ok ((List.range (m - 1)).map fun d => .int (1 + (d : Nat))) := by
    rw [rng_from 1 m (by omega) (by omega) (by omega) (by omega)]; rfl
  have hrv : ((List.range (m - 1)).map fun d : Nat => PyData.int (1 + (d : Nat))).reverse = (List.range (m - 1)).map fun d : Nat => .int ((m : Int) - 1 - d) := by
    rw [rev_rng]
    refine List.map_congr_left fun d _ => ?_
    rw [show (1 : Int) + ((m - 1 : Nat) : Int) - 1 - (d : Nat) = (m : Int) - 1 - d by omega]
  obtain ⟨v0, hv0⟩ := opt_isSome (w := R c) (n := c.length) (m - 1) 0 (by omega)
  obtain ⟨ε', ⟨told, p, s5, s6, q1, q2, q3, hs⟩, e'⟩ := exFor_rangeI (enc := fun d : Nat => .int ((m : Int) - 1 - d)) (m := m - 1) (step := forStep (call fs (k + 3)) (.nm 5) b_first_cut_f0)
    (ε := [.f (encC true c), .f (.int m), .f (rowsD c (m + 1)), .o (.list []), .f (.int 0), .u, .u])
    (I := fun i ε => ∃ (told : List Nat) (p : Nat) (s5 s6 : Sl), told.length = i ∧ (∃ v, opt (R c) c.length (m - 1 - i + 1) p = some v) ∧ gcut (R c) c.length (m - 1) 0 = told ++ gcut (R c) c.length (m - 1 - i) p ∧
      ε = [.f (encC true c), .f (.int m), .f (rowsD c (m + 1)), .o (.list ((toI told).map .int)), .f (.int (p : Nat)), s5, s6])
    ⟨[], 0, _, _, rfl, ⟨v0, hv0⟩, rfl, rfl⟩
    (fun i hi ε ⟨told, p, s5, s6, q1, ⟨v, q2⟩, q3, he⟩ => by
      subst he
      have ej : m - 1 - i = (m - 2 - i) + 1 := by omega
      rw [ej] at q2 q3
      obtain ⟨va, _, _, g3, _, _⟩ := nxt_spec q2
      have hq := fc_f0 k c hc m (m - 2 - i) p (by omega) q2 ((m : Int) - 1 - i) (by omega) ((toI told).map .int) (by rw [List.length_map, toI, List.length_map]; omega) s5 s6
      refine ⟨_, ⟨told ++ [nxt (R c) c.length (m - 2 - i + 1) p], nxt (R c) c.length (m - 2 - i + 1) p, .f (.int ((m : Int) - 1 - i)), .f (.int (nxt (R c) c.length (m - 2 - i + 1) p : Nat)), by rw [List.length_append, q1]; rfl, ⟨va, ?_⟩, ?_, ?_⟩, hq⟩
      · rw [show m - 1 - (i + 1) + 1 = m - 2 - i + 1 by omega]; exact g3
      · rw [q3, show m - 1 - (i + 1) = m - 2 - i by omega, List.append_assoc]; rfl
      · simp [toI])
  rw [show m - 1 - (m - 1) = 0 by omega] at q3
  have q4 : gcut (R c) c.length (m - 1) 0 = told := by rw [q3]; exact List.append_nil _
  rw [call_at at_first_cut rfl, q4]
  simp (config := { implicitDefEqProofs := false }) [exSs, ev, evs, evi, evc, evo, tyIs, retv, noMut, noMuts, put, puto, wipeE, ixD, frzE, inTD, notD, negD, own, lstD, setD, intOf, isD, isNone, f_first_cut, b_first_cut, lr, qs, hr, hrv, eq_true (show (-1 : Int) ≤ (m : Int) - 1 by omega)]
  rw [e', hs]
  simp (config := { implicitDefEqProofs := false }) [exSs, ev, evs, evi, evc, evo, tyIs, retv, noMut, noMuts, put, puto, wipeE, ixD, frzE, inTD, notD, negD, own, lstD, setD, intOf, isD, isNone, bt]
theorem stretches_ok (k : Nat) (q : Bool) (c : List Int) (h : okC c) (m : Nat) (h1 : 1 ≤ m) (h2 : m ≤ 16) : call fs (k + 5) 17 [encC q c, .int m] = .ok (if m ≤ c.length then .tuple ((toI (gcut (R c) c.length (m - 1) 0)).map .int) else .none) := by
  have ic := is_curve_ok (k + 1) q c h
  have tc := tupled_curve (k + 1) q c
  have nc := nm_curve c
  have ib : call fs (k + 4) 2 [.int m, .int 1, .int 16] = .ok (.bool true) := by
    rw [is_between_int, decide_eq_true (show (1 : Int) ≤ m by omega), decide_eq_true (show (m : Int) ≤ 16 by omega)]; rfl
  have ln : biD .len [encC true c] = .ok (.int c.length) := len_ints true c
  rw [call_at at_stretches rfl]
  by_cases hm : m ≤ c.length
  · have fc := first_cut_ok k c h.2.1 m h1 hm
    have nt := nm_ints (toI (gcut (R c) c.length (m - 1) 0))
    have gt : cmpD .gt (.int (m : Nat)) (.int (c.length : Nat)) = .ok (.bool false) := by rw [cmp_gt, decide_eq_false (by omega)]
    rw [if_pos hm]
    generalize encC true c = C at *
    simp (config := { implicitDefEqProofs := false }) [exSs, ev, evs, evi, evc, evo, tyIs, retv, noMut, noMuts, put, puto, wipeE, ixD, frzE, inTD, notD, negD, own, lstD, setD, intOf, isD, isNone, f_stretches, b_stretches, ic, tc, nc, ib, need_true, ln, gt, fc, nt]
  · have gt : cmpD .gt (.int (m : Nat)) (.int (c.length : Nat)) = .ok (.bool true) := by rw [cmp_gt, decide_eq_true (by omega)]
    rw [if_neg hm]
    generalize encC true c = C at *
    simp (config := { implicitDefEqProofs := false }) [exSs, ev, evs, evi, evc, evo, tyIs, retv, noMut, noMuts, put, puto, wipeE, ixD, frzE, inTD, notD, negD, own, lstD, setD, intOf, isD, isNone, f_stretches, b_stretches, ic, tc, nc, ib, need_true, ln, gt]
theorem best_cut_ok (k : Nat) (q : Bool) (c : List Int) (h : okC c) (fee : Int) (hf : 0 ≤ fee ∧ fee ≤ 9999) : call fs (k + 5) 18 [encC q c, .int fee] = .ok (.tuple ((toI (gcut (R c) c.length (bestF (val (R c) c.length fee) c.length - 1) 0)).map .int)) := by
  have ic := is_curve_ok (k + 1) q c h
  have tc := tupled_curve (k + 1) q c
  have nc := nm_curve c
  have ib : call fs (k + 4) 2 [.int fee, .int 0, .int 9999] = .ok (.bool true) := by
    rw [is_between_int, decide_eq_true hf.1, decide_eq_true hf.2]; rfl
  have ln : biD .len [encC true c] = .ok (.int c.length) := len_ints true c
  have hc := h.2.1
  have lr : call fs (k + 4) 14 [encC true c, .int (c.length : Nat)] = .ok (rowsD c (c.length + 1)) := least_rough_ok (k + 1) c hc c.length (by omega)
  have hr : rngD 1 ((c.length : Int) + 1) = .ok ((List.range c.length).map fun d => .int (1 + (d : Nat))) := by
    rw [rng_from 1 (c.length + 1) (by omega) (by omega) (by omega) (by omega), show c.length + 1 - 1 = c.length by omega]; rfl
  obtain ⟨b1, b2, _, _⟩ := bestF_spec (val (R c) c.length fee) c.length
  have h1 := h.1
  have mm : ∀ x : Int, binD .mul (.int fee) (.int x) = .ok (.int (fee * x)) := fun x => mu _ _ (by
    have e1 : (-(2 ^ 64) : Int) < fee := by omega
    have e2 : fee < (2 ^ 64 : Int) := by omega
    simp only [mulOk, Bool.or_eq_true, Bool.and_eq_true, decide_eq_true_eq]
    exact .inl ⟨e1, e2⟩)
  have rw0 : ∀ b : Nat, 1 ≤ b → b ≤ c.length → ∃ v, idxD (rowsD c (c.length + 1)) (.int (b : Nat)) = .ok (rowD c b) ∧ idxD (rowD c b) (.int 0) = .ok (.int v) ∧ v + fee * b = val (R c) c.length fee b := by
    intro b hb1 hb2
    obtain ⟨v, hv⟩ := opt_isSome (w := R c) (n := c.length) (b - 1) 0 (by omega)
    rw [show b - 1 + 1 = b by omega] at hv
    obtain ⟨r1, r2⟩ := row_at c (c.length + 1) b 0 (by omega) (by omega)
    rw [hv] at r2
    exact ⟨v, r1, r2, by unfold val; rw [hv]; rfl⟩
  obtain ⟨ε', ⟨s4, hs⟩, e'⟩ := exFor_rangeI (enc := fun d : Nat => .int (1 + (d : Nat))) (m := c.length) (step := forStep (call fs (k + 4)) (.nm 4) b_best_cut_f0)
    (ε := [.f (encC true c), .f (.int fee), .f (rowsD c (c.length + 1)), .f (.int 1), .u])
    (I := fun i ε => ∃ s4, ε = [.f (encC true c), .f (.int fee), .f (rowsD c (c.length + 1)), .f (.int (bestF (val (R c) c.length fee) i : Nat)), s4]) ⟨_, rfl⟩
    (fun i hi ε ⟨s4, he⟩ => by
      subst he
      obtain ⟨a1, a2, _, _⟩ := bestF_spec (val (R c) c.length fee) i
      obtain ⟨v1, x1, x2, x3⟩ := rw0 (i + 1) (by omega) (by omega)
      obtain ⟨v2, y1, y2, y3⟩ := rw0 (bestF (val (R c) c.length fee) i) a1 (by omega)
      have e : bestF (val (R c) c.length fee) (i + 1) = if val (R c) c.length fee (i + 1) < val (R c) c.length fee (bestF (val (R c) c.length fee) i) then i + 1 else bestF (val (R c) c.length fee) i := by
        unfold bestF
        rw [List.range_succ, List.foldl_append]; rfl
      rw [e, ← x3, ← y3]
      generalize bestF (val (R c) c.length fee) i = B at *
      have ei : (1 : Int) + (i : Nat) = ((i + 1 : Nat) : Int) := by omega
      refine ⟨[.f (encC true c), .f (.int fee), .f (rowsD c (c.length + 1)), .f (.int ((if v1 + fee * ((i + 1 : Nat) : Int) < v2 + fee * (B : Nat) then i + 1 else B : Nat) : Int)), .f (.int ((i + 1 : Nat) : Int))], ⟨_, rfl⟩, ?_⟩
      show forStep _ _ _ (.int (1 + (i : Nat))) _ = _
      rw [ei]
      generalize i + 1 = I at *
      by_cases z : v1 + fee * (I : Int) < v2 + fee * (B : Nat)
      · rw [if_pos z]
        simp (config := { implicitDefEqProofs := false }) [exSs, ev, evs, evi, evc, evo, tyIs, retv, noMut, noMuts, put, puto, wipeE, ixD, frzE, inTD, notD, negD, own, lstD, setD, intOf, isD, isNone, forStep, b_best_cut_f0, x1, x2, y1, y2, mm, qa, eq_true z]
      · rw [if_neg z]
        simp (config := { implicitDefEqProofs := false }) [exSs, ev, evs, evi, evc, evo, tyIs, retv, noMut, noMuts, put, puto, wipeE, ixD, frzE, inTD, notD, negD, own, lstD, setD, intOf, isD, isNone, forStep, b_best_cut_f0, x1, x2, y1, y2, mm, qa, eq_false z])
  generalize bestF (val (R c) c.length fee) c.length = B at *
  have fc := first_cut_ok k c hc B b1 (by omega)
  have nt := nm_ints (toI (gcut (R c) c.length (B - 1) 0))
  rw [call_at at_best_cut rfl]
  generalize encC true c = C at *
  simp (config := { implicitDefEqProofs := false }) [exSs, ev, evs, evi, evc, evo, tyIs, retv, noMut, noMuts, put, puto, wipeE, ixD, frzE, inTD, notD, negD, own, lstD, setD, intOf, isD, isNone, f_best_cut, b_best_cut, ic, tc, nc, ib, need_true, ln, lr, qa, hr]
  rw [e', hs]
  simp (config := { implicitDefEqProofs := false }) [exSs, ev, evs, evi, evc, evo, tyIs, retv, noMut, noMuts, put, puto, wipeE, ixD, frzE, inTD, notD, negD, own, lstD, setD, intOf, isD, isNone, fc, nt]
/-! ### the floor -/
theorem floor_of_ok (k : Nat) (c : List Int) (hc : c.length ≤ 16) (fee : Int) : call fs (k + 3) 19 [encC true c, .int fee] = .ok (.tuple ((flo (R c) c.length fee c.length).map .int)) := by
  have ln : biD .len [encC true c] = .ok (.int c.length) := len_ints true c
  have hr : rngD 0 (c.length : Int) = .ok ((List.range c.length).map fun d => .int (0 + (d : Nat))) := by
    rw [rng_from 0 c.length (by omega) (by omega) (by omega) (by omega)]; rfl
  have hrv : ((List.range c.length).map fun d : Nat => PyData.int (0 + (d : Nat))).reverse = (List.range c.length).map fun d : Nat => .int ((c.length : Int) - 1 - d) := by
    rw [rev_rng]
    refine List.map_congr_left fun d _ => ?_
    rw [Int.zero_add]
  obtain ⟨ε', ⟨s3, s4, s5, hs⟩, e'⟩ := exFor_rangeI (enc := fun d : Nat => .int ((c.length : Int) - 1 - d)) (m := c.length) (step := forStep (call fs (k + 2)) (.nm 3) b_floor_of_f1)
    (ε := [.f (encC true c), .f (.int fee), .o (.list [.int 0]), .u, .u, .u])
    (I := fun i ε => ∃ s3 s4 s5, ε = [.f (encC true c), .f (.int fee), .o (.list ((flo (R c) c.length fee i).map .int)), s3, s4, s5]) ⟨_, _, _, rfl⟩
    (fun i hi ε ⟨s3, s4, s5, he⟩ => by
      subst he
      have hp : (c.length : Int) - 1 - i = ((c.length - i - 1 : Nat) : Int) := by omega
      have hr2 : rngD ((((c.length - i - 1 : Nat) : Int)) + 1) ((c.length : Int) + 1) = .ok ((List.range (i + 1)).map fun d => .int (((c.length - i - 1 : Nat) : Int) + 1 + (d : Nat))) := by
        rw [rng_from (c.length - i - 1 + 1) (c.length + 1) (by omega) (by omega) (by omega) (by omega), show c.length + 1 - (c.length - i - 1 + 1) = i + 1 by omega]; rfl
      have hfl := flo_len (w := R c) (n := c.length) fee i
      obtain ⟨ε2, ⟨u5, hs2⟩, e2⟩ := exFor_app (N := 50) (enc := fun d : Nat => .int (((c.length - i - 1 : Nat) : Int) + 1 + (d : Nat))) (g := fun j : Nat => PyData.int (fee + R c (c.length - i - 1) (c.length - i - 1 + 1 + j) + (flo (R c) c.length fee i).getD j 0)) (l := List.range (i + 1)) (b := []) (step := forStep (call fs (k + 2)) (.nm 5) b_floor_of_f0)
        (ε := [.f (encC true c), .f (.int fee), .o (.list ((flo (R c) c.length fee i).map .int)), .f (.int ((c.length - i - 1 : Nat) : Int)), .o (.list []), s5])
        (I := fun b ε => ∃ u5, ε = [.f (encC true c), .f (.int fee), .o (.list ((flo (R c) c.length fee i).map .int)), .f (.int ((c.length - i - 1 : Nat) : Int)), .o (.list b), u5]) (by rw [List.length_range]; show 0 + _ ≤ 50; omega) ⟨_, rfl⟩
        (fun j hj b ε hb ⟨u5, he⟩ => by
          have hj := List.mem_range.mp hj
          subst he
          have rk := rough_ok k true c (c.length - i - 1) (c.length - i - 1 + 1 + j) (by omega) (by omega)
          have ix := idx_ints false (flo (R c) c.length fee i) j (by omega)
          have sb : binD .sub (.int ((c.length - i - 1 + 1 + j : Nat) : Int)) (.int ((c.length - i - 1 : Nat) : Int)) = .ok (.int (((j + 1 : Nat)) : Int)) := by rw [qs, show ((c.length - i - 1 + 1 + j : Nat) : Int) - ((c.length - i - 1 : Nat) : Int) = ((j + 1 : Nat) : Int) by omega]
          have sb2 : binD .sub (.int ((j + 1 : Nat) : Int)) (.int 1) = .ok (.int ((j : Nat) : Int)) := by rw [qs, show ((j + 1 : Nat) : Int) - 1 = (j : Int) by omega]
          refine ⟨[.f (encC true c), .f (.int fee), .o (.list ((flo (R c) c.length fee i).map .int)), .f (.int ((c.length - i - 1 : Nat) : Int)), .o (.list (b ++ [.int (fee + R c (c.length - i - 1) (c.length - i - 1 + 1 + j) + (flo (R c) c.length fee i).getD j 0)])), .f (.int ((c.length - i - 1 + 1 + j : Nat) : Int))], ⟨_, rfl⟩, ?_⟩
          show forStep _ _ _ (.int ((c.length - i - 1 + 1 + j : Nat) : Int)) _ = _
          generalize c.length - i - 1 + 1 + j = a at *
          generalize c.length - i - 1 = p at *
          generalize j + 1 = j1 at *
          have ix : idxD (.list ((flo (R c) c.length fee i).map .int)) (.int (j : Nat)) = .ok (.int ((flo (R c) c.length fee i).getD j 0)) := ix
          generalize (flo (R c) c.length fee i).map PyData.int = F at *
          generalize (flo (R c) c.length fee i).getD j 0 = G at *
          simp (config := { implicitDefEqProofs := false }) [exSs, ev, evs, evi, evc, evo, tyIs, retv, noMut, noMuts, put, puto, wipeE, ixD, frzE, inTD, notD, negD, own, lstD, setD, intOf, isD, isNone, forStep, b_floor_of_f0, rk, qa, sb, sb2, ix, LIM, eq_true (show b.length < 16777216 by omega)])
      rw [List.nil_append] at hs2
      have mi := min_ints ((List.range (i + 1)).map fun j : Nat => fee + R c (c.length - i - 1) (c.length - i - 1 + 1 + j) + (flo (R c) c.length fee i).getD j 0) (by
        intro e
        have := congrArg List.length e
        rw [List.length_map, List.length_range] at this
        cases this)
      rw [List.map_map] at mi
      have hmm : (List.range (i + 1)).map (fun j : Nat => PyData.int (fee + R c (c.length - i - 1) (c.length - i - 1 + 1 + j) + (flo (R c) c.length fee i).getD j 0)) = (List.range (i + 1)).map (PyData.int ∘ fun j : Nat => fee + R c (c.length - i - 1) (c.length - i - 1 + 1 + j) + (flo (R c) c.length fee i).getD j 0) := rfl
      rw [← hmm] at mi
      have es : (flo (R c) c.length fee (i + 1)).map PyData.int = .int (mnI ((List.range (i + 1)).map fun j : Nat => fee + R c (c.length - i - 1) (c.length - i - 1 + 1 + j) + (flo (R c) c.length fee i).getD j 0)) :: (flo (R c) c.length fee i).map .int := rfl
      rw [es]
      have hfl2 : ((flo (R c) c.length fee i).map PyData.int).length = i + 1 := by rw [List.length_map, hfl]
      generalize (List.range (i + 1)).map (fun j : Nat => PyData.int (fee + R c (c.length - i - 1) (c.length - i - 1 + 1 + j) + (flo (R c) c.length fee i).getD j 0)) = T at *
      generalize mnI ((List.range (i + 1)).map fun j : Nat => fee + R c (c.length - i - 1) (c.length - i - 1 + 1 + j) + (flo (R c) c.length fee i).getD j 0) = G at *
      generalize (flo (R c) c.length fee i).map PyData.int = F at *
      have ad : binD .add (.list [.int G]) (.list F) = .ok (.list (.int G :: F)) := if_pos (by rw [hfl2]; show 1 + (i + 1) ≤ 16777216; omega)
      refine ⟨[.f (encC true c), .f (.int fee), .o (.list (.int G :: F)), .f (.int ((c.length - i - 1 : Nat) : Int)), .o (.list T), u5], ⟨_, _, _, rfl⟩, ?_⟩
      show forStep _ _ _ (.int ((c.length : Int) - 1 - i)) _ = _
      rw [hp]
      generalize c.length - i - 1 = p at *
      simp (config := { implicitDefEqProofs := false }) [exSs, ev, evs, evi, evc, evo, tyIs, retv, noMut, noMuts, put, puto, wipeE, ixD, frzE, inTD, notD, negD, own, lstD, setD, intOf, isD, isNone, forStep, b_floor_of_f1, qa, ln, hr2]
      rw [e2, hs2]
      simp (config := { implicitDefEqProofs := false }) [exSs, ev, evs, evi, evc, evo, tyIs, retv, noMut, noMuts, put, puto, wipeE, ixD, frzE, inTD, notD, negD, own, lstD, setD, intOf, isD, isNone, mi, ad])
  rw [call_at at_floor_of rfl]
  generalize encC true c = C at *
  have ng : negD (.int 1) = .ok (.int (-1)) := rfl
  have hr' : rngD 0 (c.length : Int) = .ok ((List.range c.length).map fun d => .int (d : Nat)) := rng_len (by omega)
  have hrv' : ((List.range c.length).map fun d : Nat => PyData.int (d : Nat)).reverse = (List.range c.length).map fun d : Nat => .int ((c.length : Int) - 1 - d) := by
    have hz : (fun d : Nat => PyData.int (d : Nat)) = fun d : Nat => .int (0 + (d : Nat)) := by
      funext d
      rw [Int.zero_add]
    rw [hz]
    exact hrv
  simp (config := { implicitDefEqProofs := false }) [exSs, ev, evs, evi, evc, evo, tyIs, retv, noMut, noMuts, put, puto, wipeE, ixD, frzE, inTD, notD, negD, own, lstD, setD, intOf, isD, isNone, f_floor_of, b_floor_of, ln, qs, hr', hrv', eq_true (show (-1 : Int) ≤ (c.length : Int) - 1 by omega)]
  rw [e', hs]
  simp (config := { implicitDefEqProofs := false }) [exSs, ev, evs, evi, evc, evo, tyIs, retv, noMut, noMuts, put, puto, wipeE, ixD, frzE, inTD, notD, negD, own, lstD, setD, intOf, isD, isNone, bt]
end K22
end Ws

set_option Elab.async false
set_option linter.all false
set_option maxRecDepth 100000
set_option maxHeartbeats 400000
namespace Ws
namespace K22
open PySem
/-! ### same, the floor -/
theorem same_int (k : Nat) (a b : Int) : call fs (k + 2) 6 [.int a, .int b] = .ok (.bool (decide (a = b))) := by
  rw [call_at at_same rfl]
  simp (config := { implicitDefEqProofs := false }) [exSs, ev, evs, evi, evc, evo, tyIs, retv, noMut, noMuts, put, puto, wipeE, ixD, frzE, inTD, notD, binD, negD, own, lstD, setD, intOf, isD, isNone, f_same, b_same, is_integer_int, eqD_int']
theorem all_eq (xs ys : List Int) (h : xs.length = ys.length) : (List.range ys.length).all (fun i => decide (xs.getD i 0 = ys.getD i 0)) = decide (xs = ys) := by
  by_cases e : xs = ys
  · subst e
    simp
  · rw [decide_eq_false e]
    rw [Bool.eq_false_iff]
    intro c
    apply e
    refine List.ext_getElem h fun i h1 h2 => ?_
    have := List.all_eq_true.mp c i (List.mem_range.mpr h2)
    have := of_decide_eq_true this
    rw [List.getD_eq_getElem?_getD, List.getD_eq_getElem?_getD, List.getElem?_eq_getElem h1, List.getElem?_eq_getElem h2] at this
    exact this
theorem same_ints (k : Nat) (q : Bool) (xs ys : List Int) (hl : ys.length ≤ 1000) : call fs (k + 3) 6 [encC q xs, .tuple (ys.map .int)] = .ok (.bool (decide (xs = ys))) := by
  have hr := rng_len (n := ys.length) (by omega)
  have ln : biD .len [.tuple (ys.map .int)] = .ok (.int ys.length) := len_ints true ys
  have is : call fs (k + 2) 4 [encC q xs, .int ys.length, .int ys.length] = .ok (.bool (decide (xs.length = ys.length))) := by
    rw [is_row_sq, List.length_map]
    by_cases e : xs.length = ys.length
    · rw [decide_eq_true e, decide_eq_true (show (ys.length : Int) ≤ xs.length by omega), decide_eq_true (show (xs.length : Int) ≤ ys.length by omega)]; rfl
    · rw [decide_eq_false e]
      rcases Nat.lt_or_ge xs.length ys.length with h | h
      · rw [decide_eq_false (show ¬ (ys.length : Int) ≤ xs.length by omega)]; rfl
      · rw [decide_eq_false (show ¬ (xs.length : Int) ≤ ys.length by omega), Bool.and_false]
  rw [call_at at_same rfl]
  by_cases e : xs.length = ys.length
  · rw [decide_eq_true e] at is
    simp (config := { implicitDefEqProofs := false }) [exSs, ev, evs, evi, evc, evo, tyIs, retv, noMut, noMuts, put, puto, wipeE, ixD, frzE, inTD, notD, negD, own, lstD, setD, intOf, isD, isNone, f_same, b_same, ln, is, hr]
    rw [lcL_map (enc := fun i : Nat => PyData.int (i : Nat)) (f := fun i => .bool (decide (xs.getD i 0 = ys.getD i 0))) fun i hi => by
      have hi := List.mem_range.mp hi
      have i1 := idx_ints q xs i (by omega)
      have i2 : idxD (.tuple (ys.map .int)) (.int (i : Nat)) = .ok (.int (ys.getD i 0)) := idx_ints true ys i hi
      have si := same_int k (xs.getD i 0) (ys.getD i 0)
      generalize xs.getD i 0 = a at *
      generalize ys.getD i 0 = b at *
      simp (config := { implicitDefEqProofs := false }) [exSs, ev, evs, evi, evc, evo, tyIs, retv, noMut, noMuts, put, puto, wipeE, ixD, frzE, inTD, notD, negD, own, lstD, setD, intOf, isD, isNone, i1, i2, si]]
    rw [Rs.bnd_ok, Rs.bnd_ok, Rs.bnd_ok, all_map (p := fun i => decide (xs.getD i 0 = ys.getD i 0)), all_eq _ _ e]
    rfl
  · rw [decide_eq_false e] at is
    have e2 : ¬ xs = ys := fun h => e (by rw [h])
    simp (config := { implicitDefEqProofs := false }) [exSs, ev, evs, evi, evc, evo, tyIs, retv, noMut, noMuts, put, puto, wipeE, ixD, frzE, inTD, notD, negD, own, lstD, setD, intOf, isD, isNone, f_same, b_same, ln, is, e2]
theorem same_num (k : Nat) (a : Int) (ys : List Int) : call fs (k + 3) 6 [.int a, .tuple (ys.map .int)] = .ok (.bool false) := by
  have ln : biD .len [.tuple (ys.map .int)] = .ok (.int ys.length) := len_ints true ys
  rw [call_at at_same rfl]
  simp (config := { implicitDefEqProofs := false }) [exSs, ev, evs, evi, evc, evo, tyIs, retv, noMut, noMuts, put, puto, wipeE, ixD, frzE, inTD, notD, negD, own, lstD, setD, intOf, isD, isNone, f_same, b_same, ln, is_row_int]
def F (c : List Int) (fee : Int) : List Int := flo (R c) c.length fee c.length
theorem F_len (c : List Int) (fee : Int) : (F c fee).length = c.length + 1 := flo_len fee c.length
theorem floor_ok (k : Nat) (q : Bool) (c : List Int) (h : okC c) (fee : Int) (hf : 0 ≤ fee ∧ fee ≤ 9999) : call fs (k + 4) 20 [encC q c, .int fee] = .ok (.tuple ((F c fee).map .int)) := by
  have ic := is_curve_ok k q c h
  have tc := tupled_curve k q c
  have nc := nm_curve c
  have ib : call fs (k + 3) 2 [.int fee, .int 0, .int 9999] = .ok (.bool true) := by
    rw [is_between_int, decide_eq_true hf.1, decide_eq_true hf.2]; rfl
  have fo := floor_of_ok k c h.2.1 fee
  have nf := nm_ints (F c fee)
  rw [call_at at_floor rfl]
  show _ = Rs.ok (PyData.tuple ((flo (R c) c.length fee c.length).map .int))
  unfold F at nf
  generalize encC true c = C at *
  simp (config := { implicitDefEqProofs := false }) [exSs, ev, evs, evi, evc, evo, tyIs, retv, noMut, noMuts, put, puto, wipeE, ixD, frzE, inTD, notD, negD, own, lstD, setD, intOf, isD, isNone, f_floor, b_floor, ic, tc, nc, ib, need_true, fo, nf]
theorem floor_holds_ok (k : Nat) (q : Bool) (c : List Int) (h : okC c) (fee : Int) (hf : 0 ≤ fee ∧ fee ≤ 9999) (v : D) (b : Bool) (hv : call fs (k + 3) 6 [v, .tuple ((F c fee).map .int)] = .ok (.bool b)) : call fs (k + 4) 21 [encC q c, .int fee, v] = .ok (.bool b) := by
  have ic := is_curve_ok k q c h
  have tc := tupled_curve k q c
  have nc := nm_curve c
  have ib : call fs (k + 3) 2 [.int fee, .int 0, .int 9999] = .ok (.bool true) := by
    rw [is_between_int, decide_eq_true hf.1, decide_eq_true hf.2]; rfl
  have fo := floor_of_ok k c h.2.1 fee
  have nf := nm_ints (F c fee)
  rw [call_at at_floor_holds rfl]
  unfold F at nf hv
  generalize encC true c = C at *
  simp (config := { implicitDefEqProofs := false }) [exSs, ev, evs, evi, evc, evo, tyIs, retv, noMut, noMuts, put, puto, wipeE, ixD, frzE, inTD, notD, negD, own, lstD, setD, intOf, isD, isNone, f_floor_holds, b_floor_holds, ic, tc, nc, ib, need_true, fo, nf, hv]
/-! ### smooth, steps -/
def win (c : List Int) (i w : Nat) : List Int := (c.drop (i - w)).take (i + w + 1 - (i - w))
theorem cut_clamp {α : Type} {xs : List α} {i j : Nat} (hi : i ≤ xs.length) : cutD xs (some (i : Int)) (some (j : Int)) = (xs.drop i).take (j - i) := by
  by_cases h : j ≤ xs.length
  · exact cut_nat hi h
  · unfold cutD HT.sIx
    simp only
    rw [if_neg (by omega), if_neg (by omega), Int.toNat_natCast, Int.toNat_natCast, Nat.min_eq_left hi, Nat.min_eq_right (by omega)]
    rw [List.take_of_length_le (by rw [List.length_drop]; omega), List.take_of_length_le (by rw [List.length_drop]; omega)]
theorem win_len (c : List Int) (i w : Nat) (hi : i < c.length) : 0 < (win c i w).length := by
  unfold win
  rw [List.length_take, List.length_drop]; omega
theorem win_cut (c : List Int) (i w : Nat) (hi : i < c.length) : cutD (c.map PyData.int) (some ((i - w : Nat) : Int)) (some ((i + w + 1 : Nat) : Int)) = (win c i w).map .int := by
  rw [cut_map, cut_clamp (by omega)]; rfl
theorem max_sub (i w : Nat) : biD .max [.int 0, .int ((i : Int) - w)] = .ok (.int ((i - w : Nat) : Int)) := by
  rw [mxb]
  congr 2
  split <;> omega
def smoothF (c : List Int) (w : Nat) : List Int := (List.range c.length).map fun i => mid (win c i w)
theorem smooth_ok (k : Nat) (q : Bool) (c : List Int) (h : okC c) (w : Nat) (hw : w ≤ 5) : call fs (k + 4) 22 [encC q c, .int w] = .ok (.tuple ((smoothF c w).map .int)) := by
  have ic := is_curve_ok k q c h
  have tc := tupled_curve k q c
  have nc := nm_curve c
  have ib : call fs (k + 3) 2 [.int w, .int 0, .int 5] = .ok (.bool true) := by
    rw [is_between_int, decide_eq_true (show (0 : Int) ≤ w by omega), decide_eq_true (show (w : Int) ≤ 5 by omega)]; rfl
  have ln : biD .len [encC true c] = .ok (.int c.length) := len_ints true c
  have hr := rng_len (n := c.length) (by have := h.2.1; omega)
  have sl : ∀ i j, sliD (encC true c) i j = .ok (.tuple (cutD (c.map .int) i j)) := fun i j => sli_sq true (c.map .int) i j
  rw [call_at at_smooth rfl]
  generalize hC : encC true c = C at *
  simp (config := { implicitDefEqProofs := false }) [exSs, ev, evs, evi, evc, evo, tyIs, retv, noMut, noMuts, put, puto, wipeE, ixD, frzE, inTD, notD, negD, own, lstD, setD, intOf, isD, isNone, f_smooth, b_smooth, ic, tc, nc, ib, need_true, ln, hr]
  rw [lcL_map (enc := fun i : Nat => PyData.int (i : Nat)) (f := fun i => .int (mid (win c i w))) fun i hi => by
    have hi := List.mem_range.mp hi
    have md : call fs (k + 3) 12 [.tuple ((win c i w).map .int)] = .ok (.int (mid (win c i w))) := middle_ok (k + 2) true (win c i w) (win_len c i w hi)
    have wc := win_cut c i w hi
    have ms := max_sub i w
    have ad : binD .add (.int ((i : Int) + w)) (.int 1) = .ok (.int ((i + w + 1 : Nat) : Int)) := rfl
    generalize i + w + 1 = j at *
    generalize i - w = l at *
    simp (config := { implicitDefEqProofs := false }) [exSs, ev, evs, evi, evc, evo, tyIs, retv, noMut, noMuts, put, puto, wipeE, ixD, frzE, inTD, notD, negD, own, lstD, setD, intOf, isD, isNone, qs, ms, qa, ad, sl, wc, md]]
  simp (config := { implicitDefEqProofs := false }) [exSs, ev, evs, evi, evc, evo, tyIs, retv, noMut, noMuts, put, puto, wipeE, ixD, frzE, inTD, notD, negD, own, lstD, setD, intOf, isD, isNone, bt]
  unfold smoothF
  rw [List.map_map]; rfl
def stepsP (c : List Int) (least : Int) (d : Nat) : Bool := decide (least ≤ ab (c.getD (1 + d) 0 - c.getD d 0))
def stepsF (c : List Int) (least : Int) : List D := ((List.range (c.length - 1)).filter (stepsP c least)).map fun d => .int (1 + (d : Nat))
theorem steps_turn (c : List Int) (q : Bool) (d : Nat) (hd : d < c.length - 1) : idxD (encC q c) (.int (1 + (d : Nat))) = .ok (.int (c.getD (1 + d) 0)) ∧ idxD (encC q c) (.int (d : Nat)) = .ok (.int (c.getD d 0)) ∧ binD .sub (.int (1 + (d : Nat))) (.int 1) = .ok (.int (d : Nat)) :=
  ⟨idx_ints q c (1 + d) (by omega), idx_ints q c d (by omega), by rw [qs, show (1 : Int) + (d : Nat) - 1 = d by omega]⟩
theorem steps_rng (c : List Int) (h : 1 ≤ c.length) (h2 : c.length ≤ 16) : rngD 1 (c.length : Int) = .ok ((List.range (c.length - 1)).map fun d => .int (1 + (d : Nat))) := by
  rw [rng_from 1 c.length (by omega) (by omega) (by omega) (by omega)]; rfl
theorem steps_ok (k : Nat) (q : Bool) (c : List Int) (h : okC c) (least : Int) (hl : 1 ≤ least) : call fs (k + 4) 24 [encC q c, .int least] = .ok (.tuple (stepsF c least)) := by
  have ic := is_curve_ok k q c h
  have ii := is_integer_int (k + 2) least
  have ln : biD .len [encC q c] = .ok (.int c.length) := len_ints q c
  have hr := steps_rng c h.1 h.2.1
  have tn := steps_turn c q
  rw [call_at at_steps rfl]
  generalize hC : encC q c = C at *
  simp (config := { implicitDefEqProofs := false }) [exSs, ev, evs, evi, evc, evo, tyIs, retv, noMut, noMuts, put, puto, wipeE, ixD, frzE, inTD, notD, negD, own, lstD, setD, intOf, isD, isNone, f_steps, b_steps, ic, ii, need_true, ln, hr, eq_true hl]
  rw [lcL_flat (enc := fun d : Nat => PyData.int (1 + (d : Nat))) (f := fun d => if stepsP c least d = true then [.int (1 + (d : Nat))] else []) fun d hd => by
    obtain ⟨t1, t2, t3⟩ := tn d (List.mem_range.mp hd)
    unfold stepsP
    generalize c.getD (1 + d) 0 = a at *
    generalize c.getD d 0 = b at *
    generalize (1 : Int) + (d : Nat) = e at *
    simp (config := { implicitDefEqProofs := false }) [exSs, ev, evs, evi, evc, evo, tyIs, retv, noMut, noMuts, put, puto, wipeE, ixD, frzE, inTD, notD, negD, own, lstD, setD, intOf, isD, isNone, t1, t2, t3, qs, abs_bi]
    by_cases z : least ≤ ab (a - b) <;> simp [z]]
  rw [flat_filter]
  simp (config := { implicitDefEqProofs := false }) [exSs, ev, evs, evi, evc, evo, tyIs, retv, noMut, noMuts, put, puto, wipeE, ixD, frzE, inTD, notD, negD, own, lstD, setD, intOf, isD, isNone, bt]
  rfl
/-! ### the law's curves, cuts, prices -/
def sev : List Int := [0, 1, 3, 5, 9, 12, 20]
def lawCurve (n : Int) (size : Nat) : List Int := (List.range size).map fun k : Nat => sev.getD (n / (1 + 5 * (k : Int)) % 7).toNat 0
theorem sev_ok (i : Nat) (h : i < 7) : 0 ≤ sev.getD i 0 ∧ sev.getD i 0 ≤ 20 := by
  have : ∀ i : Fin 7, 0 ≤ sev.getD i.val 0 ∧ sev.getD i.val 0 ≤ 20 := by decide +kernel
  exact this ⟨i, h⟩
theorem lawCurve_ok (n : Int) (size : Nat) (h1 : 1 ≤ size) (h2 : size ≤ 8) : okC (lawCurve n size) ∧ (lawCurve n size).length = size ∧ ∀ v ∈ lawCurve n size, 0 ≤ v ∧ v ≤ 20 := by
  have hl : (lawCurve n size).length = size := by unfold lawCurve; rw [List.length_map, List.length_range]
  have hv : ∀ v ∈ lawCurve n size, 0 ≤ v ∧ v ≤ 20 := by
    intro v hv
    obtain ⟨k, _, rfl⟩ := List.mem_map.mp hv
    exact sev_ok _ (by omega)
  exact ⟨⟨by omega, by omega, fun v h => by have := hv v h; omega⟩, hl, hv⟩
theorem law_curve_ok (k : Nat) (n : Int) (size : Nat) (h2 : size ≤ 8) : call fs (k + 1) 32 [.int n, .int size] = .ok (encC true (lawCurve n size)) := by
  have hr := rng_len (n := size) (by omega)
  have b1 : ∀ i, biD .int [.int i] = .ok (.int i) := fun _ => rfl
  obtain ⟨ε', ⟨s3, hs⟩, e'⟩ := exFor_app (N := 8) (enc := fun i : Nat => PyData.int (i : Nat)) (g := fun i : Nat => PyData.int (sev.getD (n / (1 + 5 * (i : Int)) % 7).toNat 0)) (l := List.range size) (b := []) (step := forStep (call fs k) (.nm 3) b__law_curve_f0) (ε := [.f (.int n), .f (.int size), .o (.list []), .u])
    (I := fun b ε => ∃ s3, ε = [.f (.int n), .f (.int size), .o (.list b), s3]) (by rw [List.length_range]; show 0 + size ≤ 8; omega) ⟨_, rfl⟩
    (fun i hi b ε hb ⟨s3, he⟩ => by
      subst he
      have hi := List.mem_range.mp hi
      have q1 : binD .mul (.int 5) (.int (i : Nat)) = .ok (.int (5 * (i : Nat))) := mu _ _ (by simp [mulOk])
      have q3 : binD .fdiv (.int n) (.int (1 + 5 * (i : Nat))) = .ok (.int (n / (1 + 5 * (i : Nat)))) := d1 _ _ (by omega) (by omega)
      have ix : idxD (.list [.int 0, .int 1, .int 3, .int 5, .int 9, .int 12, .int 20]) (.int (n / (1 + 5 * (i : Int)) % 7)) = .ok (.int (sev.getD (n / (1 + 5 * (i : Int)) % 7).toNat 0)) := by
        have := idx_ints false sev (n / (1 + 5 * (i : Int)) % 7).toNat (by show _ < 7; omega)
        rwa [show (((n / (1 + 5 * (i : Int)) % 7).toNat : Nat) : Int) = n / (1 + 5 * (i : Int)) % 7 by omega] at this
      refine ⟨[.f (.int n), .f (.int size), .o (.list (b ++ [.int (sev.getD (n / (1 + 5 * (i : Int)) % 7).toNat 0)])), .f (.int (i : Nat))], ⟨_, rfl⟩, ?_⟩
      simp (config := { implicitDefEqProofs := false }) [exSs, ev, evs, evi, evc, evo, tyIs, retv, noMut, noMuts, put, puto, wipeE, ixD, frzE, inTD, notD, negD, own, lstD, setD, intOf, isD, isNone, forStep, b__law_curve_f0, q1, qa, q3, b1, m1, ix, LIM, eq_true (show b.length < 16777216 by omega)])
  rw [call_at at__law_curve rfl]
  simp (config := { implicitDefEqProofs := false }) [exSs, ev, evs, evi, evc, evo, tyIs, retv, noMut, noMuts, put, puto, wipeE, ixD, frzE, inTD, notD, negD, own, lstD, setD, intOf, isD, isNone, f__law_curve, b__law_curve, hr]
  rw [e', hs]
  simp (config := { implicitDefEqProofs := false }) [exSs, ev, evs, evi, evc, evo, tyIs, retv, noMut, noMuts, put, puto, wipeE, ixD, frzE, inTD, notD, negD, own, lstD, setD, intOf, isD, isNone, bt]
  show _ = PyData.tuple _
  unfold lawCurve
  rw [List.map_map]; rfl
def rowT (r : List Nat) : D := .tuple ((toI r).map .int)
theorem law_cuts_ok (k : Nat) (m : Nat) (hm : m ≤ 7) : call fs (k + 1) 34 [.int ((m : Int) + 1)] = .ok (.list ((cuts m).map rowT)) := by
  have hr : rngD 1 ((m : Int) + 1) = .ok ((List.range m).map fun d => .int (1 + (d : Nat))) := by
    rw [rng_from 1 (m + 1) (by omega) (by omega) (by omega) (by omega), show m + 1 - 1 = m by omega]; rfl
  obtain ⟨ε', ⟨s2, hs⟩, e'⟩ := exFor_rangeI (enc := fun d : Nat => PyData.int (1 + (d : Nat))) (m := m) (step := forStep (call fs k) (.nm 2) b__law_cuts_f0) (ε := [.f (.int ((m : Int) + 1)), .o (.list [.tuple []]), .u, .u])
    (I := fun i ε => ∃ s2, ε = [.f (.int ((m : Int) + 1)), .o (.list ((cuts i).map rowT)), s2, .u]) ⟨_, rfl⟩
    (fun i hi ε ⟨s2, he⟩ => by
      subst he
      have hl := cuts_len i
      have hp : 2 ^ i ≤ 128 := by
        have : 2 ^ i ≤ 2 ^ 7 := Nat.pow_le_pow_right (by decide) (by omega)
        omega
      have ad : binD .add (.list ((cuts i).map rowT)) (.list ((cuts i).map fun r => rowT (r ++ [i + 1]))) = .ok (.list ((cuts (i + 1)).map rowT)) := by
        show (if _ then _ else _) = _
        rw [if_pos (by rw [List.length_map, List.length_map, hl]; show 2 ^ i + 2 ^ i ≤ 16777216; omega)]
        show _ = Rs.ok (PyData.list ((cuts i ++ (cuts i).map (· ++ [i + 1])).map rowT))
        rw [List.map_append, List.map_map]; rfl
      have ra : ∀ r ∈ cuts i, binD .add (rowT r) (.tuple [.int (1 + (i : Nat))]) = .ok (rowT (r ++ [i + 1])) := by
        intro r hr
        have hch := ch_lt (cuts_ch.mp hr)
        show (if _ then _ else _) = _
        rw [if_pos (by rw [List.length_map, toI, List.length_map]; show r.length + 1 ≤ 16777216; omega)]
        show Rs.ok (PyData.tuple _) = Rs.ok (PyData.tuple _)
        unfold toI
        rw [List.map_append, List.map_append]
        show Rs.ok (PyData.tuple (_ ++ [PyData.int (1 + (i : Int))])) = Rs.ok (PyData.tuple (_ ++ [PyData.int (((i + 1 : Nat)) : Int)]))
        rw [show (1 : Int) + (i : Nat) = ((i + 1 : Nat) : Int) by omega]
      have sq2 : ∀ ys : List D, seqD (.list ys) = .ok ys := fun _ => rfl
      refine ⟨[.f (.int ((m : Int) + 1)), .o (.list ((cuts (i + 1)).map rowT)), .f (.int (1 + (i : Nat))), .u], ⟨_, rfl⟩, ?_⟩
      simp (config := { implicitDefEqProofs := false }) [exSs, ev, evs, evi, evc, evo, tyIs, retv, noMut, noMuts, put, puto, wipeE, ixD, frzE, inTD, notD, negD, own, lstD, setD, intOf, isD, isNone, forStep, b__law_cuts_f0, sq2]
      rw [lcL_map (enc := rowT) (f := fun r => rowT (r ++ [i + 1])) fun r hr => by simp (config := { implicitDefEqProofs := false }) [exSs, ev, evs, evi, evc, evo, tyIs, retv, noMut, noMuts, put, puto, wipeE, ixD, frzE, inTD, notD, negD, own, lstD, setD, intOf, isD, isNone, ra r hr]]
      simp (config := { implicitDefEqProofs := false }) [exSs, ev, evs, evi, evc, evo, tyIs, retv, noMut, noMuts, put, puto, wipeE, ixD, frzE, inTD, notD, negD, own, lstD, setD, intOf, isD, isNone, ad])
  rw [call_at at__law_cuts rfl]
  simp (config := { implicitDefEqProofs := false }) [exSs, ev, evs, evi, evc, evo, tyIs, retv, noMut, noMuts, put, puto, wipeE, ixD, frzE, inTD, notD, negD, own, lstD, setD, intOf, isD, isNone, f__law_cuts, b__law_cuts, hr]
  rw [e', hs]
  simp (config := { implicitDefEqProofs := false }) [exSs, ev, evs, evi, evc, evo, tyIs, retv, noMut, noMuts, put, puto, wipeE, ixD, frzE, inTD, notD, negD, own, lstD, setD, intOf, isD, isNone]
/-- the edges of a row of cuts -/
def edges (c : List Int) (r : List Nat) : List Nat := 0 :: (r ++ [c.length])
theorem edges_ok {n : Nat} : ∀ {r : List Nat} {p : Nat}, ch n p r → ∀ k, k < r.length + 1 → (p :: (r ++ [n])).getD k 0 < (p :: (r ++ [n])).getD (k + 1) 0 ∧ (p :: (r ++ [n])).getD (k + 1) 0 ≤ n
  | [], p, h, k, hk => by
    have : k = 0 := by simpa using hk
    subst this
    exact ⟨h, Nat.le_refl _⟩
  | a :: r, p, h, 0, _ => by
    have := ch_lt h.2
    exact ⟨h.1, by show a ≤ n; omega⟩
  | a :: r, p, h, k + 1, hk => edges_ok (r := r) (p := a) h.2 k (by rw [List.length_cons] at hk; omega)
theorem edges_sum (w : Nat → Nat → Int) (n : Nat) : ∀ (r : List Nat) (p : Nat), ((List.range (r.length + 1)).map fun k => w ((p :: (r ++ [n])).getD k 0) ((p :: (r ++ [n])).getD (k + 1) 0)).sum = pr w n p r
  | [], p => by
    show (w p n + 0 : Int) = w p n
    omega
  | a :: r, p => by
    have ih := edges_sum w n r a
    rw [List.length_cons, List.range_succ_eq_map, List.map_cons, List.sum_cons, List.map_map]
    show w p a + _ = w p a + pr w n a r
    rw [← ih]
    rfl
def eR (c : List Int) (r : List Nat) (k : Nat) : Int := R c ((edges c r).getD k 0) ((edges c r).getD (k + 1) 0)
theorem law_price_ok (k : Nat) (c : List Int) (hc : c.length ≤ 16) (r : List Nat) (h : ch c.length 0 r) : call fs (k + 2) 35 [encC true c, rowT r] = .ok (.int (pr (R c) c.length 0 r)) := by
  have hl := ch_lt h
  have ln : biD .len [encC true c] = .ok (.int c.length) := len_ints true c
  have E : PyData.tuple (.int 0 :: ((toI r).map .int ++ [.int (c.length : Nat)])) = .tuple ((toI (edges c r)).map .int) := by
    unfold edges toI
    rw [List.map_cons, List.map_cons, List.map_append, List.map_append]; rfl
  have a1 : binD .add (.tuple [.int 0]) (rowT r) = .ok (.tuple (.int 0 :: (toI r).map .int)) := if_pos (by rw [List.length_map, toI, List.length_map]; show 1 + r.length ≤ 16777216; omega)
  have a2 : binD .add (.tuple (.int 0 :: (toI r).map .int)) (.tuple [.int (c.length : Nat)]) = .ok (.tuple ((toI (edges c r)).map .int)) := by
    rw [← E]
    exact if_pos (by rw [List.length_cons, List.length_map, toI, List.length_map]; show r.length + 1 + 1 ≤ 16777216; omega)
  have el : (toI (edges c r)).length = r.length + 2 := by unfold toI edges; simp
  have ln2 : biD .len [.tuple ((toI (edges c r)).map .int)] = .ok (.int ((r.length + 2 : Nat) : Int)) := by
    have := len_ints true (toI (edges c r))
    rwa [el] at this
  have sb : binD .sub (.int ((r.length + 2 : Nat) : Int)) (.int 1) = .ok (.int ((r.length + 1 : Nat) : Int)) := by rw [qs, show ((r.length + 2 : Nat) : Int) - 1 = ((r.length + 1 : Nat) : Int) by omega]
  have hr := rng_len (n := r.length + 1) (by omega)
  have sl : ∀ i j, sliD (encC true c) i j = .ok (.tuple (cutD (c.map .int) i j)) := fun i j => sli_sq true (c.map .int) i j
  have tg : ∀ k, k < r.length + 2 → (toI (edges c r)).getD k 0 = (((edges c r).getD k 0 : Nat) : Int) := by
    intro k hk
    have hk' : k < (edges c r).length := by unfold edges; simp; omega
    unfold toI
    rw [List.getD_eq_getElem?_getD, List.getElem?_map, List.getElem?_eq_getElem hk', List.getD_eq_getElem?_getD, List.getElem?_eq_getElem hk']; rfl
  have es : ((List.range (r.length + 1)).map (eR c r)).sum = pr (R c) c.length 0 r := edges_sum (R c) c.length r 0
  have tn : ∀ i, i < r.length + 1 → ∃ a b : Nat, a < b ∧ b ≤ c.length ∧ eR c r i = R c a b ∧ idxD (.tuple ((toI (edges c r)).map .int)) (.int (i : Nat)) = .ok (.int (a : Nat)) ∧ idxD (.tuple ((toI (edges c r)).map .int)) (.int ((i : Int) + 1)) = .ok (.int (b : Nat)) := by
    intro i hi
    obtain ⟨e1, e2⟩ := edges_ok h i hi
    have x1 : idxD (.tuple ((toI (edges c r)).map .int)) (.int (i : Nat)) = .ok (.int ((toI (edges c r)).getD i 0)) := idx_ints true (toI (edges c r)) i (by omega)
    have x2 : idxD (.tuple ((toI (edges c r)).map .int)) (.int ((i : Int) + 1)) = .ok (.int ((toI (edges c r)).getD (i + 1) 0)) := idx_ints true (toI (edges c r)) (i + 1) (by omega)
    rw [tg i (by omega)] at x1
    rw [tg (i + 1) (by omega)] at x2
    exact ⟨_, _, e1, e2, rfl, x1, x2⟩
  rw [call_at at__law_price rfl, ← es]
  generalize hC : encC true c = C at *
  generalize r.length + 1 = N at *
  generalize r.length + 2 = M at *
  generalize (toI (edges c r)).map PyData.int = T at *
  generalize eR c r = f at *
  simp (config := { implicitDefEqProofs := false }) [exSs, ev, evs, evi, evc, evo, tyIs, retv, noMut, noMuts, put, puto, wipeE, ixD, frzE, inTD, notD, negD, own, lstD, setD, intOf, isD, isNone, f__law_price, b__law_price, a1, ln, a2, ln2, sb, hr]
  rw [lcL_map (enc := fun i : Nat => PyData.int (i : Nat)) (f := fun i => .int (f i)) fun i hi => by
    obtain ⟨a, b, h1, h2, h3, x1, x2⟩ := tn i (List.mem_range.mp hi)
    have ct := cutD_ints c a b (by omega) h2
    have lr : call fs (k + 1) 33 [.tuple ((cutL c a b).map .int)] = .ok (.int (rough (cutL c a b))) := law_rough_ok k true (cutL c a b) (by rw [cutL_len c a b (by omega) h2]; omega)
    have h3 : f i = rough (cutL c a b) := h3
    simp (config := { implicitDefEqProofs := false }) [exSs, ev, evs, evi, evc, evo, tyIs, retv, noMut, noMuts, put, puto, wipeE, ixD, frzE, inTD, notD, negD, own, lstD, setD, intOf, isD, isNone, x1, x2, qa, sl, ct, lr, h3]]
  simp (config := { implicitDefEqProofs := false }) [exSs, ev, evs, evi, evc, evo, tyIs, retv, noMut, noMuts, put, puto, wipeE, ixD, frzE, inTD, notD, negD, own, lstD, setD, intOf, isD, isNone, sum_map' (p := f)]
end K22
end Ws

set_option Elab.async false
set_option linter.all false
set_option maxRecDepth 100000
set_option maxHeartbeats 400000
/-! K22t: tops, plain -/
namespace Ws
namespace K22
/-- what a filtered range is -/
structure FR (p : Nat → Bool) (n : Nat) (l : List Nat) : Prop where
  el : ∀ t, t < l.length → p (l.getD t 0) = true ∧ l.getD t 0 < n
  first : 0 < l.length → ∀ j, j < l.getD 0 0 → p j = false
  next : ∀ t, t + 1 < l.length → l.getD t 0 < l.getD (t + 1) 0 ∧ ∀ j, l.getD t 0 < j → j < l.getD (t + 1) 0 → p j = false
  last : ∀ t, t + 1 = l.length → ∀ j, l.getD t 0 < j → j < n → p j = false
  none : l.length = 0 → ∀ j, j < n → p j = false
theorem getD_snoc_lt {l : List Nat} {a t : Nat} (h : t < l.length) : (l ++ [a]).getD t 0 = l.getD t 0 := by
  rw [List.getD_eq_getElem?_getD, List.getD_eq_getElem?_getD, List.getElem?_append_left h]
theorem getD_snoc_eq {l : List Nat} {a : Nat} : (l ++ [a]).getD l.length 0 = a := by
  rw [List.getD_eq_getElem?_getD, List.getElem?_append_right (Nat.le_refl _), Nat.sub_self]; rfl
theorem fr (p : Nat → Bool) : ∀ n, FR p n ((List.range n).filter p)
  | 0 => ⟨fun t h => by simp at h, fun h => by simp at h, fun t h => by simp at h, fun t h => by simp at h, fun _ j h => by omega⟩
  | n + 1 => by
    have ih := fr p n
    rw [List.range_succ, List.filter_append]
    cases hp : p n with
    | false =>
      have e : [n].filter p = [] := by simp [hp]
      rw [e, List.append_nil]
      refine ⟨fun t h => ⟨(ih.el t h).1, by have := (ih.el t h).2; omega⟩, ih.first, ih.next, fun t h j h1 h2 => ?_, fun h j hj => ?_⟩
      · by_cases c : j = n
        · rw [c]; exact hp
        · exact ih.last t h j h1 (by omega)
      · by_cases c : j = n
        · rw [c]; exact hp
        · exact ih.none h j (by omega)
    | true =>
      have e : [n].filter p = [n] := by simp [hp]
      rw [e]
      generalize (List.range n).filter p = l at ih
      have hl : (l ++ [n]).length = l.length + 1 := by simp
      refine ⟨fun t h => ?_, fun h => ?_, fun t h => ?_, fun t h j h1 h2 => ?_, fun h => by rw [hl] at h; omega⟩
      · rw [hl] at h
        by_cases c : t = l.length
        · subst c
          rw [getD_snoc_eq]
          exact ⟨hp, by omega⟩
        · rw [getD_snoc_lt (by omega)]
          exact ⟨(ih.el t (by omega)).1, by have := (ih.el t (by omega)).2; omega⟩
      · by_cases c : l.length = 0
        · have : l = [] := List.length_eq_zero_iff.mp c
          subst this
          exact ih.none rfl
        · rw [getD_snoc_lt (by omega)]
          exact ih.first (by omega)
      · rw [hl] at h
        by_cases c : t + 1 = l.length
        · rw [getD_snoc_lt (by omega), c, getD_snoc_eq]
          exact ⟨(ih.el t (by omega)).2, fun j h1 h2 => ih.last t c j h1 h2⟩
        · rw [getD_snoc_lt (by omega), getD_snoc_lt (by omega)]
          exact ih.next t (by omega)
      · rw [hl] at h
        have c : t = l.length := by omega
        subst c
        rw [getD_snoc_eq] at h1
        omega
section
variable (x : Nat → Int) (n : Nat)
def isB (k : Nat) : Bool := decide (k = 0) || !decide (x k = x (k - 1))
def begs : List Nat := (List.range n).filter (isB x)
def tp (l : List Nat) (t : Nat) : Bool := (decide (t = 0) || decide (x (l.getD (t - 1) 0) < x (l.getD t 0))) && ((decide (t + 1 = l.length) || decide (x (l.getD (t + 1) 0) < x (l.getD t 0))) && decide (1 < l.length))
def topsF : List Nat := (List.range (begs x n).length).filterMap fun t => if tp x (begs x n) t = true then some ((begs x n).getD t 0) else none
def endR (k : Nat) : Nat := (List.range (n - (k + 1))).foldl (fun L d => if L = k + 1 + d - 1 ∧ x (k + 1 + d) = x k then k + 1 + d else L) k
def lawP (k : Nat) : Bool := isB x k && ((decide (k = 0) || !decide (x k < x (k - 1))) && ((decide (endR x n k + 1 = n) || !decide (x k < x (endR x n k + 1))) && (!decide (k = 0) || !decide (endR x n k + 1 = n))))
def lawTops : List Nat := (List.range n).filter (lawP x n)
variable {x n}
theorem endR_inv (k : Nat) : ∀ m, k + m < n → let L := (List.range m).foldl (fun L d => if L = k + 1 + d - 1 ∧ x (k + 1 + d) = x k then k + 1 + d else L) k
    k ≤ L ∧ L ≤ k + m ∧ (∀ j, k ≤ j → j ≤ L → x j = x k) ∧ (L = k + m ∨ x (L + 1) ≠ x k)
  | 0, h => ⟨Nat.le_refl _, Nat.le_refl _, fun j h1 h2 => by have h2 : j ≤ k := h2; rw [show j = k by omega], .inl rfl⟩
  | m + 1, h => by
    obtain ⟨h1, h2, h3, h4⟩ := endR_inv k m (by omega)
    rw [List.range_succ, List.foldl_append]
    generalize (List.range m).foldl (fun L d => if L = k + 1 + d - 1 ∧ x (k + 1 + d) = x k then k + 1 + d else L) k = L at *
    show k ≤ (if L = k + 1 + m - 1 ∧ x (k + 1 + m) = x k then k + 1 + m else L) ∧ (if L = k + 1 + m - 1 ∧ x (k + 1 + m) = x k then k + 1 + m else L) ≤ k + (m + 1) ∧ (∀ j, k ≤ j → j ≤ (if L = k + 1 + m - 1 ∧ x (k + 1 + m) = x k then k + 1 + m else L) → x j = x k) ∧ ((if L = k + 1 + m - 1 ∧ x (k + 1 + m) = x k then k + 1 + m else L) = k + (m + 1) ∨ x ((if L = k + 1 + m - 1 ∧ x (k + 1 + m) = x k then k + 1 + m else L) + 1) ≠ x k)
    by_cases c : L = k + 1 + m - 1 ∧ x (k + 1 + m) = x k
    · rw [if_pos c]
      refine ⟨by omega, by omega, fun j a b => ?_, .inl (by omega)⟩
      by_cases e : j = k + 1 + m
      · rw [e]; exact c.2
      · exact h3 j a (by omega)
    · rw [if_neg c]
      refine ⟨h1, by omega, h3, ?_⟩
      rcases h4 with h4 | h4
      · right
        intro e
        apply c
        refine ⟨by omega, ?_⟩
        rw [show k + 1 + m = L + 1 by omega]; exact e
      · exact .inr h4
theorem endR_spec {k : Nat} (h : k < n) : k ≤ endR x n k ∧ endR x n k < n ∧ (∀ j, k ≤ j → j ≤ endR x n k → x j = x k) ∧ (endR x n k + 1 = n ∨ x (endR x n k + 1) ≠ x k) := by
  obtain ⟨h1, h2, h3, h4⟩ := endR_inv (x := x) (n := n) k (n - (k + 1)) (by omega)
  refine ⟨h1, by have h2 : endR x n k ≤ k + (n - (k + 1)) := h2; omega, h3, ?_⟩
  rcases h4 with h4 | h4
  · have h4 : endR x n k = k + (n - (k + 1)) := h4
    exact .inl (by omega)
  · exact .inr h4
theorem isB_iff {k : Nat} : isB x k = true ↔ k = 0 ∨ x k ≠ x (k - 1) := by
  unfold isB
  simp
theorem isB_no {k : Nat} : isB x k = false ↔ k ≠ 0 ∧ x k = x (k - 1) := by
  unfold isB
  simp
/-- nothing begins: the value stays -/
theorem const_of {a b : Nat} (h : ∀ j, a < j → j ≤ b → isB x j = false) : ∀ j, a ≤ j → j ≤ b → x j = x a := by
  intro j
  induction j with
  | zero => intro h1 _; rw [show a = 0 by omega]
  | succ j ih =>
    intro h1 h2
    by_cases c : a = j + 1
    · rw [c]
    · have := (isB_no.mp (h (j + 1) (by omega) h2)).2
      rw [this]
      exact ih (by omega) (by omega)
theorem tp_eq (hn : 1 ≤ n) {t : Nat} (ht : t < (begs x n).length) : tp x (begs x n) t = lawP x n ((begs x n).getD t 0) := by
  have F : FR (isB x) n (begs x n) := fr (isB x) n
  generalize begs x n = l at *
  obtain ⟨hb, hlt⟩ := F.el t ht
  obtain ⟨e1, e2, e3, e4⟩ := endR_spec (x := x) hlt
  have b0 : isB x 0 = true := isB_iff.mpr (.inl rfl)
  have h00 : l.getD 0 0 = 0 := by
    rcases Nat.eq_zero_or_pos (l.getD 0 0) with h | h
    · exact h
    · have := F.first (by omega) 0 h
      rw [b0] at this; cases this
  have t0 : t = 0 ↔ l.getD t 0 = 0 := by
    constructor
    · rintro rfl; exact h00
    · intro h
      rcases Nat.eq_zero_or_pos t with c | c
      · exact c
      · have := (F.next (t - 1) (by omega)).1
        rw [show t - 1 + 1 = t by omega, h] at this
        omega
  -- the place behind the run
  have nb : ∀ j, l.getD t 0 < j → j ≤ endR x n (l.getD t 0) → isB x j = false := fun j h1 h2 => isB_no.mpr ⟨by omega, by rw [e3 j (by omega) h2, e3 (j - 1) (by omega) (by omega)]⟩
  have lastI : t + 1 = l.length ↔ endR x n (l.getD t 0) + 1 = n := by
    constructor
    · intro h
      rcases Nat.lt_or_ge (endR x n (l.getD t 0) + 1) n with z | z
      · exfalso
        have h5 := F.last t h (endR x n (l.getD t 0) + 1) (by omega) z
        have := (isB_no.mp h5).2
        rw [show endR x n (l.getD t 0) + 1 - 1 = endR x n (l.getD t 0) by omega, e3 _ e1 (Nat.le_refl _)] at this
        rcases e4 with c | c
        · omega
        · exact c this
      · omega
    · intro h
      rcases Nat.lt_or_ge (t + 1) l.length with c | c
      · exfalso
        obtain ⟨g1, _⟩ := F.next t c
        obtain ⟨g3, g4⟩ := F.el (t + 1) c
        rw [nb _ g1 (by omega)] at g3
        cases g3
      · omega
  have nextI : t + 1 < l.length → l.getD (t + 1) 0 = endR x n (l.getD t 0) + 1 := by
    intro c
    obtain ⟨g1, g2⟩ := F.next t c
    obtain ⟨g3, g4⟩ := F.el (t + 1) c
    have h1 : endR x n (l.getD t 0) < l.getD (t + 1) 0 := by
      rcases Nat.lt_or_ge (endR x n (l.getD t 0)) (l.getD (t + 1) 0) with z | z
      · exact z
      · rw [nb _ g1 z] at g3; cases g3
    rcases Nat.lt_or_ge (endR x n (l.getD t 0) + 1) (l.getD (t + 1) 0) with z | z
    · exfalso
      have h2 := g2 (endR x n (l.getD t 0) + 1) (by omega) z
      have := (isB_no.mp h2).2
      rw [show endR x n (l.getD t 0) + 1 - 1 = endR x n (l.getD t 0) by omega, e3 _ e1 (Nat.le_refl _)] at this
      rcases e4 with q | q
      · omega
      · exact q this
    · omega
  have prevI : 0 < t → x (l.getD (t - 1) 0) = x (l.getD t 0 - 1) ∧ x (l.getD t 0) ≠ x (l.getD t 0 - 1) := by
    intro c
    obtain ⟨g1, g2⟩ := F.next (t - 1) (by omega)
    rw [show t - 1 + 1 = t by omega] at g1 g2
    refine ⟨(const_of (a := l.getD (t - 1) 0) (b := l.getD t 0 - 1) (fun j h1 h2 => g2 j h1 (by omega)) (l.getD t 0 - 1) (by omega) (Nat.le_refl _)).symm, ?_⟩
    rcases isB_iff.mp hb with z | z
    · exfalso; exact absurd (t0.mpr z) (by omega)
    · exact z
  -- together
  unfold tp lawP
  rw [hb, Bool.true_and]
  generalize l.getD t 0 = b at *
  have p1 : (decide (t = 0) || decide (x (l.getD (t - 1) 0) < x b)) = (decide (b = 0) || !decide (x b < x (b - 1))) := by
    by_cases c : t = 0
    · simp [c, t0.mp c]
    · obtain ⟨q1, q2⟩ := prevI (by omega)
      have c2 : ¬ b = 0 := fun h => c (t0.mpr h)
      rw [q1, decide_eq_false c, decide_eq_false c2, Bool.false_or, Bool.false_or]
      by_cases z : x (b - 1) < x b
      · rw [decide_eq_true z, decide_eq_false (by omega)]; rfl
      · rw [decide_eq_false z, decide_eq_true (by omega)]; rfl
  have p2 : (decide (t + 1 = l.length) || decide (x (l.getD (t + 1) 0) < x b)) = (decide (endR x n b + 1 = n) || !decide (x b < x (endR x n b + 1))) := by
    by_cases c : t + 1 = l.length
    · simp [c, lastI.mp c]
    · have q1 := nextI (by omega)
      have c2 : ¬ endR x n b + 1 = n := fun h => c (lastI.mpr h)
      rw [q1, decide_eq_false c, decide_eq_false c2, Bool.false_or, Bool.false_or]
      have q2 : x (endR x n b + 1) ≠ x b := by
        rcases e4 with z | z
        · exact absurd z c2
        · exact z
      by_cases z : x (endR x n b + 1) < x b
      · rw [decide_eq_true z, decide_eq_false (by omega)]; rfl
      · rw [decide_eq_false z, decide_eq_true (by omega)]; rfl
  have p3 : decide (1 < l.length) = (!decide (b = 0) || !decide (endR x n b + 1 = n)) := by
    by_cases c : t = 0
    · rw [decide_eq_true (t0.mp c)]
      by_cases d : t + 1 = l.length
      · rw [decide_eq_true (lastI.mp d), decide_eq_false (by omega)]; rfl
      · rw [decide_eq_false (fun h => d (lastI.mpr h)), decide_eq_true (by omega)]; rfl
    · rw [decide_eq_false (fun h => c (t0.mpr h)), decide_eq_true (by omega)]; rfl
  rw [p1, p2, p3]
theorem filterMap_idx (l : List Nat) (q : Nat → Bool) (Q : Nat → Bool) (h : ∀ t, t < l.length → q t = Q (l.getD t 0)) : (List.range l.length).filterMap (fun t => if q t = true then some (l.getD t 0) else none) = l.filter Q := by
  induction l generalizing q with
  | nil => rfl
  | cons a l ih =>
    rw [List.length_cons, List.range_succ_eq_map, List.filterMap_cons, List.filterMap_map]
    have h0 := h 0 (by rw [List.length_cons]; omega)
    have ih' := ih (fun t => q (t + 1)) fun t ht => h (t + 1) (by rw [List.length_cons]; omega)
    have e : ((fun t => if q t = true then some ((a :: l).getD t 0) else none) ∘ Nat.succ) = fun t => if q (t + 1) = true then some (l.getD t 0) else none := rfl
    rw [e, ih', List.filter_cons]
    have h0 : q 0 = Q a := h0
    rw [← h0]
    cases q 0 <;> rfl
theorem tops_eq (hn : 1 ≤ n) : topsF x n = lawTops x n := by
  unfold topsF
  rw [filterMap_idx (begs x n) (tp x (begs x n)) (lawP x n) fun t ht => tp_eq hn ht]
  unfold begs lawTops
  rw [List.filter_filter]
  refine List.filter_congr fun k _ => ?_
  unfold lawP
  cases isB x k <;> simp
end
end K22
end Ws

set_option Elab.async false
set_option linter.all false
set_option maxRecDepth 100000
set_option maxHeartbeats 400000
namespace Ws
namespace K22
open PySem
def xc (c : List Int) (k : Nat) : Int := c.getD k 0
def natL (l : List Nat) : List D := l.map fun b : Nat => .int (b : Int)
theorem natL_at (l : List Nat) (t : Nat) (h : t < l.length) : idxD (.list (natL l)) (.int (t : Nat)) = .ok (.int (l.getD t 0 : Nat)) := by
  show Rs.of (ixD _ _) = _
  unfold ixD natL
  rw [if_pos (by omega), Int.toNat_natCast, List.getElem?_map, List.getElem?_eq_getElem h, List.getD_eq_getElem?_getD, List.getElem?_eq_getElem h]; rfl
theorem natL_len (l : List Nat) : biD .len [.list (natL l)] = .ok (.int l.length) := by
  show Rs.ok (PyData.int ((natL l).length : Nat)) = _
  unfold natL
  rw [List.length_map]
theorem idx_c (q : Bool) (c : List Int) (k : Nat) (h : k < c.length) : idxD (encC q c) (.int (k : Nat)) = .ok (.int (xc c k)) := idx_ints q c k h
theorem idx_c1 (q : Bool) (c : List Int) (k : Nat) (h : k < c.length) (h0 : k ≠ 0) : idxD (encC q c) (.int ((k : Int) - 1)) = .ok (.int (xc c (k - 1))) := by
  rw [show (k : Int) - 1 = ((k - 1 : Nat) : Int) by omega]
  exact idx_ints q c (k - 1) (by omega)
theorem ne_int (a b : Int) : cmpD .ne (.int a) (.int b) = .ok (.bool (!decide (a = b))) := by
  show notD (cmpD .eq (.int a) (.int b)) = _
  rw [eqD_int']; rfl
theorem tops_f0 (k : Nat) (c : List Int) (l : List Nat) (hl : ∀ b ∈ l, b < c.length) (t : Nat) (ht : t < l.length) (told : List D) (hL : told.length < 100) (s3 s4 s5 : Sl) :
    ∃ t3 t4 t5, forStep (call fs k) (.nm 3) b_tops_f0 (.int (t : Nat)) [.f (encC true c), .o (.list (natL l)), .o (.list told), s3, s4, s5] =
      .ok (.nx, [.f (encC true c), .o (.list (natL l)), .o (.list (told ++ ((if tp (xc c) l t = true then some (PyData.int (l.getD t 0 : Nat)) else none : Option D)).toList)), t3, t4, t5]) := by
  have inl : ∀ i, i < l.length → l.getD i 0 < c.length := fun i hi => hl _ (by rw [List.getD_eq_getElem?_getD, List.getElem?_eq_getElem hi]; exact List.getElem_mem hi)
  have b0 := natL_at l t ht
  have x0 := idx_c true c _ (inl t ht)
  have ln := natL_len l
  have eq0 : cmpD .eq (.int (t : Nat)) (.int 0) = .ok (.bool (decide (t = 0))) := by
    rw [eqD_int']
    by_cases h : t = 0
    · simp [h]
    · rw [decide_eq_false h, decide_eq_false (by omega)]
  have eq1 : cmpD .eq (.int (t : Nat)) (.int ((l.length : Int) - 1)) = .ok (.bool (decide (t + 1 = l.length))) := by
    rw [eqD_int']
    by_cases h : t + 1 = l.length
    · rw [decide_eq_true h, decide_eq_true (by omega)]
    · rw [decide_eq_false h, decide_eq_false (by omega)]
  have gl : cmpD .gt (.int (l.length : Nat)) (.int 1) = .ok (.bool (decide (1 < l.length))) := by
    rw [cmp_gt]
    by_cases h : 1 < l.length
    · rw [decide_eq_true h, decide_eq_true (by omega)]
    · rw [decide_eq_false h, decide_eq_false (by omega)]
  have A : ∀ C2 B : D, C2 = encC true c → B = .list (natL l) → t ≠ 0 → idxD B (.int ((t : Int) - 1)) = .ok (.int (l.getD (t - 1) 0 : Nat)) ∧ idxD C2 (.int (l.getD (t - 1) 0 : Nat)) = .ok (.int (xc c (l.getD (t - 1) 0))) := by
    rintro _ _ rfl rfl h
    refine ⟨?_, idx_c true c _ (inl (t - 1) (by omega))⟩
    rw [show (t : Int) - 1 = ((t - 1 : Nat) : Int) by omega]
    exact natL_at l (t - 1) (by omega)
  have Bn : ∀ C2 B : D, C2 = encC true c → B = .list (natL l) → t + 1 ≠ l.length → idxD B (.int ((t : Int) + 1)) = .ok (.int (l.getD (t + 1) 0 : Nat)) ∧ idxD C2 (.int (l.getD (t + 1) 0 : Nat)) = .ok (.int (xc c (l.getD (t + 1) 0))) := by
    rintro _ _ rfl rfl h
    exact ⟨natL_at l (t + 1) (by omega), idx_c true c _ (inl (t + 1) (by omega))⟩
  have A := A _ _ rfl rfl
  have Bn := Bn _ _ rfl rfl
  unfold tp
  generalize encC true c = C2 at *
  generalize PyData.list (natL l) = B at *
  generalize xc c (l.getD (t - 1) 0) = xp at *
  generalize xc c (l.getD (t + 1) 0) = xn at *
  generalize xc c (l.getD t 0) = x at *
  generalize l.getD (t - 1) 0 = lp at *
  generalize l.getD (t + 1) 0 = ln' at *
  generalize l.getD t 0 = l0 at *
  have hlm : told.length < LIM := Nat.lt_of_lt_of_le hL (by decide)
  refine ⟨.f (.int (t : Nat)), .f (.bool (decide (t = 0) || decide (xp < x))), .f (.bool (decide (t + 1 = l.length) || decide (xn < x))), ?_⟩
  by_cases h0 : t = 0 <;> by_cases h1 : t + 1 = l.length
  · rw [decide_eq_true h0] at eq0 ⊢
    rw [decide_eq_true h1] at eq1 ⊢
    · generalize decide (1 < l.length) = z at gl ⊢
      cases z <;> simp (config := { implicitDefEqProofs := false }) [exSs, ev, evs, evi, evc, evo, tyIs, retv, noMut, noMuts, put, puto, wipeE, ixD, frzE, inTD, notD, negD, own, lstD, setD, intOf, isD, isNone, forStep, b_tops_f0, eq0, eq1, ln, qs, gl, b0, hlm]
  · obtain ⟨n1, n2⟩ := Bn h1
    rw [decide_eq_true h0] at eq0 ⊢
    rw [decide_eq_false h1] at eq1 ⊢
    · generalize decide (1 < l.length) = z at gl ⊢
      have g2 := cmp_gt x xn
      generalize decide (xn < x) = y at g2 ⊢
      cases z <;> cases y <;> simp (config := { implicitDefEqProofs := false }) [exSs, ev, evs, evi, evc, evo, tyIs, retv, noMut, noMuts, put, puto, wipeE, ixD, frzE, inTD, notD, negD, own, lstD, setD, intOf, isD, isNone, forStep, b_tops_f0, eq0, eq1, ln, qs, qa, gl, b0, x0, n1, n2, g2, hlm]
  · obtain ⟨n1, n2⟩ := A h0
    rw [decide_eq_false h0] at eq0 ⊢
    rw [decide_eq_true h1] at eq1 ⊢
    · generalize decide (1 < l.length) = z at gl ⊢
      have g2 := cmp_gt x xp
      generalize decide (xp < x) = y at g2 ⊢
      cases z <;> cases y <;> simp (config := { implicitDefEqProofs := false }) [exSs, ev, evs, evi, evc, evo, tyIs, retv, noMut, noMuts, put, puto, wipeE, ixD, frzE, inTD, notD, negD, own, lstD, setD, intOf, isD, isNone, forStep, b_tops_f0, eq0, eq1, ln, qs, qa, gl, b0, x0, n1, n2, g2, hlm]
  · obtain ⟨n1, n2⟩ := A h0
    obtain ⟨n3, n4⟩ := Bn h1
    rw [decide_eq_false h0] at eq0 ⊢
    rw [decide_eq_false h1] at eq1 ⊢
    · generalize decide (1 < l.length) = z at gl ⊢
      have g2 := cmp_gt x xp
      have g3 := cmp_gt x xn
      generalize decide (xp < x) = y at g2 ⊢
      generalize decide (xn < x) = y2 at g3 ⊢
      cases z <;> cases y <;> cases y2 <;> simp (config := { implicitDefEqProofs := false }) [exSs, ev, evs, evi, evc, evo, tyIs, retv, noMut, noMuts, put, puto, wipeE, ixD, frzE, inTD, notD, negD, own, lstD, setD, intOf, isD, isNone, forStep, b_tops_f0, eq0, eq1, ln, qs, qa, gl, b0, x0, n1, n2, n3, n4, g2, g3, hlm]
theorem begs_lt (c : List Int) : ∀ b ∈ begs (xc c) c.length, b < c.length := fun b hb => List.mem_range.mp (List.mem_filter.mp hb).1
theorem begs_len (c : List Int) : (begs (xc c) c.length).length ≤ c.length := by
  have := List.length_filter_le (isB (xc c)) (List.range c.length)
  rw [List.length_range] at this
  exact this
theorem natL_filterMap (l : List Nat) (f : Nat → Option Nat) : l.filterMap (fun t => (f t).map fun b : Nat => PyData.int (b : Int)) = natL (l.filterMap f) := by
  unfold natL
  rw [List.map_filterMap]
theorem tops_ok (k : Nat) (q : Bool) (c : List Int) (h : okC c) : call fs (k + 4) 23 [encC q c] = .ok (.tuple (natL (topsF (xc c) c.length))) := by
  have ic := is_curve_ok k q c h
  have tc := tupled_curve k q c
  have nc := nm_curve c
  have ln : biD .len [encC true c] = .ok (.int c.length) := len_ints true c
  have hc := h.2.1
  have hr := rng_len (n := c.length) (by omega)
  have lb := begs_len c
  have lnb := natL_len (begs (xc c) c.length)
  have hr2 := rng_len (n := (begs (xc c) c.length).length) (by omega)
  have tn : ∀ i, i < c.length → idxD (encC true c) (.int (i : Nat)) = .ok (.int (xc c i)) ∧ (i ≠ 0 → idxD (encC true c) (.int ((i : Int) - 1)) = .ok (.int (xc c (i - 1)))) := fun i hi => ⟨idx_c true c i hi, idx_c1 true c i hi⟩
  obtain ⟨ε', ⟨s3, s4, s5, hs⟩, e'⟩ := exFor_opt (N := 50) (enc := fun t : Nat => PyData.int (t : Nat)) (g := fun t => if tp (xc c) (begs (xc c) c.length) t = true then some (PyData.int ((begs (xc c) c.length).getD t 0 : Nat)) else none) (l := List.range (begs (xc c) c.length).length) (b := []) (step := forStep (call fs (k + 3)) (.nm 3) b_tops_f0)
    (ε := [.f (encC true c), .o (.list (natL (begs (xc c) c.length))), .o (.list []), .u, .u, .u])
    (I := fun b ε => ∃ s3 s4 s5, ε = [.f (encC true c), .o (.list (natL (begs (xc c) c.length))), .o (.list b), s3, s4, s5]) (by rw [List.length_range]; show 0 + _ ≤ 50; omega) ⟨_, _, _, rfl⟩
    (fun t ht b ε hb ⟨s3, s4, s5, he⟩ => by
      subst he
      obtain ⟨u3, u4, u5, e⟩ := tops_f0 (k + 3) c (begs (xc c) c.length) (begs_lt c) t (List.mem_range.mp ht) b (by omega) s3 s4 s5
      exact ⟨_, ⟨_, _, _, rfl⟩, e⟩)
  have hT : [] ++ (List.range (begs (xc c) c.length).length).filterMap (fun t => if tp (xc c) (begs (xc c) c.length) t = true then some (PyData.int ((begs (xc c) c.length).getD t 0 : Nat)) else none) = natL (topsF (xc c) c.length) := by
    have hf : (fun t => if tp (xc c) (begs (xc c) c.length) t = true then some (PyData.int ((begs (xc c) c.length).getD t 0 : Nat)) else none) = fun t => (if tp (xc c) (begs (xc c) c.length) t = true then some ((begs (xc c) c.length).getD t 0) else none).map fun b : Nat => PyData.int (b : Int) := by
      funext t
      generalize tp (xc c) (begs (xc c) c.length) t = z
      cases z <;> rfl
    unfold topsF
    rw [List.nil_append, hf, natL_filterMap]
  rw [hT] at hs
  rw [call_at at_tops rfl]
  generalize hC : encC true c = C at *
  simp (config := { implicitDefEqProofs := false }) [exSs, ev, evs, evi, evc, evo, tyIs, retv, noMut, noMuts, put, puto, wipeE, ixD, frzE, inTD, notD, negD, own, lstD, setD, intOf, isD, isNone, f_tops, b_tops, ic, tc, nc, need_true, ln, hr]
  rw [lcL_flat (enc := fun i : Nat => PyData.int (i : Nat)) (f := fun i => if isB (xc c) i = true then [.int (i : Nat)] else []) fun i hi => by
    obtain ⟨t1, t2⟩ := tn i (List.mem_range.mp hi)
    unfold isB
    by_cases z : i = 0
    · subst z
      simp (config := { implicitDefEqProofs := false }) [exSs, ev, evs, evi, evc, evo, tyIs, retv, noMut, noMuts, put, puto, wipeE, ixD, frzE, inTD, notD, negD, own, lstD, setD, intOf, isD, isNone, eqD_int']
    · have t2 := t2 z
      have e0 : cmpD .eq (.int (i : Nat)) (.int 0) = .ok (.bool false) := by rw [eqD_int', decide_eq_false (by omega)]
      generalize xc c i = a at *
      generalize xc c (i - 1) = b at *
      rw [decide_eq_false z]
      have n1 := ne_int a b
      generalize decide (a = b) = w at *
      cases w <;> simp (config := { implicitDefEqProofs := false }) [exSs, ev, evs, evi, evc, evo, tyIs, retv, noMut, noMuts, put, puto, wipeE, ixD, frzE, inTD, notD, negD, own, lstD, setD, intOf, isD, isNone, e0, t1, t2, n1, qs]]
  rw [flat_filter]
  have hB : List.map (fun i : Nat => PyData.int (i : Nat)) (List.filter (isB (xc c)) (List.range c.length)) = natL (begs (xc c) c.length) := rfl
  rw [hB]
  simp (config := { implicitDefEqProofs := false }) [exSs, ev, evs, evi, evc, evo, tyIs, retv, noMut, noMuts, put, puto, wipeE, ixD, frzE, inTD, notD, negD, own, lstD, setD, intOf, isD, isNone, lnb, hr2]
  rw [e', hs]
  simp (config := { implicitDefEqProofs := false }) [exSs, ev, evs, evi, evc, evo, tyIs, retv, noMut, noMuts, put, puto, wipeE, ixD, frzE, inTD, notD, negD, own, lstD, setD, intOf, isD, isNone, bt]
/-! ### the law's tops -/
theorem ltops_f0 (k : Nat) (c : List Int) (kk L j : Nat) (hk : kk < c.length) (hj : j < c.length) (s1 s5 s6 s7 s4 : Sl) :
    forStep (call fs k) (.nm 4) b__law_tops_f0 (.int (j : Nat)) [.f (encC true c), s1, .f (.int (kk : Nat)), .f (.int (L : Nat)), s4, s5, s6, s7] =
      .ok (.nx, [.f (encC true c), s1, .f (.int (kk : Nat)), .f (.int ((if L = j - 1 ∧ 1 ≤ j ∧ xc c j = xc c kk then j else L : Nat) : Int)), .f (.int (j : Nat)), s5, s6, s7]) := by
  have x1 := idx_c true c j hj
  have x2 := idx_c true c kk hk
  have e1 : cmpD .eq (.int (L : Nat)) (.int ((j : Int) - 1)) = .ok (.bool (decide (L = j - 1 ∧ 1 ≤ j))) := by
    rw [eqD_int']
    by_cases z : L = j - 1 ∧ 1 ≤ j
    · rw [decide_eq_true z, decide_eq_true (by omega)]
    · rw [decide_eq_false z, decide_eq_false (by omega)]
  have e2 := eqD_int' (xc c j) (xc c kk)
  have ei : (if L = j - 1 ∧ 1 ≤ j ∧ xc c j = xc c kk then j else L) = if (decide (L = j - 1 ∧ 1 ≤ j) && decide (xc c j = xc c kk)) = true then j else L := by
    by_cases a : L = j - 1 <;> by_cases b : 1 ≤ j <;> by_cases d : xc c j = xc c kk <;> simp [a, b, d]
  rw [ei]
  generalize encC true c = C at *
  generalize decide (L = j - 1 ∧ 1 ≤ j) = z1 at *
  generalize decide (xc c j = xc c kk) = z2 at *
  generalize xc c j = a at *
  generalize xc c kk = b at *
  cases z1 <;> cases z2 <;> simp (config := { implicitDefEqProofs := false }) [exSs, ev, evs, evi, evc, evo, tyIs, retv, noMut, noMuts, put, puto, wipeE, ixD, frzE, inTD, notD, negD, own, lstD, setD, intOf, isD, isNone, forStep, b__law_tops_f0, qs, x1, x2, e1, e2]
theorem ltops_f1 (k : Nat) (c : List Int) (hc : c.length ≤ 16) (kk : Nat) (hk : kk < c.length) (told : List D) (hL : told.length < 100) (s2 s3 s4 s5 s6 : Sl) :
    ∃ t3 t4 t5 t6, forStep (call fs k) (.nm 2) b__law_tops_f1 (.int (kk : Nat)) [.f (encC true c), .o (.list told), s2, s3, s4, s5, s6, .u] =
      .ok (.nx, [.f (encC true c), .o (.list (told ++ ((if lawP (xc c) c.length kk = true then some (PyData.int (kk : Nat)) else none : Option D)).toList)), .f (.int (kk : Nat)), t3, t4, t5, t6, .u]) := by
  have hr : rngD ((kk : Int) + 1) (c.length : Int) = .ok ((List.range (c.length - (kk + 1))).map fun d => .int ((kk : Int) + 1 + (d : Nat))) := by
    rw [rng_from (kk + 1) c.length (by omega) (by omega) (by omega) (by omega)]; rfl
  obtain ⟨ε', ⟨t4, hs⟩, e'⟩ := exFor_fold (enc := fun d : Nat => PyData.int ((kk : Int) + 1 + (d : Nat))) (step := forStep (call fs k) (.nm 4) b__law_tops_f0) (f := fun (L : Nat) d => if L = kk + 1 + d - 1 ∧ xc c (kk + 1 + d) = xc c kk then kk + 1 + d else L) (l := List.range (c.length - (kk + 1))) (b := kk)
    (ε := [.f (encC true c), .o (.list told), .f (.int (kk : Nat)), .f (.int (kk : Nat)), s4, s5, s6, .u])
    (I := fun L ε => ∃ t4, ε = [.f (encC true c), .o (.list told), .f (.int (kk : Nat)), .f (.int (L : Nat)), t4, s5, s6, .u]) ⟨_, rfl⟩
    (fun d hd L ε ⟨t4, he⟩ => by
      subst he
      have hd := List.mem_range.mp hd
      have := ltops_f0 k c kk L (kk + 1 + d) hk (by omega) (.o (.list told)) s5 s6 .u t4
      have ei : (if L = kk + 1 + d - 1 ∧ 1 ≤ kk + 1 + d ∧ xc c (kk + 1 + d) = xc c kk then kk + 1 + d else L) = if L = kk + 1 + d - 1 ∧ xc c (kk + 1 + d) = xc c kk then kk + 1 + d else L := by
        have h1 : 1 ≤ kk + 1 + d := by omega
        simp [h1]
      rw [ei] at this
      exact ⟨_, ⟨_, rfl⟩, this⟩)
  have hE : (List.range (c.length - (kk + 1))).foldl (fun (L : Nat) d => if L = kk + 1 + d - 1 ∧ xc c (kk + 1 + d) = xc c kk then kk + 1 + d else L) kk = endR (xc c) c.length kk := rfl
  rw [hE] at hs
  obtain ⟨e1, e2, _, _⟩ := endR_spec (x := xc c) hk
  have ln : biD .len [encC true c] = .ok (.int c.length) := len_ints true c
  have x0 := idx_c true c kk hk
  have xp := idx_c1 true c kk hk
  have xn : endR (xc c) c.length kk + 1 ≠ c.length → idxD (encC true c) (.int ((endR (xc c) c.length kk : Int) + 1)) = .ok (.int (xc c (endR (xc c) c.length kk + 1))) := fun z => idx_c true c (endR (xc c) c.length kk + 1) (by omega)
  have c1 : cmpD .eq (.int (kk : Nat)) (.int 0) = .ok (.bool (decide (kk = 0))) := by
    rw [eqD_int']
    by_cases z : kk = 0
    · rw [decide_eq_true z, decide_eq_true (by omega)]
    · rw [decide_eq_false z, decide_eq_false (by omega)]
  have c2 : cmpD .ge (.int ((kk : Int) - 1)) (.int 0) = .ok (.bool (!decide (kk = 0))) := by
    rw [cmp_ge]
    by_cases z : kk = 0
    · rw [decide_eq_true z, decide_eq_false (by omega)]; rfl
    · rw [decide_eq_false z, decide_eq_true (by omega)]; rfl
  have c3 : cmpD .lt (.int ((kk : Int) - 1)) (.int (c.length : Nat)) = .ok (.bool true) := by rw [cmp_lt, decide_eq_true (by omega)]
  have c4 : cmpD .ge (.int ((endR (xc c) c.length kk : Int) + 1)) (.int 0) = .ok (.bool true) := by rw [cmp_ge, decide_eq_true (by omega)]
  have c5 : cmpD .lt (.int ((endR (xc c) c.length kk : Int) + 1)) (.int (c.length : Nat)) = .ok (.bool (!decide (endR (xc c) c.length kk + 1 = c.length))) := by
    rw [cmp_lt]
    by_cases z : endR (xc c) c.length kk + 1 = c.length
    · rw [decide_eq_true z, decide_eq_false (by omega)]; rfl
    · rw [decide_eq_false z, decide_eq_true (by omega)]; rfl
  have n0 := ne_int (xc c (kk - 1)) (xc c kk)
  have g1 := cmp_gt (xc c (kk - 1)) (xc c kk)
  have g2 := cmp_gt (xc c (endR (xc c) c.length kk + 1)) (xc c kk)
  have nz : cmpD .ne (.list []) (.list []) = .ok (.bool false) := rfl
  have ez : cmpD .eq (.list []) (.list []) = .ok (.bool true) := rfl
  have n1 : ∀ a : Int, cmpD .ne (.list [.int a]) (.list []) = .ok (.bool true) := fun _ => rfl
  have n2 : ∀ a b : Int, cmpD .ne (.list [.int a, .int b]) (.list []) = .ok (.bool true) := fun _ _ => rfl
  have q1 : ∀ a : Int, cmpD .eq (.list [.int a]) (.list []) = .ok (.bool false) := fun _ => rfl
  have q2 : ∀ a b : Int, cmpD .eq (.list [.int a, .int b]) (.list []) = .ok (.bool false) := fun _ _ => rfl
  have sq1 : ∀ ys : List D, seqD (.tuple ys) = .ok ys := fun _ => rfl
  have sq2 : ∀ ys : List D, seqD (.list ys) = .ok ys := fun _ => rfl
  have hlm : told.length < LIM := Nat.lt_of_lt_of_le hL (by decide)
  have hsym : decide (xc c kk = xc c (kk - 1)) = decide (xc c (kk - 1) = xc c kk) := by
    rw [decide_eq_decide]; exact ⟨fun h => h.symm, fun h => h.symm⟩
  unfold lawP isB
  rw [hsym]
  generalize endR (xc c) c.length kk = L at *
  generalize hC : encC true c = C at *
  generalize xc c (kk - 1) = vp at *
  generalize xc c (L + 1) = vn at *
  generalize xc c kk = v at *
  refine ⟨.f (.int (L : Nat)), t4, .f (.bool (decide (kk = 0) || !decide (vp = v))), .o (.list ((if kk = 0 then [] else [.int vp]) ++ (if L + 1 = c.length then [] else [.int vn]))), ?_⟩
  have st : ∀ R : Rs (Fl × Env), exSs (call fs k) (b__law_tops_f1.drop 2) [.f C, .o (.list told), .f (.int (kk : Nat)), .f (.int (L : Nat)), t4, s5, s6, .u] = R → forStep (call fs k) (.nm 2) b__law_tops_f1 (.int (kk : Nat)) [.f C, .o (.list told), s2, s3, s4, s5, s6, .u] = R := by
    rintro R rfl
    unfold forStep
    rw [bnd_nm1, Rs.bnd_ok]
    show exSs _ b__law_tops_f1 [.f C, .o (.list told), .f (.int (kk : Nat)), s3, s4, s5, s6, .u] = _
    unfold b__law_tops_f1
    rw [exSs_nx (ε' := [.f C, .o (.list told), .f (.int (kk : Nat)), .f (.int (kk : Nat)), s4, s5, s6, .u]) (by simp (config := { implicitDefEqProofs := false }) [exSs, ev, evs, evi, evc, evo, tyIs, retv, noMut, noMuts, put, puto, wipeE, ixD, frzE, inTD, notD, negD, own, lstD, setD, intOf, isD, isNone])]
    rw [exSs_nx (ε' := ε') (by simp (config := { implicitDefEqProofs := false }) [exSs, ev, evs, evi, evc, evo, tyIs, retv, noMut, noMuts, put, puto, wipeE, ixD, frzE, inTD, notD, negD, own, lstD, setD, intOf, isD, isNone, qa, ln, hr]; exact e'), hs]
    rfl
  refine st _ ?_
  have hd : b__law_tops_f1.drop 2 = [(.asg (.nm 5) (.or_ (.cmp .eq (.wv 2) (.lit (.int (0)))) (.cmp .ne (.idx (.wv 0) (.bin .sub (.wv 2) (.lit (.int (1))))) (.idx (.wv 0) (.wv 2)))) false []), (.asg (.nm 6) (.lc [4] (.idx (.wv 0) (.wv 4)) (.nm 4) (.seq (.tup [(.bin .sub (.wv 2) (.lit (.int (1)))), (.bin .add (.wv 3) (.lit (.int (1))))])) (.some (.and_ (.cmp .ge (.wv 4) (.lit (.int (0)))) (.cmp .lt (.wv 4) (.bi .len [(.wv 0)]))))) true []), (.iff (.and_ (.var 5) (.and_ (.cmp .eq (.lc [7] (.var 7) (.nm 7) (.seq (.wv 6)) (.some (.cmp .gt (.wv 7) (.idx (.wv 0) (.wv 2))))) (.lst [])) (.cmp .ne (.wv 6) (.lst [])))) [(.app 1 (.var 2) [2])] [])] := rfl
  rw [hd]
  by_cases z1 : kk = 0 <;> by_cases z2 : L + 1 = c.length
  · rw [decide_eq_true z1] at c1 c2 ⊢
    rw [decide_eq_true z2] at c5 ⊢
    rw [if_pos z1, if_pos z2]
    simp (config := { implicitDefEqProofs := false }) [exSs, ev, evs, evi, evc, evo, tyIs, retv, noMut, noMuts, put, puto, wipeE, ixD, frzE, inTD, notD, negD, own, lstD, setD, intOf, isD, isNone, c1, c2, c3, c4, c5, qs, qa, ln, x0, lcL, sq1, sq2, nz, ez, hlm]
  · have xn := xn z2
    rw [decide_eq_true z1] at c1 c2 ⊢
    rw [decide_eq_false z2] at c5 ⊢
    rw [if_pos z1, if_neg z2]
    generalize hg2 : decide (v < vn) = w2 at *
    cases w2 <;> simp (config := { implicitDefEqProofs := false }) [exSs, ev, evs, evi, evc, evo, tyIs, retv, noMut, noMuts, put, puto, wipeE, ixD, frzE, inTD, notD, negD, own, lstD, setD, intOf, isD, isNone, c1, c2, c3, c4, c5, qs, qa, ln, x0, xn, lcL, sq1, sq2, nz, ez, hlm, n1, q1, g2]
  · have xp := xp z1
    rw [decide_eq_false z1] at c1 c2 ⊢
    rw [decide_eq_true z2] at c5 ⊢
    rw [if_neg z1, if_pos z2]
    generalize hg1 : decide (v < vp) = w1 at *
    generalize hn0 : decide (vp = v) = w0 at *
    cases w1 <;> cases w0 <;> simp (config := { implicitDefEqProofs := false }) [exSs, ev, evs, evi, evc, evo, tyIs, retv, noMut, noMuts, put, puto, wipeE, ixD, frzE, inTD, notD, negD, own, lstD, setD, intOf, isD, isNone, c1, c2, c3, c4, c5, qs, qa, ln, x0, xp, lcL, sq1, sq2, nz, ez, hlm, n1, q1, g1, n0]
  · have xp := xp z1
    have xn := xn z2
    rw [decide_eq_false z1] at c1 c2 ⊢
    rw [decide_eq_false z2] at c5 ⊢
    rw [if_neg z1, if_neg z2]
    generalize hg1 : decide (v < vp) = w1 at *
    generalize hg2 : decide (v < vn) = w2 at *
    generalize hn0 : decide (vp = v) = w0 at *
    cases w1 <;> cases w2 <;> cases w0 <;> simp (config := { implicitDefEqProofs := false }) [exSs, ev, evs, evi, evc, evo, tyIs, retv, noMut, noMuts, put, puto, wipeE, ixD, frzE, inTD, notD, negD, own, lstD, setD, intOf, isD, isNone, c1, c2, c3, c4, c5, qs, qa, ln, x0, xp, xn, lcL, sq1, sq2, nz, ez, hlm, n1, q1, n2, q2, g1, g2, n0]
theorem law_tops_ok (k : Nat) (c : List Int) (hc : c.length ≤ 16) : call fs (k + 1) 36 [encC true c] = .ok (.list (natL (lawTops (xc c) c.length))) := by
  have ln : biD .len [encC true c] = .ok (.int c.length) := len_ints true c
  have hr := rng_len (n := c.length) (by omega)
  obtain ⟨ε', ⟨s2, s3, s4, s5, s6, hs⟩, e'⟩ := exFor_opt (N := 50) (enc := fun t : Nat => PyData.int (t : Nat)) (g := fun t => if lawP (xc c) c.length t = true then some (PyData.int (t : Nat)) else none) (l := List.range c.length) (b := []) (step := forStep (call fs k) (.nm 2) b__law_tops_f1)
    (ε := [.f (encC true c), .o (.list []), .u, .u, .u, .u, .u, .u])
    (I := fun b ε => ∃ s2 s3 s4 s5 s6, ε = [.f (encC true c), .o (.list b), s2, s3, s4, s5, s6, .u]) (by rw [List.length_range]; show 0 + _ ≤ 50; omega) ⟨_, _, _, _, _, rfl⟩
    (fun t ht b ε hb ⟨s2, s3, s4, s5, s6, he⟩ => by
      subst he
      obtain ⟨u3, u4, u5, u6, e⟩ := ltops_f1 k c hc t (List.mem_range.mp ht) b (by omega) s2 s3 s4 s5 s6
      exact ⟨_, ⟨_, _, _, _, _, rfl⟩, e⟩)
  have hT : [] ++ (List.range c.length).filterMap (fun t : Nat => if lawP (xc c) c.length t = true then some (PyData.int (t : Nat)) else none) = natL (lawTops (xc c) c.length) := by
    rw [List.nil_append]
    unfold lawTops natL
    generalize List.range c.length = l
    induction l with
    | nil => rfl
    | cons a l ih =>
      rw [List.filterMap_cons, List.filter_cons, ih]
      cases lawP (xc c) c.length a <;> rfl
  rw [hT] at hs
  rw [call_at at__law_tops rfl]
  generalize encC true c = C at *
  simp (config := { implicitDefEqProofs := false }) [exSs, ev, evs, evi, evc, evo, tyIs, retv, noMut, noMuts, put, puto, wipeE, ixD, frzE, inTD, notD, negD, own, lstD, setD, intOf, isD, isNone, f__law_tops, b__law_tops, ln, hr]
  rw [e', hs]
  simp (config := { implicitDefEqProofs := false }) [exSs, ev, evs, evi, evc, evo, tyIs, retv, noMut, noMuts, put, puto, wipeE, ixD, frzE, inTD, notD, negD, own, lstD, setD, intOf, isD, isNone]
end K22
end Ws

set_option Elab.async false
set_option linter.all false
set_option maxRecDepth 100000
set_option maxHeartbeats 400000
/-! K22s: the best shift, plain -/
namespace Ws
namespace K22
section
variable (sc : Int → Option Rat)
abbrev na (s : Int) : Int := if s < 0 then -s else s
def tl (s u : Int) : Prop := na s < na u ∨ (na s = na u ∧ s < u)
instance (s u : Int) : Decidable (tl s u) := by unfold tl; infer_instance
theorem rlt_irrefl (a : Rat) : ¬ a < a := Rat.lt_irrefl
theorem rlt_trans {a b c : Rat} (h1 : a < b) (h2 : b < c) : a < c := by
  rw [← Rat.not_le] at *
  intro h
  rcases Rat.le_total (a := a) (b := b) with z | z
  · exact h2 (Rat.le_trans h z)
  · exact h1 z
theorem rlt_tri (a b : Rat) : a < b ∨ a = b ∨ b < a := by
  by_cases h1 : b ≤ a
  · by_cases h2 : a ≤ b
    · exact .inr (.inl (Rat.le_antisymm h2 h1))
    · exact .inr (.inr (Rat.not_le.mp h2))
  · exact .inl (Rat.not_le.mp h1)
theorem tl_irrefl (s : Int) : ¬ tl s s := by unfold tl; omega
theorem tl_trans {s t u : Int} (h1 : tl s t) (h2 : tl t u) : tl s u := by unfold tl at *; omega
theorem tl_tri (s u : Int) : tl s u ∨ s = u ∨ tl u s := by
  unfold tl na
  split <;> split <;> omega
/-- (q, s) comes ahead of (q', u) -/
def bt2 (a b : Rat × Int) : Prop := a.1 < b.1 ∨ (a.1 = b.1 ∧ tl a.2 b.2)
instance (a b : Rat × Int) : Decidable (bt2 a b) := by unfold bt2; infer_instance
theorem bt2_irrefl (a : Rat × Int) : ¬ bt2 a a := by
  rintro (h | ⟨_, h⟩)
  · exact rlt_irrefl _ h
  · exact tl_irrefl _ h
theorem bt2_trans {a b c : Rat × Int} (h1 : bt2 a b) (h2 : bt2 b c) : bt2 a c := by
  rcases h1 with h1 | ⟨e1, h1⟩ <;> rcases h2 with h2 | ⟨e2, h2⟩
  · exact .inl (rlt_trans h1 h2)
  · exact .inl (e2 ▸ h1)
  · exact .inl (e1 ▸ h2)
  · exact .inr ⟨e1.trans e2, tl_trans h1 h2⟩
theorem bt2_tri (a b : Rat × Int) : bt2 a b ∨ a = b ∨ bt2 b a := by
  rcases rlt_tri a.1 b.1 with h | h | h
  · exact .inl (.inl h)
  · rcases tl_tri a.2 b.2 with g | g | g
    · exact .inl (.inr ⟨h, g⟩)
    · exact .inr (.inl (Prod.ext h g))
    · exact .inr (.inr (.inr ⟨h.symm, g⟩))
  · exact .inr (.inr (.inl h))
/-- the best of those that count -/
def IsBest (l : List Int) : Option (Rat × Int) → Prop
  | none => ∀ s ∈ l, sc s = none
  | some (q, u) => u ∈ l ∧ sc u = some q ∧ ∀ s ∈ l, ∀ r, sc s = some r → s = u ∨ bt2 (q, u) (r, s)
variable {sc}
theorem best_unique {l l' : List Int} (h : ∀ s, s ∈ l ↔ s ∈ l') {a b : Option (Rat × Int)} (ha : IsBest sc l a) (hb : IsBest sc l' b) : a = b := by
  cases a with
  | none =>
    cases b with
    | none => rfl
    | some b =>
      obtain ⟨q, u⟩ := b
      have := ha u ((h u).mpr hb.1)
      rw [hb.2.1] at this; cases this
  | some a =>
    obtain ⟨q, u⟩ := a
    cases b with
    | none =>
      have := hb u ((h u).mp ha.1)
      rw [ha.2.1] at this; cases this
    | some b =>
      obtain ⟨r, v⟩ := b
      rcases ha.2.2 v ((h v).mpr hb.1) r hb.2.1 with e | e
      · subst e
        have := ha.2.1
        rw [hb.2.1] at this
        injection this with this
        rw [this]
      · rcases hb.2.2 u ((h u).mp ha.1) q ha.2.1 with e2 | e2
        · subst e2
          have := ha.2.1
          rw [hb.2.1] at this
          injection this with this
          rw [this]
        · exact absurd (bt2_trans e e2) (bt2_irrefl _)
variable (sc)
def lawStep (b : Option (Rat × Int)) (s : Int) : Option (Rat × Int) := match sc s with
  | none => b
  | some q => match b with
    | none => some (q, s)
    | some (q', u) => if bt2 (q, s) (q', u) then some (q, s) else some (q', u)
def prgStep (b : Option (Rat × Int)) (s : Int) : Option (Rat × Int) := match sc s with
  | none => b
  | some q => match b with
    | none => some (q, s)
    | some (q', u) => if q < q' then some (q, s) else some (q', u)
variable {sc}
theorem best_snoc {l : List Int} {b : Option (Rat × Int)} (h : IsBest sc l b) (s : Int) : IsBest sc (l ++ [s]) (lawStep sc b s) := by
  unfold lawStep
  cases e : sc s with
  | none =>
    cases b with
    | none =>
      intro t ht
      rcases List.mem_append.mp ht with ht | ht
      · exact h t ht
      · rw [List.mem_singleton.mp ht]; exact e
    | some b =>
      obtain ⟨q, u⟩ := b
      refine ⟨List.mem_append_left _ h.1, h.2.1, fun t ht r hr => ?_⟩
      rcases List.mem_append.mp ht with ht | ht
      · exact h.2.2 t ht r hr
      · rw [List.mem_singleton.mp ht, e] at hr; cases hr
  | some q =>
    cases b with
    | none =>
      refine ⟨by simp, e, fun t ht r hr => ?_⟩
      rcases List.mem_append.mp ht with ht | ht
      · rw [h t ht] at hr; cases hr
      · exact .inl (List.mem_singleton.mp ht)
    | some b =>
      obtain ⟨q', u⟩ := b
      show IsBest sc (l ++ [s]) (if bt2 (q, s) (q', u) then some (q, s) else some (q', u))
      by_cases c : bt2 (q, s) (q', u)
      · rw [if_pos c]
        refine ⟨by simp, e, fun t ht r hr => ?_⟩
        rcases List.mem_append.mp ht with ht | ht
        · rcases h.2.2 t ht r hr with z | z
          · subst z
            have := h.2.1
            rw [hr] at this
            injection this with this
            subst this
            exact .inr c
          · exact .inr (bt2_trans c z)
        · exact .inl (List.mem_singleton.mp ht)
      · rw [if_neg c]
        refine ⟨List.mem_append_left _ h.1, h.2.1, fun t ht r hr => ?_⟩
        rcases List.mem_append.mp ht with ht | ht
        · exact h.2.2 t ht r hr
        · have ht := List.mem_singleton.mp ht
          subst ht
          rw [e] at hr
          injection hr with hr
          subst hr
          rcases bt2_tri (q', u) (q, t) with z | z | z
          · exact .inr z
          · injection z with _ z
            exact .inl z.symm
          · exact absurd z c
theorem law_best (l : List Int) : IsBest sc l (l.foldl (lawStep sc) none) := by
  have : ∀ (l l0 : List Int) (b : Option (Rat × Int)), IsBest sc l0 b → IsBest sc (l0 ++ l) (l.foldl (lawStep sc) b) := by
    intro l
    induction l with
    | nil => intro l0 b h; rw [List.append_nil]; exact h
    | cons s l ih =>
      intro l0 b h
      rw [List.foldl_cons, show l0 ++ s :: l = (l0 ++ [s]) ++ l by simp]
      exact ih _ _ (best_snoc h s)
  exact this l [] none fun s h => by cases h
/-- the shifts come by their size -/
theorem prg_law (l : List Int) (hl : l.Pairwise fun a b => tl a b ∨ a = b) : l.foldl (prgStep sc) none = l.foldl (lawStep sc) none := by
  have : ∀ (l l0 : List Int) (b : Option (Rat × Int)), IsBest sc l0 b → (l0 ++ l).Pairwise (fun a b => tl a b ∨ a = b) → l.foldl (prgStep sc) b = l.foldl (lawStep sc) b := by
    intro l
    induction l with
    | nil => intro l0 b _ _; rfl
    | cons s l ih =>
      intro l0 b h hp
      rw [List.foldl_cons, List.foldl_cons]
      have e : prgStep sc b s = lawStep sc b s := by
        unfold prgStep lawStep
        cases e : sc s with
        | none => rfl
        | some q =>
          cases b with
          | none => rfl
          | some b =>
            obtain ⟨q', u⟩ := b
            show (if q < q' then some (q, s) else some (q', u)) = if bt2 (q, s) (q', u) then some (q, s) else some (q', u)
            have hus : tl u s ∨ u = s := (List.pairwise_append.mp hp).2.2 u h.1 s (by simp)
            have : bt2 (q, s) (q', u) ↔ q < q' := by
              constructor
              · rintro (z | ⟨_, z⟩)
                · exact z
                · exfalso
                  have z : tl s u := z
                  rcases hus with g | g
                  · exact tl_irrefl _ (tl_trans z g)
                  · subst g; exact tl_irrefl _ z
              · exact fun z => .inl z
            by_cases c : q < q'
            · rw [if_pos c, if_pos (this.mpr c)]
            · rw [if_neg c, if_neg fun z => c (this.mp z)]
      rw [e]
      exact ih (l0 ++ [s]) _ (best_snoc h s) (by rw [List.append_assoc]; exact hp)
  exact this l [] none (fun s h => by cases h) hl
def L1 : List Int := [0, 0, -1, 1, -2, 2, -3, 3, -4, 4, -5, 5]
def L2 : List Int := [-5, -4, -3, -2, -1, 0, 1, 2, 3, 4, 5]
theorem shifts_eq : L1.foldl (prgStep sc) none = L2.foldl (lawStep sc) none := by
  rw [prg_law L1 (by decide)]
  refine best_unique (fun s => ?_) (law_best L1) (law_best L2)
  simp only [L1, L2, List.mem_cons, List.mem_nil_iff, or_false]
  omega
end
/-- a share, reduced -/
def frac (u l : Nat) (h : 0 < l) : Rat := ⟨((u / Nat.gcd u l : Nat) : Int), l / Nat.gcd u l, by
  have := Nat.gcd_pos_of_pos_right u h
  have := Nat.div_pos (Nat.le_of_dvd h (Nat.gcd_dvd_right u l)) this
  omega, by
  show Nat.Coprime (((u / Nat.gcd u l : Nat) : Int).natAbs) _
  rw [Int.natAbs_natCast]
  exact Nat.coprime_div_gcd_div_gcd (Nat.gcd_pos_of_pos_right u h)⟩
end K22
end Ws

set_option Elab.async false
set_option linter.all false
set_option maxRecDepth 100000
set_option maxHeartbeats 400000
namespace Ws
/-- a loop that goes through, or on -/
theorem exFor_foldC {α β : Type} {enc : α → D} {step : D → Env → Rs (Fl × Env)} {f : β → α → β} {I : β → Env → Prop} : ∀ {l : List α} {b : β} {ε : Env}, I b ε → (∀ a ∈ l, ∀ b ε, I b ε → ∃ ε', I (f b a) ε' ∧ (step (enc a) ε = .ok (.nx, ε') ∨ step (enc a) ε = .ok (.ct, ε'))) →
    ∃ ε', I (l.foldl f b) ε' ∧ exFor step (l.map enc) ε = .ok (.nx, ε')
  | [], b, ε, hi, _ => ⟨ε, hi, rfl⟩
  | a :: l, b, ε, hi, h => by
    obtain ⟨ε1, i1, e1⟩ := h a List.mem_cons_self b ε hi
    obtain ⟨ε2, i2, e2⟩ := exFor_foldC (l := l) i1 fun c hc => h c (List.mem_cons_of_mem _ hc)
    refine ⟨ε2, i2, ?_⟩
    rw [List.map_cons, exFor]
    rcases e1 with e1 | e1 <;> (rw [e1]; exact e2)
namespace K22
open PySem
def fracD (q : Rat) : D := .tuple [.int q.num, .int (q.den : Nat)]
theorem gcd_small (u l : Nat) (h : 0 < l) (h2 : l ≤ 1000) : 0 < Nat.gcd u l ∧ Nat.gcd u l ≤ 1000 :=
  ⟨Nat.gcd_pos_of_pos_right u h, Nat.le_trans (Nat.le_of_dvd h (Nat.gcd_dvd_right u l)) h2⟩
theorem ratio_ok (k : Nat) (u l : Nat) (h : 0 < l) (h2 : l ≤ 1000) : call fs (k + 1) 7 [.int u, .int l] = .ok (fracD (frac u l h)) := by
  obtain ⟨g1, g2⟩ := gcd_small u l h h2
  have gc : biD .gcd [.int (u : Nat), .int (l : Nat)] = .ok (.int (Nat.gcd u l : Nat)) := rfl
  have lt : cmpD .lt (.int (l : Nat)) (.int 0) = .ok (.bool false) := by rw [cmp_lt, decide_eq_false (by omega)]
  have f1 : binD .fdiv (.int (u : Nat)) (.int (Nat.gcd u l : Nat)) = .ok (.int ((u / Nat.gcd u l : Nat) : Int)) := by
    rw [d1 _ _ (by omega) (by omega)]; rfl
  have f2 : binD .fdiv (.int (l : Nat)) (.int (Nat.gcd u l : Nat)) = .ok (.int ((l / Nat.gcd u l : Nat) : Int)) := by
    rw [d1 _ _ (by omega) (by omega)]; rfl
  have e : fracD (frac u l h) = .tuple [.int ((u / Nat.gcd u l : Nat) : Int), .int ((l / Nat.gcd u l : Nat) : Int)] := rfl
  rw [call_at at_ratio rfl, e]
  generalize (u / Nat.gcd u l) = x at *
  generalize (l / Nat.gcd u l) = y at *
  generalize Nat.gcd u l = g at *
  simp (config := { implicitDefEqProofs := false }) [exSs, ev, evs, evi, evc, evo, tyIs, retv, noMut, noMuts, put, puto, wipeE, ixD, frzE, inTD, notD, negD, own, lstD, setD, intOf, isD, isNone, f_ratio, b_ratio, lt, gc, f1, f2]
def gB : List S := [(.iff (.cmp .eq (.wv 1) (.lit (.int (0)))) [(.ret (.var 0))] []), (.par 0 1 (.var 1) (.bin .mod (.bi .int [(.wv 0)]) (.wv 1)) [1])]
theorem gcd_loop (φ : Nat → List D → Rs D) : ∀ (xs : List D) (a b : Nat) (s : Sl), b < xs.length → ∃ ε', exFor (forStep φ (.nm 2) gB) xs [.f (.int (a : Nat)), .f (.int (b : Nat)), s] = .ok (.rt (.int (Nat.gcd a b : Nat)), ε')
  | [], a, b, s, h => by simp at h
  | x :: xs, a, b, s, h => by
    by_cases c : b = 0
    · subst c
      have st : forStep φ (.nm 2) gB x [.f (.int (a : Nat)), .f (.int ((0 : Nat) : Int)), s] = .ok (.rt (.int (a : Nat)), [.f (.int (a : Nat)), .f (.int ((0 : Nat) : Int)), .f x]) := by
        have e0 : cmpD .eq (.int 0) (.int 0) = .ok (.bool true) := rfl
        simp (config := { implicitDefEqProofs := false }) [exSs, ev, evs, evi, evc, evo, tyIs, retv, noMut, noMuts, put, puto, wipeE, ixD, frzE, inTD, notD, negD, own, lstD, setD, intOf, isD, isNone, forStep, gB, e0]
      rw [exFor, st, Nat.gcd_zero_right]
      exact ⟨_, rfl⟩
    · have e0 : cmpD .eq (.int (b : Nat)) (.int 0) = .ok (.bool false) := by rw [eqD_int', decide_eq_false (by omega)]
      have md : binD .mod (.int (a : Nat)) (.int (b : Nat)) = .ok (.int ((a % b : Nat) : Int)) := by rw [m1 _ _ (by omega)]; rfl
      have b1 : ∀ i, biD .int [.int i] = .ok (.int i) := fun _ => rfl
      obtain ⟨ε', e⟩ := gcd_loop φ xs b (a % b) (.f x) (by have := Nat.mod_lt a (Nat.pos_of_ne_zero c); rw [List.length_cons] at h; omega)
      refine ⟨ε', ?_⟩
      have eg : Nat.gcd a b = Nat.gcd b (a % b) := by rw [Nat.gcd_comm, Nat.gcd_rec, Nat.gcd_comm]
      have st : forStep φ (.nm 2) gB x [.f (.int (a : Nat)), .f (.int (b : Nat)), s] = .ok (.nx, [.f (.int (b : Nat)), .f (.int ((a % b : Nat) : Int)), .f x]) := by
        generalize a % b = r at *
        simp (config := { implicitDefEqProofs := false }) [exSs, ev, evs, evi, evc, evo, tyIs, retv, noMut, noMuts, put, puto, wipeE, ixD, frzE, inTD, notD, negD, own, lstD, setD, intOf, isD, isNone, forStep, gB, e0, md, b1]
      rw [exFor, st, eg]
      exact e
theorem law_gcd_ok (k : Nat) (a b : Nat) (h : b < 400) : call fs (k + 1) 29 [.int a, .int b] = .ok (.int (Nat.gcd a b : Nat)) := by
  have hr : rngD 0 400 = .ok ((List.range 400).map fun i => .int (i : Nat)) := rng_len (n := 400) (by omega)
  obtain ⟨ε', e⟩ := gcd_loop (call fs k) ((List.range 400).map fun i => .int (i : Nat)) a b .u (by rw [List.length_map, List.length_range]; exact h)
  rw [call_at at__law_gcd rfl]
  have hb : b__law_gcd = [(.for_ (.nm 2) (.rng1 (.lit (.int (400)))) gB []), (.ret (.var 0))] := rfl
  have hf : f__law_gcd.body = b__law_gcd := rfl
  rw [hf, hb]
  generalize hX : (List.range 400).map (fun i : Nat => PyData.int (i : Nat)) = X at *
  simp (config := { implicitDefEqProofs := false }) [exSs, ev, evs, evi, evc, evo, tyIs, retv, noMut, noMuts, put, puto, wipeE, ixD, frzE, inTD, notD, negD, own, lstD, setD, intOf, isD, isNone, f__law_gcd, hr]
  rw [e]
  simp (config := { implicitDefEqProofs := false }) [exSs, ev, evs, evi, evc, evo, tyIs, retv, noMut, noMuts, put, puto, wipeE, ixD, frzE, inTD, notD, negD, own, lstD, setD, intOf, isD, isNone]
theorem law_frac_ok (k : Nat) (u l : Nat) (h : 0 < l) (h2 : l < 400) : call fs (k + 2) 30 [.int u, .int l] = .ok (fracD (frac u l h)) := by
  obtain ⟨g1, g2⟩ := gcd_small u l h (by omega)
  have gc := law_gcd_ok k u l h2
  have ai : biD .abs [.int (u : Nat)] = .ok (.int (u : Nat)) := by
    have : ab (u : Int) = u := by unfold ab; rw [if_neg (by omega)]
    rw [abs_bi, this]
  have f1 : binD .fdiv (.int (u : Nat)) (.int (Nat.gcd u l : Nat)) = .ok (.int ((u / Nat.gcd u l : Nat) : Int)) := by
    rw [d1 _ _ (by omega) (by omega)]; rfl
  have f2 : binD .fdiv (.int (l : Nat)) (.int (Nat.gcd u l : Nat)) = .ok (.int ((l / Nat.gcd u l : Nat) : Int)) := by
    rw [d1 _ _ (by omega) (by omega)]; rfl
  have b1 : ∀ i, biD .int [.int i] = .ok (.int i) := fun _ => rfl
  have e : fracD (frac u l h) = .tuple [.int ((u / Nat.gcd u l : Nat) : Int), .int ((l / Nat.gcd u l : Nat) : Int)] := rfl
  rw [call_at at__law_frac rfl, e]
  by_cases z : u = 0
  · subst z
    have hg : Nat.gcd 0 l = l := Nat.gcd_zero_left l
    have n0 : cmpD .ne (.int 0) (.int 0) = .ok (.bool false) := rfl
    rw [hg] at gc ⊢
    have hd0 : (0 : Nat) / l = 0 := Nat.zero_div l
    have hd1 : l / l = 1 := Nat.div_self h
    rw [hd0, hd1]
    have ai0 : biD .abs [.int 0] = .ok (.int 0) := rfl
    have gc0 : call fs (k + 1) 29 [.int 0, .int l] = .ok (.int (l : Nat)) := gc
    simp (config := { implicitDefEqProofs := false }) [exSs, ev, evs, evi, evc, evo, tyIs, retv, noMut, noMuts, put, puto, wipeE, ixD, frzE, inTD, notD, negD, own, lstD, setD, intOf, isD, isNone, f__law_frac, b__law_frac, ai0, gc0, n0]
  · have n0 : cmpD .ne (.int (u : Nat)) (.int 0) = .ok (.bool true) := by rw [ne_int, decide_eq_false (by omega)]; rfl
    generalize (u / Nat.gcd u l) = x at *
    generalize (l / Nat.gcd u l) = y at *
    generalize Nat.gcd u l = g at *
    simp (config := { implicitDefEqProofs := false }) [exSs, ev, evs, evi, evc, evo, tyIs, retv, noMut, noMuts, put, puto, wipeE, ixD, frzE, inTD, notD, negD, own, lstD, setD, intOf, isD, isNone, f__law_frac, b__law_frac, ai, gc, n0, f1, f2, b1]
theorem law_less_ok (k : Nat) (a b : Rat) (ha : a.den ≤ 1000) (hb : b.den ≤ 1000) : call fs (k + 1) 31 [fracD a, fracD b] = .ok (.bool (decide (a < b))) := by
  have s1 : ∀ d : Nat, d ≤ 1000 → ∀ i : Int, mulOk i (d : Nat) = true := fun d hd i => by
    have e1 : (-(2 ^ 64) : Int) < (d : Int) := by omega
    have e2 : (d : Int) < (2 ^ 64 : Int) := by omega
    simp only [mulOk, Bool.or_eq_true, Bool.and_eq_true, decide_eq_true_eq]
    exact .inr ⟨e1, e2⟩
  have p1 := mu a.num (b.den : Nat) (s1 _ hb _)
  have p2 := mu b.num (a.den : Nat) (s1 _ ha _)
  have i0 : ∀ q : Rat, idxD (fracD q) (.int 0) = .ok (.int q.num) := fun _ => rfl
  have i1 : ∀ q : Rat, idxD (fracD q) (.int 1) = .ok (.int (q.den : Nat)) := fun _ => rfl
  have e : decide (a < b) = decide (a.num * (b.den : Int) < b.num * (a.den : Int)) := by rw [decide_eq_decide]; exact Rat.lt_iff a b
  rw [call_at at__law_less rfl, e]
  simp (config := { implicitDefEqProofs := false }) [exSs, ev, evs, evi, evc, evo, tyIs, retv, noMut, noMuts, put, puto, wipeE, ixD, frzE, inTD, notD, negD, own, lstD, setD, intOf, isD, isNone, f__law_less, b__law_less, i0, i1, p1, p2]
theorem less_ok (k : Nat) (a b : Rat) (ha : a.den ≤ 1000) (hb : b.den ≤ 1000) : call fs (k + 1) 8 [fracD a, fracD b] = .ok (.bool (decide (a < b))) := law_less_ok k a b ha hb
theorem gap_ok (k : Nat) (q r : Bool) (a b : List Int) (i j : Nat) (hi : i < a.length) (hj : j < b.length) : call fs (k + 1) 11 [encC q a, encC r b, .int i, .int j] = .ok (.int (ab (xc a i - xc b j))) := by
  have x1 := idx_c q a i hi
  have x2 := idx_c r b j hj
  rw [call_at at_gap rfl]
  simp (config := { implicitDefEqProofs := false }) [exSs, ev, evs, evi, evc, evo, tyIs, retv, noMut, noMuts, put, puto, wipeE, ixD, frzE, inTD, notD, negD, own, lstD, setD, intOf, isD, isNone, f_gap, b_gap, x1, x2, qs, abs_bi]
/-! ### one curve beside the other -/
theorem filter_block (b e : Nat) : ∀ m : Nat, (List.range m).filter (fun j => decide (b ≤ j) && decide (j < e)) = (List.range (min m e - b)).map (b + ·)
  | 0 => by simp
  | m + 1 => by
    rw [List.range_succ, List.filter_append, filter_block b e m]
    by_cases h : b ≤ m ∧ m < e
    · have e1 : [m].filter (fun j => decide (b ≤ j) && decide (j < e)) = [m] := by simp [h.1, h.2]
      rw [e1, show min (m + 1) e - b = (min m e - b) + 1 by omega, List.range_succ, List.map_append]
      congr 1
      show [m] = [b + (min m e - b)]
      rw [show b + (min m e - b) = m by omega]
    · have e1 : [m].filter (fun j => decide (b ≤ j) && decide (j < e)) = [] := by
        by_cases h1 : b ≤ m
        · have : ¬ m < e := fun h2 => h ⟨h1, h2⟩
          simp [h1, this]
        · simp [h1]
      rw [e1, List.append_nil, show min (m + 1) e - b = min m e - b by omega]
def oa (s : Int) : Nat := s.toNat
def ob (s : Int) : Nat := (-s).toNat
theorem oab (s : Int) : (0 ≤ s ∧ (oa s : Int) = s ∧ ob s = 0) ∨ (s < 0 ∧ oa s = 0 ∧ (ob s : Int) = -s) := by
  unfold oa ob; omega
def cnt (n m : Nat) (s : Int) : Nat := min m (n + ob s - oa s) - ob s
theorem cnt_law (n m : Nat) (s : Int) : min n (m + oa s - ob s) - oa s = cnt n m s := by
  have hs := oab s
  unfold cnt
  omega
theorem cnt_le (n m : Nat) (s : Int) : cnt n m s ≤ m ∧ cnt n m s ≤ n := by
  have hs := oab s
  unfold cnt
  omega
theorem beside_prg (n m : Nat) (s : Int) : (List.range m).filter (fun j : Nat => decide (0 ≤ (j : Int) + s) && decide ((j : Int) + s < n)) = (List.range (cnt n m s)).map (ob s + ·) := by
  unfold cnt
  rw [← filter_block (ob s) (n + ob s - oa s) m]
  refine List.filter_congr fun j _ => ?_
  have hs := oab s
  congr 1
  · rw [decide_eq_decide]; omega
  · rw [decide_eq_decide]; omega
theorem beside_law (n m : Nat) (s : Int) : (List.range n).filter (fun k : Nat => decide (0 ≤ (k : Int) - s) && decide ((k : Int) - s < m)) = (List.range (cnt n m s)).map (oa s + ·) := by
  rw [← cnt_law, ← filter_block (oa s) (m + oa s - ob s) n]
  refine List.filter_congr fun j _ => ?_
  have hs := oab s
  congr 1
  · rw [decide_eq_decide]; omega
  · rw [decide_eq_decide]; omega
def gapAt (c d : List Int) (s : Int) (i : Nat) : Int := ab (xc c (oa s + i) - xc d (ob s + i))
def tot (c d : List Int) (s : Int) : Int := ((List.range (cnt c.length d.length s)).map (gapAt c d s)).sum
theorem tot_nn (c d : List Int) (s : Int) : 0 ≤ tot c d s := by
  unfold tot
  generalize List.range (cnt c.length d.length s) = l
  induction l with
  | nil => exact Int.le_refl _
  | cons a l ih =>
    rw [List.map_cons, List.sum_cons]
    have : 0 ≤ gapAt c d s a := by unfold gapAt ab; split <;> omega
    omega
def score (c d : List Int) (s : Int) : Option Rat := if h : min c.length d.length ≤ 2 * cnt c.length d.length s ∧ 0 < cnt c.length d.length s then some (frac (tot c d s).toNat (cnt c.length d.length s) h.2) else none
theorem frac_den (u l : Nat) (h : 0 < l) : (frac u l h).den ≤ l := Nat.div_le_self _ _
end K22
end Ws

set_option Elab.async false
set_option linter.all false
set_option maxRecDepth 100000
set_option maxHeartbeats 400000
namespace Ws
namespace K22
open PySem
def b3 : Option (Rat × Int) → D
  | none => .none
  | some (_, u) => .int u
def b4 : Option (Rat × Int) → D
  | none => .none
  | some (q, _) => fracD q
def besideD (c d : List Int) (s : Int) : List D := (List.range (cnt c.length d.length s)).map fun i : Nat => .int ((ob s + i : Nat) : Int)
theorem score_den {c d : List Int} {s : Int} {q : Rat} (hd : d.length ≤ 16) (h : score c d s = some q) : q.den ≤ 1000 := by
  unfold score at h
  split at h
  · rename_i hh
    injection h with h
    subst h
    have := frac_den (tot c d s).toNat (cnt c.length d.length s) hh.2
    have := (cnt_le c.length d.length s).1
    omega
  · cases h
theorem shifted_f0 (k : Nat) (c d : List Int) (hc : okC c) (hd : okC d) (s : Int) (hs : -5 ≤ s ∧ s ≤ 5) (b : Option (Rat × Int)) (hb : ∀ q u, b = some (q, u) → q.den ≤ 1000) (sz s5 s6 s7 : Sl) (h6 : ∀ x, s6 ≠ .o x ∨ True) :
    ∃ t6 t7, (∀ q u, prgStep (score c d) b s = some (q, u) → q.den ≤ 1000) ∧
      (forStep (call fs (k + 2)) (.nm 5) b_shifted_f0 (.int s) [.f (encC true c), .f (encC true d), sz, .f (b3 b), .f (b4 b), s5, s6, s7, .u] = .ok (.nx, [.f (encC true c), .f (encC true d), sz, .f (b3 (prgStep (score c d) b s)), .f (b4 (prgStep (score c d) b s)), .f (.int s), t6, t7, .u]) ∨
       forStep (call fs (k + 2)) (.nm 5) b_shifted_f0 (.int s) [.f (encC true c), .f (encC true d), sz, .f (b3 b), .f (b4 b), s5, s6, s7, .u] = .ok (.ct, [.f (encC true c), .f (encC true d), sz, .f (b3 (prgStep (score c d) b s)), .f (b4 (prgStep (score c d) b s)), .f (.int s), t6, t7, .u])) := by
  have lc1 : biD .len [encC true c] = .ok (.int c.length) := len_ints true c
  have ld1 : biD .len [encC true d] = .ok (.int d.length) := len_ints true d
  have hr := rng_len (n := d.length) (by have := hd.2.1; omega)
  have lb : biD .len [.list (besideD c d s)] = .ok (.int (cnt c.length d.length s : Nat)) := by
    show Rs.ok (PyData.int ((besideD c d s).length : Nat)) = _
    unfold besideD
    rw [List.length_map, List.length_range]
  have mi := mib (c.length : Int) (d.length : Int)
  have hcl := cnt_le c.length d.length s
  have m2 : binD .mul (.int 2) (.int (cnt c.length d.length s : Nat)) = .ok (.int (2 * (cnt c.length d.length s : Nat))) := mu _ _ (by simp [mulOk])
  have hmin : (if (d.length : Int) < c.length then (d.length : Int) else c.length) = ((min c.length d.length : Nat) : Int) := by split <;> omega
  rw [hmin] at mi
  have hbes : (List.range d.length).filter (fun j : Nat => decide (0 ≤ (j : Int) + s) && decide ((j : Int) + s < c.length)) = (List.range (cnt c.length d.length s)).map (ob s + ·) := beside_prg c.length d.length s
  have hgap : ∀ i, i < cnt c.length d.length s → call fs (k + 2) 11 [encC true c, encC true d, .int (((ob s + i : Nat) : Int) + s), .int ((ob s + i : Nat) : Int)] = .ok (.int (gapAt c d s i)) := by
    intro i hi
    have ho := oab s
    have hcl2 : i + oa s < c.length ∧ i + ob s < d.length := by
      unfold cnt at hi; omega
    have := gap_ok (k + 1) true true c d (oa s + i) (ob s + i) (by omega) (by omega)
    rw [show ((ob s + i : Nat) : Int) + s = ((oa s + i : Nat) : Int) by omega]
    exact this
  have st : ∀ R : Rs (Fl × Env), exSs (call fs (k + 2)) (b_shifted_f0.drop 1) [.f (encC true c), .f (encC true d), sz, .f (b3 b), .f (b4 b), .f (.int s), .o (.list (besideD c d s)), s7, .u] = R → forStep (call fs (k + 2)) (.nm 5) b_shifted_f0 (.int s) [.f (encC true c), .f (encC true d), sz, .f (b3 b), .f (b4 b), s5, s6, s7, .u] = R := by
    rintro R rfl
    unfold forStep
    rw [bnd_nm1, Rs.bnd_ok]
    show exSs _ b_shifted_f0 [.f (encC true c), .f (encC true d), sz, .f (b3 b), .f (b4 b), .f (.int s), s6, s7, .u] = _
    unfold b_shifted_f0
    refine exSs_nx ?_
    have hl : PyData.list (((List.range d.length).filter (fun j : Nat => decide (0 ≤ (j : Int) + s) && decide ((j : Int) + s < c.length))).map fun i : Nat => PyData.int (i : Int)) = .list (besideD c d s) := by
      rw [hbes, List.map_map]; rfl
    generalize encC true c = C at *
    generalize encC true d = Dd at *
    generalize (c.length : Int) = n at *
    simp (config := { implicitDefEqProofs := false }) [exSs, ev, evs, evi, evc, evo, tyIs, retv, noMut, noMuts, put, puto, wipeE, ixD, frzE, inTD, notD, negD, own, lstD, setD, intOf, isD, isNone, ld1, hr]
    rw [lcL_flat (enc := fun i : Nat => PyData.int (i : Nat)) (f := fun j : Nat => if (decide (0 ≤ (j : Int) + s) && decide ((j : Int) + s < n)) = true then [.int (j : Nat)] else []) fun j hj => by
      generalize (j : Int) = jj at *
      simp (config := { implicitDefEqProofs := false }) [exSs, ev, evs, evi, evc, evo, tyIs, retv, noMut, noMuts, put, puto, wipeE, ixD, frzE, inTD, notD, negD, own, lstD, setD, intOf, isD, isNone, lc1, qa]
      by_cases z1 : 0 ≤ jj + s <;> by_cases z2 : jj + s < n <;> simp (config := { implicitDefEqProofs := false }) [exSs, ev, evs, evi, evc, evo, tyIs, retv, noMut, noMuts, put, puto, wipeE, ixD, frzE, inTD, notD, negD, own, lstD, setD, intOf, isD, isNone, z1, z2, lc1, qa]]
    rw [flat_filter, Rs.bnd_ok, Rs.bnd_ok, hl]
    simp (config := { implicitDefEqProofs := false }) [exSs, ev, evs, evi, evc, evo, tyIs, retv, noMut, noMuts, put, puto, wipeE, ixD, frzE, inTD, notD, negD, own, lstD, setD, intOf, isD, isNone]
  have hlt : cmpD .lt (.int (2 * (cnt c.length d.length s : Nat))) (.int ((min c.length d.length : Nat) : Int)) = .ok (.bool (decide (2 * cnt c.length d.length s < min c.length d.length))) := by
    have hdec : decide ((2 * (cnt c.length d.length s : Nat) : Int) < ((min c.length d.length : Nat) : Int)) = decide (2 * cnt c.length d.length s < min c.length d.length) := by
      rw [decide_eq_decide]; omega
    rw [cmp_lt, hdec]
  have hpos := hc.1
  have hpos2 := hd.1
  have hdr : b_shifted_f0.drop 1 = [(.iff (.cmp .lt (.bin .mul (.lit (.int (2))) (.bi .len [(.wv 6)])) (.bi .min [(.bi .len [(.wv 0)]), (.bi .len [(.wv 1)])])) [.cont] []), (.asg (.nm 7) (.nomut (.call 7 [(.bi .sum [(.lc [8] (.nomut (.call 11 [(.var 0), (.var 1), (.bin .add (.wv 8) (.wv 5)), (.var 8)])) (.nm 8) (.seq (.wv 6)) .none)]), (.bi .len [(.wv 6)])])) false []), (.iff (.or_ (.cmp .is_ (.wv 3) (.lit .none)) (.nomut (.call 8 [(.var 7), (.var 4)]))) [(.par 3 4 (.var 5) (.var 7) [5, 7])] [])] := rfl
  by_cases h : 2 * cnt c.length d.length s < min c.length d.length
  · -- on
    have sN : score c d s = none := by
      unfold score
      rw [dif_neg (by omega)]
    have e : prgStep (score c d) b s = b := by unfold prgStep; rw [sN]
    rw [e]
    refine ⟨.o (.list (besideD c d s)), s7, hb, .inr (st _ ?_)⟩
    rw [hdr]
    rw [decide_eq_true h] at hlt
    generalize encC true c = C at *
    generalize encC true d = Dd at *
    generalize PyData.list (besideD c d s) = B at *
    simp (config := { implicitDefEqProofs := false }) [exSs, ev, evs, evi, evc, evo, tyIs, retv, noMut, noMuts, put, puto, wipeE, ixD, frzE, inTD, notD, negD, own, lstD, setD, intOf, isD, isNone, lb, m2, lc1, ld1, mi, hlt]
  · have h0 : 0 < cnt c.length d.length s := by omega
    have hq : score c d s = some (frac (tot c d s).toNat (cnt c.length d.length s) h0) := by
      unfold score
      rw [dif_pos ⟨by omega, h0⟩]
    have rt := ratio_ok (k + 1) (tot c d s).toNat (cnt c.length d.length s) h0 (by have := hd.2.1; omega)
    rw [show (((tot c d s).toNat : Nat) : Int) = tot c d s by have := tot_nn c d s; omega] at rt
    have den := score_den hd.2.1 hq
    generalize frac (tot c d s).toNat (cnt c.length d.length s) h0 = q at *
    have hnm : noMut (fracD q) = true := rfl
    have s2 : seqD (.list (besideD c d s)) = .ok ((List.range (cnt c.length d.length s)).map fun i : Nat => .int ((ob s + i : Nat) : Int)) := rfl
    have sumf : ((List.range (cnt c.length d.length s)).map (gapAt c d s)).sum = tot c d s := rfl
    rw [decide_eq_false h] at hlt
    -- the mean
    have st2 : ∀ R : Rs (Fl × Env), exSs (call fs (k + 2)) (b_shifted_f0.drop 3) [.f (encC true c), .f (encC true d), sz, .f (b3 b), .f (b4 b), .f (.int s), .o (.list (besideD c d s)), .f (fracD q), .u] = R → exSs (call fs (k + 2)) (b_shifted_f0.drop 1) [.f (encC true c), .f (encC true d), sz, .f (b3 b), .f (b4 b), .f (.int s), .o (.list (besideD c d s)), s7, .u] = R := by
      rintro R rfl
      rw [hdr]
      have hd3 : b_shifted_f0.drop 3 = [(.iff (.or_ (.cmp .is_ (.wv 3) (.lit .none)) (.nomut (.call 8 [(.var 7), (.var 4)]))) [(.par 3 4 (.var 5) (.var 7) [5, 7])] [])] := rfl
      rw [hd3]
      generalize encC true c = C at *
      generalize encC true d = Dd at *
      generalize PyData.list (besideD c d s) = B at *
      generalize cnt c.length d.length s = N at *
      refine (exSs_nx (ε' := [.f C, .f Dd, sz, .f (b3 b), .f (b4 b), .f (.int s), .o B, s7, .u]) (by simp (config := { implicitDefEqProofs := false }) [exSs, ev, evs, evi, evc, evo, tyIs, retv, noMut, noMuts, put, puto, wipeE, ixD, frzE, inTD, notD, negD, own, lstD, setD, intOf, isD, isNone, lb, m2, lc1, ld1, mi, hlt])).trans (exSs_nx ?_)
      simp (config := { implicitDefEqProofs := false }) [exSs, ev, evs, evi, evc, evo, tyIs, retv, noMut, noMuts, put, puto, wipeE, ixD, frzE, inTD, notD, negD, own, lstD, setD, intOf, isD, isNone, s2]
      rw [lcL_map (enc := fun i : Nat => PyData.int ((ob s : Int) + (i : Nat))) (f := fun i => .int (gapAt c d s i)) fun i hi => by
        have hg := hgap i (List.mem_range.mp hi)
        have hg : call fs (k + 2) 11 [C, Dd, .int ((ob s : Int) + (i : Nat) + s), .int ((ob s : Int) + (i : Nat))] = .ok (.int (gapAt c d s i)) := hg
        simp (config := { implicitDefEqProofs := false }) [exSs, ev, evs, evi, evc, evo, tyIs, retv, noMut, noMuts, put, puto, wipeE, ixD, frzE, inTD, notD, negD, own, lstD, setD, intOf, isD, isNone, qa, hg]]
      rw [Rs.bnd_ok, Rs.bnd_ok, Rs.bnd_ok, sum_map' (p := gapAt c d s), sumf]
      simp (config := { implicitDefEqProofs := false }) [exSs, ev, evs, evi, evc, evo, tyIs, retv, noMut, noMuts, put, puto, wipeE, ixD, frzE, inTD, notD, negD, own, lstD, setD, intOf, isD, isNone, lb, rt, hnm]
    have hd3 : b_shifted_f0.drop 3 = [(.iff (.or_ (.cmp .is_ (.wv 3) (.lit .none)) (.nomut (.call 8 [(.var 7), (.var 4)]))) [(.par 3 4 (.var 5) (.var 7) [5, 7])] [])] := rfl
    refine ⟨.o (.list (besideD c d s)), .f (fracD q), ?_, .inl (st _ (st2 _ ?_))⟩
    · intro q2 u2 e
      unfold prgStep at e
      rw [hq] at e
      cases b with
      | none => injection e with e; injection e with e _; rw [← e]; exact den
      | some p =>
        obtain ⟨q3, u3⟩ := p
        have e : (if q < q3 then some (q, s) else some (q3, u3)) = some (q2, u2) := e
        split at e
        · injection e with e; injection e with e _; rw [← e]; exact den
        · injection e with e; injection e with e _; rw [← e]; exact hb q3 u3 rfl
    · rw [hd3]
      unfold prgStep
      rw [hq]
      generalize encC true c = C at *
      generalize encC true d = Dd at *
      generalize PyData.list (besideD c d s) = B at *
      cases b with
      | none =>
        have in1 : cmpD .is_ (b3 none) .none = .ok (.bool true) := rfl
        simp (config := { implicitDefEqProofs := false }) [exSs, ev, evs, evi, evc, evo, tyIs, retv, noMut, noMuts, put, puto, wipeE, ixD, frzE, inTD, notD, negD, own, lstD, setD, intOf, isD, isNone, in1, b3, b4]
      | some p =>
        obtain ⟨q3, u3⟩ := p
        have in1 : cmpD .is_ (b3 (some (q3, u3))) .none = .ok (.bool false) := rfl
        have ls := less_ok (k + 1) q q3 den (hb q3 u3 rfl)
        by_cases z : q < q3
        · rw [decide_eq_true z] at ls
          show _ = Rs.ok (Fl.nx, [_, _, _, Sl.f (b3 (if q < q3 then some (q, s) else some (q3, u3))), Sl.f (b4 (if q < q3 then some (q, s) else some (q3, u3))), _, _, _, _])
          rw [if_pos z]
          simp (config := { implicitDefEqProofs := false }) [exSs, ev, evs, evi, evc, evo, tyIs, retv, noMut, noMuts, put, puto, wipeE, ixD, frzE, inTD, notD, negD, own, lstD, setD, intOf, isD, isNone, in1, b3, b4, ls]
        · rw [decide_eq_false z] at ls
          show _ = Rs.ok (Fl.nx, [_, _, _, Sl.f (b3 (if q < q3 then some (q, s) else some (q3, u3))), Sl.f (b4 (if q < q3 then some (q, s) else some (q3, u3))), _, _, _, _])
          rw [if_neg z]
          simp (config := { implicitDefEqProofs := false }) [exSs, ev, evs, evi, evc, evo, tyIs, retv, noMut, noMuts, put, puto, wipeE, ixD, frzE, inTD, notD, negD, own, lstD, setD, intOf, isD, isNone, in1, b3, b4, ls]
end K22
end Ws

set_option Elab.async false
set_option linter.all false
set_option maxRecDepth 100000
set_option maxHeartbeats 400000
namespace Ws
namespace K22
open PySem
def resD : Option (Rat × Int) → D
  | none => .none
  | some (q, u) => .tuple [.int u, fracD q]
theorem pair_of_ok (k : Nat) (q r : Bool) (c d : List Int) (hc : okC c) (hd : okC d) : call fs (k + 4) 10 [encC q c, encC r d] = .ok (.tuple [encC true c, encC true d]) := by
  have ic := is_curve_ok k q c hc
  have id := is_curve_ok k r d hd
  have tc := tupled_curve k q c
  have td := tupled_curve k r d
  have nc := nm_curve c
  have nd := nm_curve d
  rw [call_at at_pair_of rfl]
  generalize encC true c = C at *
  generalize encC true d = Dd at *
  simp (config := { implicitDefEqProofs := false }) [exSs, ev, evs, evi, evc, evo, tyIs, retv, noMut, noMuts, put, puto, wipeE, ixD, frzE, inTD, notD, negD, own, lstD, setD, intOf, isD, isNone, f_pair_of, b_pair_of, ic, id, tc, td, nc, nd, need_true]
def bk (c d : List Int) (i : Nat) : Option (Rat × Int) := (L1.take (2 * i)).foldl (prgStep (score c d)) none
theorem bk_succ (c d : List Int) (i : Nat) (h : i < 6) : bk c d (i + 1) = [-(i : Int), (i : Int)].foldl (prgStep (score c d)) (bk c d i) := by
  have e : L1.take (2 * (i + 1)) = L1.take (2 * i) ++ [-(i : Int), (i : Int)] := by
    have : i = 0 ∨ i = 1 ∨ i = 2 ∨ i = 3 ∨ i = 4 ∨ i = 5 := by omega
    rcases this with rfl | rfl | rfl | rfl | rfl | rfl <;> decide
  unfold bk
  rw [e, List.foldl_append]
theorem shifted_f1 (k : Nat) (c d : List Int) (hc : okC c) (hd : okC d) (i : Nat) (hi : i < 6) (hb : ∀ q u, bk c d i = some (q, u) → q.den ≤ 1000) (s2 s5 s6 s7 : Sl) :
    ∃ t5 t6 t7, (∀ q u, bk c d (i + 1) = some (q, u) → q.den ≤ 1000) ∧
      forStep (call fs (k + 2)) (.nm 2) b_shifted_f1 (.int (i : Nat)) [.f (encC true c), .f (encC true d), s2, .f (b3 (bk c d i)), .f (b4 (bk c d i)), s5, s6, s7, .u] = .ok (.nx, [.f (encC true c), .f (encC true d), .f (.int (i : Nat)), .f (b3 (bk c d (i + 1))), .f (b4 (bk c d (i + 1))), t5, t6, t7, .u]) := by
  obtain ⟨ε', ⟨t5, t6, t7, g, hs⟩, e'⟩ := exFor_foldC (enc := PyData.int) (step := forStep (call fs (k + 2)) (.nm 5) b_shifted_f0) (f := prgStep (score c d)) (l := [-(i : Int), (i : Int)]) (b := bk c d i)
    (ε := [.f (encC true c), .f (encC true d), .f (.int (i : Nat)), .f (b3 (bk c d i)), .f (b4 (bk c d i)), s5, s6, s7, .u])
    (I := fun b ε => ∃ t5 t6 t7, (∀ q u, b = some (q, u) → q.den ≤ 1000) ∧ ε = [.f (encC true c), .f (encC true d), .f (.int (i : Nat)), .f (b3 b), .f (b4 b), t5, t6, t7, .u]) ⟨_, _, _, hb, rfl⟩
    (fun s hs b ε ⟨t5, t6, t7, hb, he⟩ => by
      subst he
      obtain ⟨u6, u7, g1, g2⟩ := shifted_f0 k c d hc hd s (by
        simp only [List.mem_cons, List.mem_nil_iff, or_false] at hs
        rcases hs with rfl | rfl <;> omega) b hb (.f (.int (i : Nat))) t5 t6 t7 (fun _ => .inr trivial)
      exact ⟨_, ⟨_, _, _, g1, rfl⟩, g2⟩)
  rw [← bk_succ c d i hi] at hs g
  refine ⟨t5, t6, t7, g, ?_⟩
  have sq1 : ∀ ys : List D, seqD (.tuple ys) = .ok ys := fun _ => rfl
  have ng : negD (.int (i : Nat)) = .ok (.int (-(i : Int))) := rfl
  generalize encC true c = C at *
  generalize encC true d = Dd at *
  have e2 : exFor (forStep (call fs (k + 2)) (.nm 5) b_shifted_f0) [.int (-(i : Int)), .int (i : Int)] [.f C, .f Dd, .f (.int (i : Nat)), .f (b3 (bk c d i)), .f (b4 (bk c d i)), s5, s6, s7, .u] = .ok (.nx, ε') := e'
  generalize b3 (bk c d i) = x3 at *
  generalize b4 (bk c d i) = x4 at *
  have hf : frzE [.f C, .f Dd, .f (.int (i : Nat)), .f x3, .f x4, s5, s6, s7, .u] [2] = [.f C, .f Dd, .f (.int (i : Nat)), .f x3, .f x4, s5, s6, s7, .u] := by simp [frzE]
  have ei : evi (call fs (k + 2)) (.seq (.tup [(.neg (.wv 2)), (.var 2)])) [.f C, .f Dd, .f (.int (i : Nat)), .f x3, .f x4, s5, s6, s7, .u] = .ok [.int (-(i : Int)), .int (i : Int)] := by
    simp (config := { implicitDefEqProofs := false }) [exSs, ev, evs, evi, evc, evo, tyIs, retv, noMut, noMuts, put, puto, wipeE, ixD, frzE, inTD, notD, negD, own, lstD, setD, intOf, isD, isNone, sq1, ng]
  have c1 : exS (call fs (k + 2)) (.for_ (.nm 5) (.seq (.tup [(.neg (.wv 2)), (.var 2)])) b_shifted_f0 [2]) [.f C, .f Dd, .f (.int (i : Nat)), .f x3, .f x4, s5, s6, s7, .u] = .ok (.nx, ε') := by
    rw [exS_for, hf, ei, Rs.bnd_ok]
    exact e2
  have c2 : exSs (call fs (k + 2)) b_shifted_f1 [.f C, .f Dd, .f (.int (i : Nat)), .f x3, .f x4, s5, s6, s7, .u] = .ok (.nx, ε') := by
    unfold b_shifted_f1
    rw [exSs_nx c1]
    simp (config := { implicitDefEqProofs := false }) [exSs, ev, evs, evi, evc, evo, tyIs, retv, noMut, noMuts, put, puto, wipeE, ixD, frzE, inTD, notD, negD, own, lstD, setD, intOf, isD, isNone]
  unfold forStep
  rw [bnd_nm1, Rs.bnd_ok]
  have hset : List.set [Sl.f C, .f Dd, s2, .f x3, .f x4, s5, s6, s7, .u] 2 (.f (.int (i : Nat))) = [.f C, .f Dd, .f (.int (i : Nat)), .f x3, .f x4, s5, s6, s7, .u] := by simp
  rw [hset, c2, hs]
theorem shifted_ok (k : Nat) (q r : Bool) (c d : List Int) (hc : okC c) (hd : okC d) : call fs (k + 5) 25 [encC q c, encC r d] = .ok (resD (L1.foldl (prgStep (score c d)) none)) := by
  have po := pair_of_ok k q r c d hc hd
  have npo : noMut (.tuple [encC true c, encC true d]) = true := by
    show (noMut (encC true c) && (noMut (encC true d) && true)) = true
    rw [nm_curve, nm_curve]; rfl
  have hr : rngD 0 6 = .ok ((List.range 6).map fun i => .int (i : Nat)) := rng_len (n := 6) (by omega)
  obtain ⟨ε', ⟨s2, s5, s6, s7, g, hs⟩, e'⟩ := exFor_rangeI (enc := fun i : Nat => PyData.int (i : Nat)) (m := 6) (step := forStep (call fs (k + 4)) (.nm 2) b_shifted_f1)
    (ε := [.f (encC true c), .f (encC true d), .u, .f .none, .f .none, .u, .u, .u, .u])
    (I := fun i ε => ∃ s2 s5 s6 s7, (∀ q u, bk c d i = some (q, u) → q.den ≤ 1000) ∧ ε = [.f (encC true c), .f (encC true d), s2, .f (b3 (bk c d i)), .f (b4 (bk c d i)), s5, s6, s7, .u]) ⟨_, _, _, _, (fun q u e => by cases (show (none : Option (Rat × Int)) = some (q, u) from e)), rfl⟩
    (fun i hi ε ⟨s2, s5, s6, s7, hb, he⟩ => by
      subst he
      obtain ⟨t5, t6, t7, g1, g2⟩ := shifted_f1 (k + 2) c d hc hd i hi hb s2 s5 s6 s7
      exact ⟨_, ⟨_, _, _, _, g1, rfl⟩, g2⟩)
  have hL : bk c d 6 = L1.foldl (prgStep (score c d)) none := rfl
  rw [hL] at hs
  have a65 : binD .add (.int 5) (.int 1) = .ok (.int 6) := rfl
  have c0 : exS (call fs (k + 4)) (.asg (.tp [(.nm 0), (.nm 1)]) (.nomut (.call 10 [(.var 0), (.var 1)])) false []) [.f (encC q c), .f (encC r d), .u, .u, .u, .u, .u, .u, .u] = .ok (.nx, [.f (encC true c), .f (encC true d), .u, .u, .u, .u, .u, .u, .u]) := by
    generalize encC true c = C at *
    generalize encC true d = Dd at *
    have npo' : noMut C = true ∧ noMut Dd = true := by
      have : (noMut C && (noMut Dd && true)) = true := npo
      simpa using this
    simp (config := { implicitDefEqProofs := false }) [exSs, ev, evs, evi, evc, evo, tyIs, retv, noMut, noMuts, put, puto, wipeE, ixD, frzE, inTD, notD, negD, own, lstD, setD, intOf, isD, isNone, po, npo'.1, npo'.2]
  generalize L1.foldl (prgStep (score c d)) none = B at *
  generalize encC true c = C at *
  generalize encC true d = Dd at *
  have c1 : exS (call fs (k + 4)) (.asg (.tp [(.nm 3), (.nm 4)]) (.tup [(.lit .none), (.lit .none)]) false []) [.f C, .f Dd, .u, .u, .u, .u, .u, .u, .u] = .ok (.nx, [.f C, .f Dd, .u, .f .none, .f .none, .u, .u, .u, .u]) := by
    simp (config := { implicitDefEqProofs := false }) [exSs, ev, evs, evi, evc, evo, tyIs, retv, noMut, noMuts, put, puto, wipeE, ixD, frzE, inTD, notD, negD, own, lstD, setD, intOf, isD, isNone]
  have c2 : exS (call fs (k + 4)) (.for_ (.nm 2) (.rng1 (.bin .add (.gl (.int (5))) (.lit (.int (1))))) b_shifted_f1 []) [.f C, .f Dd, .u, .f .none, .f .none, .u, .u, .u, .u] = .ok (.nx, ε') := by
    have ei : evi (call fs (k + 4)) (.rng1 (.bin .add (.gl (.int (5))) (.lit (.int (1))))) [.f C, .f Dd, .u, .f .none, .f .none, .u, .u, .u, .u] = .ok ((List.range 6).map fun i : Nat => .int (i : Nat)) := by
      simp only [evi, ev, a65, Rs.bnd_ok, intOf, Rs.of_some]
      exact hr
    rw [exS_for]
    have hf : frzE [.f C, .f Dd, .u, .f .none, .f .none, .u, .u, .u, .u] [] = [.f C, .f Dd, .u, .f .none, .f .none, .u, .u, .u, .u] := rfl
    rw [hf, ei, Rs.bnd_ok]
    exact e'
  rw [call_at at_shifted rfl]
  have hb : f_shifted.body = [(.asg (.tp [(.nm 0), (.nm 1)]) (.nomut (.call 10 [(.var 0), (.var 1)])) false []), (.asg (.tp [(.nm 3), (.nm 4)]) (.tup [(.lit .none), (.lit .none)]) false []), (.for_ (.nm 2) (.rng1 (.bin .add (.gl (.int (5))) (.lit (.int (1))))) b_shifted_f1 []), (.iff (.cmp .is_ (.wv 3) (.lit .none)) [(.ret (.lit .none))] []), (.ret (.tup [(.var 3), (.var 4)]))] := rfl
  have he : ([encC q c, encC r d].map Sl.f ++ List.replicate (f_shifted.n - f_shifted.np) .u : Env) = [.f (encC q c), .f (encC r d), .u, .u, .u, .u, .u, .u, .u] := rfl
  rw [hb, he, exSs_nx c0, exSs_nx c1, exSs_nx c2, hs]
  cases B with
  | none => simp (config := { implicitDefEqProofs := false }) [exSs, ev, evs, evi, evc, evo, tyIs, retv, noMut, noMuts, put, puto, wipeE, ixD, frzE, inTD, notD, negD, own, lstD, setD, intOf, isD, isNone, b3, b4, resD]
  | some p =>
    obtain ⟨q3, u3⟩ := p
    have in1 : cmpD .is_ (.int u3) .none = .ok (.bool false) := rfl
    simp (config := { implicitDefEqProofs := false }) [exSs, ev, evs, evi, evc, evo, tyIs, retv, noMut, noMuts, put, puto, wipeE, ixD, frzE, inTD, notD, negD, own, lstD, setD, intOf, isD, isNone, b3, b4, resD, in1]
/-! ### the law's shifts -/
def lbD : Option (Rat × Int) → D
  | none => .none
  | some (q, u) => .tuple [fracD q, .int u]
def pairsD (c d : List Int) (s : Int) : List D := (List.range (cnt c.length d.length s)).map fun i : Nat => .tuple [.int (xc c (oa s + i)), .int (xc d (ob s + i))]
theorem eq_frac (q r : Rat) : cmpD .eq (fracD q) (fracD r) = .ok (.bool (decide (q = r))) := by
  show eqD _ _ = _
  unfold eqD
  have l1 : ∀ q : Rat, lim 40 (fracD q) = true := fun q => by simp [fracD, lim]
  rw [l1, l1]
  show Rs.ok (PyData.bool (PyData.eqv (fracD q) (fracD r))) = _
  congr 2
  have e : PyData.eqv (fracD q) (fracD r) = (decide (q.num = r.num) && (decide ((q.den : Int) = r.den) && true)) := by
    simp [fracD, PyData.eqv, PyData.eqvAll]
    rfl
  rw [e]
  by_cases h : q = r
  · subst h; simp
  · rw [decide_eq_false h]
    by_cases h1 : q.num = r.num
    · have : ¬ (q.den : Int) = r.den := fun h2 => h (Rat.ext h1 (by omega))
      rw [decide_eq_false this]; simp
    · rw [decide_eq_false h1]; rfl
theorem lt_pair (a b x y : Int) : cmpD .lt (.tuple [.int a, .int b]) (.tuple [.int x, .int y]) = .ok (.bool (decide (a < x ∨ (a = x ∧ b < y)))) := by
  show ltB _ _ = _
  unfold ltB
  have : cmpOk (.tuple [.int a, .int b]) (.tuple [.int x, .int y]) = true := by
    unfold cmpOk
    simp [PySem.W.alike, PySem.W.alikeAll, isNone, lim]
  rw [if_pos this, PySem.W.dataLt_ii]
end K22
end Ws

set_option Elab.async false
set_option linter.all false
set_option maxRecDepth 100000
set_option maxHeartbeats 400000
namespace Ws
namespace K22
open PySem
theorem lshift_f0 (k : Nat) (c d : List Int) (hc : okC c) (hd : okC d) (s : Int) (hs : -5 ≤ s ∧ s ≤ 5) (b : Option (Rat × Int)) (hb : ∀ q u, b = some (q, u) → q.den ≤ 1000) (s4 s5 s6 : Sl) :
    ∃ t5 t6, (∀ q u, lawStep (score c d) b s = some (q, u) → q.den ≤ 1000) ∧
      forStep (call fs (k + 2)) (.nm 4) b__law_shifts_f0 (.int s) [.f (encC true c), .f (encC true d), .f (lbD b), .f (.int (min c.length d.length : Nat)), s4, s5, s6, .u, .u, .u] = .ok (.nx, [.f (encC true c), .f (encC true d), .f (lbD (lawStep (score c d) b s)), .f (.int (min c.length d.length : Nat)), .f (.int s), t5, t6, .u, .u, .u]) := by
  have lc1 : biD .len [encC true c] = .ok (.int c.length) := len_ints true c
  have ld1 : biD .len [encC true d] = .ok (.int d.length) := len_ints true d
  have hr := rng_len (n := c.length) (by have := hc.2.1; omega)
  have lb : biD .len [.list (pairsD c d s)] = .ok (.int (cnt c.length d.length s : Nat)) := by
    show Rs.ok (PyData.int ((pairsD c d s).length : Nat)) = _
    unfold pairsD
    rw [List.length_map, List.length_range]
  have m2 : binD .mul (.int 2) (.int (cnt c.length d.length s : Nat)) = .ok (.int (2 * (cnt c.length d.length s : Nat))) := mu _ _ (by simp [mulOk])
  have hge : cmpD .ge (.int (2 * (cnt c.length d.length s : Nat))) (.int ((min c.length d.length : Nat) : Int)) = .ok (.bool (decide (min c.length d.length ≤ 2 * cnt c.length d.length s))) := by
    have hdec : decide (((min c.length d.length : Nat) : Int) ≤ (2 * (cnt c.length d.length s : Nat) : Int)) = decide (min c.length d.length ≤ 2 * cnt c.length d.length s) := by
      rw [decide_eq_decide]; omega
    rw [cmp_ge, hdec]
  have nep : cmpD .ne (.list (pairsD c d s)) (.list []) = .ok (.bool (decide (0 < cnt c.length d.length s))) := by
    rw [ne_nil (by
      rw [List.all_eq_true]
      intro x hx
      obtain ⟨i, _, rfl⟩ := List.mem_map.mp hx
      simp [lim])]
    have : (!(pairsD c d s).isEmpty) = decide (0 < cnt c.length d.length s) := by
      unfold pairsD
      cases cnt c.length d.length s with
      | zero => rfl
      | succ n => rw [decide_eq_true (by omega), List.range_succ_eq_map]; rfl
    rw [this]
  have hbes : (List.range c.length).filter (fun j : Nat => decide (0 ≤ (j : Int) - s) && decide ((j : Int) - s < d.length)) = (List.range (cnt c.length d.length s)).map (oa s + ·) := beside_law c.length d.length s
  have st : ∀ R : Rs (Fl × Env), exSs (call fs (k + 2)) (b__law_shifts_f0.drop 1) [.f (encC true c), .f (encC true d), .f (lbD b), .f (.int (min c.length d.length : Nat)), .f (.int s), .o (.list (pairsD c d s)), s6, .u, .u, .u] = R → forStep (call fs (k + 2)) (.nm 4) b__law_shifts_f0 (.int s) [.f (encC true c), .f (encC true d), .f (lbD b), .f (.int (min c.length d.length : Nat)), s4, s5, s6, .u, .u, .u] = R := by
    rintro R rfl
    have hll : (((List.range c.length).filter (fun j : Nat => decide (0 ≤ (j : Int) - s) && decide ((j : Int) - s < d.length)))).map (fun i : Nat => PyData.tuple [.int (xc c i), .int (xc d ((i : Int) - s).toNat)]) = pairsD c d s := by
      rw [hbes, List.map_map]
      unfold pairsD
      refine List.map_congr_left fun i _ => ?_
      have ho := oab s
      show PyData.tuple [.int (xc c (oa s + i)), .int (xc d (((oa s + i : Nat) : Int) - s).toNat)] = _
      rw [show (((oa s + i : Nat) : Int) - s).toNat = ob s + i by omega]
    have hx : ∀ i, i < c.length → idxD (encC true c) (.int (i : Nat)) = .ok (.int (xc c i)) := fun i hi => idx_c true c i hi
    have hy : ∀ i : Nat, 0 ≤ (i : Int) - s → (i : Int) - s < d.length → idxD (encC true d) (.int ((i : Int) - s)) = .ok (.int (xc d ((i : Int) - s).toNat)) := fun i h1 h2 => by
      have := idx_c true d ((i : Int) - s).toNat (by omega)
      rwa [show ((((i : Int) - s).toNat : Nat) : Int) = (i : Int) - s by omega] at this
    have c0 : exS (call fs (k + 2)) (.asg (.nm 5) (.lc [7] (.tup [(.idx (.wv 0) (.wv 7)), (.idx (.wv 1) (.bin .sub (.wv 7) (.wv 4)))]) (.nm 7) (.rng1 (.bi .len [(.wv 0)])) (.some (.and_ (.cmp .ge (.bin .sub (.wv 7) (.wv 4)) (.lit (.int (0)))) (.cmp .lt (.bin .sub (.wv 7) (.wv 4)) (.bi .len [(.wv 1)]))))) true []) [.f (encC true c), .f (encC true d), .f (lbD b), .f (.int (min c.length d.length : Nat)), .f (.int s), s5, s6, .u, .u, .u] = .ok (.nx, [.f (encC true c), .f (encC true d), .f (lbD b), .f (.int (min c.length d.length : Nat)), .f (.int s), .o (.list (pairsD c d s)), s6, .u, .u, .u]) := by
      generalize encC true c = C at *
      generalize encC true d = Dd at *
      generalize lbD b = LB at *
      generalize min c.length d.length = mm at *
      simp (config := { implicitDefEqProofs := false }) [exSs, ev, evs, evi, evc, evo, tyIs, retv, noMut, noMuts, put, puto, wipeE, ixD, frzE, inTD, notD, negD, own, lstD, setD, intOf, isD, isNone, lc1, hr]
      rw [lcL_flat (enc := fun i : Nat => PyData.int (i : Nat)) (f := fun j : Nat => if (decide (0 ≤ (j : Int) - s) && decide ((j : Int) - s < d.length)) = true then [.tuple [.int (xc c j), .int (xc d ((j : Int) - s).toNat)]] else []) fun j hj => by
        have h1 := hx j (List.mem_range.mp hj)
        have hy' := hy j
        generalize he : (j : Int) - s = e at *
        have hsub : binD .sub (.int (j : Nat)) (.int s) = .ok (.int e) := by rw [qs, he]
        by_cases z1 : 0 ≤ e
        · by_cases z2 : e < (d.length : Int)
          · have h2 := hy' z1 z2
            generalize xc d e.toNat = v at *
            generalize (d.length : Int) = dl at *
            simp (config := { implicitDefEqProofs := false }) [exSs, ev, evs, evi, evc, evo, tyIs, retv, noMut, noMuts, put, puto, wipeE, ixD, frzE, inTD, notD, negD, own, lstD, setD, intOf, isD, isNone, hsub, ld1, h1, h2, z1, z2]
          · generalize xc d e.toNat = v at *
            generalize (d.length : Int) = dl at *
            simp (config := { implicitDefEqProofs := false }) [exSs, ev, evs, evi, evc, evo, tyIs, retv, noMut, noMuts, put, puto, wipeE, ixD, frzE, inTD, notD, negD, own, lstD, setD, intOf, isD, isNone, hsub, ld1, h1, z1, z2]
        · generalize xc d e.toNat = v at *
          generalize (d.length : Int) = dl at *
          simp (config := { implicitDefEqProofs := false }) [exSs, ev, evs, evi, evc, evo, tyIs, retv, noMut, noMuts, put, puto, wipeE, ixD, frzE, inTD, notD, negD, own, lstD, setD, intOf, isD, isNone, hsub, ld1, h1, z1]]
      rw [flat_filter, Rs.bnd_ok, Rs.bnd_ok, hll]
      simp (config := { implicitDefEqProofs := false }) [exSs, ev, evs, evi, evc, evo, tyIs, retv, noMut, noMuts, put, puto, wipeE, ixD, frzE, inTD, notD, negD, own, lstD, setD, intOf, isD, isNone]
    unfold forStep
    rw [bnd_nm1, Rs.bnd_ok]
    have hset : List.set [Sl.f (encC true c), .f (encC true d), .f (lbD b), .f (.int (min c.length d.length : Nat)), s4, s5, s6, .u, .u, .u] 4 (.f (.int s)) = [.f (encC true c), .f (encC true d), .f (lbD b), .f (.int (min c.length d.length : Nat)), .f (.int s), s5, s6, .u, .u, .u] := rfl
    rw [hset]
    unfold b__law_shifts_f0
    exact exSs_nx c0
  have hdr : b__law_shifts_f0.drop 1 = [(.iff (.and_ (.cmp .ge (.bin .mul (.lit (.int (2))) (.bi .len [(.wv 5)])) (.wv 3)) (.cmp .ne (.wv 5) (.lst []))) [(.asg (.nm 6) (.nomut (.call 30 [(.bi .sum [(.lc [8, 9] (.bi .abs [(.bin .sub (.wv 8) (.wv 9))]) (.tp [(.nm 8), (.nm 9)]) (.seq (.wv 5)) .none)]), (.bi .len [(.wv 5)])])) false []), (.iff (.or_ (.cmp .is_ (.wv 2) (.lit .none)) (.or_ (.nomut (.call 31 [(.var 6), (.idx (.wv 2) (.lit (.int (0))))])) (.and_ (.cmp .eq (.wv 6) (.idx (.wv 2) (.lit (.int (0))))) (.cmp .lt (.tup [(.bi .abs [(.wv 4)]), (.var 4)]) (.tup [(.bi .abs [(.idx (.wv 2) (.lit (.int (1))))]), (.idx (.wv 2) (.lit (.int (1))))]))))) [(.asg (.nm 2) (.tup [(.var 6), (.var 4)]) true [6, 4])] [])] [])] := rfl
  by_cases h : min c.length d.length ≤ 2 * cnt c.length d.length s ∧ 0 < cnt c.length d.length s
  · have h0 := h.2
    have hq : score c d s = some (frac (tot c d s).toNat (cnt c.length d.length s) h0) := by
      unfold score
      rw [dif_pos h]
    have hcl := cnt_le c.length d.length s
    have rt := law_frac_ok k (tot c d s).toNat (cnt c.length d.length s) h0 (by have := hd.2.1; omega)
    rw [show (((tot c d s).toNat : Nat) : Int) = tot c d s by have := tot_nn c d s; omega] at rt
    have den := score_den hd.2.1 hq
    generalize frac (tot c d s).toNat (cnt c.length d.length s) h0 = q at *
    have hnm : noMut (fracD q) = true := rfl
    have s2 : seqD (.list (pairsD c d s)) = .ok ((List.range (cnt c.length d.length s)).map fun i : Nat => .tuple [.int (xc c (oa s + i)), .int (xc d (ob s + i))]) := rfl
    have sumf : ((List.range (cnt c.length d.length s)).map (gapAt c d s)).sum = tot c d s := rfl
    rw [decide_eq_true h.1] at hge
    rw [decide_eq_true h.2] at nep
    have hbd : ∀ q2 u2, lawStep (score c d) b s = some (q2, u2) → q2.den ≤ 1000 := by
      intro q2 u2 e
      unfold lawStep at e
      rw [hq] at e
      cases b with
      | none => injection e with e; injection e with e _; rw [← e]; exact den
      | some p =>
        obtain ⟨q3, u3⟩ := p
        have e : (if bt2 (q, s) (q3, u3) then some (q, s) else some (q3, u3)) = some (q2, u2) := e
        split at e
        · injection e with e; injection e with e _; rw [← e]; exact den
        · injection e with e; injection e with e _; rw [← e]; exact hb q3 u3 rfl
    refine ⟨.o (.list (pairsD c d s)), .f (fracD q), hbd, st _ ?_⟩
    rw [hdr]
    unfold lawStep
    rw [hq]
    have c1 : exS (call fs (k + 2)) (.asg (.nm 6) (.nomut (.call 30 [(.bi .sum [(.lc [8, 9] (.bi .abs [(.bin .sub (.wv 8) (.wv 9))]) (.tp [(.nm 8), (.nm 9)]) (.seq (.wv 5)) .none)]), (.bi .len [(.wv 5)])])) false []) [.f (encC true c), .f (encC true d), .f (lbD b), .f (.int (min c.length d.length : Nat)), .f (.int s), .o (.list (pairsD c d s)), s6, .u, .u, .u] = .ok (.nx, [.f (encC true c), .f (encC true d), .f (lbD b), .f (.int (min c.length d.length : Nat)), .f (.int s), .o (.list (pairsD c d s)), .f (fracD q), .u, .u, .u]) := by
      generalize encC true c = C at *
      generalize encC true d = Dd at *
      generalize lbD b = LB at *
      generalize min c.length d.length = mm at *
      generalize PyData.list (pairsD c d s) = B at *
      generalize cnt c.length d.length s = N at *
      simp (config := { implicitDefEqProofs := false }) [exSs, ev, evs, evi, evc, evo, tyIs, retv, noMut, noMuts, put, puto, wipeE, ixD, frzE, inTD, notD, negD, own, lstD, setD, intOf, isD, isNone, s2]
      rw [lcL_map (enc := fun i : Nat => PyData.tuple [.int (xc c (oa s + i)), .int (xc d (ob s + i))]) (f := fun i => .int (gapAt c d s i)) fun i hi => by
        have hg : gapAt c d s i = ab (xc c (oa s + i) - xc d (ob s + i)) := rfl
        rw [hg]
        simp (config := { implicitDefEqProofs := false }) [exSs, ev, evs, evi, evc, evo, tyIs, retv, noMut, noMuts, put, puto, wipeE, ixD, frzE, inTD, notD, negD, own, lstD, setD, intOf, isD, isNone, qs, abs_bi]]
      rw [Rs.bnd_ok, Rs.bnd_ok, Rs.bnd_ok, sum_map' (p := gapAt c d s), sumf]
      simp (config := { implicitDefEqProofs := false }) [exSs, ev, evs, evi, evc, evo, tyIs, retv, noMut, noMuts, put, puto, wipeE, ixD, frzE, inTD, notD, negD, own, lstD, setD, intOf, isD, isNone, lb, rt, hnm]
    generalize encC true c = C at *
    generalize encC true d = Dd at *
    generalize min c.length d.length = mm at *
    generalize PyData.list (pairsD c d s) = B at *
    generalize cnt c.length d.length s = N at *
    have c2 : ∀ b2 : Option (Rat × Int), exSs (call fs (k + 2)) [(.iff (.or_ (.cmp .is_ (.wv 2) (.lit .none)) (.or_ (.nomut (.call 31 [(.var 6), (.idx (.wv 2) (.lit (.int (0))))])) (.and_ (.cmp .eq (.wv 6) (.idx (.wv 2) (.lit (.int (0))))) (.cmp .lt (.tup [(.bi .abs [(.wv 4)]), (.var 4)]) (.tup [(.bi .abs [(.idx (.wv 2) (.lit (.int (1))))]), (.idx (.wv 2) (.lit (.int (1))))]))))) [(.asg (.nm 2) (.tup [(.var 6), (.var 4)]) true [6, 4])] [])] [.f C, .f Dd, .f (lbD b), .f (.int (mm : Nat)), .f (.int s), .o B, .f (fracD q), .u, .u, .u] = .ok (.nx, [.f C, .f Dd, .f (lbD b2), .f (.int (mm : Nat)), .f (.int s), .o B, .f (fracD q), .u, .u, .u]) →
        exSs (call fs (k + 2)) [(.iff (.and_ (.cmp .ge (.bin .mul (.lit (.int (2))) (.bi .len [(.wv 5)])) (.wv 3)) (.cmp .ne (.wv 5) (.lst []))) [(.asg (.nm 6) (.nomut (.call 30 [(.bi .sum [(.lc [8, 9] (.bi .abs [(.bin .sub (.wv 8) (.wv 9))]) (.tp [(.nm 8), (.nm 9)]) (.seq (.wv 5)) .none)]), (.bi .len [(.wv 5)])])) false []), (.iff (.or_ (.cmp .is_ (.wv 2) (.lit .none)) (.or_ (.nomut (.call 31 [(.var 6), (.idx (.wv 2) (.lit (.int (0))))])) (.and_ (.cmp .eq (.wv 6) (.idx (.wv 2) (.lit (.int (0))))) (.cmp .lt (.tup [(.bi .abs [(.wv 4)]), (.var 4)]) (.tup [(.bi .abs [(.idx (.wv 2) (.lit (.int (1))))]), (.idx (.wv 2) (.lit (.int (1))))]))))) [(.asg (.nm 2) (.tup [(.var 6), (.var 4)]) true [6, 4])] [])] [])] [.f C, .f Dd, .f (lbD b), .f (.int (mm : Nat)), .f (.int s), .o B, s6, .u, .u, .u] = .ok (.nx, [.f C, .f Dd, .f (lbD b2), .f (.int (mm : Nat)), .f (.int s), .o B, .f (fracD q), .u, .u, .u]) := by
      intro b2 e
      refine (exSs_nx (ε' := [.f C, .f Dd, .f (lbD b2), .f (.int (mm : Nat)), .f (.int s), .o B, .f (fracD q), .u, .u, .u]) ?_).trans (by simp (config := { implicitDefEqProofs := false }) [exSs, ev, evs, evi, evc, evo, tyIs, retv, noMut, noMuts, put, puto, wipeE, ixD, frzE, inTD, notD, negD, own, lstD, setD, intOf, isD, isNone])
      rw [exS_iff]
      have cd : ev (call fs (k + 2)) (.and_ (.cmp .ge (.bin .mul (.lit (.int (2))) (.bi .len [(.wv 5)])) (.wv 3)) (.cmp .ne (.wv 5) (.lst []))) (List.map frzS [.f C, .f Dd, .f (lbD b), .f (.int (mm : Nat)), .f (.int s), .o B, s6, .u, .u, .u]) = .ok (.bool true) := by
        simp (config := { implicitDefEqProofs := false }) [exSs, ev, evs, evi, evc, evo, tyIs, retv, noMut, noMuts, put, puto, wipeE, ixD, frzE, inTD, notD, negD, own, lstD, setD, intOf, isD, isNone, lb, m2, hge, nep]
      rw [cd, Rs.bnd_ok]
      show exSs _ _ _ = _
      rw [exSs_nx c1]
      exact e
    have ls : ∀ q3 : Rat, q3.den ≤ 1000 → call fs (k + 2) 31 [fracD q, fracD q3] = .ok (.bool (decide (q < q3))) := fun q3 h3 => law_less_ok (k + 1) q q3 den h3
    have ef := eq_frac q
    cases b with
    | none =>
      have in1 : cmpD .is_ (lbD none) .none = .ok (.bool true) := rfl
      refine c2 (some (q, s)) ?_
      simp (config := { implicitDefEqProofs := false }) [exSs, ev, evs, evi, evc, evo, tyIs, retv, noMut, noMuts, put, puto, wipeE, ixD, frzE, inTD, notD, negD, own, lstD, setD, intOf, isD, isNone, in1, lbD]
    | some p =>
      obtain ⟨q3, u3⟩ := p
      have in1 : cmpD .is_ (lbD (some (q3, u3))) .none = .ok (.bool false) := rfl
      have i0 : idxD (lbD (some (q3, u3))) (.int 0) = .ok (fracD q3) := rfl
      have i1 : idxD (lbD (some (q3, u3))) (.int 1) = .ok (.int u3) := rfl
      have ls := ls q3 (hb q3 u3 rfl)
      have ef := ef q3
      have lp := lt_pair (ab s) s (ab u3) u3
      have hbt : bt2 (q, s) (q3, u3) ↔ q < q3 ∨ (q = q3 ∧ (ab s < ab u3 ∨ (ab s = ab u3 ∧ s < u3))) := Iff.rfl
      refine c2 _ ?_
      show _ = Rs.ok (Fl.nx, [_, _, Sl.f (lbD (if bt2 (q, s) (q3, u3) then some (q, s) else some (q3, u3))), _, _, _, _, _, _, _])
      by_cases z1 : q < q3
      · rw [if_pos (hbt.mpr (.inl z1))]
        rw [decide_eq_true z1] at ls
        simp (config := { implicitDefEqProofs := false }) [exSs, ev, evs, evi, evc, evo, tyIs, retv, noMut, noMuts, put, puto, wipeE, ixD, frzE, inTD, notD, negD, own, lstD, setD, intOf, isD, isNone, in1, i0, i1, ls]
        rfl
      · rw [decide_eq_false z1] at ls
        by_cases z2 : q = q3
        · rw [decide_eq_true z2] at ef
          by_cases z3 : ab s < ab u3 ∨ (ab s = ab u3 ∧ s < u3)
          · rw [if_pos (hbt.mpr (.inr ⟨z2, z3⟩))]
            rw [decide_eq_true z3] at lp
            simp (config := { implicitDefEqProofs := false }) [exSs, ev, evs, evi, evc, evo, tyIs, retv, noMut, noMuts, put, puto, wipeE, ixD, frzE, inTD, notD, negD, own, lstD, setD, intOf, isD, isNone, in1, i0, i1, ls, ef, abs_bi, lp]
            rfl
          · rw [if_neg fun e => by rcases hbt.mp e with e | e; exact z1 e; exact z3 e.2]
            rw [decide_eq_false z3] at lp
            simp (config := { implicitDefEqProofs := false }) [exSs, ev, evs, evi, evc, evo, tyIs, retv, noMut, noMuts, put, puto, wipeE, ixD, frzE, inTD, notD, negD, own, lstD, setD, intOf, isD, isNone, in1, i0, i1, ls, ef, abs_bi, lp]
            rfl
        · rw [decide_eq_false z2] at ef
          rw [if_neg fun e => by rcases hbt.mp e with e | e; exact z1 e; exact z2 e.1]
          simp (config := { implicitDefEqProofs := false }) [exSs, ev, evs, evi, evc, evo, tyIs, retv, noMut, noMuts, put, puto, wipeE, ixD, frzE, inTD, notD, negD, own, lstD, setD, intOf, isD, isNone, in1, i0, i1, ls, ef, abs_bi, lp]
          rfl
  · have sN : score c d s = none := by
      unfold score
      rw [dif_neg h]
    have e : lawStep (score c d) b s = b := by unfold lawStep; rw [sN]
    rw [e]
    refine ⟨.o (.list (pairsD c d s)), s6, hb, st _ ?_⟩
    rw [hdr]
    generalize encC true c = C at *
    generalize encC true d = Dd at *
    generalize lbD b = LB at *
    generalize min c.length d.length = mm at *
    generalize PyData.list (pairsD c d s) = B at *
    generalize cnt c.length d.length s = N at *
    by_cases z1 : mm ≤ 2 * N
    · have z2 : ¬ 0 < N := fun z => h ⟨z1, z⟩
      rw [decide_eq_true z1] at hge
      rw [decide_eq_false z2] at nep
      simp (config := { implicitDefEqProofs := false }) [exSs, ev, evs, evi, evc, evo, tyIs, retv, noMut, noMuts, put, puto, wipeE, ixD, frzE, inTD, notD, negD, own, lstD, setD, intOf, isD, isNone, lb, m2, hge, nep]
    · rw [decide_eq_false z1] at hge
      simp (config := { implicitDefEqProofs := false }) [exSs, ev, evs, evi, evc, evo, tyIs, retv, noMut, noMuts, put, puto, wipeE, ixD, frzE, inTD, notD, negD, own, lstD, setD, intOf, isD, isNone, lb, m2, hge]
theorem law_shifts_ok (k : Nat) (c d : List Int) (hc : okC c) (hd : okC d) : call fs (k + 3) 37 [encC true c, encC true d] = .ok (resD (L2.foldl (lawStep (score c d)) none)) := by
  have lc1 : biD .len [encC true c] = .ok (.int c.length) := len_ints true c
  have ld1 : biD .len [encC true d] = .ok (.int d.length) := len_ints true d
  have mi := mib (c.length : Int) (d.length : Int)
  have hmin : (if (d.length : Int) < c.length then (d.length : Int) else c.length) = ((min c.length d.length : Nat) : Int) := by split <;> omega
  rw [hmin] at mi
  have hr : rngD (-5) 6 = .ok (L2.map .int) := rfl
  obtain ⟨ε', ⟨s4, s5, s6, g, hs⟩, e'⟩ := exFor_fold (enc := PyData.int) (step := forStep (call fs (k + 2)) (.nm 4) b__law_shifts_f0) (f := lawStep (score c d)) (l := L2) (b := none)
    (ε := [.f (encC true c), .f (encC true d), .f .none, .f (.int (min c.length d.length : Nat)), .u, .u, .u, .u, .u, .u])
    (I := fun b ε => ∃ s4 s5 s6, (∀ q u, b = some (q, u) → q.den ≤ 1000) ∧ ε = [.f (encC true c), .f (encC true d), .f (lbD b), .f (.int (min c.length d.length : Nat)), s4, s5, s6, .u, .u, .u]) ⟨_, _, _, (fun q u e => by cases e), rfl⟩
    (fun s hs b ε ⟨s4, s5, s6, hb, he⟩ => by
      subst he
      obtain ⟨t5, t6, g1, g2⟩ := lshift_f0 k c d hc hd s (by
        simp only [L2, List.mem_cons, List.mem_nil_iff, or_false] at hs
        omega) b hb s4 s5 s6
      exact ⟨_, ⟨_, _, _, g1, rfl⟩, g2⟩)
  generalize L2.foldl (lawStep (score c d)) none = B at *
  generalize encC true c = C at *
  generalize encC true d = Dd at *
  generalize min c.length d.length = mm at *
  generalize L2.map PyData.int = X at *
  have ng : negD (.int 5) = .ok (.int (-5)) := rfl
  have c1 : exS (call fs (k + 2)) (.asg (.nm 3) (.bi .min [(.bi .len [(.wv 0)]), (.bi .len [(.wv 1)])]) false []) [.f C, .f Dd, .f .none, .u, .u, .u, .u, .u, .u, .u] = .ok (.nx, [.f C, .f Dd, .f .none, .f (.int (mm : Nat)), .u, .u, .u, .u, .u, .u]) := by
    simp (config := { implicitDefEqProofs := false }) [exSs, ev, evs, evi, evc, evo, tyIs, retv, noMut, noMuts, put, puto, wipeE, ixD, frzE, inTD, notD, negD, own, lstD, setD, intOf, isD, isNone, lc1, ld1, mi]
  have c0 : exS (call fs (k + 2)) (.asg (.nm 2) (.lit .none) false []) [.f C, .f Dd, .u, .u, .u, .u, .u, .u, .u, .u] = .ok (.nx, [.f C, .f Dd, .f .none, .u, .u, .u, .u, .u, .u, .u]) := by
    simp (config := { implicitDefEqProofs := false }) [exSs, ev, evs, evi, evc, evo, tyIs, retv, noMut, noMuts, put, puto, wipeE, ixD, frzE, inTD, notD, negD, own, lstD, setD, intOf, isD, isNone]
  have c2 : exS (call fs (k + 2)) (.for_ (.nm 4) (.rng2 (.neg (.lit (.int (5)))) (.lit (.int (6)))) b__law_shifts_f0 []) [.f C, .f Dd, .f .none, .f (.int (mm : Nat)), .u, .u, .u, .u, .u, .u] = .ok (.nx, ε') := by
    have ei : evi (call fs (k + 2)) (.rng2 (.neg (.lit (.int (5)))) (.lit (.int (6)))) [.f C, .f Dd, .f .none, .f (.int (mm : Nat)), .u, .u, .u, .u, .u, .u] = .ok X := by
      simp only [evi, ev, ng, Rs.bnd_ok, intOf, Rs.of_some]
      exact hr
    rw [exS_for]
    have hf : frzE [.f C, .f Dd, .f .none, .f (.int (mm : Nat)), .u, .u, .u, .u, .u, .u] [] = [.f C, .f Dd, .f .none, .f (.int (mm : Nat)), .u, .u, .u, .u, .u, .u] := rfl
    rw [hf, ei, Rs.bnd_ok]
    exact e'
  rw [call_at at__law_shifts rfl]
  have hb : f__law_shifts.body = [(.asg (.nm 2) (.lit .none) false []), (.asg (.nm 3) (.bi .min [(.bi .len [(.wv 0)]), (.bi .len [(.wv 1)])]) false []), (.for_ (.nm 4) (.rng2 (.neg (.lit (.int (5)))) (.lit (.int (6)))) b__law_shifts_f0 []), (.ret (.ite (.cmp .isn (.wv 2) (.lit .none)) (.tup [(.idx (.wv 2) (.lit (.int (1)))), (.idx (.wv 2) (.lit (.int (0))))]) (.lit .none)))] := rfl
  have he : ([C, Dd].map Sl.f ++ List.replicate (f__law_shifts.n - f__law_shifts.np) .u : Env) = [.f C, .f Dd, .u, .u, .u, .u, .u, .u, .u, .u] := rfl
  rw [hb, he, exSs_nx c0, exSs_nx c1, exSs_nx c2, hs]
  cases B with
  | none =>
    have in1 : cmpD .isn (lbD none) .none = .ok (.bool false) := rfl
    simp (config := { implicitDefEqProofs := false }) [exSs, ev, evs, evi, evc, evo, tyIs, retv, noMut, noMuts, put, puto, wipeE, ixD, frzE, inTD, notD, negD, own, lstD, setD, intOf, isD, isNone, in1, resD]
  | some p =>
    obtain ⟨q3, u3⟩ := p
    have in1 : cmpD .isn (lbD (some (q3, u3))) .none = .ok (.bool true) := rfl
    have i0 : idxD (lbD (some (q3, u3))) (.int 0) = .ok (fracD q3) := rfl
    have i1 : idxD (lbD (some (q3, u3))) (.int 1) = .ok (.int u3) := rfl
    simp (config := { implicitDefEqProofs := false }) [exSs, ev, evs, evi, evc, evo, tyIs, retv, noMut, noMuts, put, puto, wipeE, ixD, frzE, inTD, notD, negD, own, lstD, setD, intOf, isD, isNone, in1, i0, i1, resD]
end K22
end Ws

set_option Elab.async false
set_option linter.all false
set_option maxRecDepth 100000
set_option maxHeartbeats 400000
namespace Ws
theorem sort_first {α : Type} {le : α → α → Bool} {m : α} (hr : le m m = true) : ∀ {l : List α}, m ∈ l → (∀ x ∈ l, x = m ∨ (le m x = true ∧ le x m = false)) → ∃ rest, sortD le l = m :: rest
  | [], h, _ => by cases h
  | x :: xs, h, hh => by
    show ∃ rest, insD le x (sortD le xs) = m :: rest
    by_cases c : m ∈ xs
    · obtain ⟨rest, e⟩ := sort_first hr c fun y hy => hh y (List.mem_cons_of_mem _ hy)
      rw [e]
      show ∃ r, (if le x m then x :: m :: rest else m :: insD le x rest) = m :: r
      rcases hh x List.mem_cons_self with z | ⟨_, z⟩
      · subst z
        rw [if_pos hr]
        exact ⟨_, rfl⟩
      · rw [if_neg (by rw [z]; exact Bool.false_ne_true)]
        exact ⟨_, rfl⟩
    · have e : x = m := by
        rcases List.mem_cons.mp h with h | h
        · exact h.symm
        · exact absurd h c
      subst e
      cases es : sortD le xs with
      | nil => exact ⟨[], rfl⟩
      | cons y ys =>
        have hy : y ∈ xs := sortD_mem (le := le) (by rw [es]; exact List.mem_cons_self)
        show ∃ r, (if le x y then x :: y :: ys else y :: insD le x ys) = x :: r
        rcases hh y (List.mem_cons_of_mem _ hy) with z | ⟨z, _⟩
        · exact absurd (z ▸ hy) c
        · rw [if_pos z]
          exact ⟨_, rfl⟩
namespace K22
open PySem
def iT (x : List Int) : D := .tuple (x.map .int)
theorem eqv_ints : ∀ x y : List Int, PyData.eqvAll (x.map .int) (y.map .int) = decide (x = y)
  | [], [] => rfl
  | [], b :: y => rfl
  | a :: x, [] => rfl
  | a :: x, b :: y => by
    have ih := eqv_ints x y
    show (PyData.eqv (.int a) (.int b) && PyData.eqvAll (x.map .int) (y.map .int)) = _
    rw [ih]
    have e : PyData.eqv (.int a) (.int b) = decide (a = b) := by
      have := eqD_int a b
      unfold eqD at this
      simp only [lim_int, Bool.and_self, if_true] at this
      injection this with this
      injection this
    rw [e]
    by_cases h1 : a = b <;> by_cases h2 : x = y <;> simp [h1, h2]
theorem eqv_iT (x y : List Int) : PyData.eqv (iT x) (iT y) = decide (x = y) := eqv_ints x y
theorem alike_ints : ∀ x y : List Int, PySem.W.alikeAll (x.map .int) (y.map .int) = true
  | [], _ => by simp [PySem.W.alikeAll]
  | _ :: _, [] => by simp [PySem.W.alikeAll]
  | a :: x, b :: y => by
    rw [List.map_cons, List.map_cons, PySem.W.alikeAll, alike_ints x y]
    simp [PySem.W.alike]
theorem alike_iT (x y : List Int) : PySem.W.alike (iT x) (iT y) = true := by
  unfold iT
  rw [PySem.W.alike, alike_ints]
theorem lt_iT (x y : List Int) : PySem.W.dataLt (iT x) (iT y) = decide (x < y) := PySem.W.dataLt_ints x y
theorem eqv_int (a b : Int) : PyData.eqv (.int a) (.int b) = decide (a = b) := by
  have := eqD_int a b
  unfold eqD at this
  simp only [lim_int, Bool.and_self, if_true] at this
  injection this with this
  injection this
theorem ints_irrefl (x : List Int) : ¬ x < x := List.lt_irrefl x
theorem dl_pair (a b : Int) (x y : List Int) : PySem.W.dataLt (.tuple [.int a, iT x]) (.tuple [.int b, iT y]) = decide (a < b ∨ (a = b ∧ x < y)) := by
  rw [PySem.W.dataLt_pair (by simp [PySem.W.alike]) (alike_iT x y), eqv_int, eqv_iT, lt_iT, PySem.W.dataLt_int]
  by_cases h1 : a = b
  · subst h1
    by_cases h2 : x = y
    · subst h2
      simp [ints_irrefl]
    · simp [h2]
  · simp [h1]
theorem dl_tri (a b l r : Int) (x y : List Int) : PySem.W.dataLt (.tuple [.int a, .int l, iT x]) (.tuple [.int b, .int r, iT y]) = decide (a < b ∨ (a = b ∧ (l < r ∨ (l = r ∧ x < y)))) := by
  have h2 := dl_pair l r x y
  rw [PySem.W.dataLt_tuple] at h2 ⊢
  rw [PySem.W.dataLt_cons (by simp [PySem.W.alike]), eqv_int, PySem.W.dataLt_int, h2]
  by_cases h1 : a = b
  · subst h1; simp
  · simp [h1]
/-- rows that begin by a number: they can be sorted -/
theorem sortOk_of {α : Type} (f : α → D) (l : List α) (h1 : ∀ a, isNone (f a) = false ∧ lim 40 (f a) = true ∧ isTup (f a) = true) (h2 : ∀ a b, PySem.W.alike (f a) (f b) = true) : biD .sorted [.list (l.map f)] = .ok (.list ((sortD (fun a b => leT (f a) (f b)) l).map f)) := by
  have ok : sortOk (l.map f) = true := by
    unfold sortOk allOk
    rw [Bool.and_eq_true, Bool.or_eq_true]
    refine ⟨List.all_eq_true.mpr fun x hx => ?_, .inl (List.all_eq_true.mpr fun x hx => ?_)⟩
    · obtain ⟨a, _, rfl⟩ := List.mem_map.mp hx
      obtain ⟨p1, p2, _⟩ := h1 a
      rw [p1, p2]
      refine List.all_eq_true.mpr fun z hz => ?_
      obtain ⟨b, _, rfl⟩ := List.mem_map.mp hz
      exact h2 a b
    · obtain ⟨a, _, rfl⟩ := List.mem_map.mp hx
      exact (h1 a).2.2
  show (if sortOk _ then _ else _) = _
  rw [if_pos ok, sortD_map]
theorem lim_iT (n : Nat) (x : List Int) : lim (n + 1) (iT x) = true := by
  have h := lim_ints true x
  exact lim_mono 1 _ h (n + 1) (by omega)
def pE (c : List Int) (r : List Nat) : D := .tuple [.int (pr (R c) c.length 0 r), rowT r]
def tE (c : List Int) (fee : Int) (r : List Nat) : D := .tuple [.int (pr (R c) c.length 0 r + fee * ((r.length : Int) + 1)), .int (r.length : Nat), rowT r]
theorem pE_ok (c : List Int) (r : List Nat) : isNone (pE c r) = false ∧ lim 40 (pE c r) = true ∧ isTup (pE c r) = true := by
  refine ⟨rfl, ?_, rfl⟩
  have := lim_iT 38 (toI r)
  show ([PyData.int _, rowT r].all (lim 39)) = true
  simp only [List.all_cons, List.all_nil, lim_int, Bool.true_and, Bool.and_true]
  exact this
theorem tE_ok (c : List Int) (fee : Int) (r : List Nat) : isNone (tE c fee r) = false ∧ lim 40 (tE c fee r) = true ∧ isTup (tE c fee r) = true := by
  refine ⟨rfl, ?_, rfl⟩
  have := lim_iT 38 (toI r)
  show ([PyData.int _, .int _, rowT r].all (lim 39)) = true
  simp only [List.all_cons, List.all_nil, lim_int, Bool.true_and, Bool.and_true]
  exact this
theorem pE_alike (c : List Int) (r s : List Nat) : PySem.W.alike (pE c r) (pE c s) = true := by
  have := alike_iT (toI r) (toI s)
  unfold pE
  rw [PySem.W.alike, PySem.W.alikeAll, PySem.W.alikeAll, PySem.W.alikeAll]
  show (PySem.W.alike (.int _) (.int _) && (PySem.W.alike (rowT r) (rowT s) && true)) = true
  have h2 : PySem.W.alike (rowT r) (rowT s) = true := this
  rw [h2]
  simp [PySem.W.alike]
theorem tE_alike (c : List Int) (fee : Int) (r s : List Nat) : PySem.W.alike (tE c fee r) (tE c fee s) = true := by
  have := alike_iT (toI r) (toI s)
  unfold tE
  rw [PySem.W.alike, PySem.W.alikeAll, PySem.W.alikeAll, PySem.W.alikeAll, PySem.W.alikeAll]
  show (PySem.W.alike (.int _) (.int _) && (PySem.W.alike (.int _) (.int _) && (PySem.W.alike (rowT r) (rowT s) && true))) = true
  have h2 : PySem.W.alike (rowT r) (rowT s) = true := this
  rw [h2]
  simp [PySem.W.alike]
theorem toI_inj {r s : List Nat} (h : toI r = toI s) : r = s := by
  unfold toI at h
  exact List.map_inj_right (f := fun a : Nat => (a : Int)) (fun a b e => by have e : (a : Int) = b := e; omega) |>.mp h
theorem pE_self (c : List Int) (r : List Nat) : PySem.W.dataLt (pE c r) (pE c r) = false := by
  show PySem.W.dataLt (.tuple [.int _, iT _]) (.tuple [.int _, iT _]) = false
  rw [dl_pair, decide_eq_false]
  rintro (z | ⟨_, z⟩)
  · omega
  · exact ints_irrefl _ z
theorem tE_self (c : List Int) (fee : Int) (r : List Nat) : PySem.W.dataLt (tE c fee r) (tE c fee r) = false := by
  show PySem.W.dataLt (.tuple [.int _, .int _, iT _]) (.tuple [.int _, .int _, iT _]) = false
  rw [dl_tri, decide_eq_false]
  rintro (z | ⟨_, z | ⟨_, z⟩⟩)
  · omega
  · omega
  · exact ints_irrefl _ z
/-- the first of the rows of one length -/
theorem first_len (c : List Int) (k : Nat) (h : k < c.length) : ∃ rest, sortD (fun a b => leT (pE c a) (pE c b)) ((cuts (c.length - 1)).filter fun r => decide (r.length = k)) = gcut (R c) c.length k 0 :: rest := by
  obtain ⟨v, hv⟩ := opt_isSome (w := R c) (n := c.length) k 0 (by omega)
  obtain ⟨g1, g2, g3⟩ := gcut_spec hv
  have en : c.length - 1 + 1 = c.length := by omega
  refine sort_first (by unfold leT; rw [pE_self]; rfl) ?_ fun r hr => ?_
  · rw [List.mem_filter]
    exact ⟨cuts_ch.mpr (by rw [en]; exact g1), by simpa using g2⟩
  · obtain ⟨hc, hl⟩ := List.mem_filter.mp hr
    have hch := cuts_ch.mp hc
    rw [en] at hch
    have hl : r.length = k := by simpa using hl
    by_cases e : r = gcut (R c) c.length k 0
    · exact .inl e
    · right
      have d1 : PySem.W.dataLt (pE c (gcut (R c) c.length k 0)) (pE c r) = true := by
        show PySem.W.dataLt (.tuple [.int _, iT _]) (.tuple [.int _, iT _]) = true
        rw [dl_pair, decide_eq_true]
        obtain ⟨v', e1, l1⟩ := opt_le (w := R c) hch
        rw [hl, hv] at e1
        injection e1 with e1
        rw [g3]
        by_cases q : v < pr (R c) c.length 0 r
        · exact .inl q
        · have q2 : v = pr (R c) c.length 0 r := by omega
          refine .inr ⟨q2, ?_⟩
          have gm := gcut_min (w := R c) hch (by rw [hl, hv, q2])
          rw [hl] at gm
          rcases gm with gm | gm
          · exact absurd gm.symm e
          · exact gm
      have d2 : PySem.W.dataLt (pE c r) (pE c (gcut (R c) c.length k 0)) = false := by
        have := d1
        show PySem.W.dataLt (.tuple [.int _, iT _]) (.tuple [.int _, iT _]) = false
        have d1 : PySem.W.dataLt (.tuple [.int _, iT _]) (.tuple [.int _, iT _]) = true := d1
        rw [dl_pair] at d1 ⊢
        have d1 := of_decide_eq_true d1
        rw [decide_eq_false]
        rintro (z | ⟨z, z2⟩)
        · rcases d1 with y | ⟨y, _⟩ <;> omega
        · rcases d1 with y | ⟨_, y⟩
          · omega
          · exact ints_irrefl _ (List.lt_trans y z2)
      exact ⟨by unfold leT; rw [d2]; rfl, by unfold leT; rw [d1]; rfl⟩
theorem none_len (c : List Int) (h1 : 1 ≤ c.length) (k : Nat) (h : c.length ≤ k) : (cuts (c.length - 1)).filter (fun r => decide (r.length = k)) = [] := by
  rw [List.filter_eq_nil_iff]
  intro r hr
  have hch := cuts_ch.mp hr
  have := ch_lt hch
  simp; omega
/-- the first of all, with fees -/
theorem first_fee (c : List Int) (h1 : 1 ≤ c.length) (fee : Int) : ∃ rest, sortD (fun a b => leT (tE c fee a) (tE c fee b)) (cuts (c.length - 1)) = gcut (R c) c.length (bestF (val (R c) c.length fee) c.length - 1) 0 :: rest := by
  obtain ⟨g1, g2, g3⟩ := best_in (w := R c) (n := c.length) fee h1
  have en : c.length - 1 + 1 = c.length := by omega
  refine sort_first (by unfold leT; rw [tE_self]; rfl) ?_ fun r hr => ?_
  · exact cuts_ch.mpr (by rw [en]; exact g1)
  · have hch := cuts_ch.mp hr
    rw [en] at hch
    have bf := best_first (w := R c) fee h1 hch
    generalize gcut (R c) c.length (bestF (val (R c) c.length fee) c.length - 1) 0 = g at *
    generalize val (R c) c.length fee (bestF (val (R c) c.length fee) c.length) = V at *
    generalize bestF (val (R c) c.length fee) c.length - 1 = B at *
    by_cases e : r = g
    · exact .inl e
    · right
      have d1 : PySem.W.dataLt (tE c fee g) (tE c fee r) = true := by
        show PySem.W.dataLt (.tuple [.int _, .int _, iT _]) (.tuple [.int _, .int _, iT _]) = true
        rw [dl_tri, decide_eq_true]
        rw [g3]
        rcases bf with z | ⟨z, z2⟩
        · exact .inl z
        · refine .inr ⟨z, ?_⟩
          rcases z2 with y | ⟨y, y2⟩
          · exact .inl (by omega)
          · refine .inr ⟨by omega, ?_⟩
            rcases y2 with u | u
            · exact absurd u.symm e
            · exact u
      have d2 : PySem.W.dataLt (tE c fee r) (tE c fee g) = false := by
        show PySem.W.dataLt (.tuple [.int _, .int _, iT _]) (.tuple [.int _, .int _, iT _]) = false
        have d1 : PySem.W.dataLt (.tuple [.int _, .int _, iT _]) (.tuple [.int _, .int _, iT _]) = true := d1
        rw [dl_tri] at d1 ⊢
        have d1 := of_decide_eq_true d1
        rw [decide_eq_false]
        rintro (z | ⟨z, z2 | ⟨z2, z3⟩⟩)
        · rcases d1 with y | ⟨y, _⟩ <;> omega
        · rcases d1 with y | ⟨_, y | ⟨y, _⟩⟩ <;> omega
        · rcases d1 with y | ⟨_, y | ⟨_, y⟩⟩
          · omega
          · omega
          · exact ints_irrefl _ (List.lt_trans y z3)
      exact ⟨by unfold leT; rw [d2]; rfl, by unfold leT; rw [d1]; rfl⟩
end K22
end Ws

set_option Elab.async false
set_option linter.all false
set_option maxRecDepth 100000
set_option maxHeartbeats 400000
namespace Ws
namespace K22
open PySem
structure Vi (sc C E : D) (fee : Int) (ε : Env) : Prop where
  len : ε.length = 22
  e0 : ε[0]? = some (.f sc)
  e2 : ε[2]? = some (.f C)
  e3 : ε[3]? = some (.f E)
  e4 : ε[4]? = some (.f (.int fee))
  e19 : ε[19]? = some .u
  e20 : ε[20]? = some .u
  e21 : ε[21]? = some .u
theorem Vi.set {sc C E : D} {fee : Int} {ε : Env} (h : Vi sc C E fee ε) {i : Nat} (hi : 4 < i ∧ i < 19) (s : Sl) : Vi sc C E fee (ε.set i s) := by
  have g : ∀ j, i ≠ j → (ε.set i s)[j]? = ε[j]? := fun j hj => List.getElem?_set_ne hj
  refine ⟨by rw [List.length_set]; exact h.len, ?_, ?_, ?_, ?_, ?_, ?_, ?_⟩ <;> rw [g _ (by omega)]
  · exact h.e0
  · exact h.e2
  · exact h.e3
  · exact h.e4
  · exact h.e19
  · exact h.e20
  · exact h.e21
theorem same12 (k n : Nat) (hn : n ≤ 8) (d : D) (h : sm n d = true) : call fs (k + 12) 28 [d, d] = .ok (.bool true) := by
  have := same_ok (k + (11 - n)) n d h
  rwa [show k + (11 - n) + n + 1 = k + 12 by omega] at this
def allR (c : List Int) : D := .list ((cuts (c.length - 1)).map rowT)
theorem rowT_len (r : List Nat) : biD .len [rowT r] = .ok (.int r.length) := by
  have := len_ints true (toI r)
  unfold toI at this
  rw [List.length_map] at this
  exact this
theorem nm_rowT (r : List Nat) : noMut (rowT r) = true := nm_ints (toI r)
theorem ch_of {c : List Int} (h1 : 1 ≤ c.length) {r : List Nat} (hr : r ∈ cuts (c.length - 1)) : ch c.length 0 r := by
  have := cuts_ch.mp hr
  rwa [show c.length - 1 + 1 = c.length by omega] at this
section
variable (k : Nat) (sc : D) (c : List Int) (fee : Int)
theorem lf0 (hc : okC c) (hc8 : c.length ≤ 8) (ε : Env) (i : Vi sc (encC true c) (allR c) fee ε) (d : Nat) (hd : d < 9) : ∃ s15, forStep (call fs (k + 12)) (.nm 5) b_law_f0 (.int (1 + (d : Nat))) ε = .ok (.nx, (ε.set 5 (.f (.int (1 + (d : Nat))))).set 15 s15) := by
  have e2 := i.e2
  have e3 := i.e3
  have e20 := i.e20
  have l5 := eq_true (show 5 < ε.length by have := i.len; omega)
  have l15 := eq_true (show 15 < ε.length by have := i.len; omega)
  have l20 := eq_true (show 20 < ε.length by have := i.len; omega)
  have sE : seqD (allR c) = .ok ((cuts (c.length - 1)).map rowT) := rfl
  have hz : ∃ z : Int, z = 1 + (d : Nat) := ⟨_, rfl⟩
  obtain ⟨z, hz⟩ := hz
  rw [← hz]
  have sb : binD .sub (.int z) (.int 1) = .ok (.int (d : Nat)) := by rw [qs, hz, show (1 : Int) + (d : Nat) - 1 = d by omega]
  have eqd : ∀ r : List Nat, cmpD .eq (.int (r.length : Nat)) (.int (d : Nat)) = .ok (.bool (decide (r.length = d))) := fun r => by
    rw [eqD_int']
    by_cases h : r.length = d
    · rw [decide_eq_true h, decide_eq_true (by omega)]
    · rw [decide_eq_false h, decide_eq_false (by omega)]
  have prc : ∀ r ∈ cuts (c.length - 1), call fs (k + 12) 35 [encC true c, rowT r] = .ok (.int (pr (R c) c.length 0 r)) := fun r hr => law_price_ok (k + 10) c hc.2.1 r (ch_of hc.1 hr)
  have li : call fs (k + 12) 27 [encC true c] = .ok (encC false c) := listed_curve (k + 10) c
  have str : call fs (k + 12) 17 [encC false c, .int z] = .ok (if d + 1 ≤ c.length then rowT (gcut (R c) c.length d 0) else .none) := by
    have := stretches_ok (k + 7) false c hc (d + 1) (by omega) (by omega)
    rw [hz, show (1 : Int) + (d : Nat) = ((d + 1 : Nat) : Int) by omega]
    exact this
  have so := sortOk_of (pE c) ((cuts (c.length - 1)).filter fun r => decide (r.length = d)) (pE_ok c) (pE_alike c)
  have c1 : ∀ R, exSs (call fs (k + 12)) (b_law_f0.drop 1) ((ε.set 5 (.f (.int z))).set 15 (.o (.list ((sortD (fun a b => leT (pE c a) (pE c b)) ((cuts (c.length - 1)).filter fun r => decide (r.length = d))).map (pE c))))) = R → exSs (call fs (k + 12)) b_law_f0 (ε.set 5 (.f (.int z))) = R := by
    rintro R rfl
    unfold b_law_f0
    refine exSs_nx ?_
    generalize encC true c = C at *
    generalize allR c = E at *
    simp (config := { implicitDefEqProofs := false }) [exSs, ev, evs, evi, evc, evo, tyIs, retv, noMut, noMuts, put, puto, wipeE, frzE, inTD, notD, negD, own, lstD, setD, intOf, isD, isNone, List.getElem?_set, -getElem?_pos, e3, e20, sE]
    rw [lcL_flat (enc := rowT) (f := fun r => if decide (r.length = d) = true then [pE c r] else []) fun r hr => by
      have p1 := prc r hr
      have p2 := eqd r
      have pe : pE c r = .tuple [.int (pr (R c) c.length 0 r), rowT r] := rfl
      rw [pe]
      have nr := nm_rowT r
      have rl := rowT_len r
      generalize rowT r = T at *
      generalize pr (R c) c.length 0 r = v at *
      generalize decide (r.length = d) = b at *
      cases b <;> simp (config := { implicitDefEqProofs := false }) [exSs, ev, evs, evi, evc, evo, tyIs, retv, noMut, noMuts, put, puto, wipeE, frzE, inTD, notD, negD, own, lstD, setD, intOf, isD, isNone, List.getElem?_set, -getElem?_pos, e2, e20, l20, l5, rl, sb, p1, p2]]
    rw [flat_filter, Rs.bnd_ok, Rs.bnd_ok, Rs.bnd_ok, so]
    simp (config := { implicitDefEqProofs := false }) [exSs, ev, evs, evi, evc, evo, tyIs, retv, noMut, noMuts, put, puto, wipeE, frzE, inTD, notD, negD, own, lstD, setD, intOf, isD, isNone, List.getElem?_set, -getElem?_pos]
  have l15' : ((ε.set 5 (.f (.int z))).set 15 (.o (.list ((sortD (fun a b => leT (pE c a) (pE c b)) ((cuts (c.length - 1)).filter fun r => decide (r.length = d))).map (pE c)))))[15]? = some (.o (.list ((sortD (fun a b => leT (pE c a) (pE c b)) ((cuts (c.length - 1)).filter fun r => decide (r.length = d))).map (pE c)))) := List.getElem?_set_self (by rw [List.length_set]; have := i.len; omega)
  have l2' : ((ε.set 5 (.f (.int z))).set 15 (.o (.list ((sortD (fun a b => leT (pE c a) (pE c b)) ((cuts (c.length - 1)).filter fun r => decide (r.length = d))).map (pE c)))))[2]? = some (.f (encC true c)) := by rw [List.getElem?_set_ne (by omega), List.getElem?_set_ne (by omega)]; exact e2
  have l5' : ((ε.set 5 (.f (.int z))).set 15 (.o (.list ((sortD (fun a b => leT (pE c a) (pE c b)) ((cuts (c.length - 1)).filter fun r => decide (r.length = d))).map (pE c)))))[5]? = some (.f (.int z)) := by rw [List.getElem?_set_ne (by omega), List.getElem?_set_self (by have := i.len; omega)]
  refine ⟨.o (.list ((sortD (fun a b => leT (pE c a) (pE c b)) ((cuts (c.length - 1)).filter fun r => decide (r.length = d))).map (pE c))), ?_⟩
  unfold forStep
  rw [bnd_nm1, Rs.bnd_ok]
  refine c1 _ ?_
  by_cases h : d + 1 ≤ c.length
  · obtain ⟨rest, er⟩ := first_len c d (by omega)
    rw [er] at l15' l2' l5' ⊢
    rw [if_pos h] at str
    generalize (ε.set 5 (.f (.int z))).set 15 (.o (.list ((gcut (R c) c.length d 0 :: rest).map (pE c)))) = ε2 at *
    have hn := gcut_spec (opt_isSome (w := R c) (n := c.length) d 0 (by omega)).choose_spec
    have sa := same12 k 1 (by omega) (rowT (gcut (R c) c.length d 0)) (sm_ints _ (by unfold toI; rw [List.length_map, hn.2.1]; omega))
    have nr := nm_rowT (gcut (R c) c.length d 0)
    have i0 : idxD (.list ((gcut (R c) c.length d 0 :: rest).map (pE c))) (.int 0) = .ok (pE c (gcut (R c) c.length d 0)) := rfl
    have i1 : idxD (pE c (gcut (R c) c.length d 0)) (.int 1) = .ok (rowT (gcut (R c) c.length d 0)) := rfl
    have nn : cmpD .ne (.list ((gcut (R c) c.length d 0 :: rest).map (pE c))) (.list []) = .ok (.bool true) := by
      rw [ne_nil (by
        rw [List.all_eq_true]
        intro x hx
        obtain ⟨r, _, rfl⟩ := List.mem_map.mp hx
        have := (pE_ok c r).2.1
        show lim 39 (.tuple [_, _]) = true
        have h38 := lim_iT 37 (toI r)
        show ([PyData.int _, rowT r].all (lim 38)) = true
        simp only [List.all_cons, List.all_nil, lim_int, Bool.true_and, Bool.and_true]
        exact h38)]
      rfl
    generalize encC true c = C at *
    generalize encC false c = C2 at *
    generalize pE c (gcut (R c) c.length d 0) = P at *
    generalize rowT (gcut (R c) c.length d 0) = T at *
    generalize PyData.list ((gcut (R c) c.length d 0 :: rest).map (pE c)) = L at *
    simp (config := { implicitDefEqProofs := false }) [exSs, ev, evs, evi, evc, evo, tyIs, retv, noMut, noMuts, put, puto, wipeE, frzE, inTD, notD, negD, own, lstD, setD, intOf, isD, isNone, List.getElem?_set, -getElem?_pos, b_law_f0, l2', l5', l15', li, str, nr, nn, i0, i1, sa]
  · have er := none_len c hc.1 d (by omega)
    rw [er] at l15' l2' l5' ⊢
    rw [if_neg h] at str
    have es : sortD (fun a b => leT (pE c a) (pE c b)) [] = [] := rfl
    rw [es] at l15' l2' l5' ⊢
    generalize (ε.set 5 (.f (.int z))).set 15 (.o (.list (([] : List (List Nat)).map (pE c)))) = ε2 at *
    have nz : cmpD .ne (.list (([] : List (List Nat)).map (pE c))) (.list []) = .ok (.bool false) := rfl
    have sa := same12 k 0 (by omega) .none rfl
    generalize encC true c = C at *
    generalize encC false c = C2 at *
    generalize PyData.list (([] : List (List Nat)).map (pE c)) = L at *
    simp (config := { implicitDefEqProofs := false }) [exSs, ev, evs, evi, evc, evo, tyIs, retv, noMut, noMuts, put, puto, wipeE, frzE, inTD, notD, negD, own, lstD, setD, intOf, isD, isNone, List.getElem?_set, -getElem?_pos, b_law_f0, l2', l5', l15', li, str, nz, sa]
end
end K22
end Ws

set_option Elab.async false
set_option linter.all false
set_option maxRecDepth 100000
set_option maxHeartbeats 400000
namespace Ws
namespace K22
open PySem
section
variable (k : Nat) (sc : D) (c : List Int) (fee : Int)
/-- the floor by the law -/
theorem lf1 (hc : okC c) (ε : Env) (v : Vi sc (encC true c) (allR c) fee ε) (i : Nat) (hi : i < c.length) (e7 : ε[7]? = some (.o (.list ((flo (R c) c.length fee i).map .int)))) :
    forStep (call fs (k + 12)) (.nm 8) b_law_f1 (.int (i : Nat)) ε = .ok (.nx, ((ε.set 8 (.f (.int (i : Nat)))).set 16 (.f (.int ((c.length - i - 1 : Nat) : Int)))).set 7 (.o (.list ((flo (R c) c.length fee (i + 1)).map .int)))) := by
  have e2 := v.e2
  have e4 := v.e4
  have e21 := v.e21
  have hn := hc.2.1
  have l8 := eq_true (show 8 < ε.length by have := v.len; omega)
  have l16 := eq_true (show 16 < ε.length by have := v.len; omega)
  have l21 := eq_true (show 21 < ε.length by have := v.len; omega)
  have ln : biD .len [encC true c] = .ok (.int c.length) := len_ints true c
  have hp : binD .sub (.int ((c.length : Int) - 1)) (.int (i : Nat)) = .ok (.int ((c.length - i - 1 : Nat) : Int)) := by rw [qs, show (c.length : Int) - 1 - (i : Nat) = ((c.length - i - 1 : Nat) : Int) by omega]
  have hq : binD .sub (.int (c.length : Nat)) (.int 1) = .ok (.int ((c.length : Int) - 1)) := qs _ _
  have hr2 : rngD (((c.length - i - 1 : Nat) : Int) + 1) ((c.length : Int) + 1) = .ok ((List.range (i + 1)).map fun d => .int (((c.length - i - 1 : Nat) : Int) + 1 + (d : Nat))) := by
    rw [rng_from (c.length - i - 1 + 1) (c.length + 1) (by omega) (by omega) (by omega) (by omega), show c.length + 1 - (c.length - i - 1 + 1) = i + 1 by omega]; rfl
  have hfl := flo_len (w := R c) (n := c.length) fee i
  have sl : ∀ i j, sliD (encC true c) i j = .ok (.tuple (cutD (c.map .int) i j)) := fun i j => sli_sq true (c.map .int) i j
  have tn : ∀ j, j < i + 1 → ∃ a : Nat, (((c.length - i - 1 : Nat) : Int) + 1 + (j : Nat)) = (a : Int) ∧ cutD (c.map PyData.int) (some (((c.length - i - 1 : Nat) : Int))) (some (a : Int)) = (cutL c (c.length - i - 1) a).map PyData.int ∧ call fs (k + 12) 33 [.tuple ((cutL c (c.length - i - 1) a).map .int)] = .ok (.int (R c (c.length - i - 1) (c.length - i - 1 + 1 + j))) ∧
      binD .sub (.int (a : Nat)) (.int ((c.length - i - 1 : Nat) : Int)) = .ok (.int ((j : Int) + 1)) ∧ idxD (.list ((flo (R c) c.length fee i).map .int)) (.int (j : Nat)) = .ok (.int ((flo (R c) c.length fee i).getD j 0)) := by
    intro j hj
    refine ⟨c.length - i - 1 + 1 + j, by omega, cutD_ints c _ _ (by omega) (by omega), ?_, by rw [qs, show ((c.length - i - 1 + 1 + j : Nat) : Int) - ((c.length - i - 1 : Nat) : Int) = (j : Int) + 1 by omega], idx_ints false _ j (by omega)⟩
    exact law_rough_ok (k + 11) true (cutL c (c.length - i - 1) (c.length - i - 1 + 1 + j)) (by rw [cutL_len c _ _ (by omega) (by omega)]; omega)
  have mi := min_ints ((List.range (i + 1)).map fun j : Nat => fee + R c (c.length - i - 1) (c.length - i - 1 + 1 + j) + (flo (R c) c.length fee i).getD j 0) (by
    intro e
    have := congrArg List.length e
    rw [List.length_map, List.length_range] at this
    cases this)
  rw [List.map_map] at mi
  have es : (flo (R c) c.length fee (i + 1)).map PyData.int = .int (mnI ((List.range (i + 1)).map fun j : Nat => fee + R c (c.length - i - 1) (c.length - i - 1 + 1 + j) + (flo (R c) c.length fee i).getD j 0)) :: (flo (R c) c.length fee i).map .int := rfl
  rw [es]
  have hfl2 : ((flo (R c) c.length fee i).map PyData.int).length = i + 1 := by rw [List.length_map, hfl]
  generalize mnI ((List.range (i + 1)).map fun j : Nat => fee + R c (c.length - i - 1) (c.length - i - 1 + 1 + j) + (flo (R c) c.length fee i).getD j 0) = G at *
  generalize hf : (fun j : Nat => fee + R c (c.length - i - 1) (c.length - i - 1 + 1 + j) + (flo (R c) c.length fee i).getD j 0) = fR at mi
  have hfj : ∀ j, fR j = fee + R c (c.length - i - 1) (c.length - i - 1 + 1 + j) + (flo (R c) c.length fee i).getD j 0 := fun j => by rw [← hf]
  have mi : biD .min [.list ((List.range (i + 1)).map fun j => .int (fR j))] = .ok (.int G) := mi
  have ad : binD .add (.list [.int G]) (.list ((flo (R c) c.length fee i).map .int)) = .ok (.list (.int G :: (flo (R c) c.length fee i).map .int)) := if_pos (by rw [hfl2]; show 1 + (i + 1) ≤ 16777216; omega)
  generalize encC true c = C at *
  generalize hL : (c.map PyData.int) = cl at *
  generalize hFm : (flo (R c) c.length fee i).map PyData.int = Fm at *
  generalize c.length - i - 1 = p at *
  generalize (p : Int) = pI at *
  simp (config := { implicitDefEqProofs := false }) [exSs, ev, evs, evi, evc, evo, tyIs, retv, noMut, noMuts, put, puto, wipeE, frzE, inTD, notD, negD, own, lstD, setD, intOf, isD, isNone, List.getElem?_set, -getElem?_pos, forStep, b_law_f1, l8, l16, e2, e4, e7, e21, ln, hq, hp, qa, hr2]
  rw [lcL_map (enc := fun d : Nat => PyData.int (pI + 1 + (d : Nat))) (f := fun j => .int (fR j)) fun j hj => by
    have hj' := hfj j
    obtain ⟨a, a1, a2, a3, a4, a5⟩ := tn j (List.mem_range.mp hj)
    have a6 : binD .sub (.int ((j : Int) + 1)) (.int 1) = .ok (.int (j : Nat)) := by rw [qs, show (j : Int) + 1 - 1 = (j : Nat) by omega]
    rw [a1]
    generalize R c p (p + 1 + j) = r at *
    generalize (flo (R c) c.length fee i).getD j 0 = g at *
    generalize (a : Int) = aI at *
    generalize (j : Int) + 1 = j1 at *
    simp (config := { implicitDefEqProofs := false }) [exSs, ev, evs, evi, evc, evo, tyIs, retv, noMut, noMuts, put, puto, wipeE, frzE, inTD, notD, negD, own, lstD, setD, intOf, isD, isNone, List.getElem?_set, -getElem?_pos, e2, e4, e7, e21, l8, l16, l21, sl, a2, a3, a4, a5, a6, qa, hj']]
  simp (config := { implicitDefEqProofs := false }) [exSs, ev, evs, evi, evc, evo, tyIs, retv, noMut, noMuts, put, puto, wipeE, frzE, inTD, notD, negD, own, lstD, setD, intOf, isD, isNone, List.getElem?_set, -getElem?_pos, mi, ad, l8, l16, e7]
/-- smoothed by the law: one place -/
theorem lf2 (hc : okC c) (ε : Env) (len : ε.length = 22) (e2 : ε[2]? = some (.f (encC true c))) (w : Nat) (e11 : ε[11]? = some (.f (.int (w : Nat)))) (i : Nat) (hi : i < c.length) (made : List D) (hm : made.length < 100) (e17 : ε[17]? = some (.o (.list made))) :
    ∃ s18, forStep (call fs (k + 12)) (.nm 10) b_law_f2 (.int (i : Nat)) ε = .ok (.nx, ((ε.set 10 (.f (.int (i : Nat)))).set 18 s18).set 17 (.o (.list (made ++ [.int (mid (win c i w))])))) := by
  have l10 := eq_true (show 10 < ε.length by omega)
  have l18 := eq_true (show 18 < ε.length by omega)
  have sl : ∀ i j, sliD (encC true c) i j = .ok (.tuple (cutD (c.map .int) i j)) := fun i j => sli_sq true (c.map .int) i j
  have wc := win_cut c i w hi
  have ms := max_sub i w
  have ad : binD .add (.int ((i : Int) + w)) (.int 1) = .ok (.int ((i + w + 1 : Nat) : Int)) := rfl
  have so : biD .sorted [.tuple ((win c i w).map .int)] = .ok (.list ((isort (win c i w)).map .int)) := sort_ints true (win c i w)
  have wl := win_len c i w hi
  have ln : biD .len [.list ((isort (win c i w)).map .int)] = .ok (.int ((win c i w).length : Nat)) := by
    have := len_ints false (isort (win c i w))
    rwa [isort_len] at this
  have dv : binD .fdiv (.int (((win c i w).length : Int) - 1)) (.int 2) = .ok (.int ((((win c i w).length - 1) / 2 : Nat) : Int)) := by
    rw [d1 _ _ (by decide) (by decide), show (((win c i w).length : Int) - 1) / 2 = ((((win c i w).length - 1) / 2 : Nat) : Int) by omega]
  have b1 : ∀ i, biD .int [.int i] = .ok (.int i) := fun _ => rfl
  have ix : idxD (.list ((isort (win c i w)).map .int)) (.int ((((win c i w).length - 1) / 2 : Nat) : Int)) = .ok (.int (mid (win c i w))) := idx_ints false (isort (win c i w)) (((win c i w).length - 1) / 2) (by rw [isort_len]; omega)
  have sb : binD .sub (.int (i : Nat)) (.int (w : Nat)) = .ok (.int ((i : Int) - w)) := qs _ _
  have sb2 : binD .sub (.int ((win c i w).length : Nat)) (.int 1) = .ok (.int (((win c i w).length : Int) - 1)) := qs _ _
  refine ⟨.o (.list ((isort (win c i w)).map .int)), ?_⟩
  generalize encC true c = C at *
  generalize c.map PyData.int = cl at *
  generalize mid (win c i w) = M at *
  generalize ((win c i w).length - 1) / 2 = h2 at *
  generalize (isort (win c i w)).map PyData.int = S at *
  generalize (win c i w).map PyData.int = W at *
  generalize (win c i w).length = wl' at *
  generalize i + w + 1 = j at *
  generalize i - w = l at *
  have hlm : made.length < LIM := Nat.lt_of_lt_of_le hm (by decide)
  simp (config := { implicitDefEqProofs := false }) [exSs, ev, evs, evi, evc, evo, tyIs, retv, noMut, noMuts, put, puto, wipeE, frzE, inTD, notD, negD, own, lstD, setD, intOf, isD, isNone, List.getElem?_set, -getElem?_pos, forStep, b_law_f2, l10, l18, e2, e11, e17, sb, ms, qa, ad, sl, wc, so, ln, sb2, dv, b1, ix, hlm]
theorem lf3 (hc : okC c) (ε : Env) (v : Vi sc (encC true c) (allR c) fee ε) (w : Nat) (hw : w ≤ 5) :
    ∃ ε', Vi sc (encC true c) (allR c) fee ε' ∧ forStep (call fs (k + 12)) (.nm 11) b_law_f3 (.int (w : Nat)) ε = .ok (.nx, ε') := by
  have ln : biD .len [encC true c] = .ok (.int c.length) := len_ints true c
  have hr := rng_len (n := c.length) (by have := hc.2.1; omega)
  have v1 : Vi sc (encC true c) (allR c) fee ((ε.set 11 (.f (.int (w : Nat)))).set 17 (.o (.list []))) := (v.set ⟨by omega, by omega⟩ _).set ⟨by omega, by omega⟩ _
  have a11 : ((ε.set 11 (.f (.int (w : Nat)))).set 17 (.o (.list [])))[11]? = some (.f (.int (w : Nat))) := by rw [List.getElem?_set_ne (by omega), List.getElem?_set_self (by have := v.len; omega)]
  have a17 : ((ε.set 11 (.f (.int (w : Nat)))).set 17 (.o (.list [])))[17]? = some (.o (.list [])) := List.getElem?_set_self (by rw [List.length_set]; have := v.len; omega)
  obtain ⟨ε', ⟨j1, j2, j3⟩, e'⟩ := exFor_app (N := 50) (enc := fun i : Nat => PyData.int (i : Nat)) (g := fun i => .int (mid (win c i w))) (l := List.range c.length) (b := []) (step := forStep (call fs (k + 12)) (.nm 10) b_law_f2) (ε := (ε.set 11 (.f (.int (w : Nat)))).set 17 (.o (.list [])))
    (I := fun b ε => Vi sc (encC true c) (allR c) fee ε ∧ ε[11]? = some (.f (.int (w : Nat))) ∧ ε[17]? = some (.o (.list b))) (by rw [List.length_range]; have := hc.2.1; show 0 + _ ≤ 50; omega) ⟨v1, a11, a17⟩
    (fun i hi b ε hb ⟨i1, i2, i3⟩ => by
      obtain ⟨s18, e⟩ := lf2 k c hc ε i1.len i1.e2 w i2 i (List.mem_range.mp hi) b (by omega) i3
      refine ⟨_, ⟨((i1.set ⟨by omega, by omega⟩ _).set ⟨by omega, by omega⟩ _).set ⟨by omega, by omega⟩ _, ?_, ?_⟩, e⟩
      · rw [List.getElem?_set_ne (by omega), List.getElem?_set_ne (by omega), List.getElem?_set_ne (by omega)]; exact i2
      · exact List.getElem?_set_self (by rw [List.length_set, List.length_set]; have := i1.len; omega))
  refine ⟨ε', j1, ?_⟩
  have hT : PyData.tuple ([] ++ (List.range c.length).map fun i => PyData.int (mid (win c i w))) = .tuple ((smoothF c w).map .int) := by
    rw [List.nil_append]
    unfold smoothF
    rw [List.map_map]; rfl
  have sm' : call fs (k + 12) 22 [encC true c, .int w] = .ok (.tuple ((smoothF c w).map .int)) := smooth_ok (k + 8) true c hc w hw
  have nm := nm_ints (smoothF c w)
  have sa := same12 k 1 (by omega) (.tuple ((smoothF c w).map .int)) (sm_ints _ (by unfold smoothF; rw [List.length_map, List.length_range]; have := hc.2.1; omega))
  have k2 := j1.e2
  have l11 := eq_true (show 11 < ε.length by have := v.len; omega)
  have e2 := v.e2
  have c1 : exS (call fs (k + 12)) (.asg (.nm 17) (.lst []) true []) (ε.set 11 (.f (.int (w : Nat)))) = .ok (.nx, (ε.set 11 (.f (.int (w : Nat)))).set 17 (.o (.list []))) := by simp (config := { implicitDefEqProofs := false }) [exSs, ev, evs, evi, evc, evo, tyIs, retv, noMut, noMuts, put, puto, wipeE, frzE, inTD, notD, negD, own, lstD, setD, intOf, isD, isNone, List.getElem?_set, -getElem?_pos]
  have k1 := v1.e2
  generalize (ε.set 11 (.f (.int (w : Nat)))).set 17 (.o (.list [])) = ε1 at *
  generalize (smoothF c w).map PyData.int = S at *
  generalize [] ++ (List.range c.length).map (fun i => PyData.int (mid (win c i w))) = T at *
  generalize encC true c = C at *
  unfold forStep
  rw [bnd_nm1, Rs.bnd_ok]
  unfold b_law_f3
  rw [exSs_nx c1]
  rw [exSs_nx (ε' := ε') (by simp (config := { implicitDefEqProofs := false }) [exSs, ev, evs, evi, evc, evo, tyIs, retv, noMut, noMuts, put, puto, wipeE, frzE, inTD, notD, negD, own, lstD, setD, intOf, isD, isNone, List.getElem?_set, -getElem?_pos, k1, ln, hr]; exact e')]
  simp (config := { implicitDefEqProofs := false }) [exSs, ev, evs, evi, evc, evo, tyIs, retv, noMut, noMuts, put, puto, wipeE, frzE, inTD, notD, negD, own, lstD, setD, intOf, isD, isNone, List.getElem?_set, -getElem?_pos, k2, j2, j3, sm', nm, bt, hT, sa]
/-- steps, asked of the law -/
theorem lf4 (hc : okC c) (ε : Env) (v : Vi sc (encC true c) (allR c) fee ε) (least : Int) (hl : 1 ≤ least) :
    forStep (call fs (k + 12)) (.nm 12) b_law_f4 (.int least) ε = .ok (.nx, ε.set 12 (.f (.int least))) := by
  have e2 := v.e2
  have l10 := eq_true (show 10 < ε.length by have := v.len; omega)
  have l12 := eq_true (show 12 < ε.length by have := v.len; omega)
  have ln : biD .len [encC true c] = .ok (.int c.length) := len_ints true c
  have hr := steps_rng c hc.1 hc.2.1
  have tn := steps_turn c true
  have so : call fs (k + 12) 24 [encC true c, .int least] = .ok (.tuple (stepsF c least)) := steps_ok (k + 8) true c hc least hl
  have hS : List.map (fun d : Nat => PyData.int (1 + (d : Nat))) (List.filter (stepsP c least) (List.range (c.length - 1))) = stepsF c least := rfl
  have hlen : (stepsF c least).length ≤ 1000 := by
    unfold stepsF
    rw [List.length_map]
    have := List.length_filter_le (stepsP c least) (List.range (c.length - 1))
    rw [List.length_range] at this
    have := hc.2.1
    omega
  have smS : sm 1 (.tuple (stepsF c least)) = true := by
    show (decide ((stepsF c least).length ≤ 1000) && (stepsF c least).all (sm 0)) = true
    rw [decide_eq_true hlen, Bool.true_and, List.all_eq_true]
    intro x hx
    obtain ⟨d, _, rfl⟩ := List.mem_map.mp hx
    rfl
  have nmS : noMuts (stepsF c least) = true := by
    unfold stepsF
    generalize List.filter (stepsP c least) (List.range (c.length - 1)) = l
    induction l with
    | nil => rfl
    | cons a l ih => exact ih
  have sa := same12 k 1 (by omega) _ smS
  generalize encC true c = C at *
  simp (config := { implicitDefEqProofs := false }) [exSs, ev, evs, evi, evc, evo, tyIs, retv, noMut, noMuts, put, puto, wipeE, frzE, inTD, notD, negD, own, lstD, setD, intOf, isD, isNone, List.getElem?_set, -getElem?_pos, forStep, b_law_f4, l12, e2, so, nmS, ln, hr]
  rw [lcL_flat (enc := fun d : Nat => PyData.int (1 + (d : Nat))) (f := fun d => if stepsP c least d = true then [.int (1 + (d : Nat))] else []) fun d hd => by
    obtain ⟨t1, t2, t3⟩ := tn d (List.mem_range.mp hd)
    unfold stepsP
    generalize c.getD (1 + d) 0 = a at *
    generalize c.getD d 0 = b at *
    generalize (1 : Int) + (d : Nat) = e at *
    simp (config := { implicitDefEqProofs := false }) [exSs, ev, evs, evi, evc, evo, tyIs, retv, noMut, noMuts, put, puto, wipeE, frzE, inTD, notD, negD, own, lstD, setD, intOf, isD, isNone, List.getElem?_set, -getElem?_pos, t1, t2, t3, qs, abs_bi, l10, l12, e2]
    by_cases z : least ≤ ab (a - b) <;> simp [z]]
  rw [flat_filter, hS]
  simp (config := { implicitDefEqProofs := false }) [exSs, ev, evs, evi, evc, evo, tyIs, retv, noMut, noMuts, put, puto, wipeE, frzE, inTD, notD, negD, own, lstD, setD, intOf, isD, isNone, List.getElem?_set, -getElem?_pos, bt, sa, nmS]
end
end K22
end Ws

set_option Elab.async false
set_option linter.all false
set_option maxRecDepth 100000
set_option maxHeartbeats 400000
namespace Ws
namespace K22
open PySem
theorem pow6 : binD .pow (.int 10) (.int 6) = .ok (.int 1000000) := by rfl
def cv (n : Int) : List Int := lawCurve n (1 + n % 8).toNat
theorem cv_ok (n : Int) : okC (cv n) ∧ (cv n).length ≤ 8 := by
  obtain ⟨h1, h2, _⟩ := lawCurve_ok n (1 + n % 8).toNat (by omega) (by omega)
  exact ⟨h1, by show (lawCurve _ _).length ≤ 8; rw [h2]; omega⟩
theorem cv_call (k : Nat) (n : Int) : call fs (k + 12) 32 [.int n, .int (1 + n % 8)] = .ok (encC true (cv n)) := by
  have := law_curve_ok (k + 11) n (1 + n % 8).toNat (by omega)
  rwa [show (((1 + n % 8).toNat : Nat) : Int) = 1 + n % 8 by omega] at this
theorem cuts_call (k : Nat) (c : List Int) (h : okC c) (h8 : c.length ≤ 8) : call fs (k + 12) 34 [.int (c.length : Nat)] = .ok (allR c) := by
  have := law_cuts_ok (k + 11) (c.length - 1) (by omega)
  rwa [show ((c.length - 1 : Nat) : Int) + 1 = (c.length : Nat) by have := h.1; omega] at this
theorem start (k : Nat) (ns : List Int) : ∃ ε, Vi (.list (ns.map .int)) (encC true (cv (cell ns 0 % 1000000))) (allR (cv (cell ns 0 % 1000000))) (cell ns 1 % 25) ε ∧
    ∀ R, exSs (call fs (k + 12)) (b_law.drop 4) ε = R → exSs (call fs (k + 12)) b_law ([.f (.list (ns.map .int))] ++ List.replicate 21 .u) = R := by
  have c0 : call fs (k + 12) 26 [.list (ns.map .int), .int 0] = .ok (.int (cell ns 0)) := cell_ok (k + 11) ns 0
  have c1 : call fs (k + 12) 26 [.list (ns.map .int), .int 1] = .ok (.int (cell ns 1)) := cell_ok (k + 11) ns 1
  have cc := cv_call k (cell ns 0 % 1000000)
  obtain ⟨hc, h8⟩ := cv_ok (cell ns 0 % 1000000)
  have cu := cuts_call k _ hc h8
  have ln : biD .len [encC true (cv (cell ns 0 % 1000000))] = .ok (.int (cv (cell ns 0 % 1000000)).length) := len_ints true _
  have nc := nm_curve (cv (cell ns 0 % 1000000))
  generalize cv (cell ns 0 % 1000000) = c at *
  generalize hn : cell ns 0 % 1000000 = n at *
  generalize hf : cell ns 1 % 25 = fee at *
  generalize encC true c = C at *
  generalize allR c = E at *
  generalize PyData.list (ns.map PyData.int) = sc at *
  refine ⟨((((([.f sc] ++ List.replicate 21 .u : Env).set 1 (.f (.int n))).set 2 (.f C)).set 3 (.f E)).set 4 (.f (.int fee))), ⟨rfl, rfl, rfl, rfl, rfl, rfl, rfl, rfl⟩, ?_⟩
  rintro R rfl
  unfold b_law
  refine (exSs_nx (ε' := ([.f sc] ++ List.replicate 21 .u : Env).set 1 (.f (.int n))) ?_).trans ((exSs_nx (ε' := (([.f sc] ++ List.replicate 21 .u : Env).set 1 (.f (.int n))).set 2 (.f C)) ?_).trans ((exSs_nx (ε' := ((([.f sc] ++ List.replicate 21 .u : Env).set 1 (.f (.int n))).set 2 (.f C)).set 3 (.f E)) ?_).trans (exSs_nx ?_)))
  · have l0 : ([.f sc] ++ List.replicate 21 .u : Env)[0]? = some (.f sc) := rfl
    generalize ([.f sc] ++ List.replicate 21 .u : Env) = E0 at l0
    simp (config := { implicitDefEqProofs := false }) [exSs, ev, evs, evi, evc, evo, tyIs, retv, noMut, noMuts, put, puto, wipeE, frzE, inTD, notD, negD, own, lstD, setD, intOf, isD, isNone, List.getElem?_set, -getElem?_pos, l0, c0, pow6, m1, hn]
  · have l1 : (([.f sc] ++ List.replicate 21 .u : Env).set 1 (.f (.int n)))[1]? = some (.f (.int n)) := rfl
    generalize (([.f sc] ++ List.replicate 21 .u : Env).set 1 (.f (.int n))) = E0 at l1
    simp (config := { implicitDefEqProofs := false }) [exSs, ev, evs, evi, evc, evo, tyIs, retv, noMut, noMuts, put, puto, wipeE, frzE, inTD, notD, negD, own, lstD, setD, intOf, isD, isNone, List.getElem?_set, -getElem?_pos, l1, m1, qa, cc, nc]
  · have l2 : ((([.f sc] ++ List.replicate 21 .u : Env).set 1 (.f (.int n))).set 2 (.f C))[2]? = some (.f C) := rfl
    generalize ((([.f sc] ++ List.replicate 21 .u : Env).set 1 (.f (.int n))).set 2 (.f C)) = E0 at l2
    simp (config := { implicitDefEqProofs := false }) [exSs, ev, evs, evi, evc, evo, tyIs, retv, noMut, noMuts, put, puto, wipeE, frzE, inTD, notD, negD, own, lstD, setD, intOf, isD, isNone, List.getElem?_set, -getElem?_pos, l2, ln, cu]
  · have l0 : (((([.f sc] ++ List.replicate 21 .u : Env).set 1 (.f (.int n))).set 2 (.f C)).set 3 (.f E))[0]? = some (.f sc) := rfl
    generalize (((([.f sc] ++ List.replicate 21 .u : Env).set 1 (.f (.int n))).set 2 (.f C)).set 3 (.f E)) = E0 at l0
    simp (config := { implicitDefEqProofs := false }) [exSs, ev, evs, evi, evc, evo, tyIs, retv, noMut, noMuts, put, puto, wipeE, frzE, inTD, notD, negD, own, lstD, setD, intOf, isD, isNone, List.getElem?_set, -getElem?_pos, l0, c1, m1, hf]
section
variable (k : Nat) (sc : D) (c : List Int) (fee : Int)
def bG (c : List Int) (fee : Int) : List Nat := gcut (R c) c.length (bestF (val (R c) c.length fee) c.length - 1) 0
theorem lp0 (hc : okC c) (hc8 : c.length ≤ 8) (ε : Env) (v : Vi sc (encC true c) (allR c) fee ε) : ∃ ε', Vi sc (encC true c) (allR c) fee ε' ∧ exS (call fs (k + 12)) (.for_ (.nm 5) (.rng2 (.lit (.int (1))) (.lit (.int (10)))) b_law_f0 []) ε = .ok (.nx, ε') := by
  obtain ⟨ε', v', e⟩ := exFor_all (enc := fun d : Nat => PyData.int (1 + (d : Nat))) (step := forStep (call fs (k + 12)) (.nm 5) b_law_f0) (I := Vi sc (encC true c) (allR c) fee) (l := List.range 9) (ε := ε) v fun d hd ε i => by
    obtain ⟨s, e⟩ := lf0 k sc c fee hc hc8 ε i d (List.mem_range.mp hd)
    exact ⟨_, (i.set ⟨by omega, by omega⟩ _).set ⟨by omega, by omega⟩ _, e⟩
  refine ⟨ε', v', ?_⟩
  have hr : rngD 1 10 = .ok ((List.range 9).map fun d : Nat => PyData.int (1 + (d : Nat))) := by rfl
  generalize encC true c = C at *
  generalize allR c = E at *
  simp (config := { implicitDefEqProofs := false }) [exSs, ev, evs, evi, evc, evo, tyIs, retv, noMut, noMuts, put, puto, wipeE, frzE, inTD, notD, negD, own, lstD, setD, intOf, isD, isNone, List.getElem?_set, -getElem?_pos, hr, e]
theorem as6 (hc : okC c) (hc8 : c.length ≤ 8) (ε : Env) (v : Vi sc (encC true c) (allR c) fee ε) (hf : 0 ≤ fee ∧ fee ≤ 24) : exS (call fs (k + 12)) (.asg (.nm 6) (.idx (.bi .sorted [(.lc [20] (.tup [(.bin .add (.nomut (.call 35 [(.var 2), (.var 20)])) (.bin .mul (.wv 4) (.bin .add (.bi .len [(.wv 20)]) (.lit (.int (1)))))), (.bi .len [(.wv 20)]), (.var 20)]) (.nm 20) (.seq (.wv 3)) .none)]) (.lit (.int (0)))) false [20]) ε = .ok (.nx, ε.set 6 (.f (tE c fee (bG c fee)))) := by
  have e2 := v.e2
  have e3 := v.e3
  have e4 := v.e4
  have e20 := v.e20
  have l20 := eq_true (show 20 < ε.length by have := v.len; omega)
  have sE : seqD (allR c) = .ok ((cuts (c.length - 1)).map rowT) := rfl
  have prc : ∀ r ∈ cuts (c.length - 1), call fs (k + 12) 35 [encC true c, rowT r] = .ok (.int (pr (R c) c.length 0 r)) := fun r hr => law_price_ok (k + 10) c hc.2.1 r (ch_of hc.1 hr)
  have ml : ∀ r ∈ cuts (c.length - 1), binD .mul (.int fee) (.int ((r.length : Int) + 1)) = .ok (.int (fee * ((r.length : Int) + 1))) := fun r hr => by
    have := ch_lt (ch_of hc.1 hr)
    exact mu _ _ (by unfold mulOk; rw [decide_eq_true (show -(2 ^ 64) < fee by omega), decide_eq_true (show fee < 2 ^ 64 by omega)]; rfl)
  have so := sortOk_of (tE c fee) (cuts (c.length - 1)) (tE_ok c fee) (tE_alike c fee)
  obtain ⟨rest, fr⟩ := first_fee c hc.1 fee
  rw [fr] at so
  have i0 : idxD (.list ((bG c fee :: rest).map (tE c fee))) (.int 0) = .ok (tE c fee (bG c fee)) := rfl
  have nt : noMut (tE c fee (bG c fee)) = true := by
    show (true && (true && (noMut (rowT _) && true))) = true
    rw [nm_rowT]; rfl
  change biD .sorted [.list ((cuts (c.length - 1)).map (tE c fee))] = .ok (.list ((bG c fee :: rest).map (tE c fee))) at so
  generalize tE c fee (bG c fee) = T0 at *
  generalize PyData.list ((bG c fee :: rest).map (tE c fee)) = L0 at *
  generalize encC true c = C at *
  generalize allR c = E at *
  simp (config := { implicitDefEqProofs := false }) [exSs, ev, evs, evi, evc, evo, tyIs, retv, noMut, noMuts, put, puto, wipeE, frzE, inTD, notD, negD, own, lstD, setD, intOf, isD, isNone, List.getElem?_set, -getElem?_pos, e3, e20, sE]
  rw [lcL_map (enc := rowT) (f := fun r => tE c fee r) fun r hr => by
    have p1 := prc r hr
    have p2 := ml r hr
    have pe : tE c fee r = .tuple [.int (pr (R c) c.length 0 r + fee * ((r.length : Int) + 1)), .int (r.length : Nat), rowT r] := rfl
    rw [pe]
    have nr := nm_rowT r
    have rl := rowT_len r
    generalize rowT r = T at *
    generalize pr (R c) c.length 0 r = v at *
    generalize (r.length : Int) = rn at *
    simp (config := { implicitDefEqProofs := false }) [exSs, ev, evs, evi, evc, evo, tyIs, retv, noMut, noMuts, put, puto, wipeE, frzE, inTD, notD, negD, own, lstD, setD, intOf, isD, isNone, List.getElem?_set, -getElem?_pos, e2, e4, e20, l20, rl, p1, p2, qa]]
  simp (config := { implicitDefEqProofs := false }) [exSs, ev, evs, evi, evc, evo, tyIs, retv, noMut, noMuts, put, puto, wipeE, frzE, inTD, notD, negD, own, lstD, setD, intOf, isD, isNone, List.getElem?_set, -getElem?_pos, so, i0, nt]
end
end K22
end Ws

set_option Elab.async false
set_option linter.all false
set_option maxRecDepth 100000
set_option maxHeartbeats 400000
namespace Ws
namespace K22
open PySem
section
variable (k : Nat) (sc : D) (c : List Int) (fee : Int)
theorem F0 (hc : okC c) : (F c fee).getD 0 0 = pr (R c) c.length 0 (bG c fee) + fee * (((bG c fee).length : Int) + 1) := by
  have h := hd_best (w := R c) (n := c.length) fee hc.1
  obtain ⟨_, _, g3⟩ := best_in (w := R c) (n := c.length) fee hc.1
  exact h.trans g3.symm
theorem rowT_ok (n p : Nat) (r : List Nat) (h : ch n p r) (hn : n ≤ 100) : sm 1 (rowT r) = true := by
  have := ch_lt h
  exact sm_ints _ (by unfold toI; rw [List.length_map]; omega)
theorem st6 (hc : okC c) (hf : 0 ≤ fee ∧ fee ≤ 24) (ε : Env) (v : Vi sc (encC true c) (allR c) fee ε) (e6 : ε[6]? = some (.f (tE c fee (bG c fee)))) : ∀ R, exSs (call fs (k + 12)) (b_law.drop 7) ε = R → exSs (call fs (k + 12)) (b_law.drop 6) ε = R := by
  rintro R rfl
  refine exSs_nx ?_
  have e2 := v.e2
  have e4 := v.e4
  have bc : call fs (k + 12) 18 [encC true c, .int fee] = .ok (rowT (bG c fee)) := best_cut_ok (k + 7) true c hc fee (by omega)
  have i2 : idxD (tE c fee (bG c fee)) (.int 2) = .ok (rowT (bG c fee)) := rfl
  have nr := nm_rowT (bG c fee)
  have gi := (best_in (w := R c) (n := c.length) fee hc.1).1
  have sa := same12 k 1 (by omega) (rowT (bG c fee)) (rowT_ok c.length 0 _ gi (by have := hc.2.1; omega))
  generalize tE c fee (bG c fee) = T0 at *
  generalize rowT (bG c fee) = T at *
  generalize encC true c = C at *
  simp (config := { implicitDefEqProofs := false }) [exSs, ev, evs, evi, evc, evo, tyIs, retv, noMut, noMuts, put, puto, wipeE, frzE, inTD, notD, negD, own, lstD, setD, intOf, isD, isNone, List.getElem?_set, -getElem?_pos, e2, e4, e6, bc, i2, nr, sa]
theorem lp1 (hc : okC c) (ε : Env) (v : Vi sc (encC true c) (allR c) fee ε) (e6 : ε[6]? = some (.f (tE c fee (bG c fee)))) : ∃ ε', Vi sc (encC true c) (allR c) fee ε' ∧ ε'[6]? = some (.f (tE c fee (bG c fee))) ∧ ε'[7]? = some (.o (.list ((F c fee).map .int))) ∧ ∀ R, exSs (call fs (k + 12)) (b_law.drop 9) ε' = R → exSs (call fs (k + 12)) (b_law.drop 7) ε = R := by
  have a1 : Vi sc (encC true c) (allR c) fee (ε.set 7 (.o (.list [.int 0]))) := v.set ⟨by omega, by omega⟩ _
  have b1 : (ε.set 7 (.o (.list [.int 0])))[7]? = some (.o (.list ((flo (R c) c.length fee 0).map .int))) := List.getElem?_set_self (by have := v.len; omega)
  have c1 : (ε.set 7 (.o (.list [.int 0])))[6]? = some (.f (tE c fee (bG c fee))) := by rw [List.getElem?_set_ne (by omega)]; exact e6
  obtain ⟨ε', ⟨j1, j2, j3⟩, e⟩ := exFor_rangeI (enc := fun i : Nat => PyData.int (i : Nat)) (step := forStep (call fs (k + 12)) (.nm 8) b_law_f1) (I := fun i ε => Vi sc (encC true c) (allR c) fee ε ∧ ε[6]? = some (.f (tE c fee (bG c fee))) ∧ ε[7]? = some (.o (.list ((flo (R c) c.length fee i).map .int)))) (m := c.length) (ε := ε.set 7 (.o (.list [.int 0]))) ⟨a1, c1, b1⟩
    fun i hi ε ⟨i1, i2, i3⟩ => by
      refine ⟨_, ⟨((i1.set ⟨by omega, by omega⟩ _).set ⟨by omega, by omega⟩ _).set ⟨by omega, by omega⟩ _, ?_, ?_⟩, lf1 k sc c fee hc ε i1 i hi i3⟩
      · rw [List.getElem?_set_ne (by omega), List.getElem?_set_ne (by omega), List.getElem?_set_ne (by omega)]; exact i2
      · exact List.getElem?_set_self (by rw [List.length_set, List.length_set]; have := i1.len; omega)
  refine ⟨ε', j1, j2, j3, ?_⟩
  rintro R rfl
  refine (exSs_nx (ε' := ε.set 7 (.o (.list [.int 0]))) (by simp (config := { implicitDefEqProofs := false }) [exSs, ev, evs, evi, evc, evo, tyIs, retv, noMut, noMuts, put, puto, wipeE, frzE, inTD, notD, negD, own, lstD, setD, intOf, isD, isNone, List.getElem?_set, -getElem?_pos])).trans (exSs_nx ?_)
  have e2 := a1.e2
  have ln : biD .len [encC true c] = .ok (.int c.length) := len_ints true c
  have hr := rng_len (n := c.length) (by have := hc.2.1; omega)
  generalize ε.set 7 (.o (.list [.int 0])) = ε1 at *
  generalize encC true c = C at *
  simp (config := { implicitDefEqProofs := false }) [exSs, ev, evs, evi, evc, evo, tyIs, retv, noMut, noMuts, put, puto, wipeE, frzE, inTD, notD, negD, own, lstD, setD, intOf, isD, isNone, List.getElem?_set, -getElem?_pos, e2, ln, hr, e]
theorem st9 (hc : okC c) (ε : Env) (ns : List Int) (v : Vi (.list (ns.map .int)) (encC true c) (allR c) fee ε) (e6 : ε[6]? = some (.f (tE c fee (bG c fee)))) (e7 : ε[7]? = some (.o (.list ((F c fee).map .int)))) :
    ∃ (ε' : Env) (j : Nat), j < (F c fee).length ∧ Vi (.list (ns.map .int)) (encC true c) (allR c) fee ε' ∧ ε'[6]? = some (.f (tE c fee (bG c fee))) ∧ ε'[9]? = some (.f (.tuple ((F c fee).map .int))) ∧ ε'[10]? = some (.f (.int (j : Nat))) ∧ ∀ R, exSs (call fs (k + 12)) (b_law.drop 11) ε' = R → exSs (call fs (k + 12)) (b_law.drop 9) ε = R := by
  have fl := F_len c fee
  have hj : 0 ≤ cell ns 2 % ((F c fee).length : Int) ∧ cell ns 2 % ((F c fee).length : Int) < (F c fee).length := ⟨Int.emod_nonneg _ (by omega), Int.emod_lt_of_pos _ (by omega)⟩
  have hl := v.len
  refine ⟨(ε.set 9 (.f (.tuple ((F c fee).map .int)))).set 10 (.f (.int (((cell ns 2 % ((F c fee).length : Int)).toNat : Nat) : Int))), (cell ns 2 % ((F c fee).length : Int)).toNat, by omega, (v.set ⟨by omega, by omega⟩ _).set ⟨by omega, by omega⟩ _, ?_, ?_, ?_, ?_⟩
  · rw [List.getElem?_set_ne (by omega), List.getElem?_set_ne (by omega)]; exact e6
  · rw [List.getElem?_set_ne (by omega)]; exact List.getElem?_set_self (by omega)
  · exact List.getElem?_set_self (by rw [List.length_set]; omega)
  · rintro R rfl
    have c2 : call fs (k + 12) 26 [.list (ns.map .int), .int 2] = .ok (.int (cell ns 2)) := cell_ok (k + 11) ns 2
    have ln : biD .len [.tuple ((F c fee).map .int)] = .ok (.int (F c fee).length) := len_ints true (F c fee)
    have md := m1 (cell ns 2) (F c fee).length (by omega)
    have ej : cell ns 2 % ((F c fee).length : Int) = (((cell ns 2 % ((F c fee).length : Int)).toNat : Nat) : Int) := by omega
    rw [← ej]
    have nf := nm_ints (F c fee)
    have e0 := v.e0
    refine (exSs_nx (ε' := ε.set 9 (.f (.tuple ((F c fee).map .int)))) ?_).trans (exSs_nx ?_)
    · generalize (F c fee).map PyData.int = Fm at *
      simp (config := { implicitDefEqProofs := false }) [exSs, ev, evs, evi, evc, evo, tyIs, retv, noMut, noMuts, put, puto, wipeE, frzE, inTD, notD, negD, own, lstD, setD, intOf, isD, isNone, List.getElem?_set, -getElem?_pos, e7, bt, nf]
    · have e0' : (ε.set 9 (.f (.tuple ((F c fee).map .int))))[0]? = some (.f (.list (ns.map .int))) := by rw [List.getElem?_set_ne (by omega)]; exact e0
      have e9' : (ε.set 9 (.f (.tuple ((F c fee).map .int))))[9]? = some (.f (.tuple ((F c fee).map .int))) := List.getElem?_set_self (by omega)
      generalize ε.set 9 (.f (.tuple ((F c fee).map .int))) = E1 at *
      generalize PyData.tuple ((F c fee).map PyData.int) = Ft at *
      generalize PyData.list (ns.map PyData.int) = sc at *
      generalize cell ns 2 % ((F c fee).length : Int) = jj at *
      generalize ((F c fee).length : Int) = ln at *
      simp (config := { implicitDefEqProofs := false }) [exSs, ev, evs, evi, evc, evo, tyIs, retv, noMut, noMuts, put, puto, wipeE, frzE, inTD, notD, negD, own, lstD, setD, intOf, isD, isNone, List.getElem?_set, -getElem?_pos, e0', e9', c2, ln, md]
theorem st11 (hc : okC c) (hf : 0 ≤ fee ∧ fee ≤ 24) (ε : Env) (v : Vi sc (encC true c) (allR c) fee ε) (e6 : ε[6]? = some (.f (tE c fee (bG c fee)))) (e9 : ε[9]? = some (.f (.tuple ((F c fee).map .int)))) : ∀ R, exSs (call fs (k + 12)) (b_law.drop 12) ε = R → exSs (call fs (k + 12)) (b_law.drop 11) ε = R := by
  rintro R rfl
  refine exSs_nx ?_
  have e2 := v.e2
  have e4 := v.e4
  have fl := F_len c fee
  have i0 : idxD (tE c fee (bG c fee)) (.int 0) = .ok (.int (pr (K22.R c) c.length 0 (bG c fee) + fee * (((bG c fee).length : Int) + 1))) := rfl
  have f0 : idxD (.tuple ((F c fee).map .int)) (.int 0) = .ok (.int (pr (K22.R c) c.length 0 (bG c fee) + fee * (((bG c fee).length : Int) + 1))) := by
    have := idx_ints true (F c fee) 0 (by omega)
    rwa [F0 c fee hc] at this
  have ne := ne_self_int (pr (K22.R c) c.length 0 (bG c fee) + fee * (((bG c fee).length : Int) + 1))
  have fo : call fs (k + 12) 20 [encC true c, .int fee] = .ok (.tuple ((F c fee).map .int)) := floor_ok (k + 8) true c hc fee (by omega)
  have sa := same12 k 1 (by omega) (.tuple ((F c fee).map .int)) (sm_ints _ (by have := hc.2.1; omega))
  have li : call fs (k + 12) 27 [.tuple ((F c fee).map .int)] = .ok (encC false (F c fee)) := listed_curve (k + 10) (F c fee)
  have hold : call fs (k + 12) 21 [encC true c, .int fee, encC false (F c fee)] = .ok (.bool true) := floor_holds_ok (k + 8) true c hc fee (by omega) _ true (by
    have := same_ints (k + 8) false (F c fee) (F c fee) (by have := hc.2.1; omega)
    rwa [decide_eq_true rfl] at this)
  have nf : noMut (.tuple ((F c fee).map .int)) = true := nm_ints (F c fee)
  generalize encC false (F c fee) = Fl at *
  generalize PyData.tuple ((F c fee).map PyData.int) = Ft at *
  generalize tE c fee (bG c fee) = T0 at *
  generalize pr (K22.R c) c.length 0 (bG c fee) + fee * (((bG c fee).length : Int) + 1) = vv at *
  generalize encC true c = C at *
  simp (config := { implicitDefEqProofs := false }) [exSs, ev, evs, evi, evc, evo, tyIs, retv, noMut, noMuts, put, puto, wipeE, frzE, inTD, notD, negD, own, lstD, setD, intOf, isD, isNone, List.getElem?_set, -getElem?_pos, e2, e4, e6, e9, i0, f0, ne, fo, nf, sa, li, hold, isn_tt]
theorem cut_take {α : Type} (xs : List α) (j : Nat) : cutD xs none (some (j : Int)) = xs.take j := by
  unfold cutD HT.sIx
  simp only
  rw [if_neg (by omega), Int.toNat_natCast, List.drop_zero, Nat.sub_zero]
  rcases Nat.le_total j xs.length with h | h
  · rw [Nat.min_eq_left h]
  · rw [Nat.min_eq_right h, List.take_of_length_le (Nat.le_refl _), List.take_of_length_le h]
theorem cut_drop {α : Type} (xs : List α) (j : Nat) (h : j ≤ xs.length) : cutD xs (some (j : Int)) none = xs.drop j := by
  unfold cutD HT.sIx
  simp only
  rw [if_neg (by omega), Int.toNat_natCast, Nat.min_eq_left h, List.take_of_length_le (by rw [List.length_drop]; omega)]
end
end K22
end Ws

set_option Elab.async false
set_option linter.all false
set_option maxRecDepth 100000
set_option maxHeartbeats 400000
namespace Ws
namespace K22
open PySem
section
variable (k : Nat) (sc : D) (c : List Int) (fee : Int)
theorem wrong_ne (l : List Int) (j : Nat) (h : j < l.length) (a : Int) (ha : a ≠ l.getD j 0) : decide (l.take j ++ [a] ++ l.drop (j + 1) = l) = false := by
  refine decide_eq_false fun e => ha ?_
  have := congrArg (fun x => x.getD j 0) e
  have this : (l.take j ++ [a] ++ l.drop (j + 1)).getD j 0 = l.getD j 0 := this
  rw [← this]
  rw [List.append_assoc, List.getD_eq_getElem?_getD, List.getElem?_append_right (by rw [List.length_take]; omega), List.length_take, Nat.min_eq_left (by omega), Nat.sub_self]
  rfl
theorem fh (hc : okC c) (hf : 0 ≤ fee ∧ fee ≤ 24) (xs : List Int) (hx : decide (xs = F c fee) = false) : call fs (k + 12) 21 [encC true c, .int fee, .tuple (xs.map .int)] = .ok (.bool false) :=
  floor_holds_ok (k + 8) true c hc fee (by omega) _ false (by
    have := same_ints (k + 8) true xs (F c fee) (by have := F_len c fee; have := hc.2.1; omega)
    rwa [hx] at this)
theorem st12 (hc : okC c) (hf : 0 ≤ fee ∧ fee ≤ 24) (ε : Env) (v : Vi sc (encC true c) (allR c) fee ε) (e9 : ε[9]? = some (.f (.tuple ((F c fee).map .int)))) (j : Nat) (hj : j < (F c fee).length) (e10 : ε[10]? = some (.f (.int (j : Nat)))) : ∀ R, exSs (call fs (k + 12)) (b_law.drop 13) ε = R → exSs (call fs (k + 12)) (b_law.drop 12) ε = R := by
  rintro R rfl
  refine exSs_nx ?_
  have e2 := v.e2
  have e4 := v.e4
  have e19 := v.e19
  have l19 := eq_true (show 19 < ε.length by have := v.len; omega)
  have fl := F_len c fee
  have hn := hc.2.1
  have h1 := hc.1
  have fj := idx_ints true (F c fee) j hj
  have s1 : cutD ((F c fee).map PyData.int) (some 1) none = ((F c fee).drop 1).map .int := by
    have := cut_drop ((F c fee).map PyData.int) 1 (by rw [List.length_map]; omega)
    rw [List.map_drop]; exact this
  have s2 : cutD ((F c fee).map PyData.int) none (some (j : Int)) = ((F c fee).take j).map .int := by
    rw [cut_take, List.map_take]
  have s3 : cutD ((F c fee).map PyData.int) (some ((j : Int) + 1)) none = ((F c fee).drop (j + 1)).map .int := by
    have := cut_drop ((F c fee).map PyData.int) (j + 1) (by rw [List.length_map]; omega)
    rw [List.map_drop]; exact this
  have ad : ∀ xs ys : List Int, xs.length ≤ 100 → ys.length ≤ 100 → binD .add (.tuple (xs.map .int)) (.tuple (ys.map .int)) = .ok (.tuple ((xs ++ ys).map .int)) := fun xs ys hx hy => by
    show (if _ then _ else _) = _
    rw [if_pos (by rw [List.length_map, List.length_map]; show _ ≤ 16777216; omega), List.map_append]
  have a1 : ∀ a : Int, binD .add (.tuple (((F c fee).take j).map .int)) (.tuple [.int a]) = .ok (.tuple (((F c fee).take j ++ [a]).map .int)) := fun a => ad _ [a] (by rw [List.length_take]; omega) (Nat.le_of_ble_eq_true rfl)
  have a2 : ∀ a : Int, binD .add (.tuple (((F c fee).take j ++ [a]).map .int)) (.tuple (((F c fee).drop (j + 1)).map .int)) = .ok (.tuple (((F c fee).take j ++ [a] ++ (F c fee).drop (j + 1)).map .int)) := fun a => ad _ _ (by rw [List.length_append, List.length_take, List.length_singleton]; omega) (by rw [List.length_drop]; omega)
  have w1 : call fs (k + 12) 21 [encC true c, .int fee, .int 7] = .ok (.bool false) := floor_holds_ok (k + 8) true c hc fee (by omega) _ false (same_num (k + 8) 7 (F c fee))
  have w2 := fh k c fee hc hf ((F c fee).drop 1) (decide_eq_false fun e => by have := congrArg List.length e; rw [List.length_drop] at this; omega)
  have w3 := fh k c fee hc hf _ (wrong_ne (F c fee) j hj ((F c fee).getD j 0 + 1) (by omega))
  have w4 := fh k c fee hc hf _ (wrong_ne (F c fee) j hj ((F c fee).getD j 0 - 1) (by omega))
  have tt : cmpD .isn (.bool false) (.bool false) = .ok (.bool false) := rfl
  have sq4 : ∀ xs : List D, seqD (.list xs) = .ok xs := fun _ => rfl
  have sl : ∀ i j, sliD (.tuple ((F c fee).map .int)) i j = .ok (.tuple (cutD ((F c fee).map .int) i j)) := fun i j => sli_sq true _ i j
  have m3 := nm_ints ((F c fee).take j ++ [(F c fee).getD j 0 + 1] ++ (F c fee).drop (j + 1))
  have m4 := nm_ints ((F c fee).take j ++ [(F c fee).getD j 0 - 1] ++ (F c fee).drop (j + 1))
  have m2 := nm_ints ((F c fee).drop 1)
  have fj : idxD (.tuple ((F c fee).map .int)) (.int (j : Nat)) = .ok (.int ((F c fee).getD j 0)) := fj
  have g1 := (sl (some 1) none).trans (by rw [s1])
  have g2 := (sl none (some (j : Int))).trans (by rw [s2])
  have g3 := (sl (some ((j : Int) + 1)) none).trans (by rw [s3])
  have p1 := a1 ((F c fee).getD j 0 + 1)
  have p2 := a2 ((F c fee).getD j 0 + 1)
  have q1 := a1 ((F c fee).getD j 0 - 1)
  have q2 := a2 ((F c fee).getD j 0 - 1)
  clear a1 a2 ad s1 s2 s3 sl
  have m2 : noMut (.tuple (((F c fee).drop 1).map .int)) = true := m2
  have m3 : noMut (.tuple (((F c fee).take j ++ [(F c fee).getD j 0 + 1] ++ (F c fee).drop (j + 1)).map .int)) = true := m3
  have m4 : noMut (.tuple (((F c fee).take j ++ [(F c fee).getD j 0 - 1] ++ (F c fee).drop (j + 1)).map .int)) = true := m4
  generalize PyData.tuple (((F c fee).take j ++ [(F c fee).getD j 0 + 1] ++ (F c fee).drop (j + 1)).map .int) = W3 at *
  generalize PyData.tuple (((F c fee).take j ++ [(F c fee).getD j 0 - 1] ++ (F c fee).drop (j + 1)).map .int) = W4 at *
  generalize PyData.tuple (((F c fee).take j ++ [(F c fee).getD j 0 + 1]).map .int) = M3 at *
  generalize PyData.tuple (((F c fee).take j ++ [(F c fee).getD j 0 - 1]).map .int) = M4 at *
  generalize PyData.tuple (((F c fee).drop 1).map .int) = W2 at *
  generalize PyData.tuple (((F c fee).take j).map .int) = TK at *
  generalize PyData.tuple (((F c fee).drop (j + 1)).map .int) = DR at *
  generalize PyData.tuple ((F c fee).map .int) = Ft at *
  generalize (F c fee).getD j 0 = g at *
  generalize encC true c = C at *
  have nn : cmpD .ne (.list []) (.list []) = .ok (.bool false) := rfl
  simp (config := { implicitDefEqProofs := false }) [exSs, ev, evs, evi, evc, evo, tyIs, retv, noMut, noMuts, put, puto, wipeE, frzE, inTD, notD, negD, own, lstD, setD, intOf, isD, isNone, List.getElem?_set, -getElem?_pos, e2, e4, e9, e10, e19, l19, fj, g1, g2, g3, qa, qs, p1, p2, q1, q2, sq4, lcL, w1, w2, w3, w4, tt, nn]
theorem lp11 (hc : okC c) (ε : Env) (v : Vi sc (encC true c) (allR c) fee ε) : ∃ ε', Vi sc (encC true c) (allR c) fee ε' ∧ ∀ R, exSs (call fs (k + 12)) (b_law.drop 14) ε' = R → exSs (call fs (k + 12)) (b_law.drop 13) ε = R := by
  obtain ⟨ε', v', e⟩ := exFor_all (enc := fun d : Nat => PyData.int (d : Nat)) (step := forStep (call fs (k + 12)) (.nm 11) b_law_f3) (I := Vi sc (encC true c) (allR c) fee) (l := List.range 3) (ε := ε) v fun d hd ε i => by
    have := List.mem_range.mp hd
    exact lf3 k sc c fee hc ε i d (by omega)
  refine ⟨ε', v', ?_⟩
  rintro R rfl
  refine exSs_nx ?_
  have hr : rngD 0 3 = .ok ((List.range 3).map fun d : Nat => PyData.int (d : Nat)) := by rfl
  generalize encC true c = C at *
  generalize allR c = E at *
  simp (config := { implicitDefEqProofs := false }) [exSs, ev, evs, evi, evc, evo, tyIs, retv, noMut, noMuts, put, puto, wipeE, frzE, inTD, notD, negD, own, lstD, setD, intOf, isD, isNone, List.getElem?_set, -getElem?_pos, hr, e]
theorem nm_natL : ∀ l : List Nat, noMuts (natL l) = true
  | [] => rfl
  | _ :: l => nm_natL l
theorem sm_natL (l : List Nat) (h : l.length ≤ 1000) : sm 1 (.tuple (natL l)) = true := by
  show (decide ((natL l).length ≤ 1000) && (natL l).all (sm 0)) = true
  rw [decide_eq_true (by unfold natL; rw [List.length_map]; exact h), Bool.true_and, List.all_eq_true]
  intro x hx
  obtain ⟨d, _, rfl⟩ := List.mem_map.mp hx
  rfl
theorem st14 (hc : okC c) (ε : Env) (v : Vi sc (encC true c) (allR c) fee ε) : ∀ R, exSs (call fs (k + 12)) (b_law.drop 15) ε = R → exSs (call fs (k + 12)) (b_law.drop 14) ε = R := by
  rintro R rfl
  refine exSs_nx ?_
  have e2 := v.e2
  have h16 := hc.2.1
  have ln : biD .len [encC true c] = .ok (.int c.length) := len_ints true c
  have to : call fs (k + 12) 23 [encC true c] = .ok (.tuple (natL (topsF (xc c) c.length))) := tops_ok (k + 8) true c hc
  rw [tops_eq hc.1] at to
  have lt : call fs (k + 12) 36 [encC true c] = .ok (.list (natL (lawTops (xc c) c.length))) := law_tops_ok (k + 11) c hc.2.1
  have hl : (lawTops (xc c) c.length).length ≤ 1000 := by
    unfold lawTops
    have := List.length_filter_le (lawP (xc c) c.length) (List.range c.length)
    rw [List.length_range] at this; omega
  have sa := same12 k 1 (by omega) _ (sm_natL _ hl)
  have nm := nm_natL (lawTops (xc c) c.length)
  generalize natL (lawTops (xc c) c.length) = T at *
  generalize encC true c = C at *
  by_cases h : 1 < c.length
  · have gt : cmpD .gt (.int (c.length : Nat)) (.int 1) = .ok (.bool true) := by rw [cmp_gt, decide_eq_true (by omega)]
    simp (config := { implicitDefEqProofs := false }) [exSs, ev, evs, evi, evc, evo, tyIs, retv, noMut, noMuts, put, puto, wipeE, frzE, inTD, notD, negD, own, lstD, setD, intOf, isD, isNone, List.getElem?_set, -getElem?_pos, e2, ln, gt, to, lt, sa, nm, bt]
  · have gt : cmpD .gt (.int (c.length : Nat)) (.int 1) = .ok (.bool false) := by rw [cmp_gt, decide_eq_false (by omega)]
    simp (config := { implicitDefEqProofs := false }) [exSs, ev, evs, evi, evc, evo, tyIs, retv, noMut, noMuts, put, puto, wipeE, frzE, inTD, notD, negD, own, lstD, setD, intOf, isD, isNone, List.getElem?_set, -getElem?_pos, e2, ln, gt, to, lt, sa, nm, bt]
theorem lp15 (hc : okC c) (ε : Env) (v : Vi sc (encC true c) (allR c) fee ε) : ∃ ε', Vi sc (encC true c) (allR c) fee ε' ∧ ∀ R, exSs (call fs (k + 12)) (b_law.drop 16) ε' = R → exSs (call fs (k + 12)) (b_law.drop 15) ε = R := by
  obtain ⟨ε', v', e⟩ := exFor_all (enc := fun d : Int => PyData.int d) (step := forStep (call fs (k + 12)) (.nm 12) b_law_f4) (I := Vi sc (encC true c) (allR c) fee) (l := [1, 3, 8]) (ε := ε) v fun d hd ε i => by
    have h1 : 1 ≤ d := by
      rcases List.mem_cons.mp hd with rfl | hd
      · decide
      · rcases List.mem_cons.mp hd with rfl | hd
        · decide
        · rcases List.mem_cons.mp hd with rfl | hd
          · decide
          · cases hd
    exact ⟨_, i.set ⟨by omega, by omega⟩ _, lf4 k sc c fee hc ε i d h1⟩
  refine ⟨ε', v', ?_⟩
  rintro R rfl
  refine exSs_nx ?_
  have sq3 : seqD (.tuple [.int 1, .int 3, .int 8]) = .ok [PyData.int 1, .int 3, .int 8] := rfl
  have e : exFor (forStep (call fs (k + 12)) (.nm 12) b_law_f4) [PyData.int 1, .int 3, .int 8] ε = .ok (.nx, ε') := e
  generalize encC true c = C at *
  generalize allR c = E at *
  simp (config := { implicitDefEqProofs := false }) [exSs, ev, evs, evi, evc, evo, tyIs, retv, noMut, noMuts, put, puto, wipeE, frzE, inTD, notD, negD, own, lstD, setD, intOf, isD, isNone, List.getElem?_set, -getElem?_pos, sq3, e]
theorem fin (hc : okC c) (ns : List Int) (ε : Env) (v : Vi (.list (ns.map .int)) (encC true c) (allR c) fee ε) : ∃ ε', exSs (call fs (k + 12)) (b_law.drop 16) ε = .ok (.rt (.bool true), ε') := by
  have c3 : call fs (k + 12) 26 [.list (ns.map .int), .int 3] = .ok (.int (cell ns 3)) := cell_ok (k + 11) ns 3
  have cc := cv_call k (cell ns 3 % 1000000)
  obtain ⟨hd, h8⟩ := cv_ok (cell ns 3 % 1000000)
  have li : call fs (k + 12) 27 [encC true (cv (cell ns 3 % 1000000))] = .ok (encC false (cv (cell ns 3 % 1000000))) := listed_curve (k + 10) _
  have sh : call fs (k + 12) 25 [encC true c, encC false (cv (cell ns 3 % 1000000))] = .ok (resD (L1.foldl (prgStep (score c (cv (cell ns 3 % 1000000)))) none)) := shifted_ok (k + 7) true false c _ hc hd
  rw [shifts_eq] at sh
  have ls : call fs (k + 12) 37 [encC true c, encC true (cv (cell ns 3 % 1000000))] = .ok (resD (L2.foldl (lawStep (score c (cv (cell ns 3 % 1000000)))) none)) := law_shifts_ok (k + 9) c _ hc hd
  generalize L2.foldl (lawStep (score c (cv (cell ns 3 % 1000000)))) none = r at *
  have sr : sm 2 (resD r) = true ∧ noMut (resD r) = true := by
    cases r with
    | none => exact ⟨rfl, rfl⟩
    | some p => exact ⟨rfl, rfl⟩
  have sa := same12 k 2 (by omega) _ sr.1
  have nr := sr.2
  have nc := nm_curve (cv (cell ns 3 % 1000000))
  generalize cv (cell ns 3 % 1000000) = d at *
  generalize hm : cell ns 3 % 1000000 = m at *
  have e0 := v.e0
  have e2 := v.e2
  have hl := v.len
  refine ⟨(ε.set 13 (.f (.int m))).set 14 (.f (encC true d)), ?_⟩
  refine (exSs_nx (ε' := ε.set 13 (.f (.int m))) ?_).trans ((exSs_nx (ε' := (ε.set 13 (.f (.int m))).set 14 (.f (encC true d))) ?_).trans ?_)
  · simp (config := { implicitDefEqProofs := false }) [exSs, ev, evs, evi, evc, evo, tyIs, retv, noMut, noMuts, put, puto, wipeE, frzE, inTD, notD, negD, own, lstD, setD, intOf, isD, isNone, List.getElem?_set, -getElem?_pos, e0, c3, pow6, m1, hm]
  · have e13 : (ε.set 13 (.f (.int m)))[13]? = some (.f (.int m)) := List.getElem?_set_self (by omega)
    generalize ε.set 13 (.f (.int m)) = E1 at *
    generalize encC true d = Dd at *
    simp (config := { implicitDefEqProofs := false }) [exSs, ev, evs, evi, evc, evo, tyIs, retv, noMut, noMuts, put, puto, wipeE, frzE, inTD, notD, negD, own, lstD, setD, intOf, isD, isNone, List.getElem?_set, -getElem?_pos, e13, m1, qa, cc, nc]
  · have e14 : ((ε.set 13 (.f (.int m))).set 14 (.f (encC true d)))[14]? = some (.f (encC true d)) := List.getElem?_set_self (by rw [List.length_set]; omega)
    have e2' : ((ε.set 13 (.f (.int m))).set 14 (.f (encC true d)))[2]? = some (.f (encC true c)) := by rw [List.getElem?_set_ne (by omega), List.getElem?_set_ne (by omega)]; exact e2
    generalize (ε.set 13 (.f (.int m))).set 14 (.f (encC true d)) = E1 at *
    generalize encC true d = Dd at *
    generalize encC false d = Df at *
    generalize encC true c = C at *
    generalize resD r = RR at *
    simp (config := { implicitDefEqProofs := false }) [exSs, ev, evs, evi, evc, evo, tyIs, retv, noMut, noMuts, put, puto, wipeE, frzE, inTD, notD, negD, own, lstD, setD, intOf, isD, isNone, List.getElem?_set, -getElem?_pos, b_law, e14, e2', li, sh, ls, sa, nr]
end
theorem law_ok (k : Nat) (ns : List Int) : call fs (k + 13) 38 [.list (ns.map .int)] = .ok (.bool true) := by
  rw [call_at at_law rfl]
  show (exSs (call fs (k + 12)) b_law _).bnd retv = _
  suffices hh : ∃ ε', exSs (call fs (k + 12)) b_law ([.f (.list (ns.map .int))] ++ List.replicate 21 .u) = .ok (.rt (.bool true), ε') by
    obtain ⟨ε', e⟩ := hh
    show (exSs (call fs (k + 12)) b_law ([.f (.list (ns.map .int))] ++ List.replicate 21 .u)).bnd retv = _
    rw [e]; rfl
  obtain ⟨ε0, v0, x0⟩ := start k ns
  obtain ⟨hc, h8⟩ := cv_ok (cell ns 0 % 1000000)
  have hf : 0 ≤ cell ns 1 % 25 ∧ cell ns 1 % 25 ≤ 24 := by omega
  generalize cv (cell ns 0 % 1000000) = c at *
  generalize cell ns 1 % 25 = fee at *
  obtain ⟨ε1, v1, x1⟩ := lp0 k _ c fee hc h8 ε0 v0
  have x2 := as6 k _ c fee hc h8 ε1 v1 hf
  have v2 : Vi (.list (ns.map .int)) (encC true c) (allR c) fee (ε1.set 6 (.f (tE c fee (bG c fee)))) := v1.set ⟨by omega, by omega⟩ _
  have e6 : (ε1.set 6 (.f (tE c fee (bG c fee))))[6]? = some (.f (tE c fee (bG c fee))) := List.getElem?_set_self (by have := v1.len; omega)
  have x3 := st6 k _ c fee hc hf _ v2 e6
  obtain ⟨ε3, v3, e63, e73, x4⟩ := lp1 k _ c fee hc _ v2 e6
  obtain ⟨ε4, j, hj, v4, e64, e94, e104, x5⟩ := st9 k c fee hc ε3 ns v3 e63 e73
  have x6 := st11 k _ c fee hc hf ε4 v4 e64 e94
  have x7 := st12 k _ c fee hc hf ε4 v4 e94 j hj e104
  obtain ⟨ε5, v5, x8⟩ := lp11 k _ c fee hc ε4 v4
  have x9 := st14 k _ c fee hc ε5 v5
  obtain ⟨ε6, v6, x10⟩ := lp15 k _ c fee hc ε5 v5
  obtain ⟨ε7, x11⟩ := fin k c fee hc ns ε6 v6
  have y := x4 _ (x5 _ (x6 _ (x7 _ (x8 _ (x9 _ (x10 _ x11))))))
  have y6 := x3 _ y
  refine ⟨ε7, x0 _ ?_⟩
  exact (exSs_nx x1).trans ((exSs_nx x2).trans y6)
end K22
end Ws

set_option Elab.async false
set_option linter.all false
set_option maxRecDepth 100000
set_option maxHeartbeats 0
namespace Hd
open PySem PySem.Spec PyProof.Rows L2 Ws
abbrev Pg : Program := PySem.Challenge.pw_wellstell_k22_curves_cut_and_smoothed
def top (i : Nat) : Stmt := Pg.main.body.getD i (.Pass ⟨0, 0, 0, 0⟩)
def r0 : DRow := ⟨"need", top 5, [("good" : PySem.Str), ("at" : PySem.Str)], [("good" : PySem.Str), ("at" : PySem.Str)], Ws.K22.b_need⟩
def r1 : DRow := ⟨"is_integer", top 6, [("value" : PySem.Str)], [("value" : PySem.Str)], Ws.K22.b_is_integer⟩
def r2 : DRow := ⟨"is_between", top 7, [("value" : PySem.Str), ("low" : PySem.Str), ("high" : PySem.Str)], [("value" : PySem.Str), ("low" : PySem.Str), ("high" : PySem.Str)], Ws.K22.b_is_between⟩
def r3 : DRow := ⟨"is_sequence", top 8, [("value" : PySem.Str)], [("value" : PySem.Str)], Ws.K22.b_is_sequence⟩
def r4 : DRow := ⟨"is_row", top 9, [("value" : PySem.Str), ("low" : PySem.Str), ("high" : PySem.Str)], [("value" : PySem.Str), ("low" : PySem.Str), ("high" : PySem.Str)], Ws.K22.b_is_row⟩
def r5 : DRow := ⟨"tupled", top 10, [("value" : PySem.Str), ("member" : PySem.Str)], [("value" : PySem.Str)], Ws.K22.b_tupled⟩
def r6 : DRow := ⟨"same", top 11, [("value" : PySem.Str), ("due" : PySem.Str), ("k" : PySem.Str)], [("value" : PySem.Str), ("due" : PySem.Str)], Ws.K22.b_same⟩
def r7 : DRow := ⟨"ratio", top 13, [("above" : PySem.Str), ("below" : PySem.Str), ("common" : PySem.Str)], [("above" : PySem.Str), ("below" : PySem.Str)], Ws.K22.b_ratio⟩
def r8 : DRow := ⟨"less", top 14, [("one" : PySem.Str), ("other" : PySem.Str)], [("one" : PySem.Str), ("other" : PySem.Str)], Ws.K22.b_less⟩
def r9 : DRow := ⟨"is_curve", top 21, [("value" : PySem.Str), ("reading" : PySem.Str)], [("value" : PySem.Str)], Ws.K22.b_is_curve⟩
def r10 : DRow := ⟨"pair_of", top 22, [("one" : PySem.Str), ("other" : PySem.Str)], [("one" : PySem.Str), ("other" : PySem.Str)], Ws.K22.b_pair_of⟩
def r11 : DRow := ⟨"gap", top 23, [("one" : PySem.Str), ("other" : PySem.Str), ("i" : PySem.Str), ("j" : PySem.Str)], [("one" : PySem.Str), ("other" : PySem.Str), ("i" : PySem.Str), ("j" : PySem.Str)], Ws.K22.b_gap⟩
def r12 : DRow := ⟨"middle_reading", top 24, [("readings" : PySem.Str)], [("readings" : PySem.Str)], Ws.K22.b_middle_reading⟩
def r13 : DRow := ⟨"roughness", top 25, [("curve" : PySem.Str), ("begin" : PySem.Str), ("end" : PySem.Str), ("middle_one" : PySem.Str), ("reading" : PySem.Str)], [("curve" : PySem.Str), ("begin" : PySem.Str), ("end" : PySem.Str)], Ws.K22.b_roughness⟩
def r14 : DRow := ⟨"least_rough", top 26, [("curve" : PySem.Str), ("many" : PySem.Str), ("end" : PySem.Str), ("rows" : PySem.Str), ("number" : PySem.Str), ("row" : PySem.Str), ("place" : PySem.Str), ("told" : PySem.Str), ("after" : PySem.Str)], [("curve" : PySem.Str), ("many" : PySem.Str)], Ws.K22.b_least_rough⟩
def r15 : DRow := ⟨"first_cut", top 27, [("curve" : PySem.Str), ("many" : PySem.Str), ("rows" : PySem.Str), ("told" : PySem.Str), ("place" : PySem.Str), ("number" : PySem.Str), ("after" : PySem.Str)], [("curve" : PySem.Str), ("many" : PySem.Str)], Ws.K22.b_first_cut⟩
def r16 : DRow := ⟨"is_least_step", top 28, [("curve" : PySem.Str), ("rows" : PySem.Str), ("number" : PySem.Str), ("place" : PySem.Str), ("after" : PySem.Str)], [("curve" : PySem.Str), ("rows" : PySem.Str), ("number" : PySem.Str), ("place" : PySem.Str), ("after" : PySem.Str)], Ws.K22.b_is_least_step⟩
def r17 : DRow := ⟨"stretches", top 29, [("curve" : PySem.Str), ("many" : PySem.Str)], [("curve" : PySem.Str), ("many" : PySem.Str)], Ws.K22.b_stretches⟩
def r18 : DRow := ⟨"best_cut", top 30, [("curve" : PySem.Str), ("fee" : PySem.Str), ("rows" : PySem.Str), ("best_many" : PySem.Str), ("many" : PySem.Str)], [("curve" : PySem.Str), ("fee" : PySem.Str)], Ws.K22.b_best_cut⟩
def r19 : DRow := ⟨"floor_of", top 31, [("curve" : PySem.Str), ("fee" : PySem.Str), ("told" : PySem.Str), ("place" : PySem.Str), ("costs" : PySem.Str), ("after" : PySem.Str)], [("curve" : PySem.Str), ("fee" : PySem.Str)], Ws.K22.b_floor_of⟩
def r20 : DRow := ⟨"floor", top 32, [("curve" : PySem.Str), ("fee" : PySem.Str)], [("curve" : PySem.Str), ("fee" : PySem.Str)], Ws.K22.b_floor⟩
def r21 : DRow := ⟨"floor_holds", top 33, [("curve" : PySem.Str), ("fee" : PySem.Str), ("value" : PySem.Str)], [("curve" : PySem.Str), ("fee" : PySem.Str), ("value" : PySem.Str)], Ws.K22.b_floor_holds⟩
def r22 : DRow := ⟨"smooth", top 34, [("curve" : PySem.Str), ("w" : PySem.Str), ("k" : PySem.Str)], [("curve" : PySem.Str), ("w" : PySem.Str)], Ws.K22.b_smooth⟩
def r23 : DRow := ⟨"tops", top 35, [("curve" : PySem.Str), ("begins" : PySem.Str), ("told" : PySem.Str), ("k" : PySem.Str), ("above_last" : PySem.Str), ("above_next" : PySem.Str)], [("curve" : PySem.Str)], Ws.K22.b_tops⟩
def r24 : DRow := ⟨"steps", top 36, [("curve" : PySem.Str), ("least" : PySem.Str), ("k" : PySem.Str)], [("curve" : PySem.Str), ("least" : PySem.Str)], Ws.K22.b_steps⟩
def r25 : DRow := ⟨"shifted", top 37, [("one" : PySem.Str), ("other" : PySem.Str), ("size" : PySem.Str), ("best_shift" : PySem.Str), ("best_mean" : PySem.Str), ("shift" : PySem.Str), ("beside" : PySem.Str), ("mean" : PySem.Str), ("j" : PySem.Str)], [("one" : PySem.Str), ("other" : PySem.Str)], Ws.K22.b_shifted⟩
def r26 : DRow := ⟨"_law_cell", top 39, [("script" : PySem.Str), ("spot" : PySem.Str)], [("script" : PySem.Str), ("spot" : PySem.Str)], Ws.K22.b__law_cell⟩
def r27 : DRow := ⟨"_law_listed", top 40, [("value" : PySem.Str), ("one" : PySem.Str)], [("value" : PySem.Str)], Ws.K22.b__law_listed⟩
def r28 : DRow := ⟨"_law_same", top 41, [("one" : PySem.Str), ("other" : PySem.Str), ("k" : PySem.Str)], [("one" : PySem.Str), ("other" : PySem.Str)], Ws.K22.b__law_same⟩
def r29 : DRow := ⟨"_law_gcd", top 42, [("one" : PySem.Str), ("other" : PySem.Str), ("k" : PySem.Str)], [("one" : PySem.Str), ("other" : PySem.Str)], Ws.K22.b__law_gcd⟩
def r30 : DRow := ⟨"_law_frac", top 43, [("up" : PySem.Str), ("low" : PySem.Str), ("common" : PySem.Str)], [("up" : PySem.Str), ("low" : PySem.Str)], Ws.K22.b__law_frac⟩
def r31 : DRow := ⟨"_law_less", top 44, [("one" : PySem.Str), ("other" : PySem.Str)], [("one" : PySem.Str), ("other" : PySem.Str)], Ws.K22.b__law_less⟩
def r32 : DRow := ⟨"_law_curve", top 45, [("n" : PySem.Str), ("size" : PySem.Str), ("found" : PySem.Str), ("k" : PySem.Str)], [("n" : PySem.Str), ("size" : PySem.Str)], Ws.K22.b__law_curve⟩
def r33 : DRow := ⟨"_law_rough", top 46, [("values" : PySem.Str), ("ordered" : PySem.Str), ("middle" : PySem.Str), ("value" : PySem.Str)], [("values" : PySem.Str)], Ws.K22.b__law_rough⟩
def r34 : DRow := ⟨"_law_cuts", top 47, [("size" : PySem.Str), ("rows" : PySem.Str), ("k" : PySem.Str), ("row" : PySem.Str)], [("size" : PySem.Str)], Ws.K22.b__law_cuts⟩
def r35 : DRow := ⟨"_law_price", top 48, [("curve" : PySem.Str), ("row" : PySem.Str), ("edges" : PySem.Str), ("k" : PySem.Str)], [("curve" : PySem.Str), ("row" : PySem.Str)], Ws.K22.b__law_price⟩
def r36 : DRow := ⟨"_law_tops", top 49, [("curve" : PySem.Str), ("found" : PySem.Str), ("k" : PySem.Str), ("last" : PySem.Str), ("j" : PySem.Str), ("first" : PySem.Str), ("below" : PySem.Str), ("value" : PySem.Str)], [("curve" : PySem.Str)], Ws.K22.b__law_tops⟩
def r37 : DRow := ⟨"_law_shifts", top 50, [("one" : PySem.Str), ("other" : PySem.Str), ("best" : PySem.Str), ("shorter" : PySem.Str), ("shift" : PySem.Str), ("pairs" : PySem.Str), ("mean" : PySem.Str), ("k" : PySem.Str), ("a" : PySem.Str), ("b" : PySem.Str)], [("one" : PySem.Str), ("other" : PySem.Str)], Ws.K22.b__law_shifts⟩
def r38 : DRow := ⟨"law", top 51, [("script" : PySem.Str), ("n" : PySem.Str), ("curve" : PySem.Str), ("every" : PySem.Str), ("fee" : PySem.Str), ("size" : PySem.Str), ("best" : PySem.Str), ("ground" : PySem.Str), ("turn" : PySem.Str), ("due" : PySem.Str), ("k" : PySem.Str), ("w" : PySem.Str), ("least" : PySem.Str), ("m" : PySem.Str), ("other" : PySem.Str), ("rows" : PySem.Str), ("first" : PySem.Str), ("made" : PySem.Str), ("near" : PySem.Str), ("wrong" : PySem.Str), ("row" : PySem.Str), ("last" : PySem.Str)], [("script" : PySem.Str)], Ws.K22.b_law⟩
def rows : List DRow := [r0, r1, r2, r3, r4, r5, r6, r7, r8, r9, r10, r11, r12, r13, r14, r15, r16, r17, r18, r19, r20, r21, r22, r23, r24, r25, r26, r27, r28, r29, r30, r31, r32, r33, r34, r35, r36, r37, r38]
def c0 : Cfg := ⟨[], [("need" : PySem.Str), ("is_integer" : PySem.Str), ("is_between" : PySem.Str), ("is_sequence" : PySem.Str), ("is_row" : PySem.Str), ("tupled" : PySem.Str), ("same" : PySem.Str), ("ratio" : PySem.Str), ("less" : PySem.Str), ("is_curve" : PySem.Str), ("pair_of" : PySem.Str), ("gap" : PySem.Str), ("middle_reading" : PySem.Str), ("roughness" : PySem.Str), ("least_rough" : PySem.Str), ("first_cut" : PySem.Str), ("is_least_step" : PySem.Str), ("stretches" : PySem.Str), ("best_cut" : PySem.Str), ("floor_of" : PySem.Str), ("floor" : PySem.Str), ("floor_holds" : PySem.Str), ("smooth" : PySem.Str), ("tops" : PySem.Str), ("steps" : PySem.Str), ("shifted" : PySem.Str), ("_law_cell" : PySem.Str), ("_law_listed" : PySem.Str), ("_law_same" : PySem.Str), ("_law_gcd" : PySem.Str), ("_law_frac" : PySem.Str), ("_law_less" : PySem.Str), ("_law_curve" : PySem.Str), ("_law_rough" : PySem.Str), ("_law_cuts" : PySem.Str), ("_law_price" : PySem.Str), ("_law_tops" : PySem.Str), ("_law_shifts" : PySem.Str), ("law" : PySem.Str)], [(("MOST_READINGS" : PySem.Str), (.int (16))), (("GREATEST_READING" : PySem.Str), (.int (999))), (("GREATEST_FEE" : PySem.Str), (.int (9999))), (("FARTHEST_SHIFT" : PySem.Str), (.int (5))), (("WIDEST_SMOOTHING" : PySem.Str), (.int (5)))], [("abs" : PySem.Str), ("all" : PySem.Str), ("bool" : PySem.Str), ("int" : PySem.Str), ("isinstance" : PySem.Str), ("len" : PySem.Str), ("list" : PySem.Str), ("max" : PySem.Str), ("min" : PySem.Str), ("range" : PySem.Str), ("sorted" : PySem.Str), ("str" : PySem.Str), ("sum" : PySem.Str), ("tuple" : PySem.Str)], [("need" : PySem.Str), ("is_integer" : PySem.Str), ("is_between" : PySem.Str), ("is_sequence" : PySem.Str), ("is_row" : PySem.Str), ("tupled" : PySem.Str), ("same" : PySem.Str), ("ratio" : PySem.Str), ("less" : PySem.Str), ("is_curve" : PySem.Str), ("pair_of" : PySem.Str), ("gap" : PySem.Str), ("middle_reading" : PySem.Str), ("roughness" : PySem.Str), ("first_cut" : PySem.Str), ("is_least_step" : PySem.Str), ("stretches" : PySem.Str), ("best_cut" : PySem.Str), ("floor_of" : PySem.Str), ("floor" : PySem.Str), ("floor_holds" : PySem.Str), ("smooth" : PySem.Str), ("tops" : PySem.Str), ("steps" : PySem.Str), ("shifted" : PySem.Str), ("_law_cell" : PySem.Str), ("_law_same" : PySem.Str), ("_law_gcd" : PySem.Str), ("_law_frac" : PySem.Str), ("_law_less" : PySem.Str), ("_law_curve" : PySem.Str), ("_law_rough" : PySem.Str), ("_law_price" : PySem.Str), ("_law_shifts" : PySem.Str)], true, []⟩
def fa : List He.Fa := ([.glo "need", .glo "is_integer", .glo "is_between", .glo "is_sequence", .glo "is_row", .glo "tupled", .glo "same", .glo "ratio", .glo "less", .glo "is_curve", .glo "pair_of", .glo "gap", .glo "middle_reading", .glo "roughness", .glo "least_rough", .glo "first_cut", .glo "is_least_step", .glo "stretches", .glo "best_cut", .glo "floor_of", .glo "floor", .glo "floor_holds", .glo "smooth", .glo "tops", .glo "steps", .glo "shifted", .glo "_law_cell", .glo "_law_listed", .glo "_law_same", .glo "_law_gcd"] : List He.Fa) ++ ([.glo "_law_frac", .glo "_law_less", .glo "_law_curve", .glo "_law_rough", .glo "_law_cuts", .glo "_law_price", .glo "_law_tops", .glo "_law_shifts", .glo "law", .free "Exception", .free "abs", .free "all", .free "bool", .free "int", .free "isinstance", .free "len", .free "list", .free "max", .free "min", .free "range", .free "sorted", .free "str", .free "sum", .free "tuple"] : List He.Fa)
def loose : List PySem.Str := (["WellError", "BadValue", "need", "is_integer", "is_between", "is_sequence", "is_row", "tupled", "same", "ratio", "less", "MOST_READINGS", "GREATEST_READING", "GREATEST_FEE", "FARTHEST_SHIFT", "WIDEST_SMOOTHING", "is_curve", "pair_of", "gap", "middle_reading", "roughness", "least_rough", "first_cut", "is_least_step", "stretches", "best_cut", "floor_of", "floor", "floor_holds", "smooth"] : List PySem.Str) ++ (["tops", "steps", "shifted", "_law_cell", "_law_listed", "_law_same", "_law_gcd", "_law_frac", "_law_less", "_law_curve", "_law_rough", "_law_cuts", "_law_price", "_law_tops", "_law_shifts"] : List PySem.Str)
abbrev R : PySem.W.OpenRow := PySem.W.OpenLaw.row PySem.Challenge.rw_wellstell_k22_curves_cut_and_smoothed
def tb : List He.Tab := []
def ex (K : PySem.W.Frag) : Bool := csB K c0.cs && He.eqO (PySem.W.nsIn K mainGlobals "gcd") (some (some (.builtin "math.gcd")))
abbrev hk : PySem.W.Hook := He.hookX 4 fa (rows.map DRow.dd) tb [] ex
def ob (s : PySem.W.SharedT) : He.AlX := He.obsX 4 fa (rows.map DRow.dd) tb [] ex (HandSHeadRun.getT s)
theorem ob_eq (s : PySem.W.SharedT) : ob s = hk.obs s.abs := He.obsX_eq (HandSHeadRun.getT_eq s)
theorem run (w : World) : HandSHeadRun.RunEqI R (PySem.W.view R.prog [0, 51]) hk ob 4000 loose w := by
  unfold HandSHeadRun.RunEqI
  kernel_rfl
theorem ok0 : DRowOk c0 r0 := ⟨⟨rfl, rfl, rfl, by decide +kernel, rfl, by decide +kernel, by decide +kernel⟩, fun _ _ _ _ _ _ us hl => match us, hl with | [_, _], _ => rfl, by kernel_rfl⟩
theorem ok1 : DRowOk c0 r1 := ⟨⟨rfl, rfl, rfl, by decide +kernel, rfl, by decide +kernel, by decide +kernel⟩, fun _ _ _ _ _ _ us hl => match us, hl with | [_], _ => rfl, by kernel_rfl⟩
theorem ok2 : DRowOk c0 r2 := ⟨⟨rfl, rfl, rfl, by decide +kernel, rfl, by decide +kernel, by decide +kernel⟩, fun _ _ _ _ _ _ us hl => match us, hl with | [_, _, _], _ => rfl, by kernel_rfl⟩
theorem ok3 : DRowOk c0 r3 := ⟨⟨rfl, rfl, rfl, by decide +kernel, rfl, by decide +kernel, by decide +kernel⟩, fun _ _ _ _ _ _ us hl => match us, hl with | [_], _ => rfl, by kernel_rfl⟩
theorem ok4 : DRowOk c0 r4 := ⟨⟨rfl, rfl, rfl, by decide +kernel, rfl, by decide +kernel, by decide +kernel⟩, fun _ _ _ _ _ _ us hl => match us, hl with | [_, _, _], _ => rfl, by kernel_rfl⟩
theorem ok5 : DRowOk c0 r5 := ⟨⟨rfl, rfl, rfl, by decide +kernel, rfl, by decide +kernel, by decide +kernel⟩, fun _ _ _ _ _ _ us hl => match us, hl with | [_], _ => rfl, by kernel_rfl⟩
theorem ok6 : DRowOk c0 r6 := ⟨⟨rfl, rfl, rfl, by decide +kernel, rfl, by decide +kernel, by decide +kernel⟩, fun _ _ _ _ _ _ us hl => match us, hl with | [_, _], _ => rfl, by kernel_rfl⟩
theorem ok7 : DRowOk c0 r7 := ⟨⟨rfl, rfl, rfl, by decide +kernel, rfl, by decide +kernel, by decide +kernel⟩, fun _ _ _ _ _ _ us hl => match us, hl with | [_, _], _ => rfl, by kernel_rfl⟩
theorem ok8 : DRowOk c0 r8 := ⟨⟨rfl, rfl, rfl, by decide +kernel, rfl, by decide +kernel, by decide +kernel⟩, fun _ _ _ _ _ _ us hl => match us, hl with | [_, _], _ => rfl, by kernel_rfl⟩
theorem ok9 : DRowOk c0 r9 := ⟨⟨rfl, rfl, rfl, by decide +kernel, rfl, by decide +kernel, by decide +kernel⟩, fun _ _ _ _ _ _ us hl => match us, hl with | [_], _ => rfl, by kernel_rfl⟩
theorem ok10 : DRowOk c0 r10 := ⟨⟨rfl, rfl, rfl, by decide +kernel, rfl, by decide +kernel, by decide +kernel⟩, fun _ _ _ _ _ _ us hl => match us, hl with | [_, _], _ => rfl, by kernel_rfl⟩
theorem ok11 : DRowOk c0 r11 := ⟨⟨rfl, rfl, rfl, by decide +kernel, rfl, by decide +kernel, by decide +kernel⟩, fun _ _ _ _ _ _ us hl => match us, hl with | [_, _, _, _], _ => rfl, by kernel_rfl⟩
theorem ok12 : DRowOk c0 r12 := ⟨⟨rfl, rfl, rfl, by decide +kernel, rfl, by decide +kernel, by decide +kernel⟩, fun _ _ _ _ _ _ us hl => match us, hl with | [_], _ => rfl, by kernel_rfl⟩
theorem ok13 : DRowOk c0 r13 := ⟨⟨rfl, rfl, rfl, by decide +kernel, rfl, by decide +kernel, by decide +kernel⟩, fun _ _ _ _ _ _ us hl => match us, hl with | [_, _, _], _ => rfl, by kernel_rfl⟩
theorem ok14 : DRowOk c0 r14 := ⟨⟨rfl, rfl, rfl, by decide +kernel, rfl, by decide +kernel, by decide +kernel⟩, fun _ _ _ _ _ _ us hl => match us, hl with | [_, _], _ => rfl, by kernel_rfl⟩
theorem ok15 : DRowOk c0 r15 := ⟨⟨rfl, rfl, rfl, by decide +kernel, rfl, by decide +kernel, by decide +kernel⟩, fun _ _ _ _ _ _ us hl => match us, hl with | [_, _], _ => rfl, by kernel_rfl⟩
theorem ok16 : DRowOk c0 r16 := ⟨⟨rfl, rfl, rfl, by decide +kernel, rfl, by decide +kernel, by decide +kernel⟩, fun _ _ _ _ _ _ us hl => match us, hl with | [_, _, _, _, _], _ => rfl, by kernel_rfl⟩
theorem ok17 : DRowOk c0 r17 := ⟨⟨rfl, rfl, rfl, by decide +kernel, rfl, by decide +kernel, by decide +kernel⟩, fun _ _ _ _ _ _ us hl => match us, hl with | [_, _], _ => rfl, by kernel_rfl⟩
theorem ok18 : DRowOk c0 r18 := ⟨⟨rfl, rfl, rfl, by decide +kernel, rfl, by decide +kernel, by decide +kernel⟩, fun _ _ _ _ _ _ us hl => match us, hl with | [_, _], _ => rfl, by kernel_rfl⟩
theorem ok19 : DRowOk c0 r19 := ⟨⟨rfl, rfl, rfl, by decide +kernel, rfl, by decide +kernel, by decide +kernel⟩, fun _ _ _ _ _ _ us hl => match us, hl with | [_, _], _ => rfl, by kernel_rfl⟩
theorem ok20 : DRowOk c0 r20 := ⟨⟨rfl, rfl, rfl, by decide +kernel, rfl, by decide +kernel, by decide +kernel⟩, fun _ _ _ _ _ _ us hl => match us, hl with | [_, _], _ => rfl, by kernel_rfl⟩
theorem ok21 : DRowOk c0 r21 := ⟨⟨rfl, rfl, rfl, by decide +kernel, rfl, by decide +kernel, by decide +kernel⟩, fun _ _ _ _ _ _ us hl => match us, hl with | [_, _, _], _ => rfl, by kernel_rfl⟩
theorem ok22 : DRowOk c0 r22 := ⟨⟨rfl, rfl, rfl, by decide +kernel, rfl, by decide +kernel, by decide +kernel⟩, fun _ _ _ _ _ _ us hl => match us, hl with | [_, _], _ => rfl, by kernel_rfl⟩
theorem ok23 : DRowOk c0 r23 := ⟨⟨rfl, rfl, rfl, by decide +kernel, rfl, by decide +kernel, by decide +kernel⟩, fun _ _ _ _ _ _ us hl => match us, hl with | [_], _ => rfl, by kernel_rfl⟩
theorem ok24 : DRowOk c0 r24 := ⟨⟨rfl, rfl, rfl, by decide +kernel, rfl, by decide +kernel, by decide +kernel⟩, fun _ _ _ _ _ _ us hl => match us, hl with | [_, _], _ => rfl, by kernel_rfl⟩
theorem ok25 : DRowOk c0 r25 := ⟨⟨rfl, rfl, rfl, by decide +kernel, rfl, by decide +kernel, by decide +kernel⟩, fun _ _ _ _ _ _ us hl => match us, hl with | [_, _], _ => rfl, by kernel_rfl⟩
theorem ok26 : DRowOk c0 r26 := ⟨⟨rfl, rfl, rfl, by decide +kernel, rfl, by decide +kernel, by decide +kernel⟩, fun _ _ _ _ _ _ us hl => match us, hl with | [_, _], _ => rfl, by kernel_rfl⟩
theorem ok27 : DRowOk c0 r27 := ⟨⟨rfl, rfl, rfl, by decide +kernel, rfl, by decide +kernel, by decide +kernel⟩, fun _ _ _ _ _ _ us hl => match us, hl with | [_], _ => rfl, by kernel_rfl⟩
theorem ok28 : DRowOk c0 r28 := ⟨⟨rfl, rfl, rfl, by decide +kernel, rfl, by decide +kernel, by decide +kernel⟩, fun _ _ _ _ _ _ us hl => match us, hl with | [_, _], _ => rfl, by kernel_rfl⟩
theorem ok29 : DRowOk c0 r29 := ⟨⟨rfl, rfl, rfl, by decide +kernel, rfl, by decide +kernel, by decide +kernel⟩, fun _ _ _ _ _ _ us hl => match us, hl with | [_, _], _ => rfl, by kernel_rfl⟩
theorem ok30 : DRowOk c0 r30 := ⟨⟨rfl, rfl, rfl, by decide +kernel, rfl, by decide +kernel, by decide +kernel⟩, fun _ _ _ _ _ _ us hl => match us, hl with | [_, _], _ => rfl, by kernel_rfl⟩
theorem ok31 : DRowOk c0 r31 := ⟨⟨rfl, rfl, rfl, by decide +kernel, rfl, by decide +kernel, by decide +kernel⟩, fun _ _ _ _ _ _ us hl => match us, hl with | [_, _], _ => rfl, by kernel_rfl⟩
theorem ok32 : DRowOk c0 r32 := ⟨⟨rfl, rfl, rfl, by decide +kernel, rfl, by decide +kernel, by decide +kernel⟩, fun _ _ _ _ _ _ us hl => match us, hl with | [_, _], _ => rfl, by kernel_rfl⟩
theorem ok33 : DRowOk c0 r33 := ⟨⟨rfl, rfl, rfl, by decide +kernel, rfl, by decide +kernel, by decide +kernel⟩, fun _ _ _ _ _ _ us hl => match us, hl with | [_], _ => rfl, by kernel_rfl⟩
theorem ok34 : DRowOk c0 r34 := ⟨⟨rfl, rfl, rfl, by decide +kernel, rfl, by decide +kernel, by decide +kernel⟩, fun _ _ _ _ _ _ us hl => match us, hl with | [_], _ => rfl, by kernel_rfl⟩
theorem ok35 : DRowOk c0 r35 := ⟨⟨rfl, rfl, rfl, by decide +kernel, rfl, by decide +kernel, by decide +kernel⟩, fun _ _ _ _ _ _ us hl => match us, hl with | [_, _], _ => rfl, by kernel_rfl⟩
theorem ok36 : DRowOk c0 r36 := ⟨⟨rfl, rfl, rfl, by decide +kernel, rfl, by decide +kernel, by decide +kernel⟩, fun _ _ _ _ _ _ us hl => match us, hl with | [_], _ => rfl, by kernel_rfl⟩
theorem ok37 : DRowOk c0 r37 := ⟨⟨rfl, rfl, rfl, by decide +kernel, rfl, by decide +kernel, by decide +kernel⟩, fun _ _ _ _ _ _ us hl => match us, hl with | [_, _], _ => rfl, by kernel_rfl⟩
theorem ok38 : DRowOk c0 r38 := ⟨⟨rfl, rfl, rfl, by decide +kernel, rfl, by decide +kernel, by decide +kernel⟩, fun _ _ _ _ _ _ us hl => match us, hl with | [_], _ => rfl, by kernel_rfl⟩
theorem rows_ok : ∀ r ∈ rows, DRowOk c0 r := by
  unfold rows
  simp only [List.forall_mem_cons]
  exact ⟨ok0, ok1, ok2, ok3, ok4, ok5, ok6, ok7, ok8, ok9, ok10, ok11, ok12, ok13, ok14, ok15, ok16, ok17, ok18, ok19, ok20, ok21, ok22, ok23, ok24, ok25, ok26, ok27, ok28, ok29, ok30, ok31, ok32, ok33, ok34, ok35, ok36, ok37, ok38, fun r h => by cases h⟩
theorem fs_eq : Ws.K22.fs = rows.map DRow.fn := rfl
theorem glo_in : ∀ r ∈ rows, He.Fa.glo r.x ∈ fa := by
  unfold rows
  simp only [List.forall_mem_cons]
  exact ⟨List.mem_of_getElem? (i := 0) rfl, List.mem_of_getElem? (i := 1) rfl, List.mem_of_getElem? (i := 2) rfl, List.mem_of_getElem? (i := 3) rfl, List.mem_of_getElem? (i := 4) rfl, List.mem_of_getElem? (i := 5) rfl, List.mem_of_getElem? (i := 6) rfl, List.mem_of_getElem? (i := 7) rfl, List.mem_of_getElem? (i := 8) rfl, List.mem_of_getElem? (i := 9) rfl, List.mem_of_getElem? (i := 10) rfl, List.mem_of_getElem? (i := 11) rfl, List.mem_of_getElem? (i := 12) rfl, List.mem_of_getElem? (i := 13) rfl, List.mem_of_getElem? (i := 14) rfl, List.mem_of_getElem? (i := 15) rfl, List.mem_of_getElem? (i := 16) rfl, List.mem_of_getElem? (i := 17) rfl, List.mem_of_getElem? (i := 18) rfl, List.mem_of_getElem? (i := 19) rfl, List.mem_of_getElem? (i := 20) rfl, List.mem_of_getElem? (i := 21) rfl, List.mem_of_getElem? (i := 22) rfl, List.mem_of_getElem? (i := 23) rfl, List.mem_of_getElem? (i := 24) rfl, List.mem_of_getElem? (i := 25) rfl, List.mem_of_getElem? (i := 26) rfl, List.mem_of_getElem? (i := 27) rfl, List.mem_of_getElem? (i := 28) rfl, List.mem_of_getElem? (i := 29) rfl, List.mem_of_getElem? (i := 30) rfl, List.mem_of_getElem? (i := 31) rfl, List.mem_of_getElem? (i := 32) rfl, List.mem_of_getElem? (i := 33) rfl, List.mem_of_getElem? (i := 34) rfl, List.mem_of_getElem? (i := 35) rfl, List.mem_of_getElem? (i := 36) rfl, List.mem_of_getElem? (i := 37) rfl, List.mem_of_getElem? (i := 38) rfl, fun r h => by cases h⟩
end Hd
open PySem PySem.W PySem.Calls PyProof.Rows Ws

theorem PySem.Challenge.cw_wellstell_k22_curves_cut_and_smoothed_holds : PySem.Challenge.rw_wellstell_k22_curves_cut_and_smoothed.Holds := by
  w_on; o_law
  refine HandSHeadRun.head_imp (r := OpenLaw.row PySem.Challenge.rw_wellstell_k22_curves_cut_and_smoothed) (q := view (OpenLaw.row PySem.Challenge.rw_wellstell_k22_curves_cut_and_smoothed).prog [0, 51]) (H := Hd.hk) (ob := Hd.ob) (M := 4000) (loose := Hd.loose) (d := HandSHeadRun.topDef (OpenLaw.row PySem.Challenge.rw_wellstell_k22_curves_cut_and_smoothed).prog 51) (kwd := []) Hd.ob_eq
    Hd.run (by kernel_rfl) (by kernel_rfl) (by kernel_rfl) (by rfl) (by first | assumption | decide +kernel) (by decide +kernel) ⟨rfl, rfl, rfl, rfl, rfl, by decide +kernel⟩ ?hw ?hc
  case hw => w_witness2
  case hc =>
    refine L2.walk_ofE (l := PySem.Challenge.rw_wellstell_k22_curves_cut_and_smoothed) (n := 63) (k := 12 + 1) (x := "script") (CX := CXa (PySem.Challenge.rw_wellstell_k22_curves_cut_and_smoothed).prog) rfl (by decide) (by kernel_rfl) ⟨rfl, by decide, by decide⟩ ?F cxa_end
    intro w mg fa h Y G hmg0
    obtain ⟨K, KX, c⟩ := Y
    have hmg : mg ("law" : PySem.Str) = some (.ref fa) := by
      have e : (HandSHeadRun.topDef (OpenLaw.row PySem.Challenge.rw_wellstell_k22_curves_cut_and_smoothed).prog 51).name = ("law" : PySem.Str) := by kernel_rfl
      rw [← e]
      exact hmg0
    have more := c.more
    unfold Hd.ex at more
    obtain ⟨m0, mg0⟩ := He.ba more
    obtain ⟨fd, sp, e1, e2, e3, e4⟩ := law_of (P := (PySem.Challenge.rw_wellstell_k22_curves_cut_and_smoothed).prog) (w := w) (k := 12) (i := 38) (r := Hd.r38) (p := "script") KX G c.t.d rfl Hd.rows_ok Hd.glo_in
      (fun x hx => by
        have : (Hd.c0.bl.all fun x => Hd.fa.any fun f => match f with | .free y => decide (y = x) | _ => false) = true := by decide +kernel
        obtain ⟨f, hf, e⟩ := List.any_eq_true.mp (List.all_eq_true.mp this x hx)
        cases f <;> first | cases e | (have e := of_decide_eq_true e; subst e; exact hf))
      m0 (fun _ => PySem.W.mg_of KX G (He.eqO_ok mg0)) (fun T kvs e => by cases e) Hd.fs_eq rfl rfl (fun ns _ => Ws.K22.law_ok _ ns)
    have e1 : mg ("law" : PySem.Str) = some (.ref (He.ga K "law")) := e1
    rw [hmg] at e1
    injection e1 with e1
    injection e1 with e1
    subst e1
    exact ⟨K, fd, sp, KX, e2, e3, e4⟩

