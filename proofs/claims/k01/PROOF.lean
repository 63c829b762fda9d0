import PyProof.Rows.All
import Wide.All
import OpenK.AllK
import Wide.FinOn
import PyProof.EqAt
import PyProof.EqKinds
import PyProof.TupleCall
import KE.KStateDown
import HandS.ForMost
import HandS.Flow
import HandS.Style
import HandS.IsInst
import HandS.Deep
import HandS.TupAny
import HandS.Exc
import HandS.TryOnly
import HandS.ExcOwn
import HandS.WordsExc
import HandS.ExcInit
import HandS.ExcField
import HandS.Defaults
import HandS.Rev
import HandS.More
import HandS.Walk
import HandS.Gcd
import HandS.SortRule
import HandS.SortKw
import KE.LtData
import KE.DataCmp
import KE.DataMinMax
import KE.SortData
import KE.SortKeyHeap
import KE.DataIsa
import HandS.TupSets
import HandS.HeadEnd
import HandS.HeadHook1
import HandS.HeadHook2
import HandS.HeadHook3
import HandS.HeadHook4
import HandS.Head0
import HandS.Head1
import HandS.Head2
import HandS.Head3
import Wide.Once
import PySem.Challenge.RW_wellstell_k01_logs_between_two_numbers
set_option Elab.async false
set_option linter.all false
set_option maxRecDepth 100000
set_option maxHeartbeats 4000000
/-! Sim1: the data that a value stands for -/
namespace Ws
open PySem PySem.Spec PyProof.Rows L2

abbrev D := PyData
/-- who may change an object: a slot of the running def -/
abbrev Ow := Addr → Option Nat
/-- a list that is not to be changed -/
def SL (K : PySem.W.Frag) (O : Ow) (H : Hp) (a : Addr) (xs : List V) : Prop := (Rd H a (.lst xs) ∧ O a = none) ∨
  ∃ (o : Obj) (its : Array Value) (n : Nat), K.lookup a = some o ∧ o.cls = .type "list" ∧ o.dict = none ∧ o.data = .seq its n ∧ its.size ≤ sizeLine ∧ Vals xs its.toList
theorem SL.seq {K : PySem.W.Frag} {O : Ow} {H : Hp} {a : Addr} {xs : List V} (h : SL K O H a xs) : SqL K H a xs := h.imp (fun h => h.1) fun h => h
theorem SL.of {K : PySem.W.Frag} {O : Ow} {H : Hp} {a : Addr} {xs : List V} (h : SqL K H a xs) (q : O a = none) : SL K O H a xs := h.imp (fun h => ⟨h, q⟩) fun h => h

def keyD : Key → D
  | .inl i => .int i
  | .inr x => .str x

mutual
/-- the value v stands for the data d; what is reached through it is owned by nobody -/
inductive Rp (K : PySem.W.Frag) (O : Ow) (H : Hp) : V → D → Prop
  | non : Rp K O H .non .none
  | bl (b : Bool) : Rp K O H (.bl b) (.bool b)
  | int (i : Int) : Rp K O H (.int i) (.int i)
  | str (x : Str) : PyData.strOk x = true → x.length ≤ sizeLine → Rp K O H (.str x) (.str x)
  | lst {a : Addr} {xs : List V} {ds : List D} : SL K O H a xs → xs.length ≤ sizeLine → Rps K O H xs ds → Rp K O H (.ref a) (.list ds)
  | tup {a : Addr} {xs : List V} {ds : List D} : SqT K H a xs → xs.length ≤ sizeLine → Rps K O H xs ds → Rp K O H (.ref a) (.tuple ds)
  | dk {a : Addr} {kvs : List (Key × V)} {ds : List (D × D)} : H a = some (.dK kvs) → O a = none → RpK K O H kvs ds → Rp K O H (.ref a) (.dict ds)
inductive Rps (K : PySem.W.Frag) (O : Ow) (H : Hp) : List V → List D → Prop
  | nil : Rps K O H [] []
  | cons {v : V} {vs : List V} {d : D} {ds : List D} : Rp K O H v d → Rps K O H vs ds → Rps K O H (v :: vs) (d :: ds)
inductive RpK (K : PySem.W.Frag) (O : Ow) (H : Hp) : List (Key × V) → List (D × D) → Prop
  | nil : RpK K O H [] []
  | cons {k : Key} {v : V} {vs : List (Key × V)} {d : D} {ds : List (D × D)} : Rp K O H v d → RpK K O H vs ds → RpK K O H ((k, v) :: vs) ((keyD k, d) :: ds)
end

/-- nothing that is tracked and owned by nobody is lost -/
structure Fz (O : Ow) (H : Hp) (O' : Ow) (H' : Hp) : Prop where
  keep : ∀ a o, H a = some o → O a = none → H' a = some o ∧ O' a = none
  tup : ∀ a xs, H a = some (.tup xs) → H' a = some (.tup xs)
  ftup : ∀ a o xs, H a = some (.frz o (.tup xs)) → H' a = some (.frz o (.tup xs))
theorem Fz.refl (O : Ow) (H : Hp) : Fz O H O H := ⟨fun _ _ h o => ⟨h, o⟩, fun _ _ h => h, fun _ _ _ h => h⟩
theorem Fz.trans {O O1 O2 : Ow} {H H1 H2 : Hp} (a : Fz O H O1 H1) (b : Fz O1 H1 O2 H2) : Fz O H O2 H2 :=
  ⟨fun c o h q => let ⟨h1, q1⟩ := a.keep c o h q; b.keep c o h1 q1, fun c xs h => b.tup c xs (a.tup c xs h), fun c o xs h => b.ftup c o xs (a.ftup c o xs h)⟩
theorem Fz.same {O : Ow} {H H' : Hp} (h : Same H H') : Fz O H O H' := ⟨fun a o e q => ⟨h a o e, q⟩, fun a xs e => h a _ e, fun a o xs e => h a _ e⟩
theorem Fz.rd {O O' : Ow} {H H' : Hp} (f : Fz O H O' H') {a : Addr} {u : HO} (h : Rd H a u) (q : O a = none) : Rd H' a u ∧ O' a = none := by
  rcases h with h | ⟨o, h⟩
  · obtain ⟨h1, q1⟩ := f.keep a u h q
    exact ⟨.inl h1, q1⟩
  · obtain ⟨h1, q1⟩ := f.keep a _ h q
    exact ⟨.inr ⟨o, h1⟩, q1⟩
theorem Fz.sl {K : PySem.W.Frag} {O O' : Ow} {H H' : Hp} (f : Fz O H O' H') {a : Addr} {xs : List V} (h : SL K O H a xs) : SL K O' H' a xs := by
  exact h.imp (fun h => f.rd h.1 h.2) fun h => h
theorem Fz.st {K : PySem.W.Frag} {O O' : Ow} {H H' : Hp} (f : Fz O H O' H') {a : Addr} {xs : List V} (h : SqT K H a xs) : SqT K H' a xs := by
  rcases h with (h | ⟨o, h⟩) | h
  · exact .inl (.inl (f.tup a xs h))
  · exact .inl (.inr ⟨o, f.ftup a o xs h⟩)
  · exact .inr h

section
variable {K : PySem.W.Frag} {O O' : Ow} {H H' : Hp}
mutual
theorem Rp.mv (f : Fz O H O' H') : ∀ {v : V} {d : D}, Rp K O H v d → Rp K O' H' v d
  | _, _, .non => .non
  | _, _, .bl b => .bl b
  | _, _, .int i => .int i
  | _, _, .str x h1 h2 => .str x h1 h2
  | _, _, .lst h z r => .lst (f.sl h) z (Rps.mv f r)
  | _, _, .tup h z r => .tup (f.st h) z (Rps.mv f r)
  | _, _, .dk h q r => .dk (f.keep _ _ h q).1 (f.keep _ _ h q).2 (RpK.mv f r)
theorem Rps.mv (f : Fz O H O' H') : ∀ {vs : List V} {ds : List D}, Rps K O H vs ds → Rps K O' H' vs ds
  | _, _, .nil => .nil
  | _, _, .cons h r => .cons (Rp.mv f h) (Rps.mv f r)
theorem RpK.mv (f : Fz O H O' H') : ∀ {vs : List (Key × V)} {ds : List (D × D)}, RpK K O H vs ds → RpK K O' H' vs ds
  | _, _, .nil => .nil
  | _, _, .cons h r => .cons (Rp.mv f h) (RpK.mv f r)
end
theorem Rp.same {v : V} {d : D} (h : Rp K O H v d) (s : Same H H') : Rp K O H' v d := h.mv (.same s)
theorem Rps.same {v : List V} {d : List D} (h : Rps K O H v d) (s : Same H H') : Rps K O H' v d := h.mv (.same s)
theorem RpK.same {v : List (Key × V)} {d : List (D × D)} (h : RpK K O H v d) (s : Same H H') : RpK K O H' v d := h.mv (.same s)

theorem Rps.length : ∀ {vs : List V} {ds : List D}, Rps K O H vs ds → vs.length = ds.length
  | _, _, .nil => rfl
  | _, _, .cons _ r => by simp [Rps.length r]
theorem Rps.get : ∀ {vs : List V} {ds : List D} {i : Nat} {d : D}, Rps K O H vs ds → ds[i]? = some d → ∃ v, vs[i]? = some v ∧ Rp K O H v d
  | _, _, _, _, .nil, e => by simp at e
  | _, _, 0, _, .cons r _, e => by simp at e; subst e; exact ⟨_, rfl, r⟩
  | _, _, i + 1, d, .cons _ t, e => by
    obtain ⟨u, h1, h2⟩ := Rps.get (i := i) (d := d) t (by simpa using e)
    exact ⟨u, by simpa using h1, h2⟩
theorem Rps.getV : ∀ {vs : List V} {ds : List D} {i : Nat} {v : V}, Rps K O H vs ds → vs[i]? = some v → ∃ d, ds[i]? = some d ∧ Rp K O H v d
  | _, _, _, _, .nil, e => by simp at e
  | _, _, 0, _, .cons r _, e => by simp at e; subst e; exact ⟨_, rfl, r⟩
  | _, _, i + 1, v, .cons _ t, e => by
    obtain ⟨u, h1, h2⟩ := Rps.getV (i := i) (v := v) t (by simpa using e)
    exact ⟨u, by simpa using h1, h2⟩
theorem Rps.app : ∀ {xs ys : List V} {ds es : List D}, Rps K O H xs ds → Rps K O H ys es → Rps K O H (xs ++ ys) (ds ++ es)
  | _, _, _, _, .nil, s => s
  | _, _, _, _, .cons r t, s => .cons r (Rps.app t s)
theorem Rps.take : ∀ {xs : List V} {ds : List D} (n : Nat), Rps K O H xs ds → Rps K O H (xs.take n) (ds.take n)
  | _, _, 0, _ => .nil
  | _, _, _ + 1, .nil => .nil
  | _, _, n + 1, .cons r t => .cons r (Rps.take n t)
theorem Rps.drop : ∀ {xs : List V} {ds : List D} (n : Nat), Rps K O H xs ds → Rps K O H (xs.drop n) (ds.drop n)
  | _, _, 0, r => r
  | _, _, _ + 1, .nil => .nil
  | _, _, n + 1, .cons _ t => Rps.drop n t
theorem Rps.set {v : V} {d : D} (q : Rp K O H v d) : ∀ {xs : List V} {ds : List D} (i : Nat), Rps K O H xs ds → Rps K O H (xs.set i v) (ds.set i d)
  | _, _, _, .nil => .nil
  | _, _, 0, .cons _ t => .cons q t
  | _, _, i + 1, .cons r t => .cons r (Rps.set q i t)
theorem Rps.rev {xs : List V} {ds : List D} (r : Rps K O H xs ds) : Rps K O H xs.reverse ds.reverse := by
  induction r using Rps.rec (motive_1 := fun _ _ _ => True) (motive_3 := fun _ _ _ => True) with
  | nil => exact .nil
  | cons h t _ ih => rw [List.reverse_cons, List.reverse_cons]; exact ih.app (.cons h .nil)
  | _ => trivial
theorem Rps.one {v : V} {d : D} (h : Rp K O H v d) : Rps K O H [v] [d] := .cons h .nil

mutual
theorem Rp.dp : ∀ {v : V} {d : D}, Rp K O H v d → d.canLay0 = true → Dp K H v d
  | _, _, .non, _ => .non
  | _, _, .bl b, _ => .bl b
  | _, _, .int i, _ => .int i
  | _, _, .str x _ _, _ => .str x
  | _, _, .lst h z r, c => .lst h.seq (Rps.dp r (by simpa [PyData.canLay0] using c))
  | _, _, .tup h z r, c => .tup h (Rps.dp r (by simpa [PyData.canLay0] using c))
  | _, _, .dk .., c => by simp [PyData.canLay0] at c
theorem Rps.dp : ∀ {vs : List V} {ds : List D}, Rps K O H vs ds → PyData.canLayAll0 ds = true → DpAll K H vs ds
  | _, _, .nil, _ => .nil
  | _, _, .cons h r, c => by
    have c' := c
    simp only [PyData.canLayAll0, Bool.and_eq_true] at c'
    exact .cons (Rp.dp h c'.1) (Rps.dp r c'.2)
end
end

/-- as deep as n, without dicts -/
def lim : Nat → D → Bool
  | _, .none => true
  | _, .bool _ => true
  | _, .int _ => true
  | _, .str _ => true
  | 0, _ => false
  | n + 1, .list xs => xs.all (lim n)
  | n + 1, .tuple xs => xs.all (lim n)
  | _ + 1, .dict _ => false

theorem lim_depthAll {n : Nat} (ih : ∀ d, lim n d = true → d.depth ≤ n) : ∀ ds : List D, ds.all (lim n) = true → PyData.depthAll ds ≤ n
  | [], _ => by simp [PyData.depthAll]
  | d :: ds, h => by
    simp only [List.all_cons, Bool.and_eq_true] at h
    have h1 := ih d h.1
    have h2 := lim_depthAll ih ds h.2
    simp only [PyData.depthAll]; omega
theorem lim_depth : ∀ (n : Nat) (d : D), lim n d = true → d.depth ≤ n
  | n, .none, _ => by simp [PyData.depth]
  | n, .bool _, _ => by simp [PyData.depth]
  | n, .int _, _ => by simp [PyData.depth]
  | n, .str _, _ => by simp [PyData.depth]
  | 0, .list _, h => by simp [lim] at h
  | 0, .tuple _, h => by simp [lim] at h
  | 0, .dict _, h => by simp [lim] at h
  | n + 1, .dict _, h => by simp [lim] at h
  | n + 1, .list xs, h => by
    have := lim_depthAll (lim_depth n) xs (by simpa [lim] using h)
    simp only [PyData.depth]; omega
  | n + 1, .tuple xs, h => by
    have := lim_depthAll (lim_depth n) xs (by simpa [lim] using h)
    simp only [PyData.depth]; omega

section
variable {K : PySem.W.Frag} {O : Ow} {H : Hp}
theorem lim_lays {n : Nat} (ih : ∀ (d : D) (v : V), Rp K O H v d → lim n d = true → d.canLay0 = true) : ∀ (ds : List D) (vs : List V), Rps K O H vs ds → ds.all (lim n) = true → PyData.canLayAll0 ds = true
  | [], _, _, _ => by simp [PyData.canLayAll0]
  | d :: ds, _, .cons r t, h => by
    simp only [List.all_cons, Bool.and_eq_true] at h
    simp [PyData.canLayAll0, ih d _ r h.1, lim_lays ih ds _ t h.2]
theorem lim_lay : ∀ (n : Nat) (d : D) (v : V), Rp K O H v d → lim n d = true → d.canLay0 = true
  | n, .none, _, _, _ => by simp [PyData.canLay0]
  | n, .bool _, _, _, _ => by simp [PyData.canLay0]
  | n, .int _, _, _, _ => by simp [PyData.canLay0]
  | n, .str x, _, .str _ h _, _ => by simpa [PyData.canLay0] using h
  | 0, .list _, _, _, h => by simp [lim] at h
  | 0, .tuple _, _, _, h => by simp [lim] at h
  | 0, .dict _, _, _, h => by simp [lim] at h
  | n + 1, .dict _, _, _, h => by simp [lim] at h
  | n + 1, .list xs, _, .lst _ _ r, h => by
    simp only [PyData.canLay0]
    exact lim_lays (lim_lay n) xs _ r (by simpa [lim] using h)
  | n + 1, .tuple xs, _, .tup _ _ r, h => by
    simp only [PyData.canLay0]
    exact lim_lays (lim_lay n) xs _ r (by simpa [lim] using h)
theorem lim_shaped {n : Nat} {d : D} {v : V} (r : Rp K O H v d) (h : lim n d = true) (hn : n ≤ 64) : SeqAt.shaped d = true := by
  unfold SeqAt.shaped
  rw [lim_lay n d v r h]
  have := lim_depth n d h
  simp; omega
end

/-- the root may be anybody's, what lies within is nobody's -/
def RpW (K : PySem.W.Frag) (O : Ow) (H : Hp) (v : V) (d : D) : Prop := match d with
  | .list ds => ∃ a xs, v = .ref a ∧ SqL K H a xs ∧ xs.length ≤ sizeLine ∧ Rps K O H xs ds
  | .dict ds => ∃ a kvs, v = .ref a ∧ H a = some (.dK kvs) ∧ RpK K O H kvs ds
  | d => Rp K O H v d
section
variable {K : PySem.W.Frag} {O : Ow} {H H' : Hp}
theorem Rp.weak {v : V} {d : D} (h : Rp K O H v d) : RpW K O H v d := by
  cases h with
  | lst h z r => exact ⟨_, _, rfl, h.seq, z, r⟩
  | dk h q r => exact ⟨_, _, rfl, h, r⟩
  | non => exact .non
  | bl b => exact .bl b
  | int i => exact .int i
  | str x h z => exact .str x h z
  | tup h z r => exact .tup h z r
theorem Same.rd (s : Same H H') {a : Addr} {u : HO} (h : Rd H a u) : Rd H' a u := by
  rcases h with h | ⟨o, h⟩
  · exact .inl (s _ _ h)
  · exact .inr ⟨o, s _ _ h⟩
theorem Same.sql (s : Same H H') {a : Addr} {xs : List V} (h : SqL K H a xs) : SqL K H' a xs := h.imp (fun h => Same.rd s h) fun h => h
theorem RpW.same {v : V} {d : D} (h : RpW K O H v d) (s : Same H H') : RpW K O H' v d := by
  cases d with
  | list ds => obtain ⟨a, xs, e, q, z, r⟩ := h; exact ⟨a, xs, e, Same.sql s q, z, r.same s⟩
  | dict ds => obtain ⟨a, kvs, e, q, r⟩ := h; exact ⟨a, kvs, e, s _ _ q, r.same s⟩
  | none => exact Rp.same (show Rp K O H v _ from h) s
  | bool b => exact Rp.same (show Rp K O H v _ from h) s
  | int i => exact Rp.same (show Rp K O H v _ from h) s
  | str x => exact Rp.same (show Rp K O H v _ from h) s
  | tuple ds => exact Rp.same (show Rp K O H v _ from h) s
/-- weak: HandS' own reading -/
theorem RpW.dp {v : V} {d : D} (h : RpW K O H v d) (c : d.canLay0 = true) : Dp K H v d := by
  cases d with
  | list ds => obtain ⟨a, xs, e, q, z, r⟩ := h; subst e; exact .lst q (r.dp (by simpa [PyData.canLay0] using c))
  | dict ds => simp [PyData.canLay0] at c
  | none => exact Rp.dp (show Rp K O H v _ from h) c
  | bool b => exact Rp.dp (show Rp K O H v _ from h) c
  | int i => exact Rp.dp (show Rp K O H v _ from h) c
  | str x => exact Rp.dp (show Rp K O H v _ from h) c
  | tuple ds => exact Rp.dp (show Rp K O H v _ from h) c
theorem RpW.lay {n : Nat} {v : V} {d : D} (h : RpW K O H v d) (l : lim n d = true) : d.canLay0 = true := by
  cases d with
  | list ds =>
    obtain ⟨a, xs, e, q, z, r⟩ := h
    cases n with
    | zero => simp [lim] at l
    | succ n =>
      simp only [PyData.canLay0]
      exact lim_lays (lim_lay n) ds _ r (by simpa [lim] using l)
  | dict ds => cases n <;> simp [lim] at l
  | none => exact lim_lay n _ v (show Rp K O H v _ from h) l
  | bool b => exact lim_lay n _ v (show Rp K O H v _ from h) l
  | int i => exact lim_lay n _ v (show Rp K O H v _ from h) l
  | str x => exact lim_lay n _ v (show Rp K O H v _ from h) l
  | tuple ds => exact lim_lay n _ v (show Rp K O H v _ from h) l
theorem RpW.shaped {n : Nat} {v : V} {d : D} (h : RpW K O H v d) (l : lim n d = true) (hn : n ≤ 64) : SeqAt.shaped d = true := by
  unfold SeqAt.shaped
  rw [h.lay l]
  have := lim_depth n d l
  simp; omega
end
end Ws

set_option Elab.async false
set_option linter.all false
set_option maxRecDepth 100000
set_option maxHeartbeats 4000000
/-! Sim2: the pure language and what it does -/
namespace Ws
open PySem PySem.Spec PyProof.Rows L2

/-- an answer: a datum, a BadValue with its place, or nothing is said -/
inductive Rs (α : Type) where
  | ok (a : α) | ex (d : D) | st
def Rs.bnd {α β : Type} (x : Rs α) (f : α → Rs β) : Rs β := match x with
  | .ok a => f a
  | .ex d => .ex d
  | .st => .st
@[simp] theorem Rs.bnd_ok {α β : Type} (a : α) (f : α → Rs β) : (Rs.ok a).bnd f = f a := rfl
@[simp] theorem Rs.bnd_ex {α β : Type} (d : D) (f : α → Rs β) : (Rs.ex d : Rs α).bnd f = .ex d := rfl
@[simp] theorem Rs.bnd_st {α β : Type} (f : α → Rs β) : (Rs.st : Rs α).bnd f = .st := rfl
def Rs.of {α : Type} : Option α → Rs α
  | some a => .ok a
  | none => .st
@[simp] theorem Rs.of_some {α : Type} (a : α) : Rs.of (some a) = .ok a := rfl
@[simp] theorem Rs.of_none {α : Type} : Rs.of (none : Option α) = .st := rfl

/-- a slot: not set, a datum that may be known elsewhere, a list or dict that the def alone knows -/
inductive Sl where
  | u | f (d : D) | o (d : D)
abbrev Env := List Sl

inductive Op2 where
  | add | sub | mul | fdiv | mod | pow
  deriving DecidableEq
inductive Cp where
  | eq | ne | lt | le | gt | ge | is_ | isn | in_ | nin
  deriving DecidableEq
inductive Bi where
  | len | abs | max | min | maxd | mind | sum | any | all | sorted | tuple | list | int | gcd | str
  deriving DecidableEq
inductive Ty where
  | int | bool | str | list | tuple | dict
  deriving DecidableEq
inductive Pt where
  | nm (i : Nat) | tp (ps : List Pt)

mutual
inductive E where
  | lit (d : D)
  | var (i : Nat)
  | wv (i : Nat)
  | gl (d : D)
  | bin (o : Op2) (a b : E)
  | neg (a : E)
  | not_ (a : E)
  | and_ (a b : E)
  | or_ (a b : E)
  | ite (c a b : E)
  | cmp (o : Cp) (a b : E)
  | chain (o o' : Cp) (a b c : E)
  | tup (es : List E)
  | lst (es : List E)
  | dnew
  | idx (a b : E)
  | sli (a : E) (lo hi : Option E)
  | rev (a : E)
  | lc (vs : List Nat) (elt : E) (tg : Pt) (it : It) (cond : Option E)
  | lc2 (vs vs1 : List Nat) (elt : E) (tg : Pt) (it : It) (cond : Option E) (tg1 : Pt) (it1 : It) (cond1 : Option E)
  | dc (vs : List Nat) (k v : E) (tg : Pt) (it : It) (cond : Option E)
  | call (f : Nat) (es : List E)
  | bi (b : Bi) (es : List E)
  | isi (a : E) (ts : List Ty)
  | nomut (a : E)
  | inT (ks : List Str) (neg : Bool) (a : E)
  | atT (kvs : List (Str × D)) (a : E)
  | lset (a : E)
  | dd (ks : List Key) (es : List E)
inductive It where
  | seq (e : E)
  | rng1 (a : E)
  | rng2 (a b : E)
  | rng3 (a b c : E)
  | rev (e : E)
end

inductive S where
  | asg (t : Pt) (e : E) (fr : Bool) (lk : List Nat)
  | par (i j : Nat) (a b : E) (lk : List Nat)
  | aug (i : Nat) (o : Op2) (e : E) (lk : List Nat)
  | seti (i : Nat) (e1 e2 : E) (lk : List Nat)
  | app (i : Nat) (e : E) (lk : List Nat)
  | ret (e : E)
  | retn
  | drop (e : E) (lk : List Nat)
  | iff (c : E) (a b : List S)
  | for_ (t : Pt) (it : It) (body : List S) (lk : List Nat)
  | whil (c : E) (body : List S)
  | brk | cont | pass
  | raise (e : E)
  | try_ (body : List S) (i : Nat) (hb : List S)
  | stuck

/-- what a def is: how many parameters, its body, how many slots -/
structure Fn where
  np : Nat
  body : List S
  n : Nat

/-! ### data -/
def truth : D → Bool
  | .none => false
  | .bool b => b
  | .int i => i != 0
  | .str x => x.length != 0
  | .list xs => !xs.isEmpty
  | .tuple xs => !xs.isEmpty
  | .dict xs => !xs.isEmpty
abbrev LIM : Nat := 16777216
def mulOk (i j : Int) : Bool := (decide (-(2 ^ 64) < i) && decide (i < 2 ^ 64)) || (decide (-(2 ^ 64) < j) && decide (j < 2 ^ 64))
def binD : Op2 → D → D → Rs D
  | .add, .int i, .int j => .ok (.int (i + j))
  | .add, .str x, .str y => if x.length + y.length ≤ LIM then .ok (.str (x ++ y)) else .st
  | .add, .list xs, .list ys => if xs.length + ys.length ≤ LIM then .ok (.list (xs ++ ys)) else .st
  | .add, .tuple xs, .tuple ys => if xs.length + ys.length ≤ LIM then .ok (.tuple (xs ++ ys)) else .st
  | .sub, .int i, .int j => .ok (.int (i - j))
  | .mul, .int i, .int j => if mulOk i j then .ok (.int (i * j)) else .st
  | .fdiv, .int i, .int j => if 0 < j ∧ j < 1073741824 then .ok (.int (i / j)) else .st
  | .mod, .int i, .int j => if 0 < j then .ok (.int (i % j)) else .st
  | .pow, .int i, .int j => if 0 ≤ j ∧ j ≤ 1000000 ∧ i.natAbs < 2 ^ 64 then .ok (.int (i ^ j.toNat)) else .st
  | _, _, _ => .st
def negD : D → Rs D
  | .int i => .ok (.int (-i))
  | _ => .st

/-- == -/
def eqD (d e : D) : Rs D := if lim 40 d && lim 40 e then .ok (.bool (PyData.eqv d e)) else .st
def isNone : D → Bool
  | .none => true
  | _ => false
def keyOf : D → Option Key
  | .int i => some (.inl i)
  | .str x => some (.inr x)
  | _ => none
def getK (kvs : List (D × D)) (k : D) : Option D := (kvs.find? fun p => PyData.eqv p.1 k).map (·.2)
def hasChar (x y : Str) : Option Bool := match x.cps.toList with
  | [c] => some (decide (c ∈ y.cps.toList))
  | _ => none
def inD (d e : D) : Rs D := match e with
  | .list ds => if lim 40 d && lim 40 (.list ds) then .ok (.bool (ds.any fun z => PyData.eqv z d)) else .st
  | .tuple ds => if lim 40 d && lim 40 (.tuple ds) then .ok (.bool (ds.any fun z => PyData.eqv z d)) else .st
  | .dict kvs => match keyOf d with
    | some _ => .ok (.bool (getK kvs d).isSome)
    | none => .st
  | .str y => match d with
    | .str x => (Rs.of (hasChar x y)).bnd fun b => .ok (.bool b)
    | _ => .st
  | _ => .st
def notD (r : Rs D) : Rs D := r.bnd fun
  | .bool b => .ok (.bool (!b))
  | _ => .st
def isD (d e : D) : Rs D := match e with
  | .none => .ok (.bool (isNone d))
  | .bool b => match d with
    | .bool c => .ok (.bool (c == b))
    | _ => .ok (.bool false)
  | _ => .st
/-- they can be told apart -/
def cmpOk (d e : D) : Bool := PySem.W.alike d e && !isNone d && lim 40 d && lim 40 e
def ltB (d e : D) : Rs D := if cmpOk d e then .ok (.bool (PySem.W.dataLt d e)) else .st
def cmpD : Cp → D → D → Rs D
  | .eq, d, e => eqD d e
  | .ne, d, e => notD (eqD d e)
  | .lt, d, e => ltB d e
  | .gt, d, e => ltB e d
  | .le, d, e => notD (ltB e d)
  | .ge, d, e => notD (ltB d e)
  | .is_, d, e => isD d e
  | .isn, d, e => notD (isD d e)
  | .in_, d, e => inD d e
  | .nin, d, e => notD (inD d e)

/-- the place that an index of any sign means -/
def ixD {α : Type} (xs : List α) (i : Int) : Option α := if 0 ≤ i then xs[i.toNat]? else if -(xs.length : Int) ≤ i then xs[(i + xs.length).toNat]? else none
def idxD (d e : D) : Rs D := match d, e with
  | .list xs, .int i => Rs.of (ixD xs i)
  | .tuple xs, .int i => Rs.of (ixD xs i)
  | .str x, .int i => (Rs.of (ixD x.cps.toList i)).bnd fun c => .ok (.str ⟨#[c]⟩)
  | .dict kvs, k => match keyOf k with
    | some _ => Rs.of (getK kvs k)
    | none => .st
  | _, _ => .st
def cutD {α : Type} (xs : List α) (lo hi : Option Int) : List α := (xs.drop (HT.sIx xs.length 0 lo)).take (HT.sIx xs.length xs.length hi - HT.sIx xs.length 0 lo)
def sliD (d : D) (lo hi : Option Int) : Rs D := match d with
  | .list xs => .ok (.list (cutD xs lo hi))
  | .tuple xs => .ok (.tuple (cutD xs lo hi))
  | _ => .st
def revD : D → Rs D
  | .list xs => .ok (.list xs.reverse)
  | _ => .st
def intOf : D → Option Int
  | .int i => some i
  | _ => none
def bolOf : D → Option Bool
  | .bool b => some b
  | _ => none
def intsD (ds : List D) : Option (List Int) := ds.mapM intOf
def bolsD (ds : List D) : Option (List Bool) := ds.mapM bolOf
/-- all of them can be told apart -/
def allOk (xs : List D) : Bool := xs.all fun x => !isNone x && lim 40 x && xs.all fun y => PySem.W.alike x y
def isTup : D → Bool
  | .tuple [] => false
  | .tuple _ => true
  | _ => false
def isTupE : D → Bool
  | .tuple _ => true
  | _ => false
def sortOk (xs : List D) : Bool := allOk xs && (xs.all isTup || xs.all fun x => !isTupE x)
/-- stable insertion -/
def insD {α : Type} (le : α → α → Bool) (x : α) : List α → List α
  | [] => [x]
  | y :: ys => if le x y then x :: y :: ys else y :: insD le x ys
def sortD {α : Type} (le : α → α → Bool) (xs : List α) : List α := xs.foldr (insD le) []
def leT (d e : D) : Bool := !PySem.W.dataLt e d
def minL : List D → Option D
  | [] => none
  | x :: xs => some (PySem.W.minD x xs)
def maxL : List D → Option D
  | [] => none
  | x :: xs => some (PySem.W.maxD x xs)
def tyIs (t : Ty) (d : D) : Bool := match t, d with
  | .int, .int _ => true
  | .int, .bool _ => true
  | .bool, .bool _ => true
  | .str, .str _ => true
  | .list, .list _ => true
  | .tuple, .tuple _ => true
  | .dict, .dict _ => true
  | _, _ => false
mutual
def noMut : D → Bool
  | .list _ => false
  | .dict _ => false
  | .tuple xs => noMuts xs
  | _ => true
def noMuts : List D → Bool
  | [] => true
  | x :: xs => noMut x && noMuts xs
end
def biD : Bi → List D → Rs D
  | .len, [.list xs] => .ok (.int xs.length)
  | .len, [.tuple xs] => .ok (.int xs.length)
  | .len, [.str x] => .ok (.int x.length)
  | .len, [.dict x] => .ok (.int x.length)
  | .abs, [.int i] => .ok (.int (if i < 0 then -i else i))
  | .max, [.int i, .int j] => .ok (.int (if j > i then j else i))
  | .min, [.int i, .int j] => .ok (.int (if j < i then j else i))
  | .max, [.list xs] => if allOk xs then Rs.of (maxL xs) else .st
  | .min, [.list xs] => if allOk xs then Rs.of (minL xs) else .st
  | .max, [.tuple xs] => if allOk xs then Rs.of (maxL xs) else .st
  | .min, [.tuple xs] => if allOk xs then Rs.of (minL xs) else .st
  | .maxd, [.list xs, d] => if allOk xs then .ok ((maxL xs).getD d) else .st
  | .mind, [.list xs, d] => if allOk xs then .ok ((minL xs).getD d) else .st
  | .sum, [.list xs] => (Rs.of (intsD xs)).bnd fun ns => .ok (.int ns.sum)
  | .any, [.list xs] => (Rs.of (bolsD xs)).bnd fun bs => .ok (.bool (bs.any id))
  | .all, [.list xs] => (Rs.of (bolsD xs)).bnd fun bs => .ok (.bool (bs.all id))
  | .sorted, [.list xs] => if sortOk xs then .ok (.list (sortD leT xs)) else .st
  | .sorted, [.tuple xs] => if sortOk xs then .ok (.list (sortD leT xs)) else .st
  | .tuple, [.list xs] => .ok (.tuple xs)
  | .tuple, [.tuple xs] => .ok (.tuple xs)
  | .list, [.list xs] => .ok (.list xs)
  | .list, [.tuple xs] => .ok (.list xs)
  | .int, [.int i] => .ok (.int i)
  | .int, [.bool b] => .ok (.int (if b then 1 else 0))
  | .gcd, [.int a, .int b] => .ok (.int ((Nat.gcd a.natAbs b.natAbs : Nat) : Int))
  | _, _ => .st
/-- a name of a table of the module -/
def inTD (ks : List Str) (neg : Bool) : D → Rs D
  | .str x => .ok (.bool (if neg then !ks.any (fun k => decide (k = x)) else ks.any fun k => decide (k = x)))
  | _ => .st
def tabAt (kvs : List (Str × D)) (x : Str) : Option D := (kvs.find? fun p => decide (p.1 = x)).map (·.2)
def atTD (kvs : List (Str × D)) : D → Rs D
  | .str x => Rs.of (tabAt kvs x)
  | _ => .st
def tupI : D → Option (List Int)
  | .tuple ds => intsD ds
  | _ => none
/-- how many there are -/
def dnum : List (List Int) → Nat
  | [] => 0
  | x :: xs => if xs.any (fun y => decide (y = x)) then dnum xs else dnum xs + 1
/-- len(set(xs)) -/
def lsetD : D → Rs D
  | .list xs => if xs.length < 64 then (Rs.of (xs.mapM tupI)).bnd fun ks => .ok (.int (dnum ks)) else .st
  | _ => .st
/-- what is walked -/
def seqD2 : D → Rs (List D)
  | .list xs => .ok xs
  | .tuple xs => .ok xs
  | _ => .st
def seqD : D → Rs (List D)
  | .list xs => .ok xs
  | .tuple xs => .ok xs
  | .str x => .ok (x.cps.toList.map fun c => .str ⟨#[c]⟩)
  | _ => .st
def rngL (lo : Int) (n : Nat) : List D := (List.range n).map fun i => .int (lo + (i : Nat))
def rngD (lo hi : Int) : Rs (List D) := if -(2 ^ 62) ≤ lo ∧ lo < 2 ^ 62 ∧ -(2 ^ 62) ≤ hi ∧ hi < 2 ^ 62 ∧ (hi - lo).toNat ≤ LIM then .ok (rngL lo (hi - lo).toNat) else .st

/-! ### slots -/
def put (ε : Env) (i : Nat) (d : D) : Env := ε.set i (.f d)
def puto (ε : Env) (i : Nat) (d : D) : Env := ε.set i (.o d)
mutual
def bnd : Pt → D → Env → Rs Env
  | .nm i, d, ε => .ok (put ε i d)
  | .tp ps, .tuple ds, ε => bnds ps ds ε
  | .tp ps, .list ds, ε => bnds ps ds ε
  | .tp _, _, _ => .st
def bnds : List Pt → List D → Env → Rs Env
  | [], [], ε => .ok ε
  | p :: ps, d :: ds, ε => (bnd p d ε).bnd fun ε' => bnds ps ds ε'
  | _, _, _ => .st
end
def wipeE (ε : Env) : List Nat → Env
  | [] => ε
  | v :: vs => (wipeE ε vs).set v .u
def frzS : Sl → Sl
  | .o d => .f d
  | s => s
/-- the slots ls are known elsewhere from now on -/
def frzE (ε : Env) : List Nat → Env
  | [] => ε
  | i :: is => match ε[i]? with
    | some (.o d) => frzE (ε.set i (.f d)) is
    | _ => frzE ε is

/-! ### what an expression says -/
section
variable (φ : Nat → List D → Rs D)
/-- no error comes out of a comprehension's block -/
def Rs.nx {α : Type} : Rs α → Rs α
  | .ok a => .ok a
  | _ => .st
@[simp] theorem Rs.nx_ok {α : Type} (a : α) : (Rs.ok a).nx = .ok a := rfl
@[simp] theorem Rs.nx_st {α : Type} : (Rs.st : Rs α).nx = .st := rfl
/-- [elt ..]: what the turns give -/
def lcL (turn : D → Rs (List D)) : List D → Rs (List D)
  | [] => .ok []
  | x :: xs => (turn x).nx.bnd fun ys => (lcL turn xs).bnd fun zs => .ok (ys ++ zs)
/-- {k: v ..} -/
def putD (kvs : List (D × D)) (k v : D) : List (D × D) := if (getK kvs k).isSome then kvs.map fun p => if PyData.eqv p.1 k then (p.1, v) else p else kvs ++ [(k, v)]
/-- only what holds no list and no dict -/
def nmR : Rs D → Rs D
  | .ok x => if noMut x then .ok x else .st
  | .ex x => if noMut x then .ex x else .st
  | .st => .st
mutual
def ev : E → Env → Rs D
  | .lit d, _ => .ok d
  | .gl d, _ => .ok d
  | .var i, ε => match ε[i]? with
    | some (.f d) => .ok d
    | _ => .st
  | .wv i, ε => match ε[i]? with
    | some (.f d) => .ok d
    | some (.o d) => .ok d
    | _ => .st
  | .bin o a b, ε => (ev a ε).bnd fun x => (ev b ε).bnd fun y => binD o x y
  | .neg a, ε => (ev a ε).bnd negD
  | .not_ a, ε => (ev a ε).bnd fun x => .ok (.bool (!truth x))
  | .and_ a b, ε => (ev a ε).bnd fun x => if truth x then ev b ε else .ok x
  | .or_ a b, ε => (ev a ε).bnd fun x => if truth x then .ok x else ev b ε
  | .ite c a b, ε => (ev c ε).bnd fun x => if truth x then ev a ε else ev b ε
  | .cmp o a b, ε => (ev a ε).bnd fun x => (ev b ε).bnd fun y => cmpD o x y
  | .chain o o' a b c, ε => (ev a ε).bnd fun x => (ev b ε).bnd fun y => (cmpD o x y).bnd fun
    | .bool true => (ev c ε).bnd fun z => cmpD o' y z
    | .bool false => .ok (.bool false)
    | _ => .st
  | .tup es, ε => (evs es ε).bnd fun ds => .ok (.tuple ds)
  | .lst es, ε => (evs es ε).bnd fun ds => .ok (.list ds)
  | .dnew, _ => .ok (.dict [])
  | .idx a b, ε => (ev a ε).bnd fun x => (ev b ε).bnd fun y => idxD x y
  | .sli a lo hi, ε => (ev a ε).bnd fun x => (evo lo ε).bnd fun l => (evo hi ε).bnd fun h => sliD x l h
  | .rev a, ε => (ev a ε).bnd revD
  | .lc vs elt tg it cond, ε => (evi it ε).bnd fun ds => (lcL (fun x => (bnd tg x (wipeE ε vs)).bnd fun ε' =>
      (evc cond ε').bnd fun b => if b then (ev elt ε').bnd fun y => .ok [y] else .ok []) ds).bnd fun ys => .ok (.list ys)
  | .lc2 vs vs1 elt tg it cond tg1 it1 cond1, ε => (evi it ε).bnd fun ds => (lcL (fun x => (bnd tg x (wipeE ε vs)).bnd fun ε' =>
      (evc cond ε').bnd fun b => if b then (evi it1 ε').bnd fun ds1 => lcL (fun x1 => (bnd tg1 x1 (wipeE ε' vs1)).bnd fun ε'' =>
        (evc cond1 ε'').bnd fun b1 => if b1 then (ev elt ε'').bnd fun y => .ok [y] else .ok []) ds1 else .ok []) ds).bnd fun ys => if ys.length ≤ LIM then .ok (.list ys) else .st
  | .dc vs k v tg it cond, ε => (evi it ε).bnd fun ds => (lcL (fun x => (bnd tg x (wipeE ε vs)).bnd fun ε' =>
      (evc cond ε').bnd fun b => if b then (ev k ε').bnd fun y => (Rs.of (keyOf y)).bnd fun _ => (ev v ε').bnd fun z => .ok [.tuple [y, z]] else .ok []) ds).bnd fun ys =>
        .ok (.dict (ys.foldl (fun acc p => match p with | .tuple [y, z] => putD acc y z | _ => acc) []))
  | .call f es, ε => (evs es ε).bnd fun ds => φ f ds
  | .bi b es, ε => (evs es ε).bnd fun ds => biD b ds
  | .isi a ts, ε => (ev a ε).bnd fun x => .ok (.bool (ts.any fun t => tyIs t x))
  | .inT ks neg a, ε => (ev a ε).bnd (inTD ks neg)
  | .atT kvs a, ε => (ev a ε).bnd (atTD kvs)
  | .lset a, ε => (ev a ε).bnd lsetD
  | .dd ks es, ε => (evs es ε).bnd fun ds => .ok (.dict ((ks.zip ds).foldl (fun acc p => putD acc (keyD p.1) p.2) []))
  | .nomut a, ε => nmR (ev a (ε.map frzS))
def evs : List E → Env → Rs (List D)
  | [], _ => .ok []
  | e :: es, ε => (ev e ε).bnd fun x => (evs es ε).bnd fun xs => .ok (x :: xs)
/-- a slice's part -/
def evo : Option E → Env → Rs (Option Int)
  | none, _ => .ok none
  | some e, ε => (ev e ε).bnd fun x => (Rs.of (intOf x)).bnd fun i => .ok (some i)
/-- a condition -/
def evc : Option E → Env → Rs Bool
  | none, _ => .ok true
  | some e, ε => (ev e ε).bnd fun x => .ok (truth x)
def evi : It → Env → Rs (List D)
  | .seq e, ε => (ev e ε).bnd seqD
  | .rng1 a, ε => (ev a ε).bnd fun x => (Rs.of (intOf x)).bnd fun i => rngD 0 i
  | .rng2 a b, ε => (ev a ε).bnd fun x => (ev b ε).bnd fun y => (Rs.of (intOf x)).bnd fun i => (Rs.of (intOf y)).bnd fun j => rngD i j
  | .rng3 a b c, ε => (ev a ε).bnd fun x => (ev b ε).bnd fun y => (ev c ε).bnd fun z => (Rs.of (intOf x)).bnd fun i => (Rs.of (intOf y)).bnd fun j => (Rs.of (intOf z)).bnd fun k =>
      if k = -1 then (rngD (j + 1) (i + 1)).bnd fun ds => .ok ds.reverse else .st
  | .rev e, ε => (ev e ε).bnd fun x => (seqD2 x).bnd fun ds => .ok ds.reverse
end

/-! ### what a statement does -/
inductive Fl where
  | nx | br | ct | rt (d : D)
def putF (ε : Env) (t : Pt) (d : D) (fr : Bool) : Rs Env := if fr then (match t, d with
    | .nm i, .list ds => .ok (puto ε i (.list ds))
    | .nm i, .dict ds => .ok (puto ε i (.dict ds))
    | t, d => bnd t d ε) else bnd t d ε
def setD (d k v : D) : Rs D := match d with
  | .list xs => (Rs.of (intOf k)).bnd fun i => (Rs.of (ixN xs.length i)).bnd fun j => .ok (.list (xs.set j v))
  | .dict kvs => match keyOf k with
    | some _ => if kvs.length < LIM then .ok (.dict (putD kvs k v)) else .st
    | none => .st
  | _ => .st
def lstD : D → Rs (List D)
  | .list xs => .ok xs
  | _ => .st
def own (ε : Env) (i : Nat) : Rs D := match ε[i]? with
  | some (.o d) => .ok d
  | _ => .st
def exFor (step : D → Env → Rs (Fl × Env)) : List D → Env → Rs (Fl × Env)
  | [], ε => .ok (.nx, ε)
  | x :: xs, ε => (step x ε).bnd fun
    | (.nx, ε') => exFor step xs ε'
    | (.ct, ε') => exFor step xs ε'
    | (.br, ε') => .ok (.nx, ε')
    | (.rt d, ε') => .ok (.rt d, ε')
def exWh (c : Env → Rs Bool) (step : Env → Rs (Fl × Env)) : Nat → Env → Rs (Fl × Env)
  | 0, _ => .st
  | n + 1, ε => (c ε).bnd fun b => if b then (step ε).bnd fun
    | (.nx, ε') => exWh c step n ε'
    | (.ct, ε') => exWh c step n ε'
    | (.br, ε') => .ok (.nx, ε')
    | (.rt d, ε') => .ok (.rt d, ε') else .ok (.nx, ε)
abbrev WH : Nat := 1000000
mutual
def exS : S → Env → Rs (Fl × Env)
  | .asg t e fr lk, ε => (ev φ e (frzE ε lk)).bnd fun d => (putF (frzE ε lk) t d fr).bnd fun ε' => .ok (.nx, ε')
  | .par i j a b lk, ε => (ev φ a (frzE ε lk)).bnd fun x => (ev φ b (frzE ε lk)).bnd fun y => .ok (.nx, put (put (frzE ε lk) i x) j y)
  | .aug i o e lk, ε => (ev φ (.var i) (frzE ε lk)).bnd fun x => (ev φ e (frzE ε lk)).bnd fun y => (binD o x y).bnd fun z => match z with
    | .int n => .ok (.nx, put (frzE ε lk) i (.int n))
    | _ => .st
  | .seti i e1 e2 lk, ε => (ev φ e2 (frzE ε lk)).bnd fun v => (own (frzE ε lk) i).bnd fun d => (ev φ e1 (frzE ε lk)).bnd fun k => (setD d k v).bnd fun d' => .ok (.nx, puto (frzE ε lk) i d')
  | .app i e lk, ε => (own (frzE ε lk) i).bnd fun d => (lstD d).bnd fun xs => (ev φ e (frzE ε lk)).bnd fun v => if xs.length < LIM then .ok (.nx, puto (frzE ε lk) i (.list (xs ++ [v]))) else .st
  | .ret e, ε => (ev φ e (ε.map frzS)).bnd fun d => .ok (.rt d, ε)
  | .retn, ε => .ok (.rt .none, ε)
  | .drop e lk, ε => (ev φ e (frzE ε lk)).bnd fun _ => .ok (.nx, frzE ε lk)
  | .iff c a b, ε => (ev φ c (ε.map frzS)).bnd fun x => if truth x then exSs a ε else exSs b ε
  | .for_ t it body lk, ε => (evi φ it (frzE ε lk)).bnd fun ds => exFor (fun x ε' => (bnd t x ε').bnd fun ε'' => exSs body ε'') ds (frzE ε lk)
  | .whil c body, ε => exWh (fun ε' => (ev φ c (ε'.map frzS)).bnd fun x => .ok (truth x)) (fun ε' => exSs body ε') WH ε
  | .brk, ε => .ok (.br, ε)
  | .cont, ε => .ok (.ct, ε)
  | .pass, ε => .ok (.nx, ε)
  | .raise e, ε => (ev φ e (ε.map frzS)).bnd fun d => .ex d
  | .stuck, _ => .st
  | .try_ _ _ _, _ => .st
def exSs : List S → Env → Rs (Fl × Env)
  | [], ε => .ok (.nx, ε)
  | s :: ss, ε => (exS s ε).bnd fun
    | (.nx, ε') => exSs ss ε'
    | (f, ε') => .ok (f, ε')
end
end
/-- what a body's end tells -/
def retv : Fl × Env → Rs D
  | (.rt d, _) => .ok d
  | (.nx, _) => .ok .none
  | _ => .st
/-- a def, called -/
def run (φ : Nat → List D → Rs D) (f : Fn) (ds : List D) : Rs D := if ds.length = f.np then
    (exSs φ f.body (ds.map .f ++ List.replicate (f.n - f.np) .u)).bnd retv else .st
def call (fs : List Fn) : Nat → Nat → List D → Rs D
  | 0, _, _ => .st
  | k + 1, i, ds => match fs[i]? with
    | some f => run (call fs k) f ds
    | none => .st
end Ws

set_option Elab.async false
set_option linter.all false
set_option maxRecDepth 100000
set_option maxHeartbeats 4000000
/-! Sim3: from the text to the pure language -/
namespace Ws
open PySem PySem.Spec PyProof.Rows L2

/-- what is known of the names -/
structure Cfg where
  /-- the def's slots -/
  N : List Str
  /-- the module's defs -/
  fns : List Str
  /-- the module's constants -/
  cs : List (Str × D)
  /-- the built-in names that the module leaves as they are -/
  bl : List Str
  /-- defs whose answers hold no list and no dict -/
  pu : List Str
  /-- math.gcd stands at gcd -/
  gcd : Bool := false
  /-- the module's tables by texts -/
  tabs : List (Str × List (Str × D)) := []

def slotIx (N : List Str) (x : Str) : Option Nat := N.findIdx? fun y => decide (y = x)
def slotOf (c : Cfg) (sc : Scope) (x : Str) : Option Nat := match sc.names.lookup x with
  | some .local => slotIx c.N x
  | some .cell => slotIx c.N x
  | some .free => slotIx c.N x
  | _ => none
def glob (sc : Scope) (x : Str) : Bool := match sc.names.lookup x with
  | some .globalImplicit => !decide (x = "__debug__")
  | _ => false
def op2Of : Operator → Option Op2
  | .Add => some .add
  | .Sub => some .sub
  | .Mult => some .mul
  | .FloorDiv => some .fdiv
  | .Mod => some .mod
  | .Pow => some .pow
  | _ => none
def cpOf : CmpOp → Cp
  | .Eq => .eq | .NotEq => .ne | .Lt => .lt | .LtE => .le | .Gt => .gt | .GtE => .ge
  | .Is => .is_ | .IsNot => .isn | .In => .in_ | .NotIn => .nin
def biOf (x : Str) : Option Bi :=
  if x = "len" then some .len else if x = "abs" then some .abs else if x = "max" then some .max else if x = "min" then some .min else
  if x = "sum" then some .sum else if x = "any" then some .any else if x = "all" then some .all else if x = "sorted" then some .sorted else
  if x = "tuple" then some .tuple else if x = "list" then some .list else if x = "int" then some .int else none
def tyOf (x : Str) : Option Ty :=
  if x = "int" then some .int else if x = "bool" then some .bool else if x = "str" then some .str else if x = "list" then some .list else
  if x = "tuple" then some .tuple else if x = "dict" then some .dict else none
def ownOf (N : List Str) (scope : Scope) : List (Str × Nat) := scope.names.filterMap fun (n, k) => match k with
  | .local => (slotIx N n).map fun i => (n, i)
  | .cell => (slotIx N n).map fun i => (n, i)
  | _ => none
def noStar : List Expr → Bool
  | [] => true
  | .Starred _ _ :: _ => false
  | _ :: es => noStar es
/-- no display stands there -/
def walkable : Expr → Bool
  | .Name _ _ => true
  | .Call (.Name f _) _ _ _ => !decide (f = "range") && !decide (f = "reversed")
  | .Subscript _ _ _ => true
  | .ListComp _ _ _ _ => true
  | .BinOp _ _ _ _ => true
  | .List _ _ => false
  | _ => false
mutual
/-- a target: names and tuples of names (the scope as the text has it) -/
def compT (c : Cfg) (sc : Scope) : Nat → Expr → Option Pt
  | 0, _ => none
  | n + 1, .Name x _ => match sc.names.lookup x with
    | some .local => (slotIx c.N x).map .nm
    | some .cell => (slotIx c.N x).map .nm
    | _ => none
  | n + 1, .Tuple es _ _ => if noStar es then (compTs c sc n es).map .tp else none
  | _, _ => none
def compTs (c : Cfg) (sc : Scope) : Nat → List Expr → Option (List Pt)
  | 0, _ => none
  | n + 1, [] => some []
  | n + 1, e :: es => do some ((← compT c sc n e) :: (← compTs c sc n es))
end
mutual
def Pt.sl : Pt → List Nat
  | .nm i => [i]
  | .tp ps => Pt.sls ps
def Pt.sls : List Pt → List Nat
  | [] => []
  | p :: ps => p.sl ++ Pt.sls ps
end
def Pt.isin (p : Pt) (vs : List Nat) : Bool := p.sl.all fun i => decide (i ∈ vs)
def tabE (c : Cfg) (sc : Scope) : Expr → Option (List (Str × D))
  | .Name x _ => if glob sc x then c.tabs.lookup x else none
  | _ => none
/-- a written key -/
def keyE : Option Expr → Option Key
  | some (.Constant (.str x) _ _) => some (.inr x)
  | some (.Constant (.int i) _ _) => some (.inl i)
  | _ => none
def wk : E → E
  | .var i => .wv i
  | e => e
def lone : Expr → Bool
  | .Starred _ _ => false
  | _ => true
/-- a list's places: behind a subscript no slice, no tuple -/
def plainIx : Expr → Bool
  | .Slice _ _ _ _ => false
  | .Tuple _ _ _ => false
  | _ => true
mutual
def compE (c : Cfg) : Nat → Scope → Expr → Option E
  | 0, _, _ => none
  | n + 1, sc, e => match e with
    | .Constant (.int i) _ _ => some (.lit (.int i))
    | .Constant (.bool b) _ _ => some (.lit (.bool b))
    | .Constant .none _ _ => some (.lit .none)
    | .Constant (.str x) _ _ => if PyData.strOk x && decide (x.length ≤ LIM) then some (.lit (.str x)) else none
    | .Name x _ => if decide (x = "__debug__") || decide (x = "__classdict__") then none else match slotOf c sc x with
      | some i => some (.var i)
      | none => if glob sc x then (c.cs.lookup x).map .gl else none
    | .BinOp a o b _ => do some (.bin (← op2Of o) (wk (← compE c n sc a)) (wk (← compE c n sc b)))
    | .UnaryOp .USub a _ => do some (.neg (wk (← compE c n sc a)))
    | .UnaryOp .Not a _ => do some (.not_ (wk (← compE c n sc a)))
    | .BoolOp o vs _ => if 2 ≤ vs.length then compB c n sc o vs else none
    | .IfExp t a b _ => do some (.ite (wk (← compE c n sc t)) (← compE c n sc a) (← compE c n sc b))
    | .Compare a [o] [b] _ => if behindInMarks o b then none else match tabE c sc b with
      | some kvs => (match o with
        | .In => do some (.inT (kvs.map (·.1)) false (wk (← compE c n sc a)))
        | .NotIn => do some (.inT (kvs.map (·.1)) true (wk (← compE c n sc a)))
        | _ => none)
      | none => do some (.cmp (cpOf o) (wk (← compE c n sc a)) (wk (← compE c n sc b)))
    | .Compare a [o, o'] [b, d] _ => if lastMarks [o, o'] [b, d] then none else do some (.chain (cpOf o) (cpOf o') (wk (← compE c n sc a)) (wk (← compE c n sc b)) (wk (← compE c n sc d)))
    | .Tuple es _ _ => if es.length ≤ 1000000 then do some (.tup (← compEs c n sc es)) else none
    | .List es _ => if es.length ≤ 1000000 then do some (.lst (← compEs c n sc es)) else none
    | .Dict [] [] _ => some .dnew
    | .Dict (k :: ks) es _ => if decide ((k :: ks).length = es.length) && decide (es.length ≤ 15) then do
        let kk ← (k :: ks).mapM keyE
        some (.dd kk (← compEs c n sc es)) else none
    | .Subscript a (.Slice none none (some (.UnaryOp .USub (.Constant (.int 1) _ _) _)) _) _ => do some (.rev (wk (← compE c n sc a)))
    | .Subscript a (.Slice lo hi none _) _ => do some (.sli (wk (← compE c n sc a)) (← compO c n sc lo) (← compO c n sc hi))
    | .Subscript a b _ => if plainIx b then match tabE c sc a with
      | some kvs => do some (.atT kvs (wk (← compE c n sc b)))
      | none => do some (.idx (wk (← compE c n sc a)) (wk (← compE c n sc b))) else none
    | .ListComp elt [⟨tg, iter, ifs, 0⟩] scope _ => if blkC c.N sc scope (ownOf c.N scope) then do
        let it ← compI c n sc true iter
        let t ← compT c scope n tg
        let x ← compE c n (relS scope sc) elt
        let cd ← compC c n (relS scope sc) ifs
        if t.isin ((ownOf c.N scope).map (·.2)) then some (.lc ((ownOf c.N scope).map (·.2)) x t it cd) else none else none
    | .ListComp elt [⟨tg, iter, ifs, 0⟩, ⟨tg1, iter1, ifs1, 0⟩] scope _ => if blkC c.N sc scope (ownOf c.N scope) then do
        let it ← compI c n sc true iter
        let t ← compT c scope n tg
        let cd ← compC c n (relS scope sc) ifs
        let it1 ← compI c n (relS scope sc) false iter1
        let t1 ← compT c scope n tg1
        let cd1 ← compC c n (relS scope sc) ifs1
        let x ← compE c n (relS scope sc) elt
        if t.isin ((ownOf c.N scope).map (·.2)) && t1.isin ((ownOf c.N scope).map (·.2)) then some (.lc2 ((ownOf c.N scope).map (·.2)) t1.sl x t it cd t1 it1 cd1) else none else none
    | .Call (.Name "len" _) [.Call (.Name "set" _) [a] [] _] [] _ => if glob sc "len" && decide (("len" : Str) ∈ c.bl) && glob sc "set" && decide (("set" : Str) ∈ c.bl) && lone a then do some (.lset (wk (← compE c n sc a))) else none
    | .Call (.Name f _) es [] _ => if glob sc f then (match c.fns.findIdx? fun y => decide (y = f) with
        | some i => do
          let ds ← compEs c n sc es
          some (if decide (f ∈ c.pu) then .nomut (.call i ds) else .call i ds)
        | none => if decide (f ∈ c.bl) && !es.isEmpty then (if f = "isinstance" then compIs c n sc es else do
            let b ← biOf f
            let ds ← compWs c n sc es
            some (.bi b ds)) else if c.gcd && decide (f = "gcd") && !es.isEmpty then do
            let ds ← compWs c n sc es
            some (.bi .gcd ds) else none) else none
    | _ => none
def compIs (c : Cfg) : Nat → Scope → List Expr → Option E
  | 0, _, _ => none
  | n + 1, sc, [e, .Name t _] => if lone e && glob sc t && decide (t ∈ c.bl) then do some (.isi (wk (← compE c n sc e)) [← tyOf t]) else none
  | n + 1, sc, [e, .Tuple [.Name t _, .Name u _] _ _] => if lone e && glob sc t && decide (t ∈ c.bl) && glob sc u && decide (u ∈ c.bl) then do some (.isi (wk (← compE c n sc e)) [← tyOf t, ← tyOf u]) else none
  | _, _, _ => none
def compB (c : Cfg) : Nat → Scope → BoolOp → List Expr → Option E
  | 0, _, _, _ => none
  | n + 1, sc, o, [] => none
  | n + 1, sc, o, [e] => compE c n sc e
  | n + 1, sc, .And, e :: e' :: es => do some (.and_ (← compE c n sc e) (← compB c n sc .And (e' :: es)))
  | n + 1, sc, .Or, e :: e' :: es => do some (.or_ (← compE c n sc e) (← compB c n sc .Or (e' :: es)))
def compEs (c : Cfg) : Nat → Scope → List Expr → Option (List E)
  | 0, _, _ => none
  | n + 1, sc, [] => some []
  | n + 1, sc, e :: es => if lone e then do some ((← compE c n sc e) :: (← compEs c n sc es)) else none
def compWs (c : Cfg) : Nat → Scope → List Expr → Option (List E)
  | 0, _, _ => none
  | n + 1, sc, [] => some []
  | n + 1, sc, e :: es => if lone e then do some (wk (← compE c n sc e) :: (← compWs c n sc es)) else none
def compO (c : Cfg) : Nat → Scope → Option Expr → Option (Option E)
  | 0, _, _ => none
  | n + 1, sc, none => some none
  | n + 1, sc, some e => do some (some (wk (← compE c n sc e)))
def compC (c : Cfg) : Nat → Scope → List Expr → Option (Option E)
  | 0, _, _ => none
  | n + 1, sc, [] => some none
  | n + 1, sc, [e] => do some (some (wk (← compE c n sc e)))
  | _, _, _ => none
/-- what is walked; w: its list may be a list that the def alone knows -/
def compI (c : Cfg) : Nat → Scope → Bool → Expr → Option It
  | 0, _, _, _ => none
  | n + 1, sc, w, .Call (.Name "range" _) [a] [] _ => if glob sc "range" && decide (("range" : Str) ∈ c.bl) && lone a then do some (.rng1 (wk (← compE c n sc a))) else none
  | n + 1, sc, w, .Call (.Name "range" _) [a, b] [] _ => if glob sc "range" && decide (("range" : Str) ∈ c.bl) && lone a && lone b then do some (.rng2 (wk (← compE c n sc a)) (wk (← compE c n sc b))) else none
  | n + 1, sc, w, .Call (.Name "reversed" _) [a] [] _ => if glob sc "reversed" && decide (("reversed" : Str) ∈ c.bl) && lone a then do
      let e ← compE c n sc a
      some (.rev (if w then wk e else e)) else none
  | n + 1, sc, w, e => if walkable e then do
      let e ← compE c n sc e
      some (.seq (if w then wk e else e)) else none
end

/-! ### statements -/
mutual
/-- the slots whose lists may be known elsewhere behind it -/
def E.sv : E → List Nat
  | .lit _ => [] | .gl _ => [] | .wv _ => [] | .dnew => []
  | .var i => [i]
  | .bin _ a b => a.sv ++ b.sv
  | .neg a => a.sv
  | .not_ a => a.sv
  | .and_ a b => a.sv ++ b.sv
  | .or_ a b => a.sv ++ b.sv
  | .ite c a b => c.sv ++ (a.sv ++ b.sv)
  | .cmp _ a b => a.sv ++ b.sv
  | .chain _ _ a b c => a.sv ++ (b.sv ++ c.sv)
  | .tup es => E.svs es
  | .lst es => E.svs es
  | .idx a b => a.sv ++ b.sv
  | .sli a _ _ => a.sv
  | .rev a => a.sv
  | .lc _ e _ it _ => e.sv ++ it.sv
  | .lc2 _ _ e _ it _ _ it1 _ => e.sv ++ (it.sv ++ it1.sv)
  | .dc _ k v _ it _ => k.sv ++ (v.sv ++ it.sv)
  | .call _ es => E.svs es
  | .bi _ es => E.svs es
  | .isi a _ => a.sv
  | .nomut _ => []
  | .inT _ _ a => a.sv
  | .atT _ a => a.sv
  | .lset a => a.sv
  | .dd _ es => E.svs es
def E.svs : List E → List Nat
  | [] => []
  | e :: es => e.sv ++ E.svs es
def It.sv : It → List Nat
  | .seq e => e.sv
  | .rng1 a => a.sv
  | .rng2 a b => a.sv ++ b.sv
  | .rng3 a b c => a.sv ++ (b.sv ++ c.sv)
  | .rev e => e.sv
end
/-- its lists and dicts are new -/
def biFr : Bi → Bool
  | .max => false | .min => false | .maxd => false | .mind => false | _ => true
def frE : E → Bool
  | .lit _ => false | .var _ => false | .wv _ => false | .gl _ => false
  | .and_ _ _ => false | .or_ _ _ => false | .ite _ _ _ => false | .idx _ _ => false
  | .call _ _ => false | .nomut _ => false
  | .bi b _ => biFr b
  | .dc .. => false
  | .atT _ _ => false
  | _ => true
def starV : Expr → Bool
  | .Starred _ _ => true
  | _ => false
def nmS (kind : Str → Option NameKind) (line : Nat) : Expr → Option Str
  | .Name id pos => if kind id == some .local && pos.line == line then some id else none
  | _ => none
/-- the pair that is stored without a tuple: none: nothing is said -/
def swT (kind : Str → Option NameKind) (ts vs : List Expr) : Option (Option (List Str)) :=
    if !(ts.length == 2 || ts.length == 3) || vs.length != ts.length then some none else
    if vs.any starV then some none else
    if (ts.filterMap (nmS kind ((ts.head?.map (·.pos.line)).getD 0))).length != ts.length || (ts.filterMap (nmS kind ((ts.head?.map (·.pos.line)).getD 0))).eraseDups.length != (ts.filterMap (nmS kind ((ts.head?.map (·.pos.line)).getD 0))).length then some none else
    if vs.all (foldedForSure 8) then some none else
    if vs.all (constantsAlone 8) then none else some (some (ts.filterMap (nmS kind ((ts.head?.map (·.pos.line)).getD 0))))
def swS (sc : Scope) (ts : List Expr) (value : Expr) : Option (Option (List Str)) := match value with
  | .Tuple vs _ _ => swT (fun x => sc.names.lookup x) ts vs
  | _ => some none
def isFun (sc : Scope) : Bool := match sc.kind with
  | .function => true
  | _ => false
/-- no comprehension: its place is not reused -/
def noComp : Expr → Bool
  | .ListComp _ _ _ _ => false
  | .SetComp _ _ _ _ => false
  | .DictComp _ _ _ _ _ => false
  | _ => true
/-- name = [..]: the name is stored in the comprehension's own block -/
def inComp (sc : Scope) (e : Expr) (y : Str) (py : Pos) : Bool := match e with
  | .ListComp _ _ s p => sc.names.lookup y == some .local && (py.line == p.line) && !(s.names.any fun (n, k) => n == y && (k == .local || k == .cell))
  | _ => false
mutual
def compS (c : Cfg) (sc : Scope) : Nat → Stmt → Option S
  | 0, _ => none
  | n + 1, st => match st with
    | .Pass _ => some .pass
    | .Break _ => some .brk
    | .Continue _ => some .cont
    | .Return none _ => some .retn
    | .Return (some e) _ => do some (.ret (← compE c n sc e))
    | .If t a b _ => do some (.iff (wk (← compE c n sc t)) (← compSs c sc n a) (← compSs c sc n b))
    | .For tg it body [] _ => do
        let i ← compI c n sc false it
        let t ← compT c sc n tg
        some (.for_ t i (← compSs c sc n body) i.sv)
    | .While t body [] _ => do some (.whil (wk (← compE c n sc t)) (← compSs c sc n body))
    | .Assign [.Subscript (.Name x _) ix _] e _ => if noComp e && decide (x ≠ "__debug__") && decide (x ≠ "__classdict__") then do
        let i ← slotOf c sc x
        let k ← compE c n sc ix
        let v ← compE c n sc e
        some (.seti i (wk k) v (v.sv)) else none
    | .Assign [.Name y py] e _ => if inComp sc e y py then (match e with
        | .ListComp elt [⟨tg, iter, ifs, 0⟩] scope pos => do
          let x ← compE c n sc (.ListComp elt [⟨tg, iter, ifs, 0⟩] scope pos)
          let i ← slotIx c.N y
          some (.asg (.nm i) x true x.sv)
        | .ListComp elt [⟨tg, iter, ifs, 0⟩, ⟨tg1, iter1, ifs1, 0⟩] scope pos => do
          let x ← compE c n sc (.ListComp elt [⟨tg, iter, ifs, 0⟩, ⟨tg1, iter1, ifs1, 0⟩] scope pos)
          let i ← slotIx c.N y
          some (.asg (.nm i) x true x.sv)
        | _ => none) else match e with
        | .DictComp _ _ _ _ _ => none
        | .SetComp _ _ _ _ => none
        | _ => do
          let x ← compE c n sc e
          let t ← compT c sc n (.Name y py)
          some (.asg t x (frE x) x.sv)
    | .Assign [.Tuple ts kk tp] e _ => if noComp e then (match swS sc ts e with
        | some none => do
          let x ← compE c n sc e
          let t ← compT c sc n (.Tuple ts kk tp)
          some (.asg t x false x.sv)
        | some (some [x, y]) => (match ts, e with
          | [.Name x' _, .Name y' _], .Tuple [a, b] _ _ => if decide (x' = x) && decide (y' = y) && decide (x ≠ y) && lone a && lone b then do
              let i ← slotIx c.N x
              let j ← slotIx c.N y
              let a' ← compE c n sc a
              let b' ← compE c n sc b
              if decide (sc.names.lookup x = some .local) && decide (sc.names.lookup y = some .local) then some (.par i j a' b' (a'.sv ++ b'.sv)) else none else none
          | _, _ => none)
        | _ => none) else none
    | .AugAssign (.Name x _) .Add e _ => if decide (sc.names.lookup x = some .local) || decide (sc.names.lookup x = some .cell) then do some (.aug (← slotIx c.N x) .add (wk (← compE c n sc e)) []) else none
    | .AugAssign (.Name x _) .Sub e _ => if decide (sc.names.lookup x = some .local) || decide (sc.names.lookup x = some .cell) then do some (.aug (← slotIx c.N x) .sub (wk (← compE c n sc e)) []) else none
    | .Expr (.Call (.Attribute (.Name x _) "append" ap) [e] [] cp) _ => if decide (x ≠ "__debug__") && decide (x ≠ "__classdict__") && lone e && (ap.endLine == cp.line) then do
        let i ← slotOf c sc x
        let v ← compE c n sc e
        some (.app i v v.sv) else none
    | .Expr (.Constant (.str _) _ _) _ => some .pass
    | .Expr (.Call (.Name f p) es [] cp) _ => do
        let x ← compE c n sc (.Call (.Name f p) es [] cp)
        some (.drop x x.sv)
    | .Raise _ _ _ => some .stuck
    | _ => none
def compSs (c : Cfg) (sc : Scope) : Nat → List Stmt → Option (List S)
  | 0, _ => none
  | n + 1, [] => some []
  | n + 1, s :: ss => do some ((← compS c sc n s) :: (← compSs c sc n ss))
end
end Ws

set_option Elab.async false
set_option linter.all false
set_option maxRecDepth 100000
set_option maxHeartbeats 4000000
/-! Sim4: operations on data are what the machine does -/
namespace Ws
open PySem PySem.Spec PyProof.Rows L2

/-- what is owned is tracked -/
def OT (O : Ow) (H : Hp) : Prop := ∀ a i, O a = some i → ∃ o, H a = some o
theorem OT.none {O : Ow} {H : Hp} (t : OT O H) {a : Addr} (h : H a = none) : O a = none := by
  cases e : O a with
  | none => rfl
  | some i =>
    obtain ⟨o, q⟩ := t a i e
    rw [h] at q; cases q
theorem OT.same {O : Ow} {H H' : Hp} (t : OT O H) (s : Same H H') : OT O H' := fun a i e => let ⟨o, q⟩ := t a i e; ⟨o, s a o q⟩

/-- a new list or dict, that nobody knows yet; other data as ever -/
def Fr (K : PySem.W.Frag) (O : Ow) (H H' : Hp) (v : V) (d : D) : Prop := match d with
  | .list ds => ∃ p xs, v = .ref p ∧ H p = none ∧ H' p = some (.lst xs) ∧ xs.length ≤ sizeLine ∧ ∀ O' : Ow, (∀ a, a ≠ p → O' a = O a) → Rps K O' H' xs ds
  | .dict ds => ∃ p kvs, v = .ref p ∧ H p = none ∧ H' p = some (.dK kvs) ∧ ∀ O' : Ow, (∀ a, a ≠ p → O' a = O a) → RpK K O' H' kvs ds
  | d => Rp K O H' v d
section
variable {K : PySem.W.Frag} {O : Ow} {H H' : Hp}
theorem Fr.rp {v : V} {d : D} (t : OT O H) (h : Fr K O H H' v d) : Rp K O H' v d := by
  cases d with
  | list ds => obtain ⟨p, xs, e, n, q, z, r⟩ := h; subst e; exact .lst (.inl ⟨.inl q, t.none n⟩) z (r O fun _ _ => rfl)
  | dict ds => obtain ⟨p, kvs, e, n, q, r⟩ := h; subst e; exact .dk q (t.none n) (r O fun _ _ => rfl)
  | none => exact h
  | bool b => exact h
  | int i => exact h
  | str x => exact h
  | tuple ds => exact h

/-- what lies in H stays data in a heap with one new object more, whoever owns that one -/
theorem Fz.new {p : Addr} {o : HO} (n : H p = none) {O' : Ow} (h : ∀ a, a ≠ p → O' a = O a) : Fz O H O' (upd H p o) :=
  ⟨fun a u e q => by
    have ne : a ≠ p := fun z => by rw [z, n] at e; cases e
    exact ⟨by rw [upd_ne ne]; exact e, by rw [h a ne]; exact q⟩,
   fun a xs e => by rw [upd_ne (ne_of_none e n)]; exact e, fun a u xs e => by rw [upd_ne (ne_of_none e n)]; exact e⟩
theorem same_new {p : Addr} {o : HO} (n : H p = none) : Same H (upd H p o) := fun a u e => by rw [upd_ne (ne_of_none e n)]; exact e
theorem Fr.newL {p : Addr} {xs : List V} {ds : List D} (n : H p = none) (r : Rps K O H xs ds) (z : xs.length ≤ sizeLine) : Fr K O H (upd H p (.lst xs)) (.ref p) (.list ds) :=
  ⟨p, xs, rfl, n, upd_same, z, fun O' h => r.mv (Fz.new n h)⟩
theorem Rp.newT {p : Addr} {xs : List V} {ds : List D} (n : H p = none) (r : Rps K O H xs ds) (z : xs.length ≤ sizeLine) : Rp K O (upd H p (.tup xs)) (.ref p) (.tuple ds) :=
  .tup (.inl (.inl upd_same)) z (r.mv (Fz.new n fun _ _ => rfl))
/-- Same backwards at the start: what is new stays new -/
theorem Fr.same0 {H0 : Hp} {v : V} {d : D} (s : Same H0 H) (h : Fr K O H H' v d) : Fr K O H0 H' v d := by
  cases d with
  | list ds => obtain ⟨p, xs, e, n, q, z, r⟩ := h; exact ⟨p, xs, e, s.free n, q, z, r⟩
  | dict ds => obtain ⟨p, kvs, e, n, q, r⟩ := h; exact ⟨p, kvs, e, s.free n, q, r⟩
  | none => exact h
  | bool b => exact h
  | int i => exact h
  | str x => exact h
  | tuple ds => exact h
end

/-- an operation's end: no error comes -/
def PoF (K : PySem.W.Frag) (O : Ow) (H : Hp) (r : Rs D) (Q : VK) : Prop := match r with
  | .ok d => ∀ v H', Same H H' → Fr K O H H' v d → Q v H'
  | _ => False

section
variable {X : Cx}
abbrev rIn2 (K : PySem.W.Frag) (f : D → D → Rs D) : R2 := fun x y H Q => ∃ O d e, OT O H ∧ RpW K O H x d ∧ RpW K O H y e ∧ PoF K O H (f d e) Q
theorem PoF.int {K : PySem.W.Frag} {O : Ow} {H : Hp} {i : Int} {Q : VK} (h : PoF K O H (.ok (.int i)) Q) : Q (.int i) H := h _ H (Same.refl H) (Rp.int i)
theorem PoF.bool {K : PySem.W.Frag} {O : Ow} {H : Hp} {b : Bool} {Q : VK} (h : PoF K O H (.ok (.bool b)) Q) : Q (.bl b) H := h _ H (Same.refl H) (Rp.bl b)

/-! ### list + list, whether frozen or not -/
theorem op_catR : OpR X (binaryOp .Add) (fun x y H Q => ∃ l b xs zs, x = .ref l ∧ y = .ref b ∧ SqL X.K H l xs ∧ SqL X.K H b zs ∧ xs.length + zs.length ≤ sizeLine ∧ ∀ p, H p = none → Q (.ref p) (upd H p (.lst (xs ++ zs)))) := by
  intro pins s σ H x y v u Q I rx ry h
  obtain ⟨l, b, xs, zs, rfl, rfl, hH, hB, hz, q⟩ := h
  cases rx
  cases ry
  obtain ⟨its, r, e, hzz⟩ := I.list hH
  obtain ⟨its2, r2, e2, hzz2⟩ := I.list hB
  have hl := r.length
  have hl2 := r2.length
  have ea : its.toArray ++ its2.toArray = (its ++ its2).toArray := by simp
  obtain ⟨⟨cls, dd, data, sl⟩, ho, hc, n, hd⟩ := e.isList
  obtain ⟨⟨cls2, dd2, data2, sl2⟩, ho2, hc2, n2, hd2⟩ := e2.isList
  simp only at hc hd hc2 hd2
  subst hc hd hc2 hd2
  refine concat_meets ⟨_, ho, rfl⟩ ⟨_, ho2, rfl⟩ noFill_list_add seq_list_add PySem.F.slot_list_add PySem.F.entry_list_add (PySem.F.args_list_add_2 _ _) (list_addW l b its.toArray its2.toArray n n2 dd dd2 sl sl2 (by simp only [List.size_toArray]; omega)) ⟨ho, ho2, ?_⟩
  rw [ea]
  exact ⟨.ref _, _, I.lnew (t' := s.toks) (r.append r2) (by rw [List.length_append]; omega), rfl, q _ I.fresh⟩

def opOf : Op2 → Operator
  | .add => .Add | .sub => .Sub | .mul => .Mult | .fdiv => .FloorDiv | .mod => .Mod | .pow => .Pow
theorem op2Of_eq {o : Operator} {o' : Op2} (h : op2Of o = some o') : o = opOf o' := by
  cases o <;> simp [op2Of] at h <;> subst h <;> rfl
theorem lim_line : LIM = sizeLine := by rw [sizeLine_eq]
theorem strOk_app {x y : Str} (hx : PyData.strOk x = true) (hy : PyData.strOk y = true) : PyData.strOk (x ++ y) = true := by
  unfold PyData.strOk at *
  have e : (x ++ y).cps = x.cps ++ y.cps := rfl
  rw [e, Array.all_append, hx, hy]; rfl
theorem str_len_app (x y : Str) : (x ++ y).length = x.length + y.length := by
  show (x.cps ++ y.cps).size = _
  rw [Array.size_append]; rfl

theorem bin_ok (o : Op2) : OpR X (binaryOp (opOf o)) (rIn2 X.K (binD o)) := by
  intro pins s σ H x y v u Q I rx ry h
  obtain ⟨O, d, e, ot, hd, he, q⟩ := h
  cases o with
  | add =>
    cases d <;> cases e <;> try exact (show False from q).elim
    · -- ints
      cases (show Rp X.K O H x _ from hd); cases (show Rp X.K O H y _ from he)
      exact op_add pins s σ H _ _ v u Q I rx ry ⟨_, _, rfl, rfl, q.int⟩
    · -- texts
      rename_i z z'
      cases (show Rp X.K O H x _ from hd) with | str _ h1 h2 =>
      cases (show Rp X.K O H y _ from he) with | str _ h3 h4 =>
      simp only [binD] at q
      split at q
      · rename_i hl
        refine op_add_str pins s σ H _ _ v u Q I rx ry ⟨_, _, rfl, rfl, by rw [← lim_line]; exact hl, q _ H (Same.refl H) (Rp.str _ (strOk_app h1 h3) ?_)⟩
        rw [str_len_app, ← lim_line]; exact hl
      · exact (show False from q).elim
    · -- lists
      obtain ⟨a, xs, rfl, ha, za, ra⟩ := hd
      obtain ⟨b, ys, rfl, hb, zb, rb⟩ := he
      simp only [binD] at q
      split at q
      · rename_i hl
        rw [← ra.length, ← rb.length, lim_line] at hl
        exact op_catR pins s σ H _ _ v u Q I rx ry ⟨a, b, xs, ys, rfl, rfl, ha, hb, hl, fun p hp => q _ _ (same_new hp) (Fr.newL hp (ra.app rb) (by rw [List.length_append]; exact hl))⟩
      · exact (show False from q).elim
    · -- tuples
      cases (show Rp X.K O H x _ from hd) with | tup ha za ra =>
      cases (show Rp X.K O H y _ from he) with | tup hb zb rb =>
      simp only [binD] at q
      split at q
      · rename_i hl
        rw [← ra.length, ← rb.length, lim_line] at hl
        refine op_catA pins s σ H _ _ v u Q I rx ry ⟨_, _, _, _, rfl, rfl, ha, hb, hl, fun e => ?_, fun _ e => ?_, fun _ _ p hp => ?_⟩
        · subst e; cases ra
          exact q _ H (Same.refl H) (Rp.tup hb zb rb)
        · subst e; cases rb
          exact q _ H (Same.refl H) (by rw [List.append_nil]; exact Rp.tup ha za ra)
        · exact q _ _ (same_new hp) (Rp.newT hp (ra.app rb) (by rw [List.length_append]; exact hl))
      · exact (show False from q).elim
  | sub =>
    cases d <;> cases e <;> try exact (show False from q).elim
    cases (show Rp X.K O H x _ from hd); cases (show Rp X.K O H y _ from he)
    exact op_sub pins s σ H _ _ v u Q I rx ry ⟨_, _, rfl, rfl, q.int⟩
  | mul =>
    cases d <;> cases e <;> try exact (show False from q).elim
    cases (show Rp X.K O H x _ from hd); cases (show Rp X.K O H y _ from he)
    simp only [binD] at q
    split at q
    · rename_i hm
      unfold mulOk at hm
      simp only [Bool.or_eq_true, Bool.and_eq_true, decide_eq_true_eq] at hm
      exact op_mul pins s σ H _ _ v u Q I rx ry ⟨_, _, rfl, rfl, hm, q.int⟩
    · exact (show False from q).elim
  | fdiv =>
    cases d <;> cases e <;> try exact (show False from q).elim
    cases (show Rp X.K O H x _ from hd); cases (show Rp X.K O H y _ from he)
    simp only [binD] at q
    split at q
    · rename_i hm
      exact op_fdiv pins s σ H _ _ v u Q I rx ry ⟨_, _, rfl, rfl, hm, q.int⟩
    · exact (show False from q).elim
  | mod =>
    cases d <;> cases e <;> try exact (show False from q).elim
    cases (show Rp X.K O H x _ from hd); cases (show Rp X.K O H y _ from he)
    simp only [binD] at q
    split at q
    · rename_i hm
      exact op_mod pins s σ H _ _ v u Q I rx ry ⟨_, _, rfl, rfl, hm, q.int⟩
    · exact (show False from q).elim
  | pow =>
    cases d <;> cases e <;> try exact (show False from q).elim
    cases (show Rp X.K O H x _ from hd); cases (show Rp X.K O H y _ from he)
    simp only [binD] at q
    split at q
    · rename_i hm
      exact op_pow pins s σ H _ _ v u Q I rx ry ⟨_, _, rfl, rfl, hm, q.int⟩
    · exact (show False from q).elim

theorem neg_ok : UnR X (unaryOp .USub) (fun x H Q => ∃ O d, OT O H ∧ RpW X.K O H x d ∧ PoF X.K O H (negD d) Q) := by
  intro pins s σ H x v Q I rx h
  obtain ⟨O, d, ot, hd, q⟩ := h
  cases d <;> try exact (show False from q).elim
  cases (show Rp X.K O H x _ from hd)
  exact un_neg pins s σ H _ v Q I rx ⟨_, rfl, q.int⟩
end
end Ws

set_option Elab.async false
set_option linter.all false
set_option maxRecDepth 100000
set_option maxHeartbeats 4000000
/-! Sim5: comparisons, subscripts -/
namespace Ws
open PySem PySem.Spec PyProof.Rows L2
section
variable {X : Cx}

theorem PoF.bl {K : PySem.W.Frag} {O : Ow} {H : Hp} {b : Bool} {r : Rs D} {Q : VK} (h : PoF K O H r Q) (e : r = .ok (.bool b)) : Q (.bl b) H := by
  subst e; exact h.bool
theorem notD_ok {K : PySem.W.Frag} {O : Ow} {H : Hp} {r : Rs D} {Q : VK} (h : PoF K O H (notD r) Q) : ∃ b, r = .ok (.bool b) ∧ Q (.bl (!b)) H := by
  cases r with
  | ok d =>
    cases d <;> try exact (show False from h).elim
    rename_i b
    exact ⟨b, rfl, PoF.bool (b := !b) h⟩
  | ex d => exact (show False from h).elim
  | st => exact (show False from h).elim
theorem eqD_of {d e : D} {b : Bool} (h : eqD d e = .ok (.bool b)) : lim 40 d = true ∧ lim 40 e = true ∧ b = PyData.eqv d e := by
  unfold eqD at h
  split at h
  · rename_i c
    simp only [Bool.and_eq_true] at c
    injection h with h; injection h with h
    exact ⟨c.1, c.2, h.symm⟩
  · cases h
theorem PoF.st {K : PySem.W.Frag} {O : Ow} {H : Hp} {Q : VK} (h : PoF K O H .st Q) : False := h
theorem eqD_ok {K : PySem.W.Frag} {O : Ow} {H : Hp} {d e : D} {Q : VK} (h : PoF K O H (eqD d e) Q) : lim 40 d = true ∧ lim 40 e = true ∧ Q (.bl (PyData.eqv d e)) H := by
  unfold eqD at h
  split at h
  · rename_i c
    simp only [Bool.and_eq_true] at c
    exact ⟨c.1, c.2, h.bool⟩
  · exact h.st.elim
theorem ltB_of {d e : D} {b : Bool} (h : ltB d e = .ok (.bool b)) : cmpOk d e = true ∧ b = PySem.W.dataLt d e := by
  unfold ltB at h
  split at h
  · rename_i c
    injection h with h; injection h with h
    exact ⟨c, h.symm⟩
  · cases h
theorem ltB_ok {K : PySem.W.Frag} {O : Ow} {H : Hp} {d e : D} {Q : VK} (h : PoF K O H (ltB d e) Q) : cmpOk d e = true ∧ Q (.bl (PySem.W.dataLt d e)) H := by
  unfold ltB at h
  split at h
  · rename_i c
    exact ⟨c, h.bool⟩
  · exact h.st.elim
theorem isNone_iff {d : D} (h : isNone d = false) : d ≠ .none := by rintro rfl; cases h

/-- two data that may be told apart, as the machine reads them -/
theorem reads2 {pins : List (Addr × Obj)} {s : Shared} {σ : L2.St} {H : Hp} {x : V} {v : Value} {O : Ow} {d : D} (I : Inv X pins σ H s) (rx : RelV x v) (h : RpW X.K O H x d) (l : lim 40 d = true) :
    ∃ as, Reads s.heap v d as := Dp.reads I d x v (h.dp (h.lay l)) rx

theorem eq_ok (hu : X.A.units + 64 < cLine) : OpR X (compareOp .Eq) (rIn2 X.K eqD) := by
  intro pins s σ H x y v u Q I rx ry h
  obtain ⟨O, d, e, ot, hd, he, q⟩ := h
  obtain ⟨l1, l2, q⟩ := eqD_ok q
  exact op_eqD hu pins s σ H x y v u Q I rx ry ⟨d, e, hd.dp (hd.lay l1), he.dp (he.lay l2), hd.shaped l1 (by decide), he.shaped l2 (by decide), q⟩
theorem ne_ok (hu : X.A.units + 64 < cLine) : OpR X (compareOp .NotEq) (rIn2 X.K fun d e => notD (eqD d e)) := by
  intro pins s σ H x y v u Q I rx ry h
  obtain ⟨O, d, e, ot, hd, he, q⟩ := h
  obtain ⟨b, eb, q⟩ := notD_ok q
  obtain ⟨l1, l2, rfl⟩ := eqD_of eb
  exact op_neD hu pins s σ H x y v u Q I rx ry ⟨d, e, hd.dp (hd.lay l1), he.dp (he.lay l2), hd.shaped l1 (by decide), he.shaped l2 (by decide), q⟩
theorem cmpOk_of {d e : D} (h : cmpOk d e = true) : PySem.W.alike d e = true ∧ d ≠ .none ∧ lim 40 d = true ∧ lim 40 e = true := by
  unfold cmpOk at h
  simp only [Bool.and_eq_true, Bool.not_eq_true'] at h
  exact ⟨h.1.1.1, isNone_iff h.1.1.2, h.1.2, h.2⟩
theorem room_of {d e : D} {A : Around} (hu : A.units + 64 < cLine) (l : lim 40 d = true) : A.units + min d.depth e.depth < cLine := by
  have h1 := lim_depth 40 d l
  have h2 : min d.depth e.depth ≤ d.depth := Nat.min_le_left _ _
  omega
theorem fin2 {pins : List (Addr × Obj)} {s : Shared} {σ : L2.St} {H : Hp} {Q : VK} {b : Bool} (I : Inv X pins σ H s) (q : Q (.bl b) H) : EP X pins σ Q (.bool b) s := ⟨.bl b, H, I, rfl, q⟩
theorem lt_ok (hu : X.A.units + 64 < cLine) : OpR X (compareOp .Lt) (rIn2 X.K ltB) := by
  intro pins s σ H x y v u Q I rx ry h
  obtain ⟨O, d, e, ot, hd, he, q⟩ := h
  obtain ⟨c, q⟩ := ltB_ok q
  obtain ⟨al, nn, l1, l2⟩ := cmpOk_of c
  obtain ⟨as, r1⟩ := reads2 I rx hd l1
  obtain ⟨bs, r2⟩ := reads2 I ry he l2
  exact PySem.W.lt_data r1 r2 al nn (room_of hu l1) (fin2 I q)
theorem gt_ok (hu : X.A.units + 64 < cLine) : OpR X (compareOp .Gt) (rIn2 X.K fun d e => ltB e d) := by
  intro pins s σ H x y v u Q I rx ry h
  obtain ⟨O, d, e, ot, hd, he, q⟩ := h
  obtain ⟨c, q⟩ := ltB_ok q
  obtain ⟨al, nn, l2, l1⟩ := cmpOk_of c
  obtain ⟨as, r1⟩ := reads2 I rx hd l1
  obtain ⟨bs, r2⟩ := reads2 I ry he l2
  have al' : PySem.W.alike d e = true := by rw [PySem.W.alike_comm]; exact al
  exact PySem.W.gt_data r1 r2 al' (PySem.W.ne_none_both al nn) (room_of hu l1) (fin2 I q)
theorem le_ok (hu : X.A.units + 64 < cLine) : OpR X (compareOp .LtE) (rIn2 X.K fun d e => notD (ltB e d)) := by
  intro pins s σ H x y v u Q I rx ry h
  obtain ⟨O, d, e, ot, hd, he, q⟩ := h
  obtain ⟨b, eb, q⟩ := notD_ok q
  obtain ⟨c, rfl⟩ := ltB_of eb
  obtain ⟨al, nn, l2, l1⟩ := cmpOk_of c
  obtain ⟨as, r1⟩ := reads2 I rx hd l1
  obtain ⟨bs, r2⟩ := reads2 I ry he l2
  have al' : PySem.W.alike d e = true := by rw [PySem.W.alike_comm]; exact al
  exact PySem.W.le_data r1 r2 al' (PySem.W.ne_none_both al nn) (room_of hu l1) (fin2 I q)
theorem ge_ok (hu : X.A.units + 64 < cLine) : OpR X (compareOp .GtE) (rIn2 X.K fun d e => notD (ltB d e)) := by
  intro pins s σ H x y v u Q I rx ry h
  obtain ⟨O, d, e, ot, hd, he, q⟩ := h
  obtain ⟨b, eb, q⟩ := notD_ok q
  obtain ⟨c, rfl⟩ := ltB_of eb
  obtain ⟨al, nn, l1, l2⟩ := cmpOk_of c
  obtain ⟨as, r1⟩ := reads2 I rx hd l1
  obtain ⟨bs, r2⟩ := reads2 I ry he l2
  exact PySem.W.ge_data r1 r2 al nn (room_of hu l1) (fin2 I q)

/-! ### is, is not -/
theorem is_bool_gen {M : Model} {A : Around} {E : Value → Shared → Prop} {s : Shared} {Q : Value → Shared → Prop} {v : Value} {b : Bool} (h : Q (.bool (v == .bool b)) s) (hv : absV v ≠ none) : wpAny M A (compareOp .Is v (.bool b)) Q E s := by
  cases v <;> first | exact wpAny_pure h | exact absurd rfl hv
theorem isnot_bool_gen {M : Model} {A : Around} {E : Value → Shared → Prop} {s : Shared} {Q : Value → Shared → Prop} {v : Value} {b : Bool} (h : Q (.bool (!(v == .bool b))) s) (hv : absV v ≠ none) : wpAny M A (compareOp .IsNot v (.bool b)) Q E s := by
  cases v <;> first | exact wpAny_pure h | exact absurd rfl hv
theorem rel_abs {x : V} {v : Value} (r : RelV x v) : absV v ≠ none := by rw [r.abs]; simp
theorem rel_bool {K : PySem.W.Frag} {O : Ow} {H : Hp} {x : V} {v : Value} {d : D} {b : Bool} (r : RelV x v) (h : RpW K O H x d) : isD d (.bool b) = .ok (.bool (v == .bool b)) := by
  cases d with
  | list ds => obtain ⟨a, xs, e, _⟩ := h; subst e; cases r; rfl
  | dict ds => obtain ⟨a, xs, e, _⟩ := h; subst e; cases r; rfl
  | none => cases (show Rp K O H x _ from h); cases r; rfl
  | bool c =>
    cases (show Rp K O H x _ from h); cases r
    show (Rs.ok (PyData.bool (c == b)) : Rs D) = _
    congr 2
    rw [Bool.eq_iff_iff]; simp
  | int i => cases (show Rp K O H x _ from h); obtain ⟨t, rfl⟩ := r; rfl
  | str z => cases (show Rp K O H x _ from h); obtain ⟨t, rfl⟩ := r; rfl
  | tuple ds => cases (show Rp K O H x _ from h); cases r; rfl
theorem rel_none {K : PySem.W.Frag} {O : Ow} {H : Hp} {x : V} {d : D} (h : RpW K O H x d) : isNone d = decide (x = .non) := by
  cases d with
  | list ds => obtain ⟨a, xs, e, _⟩ := h; subst e; rfl
  | dict ds => obtain ⟨a, xs, e, _⟩ := h; subst e; rfl
  | none => cases (show Rp K O H x _ from h); rfl
  | bool c => cases (show Rp K O H x _ from h); rfl
  | int i => cases (show Rp K O H x _ from h); rfl
  | str z => cases (show Rp K O H x _ from h); rfl
  | tuple ds => cases (show Rp K O H x _ from h); rfl
theorem is_ok : OpR X (compareOp .Is) (rIn2 X.K isD) := by
  intro pins s σ H x y v u Q I rx ry h
  obtain ⟨O, d, e, ot, hd, he, q⟩ := h
  cases e <;> try exact (show False from q).elim
  · cases (show Rp X.K O H y _ from he)
    have q' : Q (.bl (isNone d)) H := PoF.bool q
    rw [rel_none hd] at q'
    exact op_isN pins s σ H x _ v u Q I rx ry ⟨rfl, q'⟩
  · cases (show Rp X.K O H y _ from he)
    cases ry
    rw [rel_bool rx hd] at q
    exact is_bool_gen (fin2 I q.bool) (rel_abs rx)
theorem isn_ok : OpR X (compareOp .IsNot) (rIn2 X.K fun d e => notD (isD d e)) := by
  intro pins s σ H x y v u Q I rx ry h
  obtain ⟨O, d, e, ot, hd, he, q⟩ := h
  obtain ⟨b, eb, q⟩ := notD_ok q
  cases e <;> try (cases eb; done)
  · cases (show Rp X.K O H y _ from he)
    have e1 : isNone d = b := by
      have : Rs.ok (PyData.bool (isNone d)) = Rs.ok (PyData.bool b) := eb
      injection this with h1; injection h1
    rw [rel_none hd] at e1
    subst e1
    exact op_notN pins s σ H x _ v u Q I rx ry ⟨rfl, q⟩
  · cases (show Rp X.K O H y _ from he)
    cases ry
    rw [rel_bool rx hd] at eb
    injection eb with h1; injection h1 with h2
    subst h2
    exact isnot_bool_gen (fin2 I q) (rel_abs rx)
end
end Ws

set_option Elab.async false
set_option linter.all false
set_option maxRecDepth 100000
set_option maxHeartbeats 4000000
/-! Sim6: in, subscripts, slices -/
namespace Ws
open PySem PySem.Spec PyProof.Rows L2

theorem eqv_key (k k' : Key) : PyData.eqv (keyD k) (keyD k') = decide (k = k') := by
  cases k <;> cases k'
  · rw [key_ll]; rfl
  · rw [key_lr]; rfl
  · rw [key_rl]; rfl
  · rename_i a b
    rw [key_rr]
    show (a == b) = _
    rw [Bool.beq_eq_decide_eq]
theorem keyOf_D (k : Key) : keyOf (keyD k) = some k := by cases k <;> rfl
theorem keyOf_inv {d : D} {k : Key} (h : keyOf d = some k) : d = keyD k := by
  cases d <;> simp [keyOf] at h <;> subst h <;> rfl
section
variable {K : PySem.W.Frag} {O : Ow} {H : Hp}
theorem RpK.val : ∀ {kvs : List (Key × V)} {ds : List (D × D)}, RpK K O H kvs ds → ∀ k : Key,
    (∃ v d, valV kvs k = some v ∧ getK ds (keyD k) = some d ∧ Rp K O H v d) ∨ (valV kvs k = none ∧ getK ds (keyD k) = none)
  | _, _, .nil, k => .inr ⟨rfl, rfl⟩
  | _, _, .cons (k := k0) (v := v) (vs := vs) (d := d) (ds := ds) h r, k => by
    by_cases e : k0 = k
    · refine .inl ⟨v, d, valV_pos (p := (k0, v)) e, ?_, h⟩
      unfold getK
      rw [List.find?_cons]
      have : PyData.eqv (keyD k0) (keyD k) = true := by rw [eqv_key]; exact decide_eq_true e
      simp only [this]; rfl
    · have h2 : valV ((k0, v) :: vs) k = valV vs k := valV_neg (p := (k0, v)) e
      have h3 : getK ((keyD k0, d) :: ds) (keyD k) = getK ds (keyD k) := by
        unfold getK
        rw [List.find?_cons]
        have : PyData.eqv (keyD k0) (keyD k) = false := by rw [eqv_key]; exact decide_eq_false e
        simp only [this]
      rw [h2, h3]
      exact RpK.val r k
theorem RpK.length : ∀ {kvs : List (Key × V)} {ds : List (D × D)}, RpK K O H kvs ds → kvs.length = ds.length
  | _, _, .nil => rfl
  | _, _, .cons _ r => by simp [RpK.length r]
theorem RpK.map {k : Key} {v : V} {d : D} (q : Rp K O H v d) : ∀ {kvs : List (Key × V)} {ds : List (D × D)}, RpK K O H kvs ds →
    RpK K O H (kvs.map fun kv => if kv.1 = k then (kv.1, v) else kv) (ds.map fun p => if PyData.eqv p.1 (keyD k) then (p.1, d) else p)
  | _, _, .nil => .nil
  | _, _, .cons (k := k0) h r => by
    simp only [List.map_cons]
    rw [eqv_key]
    by_cases e : k0 = k
    · rw [if_pos e, if_pos (decide_eq_true e)]; exact .cons q (RpK.map q r)
    · rw [if_neg e, if_neg (by simpa using e)]; exact .cons h (RpK.map q r)
theorem RpK.snoc {k : Key} {v : V} {d : D} (q : Rp K O H v d) : ∀ {kvs : List (Key × V)} {ds : List (D × D)}, RpK K O H kvs ds → RpK K O H (kvs ++ [(k, v)]) (ds ++ [(keyD k, d)])
  | _, _, .nil => .cons q .nil
  | _, _, .cons h r => .cons h (RpK.snoc q r)
theorem RpK.put {k : Key} {v : V} {d : D} (q : Rp K O H v d) {kvs : List (Key × V)} {ds : List (D × D)} (r : RpK K O H kvs ds) : RpK K O H (putK kvs k v) (putD ds (keyD k) d) := by
  unfold putK putD
  rw [valV_any]
  rcases r.val k with ⟨v', d', h1, h2, _⟩ | ⟨h1, h2⟩
  · rw [h1, h2]; exact r.map q
  · rw [h1, h2]; exact r.snoc q
/-- what the dict holds at a key -/
theorem RpW.dget {x y : V} {kvs : List (D × D)} {k : Key} (h : RpW K O H x (.dict kvs)) (hy : RpW K O H y (keyD k)) : ∃ a o, x = .ref a ∧ DGet H a y o ∧ ((∃ v d, o = some v ∧ getK kvs (keyD k) = some d ∧ Rp K O H v d) ∨ (o = none ∧ getK kvs (keyD k) = none)) := by
  obtain ⟨a, vs, rfl, ha, r⟩ := h
  have ey : y = kV k := by
    cases k with
    | inl i => cases (show Rp K O H y (.int i) from hy); rfl
    | inr z => cases (show Rp K O H y (.str z) from hy); rfl
  refine ⟨a, valV vs k, rfl, .inl ⟨vs, k, .inl ha, ey, rfl⟩, ?_⟩
  rcases r.val k with ⟨v, d, h1, h2, h3⟩ | ⟨h1, h2⟩
  · exact .inl ⟨v, d, h1, h2, h3⟩
  · exact .inr ⟨h1, h2⟩
end

section
variable {X : Cx}
theorem inD_of {d e : D} {b : Bool} (h : inD d e = .ok (.bool b)) : ((∃ ds, (e = .list ds ∨ e = .tuple ds) ∧ lim 40 d = true ∧ lim 40 e = true ∧ b = ds.any fun z => PyData.eqv z d) ∨
    (∃ kvs k, e = .dict kvs ∧ d = keyD k ∧ b = (getK kvs d).isSome) ∨ ∃ y x, e = .str y ∧ d = .str x ∧ hasChar x y = some b) := by
  cases e with
  | list ds =>
    simp only [inD] at h
    split at h
    · rename_i c
      simp only [Bool.and_eq_true] at c
      injection h with h; injection h with h
      exact .inl ⟨ds, .inl rfl, c.1, c.2, h.symm⟩
    · cases h
  | tuple ds =>
    simp only [inD] at h
    split at h
    · rename_i c
      simp only [Bool.and_eq_true] at c
      injection h with h; injection h with h
      exact .inl ⟨ds, .inr rfl, c.1, c.2, h.symm⟩
    · cases h
  | dict kvs =>
    simp only [inD] at h
    split at h
    · rename_i k e
      injection h with h; injection h with h
      exact .inr (.inl ⟨kvs, k, rfl, keyOf_inv e, h.symm⟩)
    · cases h
  | str y =>
    cases d <;> simp only [inD] at h <;> try (cases h; done)
    rename_i x
    cases e : hasChar x y with
    | none => rw [e] at h; cases h
    | some c => rw [e] at h; simp at h; subst h; exact .inr (.inr ⟨y, x, rfl, rfl, e⟩)
  | none => cases h
  | bool c => cases h
  | int i => cases h
theorem PoF.boolOf {K : PySem.W.Frag} {O : Ow} {H : Hp} {d e : D} {Q : VK} (h : PoF K O H (inD d e) Q) : ∃ b, inD d e = .ok (.bool b) ∧ Q (.bl b) H := by
  cases e with
  | list ds =>
    simp only [inD] at h ⊢
    split at h
    · rename_i c; rw [if_pos c]; exact ⟨_, rfl, h.bool⟩
    · exact h.st.elim
  | tuple ds =>
    simp only [inD] at h ⊢
    split at h
    · rename_i c; rw [if_pos c]; exact ⟨_, rfl, h.bool⟩
    · exact h.st.elim
  | dict kvs =>
    simp only [inD] at h ⊢
    split at h
    · rename_i k c; exact ⟨_, rfl, h.bool⟩
    · exact h.st.elim
  | str y =>
    cases d <;> simp only [inD] at h ⊢ <;> try exact (show False from h).elim
    rename_i x
    cases e : hasChar x y with
    | none => rw [e] at h; exact (show False from h).elim
    | some c => rw [e] at h; exact ⟨c, rfl, h.bool⟩
  | none => exact (show False from h).elim
  | bool c => exact (show False from h).elim
  | int i => exact (show False from h).elim
theorem hasChar_of {x y : Str} {b : Bool} (h : hasChar x y = some b) : ∃ c, x = ⟨#[c]⟩ ∧ b = decide (c ∈ y.cps.toList) := by
  unfold hasChar at h
  split at h
  · rename_i c e
    refine ⟨c, ?_, (Option.some.inj h).symm⟩
    obtain ⟨⟨l⟩⟩ := x
    simp at e; subst e; rfl
  · cases h
theorem lim_all {d : D} {ds : List D} (h : d = .list ds ∨ d = .tuple ds) (l : lim 40 d = true) : ds.all (lim 39) = true := by
  rcases h with rfl | rfl <;> simpa [lim] using l
theorem in_gen {pins : List (Addr × Obj)} {s : Shared} {σ : L2.St} {H : Hp} {x y : V} {v u : Value} {Q : VK} {O : Ow} {d e : D} {b : Bool} {neg : Bool} (hu : X.A.units + 65 < cLine) (I : Inv X pins σ H s) (rx : RelV x v) (ry : RelV y u)
    (hd : RpW X.K O H x d) (he : RpW X.K O H y e) (hb : inD d e = .ok (.bool b)) (q : Q (.bl (if neg then !b else b)) H) :
    wpAny (model X.prog X.w) X.A (compareOp (if neg then .NotIn else .In) v u) (EP X pins σ Q) X.xe s := by
  rcases inD_of hb with ⟨ds, eq, l1, l2, rfl⟩ | ⟨kvs, k, rfl, rfl, rfl⟩ | ⟨z, z', rfl, rfl, hc⟩
  · have r1 := reads2 I rx hd l1
    have r2 := reads2 I ry he l2
    obtain ⟨as, r1⟩ := r1
    obtain ⟨bs, r2⟩ := r2
    have c1 := hd.lay l1
    have c2 := he.lay l2
    have dep := lim_depth 40 d l1
    have room : ∀ n : Nat, X.A.units + 1 + min n d.depth < cLine := fun n => by
      have := Nat.min_le_right n d.depth
      omega
    rcases eq with rfl | rfl
    · have c2' : PyData.canLayAll0 ds = true := by simpa [PyData.canLay0] using c2
      cases neg
      · exact SeqAt.in_list_reads r2 r1 c2' c1 (by first | exact room _ | (have := room 0; omega) | omega) (fin2 I q)
      · exact SeqAt.notIn_list_reads r2 r1 c2' c1 (by first | exact room _ | (have := room 0; omega) | omega) (fin2 I q)
    · have c2' : PyData.canLayAll0 ds = true := by simpa [PyData.canLay0] using c2
      cases neg
      · exact SeqAt.in_tuple_reads r2 r1 c2' c1 (by first | exact room _ | (have := room 0; omega) | omega) (fin2 I q)
      · exact SeqAt.notIn_tuple_reads r2 r1 c2' c1 (by first | exact room _ | (have := room 0; omega) | omega) (fin2 I q)
  · obtain ⟨a, o, rfl, g, ho⟩ := RpW.dget he hd
    cases ry
    have eo : o.isSome = (getK kvs (keyD k)).isSome := by
      rcases ho with ⟨v', d', rfl, h2, _⟩ | ⟨rfl, h2⟩ <;> rw [h2] <;> rfl
    cases neg
    · exact d_in (by omega) I g rx fun s3 I3 => ⟨.bl o.isSome, H, I3, rfl, by rw [eo]; exact q⟩
    · exact d_notIn (by omega) I g rx fun s3 I3 => ⟨.bl (!o.isSome), H, I3, rfl, by rw [eo]; exact q⟩
  · obtain ⟨c, rfl, rfl⟩ := hasChar_of hc
    cases (show Rp X.K O H x _ from hd)
    cases (show Rp X.K O H y _ from he)
    cases neg
    · exact op_in_sign pins s σ H _ _ v u Q I rx ry ⟨c, _, rfl, rfl, q⟩
    · exact op_notIn_sign pins s σ H _ _ v u Q I rx ry ⟨c, _, rfl, rfl, q⟩
theorem in_ok (hu : X.A.units + 65 < cLine) : OpR X (compareOp .In) (rIn2 X.K inD) := by
  intro pins s σ H x y v u Q I rx ry h
  obtain ⟨O, d, e, ot, hd, he, q⟩ := h
  obtain ⟨b, hb, q⟩ := q.boolOf
  exact in_gen (neg := false) hu I rx ry hd he hb q
theorem nin_ok (hu : X.A.units + 65 < cLine) : OpR X (compareOp .NotIn) (rIn2 X.K fun d e => notD (inD d e)) := by
  intro pins s σ H x y v u Q I rx ry h
  obtain ⟨O, d, e, ot, hd, he, q⟩ := h
  obtain ⟨b, hb, q⟩ := notD_ok q
  exact in_gen (neg := true) hu I rx ry hd he hb q
/-- every comparison -/
theorem cmp_ok (hu : X.A.units + 65 < cLine) (o : CmpOp) : OpR X (compareOp o) (rIn2 X.K (cmpD (cpOf o))) := by
  have hu' : X.A.units + 64 < cLine := by omega
  cases o with
  | Eq => exact eq_ok hu'
  | NotEq => exact ne_ok hu'
  | Lt => exact lt_ok hu'
  | LtE => exact le_ok hu'
  | Gt => exact gt_ok hu'
  | GtE => exact ge_ok hu'
  | Is => exact is_ok
  | IsNot => exact isn_ok
  | In => exact in_ok hu
  | NotIn => exact nin_ok hu

/-! ### subscripts -/
theorem atI_eq {α : Type} (xs : List α) (i : Int) : atI xs i = ixD xs i := by
  unfold atI ixN ixD
  by_cases h : 0 ≤ i
  · rw [if_pos h, if_pos h]
    by_cases h2 : i < xs.length
    · rw [if_pos h2]; rfl
    · rw [if_neg h2]
      exact (List.getElem?_eq_none_iff.mpr (by omega)).symm
  · rw [if_neg h, if_neg h]
    by_cases h2 : -(xs.length : Int) ≤ i
    · rw [if_pos h2, if_pos h2]; rfl
    · rw [if_neg h2, if_neg h2]; rfl
theorem Rps.at {K : PySem.W.Frag} {O : Ow} {H : Hp} {vs : List V} {ds : List D} {i : Int} {d : D} (r : Rps K O H vs ds) (h : ixD ds i = some d) : ∃ v, atI vs i = some v ∧ Rp K O H v d := by
  rw [atI_eq]
  unfold ixD at *
  rw [r.length]
  split at h
  · rename_i c; rw [if_pos c]; exact r.get h
  · rename_i c; rw [if_neg c]
    split at h
    · rename_i c2; rw [if_pos c2]; exact r.get h
    · cases h
theorem PoF.of {K : PySem.W.Frag} {O : Ow} {H : Hp} {o : Option D} {Q : VK} (h : PoF K O H (Rs.of o) Q) : ∃ d, o = some d ∧ PoF K O H (.ok d) Q := by
  cases o with
  | none => exact (show False from h).elim
  | some d => exact ⟨d, rfl, h⟩
/-- an answer that stands in H already -/
def Po (K : PySem.W.Frag) (O : Ow) (H : Hp) (r : Rs D) (Q : VK) : Prop := match r with
  | .ok d => ∀ v H', Same H H' → Rp K O H' v d → Q v H'
  | _ => False
theorem Po.of {K : PySem.W.Frag} {O : Ow} {H : Hp} {o : Option D} {Q : VK} (h : Po K O H (Rs.of o) Q) : ∃ d, o = some d ∧ Po K O H (.ok d) Q := by
  cases o with
  | none => exact (show False from h).elim
  | some d => exact ⟨d, rfl, h⟩
theorem strOk_one {z : Str} {c : Nat} {i : Int} (h : PyData.strOk z = true) (e : ixD z.cps.toList i = some c) : PyData.strOk ⟨#[c]⟩ = true := by
  have hm : c ∈ z.cps.toList := by
    unfold ixD at e
    split at e
    · exact List.mem_of_getElem? e
    · split at e
      · exact List.mem_of_getElem? e
      · cases e
  unfold PyData.strOk at *
  rw [← Array.all_toList] at h
  have := List.all_eq_true.mp h c hm
  simp at this ⊢; exact this
theorem idx_ok (hu : X.A.units + 65 < cLine) : IxR X (fun x y H Q => ∃ O d e, OT O H ∧ RpW X.K O H x d ∧ RpW X.K O H y e ∧ Po X.K O H (idxD d e) Q) := by
  intro value slice pins s σ H x y v u Q I rx ry h hs
  obtain ⟨O, d, e, ot, hd, he, q⟩ := h
  cases d with
  | list ds =>
    cases e <;> try exact (show False from q).elim
    rename_i i
    obtain ⟨a, xs, rfl, ha, za, ra⟩ := hd
    cases (show Rp X.K O H y _ from he)
    obtain ⟨d, hd, q⟩ := Po.of q
    obtain ⟨w, hw, rw'⟩ := ra.at hd
    exact ix_list value slice pins s σ H _ _ v u Q I rx ry ⟨a, xs, i, w, rfl, rfl, ha, hw, q w H (Same.refl H) rw'⟩ hs
  | tuple ds =>
    cases e <;> try exact (show False from q).elim
    rename_i i
    cases (show Rp X.K O H x _ from hd) with | tup ha za ra =>
    cases (show Rp X.K O H y _ from he)
    obtain ⟨d, hd, q⟩ := Po.of q
    obtain ⟨w, hw, rw'⟩ := ra.at hd
    exact ix_tup value slice pins s σ H _ _ v u Q I rx ry ⟨_, _, i, w, rfl, rfl, ha, hw, q w H (Same.refl H) rw'⟩ hs
  | str z =>
    cases e <;> try exact (show False from q).elim
    rename_i i
    cases (show Rp X.K O H x _ from hd) with | str _ h1 h2 =>
    cases (show Rp X.K O H y _ from he)
    simp only [idxD] at q
    cases e : ixD z.cps.toList i with
    | none => rw [e] at q; exact (show False from q).elim
    | some c =>
      rw [e] at q
      refine ix_str value slice pins s σ H _ _ v u Q I rx ry ⟨z, i, c, rfl, rfl, h2, by rw [atI_eq]; exact e, ?_⟩ hs
      exact q (.str ⟨#[c]⟩) H (Same.refl H) (.str _ (strOk_one h1 e) (by show (1 : Nat) ≤ sizeLine; rw [sizeLine_eq]; decide))
  | dict kvs =>
    simp only [idxD] at q
    split at q
    · rename_i k ek
      have := keyOf_inv ek
      subst this
      obtain ⟨d, hd', q⟩ := Po.of q
      obtain ⟨a, o, rfl, g, ho⟩ := RpW.dget hd he
      rcases ho with ⟨w, d', rfl, h2, h3⟩ | ⟨rfl, h2⟩
      · rw [hd'] at h2
        cases h2
        cases rx
        unfold subscriptTail
        refine wpAny_bind ?_
        rw [getitemInPython_of_ne (dict_typeIs I g).not_modules]
        refine wpAny_bind (wpAny_specialOf (dict_typeIs I g) PySem.F.slot_dict_getitem.lookup ?_)
        have fin : wpAny (model X.prog X.w) X.A (subscripted slice false (.ref a) u) (fun r s₃ => wpAny (model X.prog X.w) X.A (letTemporaryGo value (.ref a) r >>= fun _ => pure r) (EP X pins σ Q) X.xe s₃) X.xe s := by
          rw [hs]
          exact wpAny_operating (d_getItem (by omega) I g ry fun w' s3 I3 rw' => wpAny_bind (wpAny_letTemporaryGo (wpAny_pure ⟨w, H, I3, rw', q w H (Same.refl H) h3⟩)))
        first
          | exact wpAny_pure (wpAny_bind fin)
          | exact wpAny_bind (wpAny_pure (wpAny_bind fin))
          | exact wpAny_bind fin
      · rw [hd'] at h2; cases h2
    · exact (show False from q).elim
  | none => cases e <;> exact (show False from q).elim
  | bool b => cases e <;> exact (show False from q).elim
  | int i => cases e <;> exact (show False from q).elim

/-! ### slices -/
theorem Rps.cut {K : PySem.W.Frag} {O : Ow} {H : Hp} {vs : List V} {ds : List D} (r : Rps K O H vs ds) (lo hi : Option Int) : Rps K O H (cutV vs lo hi) (cutD ds lo hi) := by
  unfold cutV cutD
  rw [r.length]
  exact (r.drop _).take _
theorem sli_ok : SlR X (fun x lo hi H Q => ∃ O d, OT O H ∧ RpW X.K O H x d ∧ PoF X.K O H (sliD d lo hi) Q) := by
  intro pins s σ H x v vl vu lo hi sl Q I rx hs pl pu h
  obtain ⟨O, d, ot, hd, q⟩ := h
  cases d with
  | list ds =>
    obtain ⟨a, xs, rfl, ha, za, ra⟩ := hd
    exact sl_list pins s σ H _ v vl vu lo hi sl Q I rx hs pl pu ⟨a, xs, rfl, ha, fun p hp => q _ _ (same_new hp) (Fr.newL hp (ra.cut lo hi) (Nat.le_trans (cutV_length _ _ _) za))⟩
  | tuple ds =>
    cases (show Rp X.K O H x _ from hd) with | tup ha za ra =>
    rename_i a xs
    refine sl_tupA pins s σ H _ v vl vu lo hi sl Q I rx hs pl pu ⟨a, xs, rfl, ha, fun hw => ?_, fun _ p hp => q _ _ (same_new hp) (Rp.newT hp (ra.cut lo hi) (Nat.le_trans (cutV_length _ _ _) za))⟩
    refine q _ H (Same.refl H) (Rp.tup ha za ?_)
    have e : cutD ds lo hi = ds := by
      unfold cutD
      rw [← ra.length, hw.1, hw.2]
      simp [ra.length]
    rw [e]; exact ra
  | none => exact (show False from q).elim
  | bool b => exact (show False from q).elim
  | int i => exact (show False from q).elim
  | str z => exact (show False from q).elim
  | dict kvs => exact (show False from q).elim
end
end Ws

set_option Elab.async false
set_option linter.all false
set_option maxRecDepth 100000
set_option maxHeartbeats 4000000
/-! Sim7: the built-in functions -/
namespace Ws
open PySem PySem.Spec PyProof.Rows L2

/-! ### sorting: by insertion -/
theorem insD_at {α : Type} {le : α → α → Bool} {a : α} : ∀ {l r : List α}, (∀ b ∈ l, le a b = false) → (∀ b ∈ r.head?, le a b = true) → insD le a (l ++ r) = l ++ a :: r
  | [], [], _, _ => rfl
  | [], b :: r, _, h => by
    show (if le a b = true then _ else _) = _
    rw [if_pos (h b rfl)]; rfl
  | b :: l, r, h, h' => by
    show (if le a b = true then _ else _) = _
    rw [if_neg (by rw [h b List.mem_cons_self]; decide)]
    exact congrArg (b :: ·) (insD_at (l := l) (fun c hc => h c (List.mem_cons_of_mem _ hc)) h')
theorem sortD_merge {α : Type} {le : α → α → Bool} (tr : ∀ a b c, le a b = true → le b c = true → le a c = true) (tot : ∀ a b, (le a b || le b a) = true) : ∀ xs : List α, xs.mergeSort le = sortD le xs
  | [] => by simp [sortD]
  | a :: xs => by
    obtain ⟨l1, l2, e1, e2, h⟩ := List.mergeSort_cons tr tot a xs
    have ih := sortD_merge tr tot xs
    show _ = insD le a (sortD le xs)
    rw [← ih, e2, e1]
    refine (insD_at (fun b hb => by simpa using h b hb) fun b hb => ?_).symm
    have s : ((a :: xs).mergeSort le).Pairwise fun x y => le x y = true := List.pairwise_mergeSort tr tot (a :: xs)
    rw [e1] at s
    have s2 := (List.pairwise_append.mp s).2.1
    refine (List.pairwise_cons.mp s2).1 b ?_
    cases l2 with
    | nil => cases hb
    | cons c r => simp at hb; subst hb; exact List.mem_cons_self
theorem leT_eq : PySem.W.dataLe false (fun d : D => d) = leT := by
  funext a b
  rw [PySem.W.dataLe_eq]; rfl
theorem sortD_data (xs : List D) : xs.mergeSort (PySem.W.dataLe false fun d : D => d) = sortD leT xs := by
  rw [← leT_eq]
  have t := PySem.W.sortLe_total (PyProof.Rows.listOrd itemOrd) false fun d : D => PySem.W.keyToks d
  exact sortD_merge t.trans (fun a b => by rw [Bool.or_eq_true]; exact t.total a b) xs
theorem sortD_perm {α : Type} {le : α → α → Bool} : ∀ xs : List α, (sortD le xs).Perm xs
  | [] => .nil
  | a :: xs => by
    have ins : ∀ (l : List α), (insD le a l).Perm (a :: l) := fun l => by
      induction l with
      | nil => exact .refl _
      | cons b l ih =>
        show (if le a b = true then _ else _ : List α).Perm _
        split
        · exact .refl _
        · exact (ih.cons b).trans (.swap a b l)
    exact (ins _).trans ((sortD_perm xs).cons a)

theorem allOk_of {xs : List D} (h : allOk xs = true) : PySem.W.AllAlike xs ∧ (∀ d ∈ xs, d ≠ .none) ∧ ∀ d ∈ xs, lim 40 d = true := by
  unfold allOk at h
  rw [List.all_eq_true] at h
  refine ⟨fun d hd e he => ?_, fun d hd => ?_, fun d hd => ?_⟩
  · have := h d hd
    simp only [Bool.and_eq_true, List.all_eq_true] at this
    exact this.2 e he
  · have := h d hd
    simp only [Bool.and_eq_true, Bool.not_eq_true'] at this
    exact isNone_iff this.1.1
  · have := h d hd
    simp only [Bool.and_eq_true] at this
    exact this.1.2
theorem sortOk_of {xs : List D} (h : sortOk xs = true) : PySem.W.AllAlike xs ∧ PySem.W.Sortable xs ∧ ∀ d ∈ xs, lim 40 d = true := by
  unfold sortOk at h
  simp only [Bool.and_eq_true, Bool.or_eq_true] at h
  obtain ⟨h1, h2⟩ := h
  obtain ⟨a, n, l⟩ := allOk_of h1
  refine ⟨a, ?_, l⟩
  rcases h2 with h2 | h2
  · refine .inl fun d hd => ?_
    have := List.all_eq_true.mp h2 d hd
    cases d <;> simp [isTup] at this
    rename_i ys
    cases ys with
    | nil => simp [isTup] at this
    | cons y r => exact ⟨y, r, rfl⟩
  · refine .inr fun d hd => ⟨n d hd, fun ys e => ?_⟩
    have := List.all_eq_true.mp h2 d hd
    subst e
    simp [isTupE] at this

section
variable {K : PySem.W.Frag} {O : Ow} {H : Hp}
/-- the values behind a list's items: what they stand for -/
def RV (K : PySem.W.Frag) (O : Ow) (H : Hp) (u : Value) (d : D) : Prop := ∃ x, RelV x u ∧ Rp K O H x d
theorem rv_each : ∀ {xs : List V} {us : List Value} {ds : List D}, Vals xs us → Rps K O H xs ds → PySem.W.EachIs (RV K O H) us ds
  | _, _, _, .nil, .nil => .nil
  | _, _, _, .cons r rs, .cons h hs => .cons ⟨_, r, h⟩ (rv_each rs hs)
theorem rv_back : ∀ {us : List Value} {ds : List D}, PySem.W.EachIs (RV K O H) us ds → ∃ xs, Vals xs us ∧ Rps K O H xs ds
  | _, _, .nil => ⟨[], .nil, .nil⟩
  | _, _, .cons ⟨x, r, h⟩ t => by
    obtain ⟨xs, rs, hs⟩ := rv_back t
    exact ⟨x :: xs, .cons r rs, .cons h hs⟩
inductive RpWs (K : PySem.W.Frag) (O : Ow) (H : Hp) : List V → List D → Prop
  | nil : RpWs K O H [] []
  | cons {v : V} {vs : List V} {d : D} {ds : List D} : RpW K O H v d → RpWs K O H vs ds → RpWs K O H (v :: vs) (d :: ds)
theorem Rps.weak : ∀ {vs : List V} {ds : List D}, Rps K O H vs ds → RpWs K O H vs ds
  | _, _, .nil => .nil
  | _, _, .cons h r => .cons h.weak (Rps.weak r)
theorem RpWs.same {H' : Hp} (s : Same H H') : ∀ {vs : List V} {ds : List D}, RpWs K O H vs ds → RpWs K O H' vs ds
  | _, _, .nil => .nil
  | _, _, .cons h r => .cons (h.same s) (RpWs.same s r)
end

section
variable {X : Cx} {pins : List (Addr × Obj)} {s : Shared} {σ : L2.St} {H : Hp}
theorem reads_each (I : Inv X pins σ H s) {O : Ow} : ∀ {xs : List V} {us : List Value} {ds : List D}, Vals xs us → Rps X.K O H xs ds → (∀ d ∈ ds, lim 40 d = true) → PySem.W.EachIs (fun v d => ∃ as, Reads s.heap v d as) us ds
  | _, _, _, .nil, .nil, _ => .nil
  | _, _, _, .cons r rs, .cons h hs, l => .cons (reads2 I r h.weak (l _ List.mem_cons_self)) (reads_each I rs hs fun d hd => l d (List.mem_cons_of_mem _ hd))
theorem reads_all (I : Inv X pins σ H s) {O : Ow} : ∀ {xs : List V} {us : List Value} {ds : List D}, Vals xs us → Rps X.K O H xs ds → (∀ d ∈ ds, lim 40 d = true) → ∃ as, ReadsAll s.heap us ds as
  | _, _, _, .nil, .nil, _ => ⟨_, .nil⟩
  | _, _, _, .cons r rs, .cons h hs, l => by
    obtain ⟨as, h1⟩ := reads2 I r h.weak (l _ List.mem_cons_self)
    obtain ⟨bs, h2⟩ := reads_all I rs hs fun d hd => l d (List.mem_cons_of_mem _ hd)
    exact ⟨_, .cons h1 h2⟩
theorem depths_all {ds : List D} (l : ∀ d ∈ ds, lim 40 d = true) : PyData.depthAll ds ≤ 40 := by
  induction ds with
  | nil => simp [PyData.depthAll]
  | cons d ds ih =>
    have h1 := lim_depth 40 d (l d List.mem_cons_self)
    have h2 := ih fun e he => l e (List.mem_cons_of_mem _ he)
    simp only [PyData.depthAll]; omega
end

/-- what stands for the built-in -/
def biVal : Bi → Value
  | .len => .builtin "len" | .abs => .builtin "abs" | .max => .builtin "max" | .min => .builtin "min" | .maxd => .builtin "max" | .mind => .builtin "min"
  | .sum => .builtin "sum" | .any => .builtin "any" | .all => .builtin "all" | .sorted => .builtin "sorted"
  | .tuple => .type "tuple" | .list => .type "list" | .int => .type "int" | .gcd => .builtin "math.gcd" | .str => .type "str"
/-- its answer is new -/
abbrev biNew : Bi → Bool := biFr
/-- an answer, new or not -/
def PoB (fr : Bool) (K : PySem.W.Frag) (O : Ow) (H : Hp) (r : Rs D) (Q : VK) : Prop := match fr with
  | true => PoF K O H r Q
  | false => Po K O H r Q
abbrev rBi (K : PySem.W.Frag) (b : Bi) : List V → Hp → VK → Prop := fun xs H Q => ∃ O ds, OT O H ∧ RpWs K O H xs ds ∧ PoB (biNew b) K O H (biD b ds) Q

section
variable {X : Cx}
theorem intsD_some {K : PySem.W.Frag} {O : Ow} {H : Hp} : ∀ {xs : List V} {ds : List D} {ns : List Int}, Rps K O H xs ds → intsD ds = some ns → xs = ns.map V.int
  | _, _, ns, .nil, h => by simp [intsD] at h; subst h; rfl
  | _, _, ns, .cons (d := d) (ds := ds) h r, e => by
    have e' : (intOf d).bind (fun i => (intsD ds).map (i :: ·)) = some ns := by
      unfold intsD at e ⊢
      rw [List.mapM_cons] at e
      cases h1 : intOf d with
      | none => rw [h1] at e; cases e
      | some i =>
        rw [h1] at e
        cases h2 : ds.mapM intOf with
        | none => rw [h2] at e; cases e
        | some l => rw [h2] at e; exact e
    cases d <;> try (cases e'; done)
    rename_i i
    cases h
    cases h2 : intsD ds with
    | none => rw [h2] at e'; cases e'
    | some l =>
      rw [h2] at e'
      cases e'
      rw [intsD_some r h2]; rfl
theorem bolsD_some {K : PySem.W.Frag} {O : Ow} {H : Hp} : ∀ {xs : List V} {ds : List D} {ns : List Bool}, Rps K O H xs ds → bolsD ds = some ns → xs = ns.map V.bl
  | _, _, ns, .nil, h => by simp [bolsD] at h; subst h; rfl
  | _, _, ns, .cons (d := d) (ds := ds) h r, e => by
    have e' : (bolOf d).bind (fun i => (bolsD ds).map (i :: ·)) = some ns := by
      unfold bolsD at e ⊢
      rw [List.mapM_cons] at e
      cases h1 : bolOf d with
      | none => rw [h1] at e; cases e
      | some i =>
        rw [h1] at e
        cases h2 : ds.mapM bolOf with
        | none => rw [h2] at e; cases e
        | some l => rw [h2] at e; exact e
    cases d <;> try (cases e'; done)
    rename_i i
    cases h
    cases h2 : bolsD ds with
    | none => rw [h2] at e'; cases e'
    | some l =>
      rw [h2] at e'
      cases e'
      rw [bolsD_some r h2]; rfl
theorem listW {K : PySem.W.Frag} {O : Ow} {H : Hp} {v : V} {ds : List D} (h : RpW K O H v (.list ds)) : ∃ a xs, v = .ref a ∧ SqL K H a xs ∧ xs.length ≤ sizeLine ∧ Rps K O H xs ds := h
theorem tupW {K : PySem.W.Frag} {O : Ow} {H : Hp} {v : V} {ds : List D} (h : RpW K O H v (.tuple ds)) : ∃ a xs, v = .ref a ∧ SqT K H a xs ∧ xs.length ≤ sizeLine ∧ Rps K O H xs ds := by
  cases (show Rp K O H v _ from h) with
  | tup ha z r => exact ⟨_, _, rfl, ha, z, r⟩
theorem intW {K : PySem.W.Frag} {O : Ow} {H : Hp} {v : V} {i : Int} (h : RpW K O H v (.int i)) : v = .int i := by
  cases (show Rp K O H v _ from h); rfl
theorem boolW {K : PySem.W.Frag} {O : Ow} {H : Hp} {v : V} {b : Bool} (h : RpW K O H v (.bool b)) : v = .bl b := by
  cases (show Rp K O H v _ from h); rfl
theorem strW {K : PySem.W.Frag} {O : Ow} {H : Hp} {v : V} {x : Str} (h : RpW K O H v (.str x)) : v = .str x ∧ PyData.strOk x = true ∧ x.length ≤ sizeLine := by
  cases (show Rp K O H v _ from h) with
  | str _ h1 h2 => exact ⟨rfl, h1, h2⟩
theorem one_of {K : PySem.W.Frag} {O : Ow} {H : Hp} {xs : List V} {d : D} (h : RpWs K O H xs [d]) : ∃ x, xs = [x] ∧ RpW K O H x d := by
  cases h with
  | cons h t => cases t; exact ⟨_, rfl, h⟩
theorem two_of {K : PySem.W.Frag} {O : Ow} {H : Hp} {xs : List V} {d e : D} (h : RpWs K O H xs [d, e]) : ∃ x y, xs = [x, y] ∧ RpW K O H x d ∧ RpW K O H y e := by
  cases h with
  | cons h t =>
    cases t with
    | cons h2 t2 => cases t2; exact ⟨_, _, rfl, h, h2⟩

theorem bi_len : CallR X (.builtin "len") (rBi X.K .len) := by
  intro pins s σ H xs us Q I r h
  obtain ⟨O, ds, ot, hd, q⟩ := h
  have q : PoF X.K O H (biD .len ds) Q := q
  match ds, hd, q with
  | [.list ds], hd, q =>
    obtain ⟨x, rfl, h1⟩ := one_of hd
    obtain ⟨a, ys, rfl, ha, z, ra⟩ := listW h1
    refine call_len pins s σ H _ us Q I r ⟨_, ys.length, rfl, .inl ⟨ys, ha, rfl⟩, ?_⟩
    rw [ra.length]; exact PoF.int q
  | [.tuple ds], hd, q =>
    obtain ⟨x, rfl, h1⟩ := one_of hd
    obtain ⟨a, ys, rfl, ha, z, ra⟩ := tupW h1
    refine call_len pins s σ H _ us Q I r ⟨_, ys.length, rfl, .inr ⟨ys, ha, rfl⟩, ?_⟩
    rw [ra.length]; exact PoF.int q
  | [.str z], hd, q =>
    obtain ⟨x, rfl, h1⟩ := one_of hd
    obtain ⟨rfl, h2, h3⟩ := strW h1
    exact call_len pins s σ H _ us Q I r ⟨_, z.length, rfl, ⟨h3, rfl⟩, PoF.int q⟩
  | [.dict kvs], hd, q =>
    obtain ⟨x, rfl, h1⟩ := one_of hd
    obtain ⟨a, vs, rfl, ha, ra⟩ := h1
    obtain ⟨u, rfl, ru⟩ := vals1 r
    cases ru
    have e := ra.length
    exact d_len I (.inl ha) fun t s' I' => ⟨.int vs.length, H, I', ⟨_, rfl⟩, by rw [e]; exact PoF.int q⟩
  | [], _, q => exact q.st.elim
  | [.none], _, q => exact q.st.elim
  | [.bool _], _, q => exact q.st.elim
  | [.int _], _, q => exact q.st.elim
  | _ :: _ :: _, _, q => exact (show False by simpa [biD, PoF] using q).elim
theorem bi_abs : CallR X (.builtin "abs") (rBi X.K .abs) := by
  intro pins s σ H xs us Q I r h
  obtain ⟨O, ds, ot, hd, q⟩ := h
  have q : PoF X.K O H (biD .abs ds) Q := q
  match ds, hd, q with
  | [.int i], hd, q =>
    obtain ⟨x, rfl, h1⟩ := one_of hd
    cases intW h1
    exact call_abs pins s σ H _ us Q I r ⟨i, rfl, PoF.int q⟩
  | [], _, q => exact q.st.elim
  | [.none], _, q => exact q.st.elim
  | [.bool _], _, q => exact q.st.elim
  | [.str _], _, q => exact q.st.elim
  | [.list _], _, q => exact q.st.elim
  | [.tuple _], _, q => exact q.st.elim
  | [.dict _], _, q => exact q.st.elim
  | _ :: _ :: _, _, q => exact (show False by simpa [biD, PoF] using q).elim
theorem bi_int : CallR X (.type "int") (rBi X.K .int) := by
  intro pins s σ H xs us Q I r h
  obtain ⟨O, ds, ot, hd, q⟩ := h
  have q : PoF X.K O H (biD .int ds) Q := q
  match ds, hd, q with
  | [.int i], hd, q =>
    obtain ⟨x, rfl, h1⟩ := one_of hd
    cases intW h1
    exact call_int1 pins s σ H _ us Q I r (.inl ⟨i, rfl, PoF.int q⟩)
  | [.bool b], hd, q =>
    obtain ⟨x, rfl, h1⟩ := one_of hd
    cases boolW h1
    exact call_int1 pins s σ H _ us Q I r (.inr ⟨b, rfl, PoF.int q⟩)
  | [], _, q => exact q.st.elim
  | [.none], _, q => exact q.st.elim
  | [.str _], _, q => exact q.st.elim
  | [.list _], _, q => exact q.st.elim
  | [.tuple _], _, q => exact q.st.elim
  | [.dict _], _, q => exact q.st.elim
  | _ :: _ :: _, _, q => exact (show False by simpa [biD, PoF] using q).elim
theorem biD_gcd (ds : List D) : (∃ a b, ds = [.int a, .int b]) ∨ biD .gcd ds = .st := by
  unfold biD; split <;> first | (exact .inl ⟨_, _, rfl⟩) | (exact .inr rfl) | simp_all
theorem bi_gcd : CallR X (.builtin "math.gcd") (rBi X.K .gcd) := by
  intro pins s σ H xs us Q I r h
  obtain ⟨O, ds, ot, hd, q⟩ := h
  have q : PoF X.K O H (biD .gcd ds) Q := q
  rcases biD_gcd ds with ⟨a, b, rfl⟩ | e
  · obtain ⟨x, y, rfl, h1, h2⟩ := two_of hd
    cases intW h1; cases intW h2
    exact cr_gcd pins s σ H _ us Q I r ⟨a, b, rfl, PoF.int q⟩
  · rw [e] at q; exact q.st.elim
end
end Ws

set_option Elab.async false
set_option linter.all false
set_option maxRecDepth 100000
set_option maxHeartbeats 4000000
/-! Sim8: the built-in functions of lists -/
namespace Ws
open PySem PySem.Spec PyProof.Rows L2
section
variable {X : Cx}
theorem biD_sum (ds : List D) : (∃ xs, ds = [.list xs]) ∨ biD .sum ds = .st := by
  unfold biD; split <;> first | (exact .inl ⟨_, rfl⟩) | (exact .inr rfl) | simp_all
theorem biD_any (ds : List D) : (∃ xs, ds = [.list xs]) ∨ biD .any ds = .st := by
  unfold biD; split <;> first | (exact .inl ⟨_, rfl⟩) | (exact .inr rfl) | simp_all
theorem biD_all (ds : List D) : (∃ xs, ds = [.list xs]) ∨ biD .all ds = .st := by
  unfold biD; split <;> first | (exact .inl ⟨_, rfl⟩) | (exact .inr rfl) | simp_all
theorem biD_tuple (ds : List D) : (∃ xs, ds = [.list xs]) ∨ (∃ xs, ds = [.tuple xs]) ∨ biD .tuple ds = .st := by
  unfold biD; split <;> first | (exact .inl ⟨_, rfl⟩) | (exact .inr (.inl ⟨_, rfl⟩)) | (exact .inr (.inr rfl)) | simp_all
theorem biD_list (ds : List D) : (∃ xs, ds = [.list xs]) ∨ (∃ xs, ds = [.tuple xs]) ∨ biD .list ds = .st := by
  unfold biD; split <;> first | (exact .inl ⟨_, rfl⟩) | (exact .inr (.inl ⟨_, rfl⟩)) | (exact .inr (.inr rfl)) | simp_all
theorem biD_sorted (ds : List D) : (∃ xs, ds = [.list xs]) ∨ (∃ xs, ds = [.tuple xs]) ∨ biD .sorted ds = .st := by
  unfold biD; split <;> first | (exact .inl ⟨_, rfl⟩) | (exact .inr (.inl ⟨_, rfl⟩)) | (exact .inr (.inr rfl)) | simp_all
theorem biD_max (ds : List D) : (∃ i j, ds = [.int i, .int j]) ∨ (∃ xs, ds = [.list xs]) ∨ (∃ xs, ds = [.tuple xs]) ∨ biD .max ds = .st := by
  unfold biD; split <;> first | (exact .inl ⟨_, _, rfl⟩) | (exact .inr (.inl ⟨_, rfl⟩)) | (exact .inr (.inr (.inl ⟨_, rfl⟩))) | (exact .inr (.inr (.inr rfl))) | simp_all
theorem biD_min (ds : List D) : (∃ i j, ds = [.int i, .int j]) ∨ (∃ xs, ds = [.list xs]) ∨ (∃ xs, ds = [.tuple xs]) ∨ biD .min ds = .st := by
  unfold biD; split <;> first | (exact .inl ⟨_, _, rfl⟩) | (exact .inr (.inl ⟨_, rfl⟩)) | (exact .inr (.inr (.inl ⟨_, rfl⟩))) | (exact .inr (.inr (.inr rfl))) | simp_all

theorem bi_sum (hc : X.calm = true) : CallR X (.builtin "sum") (rBi X.K .sum) := by
  intro pins s σ H xs us Q I r h
  obtain ⟨O, ds, ot, hd, q⟩ := h
  have q : PoF X.K O H (biD .sum ds) Q := q
  rcases biD_sum ds with ⟨es, rfl⟩ | e
  · obtain ⟨x, rfl, h1⟩ := one_of hd
    obtain ⟨a, ys, rfl, ha, z, ra⟩ := listW h1
    have q : PoF X.K O H ((Rs.of (intsD es)).bnd fun ns => .ok (.int ns.sum)) Q := q
    cases e : intsD es with
    | none => rw [e] at q; exact q.st.elim
    | some ns =>
      rw [e] at q
      have := intsD_some ra e
      subst this
      exact cr_sum hc pins s σ H _ us Q I r ⟨a, ns, rfl, ha, PoF.int q⟩
  · rw [e] at q; exact q.st.elim
theorem bi_any (hc : X.calm = true) : CallR X (.builtin "any") (rBi X.K .any) := by
  intro pins s σ H xs us Q I r h
  obtain ⟨O, ds, ot, hd, q⟩ := h
  have q : PoF X.K O H (biD .any ds) Q := q
  rcases biD_any ds with ⟨es, rfl⟩ | e
  · obtain ⟨x, rfl, h1⟩ := one_of hd
    obtain ⟨a, ys, rfl, ha, z, ra⟩ := listW h1
    have q : PoF X.K O H ((Rs.of (bolsD es)).bnd fun ns => .ok (.bool (ns.any id))) Q := q
    cases e : bolsD es with
    | none => rw [e] at q; exact q.st.elim
    | some ns =>
      rw [e] at q
      have := bolsD_some ra e
      subst this
      exact cr_any hc pins s σ H _ us Q I r ⟨a, ns, rfl, ha, PoF.bool q⟩
  · rw [e] at q; exact q.st.elim
theorem bi_all (hc : X.calm = true) : CallR X (.builtin "all") (rBi X.K .all) := by
  intro pins s σ H xs us Q I r h
  obtain ⟨O, ds, ot, hd, q⟩ := h
  have q : PoF X.K O H (biD .all ds) Q := q
  rcases biD_all ds with ⟨es, rfl⟩ | e
  · obtain ⟨x, rfl, h1⟩ := one_of hd
    obtain ⟨a, ys, rfl, ha, z, ra⟩ := listW h1
    have q : PoF X.K O H ((Rs.of (bolsD es)).bnd fun ns => .ok (.bool (ns.all id))) Q := q
    cases e : bolsD es with
    | none => rw [e] at q; exact q.st.elim
    | some ns =>
      rw [e] at q
      have := bolsD_some ra e
      subst this
      exact cr_all hc pins s σ H _ us Q I r ⟨a, ns, rfl, ha, PoF.bool q⟩
  · rw [e] at q; exact q.st.elim
theorem bi_tuple : CallR X (.type "tuple") (rBi X.K .tuple) := by
  intro pins s σ H xs us Q I r h
  obtain ⟨O, ds, ot, hd, q⟩ := h
  have q : PoF X.K O H (biD .tuple ds) Q := q
  rcases biD_tuple ds with ⟨es, rfl⟩ | ⟨es, rfl⟩ | e
  · obtain ⟨x, rfl, h1⟩ := one_of hd
    obtain ⟨a, ys, rfl, ha, z, ra⟩ := listW h1
    exact call_tuple_of pins s σ H _ us Q I r ⟨a, ys, rfl, .inl ⟨ha, fun l hl => q _ _ (same_new hl) (Rp.newT hl ra z)⟩⟩
  · obtain ⟨x, rfl, h1⟩ := one_of hd
    obtain ⟨a, ys, rfl, ha, z, ra⟩ := tupW h1
    exact call_tuple_of pins s σ H _ us Q I r ⟨a, ys, rfl, .inr ⟨ha, q _ H (Same.refl H) (Rp.tup ha z ra)⟩⟩
  · rw [e] at q; exact q.st.elim
theorem bi_list : CallR X (.type "list") (rBi X.K .list) := by
  intro pins s σ H xs us Q I r h
  obtain ⟨O, ds, ot, hd, q⟩ := h
  have q : PoF X.K O H (biD .list ds) Q := q
  rcases biD_list ds with ⟨es, rfl⟩ | ⟨es, rfl⟩ | e
  · obtain ⟨x, rfl, h1⟩ := one_of hd
    obtain ⟨a, ys, rfl, ha, z, ra⟩ := listW h1
    exact call_list_of pins s σ H _ us Q I r ⟨a, ys, rfl, .inl ha, fun l hl => q _ _ (same_new hl) (Fr.newL hl ra z)⟩
  · obtain ⟨x, rfl, h1⟩ := one_of hd
    obtain ⟨a, ys, rfl, ha, z, ra⟩ := tupW h1
    exact call_list_of pins s σ H _ us Q I r ⟨a, ys, rfl, .inr ha, fun l hl => q _ _ (same_new hl) (Fr.newL hl ra z)⟩
  · rw [e] at q; exact q.st.elim

/-! ### sorted -/
/-- the new list behind sorted -/
theorem sorted_end {pins : List (Addr × Obj)} {s : Shared} {σ : L2.St} {H : Hp} {O : Ow} {es : List D} {vs out : List Value} {Q : VK} (I : Inv X pins σ H s) (hz : es.length ≤ sizeLine) (hl : out.length = es.length)
    (eo : PySem.W.EachIs (RV X.K O H) out (es.mergeSort (PySem.W.dataLe false fun d : D => d))) (q : PoF X.K O H (.ok (.list (sortD leT es))) Q) :
    EP X pins σ Q (.ref (s.heap.objs.size + 1)) { s with heap := sortedAll s.heap vs out.toArray } := by
  rw [sortD_data] at eo
  obtain ⟨xs, r1, r2⟩ := rv_back eo
  obtain ⟨c, hc⟩ := sortedAll_at s.heap vs out.toArray
  have hn : H (s.heap.objs.size + 1) = none := I.hok.fresh (Nat.le_succ _)
  have hx : xs.length ≤ sizeLine := by rw [r1.length, hl]; exact hz
  refine ⟨.ref (s.heap.objs.size + 1), upd H (s.heap.objs.size + 1) (.lst xs), I.laid (t' := s.toks) (fun b o e => sortedAll_old e) (Nat.le_succ _) ⟨hx, out, c, r1, hc⟩, rfl, ?_⟩
  exact q _ _ (same_new hn) (Fr.newL hn r2 hx)
/-- as list.sort and sorted begin: a new list of a tuple's items -/
theorem collect_tup {prog : Program} {w : World} {A : Around} {E : Value → Shared → Prop} {s : Shared} {l : Addr} {vs : List Value} {Q : List Value → Shared → Prop} (hl : IsTup s.heap l vs.toArray) (hsz : vs.length ≤ sizeLine)
    (h : Q vs { s with heap := (s.heap.push (seqObj "list" #[] 0)).update s.heap.objs.size (Obj.mapSeq (· ++ vs.toArray)) }) : wpAny (model prog w) A (collect (.ref l)) Q E s := by
  obtain ⟨o, ho, hc, n, hd⟩ := id hl
  unfold collect
  refine wpAny_bind (wpAny_runValue (codeAny_builtin entry_proto_collect' ?_))
  show wpAny _ _ (do again (.builtin "list.__iadd__" ⟨[← newList [], .ref l], []⟩)) _ _ s
  refine wpAny_bind (wpAny_newList (wpAny_pure ⟨Code.quiet_builtin _ (by decide +kernel), codeAny_builtin entry_list_iadd' ?_⟩))
  have ho2 : (s.heap.push (seqObj "list" #[] 0)).get? l = some o := Heap.get?_push_of_some _ ho
  have hnew := Heap.get?_push_size s.heap (o := seqObj "list" #[] 0) rfl
  show wpAny _ _ (Builtin.List.listExtendWith (.ref s.heap.objs.size) (.ref l) (.ref s.heap.objs.size)) _ _ { s with heap := s.heap.push (seqObj "list" #[] 0) }
  unfold Builtin.List.listExtendWith
  refine wpAny_bind (wpAny_typeOf (T := "tuple") ⟨o, ho2, hc⟩ ?_)
  have ht : (Value.type "tuple" == Value.type "tuple") = true := rfl
  rw [if_pos (by rw [ht]; simp)]
  refine wpAny_bind (listItems_at ho2 hd (wpAny_bind (listItems_at (xs := #[]) (n := 0) hnew rfl ?_)))
  rw [if_neg (by simp)]
  refine wpAny_bind (listUpdate_at (xs := #[]) (n := 0) hnew rfl (wpAny_pure ?_) (Nat.zero_le _) (by show (#[] ++ vs.toArray).size ≤ sizeLine + 1; simp only [Array.size_append, List.size_toArray, List.length_nil]; omega))
  refine wpAny_bind (wpAny_load (get?_update_seq hnew _) ?_)
  have e : ((#[] : Array Value) ++ vs.toArray).toList = vs := by simp
  show wpAny _ _ (pure ((#[] : Array Value) ++ vs.toArray).toList) Q E _
  rw [e]
  exact wpAny_pure h
theorem map_idD (ds : List D) : ds.map (fun d : D => d) = ds := List.map_id' ds
theorem sorted_tup {prog : Program} {w : World} {A : Around} {E : Value → Shared → Prop} {s : Shared} {R : Value → D → Prop} {l : Addr} {vs : List Value} {bs : List D} {Q : Value → Shared → Prop} (hl : IsTup s.heap l vs.toArray) (e : PySem.W.EachIs R vs bs)
    (er : PySem.W.EachIs (fun v d => ∃ as, Reads s.heap v d as) vs bs) (hal : PySem.W.AllAlike bs) (hk : PySem.W.Sortable bs) (hL : bs.length ≤ sizeLine) (hu : ∀ b, b ∈ bs → A.units + 2 + b.depth < cLine)
    (h : ∀ out, out.length = bs.length → PySem.W.EachIs R out (bs.mergeSort (PySem.W.dataLe false fun d : D => d)) → Q (.ref (s.heap.objs.size + 1)) { s with heap := sortedAll s.heap vs (List.toArray out) }) :
    wpAny (model prog w) A (PySem.call (.builtin "sorted") [.ref l]) Q E s := by
  have hz : vs.length ≤ sizeLine := by rw [e.length]; exact hL
  have er' : PySem.W.EachIs (fun v d => ∃ as, Reads (PySem.W.sortingHeap (PySem.W.copyHeap s.heap vs) (s.heap.objs.size + 1) vs) v d as) vs bs := er.mono fun _ _ ⟨as, r⟩ => ⟨as, PyProof.Rows.Reads.keeps (fun _ _ => PySem.W.sorting_copy_old) r⟩
  have S := PySem.W.SortsAt.data (prog := prog) (w := w) (A := A.in1.in1) (s := { s with heap := PySem.W.sortingHeap (PySem.W.copyHeap s.heap vs) (s.heap.objs.size + 1) vs }) er' hal hk (fun d hd => hu d hd)
  refine call_function_entry_kw kind_sorted plain_sorted entry_sorted (args_sorted1 _) ?_
  unfold Builtin.«sorted»
  refine wpAny_bind (m := checkCount "sorted" 1 1 _) (wpAny_pure (wpAny_bind (collect_tup hl hz (wpAny_bind (wpAny_newList ?_ hz)))))
  have hsz : ((s.heap.push (seqObj "list" #[] 0)).update s.heap.objs.size (Obj.mapSeq (· ++ vs.toArray))).objs.size = s.heap.objs.size + 1 := by
    rw [Heap.size_update, size_push']
  show wpAny _ _ _ _ _ { s with heap := PySem.W.copyHeap s.heap vs }
  rw [hsz]
  have hat := PySem.W.copyHeap_at s.heap vs
  refine wpAny_bind (wpAny_holding (wpAny_call_entry_kw slot_list_sort ⟨_, hat, rfl⟩ entry_list_sort (PySem.W.list_sort_vals (s := { s with heap := PySem.W.copyHeap s.heap vs }) hat S hz ⟨_, rfl, ?_⟩) (args_list_sort _)))
  refine wpAny_pure ⟨_, rfl, h _ ?_ ?_⟩
  · rw [PySem.W.sortVals_length false rfl]; exact e.length
  · have z := PySem.W.sortVals_data (enc := fun d : D => d) false e (by exact er') (by rw [List.map_id']; exact hal)
    rw [map_idD] at z
    exact z
theorem bi_sorted (hu : X.A.units + 64 < cLine) : CallR X (.builtin "sorted") (rBi X.K .sorted) := by
  intro pins s σ H xs us Q I r h
  obtain ⟨O, ds, ot, hd, q⟩ := h
  have q : PoF X.K O H (biD .sorted ds) Q := q
  rcases biD_sorted ds with ⟨es, rfl⟩ | ⟨es, rfl⟩ | e
  · obtain ⟨x, rfl, h1⟩ := one_of hd
    obtain ⟨a, ys, rfl, ha, z, ra⟩ := listW h1
    have q : PoF X.K O H (if sortOk es then .ok (.list (sortD leT es)) else .st) Q := q
    split at q
    · rename_i ok
      obtain ⟨al, so, li⟩ := sortOk_of ok
      obtain ⟨u, rfl, ru⟩ := vals1 r
      obtain rfl : u = Value.ref a := ru
      obtain ⟨its, rv, hl, _⟩ := I.list ha
      have hz : es.length ≤ sizeLine := by rw [← ra.length]; exact z
      exact PySem.W.sorted_data (enc := fun d : D => d) hl.isList (rv_each rv ra) (reads_each I rv ra li) (by rw [map_idD]; exact al) (by rw [map_idD]; exact so) hz
        (fun b hb => by have := lim_depth 40 b (li b hb); show X.A.units + 2 + b.depth < cLine; omega) fun out ho eo => sorted_end I hz ho eo q
    · exact q.st.elim
  · obtain ⟨x, rfl, h1⟩ := one_of hd
    obtain ⟨a, ys, rfl, ha, z, ra⟩ := tupW h1
    have q : PoF X.K O H (if sortOk es then .ok (.list (sortD leT es)) else .st) Q := q
    split at q
    · rename_i ok
      obtain ⟨al, so, li⟩ := sortOk_of ok
      obtain ⟨u, rfl, ru⟩ := vals1 r
      obtain rfl : u = Value.ref a := ru
      obtain ⟨its, rv, hl, _⟩ := I.tuple ha
      have hz : es.length ≤ sizeLine := by rw [← ra.length]; exact z
      exact sorted_tup hl (rv_each rv ra) (reads_each I rv ra li) al so hz
        (fun b hb => by have := lim_depth 40 b (li b hb); omega) fun out ho eo => sorted_end I hz ho eo q
    · exact q.st.elim
  · rw [e] at q; exact q.st.elim

/-! ### max, min -/
theorem alike_of {es : List D} (ok : allOk es = true) : PySem.W.AlikeAll es ∧ ∀ d ∈ es, lim 40 d = true := by
  obtain ⟨al, nn, li⟩ := allOk_of ok
  exact ⟨⟨al, nn⟩, li⟩
theorem best_end {pins : List (Addr × Obj)} {s : Shared} {σ : L2.St} {H : Hp} {O : Ow} {ys : List V} {its : List Value} {es : List D} {Q : VK} {d : D} {i : Nat} {v : Value} {h' : Heap} {tk : Nat} {bs : List Addr} (I : Inv X pins σ H s) (rv : Vals ys its) (ra : Rps X.K O H ys es)
    (al : PySem.W.AlikeAll es) (li : ∀ d ∈ es, lim 40 d = true) (hd : d ∈ es) (hv : its.toArray[i]? = some v) (rd : Reads h' v d bs) (k : ∀ b o, s.heap.get? b = some o → h'.get? b = some o) (q : Po X.K O H (.ok d) Q) :
    EP X pins σ Q v { s with heap := h', toks := tk } := by
  have hv' : its[i]? = some v := by simpa using hv
  have hi : i < its.length := by
    rcases Nat.lt_or_ge i its.length with h | h
    · exact h
    · rw [List.getElem?_eq_none h] at hv'; cases hv'
  have hlen := rv.length
  obtain ⟨y, hy⟩ : ∃ y, ys[i]? = some y := ⟨ys[i]'(by omega), by simp⟩
  obtain ⟨u, hu, ry⟩ := rv.get hy
  rw [hv'] at hu; cases hu
  obtain ⟨e, he, re⟩ := ra.getV hy
  have hm : e ∈ es := List.mem_of_getElem? he
  have I' : Inv X pins σ H { s with heap := h', toks := tk } := I.kept k
  obtain ⟨as, r2⟩ := reads2 I' ry re.weak (li e hm)
  have : e = d := PySem.W.alike_unique e d v as bs (al.1 e hm d hd) r2 rd
  subst this
  exact ⟨y, H, I', ry, q y H (Same.refl H) re⟩
theorem minD_mem : ∀ (xs : List D) (x : D), PySem.W.minD x xs ∈ x :: xs := by
  intro xs
  induction xs with
  | nil => intro x; exact List.mem_cons_self
  | cons y ys ih =>
    intro x
    show PySem.W.minD (if PySem.W.dataLt y x then y else x) ys ∈ _
    have := ih (if PySem.W.dataLt y x then y else x)
    rcases List.mem_cons.mp this with e | e
    · rw [e]
      split
      · exact List.mem_cons_of_mem _ List.mem_cons_self
      · exact List.mem_cons_self
    · exact List.mem_cons_of_mem _ (List.mem_cons_of_mem _ e)
theorem maxD_mem : ∀ (xs : List D) (x : D), PySem.W.maxD x xs ∈ x :: xs := by
  intro xs
  induction xs with
  | nil => intro x; exact List.mem_cons_self
  | cons y ys ih =>
    intro x
    show PySem.W.maxD (if PySem.W.dataLt x y then y else x) ys ∈ _
    have := ih (if PySem.W.dataLt x y then y else x)
    rcases List.mem_cons.mp this with e | e
    · rw [e]
      split
      · exact List.mem_cons_of_mem _ List.mem_cons_self
      · exact List.mem_cons_self
    · exact List.mem_cons_of_mem _ (List.mem_cons_of_mem _ e)
theorem Po.int {K : PySem.W.Frag} {O : Ow} {H : Hp} {i : Int} {Q : VK} (h : Po K O H (.ok (.int i)) Q) : Q (.int i) H := h _ H (Same.refl H) (Rp.int i)
theorem bi_min (hc : X.calm = true) (hu : X.A.units + 64 < cLine) : CallR X (.builtin "min") (rBi X.K .min) := by
  intro pins s σ H xs us Q I r h
  obtain ⟨O, ds, ot, hd, q⟩ := h
  have q : Po X.K O H (biD .min ds) Q := q
  rcases biD_min ds with ⟨i, j, rfl⟩ | ⟨es, rfl⟩ | ⟨es, rfl⟩ | e
  · obtain ⟨x, y, rfl, h1, h2⟩ := two_of hd
    cases intW h1; cases intW h2
    exact call_min2 hc pins s σ H _ us Q I r ⟨i, j, rfl, Po.int q⟩
  · obtain ⟨x, rfl, h1⟩ := one_of hd
    obtain ⟨a, ys, rfl, ha, z, ra⟩ := listW h1
    have q : Po X.K O H (if allOk es then Rs.of (minL es) else .st) Q := q
    split at q
    · rename_i ok
      obtain ⟨al, li⟩ := alike_of ok
      obtain ⟨u, rfl, ru⟩ := vals1 r
      obtain rfl : u = Value.ref a := ru
      obtain ⟨its, rv, hl, _⟩ := I.list ha
      obtain ⟨as, rr⟩ := reads_all I rv ra li
      have dp := depths_all li
      cases es with
      | nil => exact (show False from q).elim
      | cons e es => exact PySem.W.min_list_data (I.ok.hd hc) hl.isList (by simpa using rr) al (by omega) fun i v h' tk bs hv rd k => best_end I rv ra al li (minD_mem es e) hv rd k q
    · exact (show False from q).elim
  · obtain ⟨x, rfl, h1⟩ := one_of hd
    obtain ⟨a, ys, rfl, ha, z, ra⟩ := tupW h1
    have q : Po X.K O H (if allOk es then Rs.of (minL es) else .st) Q := q
    split at q
    · rename_i ok
      obtain ⟨al, li⟩ := alike_of ok
      obtain ⟨u, rfl, ru⟩ := vals1 r
      obtain rfl : u = Value.ref a := ru
      obtain ⟨its, rv, hl, _⟩ := I.tuple ha
      obtain ⟨as, rr⟩ := reads_all I rv ra li
      have dp := depths_all li
      cases es with
      | nil => exact (show False from q).elim
      | cons e es => exact PySem.W.min_tuple_data (I.ok.hd hc) hl (by simpa using rr) al (by omega) fun i v h' tk bs hv rd k => best_end I rv ra al li (minD_mem es e) hv rd k q
    · exact (show False from q).elim
  · rw [e] at q; exact (show False from q).elim
theorem bi_max (hc : X.calm = true) (hu : X.A.units + 64 < cLine) : CallR X (.builtin "max") (rBi X.K .max) := by
  intro pins s σ H xs us Q I r h
  obtain ⟨O, ds, ot, hd, q⟩ := h
  have q : Po X.K O H (biD .max ds) Q := q
  rcases biD_max ds with ⟨i, j, rfl⟩ | ⟨es, rfl⟩ | ⟨es, rfl⟩ | e
  · obtain ⟨x, y, rfl, h1, h2⟩ := two_of hd
    cases intW h1; cases intW h2
    exact call_max2 hc pins s σ H _ us Q I r ⟨i, j, rfl, Po.int q⟩
  · obtain ⟨x, rfl, h1⟩ := one_of hd
    obtain ⟨a, ys, rfl, ha, z, ra⟩ := listW h1
    have q : Po X.K O H (if allOk es then Rs.of (maxL es) else .st) Q := q
    split at q
    · rename_i ok
      obtain ⟨al, li⟩ := alike_of ok
      obtain ⟨u, rfl, ru⟩ := vals1 r
      obtain rfl : u = Value.ref a := ru
      obtain ⟨its, rv, hl, _⟩ := I.list ha
      obtain ⟨as, rr⟩ := reads_all I rv ra li
      have dp := depths_all li
      cases es with
      | nil => exact (show False from q).elim
      | cons e es => exact PySem.W.max_list_data (I.ok.hd hc) hl.isList (by simpa using rr) al (by omega) fun i v h' tk bs hv rd k => best_end I rv ra al li (maxD_mem es e) hv rd k q
    · exact (show False from q).elim
  · obtain ⟨x, rfl, h1⟩ := one_of hd
    obtain ⟨a, ys, rfl, ha, z, ra⟩ := tupW h1
    have q : Po X.K O H (if allOk es then Rs.of (maxL es) else .st) Q := q
    split at q
    · rename_i ok
      obtain ⟨al, li⟩ := alike_of ok
      obtain ⟨u, rfl, ru⟩ := vals1 r
      obtain rfl : u = Value.ref a := ru
      obtain ⟨its, rv, hl, _⟩ := I.tuple ha
      obtain ⟨as, rr⟩ := reads_all I rv ra li
      have dp := depths_all li
      cases es with
      | nil => exact (show False from q).elim
      | cons e es => exact PySem.W.max_tuple_data (I.ok.hd hc) hl (by simpa using rr) al (by omega) fun i v h' tk bs hv rd k => best_end I rv ra al li (maxD_mem es e) hv rd k q
    · exact (show False from q).elim
  · rw [e] at q; exact (show False from q).elim
/-- a built-in that comp knows by its name -/
theorem bi_ok (hc : X.calm = true) (hu : X.A.units + 64 < cLine) {x : Str} {b : Bi} (h : biOf x = some b) : CallR X (biVal b) (rBi X.K b) ∧ bootBuiltins x = some (biVal b) ∧ x ≠ "__name__" ∧ (x == ("__debug__" : Str)) = false ∧
    ((∃ id, biVal b = .builtin id) ∨ ∃ T, biVal b = .type T) := by
  unfold biOf at h
  split at h
  · rename_i e; cases h; subst e; exact ⟨bi_len, by decide +kernel, by decide +kernel, by decide +kernel, .inl ⟨_, rfl⟩⟩
  split at h
  · rename_i e; cases h; subst e; exact ⟨bi_abs, by decide +kernel, by decide +kernel, by decide +kernel, .inl ⟨_, rfl⟩⟩
  split at h
  · rename_i e; cases h; subst e; exact ⟨bi_max hc hu, by decide +kernel, by decide +kernel, by decide +kernel, .inl ⟨_, rfl⟩⟩
  split at h
  · rename_i e; cases h; subst e; exact ⟨bi_min hc hu, by decide +kernel, by decide +kernel, by decide +kernel, .inl ⟨_, rfl⟩⟩
  split at h
  · rename_i e; cases h; subst e; exact ⟨bi_sum hc, by decide +kernel, by decide +kernel, by decide +kernel, .inl ⟨_, rfl⟩⟩
  split at h
  · rename_i e; cases h; subst e; exact ⟨bi_any hc, by decide +kernel, by decide +kernel, by decide +kernel, .inl ⟨_, rfl⟩⟩
  split at h
  · rename_i e; cases h; subst e; exact ⟨bi_all hc, by decide +kernel, by decide +kernel, by decide +kernel, .inl ⟨_, rfl⟩⟩
  split at h
  · rename_i e; cases h; subst e; exact ⟨bi_sorted hu, by decide +kernel, by decide +kernel, by decide +kernel, .inl ⟨_, rfl⟩⟩
  split at h
  · rename_i e; cases h; subst e; exact ⟨bi_tuple, by decide +kernel, by decide +kernel, by decide +kernel, .inr ⟨_, rfl⟩⟩
  split at h
  · rename_i e; cases h; subst e; exact ⟨bi_list, by decide +kernel, by decide +kernel, by decide +kernel, .inr ⟨_, rfl⟩⟩
  split at h
  · rename_i e; cases h; subst e; exact ⟨bi_int, by decide +kernel, by decide +kernel, by decide +kernel, .inr ⟨_, rfl⟩⟩
  · cases h
end
end Ws

set_option Elab.async false
set_option linter.all false
set_option maxRecDepth 100000
set_option maxHeartbeats 4000000
/-! Sim9: readings by the pure language -/
namespace Ws
open PySem PySem.Spec PyProof.Rows L2

def atS : Str := "at"
/-- the slots hold what the pure slots say -/
def ER (K : PySem.W.Frag) (O : Ow) (H : Hp) (σ : L2.St) (ε : Env) : Prop := ε.length ≤ σ.length ∧ ∀ (i : Nat) (s : Sl), ε[i]? = some s → match s with
  | .u => True
  | .f d => ∃ v, σ[i]? = some (some v) ∧ Rp K O H v d
  | .o d => ∃ v, σ[i]? = some (some v) ∧ RpW K O H v d
theorem ER.same {K : PySem.W.Frag} {O : Ow} {H H' : Hp} {σ : L2.St} {ε : Env} (h : ER K O H σ ε) (s : Same H H') : ER K O H' σ ε := ⟨h.1, fun i x e => by
  have := h.2 i x e
  cases x with
  | u => trivial
  | f d => obtain ⟨v, h1, h2⟩ := this; exact ⟨v, h1, h2.same s⟩
  | o d => obtain ⟨v, h1, h2⟩ := this; exact ⟨v, h1, h2.same s⟩⟩

/-- what is wanted of a BadValue with this place -/
def exW (K : PySem.W.Frag) (C : Addr) (W : WX) (O : Ow) (σ : L2.St) (H : Hp) (d : D) : Prop :=
  ∀ dx v H', Same H H' → H' dx = some (.xd [(atS, v)]) → Rp K O H' v d → W (.ref C) (some dx) σ H'
theorem exW.same {K : PySem.W.Frag} {C : Addr} {W : WX} {O : Ow} {σ : L2.St} {H H' : Hp} {d : D} (h : exW K C W O σ H d) (s : Same H H') : exW K C W O σ H' d :=
  fun dx v H2 s2 e r => h dx v H2 (s.trans s2) e r

/-- an answer's use -/
def Res {α : Type} (K : PySem.W.Frag) (C : Addr) (W : WX) (O : Ow) (σ : L2.St) (H : Hp) (r : Rs α) (k : α → Prop) : Prop := match r with
  | .ok a => k a
  | .ex d => exW K C W O σ H d
  | .st => False
abbrev kD (K : PySem.W.Frag) (O : Ow) (H : Hp) (Q : VK) : D → Prop := fun d => ∀ v H', Same H H' → Rp K O H' v d → Q v H'
abbrev kW (K : PySem.W.Frag) (O : Ow) (H : Hp) (Q : VK) : D → Prop := fun d => ∀ v H', Same H H' → RpW K O H' v d → Q v H'
abbrev kF (K : PySem.W.Frag) (O : Ow) (H : Hp) (Q : VK) : D → Prop := fun d => ∀ v H', Same H H' → Fr K O H H' v d → Q v H'
abbrev kT (H : Hp) (Q : Bool → Hp → Prop) : D → Prop := fun d => ∀ H', Same H H' → Q (truth d) H'
abbrev kL (K : PySem.W.Frag) (O : Ow) (H : Hp) (Q : List V → Hp → Prop) : List D → Prop := fun ds => ∀ vs H', Same H H' → Rps K O H' vs ds → Q vs H'
abbrev kLW (K : PySem.W.Frag) (O : Ow) (H : Hp) (Q : List V → Hp → Prop) : List D → Prop := fun ds => ∀ vs H', Same H H' → RpWs K O H' vs ds → Q vs H'

section
variable (K : PySem.W.Frag) (φ : Nat → List D → Rs D) (C : Addr) (W : WX)
def tD (e : E) : TE := fun σ H Q => ∃ O ε, ER K O H σ ε ∧ OT O H ∧ Res K C W O σ H (ev φ e ε) (kD K O H Q)
def tW (e : E) : TE := fun σ H Q => ∃ O ε, ER K O H σ ε ∧ OT O H ∧ Res K C W O σ H (ev φ e ε) (kW K O H Q)
def tF (e : E) : TE := fun σ H Q => ∃ O ε, ER K O H σ ε ∧ OT O H ∧ Res K C W O σ H (ev φ e ε) (kF K O H Q)
def tT (e : E) : TT := fun σ H Q => ∃ O ε, ER K O H σ ε ∧ OT O H ∧ Res K C W O σ H (ev φ e ε) (kT H Q)
def tA (es : List E) : TA := fun σ H Q => ∃ O ε, ER K O H σ ε ∧ OT O H ∧ Res K C W O σ H (evs φ es ε) (kL K O H Q)
def tAW (es : List E) : TA := fun σ H Q => ∃ O ε, ER K O H σ ε ∧ OT O H ∧ Res K C W O σ H (evs φ es ε) (kLW K O H Q)
end

section
variable {K : PySem.W.Frag} {φ : Nat → List D → Rs D} {C : Addr} {W : WX} {O : Ow} {ε : Env} {σ : L2.St} {H : Hp}
/-- through the first part of an answer -/
theorem Res.bind {α β : Type} {r : Rs α} {f : α → Rs β} {k : β → Prop} {k' : α → Prop} (h : Res K C W O σ H (r.bnd f) k) (g : ∀ a, r = .ok a → Res K C W O σ H (f a) k → k' a) : Res K C W O σ H r k' := by
  cases r with
  | ok a => exact g a rfl h
  | ex d => exact h
  | st => exact h
theorem Res.imp {α : Type} {r : Rs α} {k k' : α → Prop} (h : Res K C W O σ H r k) (g : ∀ a, r = .ok a → k a → k' a) : Res K C W O σ H r k' := by
  cases r with
  | ok a => exact g a rfl h
  | ex d => exact h
  | st => exact h
theorem Res.same {α : Type} {r : Rs α} {k k' : α → Prop} {H' : Hp} (h : Res K C W O σ H r k) (s : Same H H') (g : ∀ a, k a → k' a) : Res K C W O σ H' r k' := by
  cases r with
  | ok a => exact g a h
  | ex d => exact exW.same h s
  | st => exact h
theorem Res.sD {r : Rs D} {Q : VK} {H' : Hp} (h : Res K C W O σ H r (kD K O H Q)) (s : Same H H') : Res K C W O σ H' r (kD K O H' Q) := h.same s fun _ k v H2 s2 r => k v H2 (s.trans s2) r
theorem Res.sW {r : Rs D} {Q : VK} {H' : Hp} (h : Res K C W O σ H r (kW K O H Q)) (s : Same H H') : Res K C W O σ H' r (kW K O H' Q) := h.same s fun _ k v H2 s2 r => k v H2 (s.trans s2) r
theorem Res.sF {r : Rs D} {Q : VK} {H' : Hp} (h : Res K C W O σ H r (kF K O H Q)) (s : Same H H') : Res K C W O σ H' r (kF K O H' Q) := h.same s fun _ k v H2 s2 r => k v H2 (s.trans s2) (r.same0 s)
theorem Res.sT {r : Rs D} {Q : Bool → Hp → Prop} {H' : Hp} (h : Res K C W O σ H r (kT H Q)) (s : Same H H') : Res K C W O σ H' r (kT H' Q) := h.same s fun _ k H2 s2 => k H2 (s.trans s2)
theorem Res.sL {r : Rs (List D)} {Q : List V → Hp → Prop} {H' : Hp} (h : Res K C W O σ H r (kL K O H Q)) (s : Same H H') : Res K C W O σ H' r (kL K O H' Q) := h.same s fun _ k v H2 s2 r => k v H2 (s.trans s2) r
theorem Res.sLW {r : Rs (List D)} {Q : List V → Hp → Prop} {H' : Hp} (h : Res K C W O σ H r (kLW K O H Q)) (s : Same H H') : Res K C W O σ H' r (kLW K O H' Q) := h.same s fun _ k v H2 s2 r => k v H2 (s.trans s2) r

/-- r never is an error -/
def NoEx {α : Type} (r : Rs α) : Prop := ∀ d, r ≠ .ex d
theorem Res.poF {r : Rs D} {Q : VK} (n : NoEx r) (ot : OT O H) (h : Res K C W O σ H r (kD K O H Q)) : PoF K O H r Q := by
  cases r with
  | ok d => exact fun v H' s f => h v H' s (f.rp ot |> fun x => x)
  | ex d => exact absurd rfl (n d)
  | st => exact h
theorem Res.poF' {r : Rs D} {Q : VK} (n : NoEx r) (h : Res K C W O σ H r (kF K O H Q)) : PoF K O H r Q := by
  cases r with
  | ok d => exact h
  | ex d => exact absurd rfl (n d)
  | st => exact h
theorem Res.po {r : Rs D} {Q : VK} (n : NoEx r) (h : Res K C W O σ H r (kD K O H Q)) : Po K O H r Q := by
  cases r with
  | ok d => exact h
  | ex d => exact absurd rfl (n d)
  | st => exact h
theorem NoEx.ok {α : Type} (a : α) : NoEx (Rs.ok a) := fun _ h => by cases h
theorem NoEx.st {α : Type} : NoEx (Rs.st : Rs α) := fun _ h => by cases h
theorem NoEx.of {α : Type} (o : Option α) : NoEx (Rs.of o) := by cases o <;> exact fun _ h => by cases h
theorem NoEx.bnd {α β : Type} {r : Rs α} {f : α → Rs β} (h : NoEx r) (g : ∀ a, NoEx (f a)) : NoEx (r.bnd f) := by
  cases r with
  | ok a => exact g a
  | ex d => exact absurd rfl (h d)
  | st => exact NoEx.st
theorem NoEx.ite {α : Type} {c : Prop} [Decidable c] {a b : Rs α} (h : NoEx a) (g : NoEx b) : NoEx (if c then a else b) := by split <;> assumption
theorem binD_noex (o : Op2) (d e : D) : NoEx (binD o d e) := by
  unfold binD; split <;> first | exact NoEx.ok _ | exact NoEx.st | exact NoEx.ite (NoEx.ok _) NoEx.st
theorem negD_noex (d : D) : NoEx (negD d) := by cases d <;> first | exact NoEx.ok _ | exact NoEx.st
theorem notD_noex {r : Rs D} (h : NoEx r) : NoEx (notD r) := h.bnd fun d => by cases d <;> first | exact NoEx.ok _ | exact NoEx.st
theorem eqD_noex (d e : D) : NoEx (eqD d e) := NoEx.ite (NoEx.ok _) NoEx.st
theorem ltB_noex (d e : D) : NoEx (ltB d e) := NoEx.ite (NoEx.ok _) NoEx.st
theorem inD_noex (d e : D) : NoEx (inD d e) := by
  unfold inD
  split
  · exact NoEx.ite (NoEx.ok _) NoEx.st
  · exact NoEx.ite (NoEx.ok _) NoEx.st
  · split <;> first | exact NoEx.ok _ | exact NoEx.st
  · split
    · exact (NoEx.of _).bnd fun _ => NoEx.ok _
    · exact NoEx.st
  · exact NoEx.st
theorem isD_noex (d e : D) : NoEx (isD d e) := by
  unfold isD
  split
  · exact NoEx.ok _
  · split <;> exact NoEx.ok _
  · exact NoEx.st
theorem cmpD_noex (o : Cp) (d e : D) : NoEx (cmpD o d e) := by
  cases o
  · exact eqD_noex d e
  · exact notD_noex (eqD_noex d e)
  · exact ltB_noex d e
  · exact notD_noex (ltB_noex e d)
  · exact ltB_noex e d
  · exact notD_noex (ltB_noex d e)
  · exact isD_noex d e
  · exact notD_noex (isD_noex d e)
  · exact inD_noex d e
  · exact notD_noex (inD_noex d e)
theorem idxD_noex (d e : D) : NoEx (idxD d e) := by
  unfold idxD
  split
  · exact NoEx.of _
  · exact NoEx.of _
  · exact (NoEx.of _).bnd fun _ => NoEx.ok _
  · split
    · exact NoEx.of _
    · exact NoEx.st
  · exact NoEx.st
theorem sliD_noex (d : D) (lo hi : Option Int) : NoEx (sliD d lo hi) := by cases d <;> first | exact NoEx.ok _ | exact NoEx.st
theorem revD_noex (d : D) : NoEx (revD d) := by cases d <;> first | exact NoEx.ok _ | exact NoEx.st
theorem biD_noex (b : Bi) (ds : List D) : NoEx (biD b ds) := by
  unfold biD
  split <;> first
    | exact NoEx.ok _
    | exact NoEx.st
    | exact NoEx.ite (NoEx.of _) NoEx.st
    | exact NoEx.ite (NoEx.ok _) NoEx.st
    | exact (NoEx.of _).bnd fun _ => NoEx.ok _
/-- a comparison gives a truth value -/
theorem cmpD_bool {o : Cp} {d e x : D} (h : cmpD o d e = .ok x) : ∃ b, x = .bool b := by
  have nb : ∀ {r : Rs D} {x : D}, notD r = .ok x → ∃ b, x = .bool b := by
    intro r x h
    cases r with
    | ok z => cases z <;> first | (cases h; done) | (injection h with h; exact ⟨_, h.symm⟩)
    | ex z => cases h
    | st => cases h
  have eb : ∀ {d e x : D}, eqD d e = .ok x → ∃ b, x = .bool b := by
    intro d e x h; unfold eqD at h; split at h
    · injection h with h; exact ⟨_, h.symm⟩
    · cases h
  have lb : ∀ {d e x : D}, ltB d e = .ok x → ∃ b, x = .bool b := by
    intro d e x h; unfold ltB at h; split at h
    · injection h with h; exact ⟨_, h.symm⟩
    · cases h
  have ib : ∀ {d e x : D}, isD d e = .ok x → ∃ b, x = .bool b := by
    intro d e x h; unfold isD at h; split at h
    · injection h with h; exact ⟨_, h.symm⟩
    · split at h <;> (injection h with h; exact ⟨_, h.symm⟩)
    · cases h
  have nn : ∀ {d e x : D}, inD d e = .ok x → ∃ b, x = .bool b := by
    intro d e x h; unfold inD at h; split at h
    · split at h
      · injection h with h; exact ⟨_, h.symm⟩
      · cases h
    · split at h
      · injection h with h; exact ⟨_, h.symm⟩
      · cases h
    · split at h
      · injection h with h; exact ⟨_, h.symm⟩
      · cases h
    · split at h
      · rename_i y _ z
        cases hc : hasChar z y with
        | none => rw [hc] at h; cases h
        | some b => rw [hc] at h; injection h with h; exact ⟨_, h.symm⟩
      · cases h
    · cases h
  cases o
  · exact eb h
  · exact nb h
  · exact lb h
  · exact nb h
  · exact lb h
  · exact nb h
  · exact ib h
  · exact nb h
  · exact nn h
  · exact nb h
end
end Ws

set_option Elab.async false
set_option linter.all false
set_option maxRecDepth 100000
set_option maxHeartbeats 4000000
/-! Sim10: each construct, from its parts -/
namespace Ws
open PySem PySem.Spec PyProof.Rows L2

theorem pem {X : Cx} {e : Expr} {t t' : TE} (h : PE X e t) (f : ∀ σ H Q, t' σ H Q → t σ H Q) : PE X e t' := ⟨fun p s σ H Q I q => h.run p s σ H Q I (f σ H Q q)⟩
theorem ptm {X : Cx} {e : Expr} {t t' : TT} (h : PT X e t) (f : ∀ σ H Q, t' σ H Q → t σ H Q) : PT X e t' := ⟨fun p s σ H Q I q => h.run p s σ H Q I (f σ H Q q)⟩
theorem pwm {X : Cx} {e : Expr} {t t' : TT} (h : PW X e t) (f : ∀ σ H Q, t' σ H Q → t σ H Q) : PW X e t' := ⟨fun w p s σ H Q I q => h.run w p s σ H Q I (f σ H Q q)⟩
theorem pam {X : Cx} {e : List Expr} {t t' : TA} (h : PA X e t) (f : ∀ σ H Q, t' σ H Q → t σ H Q) : PA X e t' := ⟨fun pos p s σ H Q I q => h.run pos p s σ H Q I (f σ H Q q)⟩
theorem pom {X : Cx} {e : Option Expr} {t t' : TO} (h : PO X e t) (f : ∀ σ H Q, t' σ H Q → t σ H Q) : PO X e t' := ⟨fun p s σ H Q I q => h.run p s σ H Q I (f σ H Q q)⟩

section
variable {X : Cx} {φ : Nat → List D → Rs D} {C : Addr} {W : WX}

/-- through a part that is read weakly -/
theorem tW_in {a : E} {O : Ow} {ε : Env} {σ : L2.St} {H : Hp} {Q : VK} {β : Type} {f : D → Rs β} {k : β → Prop} (er : ER X.K O H σ ε) (ot : OT O H) (h : Res X.K C W O σ H ((ev φ a ε).bnd f) k)
    (g : ∀ d v H', Same H H' → RpW X.K O H' v d → Res X.K C W O σ H (f d) k → Q v H') : (tW X.K φ C W) a σ H Q :=
  ⟨O, ε, er, ot, h.bind fun d _ q v H' s r => g d v H' s r q⟩
theorem tD_in {a : E} {O : Ow} {ε : Env} {σ : L2.St} {H : Hp} {Q : VK} {β : Type} {f : D → Rs β} {k : β → Prop} (er : ER X.K O H σ ε) (ot : OT O H) (h : Res X.K C W O σ H ((ev φ a ε).bnd f) k)
    (g : ∀ d v H', Same H H' → Rp X.K O H' v d → Res X.K C W O σ H (f d) k → Q v H') : (tD X.K φ C W) a σ H Q :=
  ⟨O, ε, er, ot, h.bind fun d _ q v H' s r => g d v H' s r q⟩
theorem tT_in {a : E} {O : Ow} {ε : Env} {σ : L2.St} {H : Hp} {Q : Bool → Hp → Prop} {β : Type} {f : D → Rs β} {k : β → Prop} (er : ER X.K O H σ ε) (ot : OT O H) (h : Res X.K C W O σ H ((ev φ a ε).bnd f) k)
    (g : ∀ d H', Same H H' → Res X.K C W O σ H (f d) k → Q (truth d) H') : (tT X.K φ C W) a σ H Q :=
  ⟨O, ε, er, ot, h.bind fun d _ q H' s => g d H' s q⟩
theorem tL_in {a : List E} {O : Ow} {ε : Env} {σ : L2.St} {H : Hp} {Q : List V → Hp → Prop} {β : Type} {f : List D → Rs β} {k : β → Prop} (er : ER X.K O H σ ε) (ot : OT O H) (h : Res X.K C W O σ H ((evs φ a ε).bnd f) k)
    (g : ∀ d v H', Same H H' → Rps X.K O H' v d → Res X.K C W O σ H (f d) k → Q v H') : (tA X.K φ C W) a σ H Q :=
  ⟨O, ε, er, ot, h.bind fun d _ q v H' s r => g d v H' s r q⟩
theorem tLW_in {a : List E} {O : Ow} {ε : Env} {σ : L2.St} {H : Hp} {Q : List V → Hp → Prop} {β : Type} {f : List D → Rs β} {k : β → Prop} (er : ER X.K O H σ ε) (ot : OT O H) (h : Res X.K C W O σ H ((evs φ a ε).bnd f) k)
    (g : ∀ d v H', Same H H' → RpWs X.K O H' v d → Res X.K C W O σ H (f d) k → Q v H') : (tAW X.K φ C W) a σ H Q :=
  ⟨O, ε, er, ot, h.bind fun d _ q v H' s r => g d v H' s r q⟩

theorem pe_FD {e : Expr} {a : E} (h : PE X e ((tF X.K φ C W) a)) : PE X e ((tD X.K φ C W) a) := pem h fun σ H Q ⟨O, ε, er, ot, q⟩ => ⟨O, ε, er, ot, q.imp fun d _ k v H' s r => k v H' s (r.rp ot)⟩
theorem pe_DW {e : Expr} {a : E} (h : PE X e ((tD X.K φ C W) a)) : PE X e ((tW X.K φ C W) a) := pem h fun σ H Q ⟨O, ε, er, ot, q⟩ => ⟨O, ε, er, ot, q.imp fun d _ k v H' s r => k v H' s r.weak⟩

/-! ### names and constants -/
theorem s_var {i : Nat} {x : Str} {pos : Pos} (hN : X.N[i]? = some x) (hv : Vis X.env.scope x) (hd : (x == ("__debug__" : Str)) = false) (hc : (x == ("__classdict__" : Str)) = false) : PE X (.Name x pos) ((tD X.K φ C W) (.var i)) ∧ PE X (.Name x pos) ((tW X.K φ C W) (.wv i)) := by
  refine ⟨pem (pe_var hN hv hd hc) fun σ H Q ⟨O, ε, er, ot, q⟩ => ?_, pem (pe_var hN hv hd hc) fun σ H Q ⟨O, ε, er, ot, q⟩ => ?_⟩
  · simp only [ev] at q
    split at q
    · rename_i d e
      obtain ⟨v, h1, h2⟩ := er.2 i _ e
      exact ⟨v, h1, q v H (Same.refl H) h2⟩
    · exact (show False from q).elim
  · simp only [ev] at q
    split at q
    · rename_i d e
      obtain ⟨v, h1, h2⟩ := er.2 i _ e
      exact ⟨v, h1, q v H (Same.refl H) h2.weak⟩
    · rename_i d e
      obtain ⟨v, h1, h2⟩ := er.2 i _ e
      exact ⟨v, h1, q v H (Same.refl H) h2⟩
    · exact (show False from q).elim
theorem s_lit {e : Expr} {v : V} {d : D} (h : PE X e (tC v)) (r : ∀ O H, Rp X.K O H v d) : PE X e ((tD X.K φ C W) (.lit d)) := pem h fun σ H Q ⟨O, ε, er, ot, q⟩ => by
  simp only [ev] at q
  exact q v H (Same.refl H) (r O H)
theorem s_gl {x : Str} {u : Value} {v : V} {d : D} {pos : Pos} (hg : Gl X x) (hm : X.mg x = some u) (rv : RelV v u) (r : ∀ O H, Rp X.K O H v d) (hd : (x == ("__debug__" : Str)) = false) : PE X (.Name x pos) ((tD X.K φ C W) (.gl d)) :=
  pem (pe_glob hg hm rv hd) fun σ H Q ⟨O, ε, er, ot, q⟩ => by
    simp only [ev] at q
    exact q v H (Same.refl H) (r O H)

/-! ### operators -/
theorem s_bin {a b : Expr} {a' b' : E} {o : Op2} {pos : Pos} (ha : PE X a ((tW X.K φ C W) a')) (hb : PE X b ((tW X.K φ C W) b')) : PE X (.BinOp a (opOf o) b pos) ((tF X.K φ C W) (.bin o a' b')) :=
  pem (pe_op (bin_ok o) ha hb) fun σ H Q ⟨O, ε, er, ot, q⟩ => by
    simp only [ev] at q
    refine tW_in er ot q fun x v H1 s1 r1 q1 => ?_
    refine tW_in (er.same s1) (ot.same s1) (Res.sF q1 s1) fun y u H2 s2 r2 q2 => ?_
    exact ⟨O, x, y, (ot.same s1).same s2, r1.same s2, r2, Res.poF' (binD_noex _ _ _) (Res.sF q2 s2)⟩
theorem s_neg {a : Expr} {a' : E} {pos : Pos} (ha : PE X a ((tW X.K φ C W) a')) : PE X (.UnaryOp .USub a pos) ((tF X.K φ C W) (.neg a')) :=
  pem (pe_un neg_ok ha) fun σ H Q ⟨O, ε, er, ot, q⟩ => by
    simp only [ev] at q
    refine tW_in er ot q fun x v H1 s1 r1 q1 => ?_
    exact ⟨O, x, ot.same s1, r1, Res.poF' (negD_noex _) (Res.sF q1 s1)⟩
/-- a value's truth -/
theorem RpW.tru {K : PySem.W.Frag} {O : Ow} {H : Hp} {v : V} {d : D} (h : RpW K O H v d) : TruV K v H (truth d) := by
  cases d with
  | none => cases (show Rp K O H v _ from h); rfl
  | bool b => cases (show Rp K O H v _ from h); rfl
  | int i => cases (show Rp K O H v _ from h); rfl
  | str x =>
    obtain ⟨rfl, _, h2⟩ := strW h
    refine ⟨h2, ?_⟩
    show (x.length != 0) = ((x.length : Int) != 0)
    cases x.length <;> rfl
  | list ds =>
    obtain ⟨a, xs, rfl, ha, z, r⟩ := listW h
    refine .inl ⟨xs, ha, ?_⟩
    cases r <;> rfl
  | tuple ds =>
    obtain ⟨a, xs, rfl, ha, z, r⟩ := tupW h
    refine .inr (.inl ⟨xs, ha, ?_⟩)
    cases r <;> rfl
  | dict kvs =>
    obtain ⟨a, vs, rfl, ha, r⟩ := h
    refine .inr (.inr ⟨vs, ha, ?_⟩)
    cases r <;> rfl

theorem s_notV {a : Expr} {a' : E} {pos : Pos} (ha : PE X a ((tW X.K φ C W) a')) : PE X (.UnaryOp .Not a pos) ((tF X.K φ C W) (.not_ a')) :=
  pem (pe_notT ha) fun σ H Q ⟨O, ε, er, ot, q⟩ => by
    simp only [ev] at q
    refine tW_in er ot q fun x v H1 s1 r1 q1 => ?_
    exact ⟨_, r1.tru, q1 _ H1 s1 (Rp.bl _)⟩
theorem s_notT {a : Expr} {a' : E} {pos : Pos} (ha : PT X a ((tT X.K φ C W) a')) : PT X (.UnaryOp .Not a pos) ((tT X.K φ C W) (.not_ a')) :=
  ptm (pt_not ha) fun σ H Q ⟨O, ε, er, ot, q⟩ => by
    simp only [ev] at q
    exact tT_in er ot q fun x H1 s1 q1 => q1 H1 s1
theorem s_andV {a b : Expr} {rest : List Expr} {a' b' : E} {pos : Pos} (ha : PE X a ((tD X.K φ C W) a')) (hb : PE X (.BoolOp .And (b :: rest) pos) ((tD X.K φ C W) b')) : PE X (.BoolOp .And (a :: b :: rest) pos) ((tD X.K φ C W) (.and_ a' b')) :=
  pem (pe_andT ha hb) fun σ H Q ⟨O, ε, er, ot, q⟩ => by
    simp only [ev] at q
    refine tD_in er ot q fun x v H1 s1 r1 q1 => ⟨_, r1.weak.tru, ?_⟩
    by_cases c : truth x = true
    · rw [if_pos c] at q1 ⊢
      exact ⟨O, ε, er.same s1, ot.same s1, Res.sD q1 s1⟩
    · rw [if_neg c] at q1 ⊢
      exact q1 v H1 s1 r1
theorem s_orV {a b : Expr} {rest : List Expr} {a' b' : E} {pos : Pos} (ha : PE X a ((tD X.K φ C W) a')) (hb : PE X (.BoolOp .Or (b :: rest) pos) ((tD X.K φ C W) b')) : PE X (.BoolOp .Or (a :: b :: rest) pos) ((tD X.K φ C W) (.or_ a' b')) :=
  pem (pe_orT ha hb) fun σ H Q ⟨O, ε, er, ot, q⟩ => by
    simp only [ev] at q
    refine tD_in er ot q fun x v H1 s1 r1 q1 => ⟨_, r1.weak.tru, ?_⟩
    by_cases c : truth x = true
    · rw [if_pos c] at q1 ⊢
      exact q1 v H1 s1 r1
    · rw [if_neg c] at q1 ⊢
      exact ⟨O, ε, er.same s1, ot.same s1, Res.sD q1 s1⟩
theorem s_andT {a b : Expr} {rest : List Expr} {a' b' : E} {pos : Pos} (ha : PT X a ((tT X.K φ C W) a')) (hb : PW X (.BoolOp .And (b :: rest) pos) ((tT X.K φ C W) b')) : PW X (.BoolOp .And (a :: b :: rest) pos) ((tT X.K φ C W) (.and_ a' b')) :=
  pwm (pw_and ha hb) fun σ H Q ⟨O, ε, er, ot, q⟩ => by
    simp only [ev] at q
    refine tT_in er ot q fun x H1 s1 q1 => ?_
    by_cases c : truth x = true
    · rw [if_pos c] at q1 ⊢
      exact ⟨O, ε, er.same s1, ot.same s1, Res.sT q1 s1⟩
    · rw [if_neg c] at q1 ⊢
      have c' : truth x = false := by simpa using c
      have := q1 H1 s1
      rwa [c'] at this
theorem s_orT {a b : Expr} {rest : List Expr} {a' b' : E} {pos : Pos} (ha : PT X a ((tT X.K φ C W) a')) (hb : PW X (.BoolOp .Or (b :: rest) pos) ((tT X.K φ C W) b')) : PW X (.BoolOp .Or (a :: b :: rest) pos) ((tT X.K φ C W) (.or_ a' b')) :=
  pwm (pw_or ha hb) fun σ H Q ⟨O, ε, er, ot, q⟩ => by
    simp only [ev] at q
    refine tT_in er ot q fun x H1 s1 q1 => ?_
    by_cases c : truth x = true
    · rw [if_pos c] at q1 ⊢
      have := q1 H1 s1
      rwa [c] at this
    · rw [if_neg c] at q1 ⊢
      exact ⟨O, ε, er.same s1, ot.same s1, Res.sT q1 s1⟩
theorem s_ifV {c a b : Expr} {c' a' b' : E} {pos : Pos} (hc : PT X c ((tT X.K φ C W) c')) (ha : PE X a ((tD X.K φ C W) a')) (hb : PE X b ((tD X.K φ C W) b')) : PE X (.IfExp c a b pos) ((tD X.K φ C W) (.ite c' a' b')) :=
  pem (pe_ifExp hc ha hb) fun σ H Q ⟨O, ε, er, ot, q⟩ => by
    simp only [ev] at q
    refine tT_in er ot q fun x H1 s1 q1 => ?_
    by_cases c : truth x = true
    · rw [if_pos c] at q1 ⊢
      exact ⟨O, ε, er.same s1, ot.same s1, Res.sD q1 s1⟩
    · rw [if_neg c] at q1 ⊢
      exact ⟨O, ε, er.same s1, ot.same s1, Res.sD q1 s1⟩
theorem pt_if {c a b : Expr} {tc ta tb : TT} {pos : Pos} (hc : PT X c tc) (ha : PT X a ta) (hb : PT X b tb) : PT X (.IfExp c a b pos) (fun σ H Q => tc σ H fun k H1 => if k = true then ta σ H1 Q else tb σ H1 Q) := by
  refine ⟨fun pins s σ H Q I h => ?_⟩
  rw [arm_isTrue_IfExp]
  refine wpAny_bind (thn (hc.run pins s σ H _ I h) fun k s1 ⟨H1, I1, q1⟩ => ?_)
  cases k with
  | true => exact ha.run pins s1 σ H1 Q I1 q1
  | false => exact hb.run pins s1 σ H1 Q I1 q1
theorem s_ifT {c a b : Expr} {c' a' b' : E} {pos : Pos} (hc : PT X c ((tT X.K φ C W) c')) (ha : PT X a ((tT X.K φ C W) a')) (hb : PT X b ((tT X.K φ C W) b')) : PT X (.IfExp c a b pos) ((tT X.K φ C W) (.ite c' a' b')) :=
  ptm (pt_if hc ha hb) fun σ H Q ⟨O, ε, er, ot, q⟩ => by
    simp only [ev] at q
    refine tT_in er ot q fun x H1 s1 q1 => ?_
    by_cases c : truth x = true
    · rw [if_pos c] at q1 ⊢
      exact ⟨O, ε, er.same s1, ot.same s1, Res.sT q1 s1⟩
    · rw [if_neg c] at q1 ⊢
      exact ⟨O, ε, er.same s1, ot.same s1, Res.sT q1 s1⟩
/-- a test by its value -/
theorem s_truth {a : Expr} {a' : E} (ha : PE X a ((tW X.K φ C W) a')) (he : ∀ whole, isTrue a X.env whole = (do let v ← whole; standAt a.pos; holding [v] (truthy v))) : PT X a ((tT X.K φ C W) a') :=
  ptm (pt_truth ha he) fun σ H Q ⟨O, ε, er, ot, q⟩ => ⟨O, ε, er, ot, q.imp fun d _ k v H' s r => ⟨_, r.tru, k H' s⟩⟩

theorem s_cmp (hu : X.A.units + 65 < cLine) {a b : Expr} {a' b' : E} {o : CmpOp} {pos : Pos} (ha : PE X a ((tW X.K φ C W) a')) (hb : PE X b ((tW X.K φ C W) b')) (hm : behindInMarks o b = false) : PE X (.Compare a [o] [b] pos) ((tF X.K φ C W) (.cmp (cpOf o) a' b')) :=
  pem (pe_cmpR (cmp_ok hu o) ha hb hm) fun σ H Q ⟨O, ε, er, ot, q⟩ => by
    simp only [ev] at q
    refine tW_in er ot q fun x v H1 s1 r1 q1 => ?_
    refine tW_in (er.same s1) (ot.same s1) (Res.sF q1 s1) fun y u H2 s2 r2 q2 => ?_
    exact ⟨O, x, y, (ot.same s1).same s2, r1.same s2, r2, Res.poF' (cmpD_noex _ _ _) (Res.sF q2 s2)⟩
theorem s_cmpT (hu : X.A.units + 65 < cLine) {a b : Expr} {a' b' : E} {o : CmpOp} {pos : Pos} (ha : PE X a ((tW X.K φ C W) a')) (hb : PE X b ((tW X.K φ C W) b')) (hm : behindInMarks o b = false) : PT X (.Compare a [o] [b] pos) ((tT X.K φ C W) (.cmp (cpOf o) a' b')) :=
  ptm (pt_cmpR (cmp_ok hu o) ha hb hm) fun σ H Q ⟨O, ε, er, ot, q⟩ => by
    simp only [ev] at q
    refine tW_in er ot q fun x v H1 s1 r1 q1 => ?_
    refine tW_in (er.same s1) (ot.same s1) (Res.sT q1 s1) fun y u H2 s2 r2 q2 => ?_
    refine ⟨O, x, y, (ot.same s1).same s2, r1.same s2, r2, ?_⟩
    have q3 := Res.sT q2 s2
    cases e : cmpD (cpOf o) x y with
    | ok d =>
      rw [e] at q3
      obtain ⟨b, rfl⟩ := cmpD_bool e
      exact fun v H' s f => by cases (show Rp X.K O H' v _ from f); exact ⟨b, rfl, q3 H' s⟩
    | ex d => exact absurd e (cmpD_noex _ _ _ d)
    | st => rw [e] at q3; exact q3
theorem s_chain (hu : X.A.units + 65 < cLine) {a b d : Expr} {a' b' d' : E} {o o2 : CmpOp} {pos : Pos} (ha : PE X a ((tW X.K φ C W) a')) (hb : PE X b ((tW X.K φ C W) b')) (hd : PE X d ((tW X.K φ C W) d')) (hm : lastMarks [o, o2] [b, d] = false) :
    PE X (.Compare a [o, o2] [b, d] pos) ((tF X.K φ C W) (.chain (cpOf o) (cpOf o2) a' b' d')) :=
  pem (pe_chain (cmp_ok hu o) (cmp_ok hu o2) ha hb hd hm) fun σ H Q ⟨O, ε, er, ot, q⟩ => by
    simp only [ev] at q
    refine tW_in er ot q fun x v H1 s1 r1 q1 => ?_
    refine tW_in (er.same s1) (ot.same s1) (Res.sF q1 s1) fun y u H2 s2 r2 q2 => ?_
    refine ⟨O, x, y, (ot.same s1).same s2, r1.same s2, r2, ?_⟩
    have q3 := Res.sF q2 s2
    cases e : cmpD (cpOf o) x y with
    | ok z =>
      rw [e] at q3
      obtain ⟨k, rfl⟩ := cmpD_bool e
      refine fun w H3 s3 f => ?_
      cases (show Rp X.K O H3 w _ from f)
      refine ⟨k, rfl, ?_⟩
      cases k with
      | true =>
        rw [if_pos rfl]
        refine tW_in (((er.same s1).same s2).same s3) (((ot.same s1).same s2).same s3) (Res.sF q3 s3) fun z t H4 s4 r4 q4 => ?_
        exact ⟨O, y, z, (((ot.same s1).same s2).same s3).same s4, (r2.same s3).same s4, r4, Res.poF' (cmpD_noex _ _ _) (Res.sF q4 s4)⟩
      | false =>
        rw [if_neg Bool.false_ne_true]
        exact q3 _ H3 s3 (Rp.bl false)
    | ex z => exact absurd e (cmpD_noex _ _ _ z)
    | st => rw [e] at q3; exact q3
theorem s_chainT (hu : X.A.units + 65 < cLine) {a b d : Expr} {a' b' d' : E} {o o2 : CmpOp} {pos : Pos} (ha : PE X a ((tW X.K φ C W) a')) (hb : PE X b ((tW X.K φ C W) b')) (hd : PE X d ((tW X.K φ C W) d')) (hm : lastMarks [o, o2] [b, d] = false) :
    PT X (.Compare a [o, o2] [b, d] pos) ((tT X.K φ C W) (.chain (cpOf o) (cpOf o2) a' b' d')) :=
  ptm (pt_chain (cmp_ok hu o) (cmp_ok hu o2) ha hb hd hm) fun σ H Q ⟨O, ε, er, ot, q⟩ => by
    simp only [ev] at q
    refine tW_in er ot q fun x v H1 s1 r1 q1 => ?_
    refine tW_in (er.same s1) (ot.same s1) (Res.sT q1 s1) fun y u H2 s2 r2 q2 => ?_
    refine ⟨O, x, y, (ot.same s1).same s2, r1.same s2, r2, ?_⟩
    have q3 := Res.sT q2 s2
    cases e : cmpD (cpOf o) x y with
    | ok z =>
      rw [e] at q3
      obtain ⟨k, rfl⟩ := cmpD_bool e
      refine fun w H3 s3 f => ?_
      cases (show Rp X.K O H3 w _ from f)
      refine ⟨k, rfl, ?_⟩
      cases k with
      | true =>
        rw [if_pos rfl]
        refine tW_in (((er.same s1).same s2).same s3) (((ot.same s1).same s2).same s3) (Res.sT q3 s3) fun z t H4 s4 r4 q4 => ?_
        refine ⟨O, y, z, (((ot.same s1).same s2).same s3).same s4, (r2.same s3).same s4, r4, ?_⟩
        have q5 := Res.sT q4 s4
        cases e2 : cmpD (cpOf o2) y z with
        | ok z2 =>
          rw [e2] at q5
          obtain ⟨k2, rfl⟩ := cmpD_bool e2
          exact fun v5 H5 s5 f5 => by cases (show Rp X.K O H5 v5 _ from f5); exact ⟨k2, rfl, q5 H5 s5⟩
        | ex z2 => exact absurd e2 (cmpD_noex _ _ _ z2)
        | st => rw [e2] at q5; exact q5
      | false =>
        rw [if_neg Bool.false_ne_true]
        exact ⟨false, rfl, q3 H3 s3⟩
    | ex z => exact absurd e (cmpD_noex _ _ _ z)
    | st => rw [e] at q3; exact q3

/-! ### displays, subscripts -/
theorem s_nil : PA X [] ((tA X.K φ C W) []) := pam pa_nil fun σ H Q ⟨O, ε, er, ot, q⟩ => by
  simp only [evs] at q
  exact q [] H (Same.refl H) .nil
theorem s_cons {a : Expr} {es : List Expr} {a' : E} {es' : List E} (ha : PE X a ((tD X.K φ C W) a')) (hr : PA X es ((tA X.K φ C W) es')) (hs : starEach (a :: es) X.env = (false, eval a X.env) :: starEach es X.env) : PA X (a :: es) ((tA X.K φ C W) (a' :: es')) :=
  pam (pa_cons ha hr hs) fun σ H Q ⟨O, ε, er, ot, q⟩ => by
    simp only [evs] at q
    refine tD_in er ot q fun x v H1 s1 r1 q1 => ?_
    refine tL_in (er.same s1) (ot.same s1) (Res.sL q1 s1) fun xs vs H2 s2 r2 q2 => ?_
    exact q2 (v :: vs) H2 s2 (.cons (r1.same s2) r2)
theorem s_nilW : PA X [] ((tAW X.K φ C W) []) := pam pa_nil fun σ H Q ⟨O, ε, er, ot, q⟩ => by
  simp only [evs] at q
  exact q [] H (Same.refl H) .nil
theorem s_consW {a : Expr} {es : List Expr} {a' : E} {es' : List E} (ha : PE X a ((tW X.K φ C W) a')) (hr : PA X es ((tAW X.K φ C W) es')) (hs : starEach (a :: es) X.env = (false, eval a X.env) :: starEach es X.env) : PA X (a :: es) ((tAW X.K φ C W) (a' :: es')) :=
  pam (pa_cons ha hr hs) fun σ H Q ⟨O, ε, er, ot, q⟩ => by
    simp only [evs] at q
    refine tW_in er ot q fun x v H1 s1 r1 q1 => ?_
    refine tLW_in (er.same s1) (ot.same s1) (Res.sLW q1 s1) fun xs vs H2 s2 r2 q2 => ?_
    exact q2 (v :: vs) H2 s2 (.cons (r1.same s2) r2)
theorem s_tup {es : List Expr} {es' : List E} {k : Nat} {pos : Pos} (hl : es'.length ≤ 1000000) (h : PA X es ((tA X.K φ C W) es')) (hlen : ∀ ε ds, evs φ es' ε = .ok ds → ds.length = es'.length) : PE X (.Tuple es k pos) ((tF X.K φ C W) (.tup es')) :=
  pem (pe_tup h) fun σ H Q ⟨O, ε, er, ot, q⟩ => by
    simp only [ev] at q
    refine ⟨O, ε, er, ot, q.bind fun ds e k vs H1 s1 r1 => ?_⟩
    have hz : vs.length ≤ sizeLine := by rw [r1.length, hlen ε ds e, sizeLine_eq]; omega
    exact ⟨hz, fun p hp => k _ _ (s1.trans (same_new hp)) (Rp.newT hp r1 hz)⟩
theorem s_lst {es : List Expr} {es' : List E} {pos : Pos} (hl : es'.length ≤ 1000000) (h : PA X es ((tA X.K φ C W) es')) (hlen : ∀ ε ds, evs φ es' ε = .ok ds → ds.length = es'.length) : PE X (.List es pos) ((tF X.K φ C W) (.lst es')) :=
  pem (pe_lst h) fun σ H Q ⟨O, ε, er, ot, q⟩ => by
    simp only [ev] at q
    refine ⟨O, ε, er, ot, q.bind fun ds e k vs H1 s1 r1 => ?_⟩
    have hz : vs.length ≤ sizeLine := by rw [r1.length, hlen ε ds e, sizeLine_eq]; omega
    exact ⟨hz, fun p hp => k _ _ (s1.trans (same_new hp)) ((Fr.newL hp r1 hz).same0 s1)⟩
theorem s_dnew {pos : Pos} : PE X (.Dict [] [] pos) ((tF X.K φ C W) .dnew) :=
  pem pe_dnewK fun σ H Q ⟨O, ε, er, ot, q⟩ => by
    simp only [ev] at q
    exact fun p hp => q _ _ (same_new hp) ⟨p, [], rfl, hp, upd_same, fun _ _ => .nil⟩
theorem s_idx (hu : X.A.units + 65 < cLine) {a b : Expr} {a' b' : E} {pos : Pos} (ha : PE X a ((tW X.K φ C W) a')) (hb : PE X b ((tW X.K φ C W) b')) (hs : PlainIx b) : PE X (.Subscript a b pos) ((tD X.K φ C W) (.idx a' b')) :=
  pem (pe_ix (idx_ok hu) ha hb hs) fun σ H Q ⟨O, ε, er, ot, q⟩ => by
    simp only [ev] at q
    refine tW_in er ot q fun x v H1 s1 r1 q1 => ?_
    refine tW_in (er.same s1) (ot.same s1) (Res.sD q1 s1) fun y u H2 s2 r2 q2 => ?_
    exact ⟨O, x, y, (ot.same s1).same s2, r1.same s2, r2, Res.po (idxD_noex _ _) (Res.sD q2 s2)⟩
/-- a slice's part -/
def tOO (K : PySem.W.Frag) (φ : Nat → List D → Rs D) (C : Addr) (W : WX) (e : Option E) : TO := fun σ H Q => ∃ O ε, ER K O H σ ε ∧ OT O H ∧ Res K C W O σ H (evo φ e ε) fun o => ∀ H', Same H H' → Q o H'
theorem s_po0 : PO X none (tOO X.K φ C W none) := pom po_none fun σ H Q ⟨O, ε, er, ot, q⟩ => by
  simp only [evo] at q
  exact q H (Same.refl H)
theorem s_po1 {e : Expr} {e' : E} (h : PE X e ((tW X.K φ C W) e')) : PO X (some e) (tOO X.K φ C W (some e')) := pom (po_some h) fun σ H Q ⟨O, ε, er, ot, q⟩ => by
  simp only [evo] at q
  refine tW_in er ot q fun x v H1 s1 r1 q1 => ?_
  cases x <;> try exact (show False from q1).elim
  rename_i i
  cases intW r1
  exact ⟨i, rfl, q1 H1 s1⟩
theorem tO_in {a : Option E} {O : Ow} {ε : Env} {σ : L2.St} {H : Hp} {Q : Option Int → Hp → Prop} {β : Type} {f : Option Int → Rs β} {k : β → Prop} (er : ER X.K O H σ ε) (ot : OT O H) (h : Res X.K C W O σ H ((evo φ a ε).bnd f) k)
    (g : ∀ d H', Same H H' → Res X.K C W O σ H (f d) k → Q d H') : tOO X.K φ C W a σ H Q :=
  ⟨O, ε, er, ot, h.bind fun d _ q H' s => g d H' s q⟩
theorem s_sli {a : Expr} {lo hi : Option Expr} {a' : E} {lo' hi' : Option E} {p2 pos : Pos} (ha : PE X a ((tW X.K φ C W) a')) (hl : PO X lo (tOO X.K φ C W lo')) (hh : PO X hi (tOO X.K φ C W hi')) : PE X (.Subscript a (.Slice lo hi none p2) pos) ((tF X.K φ C W) (.sli a' lo' hi')) :=
  pem (pe_slice sli_ok ha hl hh) fun σ H Q ⟨O, ε, er, ot, q⟩ => by
    simp only [ev] at q
    refine tW_in er ot q fun x v H1 s1 r1 q1 => ?_
    refine tO_in (er.same s1) (ot.same s1) (Res.sF q1 s1) fun l H2 s2 q2 => ?_
    refine tO_in ((er.same s1).same s2) ((ot.same s1).same s2) (Res.sF q2 s2) fun h H3 s3 q3 => ?_
    exact ⟨O, x, ((ot.same s1).same s2).same s3, (r1.same s2).same s3, Res.poF' (sliD_noex _ _ _) (Res.sF q3 s3)⟩
theorem s_rev {a : Expr} {a' : E} {k : Nat} {p1 p2 p3 pos : Pos} (ha : PE X a ((tW X.K φ C W) a')) : PE X (.Subscript a (.Slice none none (some (.UnaryOp .USub (.Constant (.int 1) k p1) p2)) p3) pos) ((tF X.K φ C W) (.rev a')) :=
  pem (pe_revL ha) fun σ H Q ⟨O, ε, er, ot, q⟩ => by
    simp only [ev] at q
    refine tW_in er ot q fun x v H1 s1 r1 q1 => ?_
    cases x <;> try exact (show False from q1).elim
    obtain ⟨b, xs, rfl, hb, z, r⟩ := listW r1
    exact ⟨b, xs, rfl, hb, fun p hp => q1 _ _ (s1.trans (same_new hp)) ((Fr.newL hp r.rev (by rw [List.length_reverse]; exact z)).same0 s1)⟩
mutual
theorem Rp.nm {K : PySem.W.Frag} {O O' : Ow} {H : Hp} : ∀ {v : V} {d : D}, Rp K O H v d → noMut d = true → Rp K O' H v d
  | _, _, .non, _ => .non
  | _, _, .bl b, _ => .bl b
  | _, _, .int i, _ => .int i
  | _, _, .str x a b, _ => .str x a b
  | _, _, .lst h z r, c => by simp [noMut] at c
  | _, _, .tup h z r, c => .tup h z (Rps.nm r (by simpa [noMut] using c))
  | _, _, .dk .., c => by simp [noMut] at c
theorem Rps.nm {K : PySem.W.Frag} {O O' : Ow} {H : Hp} : ∀ {vs : List V} {ds : List D}, Rps K O H vs ds → noMuts ds = true → Rps K O' H vs ds
  | _, _, .nil, _ => .nil
  | _, _, .cons h r, c => by
    simp only [noMuts, Bool.and_eq_true] at c
    exact .cons (Rp.nm h c.1) (Rps.nm r c.2)
end
/-- all that is owned counts as nobody's -/
def On : Ow := fun _ => none
theorem fzOn {O : Ow} {H : Hp} : Fz O H On H := ⟨fun _ _ e _ => ⟨e, rfl⟩, fun _ _ e => e, fun _ _ _ e => e⟩
theorem ER.frzAll {K : PySem.W.Frag} {O O' : Ow} {H : Hp} {σ : L2.St} {ε : Env} (er : ER K O H σ ε) (f : Fz O H O' H) (n : ∀ (i : Nat) (p : Addr) (d : D), ε[i]? = some (Sl.o d) → σ[i]? = some (some (V.ref p)) → O' p = none) : ER K O' H σ (ε.map frzS) := by
  refine ⟨by rw [List.length_map]; exact er.1, fun i s e => ?_⟩
  rw [List.getElem?_map] at e
  cases h : ε[i]? with
  | none => rw [h] at e; cases e
  | some s' =>
    rw [h] at e
    cases e
    have q := er.2 i s' h
    cases s' with
    | u => trivial
    | f d => obtain ⟨v, h1, h2⟩ := q; exact ⟨v, h1, h2.mv f⟩
    | o d =>
      obtain ⟨v, h1, h2⟩ := q
      refine ⟨v, h1, ?_⟩
      cases d with
      | list ds => obtain ⟨a, xs, e, q, z, r⟩ := h2; subst e; exact .lst (.of q (n i a _ h h1)) z (r.mv f)
      | dict ds => obtain ⟨a, kvs, e, q, r⟩ := h2; subst e; exact .dk q (n i a _ h h1) (r.mv f)
      | none => exact Rp.mv f (show Rp K O H v _ from h2)
      | bool b => exact Rp.mv f (show Rp K O H v _ from h2)
      | int i => exact Rp.mv f (show Rp K O H v _ from h2)
      | str x => exact Rp.mv f (show Rp K O H v _ from h2)
      | tuple ds => exact Rp.mv f (show Rp K O H v _ from h2)
theorem s_nomut {a : Expr} {a' : E} (ha : PE X a ((tD X.K φ C W) a')) : PE X a ((tD X.K φ C W) (.nomut a')) :=
  pem ha fun σ H Q ⟨O, ε, er, ot, q⟩ => by
    simp only [ev] at q
    refine ⟨On, ε.map frzS, er.frzAll fzOn fun _ _ _ _ _ => rfl, (fun a i e => by cases e), ?_⟩
    cases e : ev φ a' (ε.map frzS) with
    | ok x =>
      rw [e] at q
      by_cases c : noMut x = true
      · have q : Res X.K C W O σ H (if noMut x = true then .ok x else .st) (kD X.K O H Q) := q
        rw [if_pos c] at q
        exact fun v H' s r => q v H' s (r.nm c)
      · have q : Res X.K C W O σ H (if noMut x = true then .ok x else .st) (kD X.K O H Q) := q
        rw [if_neg c] at q; exact q.elim
    | ex x =>
      rw [e] at q
      by_cases c : noMut x = true
      · have q : Res X.K C W O σ H (if noMut x = true then .ex x else .st) (kD X.K O H Q) := q
        rw [if_pos c] at q
        exact fun dx v H' s a r => q dx v H' s a (r.nm c)
      · have q : Res X.K C W O σ H (if noMut x = true then .ex x else .st) (kD X.K O H Q) := q
        rw [if_neg c] at q; exact q.elim
    | st => rw [e] at q; exact q.elim
end
end Ws

set_option Elab.async false
set_option linter.all false
set_option maxRecDepth 100000
set_option maxHeartbeats 4000000
/-! Sim11: calls, walks, targets -/
namespace Ws
open PySem PySem.Spec PyProof.Rows L2

section
variable {K : PySem.W.Frag} {O O' : Ow} {H H' : Hp} {σ : L2.St} {ε : Env}
theorem ER.mvS (h : ER K O H σ ε) (f : Fz O H O' H') (s : Same H H') : ER K O' H' σ ε := ⟨h.1, fun i x e => by
  have := h.2 i x e
  cases x with
  | u => trivial
  | f d => obtain ⟨v, h1, h2⟩ := this; exact ⟨v, h1, h2.mv f⟩
  | o d =>
    obtain ⟨v, h1, h2⟩ := this
    refine ⟨v, h1, ?_⟩
    cases d with
    | list ds => obtain ⟨a, xs, e, q, z, r⟩ := h2; exact ⟨a, xs, e, Same.sql s q, z, r.mv f⟩
    | dict ds => obtain ⟨a, kvs, e, q, r⟩ := h2; exact ⟨a, kvs, e, s _ _ q, r.mv f⟩
    | none => exact Rp.mv f (show Rp K O H v _ from h2)
    | bool b => exact Rp.mv f (show Rp K O H v _ from h2)
    | int i => exact Rp.mv f (show Rp K O H v _ from h2)
    | str x => exact Rp.mv f (show Rp K O H v _ from h2)
    | tuple ds => exact Rp.mv f (show Rp K O H v _ from h2)⟩
theorem ER.set {i : Nat} {v : V} {d : D} (h : ER K O H σ ε) (r : Rp K O H v d) : ER K O H (σ.set i (some v)) (put ε i d) := by
  refine ⟨by simp only [put, List.length_set]; exact h.1, fun j s e => ?_⟩
  unfold put at e
  by_cases ij : i = j
  · subst ij
    have lt : i < ε.length := by
      have := (List.getElem?_eq_some_iff.mp e).1
      rwa [List.length_set] at this
    rw [List.getElem?_set_self lt] at e
    injection e with e; subst e
    exact ⟨v, by rw [List.getElem?_set_self (Nat.lt_of_lt_of_le lt h.1)], r⟩
  · rw [List.getElem?_set_ne ij] at e
    have := h.2 j s e
    cases s with
    | u => trivial
    | f d => obtain ⟨w, h1, h2⟩ := this; exact ⟨w, by rw [List.getElem?_set_ne ij]; exact h1, h2⟩
    | o d => obtain ⟨w, h1, h2⟩ := this; exact ⟨w, by rw [List.getElem?_set_ne ij]; exact h1, h2⟩
theorem ER.wipe (h : ER K O H σ ε) : ∀ vs : List Nat, ER K O H (L2.wipe σ vs) (wipeE ε vs)
  | [] => h
  | v :: vs => by
    have ih := ER.wipe h vs
    unfold L2.wipe wipeE
    refine ⟨by simp only [List.length_set]; exact ih.1, fun j s e => ?_⟩
    by_cases ij : v = j
    · subst ij
      have lt : v < (wipeE ε vs).length := by
        have := (List.getElem?_eq_some_iff.mp e).1
        rwa [List.length_set] at this
      rw [List.getElem?_set_self lt] at e
      injection e with e; subst e; trivial
    · rw [List.getElem?_set_ne ij] at e
      have := ih.2 j s e
      cases s with
      | u => trivial
      | f d => obtain ⟨w, h1, h2⟩ := this; exact ⟨w, by rw [List.getElem?_set_ne ij]; exact h1, h2⟩
      | o d => obtain ⟨w, h1, h2⟩ := this; exact ⟨w, by rw [List.getElem?_set_ne ij]; exact h1, h2⟩
theorem wipe_set {v : Option V} {i : Nat} : ∀ {vs : List Nat}, i ∈ vs → L2.wipe (σ.set i v) vs = L2.wipe σ vs
  | j :: vs, h => by
    unfold L2.wipe
    by_cases m : i ∈ vs
    · rw [wipe_set m]
    · have e : i = j := by
        rcases List.mem_cons.mp h with h | h
        · exact h
        · exact absurd h m
      subst e
      refine List.ext_getElem? fun n => ?_
      by_cases hn : i = n
      · subst hn
        rw [List.getElem?_set, List.getElem?_set, wipe_length, wipe_length, List.length_set]
        simp
      · rw [List.getElem?_set_ne hn, List.getElem?_set_ne hn]
        by_cases m2 : n ∈ vs
        · have aux : ∀ (us : List Nat) (τ : L2.St), n ∈ us → (L2.wipe τ us)[n]? = if n < τ.length then some none else none := by
            intro us
            induction us with
            | nil => intro τ h; cases h
            | cons a us ih =>
              intro τ h
              unfold L2.wipe
              rw [List.getElem?_set, wipe_length]
              by_cases an : a = n
              · rw [if_pos an]; subst an; rfl
              · rw [if_neg an]
                rcases List.mem_cons.mp h with h | h
                · exact absurd h.symm an
                · exact ih τ h
          rw [aux vs _ m2, aux vs _ m2, List.length_set]
        · rw [wipe_out m2, wipe_out m2, List.getElem?_set_ne hn]
theorem wipe_wipe' : ∀ {us vs : List Nat}, (∀ i ∈ us, i ∈ vs) → L2.wipe (L2.wipe σ us) vs = L2.wipe σ vs
  | [], vs, _ => rfl
  | u :: us, vs, h => by
    have e : L2.wipe σ (u :: us) = (L2.wipe σ us).set u none := rfl
    rw [e, wipe_set (h u List.mem_cons_self), wipe_wipe' fun i hi => h i (List.mem_cons_of_mem _ hi)]
theorem wipe_wipe {vs : List Nat} : L2.wipe (L2.wipe σ vs) vs = L2.wipe σ vs := wipe_wipe' fun _ h => h
end

/-! ### calls -/
/-- what a def promises -/
def spD (K : PySem.W.Frag) (φ : Nat → List D → Rs D) (C : Addr) (i n : Nat) : Sp := fun vs H Q E => ∃ O ds, OT O H ∧ Rps K O H vs ds ∧ vs.length = n ∧ (match φ i ds with
  | .ok d => ∀ v H', Same H H' → Rp K O H' v d → Q v H'
  | .ex d => ∀ dx v H', Same H H' → H' dx = some (.xd [(atS, v)]) → Rp K O H' v d → E (.ref C) (some dx) H'
  | .st => False)
/-- a table of the module by texts -/
def TabIs (K : PySem.W.Frag) (w : World) (mg : Str → Option Value) (T : Str) (kvs : List (Str × D)) : Prop :=
  ∃ a es n, mg T = some (.ref a) ∧ KDict K w a es n ∧ ∀ z : Str, (∀ d, tabAt kvs z = some d → ∃ u v, PySem.W.nsIn K a z = some (some u) ∧ RelV v u ∧ ∀ O H, Rp K O H v d) ∧ (tabAt kvs z = none → PySem.W.nsIn K a z = some none)
/-- what the body's context gives -/
structure Good (c : Cfg) (φ : Nat → List D → Rs D) (C : Addr) (k : Nat) (X : Cx) : Prop where
  hN : X.N = c.N
  nd : X.N.Nodup
  calm : X.calm = true
  room : Room k X.A
  fns : ∀ i x, c.fns[i]? = some x → ∃ f fd ps, X.mg x = some (.ref f) ∧ PySem.W.keepIn X.K (.ref f) = true ∧ Binds X.K fd ps [] ∧ FnOk X.prog X.w X.K X.mg X.base (L2.CX X.prog X.w) k f fd ps (spD X.K φ C i ps.length) ∧ (∀ ds, φ i ds ≠ .st → ds.length = ps.length)
  cs : ∀ x d, c.cs.lookup x = some d → ∃ u v, X.mg x = some u ∧ RelV v u ∧ ∀ O H, Rp X.K O H v d
  bl : ∀ x, x ∈ c.bl → X.mg x = none
  gcd : c.gcd = true → X.mg "gcd" = some (.builtin "math.gcd")
  tabs : ∀ T kvs, c.tabs.lookup T = some kvs → TabIs X.K X.w X.mg T kvs
theorem Good.hu {c : Cfg} {φ : Nat → List D → Rs D} {C : Addr} {k : Nat} {X : Cx} (g : Good c φ C k X) : X.A.units + 65 < cLine := by
  have := g.room.un; omega
theorem Good.blk {c : Cfg} {φ : Nat → List D → Rs D} {C : Addr} {k : Nat} {X : Cx} (g : Good c φ C k X) (s : Shared) (H : Hp) (scope : Scope) (ce : PySem.Env) (fp : List Addr) : Good c φ C k (X.blk s H scope ce fp) :=
  ⟨g.hN, g.nd, g.calm, g.room, g.fns, g.cs, g.bl, g.gcd, g.tabs⟩
abbrev W0 : WX := fun _ _ _ _ => False
theorem starCons {e : Expr} {es : List Expr} {env : PySem.Env} (h : lone e = true) : starEach (e :: es) env = (false, eval e env) :: starEach es env := by
  cases e <;> first | rfl | (simp [lone] at h; done)
def lones : List Expr → Bool
  | [] => true
  | e :: es => lone e && lones es
theorem starNone {env : PySem.Env} {pos : Pos} : ∀ {es : List Expr}, lones es = true → (backTo pos (starEach es env)).any (·.1) = false := by
  have aux : ∀ {es : List Expr}, lones es = true → (starEach es env).any (·.1) = false := by
    intro es
    induction es with
    | nil => intro _; rfl
    | cons e es ih =>
      intro h
      simp only [lones, Bool.and_eq_true] at h
      rw [starCons h.1]
      simpa using ih h.2
  intro es h
  have h := aux h
  first
    | simpa [backTo] using h
    | (unfold backTo; split <;> simp_all)
    | simp_all

section
variable {X : Cx} {φ : Nat → List D → Rs D} {C : Addr} {W : WX} {c : Cfg} {k : Nat}
theorem pe_callS0 {CX : CXT} {f : Addr} {fd : FuncData} {ps : List Str} {sp : Sp} {E : L2.St → XK} {x : Str} {p pos : Pos} (F : FnOk X.prog X.w X.K X.mg X.base CX k f fd ps sp) (hr : Room k X.A) (hg : Gl X x) (hm : X.mg x = some (.ref f)) (hk : PySem.W.keepIn X.K (.ref f) = true) (hb : Binds X.K fd ps []) (hx : ∀ σ, PassesAt CX X σ (E σ))
    (hdb : (x == ("__debug__" : Str)) = false) : PE X (.Call (.Name x p) [] [] pos) (tCallS sp E tNil) := by
  refine ⟨fun pins s σ H Q I h => ?_⟩
  refine wpAny_Call_Name_kw (ld_glob I hg hm ?_ hdb)
  exact PySem.W.callWith_K0 I.kIn hk (run_fnS (us := []) F hr hb (hx σ) I .nil h)
theorem sp_in {i n : Nat} {es : List E} {O : Ow} {ε : Env} {σ : L2.St} {H : Hp} {Q : VK} (ot : OT O H) (hl : ∀ ds, φ i ds ≠ .st → ds.length = n) {ds : List D} {vs : List V} {H1 : Hp} (s1 : Same H H1) (r1 : Rps X.K O H1 vs ds)
    (q : Res X.K C W O σ H (φ i ds) (kD X.K O H Q)) : spD X.K φ C i n vs H1 Q (WE W σ) := by
  refine ⟨O, ds, ot.same s1, r1, ?_, ?_⟩
  · rw [r1.length]
    refine hl ds fun e => ?_
    rw [e] at q; exact q
  · cases e : φ i ds with
    | ok d => rw [e] at q; exact fun v H' s r => q v H' (s1.trans s) r
    | ex d => rw [e] at q; exact fun dx v H' s a r => q dx v H' (s1.trans s) a r
    | st => rw [e] at q; exact q
theorem s_call (g : Good c φ C k X) (tk : Takes X W) {i : Nat} {x : Str} {es : List Expr} {es' : List E} {p pos : Pos} (hi : c.fns[i]? = some x) (hg : Gl X x) (hd : (x == ("__debug__" : Str)) = false) (ha : PA X es ((tA X.K φ C W) es')) (hl : lones es = true) (h0 : es = [] → es' = []) :
    PE X (.Call (.Name x p) es [] pos) ((tD X.K φ C W) (.call i es')) := by
  obtain ⟨f, fd, ps, hm, hk, hb, F, hn⟩ := g.fns i x hi
  cases es with
  | nil =>
    rw [h0 rfl]
    refine pem (pe_callS0 F g.room hg hm hk hb (passAt tk) hd) fun σ H Q ⟨O, ε, er, ot, q⟩ => ?_
    simp only [ev, evs, Rs.bnd_ok] at q
    exact sp_in (es := []) (ε := ε) ot hn (Same.refl H) .nil q
  | cons e es =>
    simp only [lones, Bool.and_eq_true] at hl
    refine pem (pe_callS F g.room hg hm hk hb (passAt tk) ha hd (starCons hl.1) (starNone hl.2)) fun σ H Q ⟨O, ε, er, ot, q⟩ => ?_
    simp only [ev] at q
    exact tL_in er ot q fun ds vs H1 s1 r1 q1 => sp_in (es := es') (ε := ε) ot hn s1 r1 q1
theorem Good.bi (g : Good c φ C k X) {x : Str} {b : Bi} (h : biOf x = some b) : CallR X (biVal b) (rBi X.K b) := (bi_ok g.calm (by have := g.hu; omega) h).1
theorem s_biG {b : Bi} {es : List Expr} {es' : List E} {x : Str} {p pos : Pos} (h : PE X (.Call (.Name x p) es [] pos) (tCB (rBi X.K b) ((tAW X.K φ C W) es'))) :
    PE X (.Call (.Name x p) es [] pos) ((tD X.K φ C W) (.bi b es')) ∧ (biNew b = true → PE X (.Call (.Name x p) es [] pos) ((tF X.K φ C W) (.bi b es'))) := by
  refine ⟨pem h fun σ H Q ⟨O, ε, er, ot, q⟩ => ?_, fun nw => pem h fun σ H Q ⟨O, ε, er, ot, q⟩ => ?_⟩
  · simp only [ev] at q
    refine tLW_in er ot q fun ds vs H1 s1 r1 q1 => ⟨O, ds, ot.same s1, r1, ?_⟩
    have q2 := Res.sD q1 s1
    unfold PoB
    split
    · exact Res.poF (biD_noex _ _) (ot.same s1) q2
    · exact Res.po (biD_noex _ _) q2
  · simp only [ev] at q
    refine tLW_in er ot q fun ds vs H1 s1 r1 q1 => ⟨O, ds, ot.same s1, r1, ?_⟩
    have q2 := Res.sF q1 s1
    rw [nw]
    exact Res.poF' (biD_noex _ _) q2
theorem s_bi (g : Good c φ C k X) {x : Str} {b : Bi} (hb : biOf x = some b) {e : Expr} {es : List Expr} {es' : List E} {p pos : Pos} (hg : Gl X x) (hm : X.mg x = none) (ha : PA X (e :: es) ((tAW X.K φ C W) es')) (hl : lones (e :: es) = true) :
    PE X (.Call (.Name x p) (e :: es) [] pos) ((tD X.K φ C W) (.bi b es')) ∧ (biNew b = true → PE X (.Call (.Name x p) (e :: es) [] pos) ((tF X.K φ C W) (.bi b es'))) := by
  obtain ⟨cr, hv, hn, hd, hk⟩ := bi_ok g.calm (by have := g.hu; omega) hb
  simp only [lones, Bool.and_eq_true] at hl
  refine s_biG ?_
  rcases hk with ⟨id, hid⟩ | ⟨T, hT⟩
  · rw [hid] at cr hv
    exact pe_callB cr hg hm hv ha hn hd (starCons hl.1) (starNone hl.2)
  · rw [hT] at cr hv
    exact pe_callTy cr hg hm hv ha hn hd (starCons hl.1) (starNone hl.2)
theorem s_gcd (g : Good c φ C k X) (hc : c.gcd = true) {e : Expr} {es : List Expr} {es' : List E} {p pos : Pos} (hg : Gl X "gcd") (ha : PA X (e :: es) ((tAW X.K φ C W) es')) (hl : lones (e :: es) = true) :
    PE X (.Call (.Name "gcd" p) (e :: es) [] pos) ((tD X.K φ C W) (.bi .gcd es')) ∧ (biNew .gcd = true → PE X (.Call (.Name "gcd" p) (e :: es) [] pos) ((tF X.K φ C W) (.bi .gcd es'))) := by
  simp only [lones, Bool.and_eq_true] at hl
  exact s_biG (pe_callBfun bi_gcd hg (g.gcd hc) ha (by decide +kernel) (starCons hl.1) (starNone hl.2))

/-! ### isinstance -/
def tyN : Ty → String
  | .int => "int" | .bool => "bool" | .str => "str" | .list => "list" | .tuple => "tuple" | .dict => "dict"
def tyD : D → String
  | .none => "NoneType" | .bool _ => "bool" | .int _ => "int" | .str _ => "str" | .list _ => "list" | .tuple _ => "tuple" | .dict _ => "dict"
theorem tyOf_eq {x : Str} {t : Ty} (h : tyOf x = some t) : bootBuiltins x = some (.type (tyN t)) ∧ x ≠ "__name__" ∧ (x == ("__debug__" : Str)) = false := by
  unfold tyOf at h
  split at h
  · rename_i e; cases h; subst e; exact ⟨by decide +kernel, by decide +kernel, by decide +kernel⟩
  split at h
  · rename_i e; cases h; subst e; exact ⟨by decide +kernel, by decide +kernel, by decide +kernel⟩
  split at h
  · rename_i e; cases h; subst e; exact ⟨by decide +kernel, by decide +kernel, by decide +kernel⟩
  split at h
  · rename_i e; cases h; subst e; exact ⟨by decide +kernel, by decide +kernel, by decide +kernel⟩
  split at h
  · rename_i e; cases h; subst e; exact ⟨by decide +kernel, by decide +kernel, by decide +kernel⟩
  split at h
  · rename_i e; cases h; subst e; exact ⟨by decide +kernel, by decide +kernel, by decide +kernel⟩
  · cases h
theorem tyX {K : PySem.W.Frag} {O : Ow} {H : Hp} {v : V} {d : D} (h : RpW K O H v d) : TyX K H v (.type (tyD d)) := by
  cases d with
  | list ds =>
    obtain ⟨a, xs, rfl, q, z, r⟩ := h
    rcases q with (q | ⟨o, q⟩) | ⟨o, its, n, q1, q2, q3⟩
    · exact .base (.lst q)
    · exact .base (.frz q)
    · exact .kList q1 q2
  | dict ds => obtain ⟨a, kvs, rfl, q, r⟩ := h; exact .base (.dK q)
  | none => cases (show Rp K O H v _ from h); exact .base .non
  | bool b => cases (show Rp K O H v _ from h); exact .base (.bl b)
  | int i => cases (show Rp K O H v _ from h); exact .base (.int i)
  | str x => cases (show Rp K O H v _ from h); exact .base (.str x)
  | tuple ds =>
    obtain ⟨a, xs, rfl, q, z, r⟩ := tupW h
    rcases q with (q | ⟨o, q⟩) | ⟨o, its, n, q1, q2, q3⟩
    · exact .base (.tup q)
    · exact .fTuple q
    · exact .kTuple q1 q2
def tyS (s : String) (t : Ty) : Bool := match t with
  | .int => s == "int" || s == "bool"
  | t => s == tyN t
theorem tyIs_S (t : Ty) (d : D) : tyIs t d = tyS (tyD d) t := by
  cases d <;> cases t <;> simp [tyIs, tyS, tyD, tyN]
theorem kit7 : ∀ s ∈ ["NoneType", "bool", "int", "str", "list", "tuple", "dict"], ∀ t ∈ [Ty.int, .bool, .str, .list, .tuple, .dict], kitB s (tyN t) = some (tyS s t) := by decide +kernel
theorem kitD (K : PySem.W.Frag) (d : D) (t : Ty) : PySem.W.kitOne K (.type (tyD d)) (.type (tyN t)) = some (tyIs t d) := by
  refine kit_ty ?_
  rw [tyIs_S]
  exact kit7 _ (by cases d <;> simp [tyD]) _ (by cases t <;> simp)
theorem s_ty {x : Str} {t : Ty} {pos : Pos} (h : tyOf x = some t) (hg : Gl X x) (hm : X.mg x = none) : PE X (.Name x pos) (tC (.ty (tyN t))) := by
  obtain ⟨h1, h2, h3⟩ := tyOf_eq h
  exact pe_bltn hg hm h1 rfl h2 h3
theorem s_isi1 {e : Expr} {e' : E} {x : Str} {t : Ty} {p p2 pos : Pos} (he : PE X e ((tW X.K φ C W) e')) (hl : lone e = true) (ht : tyOf x = some t) (hgx : Gl X x) (hmx : X.mg x = none) (hg : Gl X "isinstance") (hm : X.mg "isinstance" = none) :
    PE X (.Call (.Name "isinstance" p) [e, .Name x p2] [] pos) ((tF X.K φ C W) (.isi e' [t])) := by
  have ha : PA X [e, .Name x p2] (tCons ((tW X.K φ C W) e') (tCons (tC (.ty (tyN t))) tNil)) := pa_cons he (pa_cons (s_ty ht hgx hmx) pa_nil rfl) (starCons hl)
  refine pem (pe_callB call_isi hg hm (by decide +kernel) ha (by decide +kernel) (by decide +kernel) (starCons hl) (starNone (es := [_]) rfl)) fun σ H Q ⟨O, ε, er, ot, q⟩ => ?_
  simp only [ev] at q
  refine tW_in er ot q fun d v H1 s1 r1 q1 => ?_
  refine ⟨v, .ty (tyN t), _, _, tyIs t d, rfl, .ty _, tyX r1, kitD _ _ _, ?_⟩
  refine q1 (.bl _) H1 s1 ?_
  simp only [List.any_cons, List.any_nil, Bool.or_false]
  exact Rp.bl _
theorem s_isi2 {e : Expr} {e' : E} {x y : Str} {t u : Ty} {kk : Nat} {p p2 p3 p4 pos : Pos} (he : PE X e ((tW X.K φ C W) e')) (hl : lone e = true) (ht : tyOf x = some t) (hu : tyOf y = some u) (hgx : Gl X x) (hmx : X.mg x = none) (hgy : Gl X y) (hmy : X.mg y = none) (hg : Gl X "isinstance") (hm : X.mg "isinstance" = none) :
    PE X (.Call (.Name "isinstance" p) [e, .Tuple [.Name x p2, .Name y p3] kk p4] [] pos) ((tF X.K φ C W) (.isi e' [t, u])) := by
  have hT : PE X (.Tuple [.Name x p2, .Name y p3] kk p4) (tTup (tCons (tC (.ty (tyN t))) (tCons (tC (.ty (tyN u))) tNil))) := pe_tup (pa_cons (s_ty ht hgx hmx) (pa_cons (s_ty hu hgy hmy) pa_nil rfl) rfl)
  have ha : PA X [e, .Tuple [.Name x p2, .Name y p3] kk p4] (tCons ((tW X.K φ C W) e') (tCons (tTup (tCons (tC (.ty (tyN t))) (tCons (tC (.ty (tyN u))) tNil))) tNil)) := pa_cons he (pa_cons hT pa_nil rfl) (starCons hl)
  refine pem (pe_callB call_isiT hg hm (by decide +kernel) ha (by decide +kernel) (by decide +kernel) (starCons hl) (starNone (es := [_]) rfl)) fun σ H Q ⟨O, ε, er, ot, q⟩ => ?_
  simp only [ev] at q
  refine tW_in er ot q fun d v H1 s1 r1 q1 => ?_
  refine ⟨by show 2 ≤ sizeLine; rw [sizeLine_eq]; omega, fun T hT => ?_⟩
  have s2 := same_new (o := .tup [.ty (tyN t), .ty (tyN u)]) hT
  refine ⟨v, T, _, _, _, tyIs t d || tyIs u d, rfl, upd_same, .cons (.ty _) (.cons (.ty _) .nil), tyX (r1.same s2), kitAny_cons (kitD _ d t) (b := tyIs t d) (fun e => kitAny_cons (kitD _ d u) (fun e2 => ?_) (fun e2 => ?_)) (fun e => ?_), ?_⟩
  · rw [e, e2]; exact kitAny_nil
  · rw [e, e2]; rfl
  · rw [e]; rfl
  · refine q1 (.bl _) _ (s1.trans s2) ?_
    simp only [List.any_cons, List.any_nil, Bool.or_false]
    exact Rp.bl _
end
end Ws

set_option Elab.async false
set_option linter.all false
set_option maxRecDepth 100000
set_option maxHeartbeats 4000000
/-! Sim12: walks, targets, comprehensions -/
namespace Ws
open PySem PySem.Spec PyProof.Rows L2

/-- a walk over the data ds, whoever owns what -/
structure WkA (K : PySem.W.Frag) (O : Ow) (H : Hp) (J : L2.It) (ds : List D) : Prop where
  go : ∀ i d, ds[i]? = some d → J.go i H
  yld : ∀ i d x H', ds[i]? = some d → J.yld i H x H' → H' = H ∧ Rp K O H x d
  stop : J.stop ds.length H
section
variable {K : PySem.W.Frag} {O : Ow} {H : Hp} {a : Addr} {xs : List V} {ds : List D}
theorem lt_of_some {α : Type} {l : List α} {i : Nat} {d : α} (h : l[i]? = some d) : i < l.length := (List.getElem?_eq_some_iff.mp h).1
theorem wka_list (q : SqL K H a xs) (r : Rps K O H xs ds) : WkA K O H (Itl K a) ds where
  go i d e := walk_list.goes i H (by rw [r.length]; exact lt_of_some e) q
  yld i d x H' e y := by
    obtain ⟨h1, h2⟩ := walk_list.yields i H x H' (by rw [r.length]; exact lt_of_some e) q y
    obtain ⟨v, h3, h4⟩ := r.get e
    rw [h2] at h3; cases h3
    exact ⟨h1, h4⟩
  stop := by rw [← r.length]; exact walk_list.stops H q
theorem wka_tup (q : SqT K H a xs) (r : Rps K O H xs ds) : WkA K O H (Itt K a) ds where
  go i d e := walk_tup.goes i H (by rw [r.length]; exact lt_of_some e) q
  yld i d x H' e y := by
    obtain ⟨h1, h2⟩ := walk_tup.yields i H x H' (by rw [r.length]; exact lt_of_some e) q y
    obtain ⟨v, h3, h4⟩ := r.get e
    rw [h2] at h3; cases h3
    exact ⟨h1, h4⟩
  stop := by rw [← r.length]; exact walk_tup.stops H q
theorem wka_str {z : Str} (hz : PyData.strOk z = true) : WkA K O H (Its z) (z.cps.toList.map fun c => .str ⟨#[c]⟩) where
  go i d e := by
    have lt := lt_of_some e
    rw [List.length_map] at lt
    exact lt
  yld i d x H' e y := by
    obtain ⟨h1, c, h2, h3⟩ := (show H' = H ∧ ∃ c, z.cps[i]? = some c ∧ x = .str ⟨#[c]⟩ from y)
    subst h3
    rw [List.getElem?_map] at e
    have h2' : z.cps.toList[i]? = some c := by rw [Array.getElem?_toList]; exact h2
    rw [h2'] at e
    cases e
    refine ⟨h1, .str _ ?_ (by show 1 ≤ sizeLine; rw [sizeLine_eq]; omega)⟩
    refine strOk_one (i := (i : Int)) hz ?_
    unfold ixD
    rw [if_pos (by omega)]
    exact h2'
  stop := by rw [List.length_map]; exact Nat.le_refl _
theorem rev_get {α : Type} {l : List α} {i : Nat} {d : α} (h : l.reverse[i]? = some d) : l[l.length - 1 - i]? = some d := by
  have lt := lt_of_some h
  rw [List.length_reverse] at lt
  rwa [List.getElem?_reverse lt] at h
theorem wka_rev (q : SqL K H a xs) (r : Rps K O H xs ds) : WkA K O H (Itv K a xs.length) ds.reverse where
  go i d e := walk_rev.goes i H (by rw [r.length, ← List.length_reverse]; exact lt_of_some e) q
  yld i d x H' e y := by
    have lt := lt_of_some e
    rw [List.length_reverse] at lt
    obtain ⟨h1, h2⟩ := walk_rev.yields i H x H' (by rw [r.length]; exact lt) q y
    have e2 := rev_get e
    rw [← r.length] at e2
    obtain ⟨v, h3, h4⟩ := r.get e2
    rw [h2] at h3; cases h3
    exact ⟨h1, h4⟩
  stop := by rw [List.length_reverse, ← r.length]; exact walk_rev.stops H q
theorem wka_revT (q : SqT K H a xs) (r : Rps K O H xs ds) : WkA K O H (RT.ItvT K a xs.length) ds.reverse where
  go i d e := by
    have lt := lt_of_some e
    rw [List.length_reverse] at lt
    have e2 := rev_get e
    rw [← r.length] at e2
    obtain ⟨v, h3, h4⟩ := r.get e2
    exact ⟨by rw [r.length]; exact lt, xs, v, q, h3⟩
  yld i d x H' e y := by
    have e2 := rev_get e
    rw [← r.length] at e2
    obtain ⟨v, h3, h4⟩ := r.get e2
    obtain ⟨h1, h2⟩ := (show H' = H ∧ _ from y)
    have h2 := h2 xs q
    rw [h2] at h3; cases h3
    exact ⟨h1, h4⟩
  stop := by rw [List.length_reverse, ← r.length]; exact Nat.le_refl _
theorem rngL_get {lo : Int} {n i : Nat} {d : D} (h : (rngL lo n)[i]? = some d) : i < n ∧ d = .int (lo + (i : Nat)) := by
  have lt := lt_of_some h
  have lt' : i < n := by simpa [rngL] using lt
  unfold rngL at h
  rw [List.getElem?_map, List.getElem?_range lt'] at h
  cases h
  exact ⟨lt', rfl⟩
theorem rngL_len {lo : Int} {n : Nat} : (rngL lo n).length = n := by simp [rngL]
theorem wka_rng {lo : Int} {n : Nat} : WkA K O H (Itr lo n) (rngL lo n) where
  go i d e := (rngL_get e).1
  yld i d x H' e y := by
    obtain ⟨h1, h2⟩ := (show H' = H ∧ x = .int (lo + i) from y)
    obtain ⟨_, e2⟩ := rngL_get e
    subst e2; subst h2
    exact ⟨h1, .int _⟩
  stop := by rw [rngL_len]; exact Nat.le_refl _
end

/-- an iterator over what `it` says; F: whoever owns what later, else only while all stands -/
def tI (F : Bool) (K : PySem.W.Frag) (φ : Nat → List D → Rs D) (C : Addr) (W : WX) (it : It) : TI := fun σ H R => ∃ O ε, ER K O H σ ε ∧ OT O H ∧ Res K C W O σ H (evi φ it ε) fun ds =>
  ∀ J H1, Same H H1 → ds.length ≤ sizeLine → (∀ O' H', (F = false → Same H1 H') → Fz O H1 O' H' → WkA K O' H' J ds) → R J H1
theorem pim {X : Cx} {tg e : Expr} {t t' : TI} (h : PI X tg e t) (f : ∀ σ H Q, t' σ H Q → t σ H Q) : PI X tg e t' := ⟨fun p s σ H Q I q => h.run p s σ H Q I (f σ H Q q)⟩
theorem pgm {X : Cx} {e : Expr} {t t' : TG} (h : PG X e t) (f : ∀ v σ H Q, t' v σ H Q → t v σ H Q) : PG X e t' := ⟨fun p s σ H v u Q I r q => h.run p s σ H v u Q I r (f v σ H Q q)⟩
theorem pgsm {X : Cx} {e : List Expr} {t t' : TGs} (h : PGs X e t) (f : ∀ v σ H Q, t' v σ H Q → t v σ H Q) : PGs X e t' := ⟨fun p s σ H v u Q I r q => h.run p s σ H v u Q I r (f v σ H Q q)⟩

def iSeq (K : PySem.W.Frag) (tl : TE) : TI := fun σ H R => tl σ H fun x H1 => (∃ a xs, x = .ref a ∧ ((SqL K H1 a xs ∧ R (Itl K a) H1) ∨ (SqT K H1 a xs ∧ R (Itt K a) H1))) ∨ ∃ z, x = .str z ∧ R (Its z) H1
theorem pi_seq {X : Cx} {tg l : Expr} {tl : TE} (hl : PE X l tl) : PI X tg l (iSeq X.K tl) := by
  refine ⟨fun pins s σ H R I h => ?_⟩
  refine thn (hl.run pins s σ H _ I h) fun v s1 ⟨x, H1, I1, r1, q1⟩ => ?_
  rcases q1 with q1 | ⟨z, rfl, q⟩
  rotate_left
  · obtain ⟨t, rfl⟩ := r1
    cases ha : z.cps.all (· < 128)
    · exact wpAny_pyIter_wide ha (pi_one (tk := s1.toks) I1 _ (turn_str _ z t "str_iterator" (.inr rfl)) ⟨_, Heap.get?_push_size _ rfl, rfl, rfl⟩ q)
    · exact wpAny_pyIter_ascii ha (pi_one (tk := s1.toks) I1 _ (turn_str _ z t "str_ascii_iterator" (.inl rfl)) ⟨_, Heap.get?_push_size _ rfl, rfl, rfl⟩ q)
  obtain ⟨a, xs, e, q⟩ := q1
  subst e
  cases r1
  have fin : ∀ b ∈ [s1.heap.objs.size], FpOk X pins H1 b := fun b hb => by
    have e : b = s1.heap.objs.size := by simpa using hb
    subst e
    exact I1.fpOk (Nat.le_refl _) (I1.hok.fresh (Nat.le_refl _))
  rcases q with ⟨hq, q⟩ | ⟨hq, q⟩
  · obtain ⟨its, rv, p, hz⟩ := I1.list hq
    refine wpAny_pyIter_list p.isList ?_
    exact ⟨s1.heap.objs.size, [s1.heap.objs.size], _, _, H1, rfl, I1.kept (t' := s1.toks) fun b o e => Heap.get?_push_of_some _ e, turn_list a _, ⟨_, Heap.get?_push_size _ rfl, rfl, rfl⟩, fin, q⟩
  · obtain ⟨its, rv, p, hz⟩ := I1.tuple hq
    refine wpAny_pyIter_tuple (show s1.heap.IsTuple a its.toArray from p) ?_
    exact ⟨s1.heap.objs.size, [s1.heap.objs.size], _, _, H1, rfl, I1.kept (t' := s1.toks) fun b o e => Heap.get?_push_of_some _ e, turn_tuple a _, ⟨_, Heap.get?_push_size _ rfl, rfl, rfl⟩, fin, q⟩

section
variable {X : Cx} {φ : Nat → List D → Rs D} {C : Addr} {W : WX} {c : Cfg} {k : Nat} {tg : Expr}
theorem seqD_noex (d : D) : NoEx (seqD d) := by cases d <;> first | exact NoEx.ok _ | exact NoEx.st
/-- what a reading gives for a walk; weak readings only where all stands -/
def Rd2 (F : Bool) (K : PySem.W.Frag) (O : Ow) (H : Hp) (v : V) (d : D) : Prop := if F = true then Rp K O H v d else RpW K O H v d
theorem Rd2.list {F : Bool} {K : PySem.W.Frag} {O : Ow} {H : Hp} {v : V} {ds : List D} (h : Rd2 F K O H v (.list ds)) : ∃ a xs, v = .ref a ∧ SqL K H a xs ∧ xs.length ≤ sizeLine ∧ Rps K O H xs ds ∧ ∀ O' H', (F = false → Same H H') → Fz O H O' H' → SqL K H' a xs := by
  cases F with
  | true =>
    cases (show Rp K O H v _ from h) with
    | lst q z r => exact ⟨_, _, rfl, q.seq, z, r, fun O' H' _ f => (f.sl q).seq⟩
  | false =>
    obtain ⟨a, xs, e, q, z, r⟩ := (show RpW K O H v (.list ds) from h)
    exact ⟨a, xs, e, q, z, r, fun O' H' s _ => Same.sql (s rfl) q⟩
theorem Rd2.tup {F : Bool} {K : PySem.W.Frag} {O : Ow} {H : Hp} {v : V} {ds : List D} (h : Rd2 F K O H v (.tuple ds)) : ∃ a xs, v = .ref a ∧ SqT K H a xs ∧ xs.length ≤ sizeLine ∧ Rps K O H xs ds := by
  refine tupW (O := O) (?_ : RpW K O H v (.tuple ds))
  cases F with
  | true => exact Rp.weak (show Rp K O H v _ from h)
  | false => exact (show RpW K O H v _ from h)
def tR (F : Bool) (K : PySem.W.Frag) (φ : Nat → List D → Rs D) (C : Addr) (W : WX) (e : E) : TE := if F = true then tD K φ C W e else tW K φ C W e
theorem tR_in {F : Bool} {K : PySem.W.Frag} {a : E} {O : Ow} {ε : Env} {σ : L2.St} {H : Hp} {Q : VK} {β : Type} {f : D → Rs β} {k : β → Prop} (er : ER K O H σ ε) (ot : OT O H) (h : Res K C W O σ H ((ev φ a ε).bnd f) k)
    (g : ∀ d v H', Same H H' → Rd2 F K O H' v d → Res K C W O σ H (f d) k → Q v H') : tR F K φ C W a σ H Q := by
  cases F with
  | true => exact ⟨O, ε, er, ot, h.bind fun d _ q v H' s r => g d v H' s r q⟩
  | false => exact ⟨O, ε, er, ot, h.bind fun d _ q v H' s r => g d v H' s r q⟩
theorem s_seq {F : Bool} {e : Expr} {e' : E} (he : PE X e (tR F X.K φ C W e')) : PI X tg e (tI F X.K φ C W (.seq e')) :=
  pim (pi_seq he) fun σ H R ⟨O, ε, er, ot, q⟩ => by
    simp only [evi] at q
    refine tR_in er ot q fun d v H1 s1 r1 q1 => ?_
    cases d <;> try exact (show False from q1).elim
    · rename_i z
      have r2 : RpW X.K O H1 v (.str z) := by
        cases F with
        | true => exact Rp.weak (show Rp X.K O H1 v _ from r1)
        | false => exact (show RpW X.K O H1 v (.str z) from r1)
      obtain ⟨e, hz, hl⟩ := strW r2
      exact .inr ⟨z, e, q1 _ H1 s1 (by rw [List.length_map]; exact hl) fun O' H' s f => wka_str hz⟩
    · obtain ⟨a, xs, e, hq, z, r, mv⟩ := r1.list
      exact .inl ⟨a, xs, e, .inl ⟨hq, q1 _ H1 s1 (by rw [← r.length]; exact z) fun O' H' s f => wka_list (mv O' H' s f) (r.mv f)⟩⟩
    · obtain ⟨a, xs, e, hq, z, r⟩ := r1.tup
      exact .inl ⟨a, xs, e, .inr ⟨hq, q1 _ H1 s1 (by rw [← r.length]; exact z) fun O' H' s f => wka_tup (f.st hq) (r.mv f)⟩⟩
theorem s_revI {F : Bool} (g : Good c φ C k X) {e : Expr} {e' : E} {p pos : Pos} (hg : Gl X "reversed") (hm : X.mg "reversed" = none) (hl : lone e = true) (he : PE X e (tR F X.K φ C W e')) : PI X tg (.Call (.Name "reversed" p) [e] [] pos) (tI F X.K φ C W (.rev e')) :=
  pim (RT.pi_revA hg hm he (starCons hl)) fun σ H R ⟨O, ε, er, ot, q⟩ => by
    simp only [evi] at q
    refine tR_in er ot q fun d v H1 s1 r1 q1 => ?_
    cases d <;> try exact (show False from q1).elim
    · obtain ⟨a, xs, e, hq, z, r, mv⟩ := r1.list
      exact ⟨a, xs, e, .inl ⟨hq, q1 _ H1 s1 (by rw [List.length_reverse, ← r.length]; exact z) fun O' H' s f => wka_rev (mv O' H' s f) (r.mv f)⟩⟩
    · obtain ⟨a, xs, e, hq, z, r⟩ := r1.tup
      exact ⟨a, xs, e, .inr ⟨hq, q1 _ H1 s1 (by rw [List.length_reverse, ← r.length]; exact z) fun O' H' s f => wka_revT (f.st hq) (r.mv f)⟩⟩
theorem rngD_of {lo hi : Int} {β : Type} {f : List D → Rs β} {O : Ow} {σ : L2.St} {H : Hp} {k : β → Prop} (h : Res X.K C W O σ H ((rngD lo hi).bnd f) k) : -(2 ^ 62) ≤ lo ∧ lo < 2 ^ 62 ∧ -(2 ^ 62) ≤ hi ∧ hi < 2 ^ 62 ∧ (hi - lo).toNat ≤ LIM ∧ Res X.K C W O σ H (f (rngL lo (hi - lo).toNat)) k := by
  unfold rngD at h
  split at h
  · rename_i c
    obtain ⟨c1, c2, c3, c4, c5⟩ := c
    exact ⟨c1, c2, c3, c4, c5, h⟩
  · exact (show False from h).elim
theorem Rs.bnd_ok' {α : Type} (r : Rs α) : r.bnd .ok = r := by cases r <;> rfl
theorem s_rng1 {F : Bool} {e : Expr} {e' : E} {p pos : Pos} (hg : Gl X "range") (hm : X.mg "range" = none) (hl : lone e = true) (he : PE X e ((tW X.K φ C W) e')) : PI X tg (.Call (.Name "range" p) [e] [] pos) (tI F X.K φ C W (.rng1 e')) :=
  pim (pi_range1 hg hm (ta := tCons ((tW X.K φ C W) e') tNil) (pa_cons he pa_nil (starCons hl)) (by rw [starCons hl]; rfl)) fun σ H R ⟨O, ε, er, ot, q⟩ => by
    simp only [evi] at q
    refine tW_in er ot q fun d v H1 s1 r1 q1 => ?_
    cases d <;> try exact (show False from q1).elim
    rename_i i
    cases intW r1
    have q1 : Res X.K C W O σ H (rngD 0 i) _ := q1
    rw [← Rs.bnd_ok' (rngD 0 i)] at q1
    obtain ⟨_, _, c3, c4, c5, q2⟩ := rngD_of q1
    rw [Int.sub_zero] at c5 q2
    exact ⟨i, rfl, c3, c4, (show ∀ J H1, Same H H1 → _ → _ → R J H1 from q2) _ H1 s1 (by rw [rngL_len, ← lim_line]; exact c5) fun O' H' _ _ => wka_rng⟩
theorem s_rng2 {F : Bool} {e e2 : Expr} {e' e2' : E} {p pos : Pos} (hg : Gl X "range") (hm : X.mg "range" = none) (hl : lone e = true) (hl2 : lone e2 = true) (he : PE X e ((tW X.K φ C W) e')) (he2 : PE X e2 ((tW X.K φ C W) e2')) : PI X tg (.Call (.Name "range" p) [e, e2] [] pos) (tI F X.K φ C W (.rng2 e' e2')) :=
  pim (pi_range2 hg hm (ta := tCons ((tW X.K φ C W) e') (tCons ((tW X.K φ C W) e2') tNil)) (pa_cons he (pa_cons he2 pa_nil (starCons hl2)) (starCons hl)) (by rw [starCons hl, starCons hl2]; rfl) (by rw [starCons hl2]; rfl)) fun σ H R ⟨O, ε, er, ot, q⟩ => by
    simp only [evi] at q
    refine tW_in er ot q fun d v H1 s1 r1 q1 => ?_
    refine tW_in (er.same s1) (ot.same s1) (q1.same s1 (k' := fun ds => ∀ J H2, Same H1 H2 → ds.length ≤ sizeLine → (∀ O' H', (F = false → Same H2 H') → Fz O H2 O' H' → WkA X.K O' H' J ds) → R J H2) fun ds k J H2 s => k J H2 (s1.trans s)) fun d2 v2 H2 s2 r2 q2 => ?_
    cases d <;> try exact (show False from q2).elim
    cases d2 <;> try exact (show False from q2).elim
    rename_i i j
    cases intW r1; cases intW r2
    have q2 : Res X.K C W O σ H1 (rngD i j) _ := q2
    rw [← Rs.bnd_ok' (rngD i j)] at q2
    obtain ⟨c1, c2, c3, c4, c5, q3⟩ := rngD_of q2
    exact ⟨i, j, rfl, ⟨c1, c2, c3, c4⟩, (show ∀ J H2, Same H1 H2 → _ → _ → R J H2 from q3) _ H2 s2 (by rw [rngL_len, ← lim_line]; exact c5) fun O' H' _ _ => wka_rng⟩
end

/-! ### targets -/
/-- a target takes what stands for d -/
def gP (K : PySem.W.Frag) (t : Pt) : TG := fun v σ H Q => ∃ O d ε ε', Rp K O H v d ∧ bnd t d ε = .ok ε' ∧ ∀ σ', (∀ O' H', Fz O H O' H' → ER K O' H' σ ε → ER K O' H' σ' ε') → (∀ vs, (∀ i ∈ t.sl, i ∈ vs) → L2.wipe σ' vs = L2.wipe σ vs) → Q σ' H
def gPs (K : PySem.W.Frag) (ts : List Pt) : TGs := fun xs σ H Q => ∃ O ds ε ε', Rps K O H xs ds ∧ bnds ts ds ε = .ok ε' ∧ ∀ σ', (∀ O' H', Fz O H O' H' → ER K O' H' σ ε → ER K O' H' σ' ε') → (∀ vs, (∀ i ∈ Pt.sls ts, i ∈ vs) → L2.wipe σ' vs = L2.wipe σ vs) → Q σ' H
/-- what the scope of the text says of a target's names holds in the frame -/
def TgOk (X : Cx) (sc : Scope) : Prop := ∀ x, (sc.names.lookup x = some .local → X.env.scope.names.lookup x = some .local) ∧ (sc.names.lookup x = some .cell → X.env.scope.names.lookup x = some .cell ∧ X.fn x = true)
theorem slotIx_get {N : List Str} {x : Str} {i : Nat} (h : slotIx N x = some i) : N[i]? = some x := by
  unfold slotIx at h
  obtain ⟨lt, e, _⟩ := List.findIdx?_eq_some_iff_getElem.mp h
  rw [List.getElem?_eq_getElem lt]
  simp at e; rw [e]
theorem assignEach_len {env : PySem.Env} : ∀ {es : List Expr}, (assignEach es env).length = es.length
  | [] => rfl
  | e :: es => by cases e <;> (show (_ :: assignEach es env).length = _; rw [List.length_cons, assignEach_len]; rfl)
theorem assignEach_star {env : PySem.Env} : ∀ {es : List Expr}, noStar es = true → (assignEach es env).findIdx? (·.1) = none
  | [], _ => rfl
  | e :: es, h => by
    cases e <;> first
      | (simp [noStar] at h; done)
      | (show List.findIdx? _ ((false, _) :: assignEach es env) = none
         rw [List.findIdx?_cons]
         have h : noStar es = true := h
         simp [assignEach_star h])
def gUn (K : PySem.W.Frag) (n : Nat) (t : TGs) : TG := fun v σ H Q => ∃ a xs, v = .ref a ∧ (SqT K H a xs ∨ SqL K H a xs) ∧ xs.length = n ∧ t xs σ H Q
theorem pg_un {X : Cx} {es : List Expr} {kk : Nat} {t : TGs} {n : Nat} {pos : Pos} (hc : X.calm = true) (h : PGs X es t) (hn : (assignEach es X.env).length = n) (hst : (assignEach es X.env).findIdx? (·.1) = none) : PG X (.Tuple es kk pos) (gUn X.K n t) := by
  refine ⟨fun pins s σ H v u Q I r hw => ?_⟩
  obtain ⟨a, xs, e1, hq | hq, hl, hw⟩ := hw
  · exact (pg_tup hc h hn hst).run pins s σ H v u Q I r ⟨a, xs, e1, hq, hl, hw⟩
  · exact (pg_lst hc h hn hst).run pins s σ H v u Q I r ⟨a, xs, e1, hq, hl, hw⟩
theorem bnds_len : ∀ {ps : List Pt} {ds : List D} {ε ε' : Env}, bnds ps ds ε = .ok ε' → ds.length = ps.length
  | [], [], _, _, _ => rfl
  | [], _ :: _, _, _, h => by simp [bnds] at h
  | _ :: _, [], _, _, h => by simp [bnds] at h
  | p :: ps, d :: ds, ε, ε', h => by
    simp only [bnds] at h
    cases e : bnd p d ε with
    | ok ε2 => rw [e] at h; rw [List.length_cons, List.length_cons, bnds_len (ε := ε2) (ε' := ε') h]
    | ex z => rw [e] at h; cases h
    | st => rw [e] at h; cases h
theorem Rs.bnd_of {α β : Type} {r : Rs α} {f : α → Rs β} {b : β} (h : r.bnd f = .ok b) : ∃ a, r = .ok a ∧ f a = .ok b := by
  cases r with
  | ok a => exact ⟨a, rfl, h⟩
  | ex d => cases h
  | st => cases h
section
variable {X : Cx} {c : Cfg} {sc : Scope}
mutual
theorem pg_sound (hN : X.N = c.N) (nd : X.N.Nodup) (hc : X.calm = true) (tk : TgOk X sc) : ∀ (n : Nat) (e : Expr) (t : Pt), compT c sc n e = some t → PG X e (gP X.K t)
  | 0, _, _, h => by simp [compT] at h
  | n + 1, e, t, h => by
    cases e <;> try (simp [compT] at h; done)
    · rename_i x pos
      have nm : ∀ i, slotIx c.N x = some i → Loc X.env.scope x → (X.fn x = true ∨ X.env.scope.names.lookup x = some .local) → PG X (.Name x pos) (gP X.K (.nm i)) := fun i hi hl hf => by
        refine pgm (pg_name nd (by rw [hN]; exact slotIx_get hi) hl hf) fun v σ H Q ⟨O, d, ε, ε', r, b, q⟩ => ?_
        simp only [bnd] at b
        injection b with b
        subst b
        exact q _ (fun O' H' f er => er.set (r.mv f)) fun vs hv => wipe_set (hv i (by simp [Pt.sl]))
      simp only [compT] at h
      split at h
      · rename_i e
        cases hs : slotIx c.N x with
        | none => rw [hs] at h; cases h
        | some i =>
          rw [hs] at h; cases h
          exact nm i hs (.inl ((tk x).1 e)) (.inr ((tk x).1 e))
      · rename_i e
        cases hs : slotIx c.N x with
        | none => rw [hs] at h; cases h
        | some i =>
          rw [hs] at h; cases h
          exact nm i hs (.inr ((tk x).2 e).1) (.inl ((tk x).2 e).2)
      · cases h
    · rename_i es kk pos
      simp only [compT] at h
      split at h
      · rename_i hst
        cases hs : compTs c sc n es with
        | none => rw [hs] at h; cases h
        | some ts =>
          rw [hs] at h; cases h
          refine pgm (pg_un hc (pgs_sound hN nd hc tk n es ts hs).1 (n := ts.length) (by rw [assignEach_len]; exact (pgs_sound hN nd hc tk n es ts hs).2.symm) (assignEach_star hst)) fun v σ H Q ⟨O, d, ε, ε', r, b, q⟩ => ?_
          cases d <;> try (simp [bnd] at b; done)
          · simp only [bnd] at b
            cases r with
            | lst q1 z r => exact ⟨_, _, rfl, .inr q1.seq, by rw [r.length]; exact bnds_len b, O, _, ε, ε', r, b, fun σ' e' w => q σ' e' fun vs hv => w vs fun i hi => hv i (by simpa [Pt.sl] using hi)⟩
          · simp only [bnd] at b
            cases r with
            | tup q1 z r => exact ⟨_, _, rfl, .inl q1, by rw [r.length]; exact bnds_len b, O, _, ε, ε', r, b, fun σ' e' w => q σ' e' fun vs hv => w vs fun i hi => hv i (by simpa [Pt.sl] using hi)⟩
      · cases h
theorem pgs_sound (hN : X.N = c.N) (nd : X.N.Nodup) (hc : X.calm = true) (tk : TgOk X sc) : ∀ (n : Nat) (es : List Expr) (ts : List Pt), compTs c sc n es = some ts → PGs X es (gPs X.K ts) ∧ ts.length = es.length
  | 0, _, _, h => by simp [compTs] at h
  | n + 1, [], ts, h => by
    simp only [compTs] at h
    cases h
    refine ⟨pgsm pgs_nil fun v σ H Q ⟨O, ds, ε, ε', r, b, q⟩ => ?_, rfl⟩
    cases ds with
    | nil =>
      cases r
      simp only [bnds] at b
      injection b with b; subst b
      exact ⟨rfl, q σ (fun _ _ _ er => er) fun _ _ => rfl⟩
    | cons d ds => simp [bnds] at b
  | n + 1, e :: es, ts, h => by
    simp only [compTs] at h
    cases h1 : compT c sc n e with
    | none => rw [h1] at h; cases h
    | some t =>
      cases h2 : compTs c sc n es with
      | none => rw [h1, h2] at h; cases h
      | some us =>
        rw [h1, h2] at h
        cases h
        obtain ⟨p2, l2⟩ := pgs_sound hN nd hc tk n es us h2
        refine ⟨pgsm (pgs_cons (pg_sound hN nd hc tk n e t h1) p2 ?_) fun v σ H Q ⟨O, ds, ε, ε', r, b, q⟩ => ?_, by rw [List.length_cons, List.length_cons, l2]⟩
        · cases n with
          | zero => simp [compT] at h1
          | succ m => cases e <;> first | rfl | (simp [compT] at h1; done)
        · cases r with
          | nil => simp [bnds] at b
          | cons r rs =>
            simp only [bnds] at b
            obtain ⟨ε2, b1, b2⟩ := Rs.bnd_of b
            refine ⟨_, _, rfl, O, _, ε, ε2, r, b1, fun σ1 er1 w1 => ⟨O, _, ε2, ε', rs, b2, fun σ2 er2 w2 => q σ2 (fun O' H' f er => er2 O' H' f (er1 O' H' f er)) fun vs hv => ?_⟩⟩
            rw [w2 vs fun i hi => hv i (by simp [Pt.sls, hi]), w1 vs fun i hi => hv i (by simp [Pt.sls, hi])]
end
end
end Ws

set_option Elab.async false
set_option linter.all false
set_option maxRecDepth 100000
set_option maxHeartbeats 4000000
/-! Sim13: comprehensions -/
namespace Ws
open PySem PySem.Spec PyProof.Rows L2

/-- a condition -/
def tC (K : PySem.W.Frag) (φ : Nat → List D → Rs D) (C : Addr) (W : WX) (cd : Option E) : TT := fun σ H Q => ∃ O ε, ER K O H σ ε ∧ OT O H ∧ Res K C W O σ H (evc φ cd ε) fun b => ∀ H', Same H H' → Q b H'
theorem lcL_noex {t : D → Rs (List D)} : ∀ ds, NoEx (lcL t ds)
  | [] => NoEx.ok _
  | d :: ds => by
    unfold lcL
    refine NoEx.bnd ?_ fun ys => (lcL_noex ds).bnd fun _ => NoEx.ok _
    cases t d <;> first | exact NoEx.ok _ | exact NoEx.st
theorem lcL_cons {t : D → Rs (List D)} {d : D} {ds zs : List D} (h : lcL t (d :: ds) = .ok zs) : ∃ ys ws, t d = .ok ys ∧ lcL t ds = .ok ws ∧ zs = ys ++ ws := by
  unfold lcL at h
  obtain ⟨ys, h1, h⟩ := Rs.bnd_of h
  obtain ⟨ws, h2, h⟩ := Rs.bnd_of h
  injection h with h
  refine ⟨ys, ws, ?_, h2, h.symm⟩
  cases e : t d with
  | ok a => rw [e] at h1; exact h1
  | ex z => rw [e] at h1; cases h1
  | st => rw [e] at h1; cases h1
theorem Res.of_noex {α : Type} {K : PySem.W.Frag} {C : Addr} {W : WX} {O : Ow} {σ : L2.St} {H : Hp} {r : Rs α} {k : α → Prop} (n : NoEx r) (h : Res K C W O σ H r k) : ∃ a, r = .ok a ∧ k a := by
  cases r with
  | ok a => exact ⟨a, rfl, h⟩
  | ex d => exact absurd rfl (n d)
  | st => exact h.elim

/-- the owners while a comprehension's list grows -/
def O1 (O : Ow) (p : Addr) : Ow := fun a => if a = p then some 0 else O a
section
variable {K : PySem.W.Frag} {O : Ow} {H H' : Hp} {p : Addr}
theorem fzO1 (hp : H p = none) (s : Same H H') : Fz O H (O1 O p) H' :=
  ⟨fun a o e q => ⟨s a o e, by
    have ne : a ≠ p := fun z => by rw [z, hp] at e; cases e
    unfold O1; rw [if_neg ne]; exact q⟩, fun a xs e => s a _ e, fun a o xs e => s a _ e⟩
theorem otO1 (ot : OT O H) (s : Same H H') (h : ∃ o, H' p = some o) : OT (O1 O p) H' := fun a i e => by
  unfold O1 at e
  split at e
  · rename_i z; rw [z]; exact h
  · obtain ⟨o, q⟩ := ot a i e; exact ⟨o, s a o q⟩
theorem fzUp {acc : List V} {o : HO} (h : H p = some (.lst acc)) : Fz (O1 O p) H (O1 O p) (upd H p o) := by
  refine ⟨fun a u e q => ?_, fun a xs e => ?_, fun a u xs e => ?_⟩
  · have ne : a ≠ p := fun z => by unfold O1 at q; rw [if_pos z] at q; cases q
    exact ⟨by rw [upd_ne ne]; exact e, q⟩
  · have ne : a ≠ p := fun z => by rw [z, h] at e; cases e
    rw [upd_ne ne]; exact e
  · have ne : a ≠ p := fun z => by rw [z, h] at e; cases e
    rw [upd_ne ne]; exact e
theorem sameUp {H0 : Hp} {o : HO} (hp : H0 p = none) (s : Same H0 H) : Same H0 (upd H p o) := fun a u e => by
  have ne : a ≠ p := fun z => by rw [z, hp] at e; cases e
  rw [upd_ne ne]; exact s a u e
theorem fzOff {o : HO} (h : ∃ acc, H p = some (.lst acc)) {O' : Ow} (g : ∀ a, a ≠ p → O' a = O a) : Fz (O1 O p) H O' H := by
  refine ⟨fun a u e q => ⟨e, ?_⟩, fun a xs e => e, fun a u xs e => e⟩
  have ne : a ≠ p := fun z => by unfold O1 at q; rw [if_pos z] at q; cases q
  rw [g a ne]
  unfold O1 at q; rwa [if_neg ne] at q
end
theorem drop_cons {α : Type} {l : List α} {i : Nat} {d : α} (h : l[i]? = some d) : l.drop i = d :: l.drop (i + 1) := by
  obtain ⟨lt, e⟩ := List.getElem?_eq_some_iff.mp h
  rw [List.drop_eq_getElem_cons lt, e]
theorem isin_of {t : Pt} {vs : List Nat} (h : t.isin vs = true) : ∀ i ∈ t.sl, i ∈ vs := fun i hi => by
  unfold Pt.isin at h
  rw [List.all_eq_true] at h
  simpa using h i hi

section
variable {X : Cx} {φ : Nat → List D → Rs D} {C : Addr} {W : WX} {c : Cfg} {k : Nat}
theorem lc_rd {own : List (Str × Nat)} {t : Pt} {it : It} {cd : Option E} {x : E} (hin : t.isin (own.map (·.2)) = true) {σ : L2.St} {H : Hp} {Q : VK} (h : (tF X.K φ C W) (.lc (own.map (·.2)) x t it cd) σ H Q) :
    tLc (tI false X.K φ C W it) (gP X.K t) (tC X.K φ C W0 cd) (tD X.K φ C W0 x) (own.map (·.2)) σ H Q := by
    obtain ⟨O, ε, er, ot, q⟩ := h
    simp only [ev] at q
    refine ⟨O, ε, er, ot, q.bind fun ds _ q1 J H1 s1 hz wk Dd hD => ?_⟩
    revert q1
    generalize htn : (fun x_1 => (bnd t x_1 (wipeE ε (own.map (·.2)))).bnd fun ε' => (evc φ cd ε').bnd fun b => if b then (ev φ x ε').bnd fun y => Rs.ok [y] else Rs.ok []) = turn
    intro q1
    obtain ⟨tot, e1, q2⟩ := Res.of_noex (lcL_noex ds) (q1.bind fun ys _ q2 => q2)
    have q2 : kF X.K O H Q (.list tot) := q2
    have er1 := er.same s1
    have ot1 := ot.same s1
    refine ⟨fun i m H' => m = ds.length - i ∧ i ≤ ds.length ∧ ∃ acc dacc rest, H' Dd = some (.lst acc) ∧ Same H1 H' ∧ acc.length ≤ i ∧ Rps X.K (O1 O Dd) H' acc dacc ∧ lcL turn (ds.drop i) = .ok rest ∧ dacc ++ rest = tot,
      ⟨ds.length, by simp, Nat.zero_le _, [], [], tot, upd_same, sameUp hD (Same.refl _), Nat.le_refl _, .nil, by simpa using e1, rfl⟩, ?_⟩
    rintro i m H' ⟨rfl, hi, acc, dacc, rest, hA, sH, hl, ra, er', et⟩
    have w := wk (O1 O Dd) H' (fun _ => sH) (fzO1 hD sH)
    by_cases lt : i < ds.length
    · have hd : ds[i]? = some ds[i] := List.getElem?_eq_getElem lt
      rw [drop_cons hd] at er'
      obtain ⟨ys, ws, t1, t2, t3⟩ := lcL_cons er'
      rw [← htn] at t1
      obtain ⟨ε', b1, t1⟩ := Rs.bnd_of t1
      obtain ⟨b, b2, t1⟩ := Rs.bnd_of t1
      refine .inr ⟨w.go i _ hd, fun H' => i + 1 ≤ ds.length ∧ ∃ acc dacc rest, H' Dd = some (.lst acc) ∧ Same H1 H' ∧ acc.length ≤ i + 1 ∧ Rps X.K (O1 O Dd) H' acc dacc ∧ lcL turn (ds.drop (i + 1)) = .ok rest ∧ dacc ++ rest = tot, fun H'' hN => ⟨ds.length - (i + 1), ?_, rfl, hN⟩, fun z H'' y => ?_⟩
      · omega
      obtain ⟨e, rz⟩ := w.yld i _ z H'' hd y
      subst e
      refine ⟨O1 O Dd, _, _, ε', rz, b1, fun σ2 er2 w2 => ⟨by rw [w2 _ (isin_of hin), wipe_wipe], ?_⟩⟩
      have er3 := er2 _ _ (Fz.refl _ _) ((er1.mvS (fzO1 hD sH) sH).wipe _)
      have ot3 := otO1 (p := Dd) ot1 sH ⟨_, hA⟩
      refine ⟨O1 O Dd, ε', er3, ot3, ?_⟩
      rw [b2]
      refine fun H3 s3 => ?_
      cases b with
      | true =>
        rw [if_pos rfl] at t1 ⊢
        obtain ⟨dy, b3, t1⟩ := Rs.bnd_of t1
        injection t1 with t1
        refine ⟨O1 O Dd, ε', er3.same s3, ot3.same s3, ?_⟩
        rw [b3]
        refine fun yv H4 s4 ry => ⟨acc, s4 _ _ (s3 _ _ hA), by omega, lt, acc ++ [yv], dacc ++ [dy], ws, upd_same, sameUp hD ((sH.trans s3).trans s4), by rw [List.length_append]; simp; omega, ?_, t2, ?_⟩
        · exact (((ra.same s3).same s4).app (.cons ry .nil)).mv (fzUp (s4 _ _ (s3 _ _ hA)))
        · rw [← et, t3, ← t1]; simp
      | false =>
        rw [if_neg Bool.false_ne_true] at t1 ⊢
        injection t1 with t1
        refine ⟨lt, acc, dacc, ws, s3 _ _ hA, sH.trans s3, by omega, ra.same s3, t2, ?_⟩
        rw [← et, t3, ← t1]; rfl
    · have e : i = ds.length := by omega
      subst e
      refine .inl ⟨w.stop, q2 _ H' (s1.trans sH) ?_⟩
      rw [List.drop_length] at er'
      have er' : Rs.ok [] = Rs.ok rest := er'
      injection er' with er'
      subst er'
      rw [List.append_nil] at et
      subst et
      exact ⟨Dd, acc, rfl, s1.free hD, hA, by omega, fun O' h => ra.mv (fzOff (o := .lst []) ⟨_, hA⟩ h)⟩
theorem s_lc (g : Good c φ C k X) {elt tg iter : Expr} {ifs : List Expr} {scope : Scope} {own : List (Str × Nat)} {pos : Pos} {t : Pt} {it : It} {cd : Option E} {x : E} (ok : BlkOk X.N X.env.scope scope own) (hi : PI X tg iter (tI false X.K φ C W it)) (hs : ∀ x, foldedSetIterable iter X.env x = pure x)
    (hg : ∀ (s : Shared) (H : Hp) (Cc : Addr) (cl : List (Str × Addr)) (fp : List Addr), PG (X.blk s H scope (compEnvC scope cl Cc X.env) fp) tg (gP X.K t)) (ht : ∀ (s : Shared) (H : Hp) (Cc : Addr) (cl : List (Str × Addr)) (fp : List Addr), PTs (X.blk s H scope (compEnvC scope cl Cc X.env) fp) ifs (tC X.K φ C W0 cd))
    (he : ∀ (s : Shared) (H : Hp) (Cc : Addr) (cl : List (Str × Addr)) (fp : List Addr), PE (X.blk s H scope (compEnvC scope cl Cc X.env) fp) elt (tD X.K φ C W0 x)) (hin : t.isin (own.map (·.2)) = true) :
    PE X (.ListComp elt [⟨tg, iter, ifs, 0⟩] scope pos) ((tF X.K φ C W) (.lc (own.map (·.2)) x t it cd)) :=
  pem (pe_lc g.calm g.nd hi ok hg ht he hs) fun σ H Q h => lc_rd hin h
theorem lc2_rd {own : List (Str × Nat)} {t t1 : Pt} {it it1 : It} {cd cd1 : Option E} {x : E} (hin : t.isin (own.map (·.2)) = true) (hin1 : t1.isin (own.map (·.2)) = true) {σ : L2.St} {H : Hp} {Q : VK} (h : (tF X.K φ C W) (.lc2 (own.map (·.2)) t1.sl x t it cd t1 it1 cd1) σ H Q) :
    tLc2 (tI false X.K φ C W it) (gP X.K t) (tC X.K φ C W0 cd) (tI true X.K φ C W0 it1) (gP X.K t1) (tC X.K φ C W0 cd1) (tD X.K φ C W0 x) (own.map (·.2)) t1.sl σ H Q := by
    obtain ⟨O, ε, er, ot, q⟩ := h
    simp only [ev] at q
    refine ⟨O, ε, er, ot, q.bind fun ds _ q1 J H1 s1 hz wk Dd hD => ?_⟩
    revert q1
    generalize htn1 : (fun (ε' : Env) (x1 : D) => (bnd t1 x1 (wipeE ε' t1.sl)).bnd fun ε'' => (evc φ cd1 ε'').bnd fun b1 => if b1 then (ev φ x ε'').bnd fun y => Rs.ok [y] else Rs.ok []) = turn1
    have ht' : ∀ ε', (fun (x1 : D) => (bnd t1 x1 (wipeE ε' t1.sl)).bnd fun ε'' => (evc φ cd1 ε'').bnd fun b1 => if b1 then (ev φ x ε'').bnd fun y => Rs.ok [y] else Rs.ok []) = turn1 ε' := fun ε' => by rw [← htn1]
    simp only [ht']
    generalize htn : (fun x_1 => (bnd t x_1 (wipeE ε (own.map (·.2)))).bnd fun ε' => (evc φ cd ε').bnd fun b => if b then (evi φ it1 ε').bnd fun ds1 => lcL (turn1 ε') ds1 else Rs.ok []) = turn
    intro q1
    obtain ⟨tot, e1, q2⟩ := Res.of_noex (lcL_noex ds) (q1.bind fun ys _ q2 => q2)
    have hT : tot.length ≤ LIM := by
      by_cases z : tot.length ≤ LIM
      · exact z
      · have q2 : Res X.K C W O σ H (if tot.length ≤ LIM then _ else _) _ := q2
        rw [if_neg z] at q2; exact q2.elim
    have q2 : Res X.K C W O σ H (if tot.length ≤ LIM then _ else _) _ := q2
    rw [if_pos hT] at q2
    have q2 : kF X.K O H Q (.list tot) := q2
    rw [lim_line] at hT
    have er1 := er.same s1
    have ot1 := ot.same s1
    refine ⟨fun i m H' => m = ds.length - i ∧ i ≤ ds.length ∧ ∃ acc dacc rest, H' Dd = some (.lst acc) ∧ Same H1 H' ∧ Rps X.K (O1 O Dd) H' acc dacc ∧ lcL turn (ds.drop i) = .ok rest ∧ dacc ++ rest = tot,
      ⟨ds.length, by simp, Nat.zero_le _, [], [], tot, upd_same, sameUp hD (Same.refl _), .nil, by simpa using e1, rfl⟩, ?_⟩
    rintro i m H' ⟨rfl, hi, acc, dacc, rest, hA, sH, ra, er', et⟩
    have w := wk (O1 O Dd) H' (fun _ => sH) (fzO1 hD sH)
    by_cases lt : i < ds.length
    · have hd : ds[i]? = some ds[i] := List.getElem?_eq_getElem lt
      rw [drop_cons hd] at er'
      obtain ⟨ys, ws, t1', t2, t3⟩ := lcL_cons er'
      rw [← htn] at t1'
      obtain ⟨ε', b1, t1'⟩ := Rs.bnd_of t1'
      obtain ⟨b, b2, t1'⟩ := Rs.bnd_of t1'
      refine .inr ⟨w.go i _ hd, fun H' => i + 1 ≤ ds.length ∧ ∃ acc dacc rest, H' Dd = some (.lst acc) ∧ Same H1 H' ∧ Rps X.K (O1 O Dd) H' acc dacc ∧ lcL turn (ds.drop (i + 1)) = .ok rest ∧ dacc ++ rest = tot, fun H'' hN => ⟨ds.length - (i + 1), ?_, rfl, hN⟩, fun z H'' y => ?_⟩
      · omega
      obtain ⟨e, rz⟩ := w.yld i _ z H'' hd y
      subst e
      refine ⟨O1 O Dd, _, _, ε', rz, b1, fun σ2 er2 w2 => ⟨by rw [w2 _ (isin_of hin), wipe_wipe], ?_⟩⟩
      have er3 := er2 _ _ (Fz.refl _ _) ((er1.mvS (fzO1 hD sH) sH).wipe _)
      have ot3 := otO1 (p := Dd) ot1 sH ⟨_, hA⟩
      refine ⟨O1 O Dd, ε', er3, ot3, ?_⟩
      rw [b2]
      refine fun H3 s3 => ?_
      cases b with
      | true =>
        rw [if_pos rfl] at t1' ⊢
        obtain ⟨ds1, b3, t1'⟩ := Rs.bnd_of t1'
        refine ⟨O1 O Dd, ε', er3.same s3, ot3.same s3, ?_⟩
        rw [b3]
        refine fun J1 H4 s4 hz1 wk1 => ?_
        refine ⟨fun j m H5 => m = ds1.length - j ∧ j ≤ ds1.length ∧ ∃ acc dacc rest, H5 Dd = some (.lst acc) ∧ Same H1 H5 ∧ Fz (O1 O Dd) H'' (O1 O Dd) H5 ∧ Fz (O1 O Dd) H4 (O1 O Dd) H5 ∧ Rps X.K (O1 O Dd) H5 acc dacc ∧ lcL (turn1 ε') (ds1.drop j) = .ok rest ∧ dacc ++ rest ++ ws = tot,
          ⟨ds1.length, by simp, Nat.zero_le _, acc, dacc, ys, s4 _ _ (s3 _ _ hA), (sH.trans s3).trans s4, .same (s3.trans s4), .refl _ _, (ra.same s3).same s4, by simpa using t1', by rw [← et, t3, List.append_assoc]⟩, ?_⟩
        rintro j m1 H5 ⟨rfl, hj, acc5, dacc5, rest5, hA5, sH5, f5, f45, ra5, er5, et5⟩
        have w5 := wk1 (O1 O Dd) H5 (fun z => by cases z) f45
        by_cases lt5 : j < ds1.length
        · have hd5 : ds1[j]? = some ds1[j] := List.getElem?_eq_getElem lt5
          rw [drop_cons hd5] at er5
          obtain ⟨ys5, ws5, u1, u2, u3⟩ := lcL_cons er5
          rw [← htn1] at u1
          obtain ⟨ε5, c1, u1⟩ := Rs.bnd_of u1
          obtain ⟨bb, c2, u1⟩ := Rs.bnd_of u1
          refine .inr ⟨w5.go j _ hd5, fun H5 => j + 1 ≤ ds1.length ∧ ∃ acc dacc rest, H5 Dd = some (.lst acc) ∧ Same H1 H5 ∧ Fz (O1 O Dd) H'' (O1 O Dd) H5 ∧ Fz (O1 O Dd) H4 (O1 O Dd) H5 ∧ Rps X.K (O1 O Dd) H5 acc dacc ∧ lcL (turn1 ε') (ds1.drop (j + 1)) = .ok rest ∧ dacc ++ rest ++ ws = tot, fun H6 hN => ⟨ds1.length - (j + 1), ?_, rfl, hN⟩, fun z5 H6 y5 => ?_⟩
          · omega
          obtain ⟨e6, rz5⟩ := w5.yld j _ z5 H6 hd5 y5
          subst e6
          refine ⟨O1 O Dd, _, _, ε5, rz5, c1, fun σ3 er6 w6 => ⟨by rw [w6 _ fun i hi => hi, wipe_wipe], ?_⟩⟩
          have er7 := er6 _ _ (Fz.refl _ _) ((er2 _ _ f5 ((er1.mvS (fzO1 hD sH5) sH5).wipe _)).wipe _)
          have ot7 := otO1 (p := Dd) ot1 sH5 ⟨_, hA5⟩
          refine ⟨O1 O Dd, ε5, er7, ot7, ?_⟩
          rw [c2]
          refine fun H7 s7 => ?_
          cases bb with
          | true =>
            rw [if_pos rfl] at u1 ⊢
            obtain ⟨dy, c3, u1⟩ := Rs.bnd_of u1
            injection u1 with u1
            refine ⟨O1 O Dd, ε5, er7.same s7, ot7.same s7, ?_⟩
            rw [c3]
            refine fun yv H8 s8 ry => ⟨acc5, s8 _ _ (s7 _ _ hA5), ?_, lt5, acc5 ++ [yv], dacc5 ++ [dy], ws5, upd_same, sameUp hD ((sH5.trans s7).trans s8), ?_, ?_, ?_, u2, ?_⟩
            · have h1 := congrArg List.length et5
              rw [u3, ← u1] at h1
              have h2 := ra5.length
              simp only [List.length_append, List.length_cons, List.length_nil] at h1
              omega
            · exact (f5.trans (.same (s7.trans s8))).trans (fzUp (s8 _ _ (s7 _ _ hA5)))
            · exact (f45.trans (.same (s7.trans s8))).trans (fzUp (s8 _ _ (s7 _ _ hA5)))
            · exact (((ra5.same s7).same s8).app (.cons ry .nil)).mv (fzUp (s8 _ _ (s7 _ _ hA5)))
            · rw [← et5, u3, ← u1]; simp
          | false =>
            rw [if_neg Bool.false_ne_true] at u1 ⊢
            injection u1 with u1
            refine ⟨lt5, acc5, dacc5, ws5, s7 _ _ hA5, sH5.trans s7, f5.trans (.same s7), f45.trans (.same s7), ra5.same s7, u2, ?_⟩
            rw [← et5, u3, ← u1]; rfl
        · have e : j = ds1.length := by omega
          subst e
          rw [List.drop_length] at er5
          have er5 : Rs.ok [] = Rs.ok rest5 := er5
          injection er5 with er5
          subst er5
          rw [List.append_nil] at et5
          exact .inl ⟨w5.stop, lt, acc5, dacc5, ws, hA5, sH5, ra5, t2, et5⟩
      | false =>
        rw [if_neg Bool.false_ne_true] at t1' ⊢
        injection t1' with t1'
        refine ⟨lt, acc, dacc, ws, s3 _ _ hA, sH.trans s3, ra.same s3, t2, ?_⟩
        rw [← et, t3, ← t1']; rfl
    · have e : i = ds.length := by omega
      subst e
      refine .inl ⟨w.stop, q2 _ H' (s1.trans sH) ?_⟩
      rw [List.drop_length] at er'
      have er' : Rs.ok [] = Rs.ok rest := er'
      injection er' with er'
      subst er'
      rw [List.append_nil] at et
      subst et
      exact ⟨Dd, acc, rfl, s1.free hD, hA, by rw [ra.length]; exact hT, fun O' h => ra.mv (fzOff (o := .lst []) ⟨_, hA⟩ h)⟩
theorem s_lc2 (g : Good c φ C k X) {elt tg iter tg1 iter1 : Expr} {ifs ifs1 : List Expr} {scope : Scope} {own : List (Str × Nat)} {pos : Pos} {t t1 : Pt} {it it1 : It} {cd cd1 : Option E} {x : E} (ok : BlkOk X.N X.env.scope scope own) (hi : PI X tg iter (tI false X.K φ C W it)) (hs : ∀ x, foldedSetIterable iter X.env x = pure x) (hs1 : ∀ env x, foldedSetIterable iter1 env x = pure x)
    (hg : ∀ (s : Shared) (H : Hp) (Cc : Addr) (cl : List (Str × Addr)) (fp : List Addr), PG (X.blk s H scope (compEnvC scope cl Cc X.env) fp) tg (gP X.K t)) (ht : ∀ (s : Shared) (H : Hp) (Cc : Addr) (cl : List (Str × Addr)) (fp : List Addr), PTs (X.blk s H scope (compEnvC scope cl Cc X.env) fp) ifs (tC X.K φ C W0 cd))
    (hi1 : ∀ (s : Shared) (H : Hp) (Cc : Addr) (cl : List (Str × Addr)) (fp : List Addr), PI (X.blk s H scope (compEnvC scope cl Cc X.env) fp) tg1 iter1 (tI true X.K φ C W0 it1))
    (hg1 : ∀ (s : Shared) (H : Hp) (Cc : Addr) (cl : List (Str × Addr)) (fp : List Addr), PG (X.blk s H scope (compEnvC scope cl Cc X.env) fp) tg1 (gP X.K t1)) (ht1 : ∀ (s : Shared) (H : Hp) (Cc : Addr) (cl : List (Str × Addr)) (fp : List Addr), PTs (X.blk s H scope (compEnvC scope cl Cc X.env) fp) ifs1 (tC X.K φ C W0 cd1))
    (he : ∀ (s : Shared) (H : Hp) (Cc : Addr) (cl : List (Str × Addr)) (fp : List Addr), PE (X.blk s H scope (compEnvC scope cl Cc X.env) fp) elt (tD X.K φ C W0 x)) (hin : t.isin (own.map (·.2)) = true) (hin1 : t1.isin (own.map (·.2)) = true) :
    PE X (.ListComp elt [⟨tg, iter, ifs, 0⟩, ⟨tg1, iter1, ifs1, 0⟩] scope pos) ((tF X.K φ C W) (.lc2 (own.map (·.2)) t1.sl x t it cd t1 it1 cd1)) :=
  pem (pe_lc2 g.calm g.nd hi ok (isin_of hin1) hg ht hi1 hg1 ht1 he hs hs1) fun σ H Q h => lc2_rd hin hin1 h
end
end Ws

set_option Elab.async false
set_option linter.all false
set_option maxRecDepth 100000
set_option maxHeartbeats 4000000
/-! Sim14: the pure language says what the text does: expressions -/
namespace Ws
open PySem PySem.Spec PyProof.Rows L2

theorem ev_wk {φ : Nat → List D → Rs D} {K : PySem.W.Frag} {C : Addr} {W : WX} {O : Ow} {σ : L2.St} {H : Hp} {k : D → Prop} : ∀ {a : E} {ε : Env}, Res K C W O σ H (ev φ a ε) k → Res K C W O σ H (ev φ (wk a) ε) k := by
  intro a ε h
  cases a <;> try exact h
  rename_i i
  simp only [ev, wk] at h ⊢
  cases hh : ε[i]? with
  | none => rw [hh] at h; exact h.elim
  | some s => cases s <;> (rw [hh] at h; first | exact h | exact h.elim)
structure SE (X : Cx) (φ : Nat → List D → Rs D) (C : Addr) (W : WX) (e : Expr) (a : E) : Prop where
  d : PE X e (tD X.K φ C W a)
  w : PE X e (tW X.K φ C W (wk a))
  f : frE a = true → PE X e (tF X.K φ C W a)
  t : PT X e (tT X.K φ C W (wk a))
section
variable {X : Cx} {φ : Nat → List D → Rs D} {C : Addr} {W : WX} {e : Expr} {a : E}
theorem SE.r (h : SE X φ C W e a) (F : Bool) : PE X e (tR F X.K φ C W (if F = true then a else wk a)) := by
  cases F with
  | true => exact h.d
  | false => exact h.w
theorem SE.ofF (h : PE X e (tF X.K φ C W a)) (hw : wk a = a) (he : ∀ whole, isTrue e X.env whole = (do let v ← whole; standAt e.pos; holding [v] (truthy v))) : SE X φ C W e a :=
  ⟨pe_FD h, by rw [hw]; exact pe_DW (pe_FD h), fun _ => h, by rw [hw]; exact s_truth (pe_DW (pe_FD h)) he⟩
theorem SE.ofD (h : PE X e (tD X.K φ C W a)) (hw : wk a = a) (hf : frE a = false) (he : ∀ whole, isTrue e X.env whole = (do let v ← whole; standAt e.pos; holding [v] (truthy v))) : SE X φ C W e a :=
  ⟨h, by rw [hw]; exact pe_DW h, fun z => absurd z (by rw [hf]; decide), by rw [hw]; exact s_truth (pe_DW h) he⟩
theorem ptwk (h : PT X e (tT X.K φ C W (wk a))) : PT X e (tT X.K φ C W a) := ptm h fun σ H Q ⟨O, ε, er, ot, q⟩ => ⟨O, ε, er, ot, ev_wk q⟩
theorem pwwk (h : PW X e (tT X.K φ C W (wk a))) : PW X e (tT X.K φ C W a) := pwm h fun σ H Q ⟨O, ε, er, ot, q⟩ => ⟨O, ε, er, ot, ev_wk q⟩
end
theorem evs_len {φ : Nat → List D → Rs D} : ∀ {es : List E} {ε : Env} {ds : List D}, evs φ es ε = .ok ds → ds.length = es.length
  | [], ε, ds, h => by simp only [evs] at h; injection h with h; subst h; rfl
  | e :: es, ε, ds, h => by
    simp only [evs] at h
    obtain ⟨x, _, h⟩ := Rs.bnd_of h
    obtain ⟨xs, h2, h⟩ := Rs.bnd_of h
    injection h with h
    subst h
    rw [List.length_cons, List.length_cons, evs_len h2]
theorem slot_of {c : Cfg} {X : Cx} {sc : Scope} {x : Str} {i : Nat} (hN : X.N = c.N) (hs : X.env.scope = sc) (h : slotOf c sc x = some i) : X.N[i]? = some x ∧ Vis X.env.scope x := by
  unfold slotOf at h
  rw [hN, hs]
  split at h
  · exact ⟨slotIx_get h, .inl (by assumption)⟩
  · exact ⟨slotIx_get h, .inr (.inl (by assumption))⟩
  · exact ⟨slotIx_get h, .inr (.inr (by assumption))⟩
  · cases h
theorem glob_of {X : Cx} {sc : Scope} {x : Str} (hs : X.env.scope = sc) (h : glob sc x = true) : Gl X x ∧ (x == ("__debug__" : Str)) = false := by
  unfold glob at h
  split at h
  · rename_i e
    simp only [Bool.not_eq_true', decide_eq_false_iff_not] at h
    exact ⟨by show X.env.scope.names.lookup x = _; rw [hs]; exact e, by simpa using h⟩
  · cases h
theorem relS_tg {X : Cx} {sc scope : Scope} (s : Shared) (H : Hp) (Cc : Addr) (cl : List (Str × Addr)) (fp : List Addr) (hs : X.env.scope = sc) : TgOk (X.blk s H scope (compEnvC scope cl Cc X.env) fp) scope := fun x => by
  refine ⟨fun h => ?_, fun h => ⟨?_, ?_⟩⟩
  · exact lookup_relS_keep (sc := X.env.scope) (by decide) h
  · exact lookup_relS_keep (sc := X.env.scope) (by decide) h
  · show (scope.names.lookup x == some NameKind.cell) = true
    rw [h]; rfl
theorem fix_of {l : List Str} {x : Str} {i : Nat} (h : (l.findIdx? fun y => decide (y = x)) = some i) : l[i]? = some x := slotIx_get (N := l) h
theorem folded_of {e : Expr} (h : walkable e = true) : ∀ (env : PySem.Env) (x : Value), foldedSetIterable e env x = pure x := by
  cases e <;> first | (simp [walkable] at h; done) | (intro _ _; rfl)

structure SN (c : Cfg) (φ : Nat → List D → Rs D) (C : Addr) (k n : Nat) : Prop where
  e : ∀ {X : Cx} {W : WX} {sc : Scope} {e : Expr} {a : E}, Good c φ C k X → Takes X W → X.env.scope = sc → compE c n sc e = some a → SE X φ C W e a
  is_ : ∀ {X : Cx} {W : WX} {sc : Scope} {es : List Expr} {a : E}, Good c φ C k X → Takes X W → X.env.scope = sc → compIs c n sc es = some a → glob sc "isinstance" = true → ("isinstance" : Str) ∈ c.bl → (∀ p pos, PE X (.Call (.Name "isinstance" p) es [] pos) (tF X.K φ C W a)) ∧ wk a = a
  b : ∀ {X : Cx} {W : WX} {sc : Scope} {o : BoolOp} {es : List Expr} {a : E}, Good c φ C k X → Takes X W → X.env.scope = sc → compB c n sc o es = some a → ∀ pos, PE X (.BoolOp o es pos) (tD X.K φ C W a) ∧ PW X (.BoolOp o es pos) (tT X.K φ C W (wk a)) ∧ (2 ≤ es.length → wk a = a ∧ frE a = false)
  es : ∀ {X : Cx} {W : WX} {sc : Scope} {es : List Expr} {as : List E}, Good c φ C k X → Takes X W → X.env.scope = sc → compEs c n sc es = some as → PA X es (tA X.K φ C W as) ∧ lones es = true ∧ as.length = es.length ∧ (es = [] → as = []) ∧ Paired (fun e a => PE X e (tD X.K φ C W a)) es as
  ws : ∀ {X : Cx} {W : WX} {sc : Scope} {es : List Expr} {as : List E}, Good c φ C k X → Takes X W → X.env.scope = sc → compWs c n sc es = some as → PA X es (tAW X.K φ C W as) ∧ lones es = true
  o : ∀ {X : Cx} {W : WX} {sc : Scope} {e : Option Expr} {a : Option E}, Good c φ C k X → Takes X W → X.env.scope = sc → compO c n sc e = some a → PO X e (tOO X.K φ C W a)
  cd : ∀ {X : Cx} {W : WX} {sc : Scope} {es : List Expr} {a : Option E}, Good c φ C k X → Takes X W → X.env.scope = sc → compC c n sc es = some a → PTs X es (tC X.K φ C W a)
  i : ∀ {X : Cx} {W : WX} {sc : Scope} {w : Bool} {e : Expr} {a : It}, Good c φ C k X → Takes X W → X.env.scope = sc → compI c n sc w e = some a → (∀ tg, PI X tg e (tI (!w) X.K φ C W a)) ∧ ∀ (env : PySem.Env) (x : Value), foldedSetIterable e env x = pure x
theorem bndO {α β : Type} {o : Option α} {f : α → Option β} {b : β} (h : o.bind f = some b) : ∃ a, o = some a ∧ f a = some b := by
  cases o with
  | none => cases h
  | some a => exact ⟨a, rfl, h⟩
theorem plain_of {b : Expr} (h : plainIx b = true) : PlainIx b := by
  intro o i
  cases b <;> first | (simp [plainIx] at h; done) | rfl

variable {c : Cfg} {φ : Nat → List D → Rs D} {C : Addr} {k : Nat}
theorem sn_is {n : Nat} (ih : SN c φ C k n) {X : Cx} {W : WX} {sc : Scope} {es : List Expr} {a : E} (g : Good c φ C k X) (tk : Takes X W) (hs : X.env.scope = sc) (h : compIs c (n + 1) sc es = some a) (hg : glob sc "isinstance" = true) (hb : ("isinstance" : Str) ∈ c.bl) :
    (∀ p pos, PE X (.Call (.Name "isinstance" p) es [] pos) (tF X.K φ C W a)) ∧ wk a = a := by
  obtain ⟨hgi, _⟩ := glob_of hs hg
  have hmi := g.bl _ hb
  unfold compIs at h
  split at h
  · cases h
  · rename_i nn e t p0 hn; cases hn
    split at h
    · rename_i cnd
      simp only [Bool.and_eq_true, decide_eq_true_eq] at cnd
      obtain ⟨e', h1, h⟩ := bndO h
      obtain ⟨t', h2, h⟩ := bndO h
      cases h
      exact ⟨fun p pos => s_isi1 (ih.e g tk hs h1).w cnd.1.1 h2 (glob_of hs cnd.1.2).1 (g.bl _ cnd.2) hgi hmi, rfl⟩
    · cases h
  · rename_i nn e t p0 u p1 kk p2 hn; cases hn
    split at h
    · rename_i cnd
      simp only [Bool.and_eq_true, decide_eq_true_eq] at cnd
      obtain ⟨e', h1, h⟩ := bndO h
      obtain ⟨t', h2, h⟩ := bndO h
      obtain ⟨u', h3, h⟩ := bndO h
      cases h
      exact ⟨fun p pos => s_isi2 (ih.e g tk hs h1).w cnd.1.1.1.1 h2 h3 (glob_of hs cnd.1.1.1.2).1 (g.bl _ cnd.1.1.2) (glob_of hs cnd.1.2).1 (g.bl _ cnd.2) hgi hmi, rfl⟩
    · cases h
  · cases h
theorem pw_one' {X : Cx} {o : BoolOp} {e : Expr} {t : TT} {pos : Pos} (h : PT X e t) : PW X (.BoolOp o [e] pos) t := by
  cases o with
  | And => exact pw_and1 h
  | Or => exact pw_or1 h
theorem sn_b {n : Nat} (ih : SN c φ C k n) {X : Cx} {W : WX} {sc : Scope} {o : BoolOp} {es : List Expr} {a : E} (g : Good c φ C k X) (tk : Takes X W) (hs : X.env.scope = sc) (h : compB c (n + 1) sc o es = some a) (pos : Pos) :
    PE X (.BoolOp o es pos) (tD X.K φ C W a) ∧ PW X (.BoolOp o es pos) (tT X.K φ C W (wk a)) ∧ (2 ≤ es.length → wk a = a ∧ frE a = false) := by
  unfold compB at h
  split at h
  · cases h
  · cases h
  · rename_i nn e hn; cases hn
    have se := ih.e g tk hs h
    exact ⟨pe_one se.d, pw_one' se.t, fun z => by simp at z⟩
  · rename_i nn e e' es hn; cases hn
    obtain ⟨a1, h1, h⟩ := bndO h
    obtain ⟨b1, h2, h⟩ := bndO h
    cases h
    have se := ih.e g tk hs h1
    obtain ⟨q1, q2, _⟩ := ih.b g tk hs h2 pos
    exact ⟨s_andV se.d q1, s_andT (ptwk se.t) (pwwk q2), fun _ => ⟨rfl, rfl⟩⟩
  · rename_i nn e e' es hn; cases hn
    obtain ⟨a1, h1, h⟩ := bndO h
    obtain ⟨b1, h2, h⟩ := bndO h
    cases h
    have se := ih.e g tk hs h1
    obtain ⟨q1, q2, _⟩ := ih.b g tk hs h2 pos
    exact ⟨s_orV se.d q1, s_orT (ptwk se.t) (pwwk q2), fun _ => ⟨rfl, rfl⟩⟩
theorem sn_es {n : Nat} (ih : SN c φ C k n) {X : Cx} {W : WX} {sc : Scope} {es : List Expr} {as : List E} (g : Good c φ C k X) (tk : Takes X W) (hs : X.env.scope = sc) (h : compEs c (n + 1) sc es = some as) :
    PA X es (tA X.K φ C W as) ∧ lones es = true ∧ as.length = es.length ∧ (es = [] → as = []) ∧ Paired (fun e a => PE X e (tD X.K φ C W a)) es as := by
  unfold compEs at h
  split at h
  · cases h
  · cases h; exact ⟨s_nil, rfl, rfl, fun _ => rfl, .nil⟩
  · rename_i nn e es hn; cases hn
    split at h
    · rename_i hl
      obtain ⟨a1, h1, h⟩ := bndO h
      obtain ⟨b1, h2, h⟩ := bndO h
      cases h
      obtain ⟨q1, q2, q3, _, q5⟩ := ih.es g tk hs h2
      exact ⟨s_cons (ih.e g tk hs h1).d q1 (starCons hl), by simp only [lones, hl, q2, Bool.and_true], by rw [List.length_cons, List.length_cons, q3], fun z => (by cases z), .cons (ih.e g tk hs h1).d q5⟩
    · cases h
theorem sn_ws {n : Nat} (ih : SN c φ C k n) {X : Cx} {W : WX} {sc : Scope} {es : List Expr} {as : List E} (g : Good c φ C k X) (tk : Takes X W) (hs : X.env.scope = sc) (h : compWs c (n + 1) sc es = some as) :
    PA X es (tAW X.K φ C W as) ∧ lones es = true := by
  unfold compWs at h
  split at h
  · cases h
  · cases h; exact ⟨s_nilW, rfl⟩
  · rename_i nn e es hn; cases hn
    split at h
    · rename_i hl
      obtain ⟨a1, h1, h⟩ := bndO h
      obtain ⟨b1, h2, h⟩ := bndO h
      cases h
      obtain ⟨q1, q2⟩ := ih.ws g tk hs h2
      exact ⟨s_consW (ih.e g tk hs h1).w q1 (starCons hl), by simp only [lones, hl, q2, Bool.and_true]⟩
    · cases h
theorem sn_o {n : Nat} (ih : SN c φ C k n) {X : Cx} {W : WX} {sc : Scope} {e : Option Expr} {a : Option E} (g : Good c φ C k X) (tk : Takes X W) (hs : X.env.scope = sc) (h : compO c (n + 1) sc e = some a) : PO X e (tOO X.K φ C W a) := by
  unfold compO at h
  split at h
  · cases h
  · cases h; exact s_po0
  · rename_i nn e hn; cases hn
    obtain ⟨a1, h1, h⟩ := bndO h
    cases h
    exact s_po1 (ih.e g tk hs h1).w
theorem sn_cd {n : Nat} (ih : SN c φ C k n) {X : Cx} {W : WX} {sc : Scope} {es : List Expr} {a : Option E} (g : Good c φ C k X) (tk : Takes X W) (hs : X.env.scope = sc) (h : compC c (n + 1) sc es = some a) : PTs X es (tC X.K φ C W a) := by
  unfold compC at h
  split at h
  · cases h
  · cases h
    exact ⟨fun p s σ H Q I ⟨O, ε, er, ot, q⟩ => pts_nil.run p s σ H Q I (by simp only [evc] at q; exact q H (Same.refl H))⟩
  · rename_i nn e hn; cases hn
    obtain ⟨a1, h1, h⟩ := bndO h
    cases h
    exact ⟨fun p s σ H Q I ⟨O, ε, er, ot, q⟩ => (pts_one (ih.e g tk hs h1).t).run p s σ H Q I (by simp only [evc] at q; exact tT_in er ot q fun d H' s q1 => q1 H' s)⟩
  · cases h
theorem sn_i {n : Nat} (ih : SN c φ C k n) {X : Cx} {W : WX} {sc : Scope} {w : Bool} {e : Expr} {a : It} (g : Good c φ C k X) (tk : Takes X W) (hs : X.env.scope = sc) (h : compI c (n + 1) sc w e = some a) :
    (∀ tg, PI X tg e (tI (!w) X.K φ C W a)) ∧ ∀ (env : PySem.Env) (x : Value), foldedSetIterable e env x = pure x := by
  have hw : ∀ a1 : E, (if (!w) = true then a1 else wk a1) = (if w = true then wk a1 else a1) := fun a1 => by cases w <;> rfl
  unfold compI at h
  split at h
  · cases h
  · rename_i nn a1 p pos hn; cases hn
    split at h
    · rename_i cnd
      simp only [Bool.and_eq_true, decide_eq_true_eq] at cnd
      obtain ⟨e', h1, h⟩ := bndO h
      cases h
      exact ⟨fun tg => s_rng1 (glob_of hs cnd.1.1).1 (g.bl _ cnd.1.2) cnd.2 (ih.e g tk hs h1).w, fun _ _ => rfl⟩
    · cases h
  · rename_i nn a1 b1 p pos hn; cases hn
    split at h
    · rename_i cnd
      simp only [Bool.and_eq_true, decide_eq_true_eq] at cnd
      obtain ⟨e', h1, h⟩ := bndO h
      obtain ⟨e2', h2, h⟩ := bndO h
      cases h
      exact ⟨fun tg => s_rng2 (glob_of hs cnd.1.1.1).1 (g.bl _ cnd.1.1.2) cnd.1.2 cnd.2 (ih.e g tk hs h1).w (ih.e g tk hs h2).w, fun _ _ => rfl⟩
    · cases h
  · rename_i nn a1 p pos hn; cases hn
    split at h
    · rename_i cnd
      simp only [Bool.and_eq_true, decide_eq_true_eq] at cnd
      obtain ⟨e', h1, h⟩ := bndO h
      cases h
      refine ⟨fun tg => s_revI g (glob_of hs cnd.1.1).1 (g.bl _ cnd.1.2) cnd.2 ?_, fun _ _ => rfl⟩
      rw [← hw]
      exact (ih.e g tk hs h1).r _
    · cases h
  · rename_i nn e hn n1 n2 n3; cases hn
    split at h
    · rename_i hwk
      obtain ⟨e', h1, h⟩ := bndO h
      cases h
      refine ⟨fun tg => s_seq ?_, folded_of hwk⟩
      rw [← hw]
      exact (ih.e g tk hs h1).r _
    · cases h
end Ws

set_option Elab.async false
set_option linter.all false
set_option maxRecDepth 100000
set_option maxHeartbeats 4000000
/-! Sim14b: tables of the module; len(set(..)); dict displays -/
namespace Ws
open PySem PySem.Spec PyProof.Rows L2

section
variable {X : Cx} {φ : Nat → List D → Rs D} {C : Addr} {W : WX} {c : Cfg} {k : Nat}
theorem tab_some {kvs : List (Str × D)} {x : Str} : (kvs.map (·.1)).any (fun k => decide (k = x)) = (tabAt kvs x).isSome := by
  unfold tabAt
  rw [Option.isSome_map]
  induction kvs with
  | nil => rfl
  | cons p r ih =>
    rw [List.map_cons, List.any_cons, List.find?_cons, ih]
    by_cases e : p.1 = x
    · simp [e]
    · simp [e]
theorem inTD_noex (ks : List Str) (n : Bool) (d : D) : NoEx (inTD ks n d) := by cases d <;> first | exact NoEx.ok _ | exact NoEx.st
theorem s_inT {a : Expr} {a' : E} {T : Str} {kvs : List (Str × D)} {p pos : Pos} (g : Good c φ C k X) (hT : c.tabs.lookup T = some kvs) (hg : Gl X T) (hd : (T == ("__debug__" : Str)) = false) (ha : PE X a (tW X.K φ C W a')) :
    PE X (.Compare a [.In] [.Name T p] pos) (tF X.K φ C W (.inT (kvs.map (·.1)) false a')) ∧ PE X (.Compare a [.NotIn] [.Name T p] pos) (tF X.K φ C W (.inT (kvs.map (·.1)) true a')) := by
  obtain ⟨ad, es, n, hm, D0, hz⟩ := g.tabs T kvs hT
  have hb : PE X (.Name T p) (L2.tC (V.ref ad)) := pe_glob (v := V.ref ad) hg hm (show RelV (V.ref ad) (Value.ref ad) from rfl) hd
  refine ⟨pem (pe_cmpR (op_in_kd D0) ha hb rfl) fun σ H Q ⟨O, ε, er, ot, q⟩ => ?_, pem (pe_cmpR (op_notIn_kd D0) ha hb rfl) fun σ H Q ⟨O, ε, er, ot, q⟩ => ?_⟩
  · simp only [ev] at q
    refine tW_in er ot q fun d v H1 s1 r1 q1 => ?_
    cases d <;> try exact (show False from q1).elim
    rename_i x
    obtain ⟨rfl, _, _⟩ := strW r1
    have q1 : kF X.K O H Q (.bool ((kvs.map (·.1)).any fun k => decide (k = x))) := q1
    rw [tab_some] at q1
    cases e : tabAt kvs x with
    | none => rw [e] at q1; exact ⟨x, none, rfl, rfl, (hz x).2 e, q1 _ H1 s1 (Rp.bl _)⟩
    | some d =>
      obtain ⟨u, w, h1, _⟩ := (hz x).1 d e
      rw [e] at q1
      exact ⟨x, some u, rfl, rfl, h1, q1 _ H1 s1 (Rp.bl _)⟩
  · simp only [ev] at q
    refine tW_in er ot q fun d v H1 s1 r1 q1 => ?_
    cases d <;> try exact (show False from q1).elim
    rename_i x
    obtain ⟨rfl, _, _⟩ := strW r1
    have q1 : kF X.K O H Q (.bool (!(kvs.map (·.1)).any fun k => decide (k = x))) := q1
    rw [tab_some] at q1
    cases e : tabAt kvs x with
    | none => rw [e] at q1; exact ⟨x, none, rfl, rfl, (hz x).2 e, q1 _ H1 s1 (Rp.bl _)⟩
    | some d =>
      obtain ⟨u, w, h1, _⟩ := (hz x).1 d e
      rw [e] at q1
      exact ⟨x, some u, rfl, rfl, h1, q1 _ H1 s1 (Rp.bl _)⟩
theorem s_inTT {a : Expr} {a' : E} {T : Str} {kvs : List (Str × D)} {p pos : Pos} (g : Good c φ C k X) (hT : c.tabs.lookup T = some kvs) (hg : Gl X T) (hd : (T == ("__debug__" : Str)) = false) (ha : PE X a (tW X.K φ C W a')) :
    PT X (.Compare a [.In] [.Name T p] pos) (tT X.K φ C W (.inT (kvs.map (·.1)) false a')) ∧ PT X (.Compare a [.NotIn] [.Name T p] pos) (tT X.K φ C W (.inT (kvs.map (·.1)) true a')) := by
  obtain ⟨ad, es, n, hm, D0, hz⟩ := g.tabs T kvs hT
  have hb : PE X (.Name T p) (L2.tC (V.ref ad)) := pe_glob (v := V.ref ad) hg hm (show RelV (V.ref ad) (Value.ref ad) from rfl) hd
  refine ⟨ptm (pt_cmpR (op_in_kd D0) ha hb rfl) fun σ H Q ⟨O, ε, er, ot, q⟩ => ?_, ptm (pt_cmpR (op_notIn_kd D0) ha hb rfl) fun σ H Q ⟨O, ε, er, ot, q⟩ => ?_⟩
  · simp only [ev] at q
    refine tW_in er ot q fun d v H1 s1 r1 q1 => ?_
    cases d <;> try exact (show False from q1).elim
    rename_i x
    obtain ⟨rfl, _, _⟩ := strW r1
    have q1 : ∀ H', Same H H' → Q ((kvs.map (·.1)).any fun k => decide (k = x)) H' := q1
    rw [tab_some] at q1
    cases e : tabAt kvs x with
    | none => rw [e] at q1; exact ⟨x, none, rfl, rfl, (hz x).2 e, _, rfl, q1 H1 s1⟩
    | some d =>
      obtain ⟨u, w, h1, _⟩ := (hz x).1 d e
      rw [e] at q1
      exact ⟨x, some u, rfl, rfl, h1, _, rfl, q1 H1 s1⟩
  · simp only [ev] at q
    refine tW_in er ot q fun d v H1 s1 r1 q1 => ?_
    cases d <;> try exact (show False from q1).elim
    rename_i x
    obtain ⟨rfl, _, _⟩ := strW r1
    have q1 : ∀ H', Same H H' → Q (!(kvs.map (·.1)).any fun k => decide (k = x)) H' := q1
    rw [tab_some] at q1
    cases e : tabAt kvs x with
    | none => rw [e] at q1; exact ⟨x, none, rfl, rfl, (hz x).2 e, _, rfl, q1 H1 s1⟩
    | some d =>
      obtain ⟨u, w, h1, _⟩ := (hz x).1 d e
      rw [e] at q1
      exact ⟨x, some u, rfl, rfl, h1, _, rfl, q1 H1 s1⟩
theorem s_atT {b : Expr} {b' : E} {T : Str} {kvs : List (Str × D)} {p pos : Pos} (g : Good c φ C k X) (hT : c.tabs.lookup T = some kvs) (hg : Gl X T) (hd : (T == ("__debug__" : Str)) = false) (hb : PE X b (tW X.K φ C W b')) (hs : NoSl b) :
    PE X (.Subscript (.Name T p) b pos) (tD X.K φ C W (.atT kvs b')) := by
  obtain ⟨ad, es, n, hm, D0, hz⟩ := g.tabs T kvs hT
  have ha : PE X (.Name T p) (L2.tC (V.ref ad)) := pe_glob (v := V.ref ad) hg hm (show RelV (V.ref ad) (Value.ref ad) from rfl) hd
  refine ⟨fun pins s σ H Q I ⟨O, ε, er, ot, q⟩ => ?_⟩
  simp only [ev] at q
  refine subD_of PySem.F.slot_dict_getitem.lookup hs (thn (ha.run pins s σ H (fun x H1 => x = .ref ad ∧ H1 = H) I ⟨rfl, rfl⟩) fun u s1 ⟨x, H1, I1, rx, ex, eH⟩ => ?_)
  subst ex eH
  refine thn (hb.run pins s1 σ H1 (fun y H2 => ∃ (z : Str) (u0 : Value) (v0 : V), y = .str z ∧ PySem.W.nsIn X.K ad z = some (some u0) ∧ RelV v0 u0 ∧ Q v0 H2) I1 ?_) fun iv s2 ⟨y, H2, I2, ry, z, u0, v0, ey, hn, r0, q0⟩ => ?_
  · refine tW_in er ot q fun d v H2 s2 r1 q1 => ?_
    cases d <;> try exact (show False from q1).elim
    rename_i x
    obtain ⟨rfl, _, _⟩ := strW r1
    cases e : tabAt kvs x with
    | none =>
      have q1 : Res X.K C W O σ H1 (Rs.of (tabAt kvs x)) (kD X.K O H1 Q) := q1
      rw [e] at q1; exact q1.elim
    | some d =>
      have q1 : Res X.K C W O σ H1 (Rs.of (tabAt kvs x)) (kD X.K O H1 Q) := q1
      rw [e] at q1
      obtain ⟨u, w, h1, h2, h3⟩ := (hz x).1 d e
      exact ⟨x, u, w, rfl, h1, h2, q1 w H2 s2 (h3 O H2)⟩
  · subst ey
    obtain rfl : u = Value.ref ad := rx
    exact ⟨kd_type D0 I2, op_item_kd D0 pins s2 σ H2 (.ref ad) (.str z) (.ref ad) iv Q I2 rfl ry ⟨z, u0, v0, rfl, rfl, hn, r0, q0⟩⟩

/-! ### len(set(xs)), xs a list of tuples of ints -/
theorem dnum_eq : ∀ (ks L : List (List Int)), L.Nodup → (∀ x ∈ L, x ∈ ks) → (∀ x ∈ ks, x ∈ L) → L.length = dnum ks
  | [], L, _, h1, _ => by
    cases L with
    | nil => rfl
    | cons x L => exact absurd (h1 x List.mem_cons_self) (by simp)
  | k :: ks, L, nd, h1, h2 => by
    unfold dnum
    by_cases m : k ∈ ks
    · rw [if_pos (by rw [List.any_eq_true]; exact ⟨k, m, by simp⟩)]
      refine dnum_eq ks L nd (fun x hx => ?_) fun x hx => h2 x (List.mem_cons_of_mem _ hx)
      rcases List.mem_cons.mp (h1 x hx) with e | e
      · rw [e]; exact m
      · exact e
    · rw [if_neg (by rw [List.any_eq_true]; rintro ⟨y, hy, e⟩; exact m (by simpa [← of_decide_eq_true e] using hy))]
      have hk : k ∈ L := h2 k List.mem_cons_self
      have e1 : (L.erase k).length + 1 = L.length := by
        rw [List.length_erase_of_mem hk]
        have := List.length_pos_of_mem hk
        omega
      rw [← e1, dnum_eq ks (L.erase k) (nd.erase k) (fun x hx => ?_) fun x hx => ?_]
      · have hx' := List.mem_of_mem_erase hx
        rcases List.mem_cons.mp (h1 x hx') with e | e
        · exfalso
          subst e
          exact (nd.mem_erase_iff.mp hx).1 rfl
        · exact e
      · refine nd.mem_erase_iff.mpr ⟨fun e => m (e ▸ hx), h2 x (List.mem_cons_of_mem _ hx)⟩
theorem tups_of {K : PySem.W.Frag} {O : Ow} {H : Hp} : ∀ {xs : List V} {ds : List D} {ks : List (List Int)}, Rps K O H xs ds → ds.mapM tupI = some ks → ∃ ps : List (Addr × List Int), xs = ps.map (fun p => V.ref p.1) ∧ ps.map (·.2) = ks ∧ ∀ p ∈ ps, SqT K H p.1 (p.2.map V.int)
  | _, _, ks, .nil, h => by simp at h; subst h; exact ⟨[], rfl, rfl, by simp⟩
  | _, _, ks, .cons (d := d) (ds := ds) r rs, h => by
    rw [List.mapM_cons] at h
    cases h1 : tupI d with
    | none => rw [h1] at h; cases h
    | some k1 =>
      rw [h1] at h
      cases h2 : ds.mapM tupI with
      | none => rw [h2] at h; cases h
      | some k2 =>
        rw [h2] at h
        cases h
        obtain ⟨ps, e1, e2, e3⟩ := tups_of rs h2
        cases d <;> try (cases h1; done)
        rename_i ys
        cases r with
        | tup q z rr =>
          have ei := intsD_some rr h1
          subst ei
          refine ⟨(_, k1) :: ps, by rw [e1]; rfl, by rw [List.map_cons, e2], fun p hp => ?_⟩
          rcases List.mem_cons.mp hp with rfl | hp
          · exact q
          · exact e3 p hp
theorem s_lset {a : Expr} {a' : E} {p p2 q pos : Pos} (g : Good c φ C k X) (hg : Gl X "len") (hm : X.mg "len" = none) (hg2 : Gl X "set") (hm2 : X.mg "set" = none) (ha : PE X a (tW X.K φ C W a')) (hl : lone a = true) :
    PE X (.Call (.Name "len" p) [.Call (.Name "set" p2) [a] [] q] [] pos) (tF X.K φ C W (.lset a')) := by
  have na : starEach [a] X.env = (false, eval a X.env) :: starEach [] X.env := starCons hl
  refine ⟨fun pins s σ H Q I ⟨O, ε, er, ot, q⟩ => ?_⟩
  simp only [ev] at q
  refine Call_ (ld_blt I hg hm PySem.boot_len ?_)
  refine PyProof.Rows.callWith_builtin1 (PyProof.Rows.args_cons ?_ rfl) rfl rfl
  refine Call_ (ld_blt I hg2 hm2 PyProof.Rows.boot_set ?_)
  refine PyProof.Rows.callWith_type1 (PyProof.Rows.args_cons (thn (ha.run pins s σ H (fun x H1 => ∃ (l : Addr) (ks : List (Addr × List Int)), x = V.ref l ∧ SqL X.K H1 l (ks.map fun p => V.ref p.1) ∧ (∀ p ∈ ks, SqT X.K H1 p.1 (p.2.map V.int)) ∧ ks.length < 64 ∧ Q (.int (dnum (ks.map (·.2)))) H1) I ?_) fun v s1 ⟨x, H1, I1, r1, q1⟩ => PyProof.Rows.args_nil ?_) na) na rfl
  · refine tW_in er ot q fun d v H1 s1 r1 q1 => ?_
    cases d <;> try exact (show False from q1).elim
    rename_i ds
    obtain ⟨b, xs, rfl, hb, z, r⟩ := listW r1
    have q1 : Res X.K C W O σ H (if ds.length < 64 then (Rs.of (ds.mapM tupI)).bnd fun ks => .ok (.int (dnum ks)) else .st) (kF X.K O H Q) := q1
    by_cases lt : ds.length < 64
    · rw [if_pos lt] at q1
      cases e : ds.mapM tupI with
      | none => rw [e] at q1; exact q1.elim
      | some ks =>
        rw [e] at q1
        obtain ⟨ps, e1, e2, e3⟩ := tups_of r e
        subst e1
        refine ⟨b, ps, rfl, hb, e3, ?_, ?_⟩
        · have := r.length
          rw [List.length_map] at this; omega
        · rw [e2]; exact q1 _ H1 s1 (Rp.int _)
    · rw [if_neg lt] at q1; exact q1.elim
  · obtain ⟨l, ks, rfl, hq, hk, h64, q1⟩ := q1
    cases r1
    obtain ⟨its, rv, pl, hz⟩ := I1.list hq
    have hu := g.hu
    refine call_set_tups (P := X.prog) (w := X.w) ks (I1.ok.hd g.calm) pl.isList (by simpa using refs_of_vals rv) (fun p hp => I1.isT (hk p hp)) h64 (by omega) fun h' tk L es ep t R gt kp => ?_
    refine PyProof.Rows.args_nil ?_
    obtain ⟨o, ho, hex, hd⟩ := R.ob
    have sz := SetTR.size (s := { s1 with heap := h', toks := tk }) R
    have ft := SetTR.fits (s := { s1 with heap := h', toks := tk }) R
    have hsz : es.size = dnum (ks.map (·.2)) := by
      rw [sz, ← List.length_map (f := (·.2))]
      refine dnum_eq _ _ R.nd (fun x hx => ?_) fun x hx => ?_
      · obtain ⟨p, hp, rfl⟩ := List.mem_map.mp hx
        exact List.mem_map.mpr ⟨p, List.mem_of_mem_take (gt.sub p hp), rfl⟩
      · obtain ⟨p, hp, rfl⟩ := List.mem_map.mp hx
        exact gt.all p (by rw [List.take_length]; exact hp)
    have I2 : Inv X pins σ H1 { s1 with heap := h', toks := tk } := I1.kept kp
    refine call_len_set ho hex hd ft (by rw [sz]; have := R.few; omega) ⟨.int (dnum (ks.map (·.2))), H1, I2.tok _, ⟨_, by rw [hsz]⟩, q1⟩

/-! ### {k: v, ..} -/
theorem pps_of {pos : Pos} : ∀ {keys : List (Option Expr)} {kk : List Key} {es : List Expr} {as : List E}, keys.mapM keyE = some kk → Paired (fun e a => PE X e (tD X.K φ C W a)) es as → keys.length = es.length →
    PPs X pos keys es ((kk.zip as).map fun p => (L2.tC (kV p.1), tD X.K φ C W p.2))
  | [], kk, es, as, h, pr, hl => by
    simp at h; subst h
    cases pr with
    | nil => exact pps_nil
    | cons _ _ => simp at hl
  | k :: ks, kk, es, as, h, pr, hl => by
    rw [List.mapM_cons] at h
    obtain ⟨k1, h1, h⟩ := bndO h
    obtain ⟨k2, h2, h⟩ := bndO h
    cases h
    cases pr with
    | nil => simp at hl
    | cons pe pr =>
      have ih := pps_of (pos := pos) h2 pr (by simpa using hl)
      cases k with
      | none => simp [keyE] at h1
      | some ke =>
        have hk : PE X ke (L2.tC (kV k1)) := by
          unfold keyE at h1
          split at h1
          · rename_i x j p e0
            cases e0; cases h1
            exact pe_str
          · rename_i i j p e0
            cases e0; cases h1
            exact pe_int
          · cases h1
        exact pps_cons hk pe ih
theorem tPairs_in {O : Ow} {ε : Env} {σ : L2.St} : ∀ {kk : List Key} {as : List E} {H : Hp} {Q : List (V × V) → Hp → Prop}, kk.length = as.length → ER X.K O H σ ε → OT O H →
    Res X.K C W O σ H (evs φ as ε) (fun ds => ∀ vs H', Same H H' → Rps X.K O H' vs ds → Q ((kk.zip vs).map fun p => (kV p.1, p.2)) H') → tPairs ((kk.zip as).map fun p => (L2.tC (kV p.1), tD X.K φ C W p.2)) σ H Q
  | [], [], H, Q, _, er, ot, q => by
    simp only [evs] at q
    exact q [] H (Same.refl H) .nil
  | k :: kk, a :: as, H, Q, hl, er, ot, q => by
    simp only [evs] at q
    show tD X.K φ C W a σ H fun y H2 => tPairs ((kk.zip as).map fun p => (L2.tC (kV p.1), tD X.K φ C W p.2)) σ H2 fun ps H3 => Q ((kV k, y) :: ps) H3
    refine tD_in er ot q fun d v H1 s1 r1 q1 => ?_
    refine tPairs_in (O := O) (ε := ε) (by simpa using hl) (er.same s1) (ot.same s1) ?_
    have q2 := q1.same s1 (k' := fun ds => ∀ vs H', Same H1 H' → Rps X.K O H' vs ds → Q (((k :: kk).zip vs).map fun p => (kV p.1, p.2)) H') fun ds kq vs H' s r => kq vs H' (s1.trans s) r
    exact q2.bind fun ds _ q3 vs H' s r => q3 (v :: vs) H' s (.cons (r1.same s) r)
  | [], _ :: _, _, _, hl, _, _, _ => by simp at hl
  | _ :: _, [], _, _, hl, _, _, _ => by simp at hl
theorem fzUpK {O : Ow} {H : Hp} {p : Addr} {kvs : List (Key × V)} {o : HO} (h : H p = some (.dK kvs)) : Fz (O1 O p) H (O1 O p) (upd H p o) := by
  refine ⟨fun a u e q => ?_, fun a xs e => ?_, fun a u xs e => ?_⟩
  · have ne : a ≠ p := fun z => by unfold O1 at q; rw [if_pos z] at q; cases q
    exact ⟨by rw [upd_ne ne]; exact e, q⟩
  · have ne : a ≠ p := fun z => by rw [z, h] at e; cases e
    rw [upd_ne ne]; exact e
  · have ne : a ≠ p := fun z => by rw [z, h] at e; cases e
    rw [upd_ne ne]; exact e
theorem fzOffK {O : Ow} {H : Hp} {p : Addr} {O' : Ow} (g : ∀ a, a ≠ p → O' a = O a) : Fz (O1 O p) H O' H := by
  refine ⟨fun a u e q => ⟨e, ?_⟩, fun a xs e => e, fun a u xs e => e⟩
  have ne : a ≠ p := fun z => by unfold O1 at q; rw [if_pos z] at q; cases q
  rw [g a ne]
  unfold O1 at q; rwa [if_neg ne] at q
theorem RpK.merge {K : PySem.W.Frag} {O : Ow} {H : Hp} : ∀ {kk : List Key} {vs : List V} {ds : List D} {kvs : List (Key × V)} {es : List (D × D)}, Rps K O H vs ds → RpK K O H kvs es → RpK K O H (mergeK kvs (kk.zip vs)) ((kk.zip ds).foldl (fun acc p => putD acc (keyD p.1) p.2) es)
  | [], _, _, _, _, _, r => by simpa [mergeK] using r
  | _ :: _, _, _, _, _, .nil, r => by simpa [mergeK] using r
  | k :: kk, _, _, _, _, .cons h t, r => RpK.merge (kk := kk) t (r.put h)
theorem s_dd {keys : List (Option Expr)} {kk : List Key} {es : List Expr} {as : List E} {pos : Pos} (hk : keys.mapM keyE = some kk) (pr : Paired (fun e a => PE X e (tD X.K φ C W a)) es as) (hl : keys.length = es.length) (h0 : keys ≠ []) (h15 : es.length ≤ 15) :
    PE X (.Dict keys es pos) (tF X.K φ C W (.dd kk as)) := by
  have hkl : ∀ {l : List (Option Expr)} {kk : List Key}, l.mapM keyE = some kk → kk.length = l.length ∧ l.all (·.isSome) = true := by
    intro l
    induction l with
    | nil => intro kk h; simp at h; subst h; exact ⟨rfl, rfl⟩
    | cons k l ih =>
      intro kk h
      rw [List.mapM_cons] at h
      obtain ⟨k1, h1, h⟩ := bndO h
      obtain ⟨k2, h2, h⟩ := bndO h
      cases h
      obtain ⟨i1, i2⟩ := ih h2
      refine ⟨by rw [List.length_cons, List.length_cons, i1], ?_⟩
      rw [List.all_cons, i2, Bool.and_true]
      cases k with
      | none => simp [keyE] at h1
      | some _ => rfl
  obtain ⟨e1, e2⟩ := hkl hk
  have hpl : es.length = as.length := by
    have : ∀ {es : List Expr} {as : List E}, Paired (fun e a => PE X e (tD X.K φ C W a)) es as → es.length = as.length := by
      intro es as h
      induction h with
      | nil => rfl
      | cons _ _ ih => rw [List.length_cons, List.length_cons, ih]
    exact this pr
  refine pem (pe_disp (pps_of hk pr hl) e2 hl h0 (by omega)) fun σ H Q ⟨O, ε, er, ot, q⟩ p hp => ?_
  simp only [ev] at q
  have s0 : Same H (upd H p (.dK [])) := same_new hp
  have f0 := fzO1 (O := O) hp s0
  refine tPairs_in (O := O1 O p) (ε := ε) (by omega) (er.mvS f0 s0) (otO1 ot s0 ⟨_, upd_same⟩) ?_
  have q1 : Res X.K C W O σ H (evs φ as ε) fun ds => kF X.K O H Q (.dict ((kk.zip ds).foldl (fun acc p => putD acc (keyD p.1) p.2) [])) := q.bind fun ds _ k => k
  cases hev : evs φ as ε with
  | st => rw [hev] at q1; exact q1.elim
  | ex d =>
    rw [hev] at q1
    exact fun dx v H' s a r => q1 dx v H' (s0.trans s) a (r.mv (fzOffK fun _ _ => rfl))
  | ok ds =>
    rw [hev] at q1
    refine fun vs H' s r => ?_
    have hH : H' p = some (.dK []) := s _ _ upd_same
    refine ⟨hH, kk.zip vs, rfl, ?_, q1 _ _ (sameUp hp (s0.trans s)) ?_⟩
    · rw [List.length_zip]; omega
    · have r2 := RpK.merge (kk := kk) r (RpK.nil (K := X.K) (O := O1 O p) (H := H'))
      exact ⟨p, _, rfl, hp, upd_same, fun O' g => (r2.mv (fzUpK hH)).mv (fzOffK g)⟩
end
end Ws

set_option Elab.async false
set_option linter.all false
set_option maxRecDepth 100000
set_option maxHeartbeats 4000000
/-! Sim15: the pure language says what the text does: expressions, all of them -/
namespace Ws
open PySem PySem.Spec PyProof.Rows L2

variable {c : Cfg} {φ : Nat → List D → Rs D} {C : Addr} {k : Nat}
theorem compI_fold {n : Nat} {sc : Scope} {w : Bool} {e : Expr} {a : It} (h : compI c n sc w e = some a) : ∀ (env : PySem.Env) (x : Value), foldedSetIterable e env x = pure x := by
  cases n with
  | zero => simp [compI] at h
  | succ n =>
    unfold compI at h
    split at h
    · cases h
    · exact fun _ _ => rfl
    · exact fun _ _ => rfl
    · exact fun _ _ => rfl
    · split at h
      · rename_i hwk
        exact folded_of hwk
      · cases h
theorem tabE_of {c : Cfg} {sc : Scope} {e : Expr} {kvs : List (Str × D)} (h : tabE c sc e = some kvs) : ∃ T p, e = .Name T p ∧ glob sc T = true ∧ c.tabs.lookup T = some kvs := by
  unfold tabE at h
  split at h
  · rename_i x p
    split at h
    · rename_i hg
      exact ⟨x, p, rfl, hg, h⟩
    · cases h
  · cases h
theorem sn_e {n : Nat} (ih : SN c φ C k n) {X : Cx} {W : WX} {sc : Scope} {e : Expr} {a : E} (g : Good c φ C k X) (tk : Takes X W) (hs : X.env.scope = sc) (h : compE c (n + 1) sc e = some a) : SE X φ C W e a := by
  have blk : ∀ (s : Shared) (H : Hp) (scope : Scope) (Cc : Addr) (cl : List (Str × Addr)) (fp : List Addr), Good c φ C k (X.blk s H scope (compEnvC scope cl Cc X.env) fp) := fun s H scope Cc cl fp => g.blk s H scope _ fp
  have hsc : ∀ (s : Shared) (H : Hp) (scope : Scope) (Cc : Addr) (cl : List (Str × Addr)) (fp : List Addr), (X.blk s H scope (compEnvC scope cl Cc X.env) fp).env.scope = relS scope sc := fun s H scope Cc cl fp => by rw [← hs]; rfl
  unfold compE at h
  split at h
  · -- int
    cases h
    exact .ofD (s_lit pe_int fun _ _ => .int _) rfl rfl fun _ => rfl
  · cases h
    exact .ofD (s_lit pe_bl fun _ _ => .bl _) rfl rfl fun _ => rfl
  · cases h
    exact .ofD (s_lit pe_non fun _ _ => .non) rfl rfl fun _ => rfl
  · -- text
    split at h
    · rename_i cnd
      simp only [Bool.and_eq_true, decide_eq_true_eq] at cnd
      cases h
      exact .ofD (s_lit pe_str fun _ _ => .str _ cnd.1 (by rw [← lim_line]; exact cnd.2)) rfl rfl fun _ => rfl
    · cases h
  · -- a name
    rename_i x pos
    split at h
    · cases h
    · rename_i nd
      simp only [Bool.or_eq_true, decide_eq_true_eq, not_or] at nd
      have d1 : (x == ("__debug__" : Str)) = false := by simpa using nd.1
      have d2 : (x == ("__classdict__" : Str)) = false := by simpa using nd.2
      split at h
      · rename_i i hi
        cases h
        obtain ⟨h1, h2⟩ := slot_of g.hN hs hi
        obtain ⟨q1, q2⟩ := s_var (φ := φ) (C := C) (W := W) (pos := pos) h1 h2 d1 d2
        exact ⟨q1, q2, fun z => (by cases z), s_truth q2 fun _ => rfl⟩
      · split at h
        · rename_i hgl
          cases hl : c.cs.lookup x with
          | none => rw [hl] at h; cases h
          | some d =>
            rw [hl] at h
            cases h
            obtain ⟨u, v, h1, h2, h3⟩ := g.cs x d hl
            exact .ofD (s_gl (glob_of hs hgl).1 h1 h2 h3 d1) rfl rfl fun _ => rfl
        · cases h
  · -- a op b
    rename_i a1 o b1 pos
    obtain ⟨o', h1, h⟩ := bndO h
    obtain ⟨a', h2, h⟩ := bndO h
    obtain ⟨b', h3, h⟩ := bndO h
    cases h
    rw [op2Of_eq h1]
    exact .ofF (s_bin (ih.e g tk hs h2).w (ih.e g tk hs h3).w) rfl fun _ => rfl
  · obtain ⟨a', h2, h⟩ := bndO h
    cases h
    exact .ofF (s_neg (ih.e g tk hs h2).w) rfl fun _ => rfl
  · obtain ⟨a', h2, h⟩ := bndO h
    cases h
    have se := ih.e g tk hs h2
    exact ⟨pe_FD (s_notV se.w), pe_DW (pe_FD (s_notV se.w)), fun _ => s_notV se.w, s_notT se.t⟩
  · -- and, or
    rename_i o vs pos
    split at h
    · rename_i z
      obtain ⟨q1, q2, q3⟩ := ih.b g tk hs h pos
      have wa := (q3 z).1
      refine ⟨q1, by rw [wa]; exact pe_DW q1, fun f => ?_, q2.pt⟩
      rw [(q3 z).2] at f; cases f
    · cases h
  · -- a if c else b
    obtain ⟨t', h1, h⟩ := bndO h
    obtain ⟨a', h2, h⟩ := bndO h
    obtain ⟨b', h3, h⟩ := bndO h
    cases h
    have st := ih.e g tk hs h1
    have sa := ih.e g tk hs h2
    have sb := ih.e g tk hs h3
    exact ⟨s_ifV st.t sa.d sb.d, pe_DW (s_ifV st.t sa.d sb.d), fun z => (by cases z), s_ifT st.t (ptwk sa.t) (ptwk sb.t)⟩
  · -- a op b
    split at h
    · cases h
    · rename_i hm
      split at h
      · rename_i kvs htab
        obtain ⟨T, pT, rfl, hgT, hlT⟩ := tabE_of htab
        obtain ⟨gT, dT⟩ := glob_of hs hgT
        split at h
        · obtain ⟨a', h2, h⟩ := bndO h
          cases h
          have q := fun p pos => (s_inT (p := p) (pos := pos) g hlT gT dT (ih.e g tk hs h2).w).1
          exact ⟨pe_FD (q _ _), pe_DW (pe_FD (q _ _)), fun _ => q _ _, (s_inTT g hlT gT dT (ih.e g tk hs h2).w).1⟩
        · obtain ⟨a', h2, h⟩ := bndO h
          cases h
          have q := fun p pos => (s_inT (p := p) (pos := pos) g hlT gT dT (ih.e g tk hs h2).w).2
          exact ⟨pe_FD (q _ _), pe_DW (pe_FD (q _ _)), fun _ => q _ _, (s_inTT g hlT gT dT (ih.e g tk hs h2).w).2⟩
        · cases h
      obtain ⟨a', h2, h⟩ := bndO h
      obtain ⟨b', h3, h⟩ := bndO h
      cases h
      have sa := ih.e g tk hs h2
      have sb := ih.e g tk hs h3
      have hm := (Bool.not_eq_true _).mp hm
      have q := fun p => s_cmp (pos := p) g.hu sa.w sb.w hm
      exact ⟨pe_FD (q _), pe_DW (pe_FD (q _)), fun _ => q _, s_cmpT g.hu sa.w sb.w hm⟩
  · -- a op b op d
    split at h
    · cases h
    · rename_i hm
      obtain ⟨a', h2, h⟩ := bndO h
      obtain ⟨b', h3, h⟩ := bndO h
      obtain ⟨d', h4, h⟩ := bndO h
      cases h
      have sa := ih.e g tk hs h2
      have sb := ih.e g tk hs h3
      have sd := ih.e g tk hs h4
      have hm := (Bool.not_eq_true _).mp hm
      have q := fun p => s_chain (pos := p) g.hu sa.w sb.w sd.w hm
      exact ⟨pe_FD (q _), pe_DW (pe_FD (q _)), fun _ => q _, s_chainT g.hu sa.w sb.w sd.w hm⟩
  · -- a tuple
    split at h
    · rename_i z
      obtain ⟨as, h2, h⟩ := bndO h
      cases h
      obtain ⟨q1, q2, q3, _, _⟩ := ih.es g tk hs h2
      exact .ofF (s_tup (by rw [q3]; exact z) q1 fun ε ds e => evs_len e) rfl fun _ => rfl
    · cases h
  · -- a list
    split at h
    · rename_i z
      obtain ⟨as, h2, h⟩ := bndO h
      cases h
      obtain ⟨q1, q2, q3, _, _⟩ := ih.es g tk hs h2
      exact .ofF (s_lst (by rw [q3]; exact z) q1 fun ε ds e => evs_len e) rfl fun _ => rfl
    · cases h
  · cases h
    exact .ofF s_dnew rfl fun _ => rfl
  · -- {k: v, ..}
    split at h
    · rename_i cnd
      simp only [Bool.and_eq_true, decide_eq_true_eq] at cnd
      obtain ⟨kk, h1, h⟩ := bndO h
      obtain ⟨as, h2, h⟩ := bndO h
      cases h
      obtain ⟨_, _, _, _, q5⟩ := ih.es g tk hs h2
      exact .ofF (s_dd h1 q5 cnd.1 (by simp) cnd.2) rfl fun _ => rfl
    · cases h
  · obtain ⟨a', h2, h⟩ := bndO h
    cases h
    exact .ofF (s_rev (ih.e g tk hs h2).w) rfl fun _ => rfl
  · obtain ⟨a', h2, h⟩ := bndO h
    obtain ⟨l', h3, h⟩ := bndO h
    obtain ⟨u', h4, h⟩ := bndO h
    cases h
    exact .ofF (s_sli (ih.e g tk hs h2).w (ih.o g tk hs h3) (ih.o g tk hs h4)) rfl fun _ => rfl
  · split at h
    · rename_i hp
      split at h
      · rename_i kvs htab
        obtain ⟨T, pT, rfl, hgT, hlT⟩ := tabE_of htab
        obtain ⟨gT, dT⟩ := glob_of hs hgT
        obtain ⟨b', h3, h⟩ := bndO h
        cases h
        exact .ofD (s_atT g hlT gT dT (ih.e g tk hs h3).w (plain_of hp)) rfl rfl fun _ => rfl
      obtain ⟨a', h2, h⟩ := bndO h
      obtain ⟨b', h3, h⟩ := bndO h
      cases h
      exact .ofD (s_idx g.hu (ih.e g tk hs h2).w (ih.e g tk hs h3).w (plain_of hp)) rfl rfl fun _ => rfl
    · cases h
  · -- [.. for ..]
    rename_i elt tg iter ifs scope pos
    split at h
    · rename_i hb
      obtain ⟨it, h1, h⟩ := bndO h
      obtain ⟨t, h2, h⟩ := bndO h
      obtain ⟨x, h3, h⟩ := bndO h
      obtain ⟨cd, h4, h⟩ := bndO h
      split at h
      · rename_i hin
        cases h
        obtain ⟨i1, i2⟩ := ih.i g tk hs h1
        have ok : BlkOk X.N X.env.scope scope (ownOf c.N scope) := by rw [g.hN, hs]; exact blkOk_by hb
        refine .ofF (s_lc g ok (i1 _) (i2 _) (fun s H Cc cl fp => pg_sound (X := X.blk s H scope (compEnvC scope cl Cc X.env) fp) (c := c) g.hN g.nd g.calm (relS_tg s H Cc cl fp rfl) n _ t h2) (fun s H Cc cl fp => ih.cd (blk s H _ Cc cl fp) takes0 (hsc s H _ Cc cl fp) h4) (fun s H Cc cl fp => (ih.e (blk s H _ Cc cl fp) takes0 (hsc s H _ Cc cl fp) h3).d) hin) rfl fun _ => rfl
      · cases h
    · cases h
  · rename_i elt tg iter ifs tg1 iter1 ifs1 scope pos
    split at h
    · rename_i hb
      obtain ⟨it, h1, h⟩ := bndO h
      obtain ⟨t, h2, h⟩ := bndO h
      obtain ⟨cd, h4, h⟩ := bndO h
      obtain ⟨it1, h5, h⟩ := bndO h
      obtain ⟨t1, h6, h⟩ := bndO h
      obtain ⟨cd1, h7, h⟩ := bndO h
      obtain ⟨x, h3, h⟩ := bndO h
      split at h
      · rename_i hin
        simp only [Bool.and_eq_true] at hin
        cases h
        obtain ⟨i1, i2⟩ := ih.i g tk hs h1
        have ok : BlkOk X.N X.env.scope scope (ownOf c.N scope) := by rw [g.hN, hs]; exact blkOk_by hb
        have i5 := fun (s : Shared) (H : Hp) (Cc : Addr) (cl : List (Str × Addr)) (fp : List Addr) => ih.i (blk s H _ Cc cl fp) takes0 (hsc s H _ Cc cl fp) h5
        refine .ofF (s_lc2 g ok (i1 _) (i2 _) (compI_fold h5) (fun s H Cc cl fp => pg_sound (X := X.blk s H scope (compEnvC scope cl Cc X.env) fp) (c := c) g.hN g.nd g.calm (relS_tg s H Cc cl fp rfl) n _ t h2) (fun s H Cc cl fp => ih.cd (blk s H _ Cc cl fp) takes0 (hsc s H _ Cc cl fp) h4)
          (fun s H Cc cl fp => (i5 s H Cc cl fp).1 _) (fun s H Cc cl fp => pg_sound (X := X.blk s H scope (compEnvC scope cl Cc X.env) fp) (c := c) g.hN g.nd g.calm (relS_tg s H Cc cl fp rfl) n _ t1 h6) (fun s H Cc cl fp => ih.cd (blk s H _ Cc cl fp) takes0 (hsc s H _ Cc cl fp) h7)
          (fun s H Cc cl fp => (ih.e (blk s H _ Cc cl fp) takes0 (hsc s H _ Cc cl fp) h3).d) hin.1 hin.2) rfl fun _ => rfl
      · cases h
    · cases h
  · -- len(set(..))
    split at h
    · rename_i cnd
      simp only [Bool.and_eq_true, decide_eq_true_eq] at cnd
      obtain ⟨a', h2, h⟩ := bndO h
      cases h
      exact .ofF (s_lset g (glob_of hs cnd.1.1.1.1).1 (g.bl _ cnd.1.1.1.2) (glob_of hs cnd.1.1.2).1 (g.bl _ cnd.1.2) (ih.e g tk hs h2).w cnd.2) rfl fun _ => rfl
    · cases h
  · -- a call
    rename_i f p es pos hneg
    split at h
    · rename_i hgl
      obtain ⟨gl, gd⟩ := glob_of hs hgl
      split at h
      · rename_i i hi
        obtain ⟨ds, h1, h⟩ := bndO h
        obtain ⟨q1, q2, q3, q4, _⟩ := ih.es g tk hs h1
        have q := s_call (pos := pos) (p := p) g tk (fix_of hi) gl gd q1 q2 q4
        injection h with h
        subst h
        split
        · exact .ofD (s_nomut q) rfl rfl fun _ => rfl
        · exact .ofD q rfl rfl fun _ => rfl
      · split at h
        · rename_i hb
          simp only [Bool.and_eq_true, decide_eq_true_eq] at hb
          split at h
          · rename_i hf
            subst hf
            obtain ⟨q1, q2⟩ := ih.is_ g tk hs h hgl hb.1
            exact .ofF (q1 p pos) q2 fun _ => rfl
          · obtain ⟨b, h1, h⟩ := bndO h
            obtain ⟨ds, h2, h⟩ := bndO h
            obtain ⟨q1, q2⟩ := ih.ws g tk hs h2
            cases h
            cases es with
            | nil => simp at hb
            | cons e es =>
              obtain ⟨r1, r2⟩ := s_bi (p := p) (pos := pos) g h1 gl (g.bl _ hb.1) q1 q2
              exact ⟨r1, pe_DW r1, fun z => r2 z, s_truth (pe_DW r1) fun _ => rfl⟩
        · split at h
          · rename_i hb
            simp only [Bool.and_eq_true, decide_eq_true_eq] at hb
            obtain ⟨ds, h2, h⟩ := bndO h
            obtain ⟨q1, q2⟩ := ih.ws g tk hs h2
            cases h
            cases es with
            | nil => simp at hb
            | cons e es =>
              obtain ⟨⟨hb1, hb2⟩, hb3⟩ := hb
              subst hb2
              obtain ⟨r1, r2⟩ := s_gcd (p := p) (pos := pos) g hb1 gl q1 q2
              exact ⟨r1, pe_DW r1, fun z => r2 z, s_truth (pe_DW r1) fun _ => rfl⟩
          · cases h
    · cases h
  · cases h
theorem sn : ∀ n, SN c φ C k n
  | 0 => ⟨fun _ _ _ h => by simp [compE] at h, fun _ _ _ h => by simp [compIs] at h, fun _ _ _ h => by simp [compB] at h, fun _ _ _ h => by simp [compEs] at h, fun _ _ _ h => by simp [compWs] at h, fun _ _ _ h => by simp [compO] at h, fun _ _ _ h => by simp [compC] at h, fun _ _ _ h => by simp [compI] at h⟩
  | n + 1 => ⟨sn_e (sn n), sn_is (sn n), sn_b (sn n), sn_es (sn n), sn_ws (sn n), sn_o (sn n), sn_cd (sn n), sn_i (sn n)⟩
end Ws

set_option Elab.async false
set_option linter.all false
set_option maxRecDepth 100000
set_option maxHeartbeats 4000000
/-! Sim16: states between statements -/
namespace Ws
open PySem PySem.Spec PyProof.Rows L2

/-- a list or dict that slot i alone knows -/
def OwnAt (K : PySem.W.Frag) (O : Ow) (H : Hp) (p : Addr) : D → Prop
  | .list ds => ∃ xs, H p = some (.lst xs) ∧ xs.length ≤ sizeLine ∧ Rps K O H xs ds
  | .dict ds => ∃ kvs, H p = some (.dK kvs) ∧ RpK K O H kvs ds
  | _ => False
theorem OwnAt.mv {K : PySem.W.Frag} {O O' : Ow} {H H' : Hp} {p : Addr} {d : D} (h : OwnAt K O H p d) (f : Fz O H O' H') (e : ∀ o, H p = some o → H' p = some o) : OwnAt K O' H' p d := by
  cases d with
  | list ds => obtain ⟨xs, q, z, r⟩ := h; exact ⟨xs, e _ q, z, r.mv f⟩
  | dict ds => obtain ⟨xs, q, r⟩ := h; exact ⟨xs, e _ q, r.mv f⟩
  | none => exact h
  | bool b => exact h
  | int i => exact h
  | str x => exact h
  | tuple ds => exact h
theorem OwnAt.rp {K : PySem.W.Frag} {O : Ow} {H : Hp} {p : Addr} {d : D} (h : OwnAt K O H p d) : RpW K O H (.ref p) d := by
  cases d with
  | list ds => obtain ⟨xs, q, z, r⟩ := h; exact ⟨p, xs, rfl, .inl (.inl q), z, r⟩
  | dict ds => obtain ⟨xs, q, r⟩ := h; exact ⟨p, xs, rfl, q, r⟩
  | none => exact h.elim
  | bool b => exact h.elim
  | int i => exact h.elim
  | str x => exact h.elim
  | tuple ds => exact h.elim
theorem OwnAt.at {K : PySem.W.Frag} {O : Ow} {H : Hp} {p : Addr} {d : D} (h : OwnAt K O H p d) : (∃ xs, H p = some (.lst xs)) ∨ ∃ kvs, H p = some (.dK kvs) := by
  cases d <;> first | exact (show False from h).elim | (obtain ⟨xs, q, _⟩ := h; first | exact .inl ⟨_, q⟩ | exact .inr ⟨_, q⟩)
structure SR (X : Cx) (O0 O : Ow) (H : Hp) (σ : L2.St) (ε : Env) : Prop where
  er : ER X.K O H σ ε
  ot : OT O H
  ow : ∀ (i : Nat) (d : D), ε[i]? = some (.o d) → ∃ p, σ[i]? = some (some (.ref p)) ∧ O p = some i ∧ X.H_0 p = none ∧ OwnAt X.K O H p d
  sm : Same X.H_0 H
  o0 : ∀ a o, X.H_0 a = some o → O a = O0 a
  ot0 : OT O0 X.H_0
section
variable {X : Cx} {O0 O : Ow} {H H' : Hp} {σ : L2.St} {ε : Env}
theorem OwnAt.same {K : PySem.W.Frag} {p : Addr} {d : D} (h : OwnAt K O H p d) (s : Same H H') : OwnAt K O H' p d := h.mv (.same s) fun o e => s _ _ e
theorem SR.same (h : SR X O0 O H σ ε) (s : Same H H') : SR X O0 O H' σ ε :=
  ⟨h.er.same s, h.ot.same s, fun i d e => let ⟨p, h1, h2, h3, h4⟩ := h.ow i d e; ⟨p, h1, h2, h3, h4.same s⟩, h.sm.trans s, h.o0, h.ot0⟩
theorem SR.fz0 (h : SR X O0 O H σ ε) : Fz O H O0 H := ⟨fun a o e q => ⟨e, by
  cases z : X.H_0 a with
  | none => exact h.ot0.none z
  | some u => rw [← h.o0 a u z]; exact q⟩, fun _ _ e => e, fun _ _ _ e => e⟩
/-- as it looks when all is known elsewhere -/
theorem SR.all (h : SR X O0 O H σ ε) : ER X.K O0 H σ (ε.map frzS) ∧ OT O0 H :=
  ⟨h.er.frzAll h.fz0 fun i p d e e2 => by
    obtain ⟨p', h1, h2, h3, _⟩ := h.ow i d e
    rw [e2] at h1; cases h1
    exact h.ot0.none h3, h.ot0.same h.sm⟩
theorem SR.put {i : Nat} {v : V} {d : D} (h : SR X O0 O H σ ε) (r : Rp X.K O H v d) : SR X O0 O H (σ.set i (some v)) (put ε i d) :=
  ⟨h.er.set r, h.ot, fun j d' e => by
    unfold Ws.put at e
    by_cases ij : i = j
    · subst ij
      by_cases lt : i < ε.length
      · rw [List.getElem?_set_self lt] at e; cases e
      · rw [List.getElem?_eq_none (by rw [List.length_set]; omega)] at e; cases e
    · rw [List.getElem?_set_ne ij] at e ⊢
      exact h.ow j d' e, h.sm, h.o0, h.ot0⟩
/-- a new list or dict in slot i -/
theorem SR.newo {i : Nat} {v : V} {d : D} {Hs : Hp} (h : SR X O0 O H σ ε) (s : Same H Hs) (hd : (∃ ds, d = .list ds) ∨ ∃ ds, d = .dict ds) (f : Fr X.K O H Hs v d) : ∃ O', SR X O0 O' Hs (σ.set i (some v)) (Ws.puto ε i d) ∧ Fz O H O' Hs := by
  have hs := h.same s
  obtain ⟨p, hv, hn, ho⟩ : ∃ p, v = .ref p ∧ H p = none ∧ ∀ O' : Ow, (∀ a, a ≠ p → O' a = O a) → OwnAt X.K O' Hs p d := by
    rcases hd with ⟨ds, rfl⟩ | ⟨ds, rfl⟩
    · obtain ⟨p, xs, e, n, q, z, r⟩ := f
      exact ⟨p, e, n, fun O' g => ⟨xs, q, z, r O' g⟩⟩
    · obtain ⟨p, kvs, e, n, q, r⟩ := f
      exact ⟨p, e, n, fun O' g => ⟨kvs, q, r O' g⟩⟩
  subst hv
  have g : ∀ a, a ≠ p → (fun a => if a = p then some i else O a) a = O a := fun a ne => by simp [ne]
  have f0 : Fz O H (fun a => if a = p then some i else O a) Hs := ⟨fun a o e q => ⟨s a o e, by
    have ne : a ≠ p := fun z => by rw [z, hn] at e; cases e
    exact (g a ne).trans q⟩, fun a xs e => s a _ e, fun a o xs e => s a _ e⟩
  refine ⟨fun a => if a = p then some i else O a, ⟨?_, ?_, fun j d' e => ?_, hs.sm, fun a o e => ?_, h.ot0⟩, f0⟩
  · have er := h.er.mvS f0 s
    refine ⟨by simp only [Ws.puto, List.length_set]; exact er.1, fun j sl e => ?_⟩
    unfold Ws.puto at e
    by_cases ij : i = j
    · subst ij
      have lt : i < ε.length := by
        have := (List.getElem?_eq_some_iff.mp e).1
        rwa [List.length_set] at this
      rw [List.getElem?_set_self lt] at e
      cases e
      exact ⟨_, by rw [List.getElem?_set_self (Nat.lt_of_lt_of_le lt er.1)], (ho _ g).rp⟩
    · rw [List.getElem?_set_ne ij] at e ⊢
      exact er.2 j sl e
  · intro a j e
    by_cases z : a = p
    · subst z
      rcases (ho _ g).at with ⟨u, e⟩ | ⟨u, e⟩ <;> exact ⟨_, e⟩
    · have e : (if a = p then some i else O a) = some j := e
      rw [if_neg z] at e
      exact hs.ot a j e
  · unfold Ws.puto at e
    by_cases ij : i = j
    · subst ij
      have lt : i < ε.length := by
        have := (List.getElem?_eq_some_iff.mp e).1
        rwa [List.length_set] at this
      rw [List.getElem?_set_self lt] at e
      cases e
      exact ⟨p, by rw [List.getElem?_set_self (Nat.lt_of_lt_of_le lt h.er.1)], by simp, h.sm.free hn, ho _ g⟩
    · rw [List.getElem?_set_ne ij] at e ⊢
      obtain ⟨p', h1, h2, h3, h4⟩ := h.ow j d' e
      refine ⟨p', h1, ?_, h3, h4.mv f0 fun o e => s _ _ e⟩
      have ne : p' ≠ p := fun z => by
        obtain ⟨o, q⟩ := h.ot p' j h2
        rw [z, hn] at q; cases q
      rw [← h2]; exact g p' ne
  · have ne : a ≠ p := fun z => by
      have := h.sm a o e
      rw [z, hn] at this; cases this
    rw [← h.o0 a o e]; exact g a ne
theorem fzOwn {p : Addr} {i : Nat} {o u : HO} (h : O p = some i) (e : H p = some u) (hu : (∃ xs, u = .lst xs) ∨ ∃ kvs, u = .dK kvs) : Fz O H O (upd H p o) := by
  refine ⟨fun a w q z => ?_, fun a xs q => ?_, fun a w xs q => ?_⟩
  · have ne : a ≠ p := fun y => by rw [y, h] at z; cases z
    exact ⟨by rw [upd_ne ne]; exact q, z⟩
  · have ne : a ≠ p := fun y => by
      rw [y, e] at q
      rcases hu with ⟨_, rfl⟩ | ⟨_, rfl⟩ <;> cases q
    rw [upd_ne ne]; exact q
  · have ne : a ≠ p := fun y => by
      rw [y, e] at q
      rcases hu with ⟨_, rfl⟩ | ⟨_, rfl⟩ <;> cases q
    rw [upd_ne ne]; exact q
/-- what slot i alone knows is changed -/
theorem SR.chg {i : Nat} {p : Addr} {d d' : D} {o : HO} (h : SR X O0 O H σ ε) (hi : ε[i]? = some (.o d)) (hp : σ[i]? = some (some (.ref p))) (ho : OwnAt X.K O (upd H p o) p d') : SR X O0 O (upd H p o) σ (Ws.puto ε i d') ∧ Fz O H O (upd H p o) := by
  obtain ⟨p', h1, h2, h3, h4⟩ := h.ow i d hi
  rw [hp] at h1; cases h1
  have f : Fz O H O (upd H p o) := by
    rcases h4.at with ⟨u, e⟩ | ⟨u, e⟩
    · exact fzOwn h2 e (.inl ⟨_, rfl⟩)
    · exact fzOwn h2 e (.inr ⟨_, rfl⟩)
  have lt := lt_of_some hi
  have hne : ∀ (j : Nat) (d2 : D) (p2 : Addr), j ≠ i → O p2 = some j → p2 ≠ p := fun j d2 p2 ji e z => by
    rw [z, h2] at e; cases e; exact ji rfl
  refine ⟨⟨⟨by simp only [Ws.puto, List.length_set]; exact h.er.1, fun j sl e => ?_⟩, ?_, fun j d2 e => ?_, ?_, h.o0, h.ot0⟩, f⟩
  · unfold Ws.puto at e
    by_cases ij : i = j
    · subst ij
      rw [List.getElem?_set_self lt] at e
      cases e
      exact ⟨_, hp, ho.rp⟩
    · rw [List.getElem?_set_ne ij] at e
      have q := h.er.2 j sl e
      cases sl with
      | u => trivial
      | f d => obtain ⟨v, q1, q2⟩ := q; exact ⟨v, q1, q2.mv f⟩
      | o d2 =>
        obtain ⟨v, q1, q2⟩ := q
        refine ⟨v, q1, ?_⟩
        obtain ⟨p2, k1, k2, k3, k4⟩ := h.ow j d2 e
        rw [k1] at q1; cases q1
        have ne := hne j d2 p2 (fun z => ij z.symm) k2
        exact (k4.mv f fun o e => by rw [upd_ne ne]; exact e).rp
  · intro a j e
    by_cases z : a = p
    · subst z; exact ⟨_, upd_same⟩
    · obtain ⟨u, q⟩ := h.ot a j e
      exact ⟨u, by rw [upd_ne z]; exact q⟩
  · unfold Ws.puto at e
    by_cases ij : i = j
    · subst ij
      rw [List.getElem?_set_self lt] at e
      cases e
      exact ⟨p, hp, h2, h3, ho⟩
    · rw [List.getElem?_set_ne ij] at e
      obtain ⟨p2, k1, k2, k3, k4⟩ := h.ow j d2 e
      have ne := hne j d2 p2 (fun z => ij z.symm) k2
      exact ⟨p2, k1, k2, k3, k4.mv f fun o e => by rw [upd_ne ne]; exact e⟩
  · exact sameUp h3 h.sm
/-- slot i is known elsewhere from now on -/
theorem SR.frz1 {i : Nat} {d : D} (h : SR X O0 O H σ ε) (hi : ε[i]? = some (.o d)) : ∃ O', SR X O0 O' H σ (ε.set i (.f d)) ∧ Fz O H O' H := by
  obtain ⟨p, h1, h2, h3, h4⟩ := h.ow i d hi
  have f : Fz O H (fun a => if a = p then none else O a) H := ⟨fun a o e q => ⟨e, by
    show (if a = p then none else O a) = none
    split
    · rfl
    · exact q⟩, fun _ _ e => e, fun _ _ _ e => e⟩
  have lt := lt_of_some hi
  refine ⟨fun a => if a = p then none else O a, ⟨⟨by rw [List.length_set]; exact h.er.1, fun j sl e => ?_⟩, fun a j e => ?_, fun j d2 e => ?_, h.sm, fun a o e => ?_, h.ot0⟩, f⟩
  · by_cases ij : i = j
    · subst ij
      rw [List.getElem?_set_self lt] at e
      cases e
      refine ⟨_, h1, ?_⟩
      cases d with
      | list ds => obtain ⟨xs, e2, z, r⟩ := h4; exact .lst (.inl ⟨.inl e2, by simp⟩) z (r.mv f)
      | dict ds => obtain ⟨xs, e2, r⟩ := h4; exact .dk e2 (by simp) (r.mv f)
      | none => exact h4.elim
      | bool b => exact h4.elim
      | int i => exact h4.elim
      | str x => exact h4.elim
      | tuple ds => exact h4.elim
    · rw [List.getElem?_set_ne ij] at e
      have er := h.er.mvS f (Same.refl H)
      exact er.2 j sl e
  · have e : (if a = p then none else O a) = some j := e
    split at e
    · cases e
    · exact h.ot a j e
  · by_cases ij : i = j
    · subst ij
      rw [List.getElem?_set_self lt] at e; cases e
    · rw [List.getElem?_set_ne ij] at e
      obtain ⟨p2, k1, k2, k3, k4⟩ := h.ow j d2 e
      refine ⟨p2, k1, ?_, k3, k4.mv f fun o e => e⟩
      have ne : p2 ≠ p := fun z => by rw [z, h2] at k2; cases k2; exact ij rfl
      show (if p2 = p then none else O p2) = _
      rw [if_neg ne]; exact k2
  · have ne : a ≠ p := fun z => by rw [z, h3] at e; cases e
    show (if a = p then none else O a) = _
    rw [if_neg ne]; exact h.o0 a o e
theorem SR.frz : ∀ (lk : List Nat) {O : Ow} {ε : Env}, SR X O0 O H σ ε → ∃ O', SR X O0 O' H σ (frzE ε lk) ∧ Fz O H O' H
  | [], O, ε, h => ⟨O, h, .refl _ _⟩
  | i :: is, O, ε, h => by
    unfold frzE
    split
    · rename_i d e
      obtain ⟨O1, h1, f1⟩ := h.frz1 e
      obtain ⟨O2, h2, f2⟩ := SR.frz is h1
      exact ⟨O2, h2, f1.trans f2⟩
    · exact SR.frz is h
end

/-! ### targets -/
theorem bnd_nm {j : Nat} (i : Nat) (d : D) (ε ε' : Env) (h : bnd (.nm i) d ε = .ok ε') : (j ∉ (Pt.nm i).sl → ε'[j]? = ε[j]?) ∧ (∀ x, j ∈ (Pt.nm i).sl → ε'[j]? ≠ some (.o x)) := by
    simp only [bnd] at h
    injection h with h
    subst h
    unfold put
    refine ⟨fun n => ?_, fun x m => ?_⟩
    · rw [List.getElem?_set_ne (fun z => n (by simp [Pt.sl, z]))]
    · have m1 : j = i := by simpa [Pt.sl] using m
      have e : i = j := m1.symm
      subst e
      by_cases lt : i < ε.length
      · rw [List.getElem?_set_self lt]; simp
      · rw [List.getElem?_eq_none (by rw [List.length_set]; omega)]; simp
theorem bnd_out {j : Nat} : (∀ (t : Pt) (d : D) (ε ε' : Env), bnd t d ε = .ok ε' → (j ∉ t.sl → ε'[j]? = ε[j]?) ∧ (∀ x, j ∈ t.sl → ε'[j]? ≠ some (.o x))) ∧
    ∀ (ts : List Pt) (ds : List D) (ε ε' : Env), bnds ts ds ε = .ok ε' → (j ∉ Pt.sls ts → ε'[j]? = ε[j]?) ∧ (∀ x, j ∈ Pt.sls ts → ε'[j]? ≠ some (.o x)) := by
  have nm := bnd_nm (j := j)
  have nil : ∀ (ds : List D) (ε ε' : Env), bnds [] ds ε = .ok ε' → (j ∉ Pt.sls [] → ε'[j]? = ε[j]?) ∧ (∀ x, j ∈ Pt.sls [] → ε'[j]? ≠ some (.o x)) := fun ds ε ε' h => by
    cases ds with
    | nil => simp only [bnds] at h; injection h with h; subst h; exact ⟨fun _ => rfl, fun x m => by simp [Pt.sls] at m⟩
    | cons d ds => simp [bnds] at h
  refine ⟨fun t => ?_, fun ts => ?_⟩
  · refine Pt.rec (motive_1 := fun t => ∀ (d : D) (ε ε' : Env), bnd t d ε = .ok ε' → (j ∉ t.sl → ε'[j]? = ε[j]?) ∧ (∀ x, j ∈ t.sl → ε'[j]? ≠ some (.o x)))
      (motive_2 := fun ts => ∀ (ds : List D) (ε ε' : Env), bnds ts ds ε = .ok ε' → (j ∉ Pt.sls ts → ε'[j]? = ε[j]?) ∧ (∀ x, j ∈ Pt.sls ts → ε'[j]? ≠ some (.o x))) nm ?_ nil ?_ t
    · intro ps ih d ε ε' h
      cases d <;> try (simp [bnd] at h; done)
      · exact ih _ ε ε' (by simpa only [bnd] using h)
      · exact ih _ ε ε' (by simpa only [bnd] using h)
    · intro p ps ih1 ih2 ds ε ε' h
      cases ds with
      | nil => simp [bnds] at h
      | cons d ds =>
        simp only [bnds] at h
        obtain ⟨ε1, h1, h2⟩ := Rs.bnd_of h
        obtain ⟨a1, b1⟩ := ih1 d ε ε1 h1
        obtain ⟨a2, b2⟩ := ih2 ds ε1 ε' h2
        refine ⟨fun n => ?_, fun x m => ?_⟩
        · simp only [Pt.sls, List.mem_append, not_or] at n
          rw [a2 n.2, a1 n.1]
        · by_cases z : j ∈ Pt.sls ps
          · exact b2 x z
          · rw [a2 z]
            simp only [Pt.sls, List.mem_append] at m
            exact b1 x (m.resolve_right z)
  · refine Pt.rec_1 (motive_1 := fun t => ∀ (d : D) (ε ε' : Env), bnd t d ε = .ok ε' → (j ∉ t.sl → ε'[j]? = ε[j]?) ∧ (∀ x, j ∈ t.sl → ε'[j]? ≠ some (.o x)))
      (motive_2 := fun ts => ∀ (ds : List D) (ε ε' : Env), bnds ts ds ε = .ok ε' → (j ∉ Pt.sls ts → ε'[j]? = ε[j]?) ∧ (∀ x, j ∈ Pt.sls ts → ε'[j]? ≠ some (.o x))) nm ?_ nil ?_ ts
    · intro ps ih d ε ε' h
      cases d <;> try (simp [bnd] at h; done)
      · exact ih _ ε ε' (by simpa only [bnd] using h)
      · exact ih _ ε ε' (by simpa only [bnd] using h)
    · intro p ps ih1 ih2 ds ε ε' h
      cases ds with
      | nil => simp [bnds] at h
      | cons d ds =>
        simp only [bnds] at h
        obtain ⟨ε1, h1, h2⟩ := Rs.bnd_of h
        obtain ⟨a1, b1⟩ := ih1 d ε ε1 h1
        obtain ⟨a2, b2⟩ := ih2 ds ε1 ε' h2
        refine ⟨fun n => ?_, fun x m => ?_⟩
        · simp only [Pt.sls, List.mem_append, not_or] at n
          rw [a2 n.2, a1 n.1]
        · by_cases z : j ∈ Pt.sls ps
          · exact b2 x z
          · rw [a2 z]
            simp only [Pt.sls, List.mem_append] at m
            exact b1 x (m.resolve_right z)
theorem SR.bnd {X : Cx} {O0 O : Ow} {H : Hp} {σ σ' : L2.St} {ε ε' : Env} {t : Pt} {d : D} (h : SR X O0 O H σ ε) (b : Ws.bnd t d ε = .ok ε') (er : ∀ O' H', Fz O H O' H' → ER X.K O' H' σ ε → ER X.K O' H' σ' ε') (w : ∀ vs, (∀ i ∈ t.sl, i ∈ vs) → L2.wipe σ' vs = L2.wipe σ vs) : SR X O0 O H σ' ε' :=
  ⟨er O H (.refl _ _) h.er, h.ot, fun j d' e => by
    obtain ⟨a1, b1⟩ := (bnd_out (j := j)).1 t d ε ε' b
    by_cases z : j ∈ t.sl
    · exact absurd e (b1 d' z)
    · rw [a1 z] at e
      have q := congrArg (fun l => l[j]?) (w t.sl fun i hi => hi)
      simp only [wipe_out z] at q
      rw [q]; exact h.ow j d' e, h.sm, h.o0, h.ot0⟩
end Ws

set_option Elab.async false
set_option linter.all false
set_option maxRecDepth 100000
set_option maxHeartbeats 4000000
/-! Sim17: statements -/
namespace Ws
open PySem PySem.Spec PyProof.Rows L2

theorem psm {X : Cx} {e : Stmt} {t t' : TS} (h : PS X e t) (f : ∀ D σ H, t' D σ H → t D σ H) : PS X e t' := ⟨fun p s σ H D I q => h.run p s σ H D I (f D σ H q)⟩
theorem pssm {X : Cx} {e : List Stmt} {t t' : TS} (h : PSs X e t) (f : ∀ D σ H, t' D σ H → t D σ H) : PSs X e t' := ⟨fun p s σ H D I q => h.run p s σ H D I (f D σ H q)⟩
/-- what is wanted behind a statement's answer -/
def sRes (X : Cx) (C : Addr) (O0 : Ow) (Ek : XK) (O : Ow) (H : Hp) (D : Ends) : Rs (Fl × Env) → Prop
  | .ok (.nx, ε') => ∀ O' σ' H', SR X O0 O' H' σ' ε' → Fz O H O' H' → D.nx σ' H'
  | .ok (.br, ε') => ∀ O' σ' H', SR X O0 O' H' σ' ε' → Fz O H O' H' → D.bk σ' H'
  | .ok (.ct, ε') => ∀ O' σ' H', SR X O0 O' H' σ' ε' → Fz O H O' H' → D.ct σ' H'
  | .ok (.rt d, _) => ∀ v H', Same X.H_0 H' → Rp X.K O0 H' v d → D.rt v H'
  | .ex d => ∀ dx v H', Same X.H_0 H' → H' dx = some (.xd [(atS, v)]) → Rp X.K O0 H' v d → Ek (.ref C) (some dx) H'
  | .st => False
def tSt (X : Cx) (C : Addr) (O0 : Ow) (Ek : XK) (f : Env → Rs (Fl × Env)) : TS := fun D σ H => ∃ O ε, SR X O0 O H σ ε ∧ sRes X C O0 Ek O H D (f ε)
abbrev WK (Ek : XK) : WX := fun cls d _ H => Ek cls d H
section
variable {X : Cx} {C : Addr} {O0 O O2 : Ow} {Ek : XK} {H H2 : Hp} {D : Ends} {σ : L2.St} {ε : Env}
theorem sRes.mono {r : Rs (Fl × Env)} (h : sRes X C O0 Ek O H D r) (f : Fz O H O2 H2) : sRes X C O0 Ek O2 H2 D r := by
  cases r with
  | ex d => exact h
  | st => exact h
  | ok p =>
    obtain ⟨fl, ε'⟩ := p
    cases fl with
    | nx => exact fun O' σ' H' s g => h O' σ' H' s (f.trans g)
    | br => exact fun O' σ' H' s g => h O' σ' H' s (f.trans g)
    | ct => exact fun O' σ' H' s g => h O' σ' H' s (f.trans g)
    | rt d => exact h
theorem SR.exW {d : Ws.D} (sr : SR X O0 O H σ ε) (h : ∀ dx v H', Same X.H_0 H' → H' dx = some (.xd [(atS, v)]) → Rp X.K O0 H' v d → Ek (.ref C) (some dx) H') : Ws.exW X.K C (WK Ek) O σ H d :=
  fun dx v H' s e r => h dx v H' (sr.sm.trans s) e (r.mv (sr.same s).fz0)
/-- through an expression -/
theorem sRes.rd {α : Type} {r : Rs α} {f : α → Rs (Fl × Env)} {k : α → Prop} (h : sRes X C O0 Ek O H D (r.bnd f)) (sr : SR X O0 O2 H2 σ ε) (g : ∀ a, r = .ok a → sRes X C O0 Ek O H D (f a) → k a) : Res X.K C (WK Ek) O2 σ H2 r k := by
  cases r with
  | ok a => exact g a rfl h
  | ex d => exact sr.exW h
  | st => exact h
/-- .. with all known elsewhere -/
theorem sRes.rdA {α : Type} {r : Rs α} {f : α → Rs (Fl × Env)} {k : α → Prop} (h : sRes X C O0 Ek O H D (r.bnd f)) (sr : SR X O0 O2 H2 σ ε) (g : ∀ a, r = .ok a → sRes X C O0 Ek O H D (f a) → k a) : Res X.K C (WK Ek) O0 σ H2 r k := by
  cases r with
  | ok a => exact g a rfl h
  | ex d => exact fun dx v H' s e r => h dx v H' (sr.sm.trans s) e r
  | st => exact h
end

/-- what a body's context gives -/
structure GS (c : Cfg) (φ : Nat → List D → Rs D) (C : Addr) (k : Nat) (X : Cx) (sc : Scope) (Ek : XK) : Prop where
  g : Good c φ C k X
  tk : Takes X (WK Ek)
  po : PassesOwn (model X.prog X.w) X.A X.env X.xe
  hs : X.env.scope = sc
  tg : TgOk X sc
  fn : X.env.scope.kind = .function

/-! ### places reused -/
theorem sw_no {e : Expr} {tg : Option Expr} {l : Nat} {env : PySem.Env} (h : noComp e = true) : swapsWith e tg l env = pure false := by
  cases e <;> first | (simp [noComp] at h; done) | rfl
theorem blockKind_fn {env : PySem.Env} (h : env.scope.kind = .function) : env.blockKind = .function := by unfold Env.blockKind; rw [h]; rfl
theorem sw_sub {e : Expr} {a i : Expr} {p : Pos} {l : Nat} {env : PySem.Env} : swapsWith e (some (.Subscript a i p)) l env = pure false := by cases e <;> rfl
theorem sw_tup {e : Expr} {ts : List Expr} {k : Nat} {p : Pos} {l : Nat} {env : PySem.Env} : swapsWith e (some (.Tuple ts k p)) l env = pure false := by cases e <;> rfl
theorem sw_name {e : Expr} {y : Str} {py : Pos} {l : Nat} {env : PySem.Env} {sc : Scope} (hs : env.scope = sc) (hk : env.scope.kind = .function) (h1 : ∀ a b c d f, e ≠ .DictComp a b c d f) (h2 : ∀ a b c d, e ≠ .SetComp a b c d) (h : inComp sc e y py = false) : swapsWith e (some (.Name y py)) l env = pure false := by
  cases e <;> first | rfl | exact absurd rfl (h1 _ _ _ _ _) | exact absurd rfl (h2 _ _ _ _) | skip
  rename_i elt gs s p
  unfold swapsWith
  have hb := blockKind_fn hk
  have ky : env.kindOf y = sc.names.lookup y := by rw [← hs]; rfl
  simp only [hb, ky, Expr.pos]
  have h : ((sc.names.lookup y == some .local) && (py.line == p.line) && !(s.names.any fun (n, k) => n == y && (k == .local || k == .cell))) = false := h
  simp only [beq_self_eq_true, Bool.true_and]
  rw [h]
theorem sw_key {ts vs : List Expr} {kk k2 : Nat} {tp p2 : Pos} {env : PySem.Env} : swappedStores [.Tuple ts kk tp] (.Tuple vs k2 p2) env =
    (if (!(ts.length == 2 || ts.length == 3) || vs.length != ts.length || env.blockKind != .function) = true then pure none else
     if (vs.any starV) = true then pure none else
     if ((ts.filterMap (nmS env.kindOf ((ts.head?.map (·.pos.line)).getD 0))).length != ts.length || (ts.filterMap (nmS env.kindOf ((ts.head?.map (·.pos.line)).getD 0))).eraseDups.length != (ts.filterMap (nmS env.kindOf ((ts.head?.map (·.pos.line)).getD 0))).length) = true then pure none else
     if (vs.all (foldedForSure 8)) = true then pure none else
     if (vs.all (constantsAlone 8)) = true then (do unsupported "assign.tuple-of-constant-expressions:order-of-the-stores"; pure (some (ts.filterMap (nmS env.kindOf ((ts.head?.map (·.pos.line)).getD 0))))) else pure (some (ts.filterMap (nmS env.kindOf ((ts.head?.map (·.pos.line)).getD 0))))) := rfl
theorem sw_st {ts : List Expr} {kk : Nat} {tp : Pos} {e : Expr} {env : PySem.Env} {sc : Scope} {r : Option (List Str)} (hs : env.scope = sc) (hk : env.scope.kind = .function) (h : swS sc ts e = some r) : swappedStores [.Tuple ts kk tp] e env = pure r := by
  have hb := blockKind_fn hk
  have ky : env.kindOf = fun y => sc.names.lookup y := by funext y; rw [← hs]; rfl
  cases e <;> first | (cases h; rfl) | skip
  rename_i vs k2 p2
  have h : swT (fun x => sc.names.lookup x) ts vs = some r := h
  rw [sw_key, hb, ky, bne_self_eq_false, Bool.or_false]
  unfold swT at h
  split at h
  · rename_i c1; cases h; rw [if_pos c1]
  rename_i c1
  rw [if_neg c1]
  split at h
  · rename_i c1; cases h; rw [if_pos c1]
  rename_i c1
  rw [if_neg c1]
  split at h
  · rename_i c1; cases h; rw [if_pos c1]
  rename_i c1
  rw [if_neg c1]
  split at h
  · rename_i c1; cases h; rw [if_pos c1]
  rename_i c1
  rw [if_neg c1]
  split at h
  · cases h
  rename_i c1
  cases h
  rw [if_neg c1]
end Ws

set_option Elab.async false
set_option linter.all false
set_option maxRecDepth 100000
set_option maxHeartbeats 4000000
/-! Sim18: each statement, from its parts -/
namespace Ws
open PySem PySem.Spec PyProof.Rows L2

theorem bnd_noex : (∀ (t : Pt) (d : D) (ε : Env), NoEx (bnd t d ε)) ∧ ∀ (ts : List Pt) (ds : List D) (ε : Env), NoEx (bnds ts ds ε) := by
  have nm : ∀ (i : Nat) (d : D) (ε : Env), NoEx (bnd (.nm i) d ε) := fun i d ε => by simp only [bnd]; exact NoEx.ok _
  have nil : ∀ (ds : List D) (ε : Env), NoEx (bnds [] ds ε) := fun ds ε => by cases ds <;> simp only [bnds] <;> first | exact NoEx.ok _ | exact NoEx.st
  have tp : ∀ (ps : List Pt), (∀ (ds : List D) (ε : Env), NoEx (bnds ps ds ε)) → ∀ (d : D) (ε : Env), NoEx (bnd (.tp ps) d ε) := fun ps ih d ε => by
    cases d <;> simp only [bnd] <;> first | exact NoEx.st | exact ih _ _
  have cons : ∀ (p : Pt) (ps : List Pt), (∀ (d : D) (ε : Env), NoEx (bnd p d ε)) → (∀ (ds : List D) (ε : Env), NoEx (bnds ps ds ε)) → ∀ (ds : List D) (ε : Env), NoEx (bnds (p :: ps) ds ε) := fun p ps ih1 ih2 ds ε => by
    cases ds with
    | nil => simp only [bnds]; exact NoEx.st
    | cons d ds => simp only [bnds]; exact (ih1 d ε).bnd fun _ => ih2 _ _
  exact ⟨fun t => Pt.rec (motive_1 := fun t => ∀ (d : D) (ε : Env), NoEx (bnd t d ε)) (motive_2 := fun ts => ∀ (ds : List D) (ε : Env), NoEx (bnds ts ds ε)) nm tp nil cons t,
    fun ts => Pt.rec_1 (motive_1 := fun t => ∀ (d : D) (ε : Env), NoEx (bnd t d ε)) (motive_2 := fun ts => ∀ (ds : List D) (ε : Env), NoEx (bnds ts ds ε)) nm tp nil cons ts⟩
section
variable {X : Cx} {φ : Nat → List D → Rs D} {C : Addr} {c : Cfg} {k : Nat} {sc : Scope} {O0 : Ow} {Ek : XK}
theorem sRes.ok_of {α : Type} {O : Ow} {H : Hp} {D : Ends} {r : Rs α} {f : α → Rs (Fl × Env)} (h : sRes X C O0 Ek O H D (r.bnd f)) (n : NoEx r) : ∃ a, r = .ok a ∧ sRes X C O0 Ek O H D (f a) := by
  cases r with
  | ok a => exact ⟨a, rfl, h⟩
  | ex d => exact absurd rfl (n d)
  | st => exact h.elim
theorem s_pass {pos : Pos} : PS X (.Pass pos) (tSt X C O0 Ek (exS φ .pass)) := psm ps_pass fun D σ H ⟨O, ε, sr, q⟩ => by
  simp only [exS] at q
  exact q O σ H sr (.refl _ _)
theorem s_doc {x : Str} {j : Nat} {p pos : Pos} : PS X (.Expr (.Constant (.str x) j p) pos) (tSt X C O0 Ek (exS φ .pass)) := psm ps_doc fun D σ H ⟨O, ε, sr, q⟩ => by
  simp only [exS] at q
  exact q O σ H sr (.refl _ _)
theorem s_brk {pos : Pos} : PS X (.Break pos) (tSt X C O0 Ek (exS φ .brk)) := psm ps_break fun D σ H ⟨O, ε, sr, q⟩ => by
  simp only [exS] at q
  exact q O σ H sr (.refl _ _)
theorem s_cont {pos : Pos} : PS X (.Continue pos) (tSt X C O0 Ek (exS φ .cont)) := psm ps_continue fun D σ H ⟨O, ε, sr, q⟩ => by
  simp only [exS] at q
  exact q O σ H sr (.refl _ _)
theorem s_stuck {st : Stmt} : PS X st (tSt X C O0 Ek (exS φ .stuck)) := ⟨fun _ _ _ _ _ _ ⟨O, ε, sr, q⟩ => by simp only [exS] at q; exact q.elim⟩
theorem s_retn {pos : Pos} : PS X (.Return none pos) (tSt X C O0 Ek (exS φ .retn)) := psm ps_retN fun D σ H ⟨O, ε, sr, q⟩ => by
  simp only [exS] at q
  exact q .non H sr.sm .non
theorem s_ret {e : Expr} {a : E} {pos : Pos} (he : PE X e ((tD X.K φ C (WK Ek)) a)) : PS X (.Return (some e) pos) (tSt X C O0 Ek (exS φ (.ret a))) := psm (ps_ret he) fun D σ H ⟨O, ε, sr, q⟩ => by
  simp only [exS] at q
  obtain ⟨er0, ot0⟩ := sr.all
  exact ⟨O0, ε.map frzS, er0, ot0, q.rdA sr fun d _ k v H' s r => k v H' (sr.sm.trans s) r⟩
theorem s_iff {e : Expr} {a : E} {p q : List Stmt} {p' q' : List S} {pos : Pos} (he : PT X e ((tT X.K φ C (WK Ek)) a)) (hp : PSs X p (tSt X C O0 Ek (exSs φ p'))) (hq : PSs X q (tSt X C O0 Ek (exSs φ q'))) : PS X (.If e p q pos) (tSt X C O0 Ek (exS φ (.iff a p' q'))) :=
  psm (ps_if he hp hq) fun D σ H ⟨O, ε, sr, q⟩ => by
    simp only [exS] at q
    obtain ⟨er0, ot0⟩ := sr.all
    refine ⟨O0, ε.map frzS, er0, ot0, q.rdA sr fun d _ k H' s => ?_⟩
    by_cases cc : truth d = true
    · rw [if_pos cc] at k ⊢
      exact ⟨O, ε, sr.same s, k.mono (.same s)⟩
    · rw [if_neg cc] at k ⊢
      exact ⟨O, ε, sr.same s, k.mono (.same s)⟩
/-- behind a value that goes into a target -/
theorem asg_end {O O1 : Ow} {H H1 : Hp} {D : Ends} {σ : L2.St} {ε : Env} {t : Pt} {d : Ws.D} {v : V} (sr : SR X O0 O1 H1 σ ε) (f : Fz O H O1 H1) (r : Rp X.K O1 H1 v d) (q : sRes X C O0 Ek O H D ((bnd t d ε).bnd fun ε' => .ok (.nx, ε'))) : gP X.K t v σ H1 D.nx := by
  obtain ⟨ε', h1, h2⟩ := q.ok_of (bnd_noex.1 t d ε)
  exact ⟨O1, d, ε, ε', r, h1, fun σ' er' w' => h2 O1 σ' H1 (sr.bnd h1 er' w') f⟩
theorem s_asg {tg e : Expr} {a : E} {t : Pt} {lk : List Nat} {pos : Pos} (he : PE X e ((tD X.K φ C (WK Ek)) a)) (hg : PG X tg (gP X.K t)) (hs : swapsWithSole [tg] e pos.line X.env = pure false) (hw : swappedStores [tg] e X.env = pure none) (h1 : (assignEach [tg] X.env).map (·.2) = [assign tg X.env]) :
    PS X (.Assign [tg] e pos) (tSt X C O0 Ek (exS φ (.asg t a false lk))) := psm (ps_asg he hg hs hw h1) fun D σ H ⟨O, ε, sr, q⟩ => by
  simp only [exS] at q
  obtain ⟨O1, sr1, f1⟩ := sr.frz lk
  refine ⟨O1, frzE ε lk, sr1.er, sr1.ot, q.rd sr1 fun d _ k v H1 s r => ?_⟩
  exact asg_end (sr1.same s) (f1.trans (.same s)) r k
/-- .. a new one goes into a name -/
theorem asgF_end {O O1 : Ow} {H H0 H1 : Hp} {D : Ends} {σ : L2.St} {ε : Env} {i : Nat} {d : Ws.D} {v : V} (sr : SR X O0 O1 H0 σ ε) (f : Fz O H O1 H0) (s : Same H0 H1) (r : Fr X.K O1 H0 H1 v d) (q : sRes X C O0 Ek O H D ((putF ε (.nm i) d true).bnd fun ε' => .ok (.nx, ε'))) : D.nx (σ.set i (some v)) H1 := by
  have plain : Rp X.K O1 H1 v d → (putF ε (.nm i) d true = .ok (put ε i d)) → D.nx (σ.set i (some v)) H1 := fun r e => by
    rw [e] at q
    exact q O1 _ H1 ((sr.same s).put r) (f.trans (.same s))
  have new : ((∃ ds, d = .list ds) ∨ ∃ ds, d = .dict ds) → (putF ε (.nm i) d true = .ok (puto ε i d)) → D.nx (σ.set i (some v)) H1 := fun hd e => by
    rw [e] at q
    obtain ⟨O', sr', f'⟩ := sr.newo s hd r
    exact q O' _ H1 sr' (f.trans f')
  cases d with
  | list ds => exact new (.inl ⟨_, rfl⟩) (by simp [putF])
  | dict ds => exact new (.inr ⟨_, rfl⟩) (by simp [putF])
  | none => exact plain r (by simp [putF, bnd])
  | bool b => exact plain r (by simp [putF, bnd])
  | int i => exact plain r (by simp [putF, bnd])
  | str x => exact plain r (by simp [putF, bnd])
  | tuple ds => exact plain r (by simp [putF, bnd])
theorem s_asgF {x : Str} {e : Expr} {a : E} {i : Nat} {lk : List Nat} {px pos : Pos} (hN : X.N.Nodup) (hi : X.N[i]? = some x) (hx : Loc X.env.scope x) (hf : X.fn x = true ∨ X.env.scope.names.lookup x = some .local) (he : PE X e ((tF X.K φ C (WK Ek)) a)) (hs : swapsWith e (some (.Name x px)) pos.line X.env = pure false) :
    PS X (.Assign [.Name x px] e pos) (tSt X C O0 Ek (exS φ (.asg (.nm i) a true lk))) := psm (ps_set hN hi hx he hs hf) fun D σ H ⟨O, ε, sr, q⟩ => by
  simp only [exS] at q
  obtain ⟨O1, sr1, f1⟩ := sr.frz lk
  refine ⟨O1, frzE ε lk, sr1.er, sr1.ot, q.rd sr1 fun d _ k v H1 s r => ?_⟩
  exact asgF_end sr1 f1 s r k
theorem s_drop {e : Expr} {a : E} {lk : List Nat} {pos : Pos} (he : PE X e ((tD X.K φ C (WK Ek)) a)) (hs : swapsWith e none pos.line X.env = pure false) : PS X (.Expr e pos) (tSt X C O0 Ek (exS φ (.drop a lk))) := psm (ps_expr he hs) fun D σ H ⟨O, ε, sr, q⟩ => by
  simp only [exS] at q
  obtain ⟨O1, sr1, f1⟩ := sr.frz lk
  refine ⟨O1, frzE ε lk, sr1.er, sr1.ot, q.rd sr1 fun d _ k v H1 s r => ?_⟩
  exact k O1 σ H1 (sr1.same s) (f1.trans (.same s))
theorem s_par {x y : Str} {a b : Expr} {a' b' : E} {i j : Nat} {lk : List Nat} {px py pt pos pt2 : Pos} {kt k2 : Nat} (hc : X.calm = true) (hN : X.N.Nodup) (hi : X.N[i]? = some x) (hj : X.N[j]? = some y) (hij : i ≠ j) (hx : X.env.scope.names.lookup x = some .local) (hy : X.env.scope.names.lookup y = some .local)
    (ha : PA X [a, b] ((tA X.K φ C (WK Ek)) [a', b'])) (hw : swappedStores [.Tuple [.Name x px, .Name y py] kt pt] (.Tuple [a, b] k2 pt2) X.env = pure (some [x, y])) :
    PS X (.Assign [.Tuple [.Name x px, .Name y py] kt pt] (.Tuple [a, b] k2 pt2) pos) (tSt X C O0 Ek (exS φ (.par i j a' b' lk))) := psm (ps_par hc hN hi hj hij hx hy ha hw (by rfl)) fun D σ H ⟨O, ε, sr, q⟩ => by
  simp only [exS] at q
  obtain ⟨O1, sr1, f1⟩ := sr.frz lk
  refine ⟨O1, frzE ε lk, sr1.er, sr1.ot, ?_⟩
  have q' : sRes X C O0 Ek O H D ((evs φ [a', b'] (frzE ε lk)).bnd fun ds => match ds with | [x, y] => .ok (.nx, put (put (frzE ε lk) i x) j y) | _ => .st) := by
    simp only [evs]
    cases e1 : ev φ a' (frzE ε lk) with
    | ok d1 =>
      rw [e1] at q
      simp only [Rs.bnd_ok] at q ⊢
      cases e2 : ev φ b' (frzE ε lk) with
      | ok d2 => rw [e2] at q; exact q
      | ex d2 => rw [e2] at q; exact q
      | st => rw [e2] at q; exact q
    | ex d1 => rw [e1] at q; exact q
    | st => rw [e1] at q; exact q
  refine q'.rd sr1 fun ds _ k vs H1 s r => ?_
  match ds, r, k with
  | [d1, d2], .cons r1 (.cons r2 .nil), k =>
    exact ⟨_, _, rfl, k O1 _ H1 (((sr1.same s).put r1).put r2) (f1.trans (.same s))⟩
  | [], .nil, k => exact k.elim
  | [_], .cons _ .nil, k => exact k.elim
  | _ :: _ :: _ :: _, .cons _ (.cons _ (.cons _ _)), k => exact k.elim
theorem s_aug {x : Str} {e : Expr} {a : E} {i : Nat} {o : Op2} {op : Operator} {f : Int → Int → Int} {px pos : Pos} (hN : X.N.Nodup) (hi : X.N[i]? = some x) (hx : Loc X.env.scope x) (hf : X.fn x = true ∨ X.env.scope.names.lookup x = some .local) (he : PE X e ((tW X.K φ C (WK Ek)) a)) (ho : PIp X op (ipI f))
    (hb : ∀ d1 d2 n, binD o d1 d2 = .ok (.int n) → ∃ i1 i2, d1 = .int i1 ∧ d2 = .int i2 ∧ n = f i1 i2) :
    PS X (.AugAssign (.Name x px) op e pos) (tSt X C O0 Ek (exS φ (.aug i o a []))) := psm (ps_aug hN hi hx he ho hf) fun D σ H ⟨O, ε, sr, q⟩ => by
  simp only [exS, frzE] at q
  have h0 : ∃ d, ev φ (.var i) ε = .ok d := by
    cases e1 : ev φ (.var i) ε with
    | ok d => exact ⟨d, rfl⟩
    | ex d => simp only [ev] at e1; split at e1 <;> cases e1
    | st => rw [e1] at q; exact q.elim
  obtain ⟨d1, e1⟩ := h0
  rw [e1] at q
  simp only [Rs.bnd_ok] at q
  have e1' := e1
  simp only [ev] at e1
  cases e0 : ε[i]? with
  | none => rw [e0] at e1; cases e1
  | some sl =>
    rw [e0] at e1
    cases sl <;> try (cases e1; done)
    rename_i dd
    injection e1 with e1
    subst e1
    obtain ⟨v, hv, rv⟩ := sr.er.2 i _ e0
    refine ⟨v, hv, O, ε, sr.er, sr.ot, q.rd sr fun d2 _ k w H1 s r => ?_⟩
    obtain ⟨z, hz, k⟩ := k.ok_of (binD_noex _ _ _)
    cases z <;> try exact k.elim
    rename_i n
    obtain ⟨i1, i2, rfl, rfl, rfl⟩ := hb _ _ _ hz
    cases rv
    cases intW r
    refine ⟨i1, i2, rfl, rfl, ?_⟩
    exact k O _ H1 ((sr.same s).put (.int _)) (.same s)
theorem own_of {O : Ow} {H : Hp} {D : Ends} {ε : Env} {i : Nat} {f : Ws.D → Rs (Fl × Env)} (q : sRes X C O0 Ek O H D ((own ε i).bnd f)) : ∃ d, ε[i]? = some (.o d) ∧ sRes X C O0 Ek O H D (f d) := by
  unfold own at q
  cases e : ε[i]? with
  | none => rw [e] at q; exact q.elim
  | some sl =>
    rw [e] at q
    cases sl with
    | u => exact q.elim
    | f d => exact q.elim
    | o d => exact ⟨d, rfl, q⟩
theorem ownRp {O : Ow} {H : Hp} {σ : L2.St} {ε : Env} {i : Nat} {d : Ws.D} (sr : SR X O0 O H σ ε) (e : ε[i]? = some (.o d)) : ∃ p, σ[i]? = some (some (.ref p)) ∧ O p = some i ∧ OwnAt X.K O H p d := by
  obtain ⟨p, h1, h2, h3, h4⟩ := sr.ow i d e
  exact ⟨p, h1, h2, h4⟩
theorem s_app {x : Str} {e : Expr} {a : E} {i : Nat} {lk : List Nat} {px ap cp pos : Pos} (hi : X.N[i]? = some x) (hv : Vis X.env.scope x) (hd : (x == ("__debug__" : Str)) = false) (hcd : (x == ("__classdict__" : Str)) = false) (he : PE X e ((tD X.K φ C (WK Ek)) a)) (hl : lone e = true) (hline : (ap.endLine == cp.line) = true) :
    PS X (.Expr (.Call (.Attribute (.Name x px) "append" ap) [e] [] cp) pos) (tSt X C O0 Ek (exS φ (.app i a lk))) := by
  have hs1 : starEach [e] X.env = (false, eval e X.env) :: starEach [] X.env := starCons hl
  have hfew : ((backTo cp (starEach [e] X.env)).all (fun x => !x.1) && (backToKw cp (keywordEach [] X.env)).all (fun x => x.1.isSome)
      && decide ([e].length + ([] : List Keyword).length + (if ([] : List Keyword).isEmpty then 0 else 1) < 30)) = true := by
    rw [hs1]; rfl
  refine psm (ps_expr (pe_bm (cpos := cp) PySem.F.plainAttrs_list PySem.F.slot_list_append PySem.F.type_list_append mt_append (pe_var hi hv hd hcd) (pa_cons he pa_nil hs1) (by rfl) hfew hline hs1 (by rfl)) (by rfl)) fun D σ H ⟨O, ε, sr, q⟩ => ?_
  simp only [exS] at q
  obtain ⟨O1, sr1, f1⟩ := sr.frz lk
  obtain ⟨d, hd, q⟩ := own_of q
  obtain ⟨p, hp, hO, how⟩ := ownRp sr1 hd
  obtain ⟨ds, hx, q2⟩ := q.ok_of (r := lstD d) (by cases d <;> first | exact NoEx.ok _ | exact NoEx.st)
  clear q
  have hx : d = .list ds := by cases d <;> first | (cases hx; done) | (cases hx; rfl)
  subst hx
  obtain ⟨ys, hH, z, rs⟩ := how
  refine ⟨_, hp, .inl ⟨rfl, ys, .inl (.inl hH)⟩, ?_⟩
  refine ⟨O1, frzE ε lk, sr1.er, sr1.ot, q2.rd sr1 fun v _ k w H1 s r => ?_⟩
  by_cases lt : ds.length < LIM
  · rw [if_pos lt] at k
    rw [← rs.length, lim_line] at lt
    refine ⟨_, ys, w, rfl, rfl, s _ _ hH, lt, ?_⟩
    have sr2 := sr1.same s
    have f2 : Fz O1 H1 O1 (upd H1 p (.lst (ys ++ [w]))) := fzOwn hO (s _ _ hH) (.inl ⟨_, rfl⟩)
    obtain ⟨sr3, f3⟩ := sr2.chg (d' := .list (ds ++ [v])) (o := .lst (ys ++ [w])) hd hp ⟨_, upd_same, by rw [List.length_append]; simp; omega, (((rs.same s).app (.cons r .nil)).mv f2)⟩
    exact k O1 σ _ sr3 ((f1.trans (.same s)).trans f3)
  · rw [if_neg lt] at k; exact k.elim
def sPut (td ty tv : TE) : TS := fun D σ H => tv σ H fun v H1 => td σ H1 fun x H2 => ty σ H2 fun y H3 => ∃ a, x = .ref a ∧ ((∃ H4, DPut H3 a y v H4 ∧ D.nx σ H4) ∨ rSetL (.ref a) y v H3 fun H4 => D.nx σ H4)
theorem ps_put {o i value : Expr} {pos pos' : Pos} {td ty tv : TE} (hu : X.A.units + 1 < cLine) (ho : PE X o td) (hi : PE X i ty) (hv : PE X value tv) (hs : swapsWith value (some (.Subscript o i pos')) pos.line X.env = pure false) :
    PS X (.Assign [.Subscript o i pos'] value pos) (sPut td ty tv) := by
  refine ⟨fun pins s σ H D I h => ?_⟩
  refine wpAny_Assign_Subscript (thn (hv.run pins s σ H _ I h) fun r s1 ⟨v, H1, I1, rv, q1⟩ => thn (ho.run pins s1 σ H1 _ I1 q1) fun u s2 ⟨x, H2, I2, rx, q2⟩ => thn (hi.run pins s2 σ H2 _ I2 q2) fun iv s3 ⟨y, H3, I3, ry, a, ex, g⟩ => ?_) hs
  subst ex
  obtain rfl : u = Value.ref a := rx
  rcases g with ⟨H4, g, q3⟩ | g
  · exact d_setItem hu I3 g ry rv fun s4 I4 => ⟨σ, H4, I4, q3⟩
  · exact thn (set_list pins s3 σ H3 (V.ref a) y v (Value.ref a) iv r _ I3 (show RelV (V.ref a) (Value.ref a) from rfl) ry rv g) fun _ s4 ⟨H4, I4, q4⟩ => ⟨σ, H4, I4, q4⟩
theorem setD_noex (d k v : Ws.D) : NoEx (setD d k v) := by
  unfold setD
  split
  · exact (NoEx.of _).bnd fun _ => (NoEx.of _).bnd fun _ => NoEx.ok _
  · split
    · exact NoEx.ite (NoEx.ok _) NoEx.st
    · exact NoEx.st
  · exact NoEx.st
theorem keyRp {K : PySem.W.Frag} {O : Ow} {H : Hp} {y : V} {kk : Key} (h : RpW K O H y (keyD kk)) : y = kV kk := by
  cases kk with
  | inl i => exact intW h
  | inr x => exact (strW h).1
theorem s_seti {x : Str} {ix e : Expr} {a b : E} {i : Nat} {lk : List Nat} {px pp pos : Pos} (hu : X.A.units + 65 < cLine) (hi : X.N[i]? = some x) (hv : Vis X.env.scope x) (hd : (x == ("__debug__" : Str)) = false) (hcd : (x == ("__classdict__" : Str)) = false) (hk : PE X ix ((tW X.K φ C (WK Ek)) a)) (he : PE X e ((tD X.K φ C (WK Ek)) b))
    (hs : swapsWith e (some (.Subscript (.Name x px) ix pp)) pos.line X.env = pure false) : PS X (.Assign [.Subscript (.Name x px) ix pp] e pos) (tSt X C O0 Ek (exS φ (.seti i a b lk))) := by
  refine psm (ps_put (by omega) (pe_var hi hv hd hcd) hk he hs) fun D σ H ⟨O, ε, sr, q⟩ => ?_
  simp only [exS] at q
  obtain ⟨O1, sr1, f1⟩ := sr.frz lk
  refine ⟨O1, frzE ε lk, sr1.er, sr1.ot, q.rd sr1 fun v _ q w H1 s r => ?_⟩
  have sr2 := sr1.same s
  obtain ⟨d, hd, q⟩ := own_of q
  obtain ⟨p, hp, hO, how⟩ := ownRp sr2 hd
  refine ⟨_, hp, O1, frzE ε lk, sr2.er, sr2.ot, q.rd sr2 fun kd _ q y H2 s2 ry => ?_⟩
  have sr3 := sr2.same s2
  obtain ⟨d', hset, q⟩ := q.ok_of (setD_noex _ _ _)
  have how := how.same s2
  refine ⟨p, rfl, ?_⟩
  rcases (show (∃ ds, d = .list ds) ∨ ∃ ds, d = .dict ds from by cases d <;> first | exact .inl ⟨_, rfl⟩ | exact .inr ⟨_, rfl⟩ | exact how.elim) with ⟨ds, rfl⟩ | ⟨ds, rfl⟩
  · -- a list
    obtain ⟨ys, hH, z, rs⟩ := how
    simp only [setD] at hset
    obtain ⟨i0, rfl⟩ : ∃ i0, kd = .int i0 := by cases kd <;> first | (cases hset; done) | exact ⟨_, rfl⟩
    obtain ⟨m, hm, hset2⟩ := Rs.bnd_of (show (Rs.of (ixN ds.length i0)).bnd _ = _ from hset)
    cases intW ry
    have hset2 : Rs.ok (PyData.list (ds.set m v)) = Rs.ok d' := hset2
    injection hset2 with hset2
    subst hset2
    have hm' : ixN ys.length i0 = some m := by
      rw [rs.length]
      cases e : ixN ds.length i0 with
      | none => rw [e] at hm; cases hm
      | some m' => rw [e] at hm; cases hm; rfl
    refine .inr ⟨p, ys, i0, m, rfl, rfl, hH, hm', ?_⟩
    have f2 : Fz O1 H2 O1 (upd H2 p (.lst (ys.set m w))) := fzOwn hO hH (.inl ⟨_, rfl⟩)
    obtain ⟨sr4, f3⟩ := sr3.chg (d' := .list (ds.set m v)) (o := .lst (ys.set m w)) hd hp ⟨_, upd_same, by rw [List.length_set]; exact z, (rs.set (r.same s2) m).mv f2⟩
    exact q O1 σ _ sr4 (((f1.trans (.same s)).trans (.same s2)).trans f3)
  · -- a dict
    obtain ⟨vs, hH, rs⟩ := how
    simp only [setD] at hset
    cases hk : keyOf kd with
    | none => rw [hk] at hset; cases hset
    | some kk =>
      rw [hk] at hset
      have ek := keyOf_inv hk
      subst ek
      simp only at hset
      by_cases lt : ds.length < LIM
      · rw [if_pos lt] at hset
        injection hset with hset
        subst hset
        rw [← rs.length, lim_line] at lt
        have ey := keyRp ry
        subst ey
        refine .inl ⟨_, DPut.k hH lt, ?_⟩
        have f2 : Fz O1 H2 O1 (upd H2 p (.dK (putK vs kk w))) := fzOwn hO hH (.inr ⟨_, rfl⟩)
        obtain ⟨sr4, f3⟩ := sr3.chg (d' := .dict (putD ds (keyD kk) v)) (o := .dK (putK vs kk w)) hd hp ⟨_, upd_same, (rs.put (r.same s2)).mv f2⟩
        exact q O1 σ _ sr4 (((f1.trans (.same s)).trans (.same s2)).trans f3)
      · rw [if_neg lt] at hset; cases hset
end
end Ws

set_option Elab.async false
set_option linter.all false
set_option maxRecDepth 100000
set_option maxHeartbeats 4000000
/-! Sim19: loops; the pure language says what the text does: statements -/
namespace Ws
open PySem PySem.Spec PyProof.Rows L2

theorem Rs.bnd_assoc {α β γ : Type} (r : Rs α) (f : α → Rs β) (g : β → Rs γ) : (r.bnd f).bnd g = r.bnd fun x => (f x).bnd g := by cases r <;> rfl
section
variable {X : Cx} {φ : Nat → List D → Rs D} {C : Addr} {c : Cfg} {k : Nat} {sc : Scope} {O0 : Ow} {Ek : XK}
theorem s_for (po : PassesOwn (model X.prog X.w) X.A X.env X.xe) (hc : X.calm = true) {tg it : Expr} {body : List Stmt} {t : Pt} {it' : It} {body' : List S} {lk : List Nat} {pos : Pos} (hi : PI X tg it (tI true X.K φ C (WK Ek) it')) (hg : PG X tg (gP X.K t)) (hb : PSs X body (tSt X C O0 Ek (exSs φ body')))
    (hs : ∀ x, foldedSetIterable it X.env x = pure x) : PS X (.For tg it body [] pos) (tSt X C O0 Ek (exS φ (.for_ t it' body' lk))) := psm (ps_for po hc hi hg hb hs) fun D σ H ⟨O, ε, sr, q⟩ => by
  simp only [exS] at q
  obtain ⟨O1, sr1, f1⟩ := sr.frz lk
  refine ⟨O1, frzE ε lk, sr1.er, sr1.ot, q.rd sr1 fun ds _ q J H1 s1 hz wk => ?_⟩
  revert q
  generalize hst : (fun x ε' => (bnd t x ε').bnd fun ε'' => exSs φ body' ε'') = step
  intro q
  have sr2 := sr1.same s1
  have q := q.mono (f1.trans (.same s1))
  refine ⟨fun i m σ' H' => m = ds.length - i ∧ i ≤ ds.length ∧ ∃ O' ε', SR X O0 O' H' σ' ε' ∧ Fz O1 H1 O' H' ∧ sRes X C O0 Ek O' H' D (exFor step (ds.drop i) ε'),
    ⟨ds.length, by simp, Nat.zero_le _, O1, frzE ε lk, sr2, .refl _ _, by simpa using q⟩, ?_⟩
  rintro i m σ' H' ⟨rfl, hi, O', ε', sr', f', q'⟩
  have w := wk O' H' (fun z => by cases z) f'
  by_cases lt : i < ds.length
  · have hd : ds[i]? = some ds[i] := List.getElem?_eq_getElem lt
    rw [drop_cons hd] at q'
    simp only [exFor] at q'
    refine .inr ⟨w.go i _ hd, fun σ' H' => i + 1 ≤ ds.length ∧ ∃ O' ε', SR X O0 O' H' σ' ε' ∧ Fz O1 H1 O' H' ∧ sRes X C O0 Ek O' H' D (exFor step (ds.drop (i + 1)) ε'), fun σ2 H2 hN => ⟨ds.length - (i + 1), by omega, rfl, hN⟩, fun x H2 y => ?_⟩
    obtain ⟨e, rx⟩ := w.yld i _ x H2 hd y
    subst e
    rw [← hst] at q'
    simp only [Rs.bnd_assoc] at q'
    rw [hst] at q'
    obtain ⟨ε2, hb2, q2⟩ := q'.ok_of (bnd_noex.1 t ds[i] ε')
    refine ⟨O', ds[i], ε', ε2, rx, hb2, fun σ2 er2 w2 => ⟨O', ε2, sr'.bnd hb2 er2 w2, ?_⟩⟩
    cases e3 : exSs φ body' ε2 with
    | ex d => rw [e3] at q2; exact q2
    | st => rw [e3] at q2; exact q2
    | ok p =>
      obtain ⟨fl, ε3⟩ := p
      rw [e3] at q2
      cases fl with
      | nx => exact fun O4 σ4 H4 s4 f4 => ⟨lt, O4, ε3, s4, f'.trans f4, sRes.mono q2 f4⟩
      | ct => exact fun O4 σ4 H4 s4 f4 => ⟨lt, O4, ε3, s4, f'.trans f4, sRes.mono q2 f4⟩
      | br => exact q2
      | rt d => exact q2
  · have e : i = ds.length := by omega
    subst e
    rw [List.drop_length] at q'
    simp only [exFor] at q'
    exact .inl ⟨w.stop, q' O' σ' H' sr' (.refl _ _)⟩
theorem s_while (po : PassesOwn (model X.prog X.w) X.A X.env X.xe) {e : Expr} {a : E} {body : List Stmt} {body' : List S} {pos : Pos} (he : PT X e (tT X.K φ C (WK Ek) a)) (hb : PSs X body (tSt X C O0 Ek (exSs φ body'))) :
    PS X (.While e body [] pos) (tSt X C O0 Ek (exS φ (.whil a body'))) := psm (ps_while po he hb) fun D σ H ⟨O, ε, sr, q⟩ => by
  simp only [exS] at q
  generalize WH = n0 at q
  refine ⟨fun m σ' H' => ∃ O' ε', SR X O0 O' H' σ' ε' ∧ sRes X C O0 Ek O' H' D (exWh (fun ε' => (ev φ a (ε'.map frzS)).bnd fun x => .ok (truth x)) (fun ε' => exSs φ body' ε') m ε'), ⟨n0, O, ε, sr, q⟩, ?_⟩
  rintro m σ' H' ⟨O', ε', sr', q'⟩
  cases m with
  | zero => simp only [exWh] at q'; exact q'.elim
  | succ m =>
    simp only [exWh, Rs.bnd_assoc, Rs.bnd_ok] at q'
    obtain ⟨er0, ot0⟩ := sr'.all
    refine ⟨O0, ε'.map frzS, er0, ot0, q'.rdA sr' fun d _ k H1 s => ?_⟩
    by_cases cc : truth d = true
    · rw [if_pos cc] at k ⊢
      refine ⟨fun σ' H' => ∃ O' ε', SR X O0 O' H' σ' ε' ∧ sRes X C O0 Ek O' H' D (exWh (fun ε' => (ev φ a (ε'.map frzS)).bnd fun x => .ok (truth x)) (fun ε' => exSs φ body' ε') m ε'), fun σ2 H2 hN => ⟨m, Nat.lt_succ_self m, hN⟩, O', ε', sr'.same s, ?_⟩
      have k := k.mono (.same s)
      cases e3 : exSs φ body' ε' with
      | ex d => rw [e3] at k; exact k
      | st => rw [e3] at k; exact k
      | ok p =>
        obtain ⟨fl, ε3⟩ := p
        rw [e3] at k
        cases fl with
        | nx => exact fun O4 σ4 H4 s4 f4 => ⟨O4, ε3, s4, sRes.mono k f4⟩
        | ct => exact fun O4 σ4 H4 s4 f4 => ⟨O4, ε3, s4, sRes.mono k f4⟩
        | br => exact k
        | rt d => exact k
    · rw [if_neg cc] at k ⊢
      exact k O' σ' H1 (sr'.same s) (.same s)

structure SM (c : Cfg) (φ : Nat → List D → Rs D) (C : Addr) (k n : Nat) : Prop where
  s : ∀ {X : Cx} {sc : Scope} {O0 : Ow} {Ek : XK} {st : Stmt} {a : S}, GS c φ C k X sc Ek → compS c sc n st = some a → PS X st (tSt X C O0 Ek (exS φ a))
  ss : ∀ {X : Cx} {sc : Scope} {O0 : Ow} {Ek : XK} {sts : List Stmt} {as : List S}, GS c φ C k X sc Ek → compSs c sc n sts = some as → PSs X sts (tSt X C O0 Ek (exSs φ as))
theorem sm_ss {n : Nat} (ih : SM c φ C k n) (g : GS c φ C k X sc Ek) {sts : List Stmt} {as : List S} (h : compSs c sc (n + 1) sts = some as) : PSs X sts (tSt X C O0 Ek (exSs φ as)) := by
  unfold compSs at h
  split at h
  · cases h
  · cases h
    exact pssm pss_nil fun D σ H ⟨O, ε, sr, q⟩ => by
      simp only [exSs] at q
      exact q O σ H sr (.refl _ _)
  · rename_i nn st sts hn
    cases hn
    obtain ⟨a, h1, h⟩ := bndO h
    obtain ⟨as, h2, h⟩ := bndO h
    cases h
    refine pssm (pss_cons (ih.s (O0 := O0) g h1) (ih.ss (O0 := O0) g h2)) fun D σ H ⟨O, ε, sr, q⟩ => ⟨O, ε, sr, ?_⟩
    simp only [exSs] at q
    cases e3 : exS φ a ε with
    | ex d => rw [e3] at q; exact q
    | st => rw [e3] at q; exact q
    | ok p =>
      obtain ⟨fl, ε3⟩ := p
      rw [e3] at q
      cases fl with
      | nx => exact fun O4 σ4 H4 s4 f4 => ⟨O4, ε3, s4, sRes.mono q f4⟩
      | ct => exact q
      | br => exact q
      | rt d => exact q
theorem loc_of {x : Str} (g : GS c φ C k X sc Ek) (h : sc.names.lookup x = some .local ∨ sc.names.lookup x = some .cell) : Loc X.env.scope x ∧ (X.fn x = true ∨ X.env.scope.names.lookup x = some .local) := by
  rcases h with h | h
  · have := (g.tg x).1 h
    exact ⟨.inl this, .inr this⟩
  · obtain ⟨h1, h2⟩ := (g.tg x).2 h
    exact ⟨.inr h1, .inl h2⟩
theorem nm_of {n : Nat} {y : Str} {p : Pos} {t : Pt} (h : compT c sc n (.Name y p) = some t) : ∃ i, t = .nm i ∧ slotIx c.N y = some i ∧ (sc.names.lookup y = some .local ∨ sc.names.lookup y = some .cell) := by
  cases n with
  | zero => simp [compT] at h
  | succ n =>
    simp only [compT] at h
    split at h
    · rename_i e
      cases hs : slotIx c.N y with
      | none => rw [hs] at h; cases h
      | some i => rw [hs] at h; cases h; exact ⟨i, rfl, rfl, .inl e⟩
    · rename_i e
      cases hs : slotIx c.N y with
      | none => rw [hs] at h; cases h
      | some i => rw [hs] at h; cases h; exact ⟨i, rfl, rfl, .inr e⟩
    · cases h
theorem inComp_of {elt : Expr} {gs : List Comprehension} {scope : Scope} {p py : Pos} {y : Str} (h : inComp sc (.ListComp elt gs scope p) y py = true) : sc.names.lookup y = some .local ∧ (py.line == p.line) = true ∧ (scope.names.any fun (n, k) => n == y && (k == .local || k == .cell)) = false := by
  have h : ((sc.names.lookup y == some .local) && (py.line == p.line) && !(scope.names.any fun (n, k) => n == y && (k == .local || k == .cell))) = true := h
  simp only [Bool.and_eq_true, Bool.not_eq_true'] at h
  exact ⟨by simpa using h.1.1, h.1.2, h.2⟩
theorem lc_of {m : Nat} {elt tg iter : Expr} {ifs : List Expr} {scope : Scope} {p : Pos} {x : E} (h : compE c (m + 1) sc (.ListComp elt [⟨tg, iter, ifs, 0⟩] scope p) = some x) : ∃ it t x1 cd, compI c m sc true iter = some it ∧ compT c scope m tg = some t ∧ compE c m (relS scope sc) elt = some x1 ∧ compC c m (relS scope sc) ifs = some cd ∧
    t.isin ((ownOf c.N scope).map (·.2)) = true ∧ blkC c.N sc scope (ownOf c.N scope) = true ∧ x = .lc ((ownOf c.N scope).map (·.2)) x1 t it cd := by
  unfold compE at h
  simp only at h
  split at h
  · rename_i hb
    obtain ⟨it, h1, h⟩ := bndO h
    obtain ⟨t, h2, h⟩ := bndO h
    obtain ⟨x1, h3, h⟩ := bndO h
    obtain ⟨cd, h4, h⟩ := bndO h
    split at h
    · rename_i hin
      cases h
      exact ⟨it, t, x1, cd, h1, h2, h3, h4, hin, hb, rfl⟩
    · cases h
  · cases h
theorem lc2_of {m : Nat} {elt tg iter tg1 iter1 : Expr} {ifs ifs1 : List Expr} {scope : Scope} {p : Pos} {x : E} (h : compE c (m + 1) sc (.ListComp elt [⟨tg, iter, ifs, 0⟩, ⟨tg1, iter1, ifs1, 0⟩] scope p) = some x) : ∃ it t x1 cd it1 t1 cd1, compI c m sc true iter = some it ∧ compT c scope m tg = some t ∧ compE c m (relS scope sc) elt = some x1 ∧ compC c m (relS scope sc) ifs = some cd ∧
    compI c m (relS scope sc) false iter1 = some it1 ∧ compT c scope m tg1 = some t1 ∧ compC c m (relS scope sc) ifs1 = some cd1 ∧ t.isin ((ownOf c.N scope).map (·.2)) = true ∧ t1.isin ((ownOf c.N scope).map (·.2)) = true ∧ blkC c.N sc scope (ownOf c.N scope) = true ∧ x = .lc2 ((ownOf c.N scope).map (·.2)) t1.sl x1 t it cd t1 it1 cd1 := by
  unfold compE at h
  simp only at h
  split at h
  · rename_i hb
    obtain ⟨it, h1, h⟩ := bndO h
    obtain ⟨t, h2, h⟩ := bndO h
    obtain ⟨cd, h4, h⟩ := bndO h
    obtain ⟨it1, h5, h⟩ := bndO h
    obtain ⟨t1, h6, h⟩ := bndO h
    obtain ⟨cd1, h7, h⟩ := bndO h
    obtain ⟨x1, h3, h⟩ := bndO h
    split at h
    · rename_i hin
      simp only [Bool.and_eq_true] at hin
      cases h
      exact ⟨it, t, x1, cd, it1, t1, cd1, h1, h2, h3, h4, h5, h6, h7, hin.1, hin.2, hb, rfl⟩
    · cases h
  · cases h
theorem sm_s {n : Nat} (ih : SM c φ C k n) (g : GS c φ C k X sc Ek) {st : Stmt} {a : S} (h : compS c sc (n + 1) st = some a) : PS X st (tSt X C O0 Ek (exS φ a)) := by
  have E0 := sn (c := c) (φ := φ) (C := C) (k := k) n
  unfold compS at h
  split at h
  · cases h; exact s_pass
  · cases h; exact s_brk
  · cases h; exact s_cont
  · cases h; exact s_retn
  · obtain ⟨x, h1, h⟩ := bndO h
    cases h
    exact s_ret (E0.e g.g g.tk g.hs h1).d
  · obtain ⟨x, h1, h⟩ := bndO h
    obtain ⟨p, h2, h⟩ := bndO h
    obtain ⟨q, h3, h⟩ := bndO h
    cases h
    exact s_iff (E0.e g.g g.tk g.hs h1).t (ih.ss g h2) (ih.ss g h3)
  · obtain ⟨i, h1, h⟩ := bndO h
    obtain ⟨t, h2, h⟩ := bndO h
    obtain ⟨b, h3, h⟩ := bndO h
    cases h
    obtain ⟨i1, i2⟩ := E0.i g.g g.tk g.hs h1
    exact s_for g.po g.g.calm (i1 _) (pg_sound g.g.hN g.g.nd g.g.calm g.tg n _ t h2) (ih.ss g h3) (i2 _)
  · obtain ⟨x, h1, h⟩ := bndO h
    obtain ⟨b, h3, h⟩ := bndO h
    cases h
    exact s_while g.po (E0.e g.g g.tk g.hs h1).t (ih.ss g h3)
  · -- x[i] = e
    split at h
    · rename_i cnd
      simp only [Bool.and_eq_true, decide_eq_true_eq] at cnd
      obtain ⟨i, h1, h⟩ := bndO h
      obtain ⟨kx, h2, h⟩ := bndO h
      obtain ⟨v, h3, h⟩ := bndO h
      cases h
      obtain ⟨q1, q2⟩ := slot_of g.g.hN g.hs h1
      exact s_seti g.g.hu q1 q2 (by simpa using cnd.1.2) (by simpa using cnd.2) (E0.e g.g g.tk g.hs h2).w (E0.e g.g g.tk g.hs h3).d sw_sub
    · cases h
  · -- y = e
    rename_i y py e pos
    split at h
    · rename_i hic
      split at h
      · rename_i elt tg iter ifs scope p2
        obtain ⟨x, h1, h⟩ := bndO h
        obtain ⟨i, hi, h⟩ := bndO h
        cases h
        obtain ⟨ic1, ic2, ic3⟩ := inComp_of hic
        cases n with
        | zero => simp [compE] at h1
        | succ m =>
          obtain ⟨it, t, x1, cd, k1, k2, k3, k4, k5, hb, rfl⟩ := lc_of h1
          have E1 := sn (c := c) (φ := φ) (C := C) (k := k) m
          obtain ⟨i1, i2⟩ := E1.i g.g g.tk g.hs k1
          have ok : BlkOk X.N X.env.scope scope (ownOf c.N scope) := by rw [g.g.hN, g.hs]; exact blkOk_by hb
          have blk : ∀ (s : Shared) (H : Hp) (Cc : Addr) (cl : List (Str × Addr)) (fp : List Addr), Good c φ C k (X.blk s H scope (compEnvC scope cl Cc X.env) fp) := fun s H Cc cl fp => g.g.blk s H scope _ fp
          have hsc : ∀ (s : Shared) (H : Hp) (Cc : Addr) (cl : List (Str × Addr)) (fp : List Addr), (X.blk s H scope (compEnvC scope cl Cc X.env) fp).env.scope = relS scope sc := fun s H Cc cl fp => by rw [← g.hs]; rfl
          refine psm (ps_setLc (i := i) (g := gP X.K t) (te := tD X.K φ C W0 x1) (tt := tC X.K φ C W0 cd) g.g.calm g.g.nd (by rw [g.g.hN]; exact slotIx_get hi) (by rw [g.hs]; exact ic1) (sw_true g.fn (by rw [g.hs]; exact ic1) ic2 ic3) (i1 _) ok
            (fun s H Cc cl fp => pg_sound (X := X.blk s H scope (compEnvC scope cl Cc X.env) fp) (c := c) g.g.hN g.g.nd g.g.calm (relS_tg s H Cc cl fp rfl) m _ t k2) (fun s H Cc cl fp => E1.cd (blk s H Cc cl fp) takes0 (hsc s H Cc cl fp) k4) (fun s H Cc cl fp => (E1.e (blk s H Cc cl fp) takes0 (hsc s H Cc cl fp) k3).d) (i2 _)) fun D σ H ⟨O, ε, sr, q⟩ => ?_
          simp only [exS] at q
          obtain ⟨O1, sr1, f1⟩ := sr.frz (E.lc ((ownOf c.N scope).map (·.2)) x1 t it cd).sv
          exact lc_rd k5 ⟨O1, _, sr1.er, sr1.ot, q.rd sr1 fun d _ k v H1 s r => asgF_end sr1 f1 s r k⟩
      · rename_i elt tg iter ifs tg1 iter1 ifs1 scope p2
        obtain ⟨x, h1, h⟩ := bndO h
        obtain ⟨i, hi, h⟩ := bndO h
        cases h
        obtain ⟨ic1, ic2, ic3⟩ := inComp_of hic
        cases n with
        | zero => simp [compE] at h1
        | succ m =>
          obtain ⟨it, t, x1, cd, it1, t1, cd1, k1, k2, k3, k4, k5, k6, k7, k8, k9, hb, rfl⟩ := lc2_of h1
          have E1 := sn (c := c) (φ := φ) (C := C) (k := k) m
          obtain ⟨i1, i2⟩ := E1.i g.g g.tk g.hs k1
          have ok : BlkOk X.N X.env.scope scope (ownOf c.N scope) := by rw [g.g.hN, g.hs]; exact blkOk_by hb
          have blk : ∀ (s : Shared) (H : Hp) (Cc : Addr) (cl : List (Str × Addr)) (fp : List Addr), Good c φ C k (X.blk s H scope (compEnvC scope cl Cc X.env) fp) := fun s H Cc cl fp => g.g.blk s H scope _ fp
          have hsc : ∀ (s : Shared) (H : Hp) (Cc : Addr) (cl : List (Str × Addr)) (fp : List Addr), (X.blk s H scope (compEnvC scope cl Cc X.env) fp).env.scope = relS scope sc := fun s H Cc cl fp => by rw [← g.hs]; rfl
          have tgx : ∀ (s : Shared) (H : Hp) (Cc : Addr) (cl : List (Str × Addr)) (fp : List Addr) (tg : Expr) (t : Pt), compT c scope m tg = some t → PG (X.blk s H scope (compEnvC scope cl Cc X.env) fp) tg (gP X.K t) := fun s H Cc cl fp tg t z => pg_sound (X := X.blk s H scope (compEnvC scope cl Cc X.env) fp) (c := c) g.g.hN g.g.nd g.g.calm (relS_tg s H Cc cl fp rfl) m _ t z
          refine psm (ps_setLc2 (i := i) (vs1 := t1.sl) (g := gP X.K t) (g1 := gP X.K t1) (te := tD X.K φ C W0 x1) (tt := tC X.K φ C W0 cd) (tt1 := tC X.K φ C W0 cd1) (wi1 := tI true X.K φ C W0 it1) g.g.calm g.g.nd (by rw [g.g.hN]; exact slotIx_get hi) (by rw [g.hs]; exact ic1) (sw_true g.fn (by rw [g.hs]; exact ic1) ic2 ic3) (i1 _) ok (isin_of k9)
            (fun s H Cc cl fp => tgx s H Cc cl fp _ _ k2) (fun s H Cc cl fp => E1.cd (blk s H Cc cl fp) takes0 (hsc s H Cc cl fp) k4)
            (fun s H Cc cl fp => (E1.i (blk s H Cc cl fp) takes0 (hsc s H Cc cl fp) k5).1 _) (fun s H Cc cl fp => tgx s H Cc cl fp _ _ k6) (fun s H Cc cl fp => E1.cd (blk s H Cc cl fp) takes0 (hsc s H Cc cl fp) k7)
            (fun s H Cc cl fp => (E1.e (blk s H Cc cl fp) takes0 (hsc s H Cc cl fp) k3).d) (i2 _) (compI_fold k5)) fun D σ H ⟨O, ε, sr, q⟩ => ?_
          simp only [exS] at q
          obtain ⟨O1, sr1, f1⟩ := sr.frz (E.lc2 ((ownOf c.N scope).map (·.2)) t1.sl x1 t it cd t1 it1 cd1).sv
          exact lc2_rd k8 k9 ⟨O1, _, sr1.er, sr1.ot, q.rd sr1 fun d _ k v H1 s r => asgF_end sr1 f1 s r k⟩
      · cases h
    · rename_i hic
      have hic := (Bool.not_eq_true _).mp hic
      split at h
      · cases h
      · cases h
      · rename_i n1 n2
        obtain ⟨x, h1, h⟩ := bndO h
        obtain ⟨t, h2, h⟩ := bndO h
        obtain ⟨i, rfl, hi, hl⟩ := nm_of h2
        obtain ⟨l1, l2⟩ := loc_of g hl
        have se := E0.e g.g g.tk g.hs h1
        have sw : swapsWith e (some (.Name y py)) pos.line X.env = pure false := sw_name g.hs g.fn (fun a b c d f z => n1 a b c d f z) (fun a b c d z => n2 a b c d z) hic
        injection h with h
        subst h
        by_cases hf : frE x = true
        · rw [hf]
          exact s_asgF g.g.nd (by rw [g.g.hN]; exact slotIx_get hi) l1 l2 (se.f hf) sw
        · rw [(Bool.not_eq_true _).mp hf]
          exact s_asg se.d (pg_sound g.g.hN g.g.nd g.g.calm g.tg n _ _ h2) sw rfl rfl
  · -- (..) = e
    rename_i ts kk tp e pos
    split at h
    · rename_i hnc
      split at h
      · rename_i hsw
        obtain ⟨x, h1, h⟩ := bndO h
        obtain ⟨t, h2, h⟩ := bndO h
        cases h
        exact s_asg (E0.e g.g g.tk g.hs h1).d (pg_sound g.g.hN g.g.nd g.g.calm g.tg n _ _ h2) (sw_tup (env := X.env) (l := pos.line) (ts := ts) (k := kk) (p := tp) (e := e)) (sw_st g.hs g.fn hsw) rfl
      · rename_i x y hsw
        split at h
        · rename_i x' p1 y' p2 a b k2 p3
          split at h
          · rename_i cnd
            simp only [Bool.and_eq_true, decide_eq_true_eq] at cnd
            obtain ⟨⟨⟨⟨e1, e2⟩, ne⟩, l1⟩, l2⟩ := cnd
            subst e1 e2
            obtain ⟨i, h1, h⟩ := bndO h
            obtain ⟨j, h2, h⟩ := bndO h
            obtain ⟨a', h3, h⟩ := bndO h
            obtain ⟨b', h4, h⟩ := bndO h
            split at h
            · rename_i lo
              simp only [Bool.and_eq_true, decide_eq_true_eq] at lo
              cases h
              have hi : X.N[i]? = some x' := by rw [g.g.hN]; exact slotIx_get h1
              have hj : X.N[j]? = some y' := by rw [g.g.hN]; exact slotIx_get h2
              refine s_par g.g.calm g.g.nd hi hj (fun z => ?_) ((g.tg _).1 lo.1) ((g.tg _).1 lo.2) (s_cons (E0.e g.g g.tk g.hs h3).d (s_cons (E0.e g.g g.tk g.hs h4).d s_nil (starCons l2)) (starCons l1)) (sw_st g.hs g.fn hsw)
              subst z
              rw [hi] at hj; cases hj; exact ne rfl
            · cases h
          · cases h
        · cases h
      · cases h
    · cases h
  · -- +=
    rename_i x p1 e pos
    split at h
    · rename_i lo
      simp only [Bool.or_eq_true, decide_eq_true_eq] at lo
      obtain ⟨i, h1, h⟩ := bndO h
      obtain ⟨x, h2, h⟩ := bndO h
      cases h
      obtain ⟨l1, l2⟩ := loc_of g lo
      refine s_aug g.g.nd (by rw [g.g.hN]; exact slotIx_get h1) l1 l2 (E0.e g.g g.tk g.hs h2).w ip_add fun d1 d2 n hb => ?_
      cases d1 <;> cases d2 <;> first | (cases hb; exact ⟨_, _, rfl, rfl, rfl⟩) | (simp only [binD] at hb; split at hb <;> cases hb; done) | (cases hb; done)
    · cases h
  · rename_i x p1 e pos
    split at h
    · rename_i lo
      simp only [Bool.or_eq_true, decide_eq_true_eq] at lo
      obtain ⟨i, h1, h⟩ := bndO h
      obtain ⟨x, h2, h⟩ := bndO h
      cases h
      obtain ⟨l1, l2⟩ := loc_of g lo
      refine s_aug g.g.nd (by rw [g.g.hN]; exact slotIx_get h1) l1 l2 (E0.e g.g g.tk g.hs h2).w ip_sub fun d1 d2 n hb => ?_
      cases d1 <;> cases d2 <;> first | (cases hb; exact ⟨_, _, rfl, rfl, rfl⟩) | (cases hb; done)
    · cases h
  · -- x.append(e)
    split at h
    · rename_i cnd
      simp only [Bool.and_eq_true, decide_eq_true_eq] at cnd
      obtain ⟨i, h1, h⟩ := bndO h
      obtain ⟨v, h2, h⟩ := bndO h
      cases h
      obtain ⟨q1, q2⟩ := slot_of g.g.hN g.hs h1
      exact s_app q1 q2 (by simpa using cnd.1.1.1) (by simpa using cnd.1.1.2) (E0.e g.g g.tk g.hs h2).d cnd.1.2 cnd.2
    · cases h
  · cases h; exact s_doc
  · obtain ⟨x, h2, h⟩ := bndO h
    cases h
    exact s_drop (E0.e g.g g.tk g.hs h2).d rfl
  · cases h; exact s_stuck
  · cases h
theorem sm : ∀ n, SM c φ C k n
  | 0 => ⟨fun _ h => by simp [compS] at h, fun _ h => by simp [compSs] at h⟩
  | n + 1 => ⟨fun g h => sm_s (sm n) g h, fun g h => sm_ss (sm n) g h⟩
end
end Ws

set_option Elab.async false
set_option linter.all false
set_option maxRecDepth 100000
set_option maxHeartbeats 4000000
/-! Sim20: the defs keep what the pure language says -/
namespace Ws
open PySem PySem.Spec PyProof.Rows L2

theorem call_len {fs : List Fn} {k i : Nat} {ds : List D} (h : call fs k i ds ≠ .st) : ∃ f, fs[i]? = some f ∧ ds.length = f.np := by
  cases k with
  | zero => exact absurd rfl h
  | succ k =>
    unfold call at h
    cases e : fs[i]? with
    | none => rw [e] at h; exact absurd rfl h
    | some f =>
      rw [e] at h
      refine ⟨f, rfl, ?_⟩
      by_cases z : ds.length = f.np
      · exact z
      · exfalso; apply h; show run _ f ds = _; unfold run; rw [if_neg z]

/-- what is known of a program's defs, whatever the level -/
structure Defs (P : Program) (w : World) (K : PySem.W.Frag) (mg : Str → Option Value) (c0 : Cfg) (fs : List Fn) : Prop where
  fn : ∀ (i : Nat) (x : Str), c0.fns[i]? = some x → ∃ (f : Addr) (fd : FuncData) (N ps : List Str) (qual : Str) (params : Arguments) (body : List Stmt) (scope : Scope) (b : List S) (n : Nat), mg x = some (.ref f) ∧ FunD K x qual params body scope [] [] f fd ∧ FnScope N ps scope ∧ Binds K fd ps [] ∧
    compSs { c0 with N := N } scope n body = some b ∧ fs[i]? = some ⟨ps.length, b, N.length⟩
  cs : ∀ x d, c0.cs.lookup x = some d → ∃ u v, mg x = some u ∧ RelV v u ∧ ∀ O H, Rp K O H v d
  bl : ∀ x, x ∈ c0.bl → mg x = none
  gcd : c0.gcd = true → mg "gcd" = some (.builtin "math.gcd")
  tabs : ∀ T kvs, c0.tabs.lookup T = some kvs → TabIs K w mg T kvs
/-- the def at level k -/
def FnAt (P : Program) (w : World) (K : PySem.W.Frag) (mg : Str → Option Value) (base : Heap) (fs : List Fn) (C : Addr) (k i : Nat) (x : Str) : Prop :=
  ∃ f fd ps, mg x = some (.ref f) ∧ PySem.W.keepIn K (.ref f) = true ∧ Binds K fd ps [] ∧ FnOk P w K mg base (L2.CX P w) k f fd ps (spD K (call fs k) C i ps.length) ∧ (∀ ds, call fs k i ds ≠ .st → ds.length = ps.length)
theorem start_er {K : PySem.W.Frag} {O : Ow} {H : Hp} {N : List Str} {vs : List V} {ds : List D} (r : Rps K O H vs ds) : ER K O H (L2.start N vs) (ds.map .f ++ List.replicate (N.length - ds.length) .u) := by
  have hl := r.length
  refine ⟨by simp only [L2.start, List.length_append, List.length_map, List.length_replicate]; omega, fun i s e => ?_⟩
  by_cases lt : i < ds.length
  · rw [List.getElem?_append_left (by simpa using lt), List.getElem?_map] at e
    have hd : ds[i]? = some ds[i] := List.getElem?_eq_getElem lt
    rw [hd] at e
    cases e
    obtain ⟨v, h1, h2⟩ := r.get hd
    refine ⟨v, ?_, h2⟩
    unfold L2.start
    rw [List.getElem?_append_left (by rw [List.length_map, hl]; exact lt), List.getElem?_map, h1]
    rfl
  · rw [List.getElem?_append_right (by simpa using lt)] at e
    rw [List.getElem?_replicate] at e
    split at e
    · cases e; trivial
    · cases e
theorem start_no {α : Prop} {ds : List D} {n i : Nat} {d : D} (e : (ds.map Sl.f ++ List.replicate n Sl.u)[i]? = some (.o d)) : α := by
  exfalso
  have m := List.mem_of_getElem? e
  rw [List.mem_append] at m
  rcases m with m | m
  · rw [List.mem_map] at m
    obtain ⟨_, _, z⟩ := m
    cases z
  · have := List.eq_of_mem_replicate m
    cases this
theorem start_sr {X : Cx} {O0 : Ow} {N : List Str} {vs : List V} {ds : List D} (ot : OT O0 X.H_0) (r : Rps X.K O0 X.H_0 vs ds) : SR X O0 O0 X.H_0 (L2.start N vs) (ds.map .f ++ List.replicate (N.length - ds.length) .u) :=
  ⟨start_er r, ot, fun i d e => start_no (ds := ds) (n := N.length - ds.length) e, Same.refl _, fun _ _ _ => rfl, ot⟩
section
variable {P : Program} {w : World} {K : PySem.W.Frag} {mg : Str → Option Value} {base : Heap} {c0 : Cfg} {fs : List Fn} {C : Addr}
theorem fn_zero {f : Addr} {fd : FuncData} {N ps : List Str} {x qual : Str} {params : Arguments} {body : List Stmt} {scope : Scope} {i : Nat} (F : FunD K x qual params body scope [] [] f fd) (S : FnScope N ps scope) : FnOk P w K mg base (L2.CX P w) 0 f fd ps (spD K (call fs 0) C i ps.length) := by
  refine ⟨?_, ?_⟩
  · rintro vs H Q E ⟨O, ds, ot, r, hl, m⟩; exact hl
  · rintro A outer s H args us vs Q E hr e0 hb rv ⟨O, ds, ot, r, hl, m⟩; exact m.elim
theorem fn_succ (h : Defs P w K mg c0 fs) {k : Nat} (ih : ∀ (i : Nat) (x : Str), c0.fns[i]? = some x → FnAt P w K mg base fs C k i x)
    {f : Addr} {fd : FuncData} {N ps : List Str} {x qual : Str} {params : Arguments} {body : List Stmt} {scope : Scope} {b : List S} {n i : Nat} (F : FunD K x qual params body scope [] [] f fd) (S : FnScope N ps scope)
    (hc : compSs { c0 with N := N } scope n body = some b) (hf : fs[i]? = some ⟨ps.length, b, N.length⟩) : FnOk P w K mg base (L2.CX P w) (k + 1) f fd ps (spD K (call fs (k + 1)) C i ps.length) := by
  refine F.ok S (fun vs H Q E z => ?_) fun cdv A outer s H vs Q E hr z => ?_
  · obtain ⟨O, ds, ot, r, hl, m⟩ := z; exact hl
  · obtain ⟨O0, ds, ot, r, hl, m⟩ := z
    generalize hX : cxOf (L2.CX P w) P w K mg base N qual scope f cdv A outer s H E = X
    have g : GS { c0 with N := N } (call fs k) C k X scope E := by
      subst hX
      exact ⟨⟨rfl, S.nd, rfl, hr, fun j y hj => ih j y hj, h.cs, h.bl, h.gcd, h.tabs⟩, takes_of rfl rfl rfl (E₁ := fun e' s'' => L2.CX P w outer H s E e' s'') rfl, passes_of (K := fun e s'' => L2.CX P w outer H s E e s'') (E₁ := fun e' s'' => L2.CX P w outer H s E e' s'') rfl, rfl, fun y => ⟨fun e => e, fun e => ⟨e, rfl⟩⟩, S.kind⟩
    refine ⟨tSt X C O0 E (exSs (call fs k) b), (sm n).ss g hc, O0, _, (?_ : SR X O0 O0 H (L2.start N vs) (ds.map .f ++ List.replicate (N.length - ds.length) .u)), ?_⟩
    · subst hX
      exact start_sr (X := cxOf (L2.CX P w) P w K mg base N qual scope f cdv A outer s H E) ot r
    · have hH : X.H_0 = H := by subst hX; rfl
      have hK : X.K = K := by subst hX; rfl
      have hl' : ds.length = ps.length := by rw [← r.length]; exact hl
      have m' := m
      unfold call at m'
      rw [hf] at m'
      simp only [run] at m'
      rw [if_pos hl', ← hl'] at m'
      cases e : exSs (call fs k) b (ds.map .f ++ List.replicate (N.length - ds.length) .u) with
      | st => rw [e] at m'; exact m'.elim
      | ex d =>
        rw [e] at m'
        intro dx v H' s1 a1 r1
        rw [hH] at s1
        rw [hK] at r1
        exact m' dx v H' s1 a1 r1
      | ok p =>
        obtain ⟨fl, ε'⟩ := p
        rw [e] at m'
        cases fl with
        | nx =>
          intro O' σ' H' sr f'
          have s1 := sr.sm
          rw [hH] at s1
          exact m' .non H' s1 .non
        | rt d =>
          intro v H' s1 r1
          rw [hH] at s1
          rw [hK] at r1
          exact m' v H' s1 r1
        | br => exact m'.elim
        | ct => exact m'.elim
theorem fn_all (h : Defs P w K mg c0 fs) : ∀ (k i : Nat) (x : Str), c0.fns[i]? = some x → FnAt P w K mg base fs C k i x
  | 0, i, x, hi => by
    obtain ⟨f, fd, N, ps, qual, params, body, scope, b, n, hm, F, S, B, hc, hf⟩ := h.fn i x hi
    exact ⟨f, fd, ps, hm, F.kp, B, fn_zero F S, fun ds z => absurd rfl z⟩
  | k + 1, i, x, hi => by
    have ih := fn_all h k
    obtain ⟨f, fd, N, ps, qual, params, body, scope, b, n, hm, F, S, B, hc, hf⟩ := h.fn i x hi
    refine ⟨f, fd, ps, hm, F.kp, B, fn_succ h ih F S hc hf, fun ds z => ?_⟩
    obtain ⟨f', h1, h2⟩ := call_len z
    rw [hf] at h1
    cases h1
    exact h2
theorem fn_top (h : Defs P w K mg c0 fs) {k : Nat} {f : Addr} {fd : FuncData} {N ps : List Str} {x qual : Str} {params : Arguments} {body : List Stmt} {scope : Scope} {b : List S} {n i : Nat} (F : FunD K x qual params body scope [] [] f fd) (S : FnScope N ps scope)
    (hc : compSs { c0 with N := N } scope n body = some b) (hf : fs[i]? = some ⟨ps.length, b, N.length⟩) : FnOk P w K mg base (L2.CX P w) (k + 1) f fd ps (spD K (call fs (k + 1)) C i ps.length) := fn_succ h (fn_all h k) F S hc hf
end

/-! ### a law's end -/
/-- an exception of any world -/
def CXa (P : Program) : CXT := fun outer H s E e s' => ∃ w, L2.CX P w outer H s E e s'
theorem FnOk.any {P : Program} {w : World} {K : PySem.W.Frag} {mg : Str → Option Value} {base : Heap} {k : Nat} {f : Addr} {fd : FuncData} {ps : List Str} {sp : Sp} (F : FnOk P w K mg base (L2.CX P w) k f fd ps sp) : FnOk P w K mg base (CXa P) k f fd ps sp :=
  ⟨F.len, fun A outer s H args us vs Q E hr e0 hb rv h => codeAny_mono (F.run A outer s H args us vs Q E hr e0 hb rv h) fun r s' q => by
    cases r with
    | error e => exact ⟨w, q⟩
    | ok fl => cases fl <;> exact q⟩
theorem ints_rps {K : PySem.W.Frag} {O : Ow} {H : Hp} : ∀ ns : List Int, Rps K O H (ns.map V.int) (ns.map .int)
  | [] => .nil
  | n :: ns => .cons (.int n) (ints_rps ns)
/-- the law's def: what the pure language says of every script is True -/
theorem law_sp {K : PySem.W.Frag} {fs : List Fn} {C : Addr} {k i n : Nat} {H : Hp} {a : Addr} {ns : List Int} (hl : ns.length ≤ n) (hn : n ≤ sizeLine) (hS : SqL K H a (ns.map V.int)) (h : call fs k i [.list (ns.map .int)] = .ok (.bool true)) :
    spD K (call fs k) C i 1 [.ref a] H (fun v _ => v = .bl true) fun _ _ _ => False := by
  refine ⟨fun _ => none, [.list (ns.map .int)], fun a i e => (by cases e), .cons (.lst (.of hS rfl) (by rw [List.length_map]; omega) (ints_rps ns)) .nil, rfl, ?_⟩
  rw [h]
  intro v H' s r
  cases r; rfl
theorem cxa_end {P : Program} : ∀ (H : Hp) (s : Shared) (e : Value) (s' : Shared), CXa P [] H s (fun _ _ _ => False) e s' → False := fun H s e s' ⟨w, c⟩ => by
  obtain ⟨_, _, _, _, _, _, _, _, _, _, _, _, z⟩ := c
  exact z
end Ws

set_option Elab.async false
set_option linter.all false
set_option maxRecDepth 100000
set_option maxHeartbeats 4000000
/-! Sim21: rows for walking through the pure language -/
namespace Ws
open PySem

theorem call_at {fs : List Fn} {k i : Nat} {f : Fn} {ds : List D} (h : fs[i]? = some f) (hl : ds.length = f.np) : call fs (k + 1) i ds = (exSs (call fs k) f.body (ds.map .f ++ List.replicate (f.n - f.np) .u)).bnd retv := by
  show (match fs[i]? with | some f => run (call fs k) f ds | none => .st) = _
  rw [h]
  show run _ f ds = _
  unfold run
  rw [if_pos hl]
theorem dataLt_int (a b : Int) : PySem.W.dataLt (.int a) (.int b) = decide (a < b) := by
  unfold PySem.W.dataLt
  simp only [PySem.W.keyToks]
  by_cases h : a = b
  · subst h
    simp only [PyProof.Rows.lexLt]
    simp [PyProof.Rows.itemOrd, PyProof.Rows.itemLt]
  · simp only [PyProof.Rows.lexLt]
    simp [PyProof.Rows.itemOrd, PyProof.Rows.itemLt, h]
@[simp] theorem lim_int (n : Nat) (i : Int) : lim n (.int i) = true := by cases n <;> rfl
@[simp] theorem lim_bool (n : Nat) (i : Bool) : lim n (.bool i) = true := by cases n <;> rfl
@[simp] theorem lim_none (n : Nat) : lim n .none = true := by cases n <;> rfl
@[simp] theorem lim_str (n : Nat) (i : Str) : lim n (.str i) = true := by cases n <;> rfl
theorem ltB_int (a b : Int) : ltB (.int a) (.int b) = .ok (.bool (decide (a < b))) := by
  unfold ltB cmpOk
  simp [PySem.W.alike, isNone, dataLt_int]
@[simp] theorem cmp_lt (a b : Int) : cmpD .lt (.int a) (.int b) = .ok (.bool (decide (a < b))) := ltB_int a b
@[simp] theorem cmp_gt (a b : Int) : cmpD .gt (.int a) (.int b) = .ok (.bool (decide (b < a))) := ltB_int b a
@[simp] theorem cmp_le (a b : Int) : cmpD .le (.int a) (.int b) = .ok (.bool (decide (a ≤ b))) := by
  show notD (ltB (.int b) (.int a)) = _
  rw [ltB_int]
  show Rs.ok (PyData.bool (!decide (b < a))) = _
  congr 2
  by_cases h : a ≤ b <;> simp [h] <;> omega
@[simp] theorem cmp_ge (a b : Int) : cmpD .ge (.int a) (.int b) = .ok (.bool (decide (b ≤ a))) := cmp_le b a
theorem eqD_int (a b : Int) : eqD (.int a) (.int b) = .ok (.bool (decide (a = b))) := by
  unfold eqD
  simp [PyData.eqv]
  rfl
/-- a list or a tuple -/
def sq (t : Bool) (xs : List D) : D := if t then .tuple xs else .list xs
@[simp] theorem len_sq (t : Bool) (xs : List D) : biD .len [sq t xs] = .ok (.int xs.length) := by cases t <;> rfl
@[simp] theorem seqD_sq (t : Bool) (xs : List D) : seqD (sq t xs) = .ok xs := by cases t <;> rfl
@[simp] theorem seqD2_sq (t : Bool) (xs : List D) : seqD2 (sq t xs) = .ok xs := by cases t <;> rfl
@[simp] theorem idx_sq (t : Bool) (xs : List D) (i : Int) : idxD (sq t xs) (.int i) = Rs.of (ixD xs i) := by cases t <;> rfl
@[simp] theorem truth_bool (b : Bool) : truth (.bool b) = b := rfl
theorem lcL_map {α : Type} {turn : D → Rs (List D)} {enc f : α → D} : ∀ {l : List α}, (∀ a ∈ l, turn (enc a) = .ok [f a]) → lcL turn (l.map enc) = .ok (l.map f)
  | [], _ => rfl
  | a :: l, h => by
    rw [List.map_cons, lcL, h a List.mem_cons_self, lcL_map fun b hb => h b (List.mem_cons_of_mem _ hb)]
    rfl
theorem lcL_flat {α : Type} {turn : D → Rs (List D)} {enc : α → D} {f : α → List D} : ∀ {l : List α}, (∀ a ∈ l, turn (enc a) = .ok (f a)) → lcL turn (l.map enc) = .ok (l.flatMap f)
  | [], _ => rfl
  | a :: l, h => by
    rw [List.map_cons, lcL, h a List.mem_cons_self, lcL_flat fun b hb => h b (List.mem_cons_of_mem _ hb)]
    rfl
theorem bolsD_map {α : Type} {p : α → Bool} : ∀ {l : List α}, bolsD (l.map fun a => .bool (p a)) = some (l.map p)
  | [] => rfl
  | a :: l => by
    have ih := bolsD_map (p := p) (l := l)
    unfold bolsD at ih ⊢
    rw [List.map_cons, List.mapM_cons, ih]; rfl
@[simp] theorem all_map {α : Type} {p : α → Bool} {l : List α} : biD .all [.list (l.map fun a => .bool (p a))] = .ok (.bool (l.all p)) := by
  show (Rs.of (bolsD _)).bnd _ = _
  rw [bolsD_map]
  show Rs.ok (PyData.bool ((l.map p).any id |> fun _ => (l.map p).all id)) = _
  rw [List.all_map]; rfl
@[simp] theorem any_map' {α : Type} {p : α → Bool} {l : List α} : biD .any [.list (l.map fun a => .bool (p a))] = .ok (.bool (l.any p)) := by
  show (Rs.of (bolsD _)).bnd _ = _
  rw [bolsD_map]
  show Rs.ok (PyData.bool ((l.map p).any id)) = _
  rw [List.any_map]; rfl
theorem intsD_map {α : Type} {p : α → Int} : ∀ {l : List α}, intsD (l.map fun a => .int (p a)) = some (l.map p)
  | [] => rfl
  | a :: l => by
    have ih := intsD_map (p := p) (l := l)
    unfold intsD at ih ⊢
    rw [List.map_cons, List.mapM_cons, ih]; rfl
@[simp] theorem sum_map' {α : Type} {p : α → Int} {l : List α} : biD .sum [.list (l.map fun a => .int (p a))] = .ok (.int (l.map p).sum) := by
  show (Rs.of (intsD _)).bnd _ = _
  rw [intsD_map]; rfl
theorem rngL_eq (lo : Int) (n : Nat) : rngL lo n = (List.range n).map fun i => .int (lo + (i : Nat)) := rfl
theorem rngD_ok {lo hi : Int} {n : Nat} (hn : hi = lo + n) (h1 : -(2 ^ 62) ≤ lo) (h2 : hi < 2 ^ 62) (h3 : n ≤ LIM) : rngD lo hi = .ok ((List.range n).map fun i => .int (lo + (i : Nat))) := by
  unfold rngD
  have e : (hi - lo).toNat = n := by omega
  rw [if_pos ⟨h1, by omega, by omega, h2, by omega⟩, e]; rfl
theorem cut_nat {α : Type} {xs : List α} {i j : Nat} (hi : i ≤ xs.length) (hj : j ≤ xs.length) : cutD xs (some (i : Int)) (some (j : Int)) = (xs.drop i).take (j - i) := by
  unfold cutD HT.sIx
  simp only
  rw [if_neg (by omega), if_neg (by omega), Int.toNat_natCast, Int.toNat_natCast, Nat.min_eq_left hi, Nat.min_eq_left hj]
@[simp] theorem sli_sq (q : Bool) (xs : List D) (lo hi : Option Int) : sliD (sq q xs) lo hi = .ok (sq q (cutD xs lo hi)) := by cases q <;> rfl
theorem cut_map {α β : Type} (f : α → β) (xs : List α) (lo hi : Option Int) : cutD (xs.map f) lo hi = (cutD xs lo hi).map f := by
  unfold cutD
  rw [List.length_map, List.map_take, List.map_drop]
/-- a slot that a new list or tuple stands in -/
def slq (q : Bool) (xs : List D) : Sl := if q then .f (.tuple xs) else .o (.list xs)
@[simp high] theorem putF_sq (ε : Env) (i : Nat) (q : Bool) (xs : List D) : putF ε (.nm i) (sq q xs) true = .ok (ε.set i (slq q xs)) := by cases q <;> rfl
@[simp] theorem frz_slq (q : Bool) (xs : List D) : frzS (slq q xs) = .f (sq q xs) := by cases q <;> rfl
@[simp] theorem putF_f (ε : Env) (t : Pt) (d : D) : putF ε t d false = bnd t d ε := rfl
@[simp] theorem putF_l (ε : Env) (i : Nat) (xs : List D) : putF ε (.nm i) (.list xs) true = .ok (ε.set i (.o (.list xs))) := rfl
@[simp] theorem putF_d (ε : Env) (i : Nat) (xs : List (D × D)) : putF ε (.nm i) (.dict xs) true = .ok (ε.set i (.o (.dict xs))) := rfl
@[simp] theorem putF_i (ε : Env) (i : Nat) (n : Int) : putF ε (.nm i) (.int n) true = .ok (ε.set i (.f (.int n))) := rfl
@[simp] theorem putF_b (ε : Env) (i : Nat) (n : Bool) : putF ε (.nm i) (.bool n) true = .ok (ε.set i (.f (.bool n))) := rfl
@[simp] theorem putF_s (ε : Env) (i : Nat) (n : Str) : putF ε (.nm i) (.str n) true = .ok (ε.set i (.f (.str n))) := rfl
@[simp] theorem putF_t (ε : Env) (i : Nat) (n : List D) : putF ε (.nm i) (.tuple n) true = .ok (ε.set i (.f (.tuple n))) := rfl
@[simp] theorem putF_n (ε : Env) (i : Nat) : putF ε (.nm i) .none true = .ok (ε.set i (.f .none)) := rfl
@[simp] theorem frz_o (d : D) : frzS (.o d) = .f d := rfl
@[simp] theorem frz_f (d : D) : frzS (.f d) = .f d := rfl
@[simp] theorem frz_u : frzS .u = .u := rfl
/-- a loop that looks for the first and returns -/
theorem exFor_find {α : Type} {enc : α → D} {step : D → Env → Rs (Fl × Env)} {p : α → Bool} {r : α → D} {I : Env → Prop} : ∀ {l : List α} {ε : Env}, I ε → (∀ a ∈ l, ∀ ε, I ε → ∃ ε', I ε' ∧ step (enc a) ε = .ok (if p a = true then .rt (r a) else .nx, ε')) →
    ∃ ε', I ε' ∧ exFor step (l.map enc) ε = .ok ((match l.find? p with | some a => .rt (r a) | none => .nx), ε')
  | [], ε, hi, _ => ⟨ε, hi, rfl⟩
  | a :: l, ε, hi, h => by
    obtain ⟨ε1, i1, e1⟩ := h a List.mem_cons_self ε hi
    rw [List.map_cons, exFor, e1, List.find?_cons]
    cases hp : p a with
    | true => exact ⟨ε1, i1, rfl⟩
    | false =>
      obtain ⟨ε2, i2, e2⟩ := exFor_find (l := l) i1 fun b hb => h b (List.mem_cons_of_mem _ hb)
      exact ⟨ε2, i2, e2⟩
/-- a loop that goes through -/
theorem exFor_fold {α β : Type} {enc : α → D} {step : D → Env → Rs (Fl × Env)} {f : β → α → β} {I : β → Env → Prop} : ∀ {l : List α} {b : β} {ε : Env}, I b ε → (∀ a ∈ l, ∀ b ε, I b ε → ∃ ε', I (f b a) ε' ∧ step (enc a) ε = .ok (.nx, ε')) →
    ∃ ε', I (l.foldl f b) ε' ∧ exFor step (l.map enc) ε = .ok (.nx, ε')
  | [], b, ε, hi, _ => ⟨ε, hi, rfl⟩
  | a :: l, b, ε, hi, h => by
    obtain ⟨ε1, i1, e1⟩ := h a List.mem_cons_self b ε hi
    obtain ⟨ε2, i2, e2⟩ := exFor_fold (l := l) i1 fun c hc => h c (List.mem_cons_of_mem _ hc)
    refine ⟨ε2, i2, ?_⟩
    rw [List.map_cons, exFor, e1]
    exact e2
def forStep (φ : Nat → List D → Rs D) (t : Pt) (body : List S) (x : D) (ε : Env) : Rs (Fl × Env) := (bnd t x ε).bnd fun ε' => exSs φ body ε'
section
variable (φ : Nat → List D → Rs D) (t : Pt) (it : It) (body a b : List S) (lk : List Nat) (ε : Env) (e e1 e2 : E) (fr : Bool) (i j : Nat) (o : Op2)
@[simp] theorem exS_for : exS φ (.for_ t it body lk) ε = (evi φ it (frzE ε lk)).bnd fun ds => exFor (forStep φ t body) ds (frzE ε lk) := by
  simp only [exS]
  rfl
@[simp] theorem exS_asg : exS φ (.asg t e fr lk) ε = (ev φ e (frzE ε lk)).bnd fun d => (putF (frzE ε lk) t d fr).bnd fun ε' => .ok (.nx, ε') := by simp only [exS]
@[simp] theorem exS_par : exS φ (.par i j e1 e2 lk) ε = (ev φ e1 (frzE ε lk)).bnd fun x => (ev φ e2 (frzE ε lk)).bnd fun y => .ok (.nx, put (put (frzE ε lk) i x) j y) := by simp only [exS]
@[simp] theorem exS_seti : exS φ (.seti i e1 e2 lk) ε = (ev φ e2 (frzE ε lk)).bnd fun v => (own (frzE ε lk) i).bnd fun d => (ev φ e1 (frzE ε lk)).bnd fun k => (setD d k v).bnd fun d' => .ok (.nx, puto (frzE ε lk) i d') := by simp only [exS]
@[simp] theorem exS_app : exS φ (.app i e lk) ε = (own (frzE ε lk) i).bnd fun d => (lstD d).bnd fun xs => (ev φ e (frzE ε lk)).bnd fun v => if xs.length < LIM then .ok (.nx, puto (frzE ε lk) i (.list (xs ++ [v]))) else .st := by simp only [exS]
@[simp] theorem exS_ret : exS φ (.ret e) ε = (ev φ e (ε.map frzS)).bnd fun d => .ok (.rt d, ε) := by simp only [exS]
@[simp] theorem exS_retn : exS φ .retn ε = .ok (.rt .none, ε) := by simp only [exS]
@[simp] theorem exS_drop : exS φ (.drop e lk) ε = (ev φ e (frzE ε lk)).bnd fun _ => .ok (.nx, frzE ε lk) := by simp only [exS]
@[simp] theorem exS_iff : exS φ (.iff e a b) ε = (ev φ e (ε.map frzS)).bnd fun x => if truth x then exSs φ a ε else exSs φ b ε := by simp only [exS]
@[simp] theorem exS_brk : exS φ .brk ε = .ok (.br, ε) := by simp only [exS]
@[simp] theorem exS_cont : exS φ .cont ε = .ok (.ct, ε) := by simp only [exS]
@[simp] theorem exS_pass : exS φ .pass ε = .ok (.nx, ε) := by simp only [exS]
@[simp] theorem exS_stuck : exS φ .stuck ε = .st := by simp only [exS]
end
@[simp] theorem bnd_nm1 (i : Nat) (d : D) (ε : Env) : bnd (.nm i) d ε = .ok (ε.set i (.f d)) := by simp only [bnd, put]
@[simp] theorem bnd_tt (ps : List Pt) (ds : List D) (ε : Env) : bnd (.tp ps) (.tuple ds) ε = bnds ps ds ε := by simp only [bnd]
@[simp] theorem bnd_tl (ps : List Pt) (ds : List D) (ε : Env) : bnd (.tp ps) (.list ds) ε = bnds ps ds ε := by simp only [bnd]
@[simp] theorem bnd_sq (ps : List Pt) (q : Bool) (ds : List D) (ε : Env) : bnd (.tp ps) (sq q ds) ε = bnds ps ds ε := by cases q <;> simp [sq]
@[simp] theorem bnds_n (ε : Env) : bnds [] [] ε = .ok ε := by simp only [bnds]
@[simp] theorem bnds_c (p : Pt) (ps : List Pt) (d : D) (ds : List D) (ε : Env) : bnds (p :: ps) (d :: ds) ε = (bnd p d ε).bnd fun ε' => bnds ps ds ε' := by simp only [bnds]
@[simp] theorem truth_list (xs : List D) : truth (.list xs) = !xs.isEmpty := rfl
@[simp] theorem truth_tup (xs : List D) : truth (.tuple xs) = !xs.isEmpty := rfl
@[simp] theorem truth_none : truth .none = false := rfl
@[simp] theorem truth_sq (q : Bool) (xs : List D) : truth (sq q xs) = !xs.isEmpty := by cases q <;> rfl
theorem lset_map {α : Type} {f g : α → Int} {l : List α} (h : l.length < 64) : lsetD (.list (l.map fun a => .tuple [.int (f a), .int (g a)])) = .ok (.int (dnum (l.map fun a => [f a, g a]))) := by
  have e : (l.map fun a => PyData.tuple [.int (f a), .int (g a)]).mapM tupI = some (l.map fun a => [f a, g a]) := by
    clear h
    induction l with
    | nil => rfl
    | cons a l ih => rw [List.map_cons, List.mapM_cons, ih]; rfl
  show (if (l.map _).length < 64 then _ else _) = _
  rw [List.length_map, if_pos h, e]; rfl
theorem eqD_int' (a b : Int) : cmpD .eq (.int a) (.int b) = .ok (.bool (decide (a = b))) := eqD_int a b
theorem eqD_str (a b : Str) : cmpD .eq (.str a) (.str b) = .ok (.bool (decide (a = b))) := by
  show eqD _ _ = _
  unfold eqD
  simp [PyData.eqv]
  rfl
@[simp] theorem nmR_ok (x : D) : nmR (.ok x) = if noMut x then .ok x else .st := rfl
/-- a loop that appends one a turn -/
theorem exFor_app {α : Type} {enc g : α → D} {step : D → Env → Rs (Fl × Env)} {N : Nat} {I : List D → Env → Prop} : ∀ {l : List α} {b : List D} {ε : Env}, b.length + l.length ≤ N → I b ε → (∀ a ∈ l, ∀ b ε, b.length < N → I b ε → ∃ ε', I (b ++ [g a]) ε' ∧ step (enc a) ε = .ok (.nx, ε')) →
    ∃ ε', I (b ++ l.map g) ε' ∧ exFor step (l.map enc) ε = .ok (.nx, ε')
  | [], b, ε, _, hi, _ => ⟨ε, by simpa using hi, rfl⟩
  | a :: l, b, ε, hN, hi, h => by
    rw [List.length_cons] at hN
    obtain ⟨ε1, i1, e1⟩ := h a List.mem_cons_self b ε (by omega) hi
    obtain ⟨ε2, i2, e2⟩ := exFor_app (l := l) (b := b ++ [g a]) (by rw [List.length_append, List.length_singleton]; omega) i1 fun c hc => h c (List.mem_cons_of_mem _ hc)
    refine ⟨ε2, by simpa using i2, ?_⟩
    rw [List.map_cons, exFor, e1]
    exact e2
end Ws

set_option Elab.async false
set_option linter.all false
set_option maxRecDepth 100000
set_option maxHeartbeats 4000000
/-! Sim22: the module's constants and tables, looked at -/
namespace Ws
open PySem PySem.Spec PyProof.Rows L2

def atomB (u : Value) : D → Bool
  | .none => He.relB .non u
  | .bool b => He.relB (.bl b) u
  | .int i => He.relB (.int i) u
  | .str x => He.relB (.str x) u && (PyData.strOk x && decide (x.length ≤ sizeLine))
  | _ => false
def all2 (f : Value → D → Bool) : List Value → List D → Bool
  | [], [] => true
  | u :: us, d :: ds => f u d && all2 f us ds
  | _, _ => false
def tupB (f : Value → D → Bool) (o : Option Obj) (ds : List D) : Bool := match o with
  | some ⟨.type c, _, .seq its _, _⟩ => decide (c = "tuple") && (decide (its.size ≤ sizeLine) && all2 f its.toList ds)
  | _ => false
def rpB (K : PySem.W.Frag) : Nat → Value → D → Bool
  | n + 1, .ref a, .tuple ds => tupB (rpB K n) (K.lookup a) ds
  | _, u, d => atomB u d
theorem atomB_ok {K : PySem.W.Frag} {u : Value} {d : D} (h : atomB u d = true) : ∃ v, RelV v u ∧ ∀ O H, Rp K O H v d := by
  cases d with
  | none => exact ⟨.non, He.relB_ok h, fun _ _ => .non⟩
  | bool b => exact ⟨.bl b, He.relB_ok h, fun _ _ => .bl b⟩
  | int i => exact ⟨.int i, He.relB_ok h, fun _ _ => .int i⟩
  | str x =>
    have h : (He.relB (.str x) u && (PyData.strOk x && decide (x.length ≤ sizeLine))) = true := h
    rw [Bool.and_eq_true, Bool.and_eq_true, decide_eq_true_eq] at h
    exact ⟨.str x, He.relB_ok h.1, fun _ _ => .str x h.2.1 h.2.2⟩
  | list _ => cases h
  | tuple _ => cases h
  | dict _ => cases h
theorem all2_ok {K : PySem.W.Frag} {f : Value → D → Bool} (hf : ∀ u d, f u d = true → ∃ v, RelV v u ∧ ∀ O H, Rp K O H v d) : ∀ {us : List Value} {ds : List D}, all2 f us ds = true → ∃ vs, Vals vs us ∧ ∀ O H, Rps K O H vs ds
  | [], [], _ => ⟨[], .nil, fun _ _ => .nil⟩
  | u :: us, d :: ds, h => by
    have h : (f u d && all2 f us ds) = true := h
    rw [Bool.and_eq_true] at h
    obtain ⟨v, a1, a2⟩ := hf u d h.1
    obtain ⟨vs, b1, b2⟩ := all2_ok hf h.2
    exact ⟨v :: vs, .cons a1 b1, fun O H => .cons (a2 O H) (b2 O H)⟩
  | [], _ :: _, h => by cases h
  | _ :: _, [], h => by cases h
theorem tupB_ok {K : PySem.W.Frag} {f : Value → D → Bool} (hf : ∀ u d, f u d = true → ∃ v, RelV v u ∧ ∀ O H, Rp K O H v d) {a : Addr} {ds : List D} (h : tupB f (K.lookup a) ds = true) : ∃ v, RelV v (.ref a) ∧ ∀ O H, Rp K O H v (.tuple ds) := by
  cases q : K.lookup a with
  | none => rw [q] at h; cases h
  | some o =>
    rw [q] at h
    obtain ⟨oc, od, dt, sl⟩ := o
    cases oc with
    | type c =>
      cases dt with
      | seq its m =>
        have h : (decide (c = "tuple") && (decide (its.size ≤ sizeLine) && all2 f its.toList ds)) = true := h
        rw [Bool.and_eq_true, Bool.and_eq_true, decide_eq_true_eq, decide_eq_true_eq] at h
        obtain ⟨rfl, h1, h2⟩ := h
        obtain ⟨vs, r1, r2⟩ := all2_ok hf h2
        refine ⟨.ref a, rfl, fun O H => .tup (.inr ⟨_, its, m, q, rfl, rfl, h1, r1⟩) ?_ (r2 O H)⟩
        rw [Vals.length r1]
        simpa using h1
      | _ => cases h
    | _ => cases h
theorem rpB_ok {K : PySem.W.Frag} : ∀ {n : Nat} (u : Value) (d : D), rpB K n u d = true → ∃ v, RelV v u ∧ ∀ O H, Rp K O H v d := by
  intro n
  induction n with
  | zero => intro u d h; exact atomB_ok h
  | succ n ih =>
    intro u d h
    by_cases c : ∃ a ds, u = .ref a ∧ d = .tuple ds
    · obtain ⟨a, ds, rfl, rfl⟩ := c
      exact tupB_ok ih h
    · have e : rpB K (n + 1) u d = atomB u d := by
        unfold rpB
        split
        · exact absurd ⟨_, _, rfl, rfl⟩ c
        · rfl
      rw [e] at h
      exact atomB_ok h
/-- the constants are these -/
def csB (K : PySem.W.Frag) (cs : List (Str × D)) : Bool := cs.all fun p => match PySem.W.nsIn K mainGlobals p.1 with
  | some (some u) => rpB K 5 u p.2
  | _ => false
theorem csB_ok {K : PySem.W.Frag} {h : Heap} {mg : Str → Option Value} (X : K.In h) (G : h.Ns mainGlobals mg) : ∀ {cs : List (Str × D)}, csB K cs = true → ∀ x d, cs.lookup x = some d → ∃ u v, mg x = some u ∧ RelV v u ∧ ∀ O H, Rp K O H v d
  | [], _, x, d, e => by cases e
  | (y, z) :: cs, h, x, d, e => by
    have h : ((match PySem.W.nsIn K mainGlobals y with
      | some (some u) => rpB K 5 u z
      | _ => false) && csB K cs) = true := h
    rw [Bool.and_eq_true] at h
    rw [List.lookup_cons] at e
    split at e
    · rename_i q
      have q : x = y := by simpa using q
      injection e with e
      subst q e
      have h1 := h.1
      split at h1
      · rename_i u hu
        obtain ⟨v, a1, a2⟩ := rpB_ok _ _ h1
        exact ⟨u, v, PySem.W.mg_of X G hu, a1, a2⟩
      · cases h1
    · exact csB_ok X G h.2 x d e
def esB (K : PySem.W.Frag) : List DictEntry → List (Str × D) → Bool
  | [], [] => true
  | e :: es, (k, d) :: kvs => (match e.key with
    | .str x _ => decide (x = k)
    | _ => false) && (rpB K 5 e.val d && esB K es kvs)
  | _, _ => false
theorem esB_ok {K : PySem.W.Frag} : ∀ {es : List DictEntry} {kvs : List (Str × D)}, esB K es kvs = true → ∀ z : Str,
    (∀ d, tabAt kvs z = some d → ∃ e, es.find? (fun e => e.key.isStr z) = some e ∧ rpB K 5 e.val d = true) ∧ (tabAt kvs z = none → es.find? (fun e => e.key.isStr z) = none ∧ es.any (·.refKey) = false)
  | [], [], _, z => ⟨fun d e => (by cases e), fun _ => ⟨rfl, rfl⟩⟩
  | [], _ :: _, h, _ => by simp [esB] at h
  | _ :: _, [], h, _ => by simp [esB] at h
  | e :: es, (k, d0) :: kvs, h, z => by
    have h : ((match e.key with
    | .str x _ => decide (x = k)
    | _ => false) && (rpB K 5 e.val d0 && esB K es kvs)) = true := h
    rw [Bool.and_eq_true, Bool.and_eq_true] at h
    obtain ⟨h1, h2, h3⟩ := h
    obtain ⟨i1, i2⟩ := esB_ok h3 z
    split at h1
    · rename_i x t q
      have q2 : x = k := by simpa using h1
      subst q2
      have rk : e.refKey = false := by unfold DictEntry.refKey; rw [q]
      have is : e.key.isStr z = (x == z) := by rw [q]; rfl
      by_cases c : x = z
      · subst c
        have t1 : tabAt ((x, d0) :: kvs) x = some d0 := by
          unfold tabAt; rw [List.find?_cons]; simp
        refine ⟨fun d hd => ?_, fun hd => by rw [t1] at hd; cases hd⟩
        rw [t1] at hd
        injection hd with hd
        subst hd
        exact ⟨e, by rw [List.find?_cons, is]; simp, h2⟩
      · have t1 : tabAt ((x, d0) :: kvs) z = tabAt kvs z := by
          unfold tabAt; rw [List.find?_cons]; simp [c]
        have f1 : (e :: es).find? (fun e => e.key.isStr z) = es.find? (fun e => e.key.isStr z) := by
          rw [List.find?_cons, is]
          have : (x == z) = false := by simpa using c
          rw [this]
        rw [t1, f1]
        exact ⟨i1, fun hd => ⟨(i2 hd).1, by rw [List.any_cons, rk, (i2 hd).2]; rfl⟩⟩
    · cases h1
def tabB (K : PySem.W.Frag) (T : Str) (kvs : List (Str × D)) : Bool := eqO' (PySem.W.nsIn K mainGlobals T) && (match K.lookup (He.ga K T) with
  | some ⟨_, _, .dict es _, _⟩ => esB K es.toList kvs
  | _ => false)
where eqO' : Option (Option Value) → Bool := fun o => He.eqO o (some (some (.ref (He.ga K T))))
theorem tab_is {K : PySem.W.Frag} {w : World} {h : Heap} {mg : Str → Option Value} (X : K.In h) (G : h.Ns mainGlobals mg) {T : Str} {kvs : List (Str × D)} {es : Array DictEntry} {n : Nat} (kd : KDict K w (He.ga K T) es n) (c : tabB K T kvs = true) : TabIs K w mg T kvs := by
  unfold tabB at c
  rw [Bool.and_eq_true] at c
  obtain ⟨c1, c2⟩ := c
  have lk := kd.at_
  rw [lk] at c2
  have c2 : esB K es.toList kvs = true := c2
  refine ⟨He.ga K T, es, n, PySem.W.mg_of X G (He.eqO_ok c1), kd, fun z => ?_⟩
  obtain ⟨i1, i2⟩ := esB_ok c2 z
  have nn : ∀ r, es.toList.find? (fun e => e.key.isStr z) = r → PySem.W.nsIn K (He.ga K T) z = (match r with
      | some e => some (some e.val)
      | none => if es.toList.any (·.refKey) then none else some none) := by
    rintro r rfl
    unfold PySem.W.nsIn
    rw [lk]
    rfl
  refine ⟨fun d hd => ?_, fun hd => ?_⟩
  · obtain ⟨e, e1, e2⟩ := i1 d hd
    obtain ⟨v, a1, a2⟩ := rpB_ok _ _ e2
    exact ⟨e.val, v, nn _ e1, a1, a2⟩
  · obtain ⟨e1, e2⟩ := i2 hd
    rw [nn _ e1, e2]; rfl
end Ws

set_option Elab.async false
set_option linter.all false
set_option maxRecDepth 100000
set_option maxHeartbeats 4000000
/-! Sim23: a law from its rows -/
namespace Ws
open PySem PySem.Spec PyProof.Rows L2

/-- a def of the module: its name, its text, its slots, its parameters, what it compiles to -/
structure DRow where
  x : Str
  st : Stmt
  N : List Str
  ps : List Str
  b : List S
def DRow.dd (r : DRow) : He.DefD := ⟨(r.x, none), r.x, r.x, defArgs r.st, defBody r.st, defScope r.st, [], []⟩
def DRow.fn (r : DRow) : Fn := ⟨r.ps.length, r.b, r.N.length⟩
structure DRowOk (c0 : Cfg) (r : DRow) : Prop where
  sc : FnScope r.N r.ps (defScope r.st)
  bs : ∀ (kV doc pm : Value) (an : Option Addr) (cdv ct : Value) (us : List Value), us.length = r.ps.length → bindArgs (PySem.W.fnOf r.x r.x (defArgs r.st) (defBody r.st) (defScope r.st) .none kV doc pm an cdv ct) ⟨us, []⟩ = pure (r.ps.zip us)
  cb : compSs { c0 with N := r.N } (defScope r.st) 200 (defBody r.st) = some r.b
theorem fact_of {fa : List He.Fa} {fn : List He.DefD} {K : PySem.W.Frag} (c : He.SaysD fa fn K) {f : He.Fa} (h : f ∈ fa) : f.ok K = true := by
  obtain ⟨i, hi⟩ := List.getElem?_of_mem h
  exact c.fact i hi
theorem row_def {fa : List He.Fa} {K : PySem.W.Frag} {rows : List DRow} (c : He.SaysD fa (rows.map DRow.dd) K) {i : Nat} {r : DRow} (hi : rows[i]? = some r) : ∃ fd, FunD K r.x r.x (defArgs r.st) (defBody r.st) (defScope r.st) [] [] (He.ga K r.x) fd := by
  obtain ⟨fd, F⟩ := c.def_ i (d := r.dd) (by rw [List.getElem?_map, hi]; rfl)
  exact ⟨fd, F⟩
theorem defs_of {P : Program} {w : World} {K : PySem.W.Frag} {h : Heap} {mg : Str → Option Value} {fa : List He.Fa} {rows : List DRow} {c0 : Cfg} (X : K.In h) (G : h.Ns mainGlobals mg) (c : He.SaysD fa (rows.map DRow.dd) K)
    (hfns : c0.fns = rows.map (·.x)) (ok : ∀ r ∈ rows, DRowOk c0 r) (hglo : ∀ r ∈ rows, He.Fa.glo r.x ∈ fa) (hbl : ∀ x ∈ c0.bl, He.Fa.free x ∈ fa) (hcs : csB K c0.cs = true) (hgcd : c0.gcd = true → mg "gcd" = some (.builtin "math.gcd"))
    (htb : ∀ T kvs, c0.tabs.lookup T = some kvs → TabIs K w mg T kvs) : Defs P w K mg c0 (rows.map DRow.fn) := by
  refine ⟨fun i x hi => ?_, csB_ok X G hcs, fun x hx => He.free_ok X G (fact_of c (hbl x hx)), hgcd, htb⟩
  rw [hfns, List.getElem?_map] at hi
  cases e : rows[i]? with
  | none => rw [e] at hi; cases hi
  | some r =>
    rw [e] at hi
    have hi : r.x = x := by injection hi
    subst hi
    have hr := List.mem_of_getElem? e
    obtain ⟨fd, F⟩ := row_def c e
    exact ⟨_, fd, r.N, r.ps, r.x, _, _, _, r.b, 200, He.glo_ok X G (fact_of c (hglo r hr)), F, (ok r hr).sc, F.bindsN (ok r hr).bs, (ok r hr).cb, by rw [List.getElem?_map, e]; rfl⟩
theorem lk_one {T a : Str} {v kvs : List (Str × D)} (h : List.lookup T [(a, v)] = some kvs) : T = a ∧ v = kvs := by
  rw [List.lookup_cons] at h
  split at h
  · rename_i q
    injection h with h
    exact ⟨by simpa using q, h⟩
  · cases h
/-- the law's def keeps what the pure language says -/
theorem law_of {P : Program} {w : World} {K : PySem.W.Frag} {h : Heap} {mg : Str → Option Value} {fa : List He.Fa} {rows : List DRow} {c0 : Cfg} {fs : List Fn} {i : Nat} {r : DRow} {k : Nat} {p : Str} (X : K.In h) (G : h.Ns mainGlobals mg) (c : He.SaysD fa (rows.map DRow.dd) K)
    (hfns : c0.fns = rows.map (·.x)) (ok : ∀ r ∈ rows, DRowOk c0 r) (hglo : ∀ r ∈ rows, He.Fa.glo r.x ∈ fa) (hbl : ∀ x ∈ c0.bl, He.Fa.free x ∈ fa) (hcs : csB K c0.cs = true) (hgcd : c0.gcd = true → mg "gcd" = some (.builtin "math.gcd"))
    (htb : ∀ T kvs, c0.tabs.lookup T = some kvs → TabIs K w mg T kvs) (hfs : fs = rows.map DRow.fn) (hi : rows[i]? = some r) (hp : r.ps = [p])
    (law : ∀ ns : List Int, ns.length ≤ 63 → call fs (k + 1) i [.list (ns.map .int)] = .ok (.bool true)) :
    ∃ (fd : FuncData) (sp : Sp), mg r.x = some (.ref (He.ga K r.x)) ∧ (∀ (s : Shared) (u : Value), BindsTo s fd ⟨[u], []⟩ [(p, u)]) ∧
      (∀ (H : Hp) (a : Addr) (ns : List Int), ns.length ≤ 63 → Only H → SqL K H a (ns.map V.int) → sp [.ref a] H (fun v _ => v = .bl true) fun _ _ _ => False) ∧
      ∀ base : Heap, K.In base → base.Ns mainGlobals mg → FnOk P w K mg base (CXa P) (k + 1) (He.ga K r.x) fd [p] sp := by
  subst hfs
  have hr := List.mem_of_getElem? hi
  obtain ⟨fd, F⟩ := row_def c hi
  have D := defs_of (P := P) (w := w) X G c hfns ok hglo hbl hcs hgcd htb
  refine ⟨fd, spD K (call (rows.map DRow.fn) (k + 1)) 0 i 1, He.glo_ok X G (fact_of c (hglo r hr)), fun s u => ?_, fun H a ns hn _ hS => law_sp hn (by decide) hS (law ns hn), fun base _ _ => ?_⟩
  · have b := F.bindsA (ps := r.ps) (ok r hr).bs s [u] (by rw [hp]; rfl)
    rw [hp] at b
    exact b
  · have := fn_top (base := base) (C := 0) (k := k) (i := i) D F (ok r hr).sc (ok r hr).cb (by rw [List.getElem?_map, hi]; rfl)
    rw [hp] at this
    exact FnOk.any this
end Ws

set_option maxRecDepth 100000
namespace Ws
open PySem
namespace K01
abbrev t (x : String) : Str := Str.ofString x
def tabT : List (Str × D) := [((t "ash"), (.tuple [(.str (t "holds")), (.str (t "marks")), (.str (t "soft"))])), ((t "chalk"), (.tuple [(.str (t "hard")), (.str (t "lets"))])), ((t "clay"), (.tuple [(.str (t "holds")), (.str (t "soft"))])), ((t "coal"), (.tuple [(.str (t "burns")), (.str (t "lets")), (.str (t "soft"))])), ((t "gravel"), (.tuple [(.str (t "lets")), (.str (t "soft"))])), ((t "lime"), (.tuple [(.str (t "hard")), (.str (t "lets"))])), ((t "loam"), (.tuple [(.str (t "lets")), (.str (t "soft"))])), ((t "marl"), (.tuple [(.str (t "holds")), (.str (t "soft"))])), ((t "rock"), (.tuple [(.str (t "hard")), (.str (t "holds"))])), ((t "salt"), (.tuple [(.str (t "holds")), (.str (t "melts")), (.str (t "soft"))])), ((t "sand"), (.tuple [(.str (t "lets")), (.str (t "soft"))])), ((t "shale"), (.tuple [(.str (t "hard")), (.str (t "holds"))]))]
def b_need : List S := [(.iff (.not_ (.wv 0)) [.stuck] [])]
def f_need : Fn := ⟨2, b_need, 2⟩
def b_is_integer : List S := [(.ret (.and_ (.isi (.wv 0) [.int]) (.not_ (.isi (.wv 0) [.bool]))))]
def f_is_integer : Fn := ⟨1, b_is_integer, 1⟩
def b_is_between : List S := [(.ret (.and_ (.nomut (.call 1 [(.var 0)])) (.chain .le .le (.wv 1) (.wv 0) (.wv 2))))]
def f_is_between : Fn := ⟨3, b_is_between, 3⟩
def b_is_sequence : List S := [(.ret (.isi (.wv 0) [.list, .tuple]))]
def f_is_sequence : Fn := ⟨1, b_is_sequence, 1⟩
def b_is_row : List S := [(.ret (.and_ (.nomut (.call 3 [(.var 0)])) (.chain .le .le (.wv 1) (.bi .len [(.wv 0)]) (.wv 2))))]
def f_is_row : Fn := ⟨3, b_is_row, 3⟩
def b_is_name : List S := [(.iff (.or_ (.not_ (.isi (.wv 0) [.str])) (.not_ (.chain .le .le (.lit (.int (1))) (.bi .len [(.wv 0)]) (.lit (.int (8)))))) [(.ret (.lit (.bool false)))] []), (.ret (.bi .all [(.lc [1] (.cmp .in_ (.wv 1) (.gl (.str (t "abcdefghijklmnopqrstuvwxyz")))) (.nm 1) (.seq (.wv 0)) .none)]))]
def f_is_name : Fn := ⟨1, b_is_name, 2⟩
def b_tupled : List S := [(.iff (.nomut (.call 3 [(.var 0)])) [(.ret (.bi .tuple [(.lc [1] (.nomut (.call 6 [(.var 1)])) (.nm 1) (.seq (.wv 0)) .none)]))] []), (.ret (.var 0))]
def f_tupled : Fn := ⟨1, b_tupled, 2⟩
def b_rank : List S := [(.iff (.cmp .is_ (.wv 0) (.lit .none)) [(.ret (.tup [(.lit (.int (0)))]))] []), (.iff (.isi (.wv 0) [.bool]) [(.ret (.tup [(.lit (.int (1))), (.bi .int [(.wv 0)])]))] []), (.iff (.isi (.wv 0) [.int]) [(.ret (.tup [(.lit (.int (2))), (.var 0)]))] []), (.iff (.isi (.wv 0) [.str]) [(.ret (.tup [(.lit (.int (3))), (.var 0)]))] []), (.ret (.tup [(.lit (.int (4))), (.bi .tuple [(.lc [1] (.nomut (.call 7 [(.var 1)])) (.nm 1) (.seq (.wv 0)) .none)])]))]
def f_rank : Fn := ⟨1, b_rank, 2⟩
def b_is_ascending : List S := [(.asg (.nm 1) (.lc [2] (.nomut (.call 7 [(.var 2)])) (.nm 2) (.seq (.wv 0)) .none) true []), (.ret (.bi .all [(.lc [3] (.cmp .lt (.idx (.wv 1) (.wv 3)) (.idx (.wv 1) (.bin .add (.wv 3) (.lit (.int (1)))))) (.nm 3) (.rng1 (.bin .sub (.bi .len [(.wv 1)]) (.lit (.int (1))))) .none)]))]
def f_is_ascending : Fn := ⟨1, b_is_ascending, 4⟩
def b_is_stuff : List S := [(.ret (.and_ (.isi (.wv 0) [.str]) (.inT [(t "ash"), (t "chalk"), (t "clay"), (t "coal"), (t "gravel"), (t "lime"), (t "loam"), (t "marl"), (t "rock"), (t "salt"), (t "sand"), (t "shale")] false (.wv 0))))]
def f_is_stuff : Fn := ⟨1, b_is_stuff, 1⟩
def b_traits : List S := [(.drop (.nomut (.call 0 [(.nomut (.call 9 [(.var 0)])), (.lit (.int (1)))])) []), (.ret (.atT tabT (.wv 0)))]
def f_traits : Fn := ⟨1, b_traits, 1⟩
def b_is_words : List S := [(.iff (.not_ (.nomut (.call 4 [(.var 0), (.lit (.int (0))), (.bi .len [(.gl (.tuple [(.str (t "burns")), (.str (t "hard")), (.str (t "holds")), (.str (t "lets")), (.str (t "marks")), (.str (t "melts")), (.str (t "soft"))]))])]))) [(.ret (.lit (.bool false)))] []), (.iff (.not_ (.bi .all [(.lc [2] (.and_ (.isi (.wv 2) [.str]) (.cmp .in_ (.wv 2) (.gl (.tuple [(.str (t "burns")), (.str (t "hard")), (.str (t "holds")), (.str (t "lets")), (.str (t "marks")), (.str (t "melts")), (.str (t "soft"))])))) (.nm 2) (.seq (.wv 0)) .none)])) [(.ret (.lit (.bool false)))] []), (.ret (.bi .all [(.lc [1] (.cmp .nin (.idx (.wv 0) (.wv 1)) (.sli (.wv 0) .none (.some (.wv 1)))) (.nm 1) (.rng1 (.bi .len [(.wv 0)])) .none)]))]
def f_is_words : Fn := ⟨1, b_is_words, 3⟩
def b_stuffs_with : List S := [(.drop (.nomut (.call 0 [(.nomut (.call 11 [(.var 0)])), (.lit (.int (1)))])) []), (.ret (.bi .tuple [(.lc [1] (.var 1) (.nm 1) (.seq (.gl (.tuple [(.str (t "ash")), (.str (t "chalk")), (.str (t "clay")), (.str (t "coal")), (.str (t "gravel")), (.str (t "lime")), (.str (t "loam")), (.str (t "marl")), (.str (t "rock")), (.str (t "salt")), (.str (t "sand")), (.str (t "shale"))]))) (.some (.bi .all [(.lc [2] (.cmp .in_ (.wv 2) (.atT tabT (.wv 1))) (.nm 2) (.seq (.wv 0)) .none)])))]))]
def f_stuffs_with : Fn := ⟨1, b_stuffs_with, 3⟩
def b_is_bed : List S := [(.iff (.or_ (.not_ (.nomut (.call 4 [(.var 0), (.lit (.int (3))), (.lit (.int (3)))]))) (.not_ (.nomut (.call 9 [(.idx (.wv 0) (.lit (.int (0))))])))) [(.ret (.lit (.bool false)))] []), (.iff (.or_ (.not_ (.nomut (.call 2 [(.idx (.wv 0) (.lit (.int (1)))), (.lit (.int (1))), (.gl (.int (99)))]))) (.not_ (.nomut (.call 2 [(.idx (.wv 0) (.lit (.int (2)))), (.lit (.int (1))), (.gl (.int (99)))])))) [(.ret (.lit (.bool false)))] []), (.ret (.cmp .le (.idx (.wv 0) (.lit (.int (1)))) (.idx (.wv 0) (.lit (.int (2))))))]
def f_is_bed : Fn := ⟨1, b_is_bed, 1⟩
def b_is_log : List S := [(.ret (.and_ (.nomut (.call 4 [(.var 0), (.lit (.int (1))), (.gl (.int (12)))])) (.bi .all [(.lc [1] (.nomut (.call 13 [(.var 1)])) (.nm 1) (.seq (.wv 0)) .none)])))]
def f_is_log : Fn := ⟨1, b_is_log, 2⟩
def b_is_place : List S := [(.ret (.and_ (.nomut (.call 2 [(.var 0), (.lit (.int (0))), (.gl (.int (60)))])) (.nomut (.call 2 [(.var 1), (.lit (.int (0))), (.gl (.int (60)))]))))]
def f_is_place : Fn := ⟨2, b_is_place, 2⟩
def b_is_well : List S := [(.iff (.or_ (.not_ (.nomut (.call 4 [(.var 0), (.lit (.int (5))), (.lit (.int (5)))]))) (.not_ (.nomut (.call 5 [(.idx (.wv 0) (.lit (.int (0))))])))) [(.ret (.lit (.bool false)))] []), (.iff (.or_ (.not_ (.nomut (.call 15 [(.idx (.wv 0) (.lit (.int (1)))), (.idx (.wv 0) (.lit (.int (2))))]))) (.not_ (.nomut (.call 2 [(.idx (.wv 0) (.lit (.int (3)))), (.neg (.lit (.int (500)))), (.lit (.int (500)))])))) [(.ret (.lit (.bool false)))] []), (.ret (.nomut (.call 14 [(.idx (.wv 0) (.lit (.int (4))))])))]
def f_is_well : Fn := ⟨1, b_is_well, 1⟩
def b_is_wells : List S := [(.iff (.or_ (.not_ (.nomut (.call 4 [(.var 0), (.lit (.int (1))), (.gl (.int (8)))]))) (.not_ (.bi .all [(.lc [3] (.nomut (.call 16 [(.var 3)])) (.nm 3) (.seq (.wv 0)) .none)]))) [(.ret (.lit (.bool false)))] []), (.asg (.nm 1) (.lc [3] (.idx (.wv 3) (.lit (.int (0)))) (.nm 3) (.seq (.wv 0)) .none) true []), (.asg (.nm 2) (.lc [3] (.tup [(.idx (.wv 3) (.lit (.int (1)))), (.idx (.wv 3) (.lit (.int (2))))]) (.nm 3) (.seq (.wv 0)) .none) true []), (.ret (.and_ (.nomut (.call 8 [(.var 1)])) (.cmp .eq (.lset (.wv 2)) (.bi .len [(.wv 2)]))))]
def f_is_wells : Fn := ⟨1, b_is_wells, 4⟩
def b_well_named : List S := [(.iff (.not_ (.nomut (.call 5 [(.var 1)]))) [(.ret (.lit .none))] []), (.for_ (.nm 2) (.seq (.var 0)) [(.iff (.cmp .eq (.idx (.wv 2) (.lit (.int (0)))) (.wv 1)) [(.ret (.var 2))] [])] [0]), (.ret (.lit .none))]
def f_well_named : Fn := ⟨2, b_well_named, 3⟩
def b_is_spot : List S := [(.iff (.not_ (.nomut (.call 4 [(.var 1), (.lit (.int (2))), (.lit (.int (2)))]))) [(.ret (.lit (.bool false)))] []), (.asg (.nm 2) (.call 18 [(.var 0), (.idx (.wv 1) (.lit (.int (0))))]) false [0]), (.ret (.and_ (.cmp .isn (.wv 2) (.lit .none)) (.nomut (.call 2 [(.idx (.wv 1) (.lit (.int (1)))), (.lit (.int (0))), (.bin .sub (.bi .len [(.idx (.wv 2) (.lit (.int (4))))]) (.lit (.int (1))))]))))]
def f_is_spot : Fn := ⟨2, b_is_spot, 3⟩
def b_spots : List S := [(.drop (.nomut (.call 0 [(.nomut (.call 17 [(.var 0)])), (.lit (.int (1)))])) []), (.ret (.bi .tuple [(.lc2 [1, 2] [2] (.tup [(.idx (.wv 1) (.lit (.int (0)))), (.var 2)]) (.nm 1) (.seq (.wv 0)) .none (.nm 2) (.rng1 (.bi .len [(.idx (.wv 1) (.lit (.int (4))))])) .none)]))]
def f_spots : Fn := ⟨1, b_spots, 3⟩
def b_bed : List S := [(.drop (.nomut (.call 0 [(.nomut (.call 17 [(.var 0)])), (.lit (.int (1)))])) []), (.drop (.nomut (.call 0 [(.nomut (.call 19 [(.var 0), (.var 1)])), (.lit (.int (2)))])) []), (.ret (.nomut (.call 6 [(.idx (.idx (.call 18 [(.var 0), (.idx (.wv 1) (.lit (.int (0))))]) (.lit (.int (4)))) (.idx (.wv 1) (.lit (.int (1)))))])))]
def f_bed : Fn := ⟨2, b_bed, 2⟩
def b_thick : List S := [(.drop (.nomut (.call 0 [(.nomut (.call 14 [(.var 0)])), (.lit (.int (1)))])) []), (.drop (.nomut (.call 0 [(.nomut (.call 2 [(.var 1), (.lit (.int (0))), (.bin .sub (.bi .len [(.wv 0)]) (.lit (.int (1))))])), (.lit (.int (2)))])) []), (.drop (.nomut (.call 0 [(.nomut (.call 2 [(.var 2), (.bin .sub (.wv 1) (.lit (.int (1)))), (.bin .sub (.bi .len [(.wv 0)]) (.lit (.int (1))))])), (.lit (.int (3)))])) []), (.asg (.nm 3) (.sli (.wv 0) (.some (.wv 1)) (.some (.bin .add (.wv 2) (.lit (.int (1)))))) true []), (.ret (.tup [(.bi .sum [(.lc [4] (.idx (.wv 4) (.lit (.int (1)))) (.nm 4) (.seq (.wv 3)) .none)]), (.bi .sum [(.lc [4] (.idx (.wv 4) (.lit (.int (2)))) (.nm 4) (.seq (.wv 3)) .none)])]))]
def f_thick : Fn := ⟨3, b_thick, 5⟩
def b_depth : List S := [(.drop (.nomut (.call 0 [(.nomut (.call 14 [(.var 0)])), (.lit (.int (1)))])) []), (.drop (.nomut (.call 0 [(.nomut (.call 2 [(.var 1), (.lit (.int (0))), (.bi .len [(.wv 0)])])), (.lit (.int (2)))])) []), (.ret (.nomut (.call 22 [(.var 0), (.lit (.int (0))), (.bin .sub (.wv 1) (.lit (.int (1))))])))]
def f_depth : Fn := ⟨2, b_depth, 2⟩
def b_height : List S := [(.drop (.nomut (.call 0 [(.nomut (.call 16 [(.var 0)])), (.lit (.int (1)))])) []), (.drop (.nomut (.call 0 [(.nomut (.call 2 [(.var 1), (.lit (.int (0))), (.bi .len [(.idx (.wv 0) (.lit (.int (4))))])])), (.lit (.int (2)))])) []), (.asg (.tp [(.nm 2), (.nm 3)]) (.nomut (.call 23 [(.idx (.wv 0) (.lit (.int (4)))), (.var 1)])) false []), (.ret (.tup [(.bin .sub (.idx (.wv 0) (.lit (.int (3)))) (.wv 3)), (.bin .sub (.idx (.wv 0) (.lit (.int (3)))) (.wv 2))]))]
def f_height : Fn := ⟨2, b_height, 4⟩
def b_may : List S := [(.drop (.nomut (.call 0 [(.nomut (.call 14 [(.var 0)])), (.lit (.int (1)))])) []), (.drop (.nomut (.call 0 [(.nomut (.call 2 [(.var 1), (.lit (.int (0))), (.gl (.int (1200)))])), (.lit (.int (2)))])) []), (.ret (.bi .tuple [(.lc [2] (.var 2) (.nm 2) (.rng1 (.bi .len [(.wv 0)])) (.some (.chain .le .lt (.idx (.nomut (.call 23 [(.var 0), (.var 2)])) (.lit (.int (0)))) (.wv 1) (.idx (.nomut (.call 23 [(.var 0), (.bin .add (.wv 2) (.lit (.int (1))))])) (.lit (.int (1)))))))]))]
def f_may : Fn := ⟨2, b_may, 3⟩
def b_must : List S := [(.drop (.nomut (.call 0 [(.nomut (.call 14 [(.var 0)])), (.lit (.int (1)))])) []), (.drop (.nomut (.call 0 [(.nomut (.call 2 [(.var 1), (.lit (.int (0))), (.gl (.int (1200)))])), (.lit (.int (2)))])) []), (.for_ (.nm 2) (.rng1 (.bi .len [(.wv 0)])) [(.iff (.chain .le .lt (.idx (.nomut (.call 23 [(.var 0), (.var 2)])) (.lit (.int (1)))) (.wv 1) (.idx (.nomut (.call 23 [(.var 0), (.bin .add (.wv 2) (.lit (.int (1))))])) (.lit (.int (0))))) [(.ret (.var 2))] [])] []), (.ret (.lit .none))]
def f_must : Fn := ⟨2, b_must, 3⟩
def b_runs_out : List S := [(.drop (.nomut (.call 0 [(.nomut (.call 14 [(.var 0)])), (.lit (.int (1)))])) []), (.ret (.idx (.nomut (.call 23 [(.var 0), (.bi .len [(.wv 0)])])) (.lit (.int (1)))))]
def f_runs_out : Fn := ⟨1, b_runs_out, 1⟩
def b_plain : List S := [(.drop (.nomut (.call 0 [(.nomut (.call 14 [(.var 0)])), (.lit (.int (1)))])) []), (.asg (.nm 1) (.lst []) true []), (.for_ (.tp [(.nm 2), (.nm 3), (.nm 4)]) (.seq (.var 0)) [(.iff (.and_ (.var 1) (.cmp .eq (.idx (.idx (.wv 1) (.neg (.lit (.int (1))))) (.lit (.int (0)))) (.wv 2))) [(.asg (.nm 5) (.bi .min [(.gl (.int (99))), (.bin .add (.idx (.idx (.wv 1) (.neg (.lit (.int (1))))) (.lit (.int (1)))) (.wv 3))]) false []), (.asg (.nm 6) (.bi .min [(.gl (.int (99))), (.bin .add (.idx (.idx (.wv 1) (.neg (.lit (.int (1))))) (.lit (.int (2)))) (.wv 4))]) false []), (.seti 1 (.neg (.lit (.int (1)))) (.tup [(.var 2), (.var 5), (.var 6)]) [2, 5, 6])] [(.app 1 (.tup [(.var 2), (.var 3), (.var 4)]) [2, 3, 4])])] [0]), (.ret (.bi .tuple [(.wv 1)]))]
def f_plain : Fn := ⟨1, b_plain, 7⟩
def b_moved : List S := [(.drop (.nomut (.call 0 [(.nomut (.call 17 [(.var 0)])), (.lit (.int (1)))])) []), (.drop (.nomut (.call 0 [(.nomut (.call 1 [(.var 1)])), (.lit (.int (2)))])) []), (.drop (.nomut (.call 0 [(.nomut (.call 1 [(.var 2)])), (.lit (.int (3)))])) []), (.drop (.nomut (.call 0 [(.nomut (.call 1 [(.var 3)])), (.lit (.int (4)))])) []), (.asg (.nm 4) (.lst []) true []), (.for_ (.tp [(.nm 5), (.nm 6), (.nm 7), (.nm 8), (.nm 9)]) (.seq (.nomut (.call 6 [(.var 0)]))) [(.app 4 (.tup [(.var 5), (.bin .add (.wv 6) (.wv 1)), (.bin .add (.wv 7) (.wv 2)), (.bin .add (.wv 8) (.wv 3)), (.var 9)]) [5, 9])] []), (.iff (.not_ (.nomut (.call 17 [(.var 4)]))) [(.ret (.lit .none))] []), (.ret (.bi .tuple [(.wv 4)]))]
def f_moved : Fn := ⟨4, b_moved, 10⟩
def b_turned : List S := [(.drop (.nomut (.call 0 [(.nomut (.call 17 [(.var 0)])), (.lit (.int (1)))])) []), (.ret (.bi .tuple [(.lc [1, 2, 3, 4, 5] (.tup [(.var 1), (.bin .sub (.gl (.int (60))) (.wv 3)), (.var 2), (.var 4), (.var 5)]) (.tp [(.nm 1), (.nm 2), (.nm 3), (.nm 4), (.nm 5)]) (.seq (.nomut (.call 6 [(.var 0)]))) .none)]))]
def f_turned : Fn := ⟨1, b_turned, 6⟩
def b_looser : List S := [(.drop (.nomut (.call 0 [(.nomut (.call 14 [(.var 0)])), (.lit (.int (1)))])) []), (.drop (.nomut (.call 0 [(.nomut (.call 2 [(.var 1), (.lit (.int (0))), (.gl (.int (99)))])), (.lit (.int (2)))])) []), (.ret (.bi .tuple [(.lc [2, 3, 4] (.tup [(.var 2), (.bi .max [(.lit (.int (1))), (.bin .sub (.wv 3) (.wv 1))]), (.bi .min [(.gl (.int (99))), (.bin .add (.wv 4) (.wv 1))])]) (.tp [(.nm 2), (.nm 3), (.nm 4)]) (.seq (.wv 0)) .none)]))]
def f_looser : Fn := ⟨2, b_looser, 5⟩
def b_apart_squared : List S := [(.ret (.bin .add (.bin .pow (.bin .sub (.idx (.wv 0) (.lit (.int (1)))) (.idx (.wv 1) (.lit (.int (1))))) (.lit (.int (2)))) (.bin .pow (.bin .sub (.idx (.wv 0) (.lit (.int (2)))) (.idx (.wv 1) (.lit (.int (2))))) (.lit (.int (2))))))]
def f_apart_squared : Fn := ⟨2, b_apart_squared, 2⟩
def b_nearest : List S := [(.drop (.nomut (.call 0 [(.nomut (.call 17 [(.var 0)])), (.lit (.int (1)))])) []), (.asg (.nm 2) (.call 18 [(.var 0), (.var 1)]) false [0, 1]), (.drop (.nomut (.call 0 [(.cmp .isn (.wv 2) (.lit .none)), (.lit (.int (2)))])) []), (.asg (.nm 3) (.lc [4] (.tup [(.nomut (.call 32 [(.var 2), (.var 4)])), (.idx (.wv 4) (.lit (.int (0))))]) (.nm 4) (.seq (.wv 0)) (.some (.cmp .ne (.idx (.wv 4) (.lit (.int (0)))) (.wv 1)))) true []), (.ret (.bi .tuple [(.lc [5] (.idx (.wv 5) (.lit (.int (1)))) (.nm 5) (.seq (.bi .sorted [(.wv 3)])) .none)]))]
def f_nearest : Fn := ⟨2, b_nearest, 6⟩
def b_square : List S := [(.drop (.nomut (.call 0 [(.nomut (.call 17 [(.var 0)])), (.lit (.int (1)))])) []), (.drop (.nomut (.call 0 [(.cmp .isn (.call 18 [(.var 0), (.var 1)]) (.lit .none)), (.lit (.int (2)))])) []), (.drop (.nomut (.call 0 [(.cmp .isn (.call 18 [(.var 0), (.var 2)]) (.lit .none)), (.lit (.int (3)))])) []), (.ret (.nomut (.call 32 [(.call 18 [(.var 0), (.var 1)]), (.call 18 [(.var 0), (.var 2)])])))]
def f_square : Fn := ⟨3, b_square, 3⟩
def b__law_same : List S := [(.iff (.and_ (.isi (.wv 0) [.tuple]) (.isi (.wv 1) [.tuple])) [(.ret (.and_ (.cmp .eq (.bi .len [(.wv 0)]) (.bi .len [(.wv 1)])) (.cmp .eq (.lc [3] (.var 3) (.nm 3) (.rng1 (.bi .len [(.wv 0)])) (.some (.not_ (.nomut (.call 35 [(.idx (.wv 0) (.wv 3)), (.idx (.wv 1) (.wv 3))]))))) (.lst []))))] []), (.iff (.or_ (.cmp .is_ (.wv 0) (.lit .none)) (.cmp .is_ (.wv 1) (.lit .none))) [(.ret (.and_ (.cmp .is_ (.wv 0) (.lit .none)) (.cmp .is_ (.wv 1) (.lit .none))))] []), (.asg (.nm 2) (.and_ (.isi (.wv 0) [.int, .str]) (.cmp .eq (.isi (.wv 0) [.int]) (.isi (.wv 1) [.int]))) false []), (.ret (.and_ (.var 2) (.and_ (.cmp .eq (.isi (.wv 0) [.bool]) (.isi (.wv 1) [.bool])) (.cmp .eq (.wv 0) (.wv 1)))))]
def f__law_same : Fn := ⟨2, b__law_same, 4⟩
def b__law_listed : List S := [(.iff (.isi (.wv 0) [.tuple]) [(.ret (.lc [1] (.call 36 [(.var 1)]) (.nm 1) (.seq (.wv 0)) .none))] []), (.ret (.var 0))]
def f__law_listed : Fn := ⟨1, b__law_listed, 2⟩
def b__law_cell : List S := [(.iff (.cmp .lt (.wv 1) (.bi .len [(.wv 0)])) [(.ret (.bi .int [(.idx (.wv 0) (.wv 1))]))] []), (.ret (.lit (.int (0))))]
def f__law_cell : Fn := ⟨2, b__law_cell, 2⟩
def b__law_numbers : List S := [(.asg (.nm 3) (.nomut (.call 37 [(.var 0), (.var 1)])) false []), (.asg (.nm 4) (.lst []) true []), (.asg (.nm 5) (.var 3) false [3]), (.for_ (.nm 6) (.rng1 (.wv 2)) [(.iff (.cmp .ge (.wv 3) (.bin .pow (.lit (.int (10))) (.lit (.int (18))))) [(.app 4 (.bin .mod (.bi .int [(.wv 5)]) (.bin .pow (.lit (.int (10))) (.lit (.int (9))))) []), (.asg (.nm 5) (.bin .fdiv (.wv 5) (.bin .pow (.lit (.int (10))) (.lit (.int (9))))) true [])] [(.asg (.nm 7) (.bin .mod (.bi .int [(.bin .add (.bin .add (.bin .mul (.wv 3) (.lit (.int (48271)))) (.bin .mul (.bin .add (.wv 6) (.lit (.int (1)))) (.lit (.int (69621))))) (.wv 1))]) (.lit (.int (2147483647)))) true []), (.app 4 (.bin .mod (.bin .mod (.bi .int [(.bin .add (.bin .mul (.wv 7) (.lit (.int (16807)))) (.bin .mul (.bin .add (.wv 6) (.lit (.int (3)))) (.lit (.int (40692)))))]) (.lit (.int (2147483399)))) (.bin .pow (.lit (.int (10))) (.lit (.int (9))))) [])])] []), (.ret (.var 4))]
def f__law_numbers : Fn := ⟨3, b__law_numbers, 8⟩
def b__law_stuffs : List S := [(.ret (.lst [(.lit (.str (t "ash"))), (.lit (.str (t "chalk"))), (.lit (.str (t "clay"))), (.lit (.str (t "coal"))), (.lit (.str (t "gravel"))), (.lit (.str (t "lime"))), (.lit (.str (t "loam"))), (.lit (.str (t "marl"))), (.lit (.str (t "rock"))), (.lit (.str (t "salt"))), (.lit (.str (t "sand"))), (.lit (.str (t "shale")))]))]
def f__law_stuffs : Fn := ⟨0, b__law_stuffs, 0⟩
def b__law_some_stuffs : List S := [(.asg (.nm 1) (.call 39 []) false []), (.asg (.nm 2) (.bin .mod (.bi .int [(.wv 0)]) (.lit (.int (12)))) true []), (.ret (.sli (.lst [(.idx (.wv 1) (.wv 2)), (.idx (.wv 1) (.bin .mod (.bin .add (.bin .add (.wv 2) (.lit (.int (1)))) (.bin .mod (.bi .int [(.bin .fdiv (.wv 0) (.lit (.int (12))))]) (.lit (.int (5))))) (.lit (.int (12))))), (.idx (.wv 1) (.bin .mod (.bin .add (.bin .add (.wv 2) (.lit (.int (6)))) (.bin .mod (.bi .int [(.bin .fdiv (.wv 0) (.lit (.int (60))))]) (.lit (.int (6))))) (.lit (.int (12)))))]) .none (.some (.bin .add (.lit (.int (2))) (.bin .mod (.bi .int [(.bin .fdiv (.wv 0) (.lit (.int (360))))]) (.lit (.int (2))))))))]
def f__law_some_stuffs : Fn := ⟨1, b__law_some_stuffs, 3⟩
def b__law_bed : List S := [(.asg (.nm 2) (.bi .int [(.wv 0)]) true []), (.asg (.nm 3) (.bin .add (.lit (.int (1))) (.bin .mod (.bi .int [(.bin .fdiv (.wv 2) (.lit (.int (3))))]) (.lit (.int (9))))) true []), (.ret (.tup [(.idx (.wv 1) (.bin .mod (.wv 2) (.bi .len [(.wv 1)]))), (.var 3), (.bin .add (.wv 3) (.bin .mod (.bi .int [(.bin .fdiv (.wv 2) (.lit (.int (27))))]) (.lit (.int (4)))))]))]
def f__law_bed : Fn := ⟨2, b__law_bed, 4⟩
def b__law_log : List S := [(.asg (.nm 3) (.bi .int [(.wv 0)]) true []), (.asg (.nm 4) (.lst []) true []), (.for_ (.nm 5) (.rng1 (.bin .add (.lit (.int (1))) (.bin .mod (.wv 3) (.wv 2)))) [(.app 4 (.nomut (.call 41 [(.bin .add (.bi .int [(.bin .fdiv (.wv 3) (.bin .add (.wv 2) (.bin .mul (.lit (.int (3))) (.wv 5))))]) (.bin .mul (.lit (.int (11))) (.wv 5))), (.var 1)])) [])] []), (.ret (.bi .tuple [(.wv 4)]))]
def f__law_log : Fn := ⟨3, b__law_log, 6⟩
def b__law_wells : List S := [(.asg (.nm 4) (.lst [(.lit (.str (t "ash"))), (.lit (.str (t "birch"))), (.lit (.str (t "cedar"))), (.lit (.str (t "dogwood")))]) true []), (.asg (.nm 5) (.lst []) true []), (.for_ (.nm 6) (.rng1 (.wv 2)) [(.asg (.nm 7) (.bi .int [(.idx (.wv 0) (.wv 6))]) true []), (.app 5 (.tup [(.idx (.wv 4) (.wv 6)), (.bin .add (.bin .mul (.lit (.int (10))) (.wv 6)) (.bin .mod (.wv 7) (.lit (.int (10))))), (.bin .mod (.bi .int [(.bin .fdiv (.wv 7) (.lit (.int (10))))]) (.lit (.int (60)))), (.bin .sub (.bin .mod (.bi .int [(.bin .fdiv (.wv 7) (.lit (.int (600))))]) (.lit (.int (90)))) (.lit (.int (40)))), (.nomut (.call 42 [(.bi .int [(.bin .fdiv (.wv 7) (.lit (.int (7))))]), (.var 1), (.var 3)]))]) [])] []), (.ret (.bi .tuple [(.wv 5)]))]
def f__law_wells : Fn := ⟨4, b__law_wells, 8⟩
def b__law_spots : List S := [(.asg (.nm 1) (.lst []) true []), (.for_ (.nm 2) (.seq (.var 0)) [(.asg (.nm 1) (.bin .add (.wv 1) (.lc [3] (.tup [(.idx (.wv 2) (.lit (.int (0)))), (.var 3)]) (.nm 3) (.rng1 (.bi .len [(.idx (.wv 2) (.lit (.int (4))))])) .none)) true [3])] [0]), (.ret (.var 1))]
def f__law_spots : Fn := ⟨1, b__law_spots, 4⟩
def b__law_traits : List S := [(.ret (.dd [(.inr (t "ash")), (.inr (t "chalk")), (.inr (t "clay")), (.inr (t "coal")), (.inr (t "gravel")), (.inr (t "lime")), (.inr (t "loam")), (.inr (t "marl")), (.inr (t "rock")), (.inr (t "salt")), (.inr (t "sand")), (.inr (t "shale"))] [(.tup [(.lit (.str (t "holds"))), (.lit (.str (t "marks"))), (.lit (.str (t "soft")))]), (.tup [(.lit (.str (t "hard"))), (.lit (.str (t "lets")))]), (.tup [(.lit (.str (t "holds"))), (.lit (.str (t "soft")))]), (.tup [(.lit (.str (t "burns"))), (.lit (.str (t "lets"))), (.lit (.str (t "soft")))]), (.tup [(.lit (.str (t "lets"))), (.lit (.str (t "soft")))]), (.tup [(.lit (.str (t "hard"))), (.lit (.str (t "lets")))]), (.tup [(.lit (.str (t "lets"))), (.lit (.str (t "soft")))]), (.tup [(.lit (.str (t "holds"))), (.lit (.str (t "soft")))]), (.tup [(.lit (.str (t "hard"))), (.lit (.str (t "holds")))]), (.tup [(.lit (.str (t "holds"))), (.lit (.str (t "melts"))), (.lit (.str (t "soft")))]), (.tup [(.lit (.str (t "lets"))), (.lit (.str (t "soft")))]), (.tup [(.lit (.str (t "hard"))), (.lit (.str (t "holds")))])]))]
def f__law_traits : Fn := ⟨0, b__law_traits, 0⟩
def b__law_thick : List S := [(.ret (.tup [(.bi .sum [(.lc [3] (.idx (.wv 3) (.lit (.int (1)))) (.nm 3) (.seq (.sli (.wv 0) (.some (.wv 1)) (.some (.bin .add (.wv 2) (.lit (.int (1))))))) .none)]), (.bi .sum [(.lc [3] (.idx (.wv 3) (.lit (.int (2)))) (.nm 3) (.seq (.sli (.wv 0) (.some (.wv 1)) (.some (.bin .add (.wv 2) (.lit (.int (1))))))) .none)])]))]
def f__law_thick : Fn := ⟨3, b__law_thick, 4⟩
def b__law_plain : List S := [(.asg (.nm 1) (.lst []) true []), (.for_ (.tp [(.nm 2), (.nm 3), (.nm 4)]) (.seq (.var 0)) [(.iff (.and_ (.cmp .ne (.wv 1) (.lst [])) (.cmp .eq (.idx (.idx (.wv 1) (.neg (.lit (.int (1))))) (.lit (.int (0)))) (.wv 2))) [(.seti 1 (.neg (.lit (.int (1)))) (.tup [(.var 2), (.bi .min [(.lit (.int (99))), (.bin .add (.idx (.idx (.wv 1) (.neg (.lit (.int (1))))) (.lit (.int (1)))) (.wv 3))]), (.bi .min [(.lit (.int (99))), (.bin .add (.idx (.idx (.wv 1) (.neg (.lit (.int (1))))) (.lit (.int (2)))) (.wv 4))])]) [2])] [(.app 1 (.tup [(.var 2), (.var 3), (.var 4)]) [2, 3, 4])])] [0]), (.ret (.bi .tuple [(.wv 1)]))]
def f__law_plain : Fn := ⟨1, b__law_plain, 5⟩
def b_law_f0 : List S := [(.iff (.not_ (.nomut (.call 35 [(.nomut (.call 10 [(.var 3)])), (.idx (.call 45 []) (.wv 3))]))) [(.ret (.lit (.bool false)))] [])]
def b_law_f1 : List S := [(.iff (.and_ (.cmp .lt (.wv 15) (.bi .len [(.wv 13)])) (.not_ (.nomut (.call 35 [(.nomut (.call 22 [(.var 13), (.var 15), (.var 19)])), (.nomut (.call 46 [(.var 13), (.var 15), (.var 19)]))])))) [(.ret (.lit (.bool false)))] [])]
def b_law_f2 : List S := [(.for_ (.nm 19) (.rng2 (.bin .sub (.wv 15) (.lit (.int (1)))) (.bi .len [(.wv 13)])) b_law_f1 []), (.asg (.tp [(.nm 22), (.nm 23)]) (.nomut (.call 46 [(.var 13), (.lit (.int (0))), (.bin .sub (.wv 15) (.lit (.int (1))))])) false []), (.iff (.or_ (.not_ (.nomut (.call 35 [(.nomut (.call 23 [(.var 13), (.var 15)])), (.tup [(.var 22), (.var 23)])]))) (.not_ (.nomut (.call 35 [(.nomut (.call 24 [(.var 7), (.var 15)])), (.tup [(.bin .sub (.idx (.wv 7) (.lit (.int (3)))) (.wv 23)), (.bin .sub (.idx (.wv 7) (.lit (.int (3)))) (.wv 22))])])))) [(.ret (.lit (.bool false)))] [])]
def b_law_f3 : List S := [(.asg (.nm 20) (.lc [25] (.var 25) (.nm 25) (.rng1 (.bi .len [(.wv 13)])) (.some (.chain .le .lt (.idx (.nomut (.call 46 [(.var 13), (.lit (.int (0))), (.bin .sub (.wv 25) (.lit (.int (1))))])) (.lit (.int (0)))) (.wv 17) (.idx (.nomut (.call 46 [(.var 13), (.lit (.int (0))), (.var 25)])) (.lit (.int (1))))))) true [25]), (.asg (.nm 21) (.lc [25] (.var 25) (.nm 25) (.rng1 (.bi .len [(.wv 13)])) (.some (.chain .le .lt (.idx (.nomut (.call 46 [(.var 13), (.lit (.int (0))), (.bin .sub (.wv 25) (.lit (.int (1))))])) (.lit (.int (1)))) (.wv 17) (.idx (.nomut (.call 46 [(.var 13), (.lit (.int (0))), (.var 25)])) (.lit (.int (0))))))) true [25]), (.iff (.or_ (.not_ (.nomut (.call 35 [(.nomut (.call 25 [(.var 13), (.var 17)])), (.bi .tuple [(.wv 20)])]))) (.cmp .ne (.nomut (.call 26 [(.var 13), (.var 17)])) (.ite (.cmp .ne (.wv 21) (.lst [])) (.idx (.wv 21) (.lit (.int (0)))) (.lit .none)))) [(.ret (.lit (.bool false)))] [])]
def b_law_f4 : List S := [(.asg (.nm 13) (.idx (.wv 7) (.lit (.int (4)))) false []), (.iff (.or_ (.cmp .isn (.nomut (.call 14 [(.var 13)])) (.lit (.bool true))) (.or_ (.not_ (.nomut (.call 35 [(.nomut (.call 28 [(.var 13)])), (.nomut (.call 47 [(.var 13)]))]))) (.cmp .ne (.lc [25] (.var 25) (.nm 25) (.rng1 (.bi .len [(.wv 13)])) (.some (.not_ (.nomut (.call 35 [(.nomut (.call 21 [(.var 2), (.tup [(.idx (.wv 7) (.lit (.int (0)))), (.var 25)])])), (.idx (.wv 13) (.wv 25))]))))) (.lst [])))) [(.ret (.lit (.bool false)))] []), (.asg (.nm 14) (.bi .tuple [(.lc [3, 30, 31] (.tup [(.var 3), (.bi .max [(.lit (.int (1))), (.bin .sub (.wv 30) (.bin .mod (.wv 5) (.lit (.int (4)))))]), (.bi .min [(.lit (.int (99))), (.bin .add (.wv 31) (.bin .mod (.wv 5) (.lit (.int (4)))))])]) (.tp [(.nm 3), (.nm 30), (.nm 31)]) (.seq (.wv 13)) .none)]) true [3]), (.iff (.not_ (.nomut (.call 35 [(.nomut (.call 31 [(.call 36 [(.var 13)]), (.bin .mod (.wv 5) (.lit (.int (4))))])), (.var 14)]))) [(.ret (.lit (.bool false)))] []), (.for_ (.nm 15) (.rng1 (.bin .add (.bi .len [(.wv 13)]) (.lit (.int (1))))) b_law_f2 []), (.asg (.nm 16) (.idx (.nomut (.call 46 [(.var 13), (.lit (.int (0))), (.bin .sub (.bi .len [(.wv 13)]) (.lit (.int (1))))])) (.lit (.int (1)))) false []), (.for_ (.nm 17) (.rng1 (.bin .add (.wv 16) (.lit (.int (2))))) b_law_f3 []), (.iff (.cmp .ne (.nomut (.call 27 [(.var 13)])) (.wv 16)) [(.ret (.lit (.bool false)))] []), (.asg (.nm 18) (.bi .sorted [(.lc [24] (.tup [(.bin .add (.bin .pow (.bin .sub (.idx (.wv 7) (.lit (.int (1)))) (.idx (.wv 24) (.lit (.int (1))))) (.lit (.int (2)))) (.bin .pow (.bin .sub (.idx (.wv 7) (.lit (.int (2)))) (.idx (.wv 24) (.lit (.int (2))))) (.lit (.int (2))))), (.idx (.wv 24) (.lit (.int (0))))]) (.nm 24) (.seq (.wv 2)) (.some (.cmp .ne (.idx (.wv 24) (.lit (.int (0)))) (.idx (.wv 7) (.lit (.int (0)))))))]) true []), (.iff (.or_ (.not_ (.nomut (.call 35 [(.nomut (.call 33 [(.var 2), (.idx (.wv 7) (.lit (.int (0))))])), (.bi .tuple [(.lc [33, 26] (.var 26) (.tp [(.nm 33), (.nm 26)]) (.seq (.wv 18)) .none)])]))) (.cmp .ne (.nomut (.call 34 [(.var 2), (.idx (.idx (.wv 18) (.lit (.int (0)))) (.lit (.int (1)))), (.idx (.wv 7) (.lit (.int (0))))])) (.idx (.idx (.wv 18) (.lit (.int (0)))) (.lit (.int (0)))))) [(.ret (.lit (.bool false)))] [])]
def b_law : List S := [(.asg (.nm 1) (.call 40 [(.nomut (.call 37 [(.var 0), (.lit (.int (0)))]))]) false []), (.asg (.nm 2) (.nomut (.call 43 [(.call 38 [(.var 0), (.lit (.int (1))), (.lit (.int (4)))]), (.var 1), (.bin .add (.lit (.int (3))) (.bin .mod (.nomut (.call 37 [(.var 0), (.lit (.int (2)))])) (.lit (.int (2))))), (.lit (.int (6)))])) false []), (.iff (.or_ (.cmp .isn (.nomut (.call 17 [(.call 36 [(.var 2)])])) (.lit (.bool true))) (.not_ (.nomut (.call 35 [(.nomut (.call 20 [(.var 2)])), (.bi .tuple [(.call 44 [(.var 2)])])])))) [(.ret (.lit (.bool false)))] []), (.for_ (.nm 3) (.seq (.call 39 [])) b_law_f0 []), (.asg (.nm 4) (.lst [(.lit (.str (t "hard"))), (.lit (.str (t "soft"))), (.lit (.str (t "lets"))), (.lit (.str (t "holds"))), (.lit (.str (t "burns")))]) true []), (.asg (.nm 5) (.nomut (.call 37 [(.var 0), (.lit (.int (3)))])) false []), (.asg (.nm 6) (.sli (.lst [(.idx (.wv 4) (.bin .mod (.wv 5) (.lit (.int (5))))), (.idx (.wv 4) (.bin .mod (.bin .add (.bin .add (.wv 5) (.lit (.int (1)))) (.bin .mod (.bi .int [(.bin .fdiv (.wv 5) (.lit (.int (5))))]) (.lit (.int (4))))) (.lit (.int (5)))))]) .none (.some (.bin .add (.lit (.int (1))) (.bin .mod (.bi .int [(.bin .fdiv (.wv 5) (.lit (.int (20))))]) (.lit (.int (2))))))) true []), (.iff (.not_ (.nomut (.call 35 [(.nomut (.call 12 [(.var 6)])), (.bi .tuple [(.lc [3] (.var 3) (.nm 3) (.seq (.call 39 [])) (.some (.cmp .eq (.lc [32] (.var 32) (.nm 32) (.seq (.wv 6)) (.some (.cmp .nin (.wv 32) (.idx (.call 45 []) (.wv 3))))) (.lst []))))])]))) [(.ret (.lit (.bool false)))] []), (.for_ (.nm 7) (.seq (.var 2)) b_law_f4 [2]), (.asg (.nm 8) (.bi .tuple [(.lc [26, 9, 10, 27, 13] (.tup [(.var 26), (.bin .sub (.lit (.int (60))) (.wv 10)), (.var 9), (.var 27), (.var 13)]) (.tp [(.nm 26), (.nm 9), (.nm 10), (.nm 27), (.nm 13)]) (.seq (.wv 2)) .none)]) true [26, 9, 27, 13]), (.asg (.nm 9) (.bin .sub (.bin .mod (.wv 5) (.lit (.int (9)))) (.lit (.int (4)))) true []), (.asg (.nm 10) (.bin .sub (.bin .mod (.bi .int [(.bin .fdiv (.wv 5) (.lit (.int (9))))]) (.lit (.int (9)))) (.lit (.int (4)))) true []), (.asg (.nm 11) (.bi .tuple [(.lc [26, 28, 29, 27, 13] (.tup [(.var 26), (.bin .add (.wv 28) (.wv 9)), (.bin .add (.wv 29) (.wv 10)), (.bin .add (.wv 27) (.lit (.int (3)))), (.var 13)]) (.tp [(.nm 26), (.nm 28), (.nm 29), (.nm 27), (.nm 13)]) (.seq (.wv 2)) .none)]) true [26, 13]), (.asg (.nm 12) (.cmp .eq (.lc [24] (.var 24) (.nm 24) (.seq (.wv 11)) (.some (.not_ (.and_ (.chain .le .le (.lit (.int (0))) (.idx (.wv 24) (.lit (.int (1)))) (.lit (.int (60)))) (.chain .le .le (.lit (.int (0))) (.idx (.wv 24) (.lit (.int (2)))) (.lit (.int (60)))))))) (.lst [])) true [24]), (.iff (.not_ (.nomut (.call 35 [(.nomut (.call 28 [(.tup [(.tup [(.idx (.wv 1) (.lit (.int (0)))), (.lit (.int (60))), (.lit (.int (70)))]), (.tup [(.idx (.wv 1) (.lit (.int (0)))), (.lit (.int (50))), (.lit (.int (60)))]), (.tup [(.idx (.wv 1) (.lit (.int (1)))), (.lit (.int (1))), (.lit (.int (2)))])])])), (.tup [(.tup [(.idx (.wv 1) (.lit (.int (0)))), (.lit (.int (99))), (.lit (.int (99)))]), (.tup [(.idx (.wv 1) (.lit (.int (1)))), (.lit (.int (1))), (.lit (.int (2)))])])]))) [(.ret (.lit (.bool false)))] []), (.ret (.and_ (.nomut (.call 35 [(.nomut (.call 30 [(.var 2)])), (.var 8)])) (.nomut (.call 35 [(.nomut (.call 29 [(.var 2), (.var 9), (.var 10), (.lit (.int (3)))])), (.ite (.wv 12) (.var 11) (.lit .none))]))))]
def f_law : Fn := ⟨1, b_law, 34⟩
def fs : List Fn := [f_need, f_is_integer, f_is_between, f_is_sequence, f_is_row, f_is_name, f_tupled, f_rank, f_is_ascending, f_is_stuff, f_traits, f_is_words, f_stuffs_with, f_is_bed, f_is_log, f_is_place, f_is_well, f_is_wells, f_well_named, f_is_spot, f_spots, f_bed, f_thick, f_depth, f_height, f_may, f_must, f_runs_out, f_plain, f_moved, f_turned, f_looser, f_apart_squared, f_nearest, f_square, f__law_same, f__law_listed, f__law_cell, f__law_numbers, f__law_stuffs, f__law_some_stuffs, f__law_bed, f__law_log, f__law_wells, f__law_spots, f__law_traits, f__law_thick, f__law_plain, f_law]
theorem at_need : fs[0]? = some f_need := rfl
theorem at_is_integer : fs[1]? = some f_is_integer := rfl
theorem at_is_between : fs[2]? = some f_is_between := rfl
theorem at_is_sequence : fs[3]? = some f_is_sequence := rfl
theorem at_is_row : fs[4]? = some f_is_row := rfl
theorem at_is_name : fs[5]? = some f_is_name := rfl
theorem at_tupled : fs[6]? = some f_tupled := rfl
theorem at_rank : fs[7]? = some f_rank := rfl
theorem at_is_ascending : fs[8]? = some f_is_ascending := rfl
theorem at_is_stuff : fs[9]? = some f_is_stuff := rfl
theorem at_traits : fs[10]? = some f_traits := rfl
theorem at_is_words : fs[11]? = some f_is_words := rfl
theorem at_stuffs_with : fs[12]? = some f_stuffs_with := rfl
theorem at_is_bed : fs[13]? = some f_is_bed := rfl
theorem at_is_log : fs[14]? = some f_is_log := rfl
theorem at_is_place : fs[15]? = some f_is_place := rfl
theorem at_is_well : fs[16]? = some f_is_well := rfl
theorem at_is_wells : fs[17]? = some f_is_wells := rfl
theorem at_well_named : fs[18]? = some f_well_named := rfl
theorem at_is_spot : fs[19]? = some f_is_spot := rfl
theorem at_spots : fs[20]? = some f_spots := rfl
theorem at_bed : fs[21]? = some f_bed := rfl
theorem at_thick : fs[22]? = some f_thick := rfl
theorem at_depth : fs[23]? = some f_depth := rfl
theorem at_height : fs[24]? = some f_height := rfl
theorem at_may : fs[25]? = some f_may := rfl
theorem at_must : fs[26]? = some f_must := rfl
theorem at_runs_out : fs[27]? = some f_runs_out := rfl
theorem at_plain : fs[28]? = some f_plain := rfl
theorem at_moved : fs[29]? = some f_moved := rfl
theorem at_turned : fs[30]? = some f_turned := rfl
theorem at_looser : fs[31]? = some f_looser := rfl
theorem at_apart_squared : fs[32]? = some f_apart_squared := rfl
theorem at_nearest : fs[33]? = some f_nearest := rfl
theorem at_square : fs[34]? = some f_square := rfl
theorem at__law_same : fs[35]? = some f__law_same := rfl
theorem at__law_listed : fs[36]? = some f__law_listed := rfl
theorem at__law_cell : fs[37]? = some f__law_cell := rfl
theorem at__law_numbers : fs[38]? = some f__law_numbers := rfl
theorem at__law_stuffs : fs[39]? = some f__law_stuffs := rfl
theorem at__law_some_stuffs : fs[40]? = some f__law_some_stuffs := rfl
theorem at__law_bed : fs[41]? = some f__law_bed := rfl
theorem at__law_log : fs[42]? = some f__law_log := rfl
theorem at__law_wells : fs[43]? = some f__law_wells := rfl
theorem at__law_spots : fs[44]? = some f__law_spots := rfl
theorem at__law_traits : fs[45]? = some f__law_traits := rfl
theorem at__law_thick : fs[46]? = some f__law_thick := rfl
theorem at__law_plain : fs[47]? = some f__law_plain := rfl
theorem at_law : fs[48]? = some f_law := rfl
end K01
end Ws

set_option Elab.async false
set_option linter.all false
set_option maxRecDepth 100000
set_option maxHeartbeats 400000
namespace Ws
namespace K01
open PySem
theorem is_integer_int (k : Nat) (v : Int) : call fs (k + 1) 1 [.int v] = .ok (.bool true) := by
  rw [call_at at_is_integer rfl]
  simp (config := { implicitDefEqProofs := false }) [exSs, ev, evs, evi, evc, evo, tyIs, retv, noMut, noMuts, put, puto, wipeE, ixD, frzE, inTD, notD, binD, negD, own, lstD, setD, intOf, isD, isNone, f_is_integer, b_is_integer, exSs]
theorem is_between_int (k : Nat) (v lo hi : Int) : call fs (k + 2) 2 [.int v, .int lo, .int hi] = .ok (.bool (decide (lo ≤ v) && decide (v ≤ hi))) := by
  rw [call_at at_is_between rfl]
  simp (config := { implicitDefEqProofs := false }) [exSs, ev, evs, evi, evc, evo, tyIs, retv, noMut, noMuts, put, puto, wipeE, ixD, frzE, inTD, notD, binD, negD, own, lstD, setD, intOf, isD, isNone, f_is_between, b_is_between, is_integer_int, noMut]
  by_cases h : lo ≤ v <;> simp [h, retv]
theorem is_sequence_tup (k : Nat) (xs : List D) : call fs (k + 1) 3 [.tuple xs] = .ok (.bool true) := by
  rw [call_at at_is_sequence rfl]
  simp (config := { implicitDefEqProofs := false }) [exSs, ev, evs, evi, evc, evo, tyIs, retv, noMut, noMuts, put, puto, wipeE, ixD, frzE, inTD, notD, binD, negD, own, lstD, setD, intOf, isD, isNone, f_is_sequence, b_is_sequence, exSs]
theorem is_sequence_list (k : Nat) (xs : List D) : call fs (k + 1) 3 [.list xs] = .ok (.bool true) := by
  rw [call_at at_is_sequence rfl]
  simp (config := { implicitDefEqProofs := false }) [exSs, ev, evs, evi, evc, evo, tyIs, retv, noMut, noMuts, put, puto, wipeE, ixD, frzE, inTD, notD, binD, negD, own, lstD, setD, intOf, isD, isNone, f_is_sequence, b_is_sequence, exSs]
theorem is_sequence_sq (k : Nat) (t : Bool) (xs : List D) : call fs (k + 1) 3 [sq t xs] = .ok (.bool true) := by
  cases t <;> simp [sq, is_sequence_list, is_sequence_tup]
theorem is_row_sq (k : Nat) (t : Bool) (xs : List D) (lo hi : Int) : call fs (k + 2) 4 [sq t xs, .int lo, .int hi] = .ok (.bool (decide (lo ≤ xs.length) && decide ((xs.length : Int) ≤ hi))) := by
  rw [call_at at_is_row rfl]
  simp (config := { implicitDefEqProofs := false }) [exSs, ev, evs, evi, evc, evo, tyIs, retv, noMut, noMuts, put, puto, wipeE, ixD, frzE, inTD, notD, binD, negD, own, lstD, setD, intOf, isD, isNone, f_is_row, b_is_row, is_sequence_sq, noMut, len_sq]
  by_cases h : lo ≤ (xs.length : Int) <;> simp [h, retv]
theorem need_true (k : Nat) (d : D) : call fs (k + 1) 0 [.bool true, d] = .ok .none := by
  rw [call_at at_need rfl]
  simp (config := { implicitDefEqProofs := false }) [exSs, ev, evs, evi, evc, evo, tyIs, retv, noMut, noMuts, put, puto, wipeE, ixD, frzE, inTD, notD, binD, negD, own, lstD, setD, intOf, isD, isNone, f_need, b_need, exSs]

def stuffs : List Str := [t "ash", t "chalk", t "clay", t "coal", t "gravel", t "lime", t "loam", t "marl", t "rock", t "salt", t "sand", t "shale"]
theorem is_stuff_str (k : Nat) (x : Str) : call fs (k + 1) 9 [.str x] = .ok (.bool (stuffs.any fun y => decide (y = x))) := by
  rw [call_at at_is_stuff rfl]
  simp (config := { implicitDefEqProofs := false }) [exSs, ev, evs, evi, evc, evo, tyIs, retv, noMut, noMuts, put, puto, wipeE, ixD, frzE, inTD, notD, binD, negD, own, lstD, setD, intOf, isD, isNone, f_is_stuff, b_is_stuff, inTD, stuffs]
abbrev Bed : Type := Str × Int × Int
def encB (q : Bool) (b : Bed) : D := sq q [.str b.1, .int b.2.1, .int b.2.2]
def okB (b : Bed) : Prop := (stuffs.any fun y => decide (y = b.1)) = true ∧ 1 ≤ b.2.1 ∧ b.2.1 ≤ b.2.2 ∧ b.2.2 ≤ 99
theorem is_bed_ok (k : Nat) (q : Bool) (b : Bed) (h : okB b) : call fs (k + 3) 13 [encB q b] = .ok (.bool true) := by
  obtain ⟨h1, h2, h3, h4⟩ := h
  rw [call_at at_is_bed rfl]
  simp (config := { implicitDefEqProofs := false }) [exSs, ev, evs, evi, evc, evo, tyIs, retv, noMut, noMuts, put, puto, wipeE, ixD, frzE, inTD, notD, binD, negD, own, lstD, setD, intOf, isD, isNone, f_is_bed, b_is_bed, encB, is_row_sq, is_stuff_str, h1, is_between_int, show b.2.1 ≤ 99 by omega, show 1 ≤ b.2.2 by omega, h2, h3, h4]
def encL (q : Bool) (l : List Bed) : D := sq q (l.map (encB q))
def okL (l : List Bed) : Prop := 1 ≤ l.length ∧ l.length ≤ 12 ∧ ∀ b ∈ l, okB b
theorem is_log_ok (k : Nat) (q : Bool) (l : List Bed) (h : okL l) : call fs (k + 4) 14 [encL q l] = .ok (.bool true) := by
  obtain ⟨h1, h2, h3⟩ := h
  rw [call_at at_is_log rfl]
  simp (config := { implicitDefEqProofs := false }) [exSs, ev, evs, evi, evc, evo, tyIs, retv, noMut, noMuts, put, puto, wipeE, ixD, frzE, inTD, notD, binD, negD, own, lstD, setD, intOf, isD, isNone, f_is_log, b_is_log, encL, is_row_sq]
  rw [lcL_map (enc := encB q) (f := fun _ => .bool true) fun b hb => by simp (config := { implicitDefEqProofs := false }) [exSs, ev, evs, evi, evc, evo, tyIs, retv, noMut, noMuts, put, puto, wipeE, ixD, frzE, inTD, notD, binD, negD, own, lstD, setD, intOf, isD, isNone, is_bed_ok k q b (h3 b hb)]]
  simp (config := { implicitDefEqProofs := false }) [exSs, ev, evs, evi, evc, evo, tyIs, retv, noMut, noMuts, put, puto, wipeE, ixD, frzE, inTD, notD, binD, negD, own, lstD, setD, intOf, isD, isNone, show 1 ≤ (l.length : Int) by omega, show (l.length : Int) ≤ 12 by omega, all_map (p := fun _ : Bed => true)]

/-- beds first .. next - 1 -/
def part (l : List Bed) (i j : Nat) : List Bed := (l.drop i).take (j - i)
def lo (l : List Bed) (i j : Nat) : Int := ((part l i j).map fun b => b.2.1).sum
def hi (l : List Bed) (i j : Nat) : Int := ((part l i j).map fun b => b.2.2).sum
theorem thick_ok (k : Nat) (q : Bool) (l : List Bed) (h : okL l) (i j : Nat) (hi' : i < l.length) (hij : i ≤ j) (hj : j ≤ l.length) : call fs (k + 5) 22 [encL q l, .int i, .int ((j : Int) - 1)] = .ok (.tuple [.int (lo l i j), .int (hi l i j)]) := by
  rw [call_at at_thick rfl]
  have e : encL q l = sq q (l.map (encB q)) := rfl
  simp (config := { implicitDefEqProofs := false }) [exSs, ev, evs, evi, evc, evo, tyIs, retv, noMut, noMuts, put, puto, wipeE, ixD, frzE, inTD, notD, binD, negD, own, lstD, setD, intOf, isD, isNone, f_thick, b_thick, is_log_ok (k := k) q l h, need_true, is_between_int]
  rw [e]
  simp (config := { implicitDefEqProofs := false }) [exSs, ev, evs, evi, evc, evo, tyIs, retv, noMut, noMuts, put, puto, wipeE, ixD, frzE, inTD, notD, binD, negD, own, lstD, setD, intOf, isD, isNone, is_between_int, need_true, show (i : Int) ≤ (l.length : Int) - 1 by omega, show (i : Int) - 1 ≤ (j : Int) - 1 by omega, show (j : Int) - 1 ≤ (l.length : Int) - 1 by omega, cut_map]
  rw [show cutD l (some (i : Int)) (some (j : Int)) = part l i j from cut_nat (by omega) hj]
  rw [lcL_map (enc := encB q) (f := fun b => .int b.2.1) fun b hb => by simp (config := { implicitDefEqProofs := false }) [exSs, ev, evs, evi, evc, evo, tyIs, retv, noMut, noMuts, put, puto, wipeE, ixD, frzE, inTD, notD, binD, negD, own, lstD, setD, intOf, isD, isNone, encB], lcL_map (enc := encB q) (f := fun b => .int b.2.2) fun b hb => by simp (config := { implicitDefEqProofs := false }) [exSs, ev, evs, evi, evc, evo, tyIs, retv, noMut, noMuts, put, puto, wipeE, ixD, frzE, inTD, notD, binD, negD, own, lstD, setD, intOf, isD, isNone, encB]]
  simp (config := { implicitDefEqProofs := false }) [exSs, ev, evs, evi, evc, evo, tyIs, retv, noMut, noMuts, put, puto, wipeE, ixD, frzE, inTD, notD, binD, negD, own, lstD, setD, intOf, isD, isNone, sum_map' (p := fun b : Bed => b.2.1), sum_map' (p := fun b : Bed => b.2.2), lo, hi]
theorem depth_ok (k : Nat) (q : Bool) (l : List Bed) (h : okL l) (j : Nat) (hj : j ≤ l.length) : call fs (k + 6) 23 [encL q l, .int j] = .ok (.tuple [.int (lo l 0 j), .int (hi l 0 j)]) := by
  rw [call_at at_depth rfl]
  have e : biD .len [encL q l] = .ok (.int l.length) := by simp [encL]
  have t0 := thick_ok k q l h 0 j (by have := h.1; omega) (by omega) hj
  rw [show ((0 : Nat) : Int) = 0 from rfl] at t0
  simp (config := { implicitDefEqProofs := false }) [exSs, ev, evs, evi, evc, evo, tyIs, retv, noMut, noMuts, put, puto, wipeE, ixD, frzE, inTD, notD, binD, negD, own, lstD, setD, intOf, isD, isNone, f_depth, b_depth, is_log_ok (k := k + 1) q l h, need_true, is_between_int, e, show (j : Int) ≤ l.length by omega, t0]

theorem rng_len {n : Nat} (h : n ≤ 1000000) : rngD 0 (n : Int) = .ok ((List.range n).map fun i => .int (i : Nat)) := by
  rw [rngD_ok (n := n) (by omega) (by omega) (by omega) (by show n ≤ 16777216; omega)]
  simp
theorem runs_out_ok (k : Nat) (q : Bool) (l : List Bed) (h : okL l) : call fs (k + 7) 27 [encL q l] = .ok (.int (hi l 0 l.length)) := by
  rw [call_at at_runs_out rfl]
  have e : biD .len [encL q l] = .ok (.int l.length) := by simp [encL]
  simp (config := { implicitDefEqProofs := false }) [exSs, ev, evs, evi, evc, evo, tyIs, retv, noMut, noMuts, put, puto, wipeE, ixD, frzE, inTD, notD, binD, negD, own, lstD, setD, intOf, isD, isNone, f_runs_out, b_runs_out, is_log_ok (k := k + 2) q l h, need_true, e, depth_ok k q l h l.length (Nat.le_refl _), idxD]
def mayF (l : List Bed) (d : Int) : List D := (List.range l.length).flatMap fun i => if lo l 0 i ≤ d ∧ d < hi l 0 (i + 1) then [.int (i : Nat)] else []
theorem may_ok (k : Nat) (q : Bool) (l : List Bed) (h : okL l) (d : Int) (h0 : 0 ≤ d) (h1 : d ≤ 1200) : call fs (k + 7) 25 [encL q l, .int d] = .ok (.tuple (mayF l d)) := by
  rw [call_at at_may rfl]
  have e : biD .len [encL q l] = .ok (.int l.length) := by simp [encL]
  have hl := h.2.1
  simp (config := { implicitDefEqProofs := false }) [exSs, ev, evs, evi, evc, evo, tyIs, retv, noMut, noMuts, put, puto, wipeE, ixD, frzE, inTD, notD, binD, negD, own, lstD, setD, intOf, isD, isNone, f_may, b_may, is_log_ok (k := k + 2) q l h, need_true, is_between_int, e, h0, h1]
  rw [rng_len (by omega)]
  simp (config := { implicitDefEqProofs := false }) [exSs, ev, evs, evi, evc, evo, tyIs, retv, noMut, noMuts, put, puto, wipeE, ixD, frzE, inTD, notD, binD, negD, own, lstD, setD, intOf, isD, isNone]
  rw [lcL_flat (enc := fun i : Nat => .int (i : Nat)) (f := fun i => if lo l 0 i ≤ d ∧ d < hi l 0 (i + 1) then [.int (i : Nat)] else []) fun i hi' => ?_]
  · simp (config := { implicitDefEqProofs := false }) [exSs, ev, evs, evi, evc, evo, tyIs, retv, noMut, noMuts, put, puto, wipeE, ixD, frzE, inTD, notD, binD, negD, own, lstD, setD, intOf, isD, isNone, mayF]
    rfl
  · have li : i < l.length := by simpa using hi'
    simp (config := { implicitDefEqProofs := false }) [exSs, ev, evs, evi, evc, evo, tyIs, retv, noMut, noMuts, put, puto, wipeE, ixD, frzE, inTD, notD, binD, negD, own, lstD, setD, intOf, isD, isNone, depth_ok k q l h i (by omega), idxD]
    rw [show (i : Int) + 1 = ((i + 1 : Nat) : Int) by omega, depth_ok k q l h (i + 1) (by omega)]
    simp (config := { implicitDefEqProofs := false }) [exSs, ev, evs, evi, evc, evo, tyIs, retv, noMut, noMuts, put, puto, wipeE, ixD, frzE, inTD, notD, binD, negD, own, lstD, setD, intOf, isD, isNone, idxD]
    by_cases c1 : lo l 0 i ≤ d <;> by_cases c2 : d < hi l 0 (i + 1) <;> simp [c1, c2]

def mustF (l : List Bed) (d : Int) : D := match (List.range l.length).find? fun i => decide (hi l 0 i ≤ d) && decide (d < lo l 0 (i + 1)) with
  | some i => .int (i : Nat)
  | none => .none
theorem must_ok (k : Nat) (q : Bool) (l : List Bed) (h : okL l) (d : Int) (h0 : 0 ≤ d) (h1 : d ≤ 1200) : call fs (k + 7) 26 [encL q l, .int d] = .ok (mustF l d) := by
  rw [call_at at_must rfl]
  have e : biD .len [encL q l] = .ok (.int l.length) := by simp [encL]
  have hl := h.2.1
  have hr := rng_len (n := l.length) (by omega)
  simp (config := { implicitDefEqProofs := false }) [exSs, ev, evs, evi, evc, evo, tyIs, retv, noMut, noMuts, put, puto, wipeE, ixD, frzE, inTD, notD, binD, negD, own, lstD, setD, intOf, isD, isNone, f_must, b_must, is_log_ok (k := k + 2) q l h, need_true, is_between_int, e, h0, h1, hr]
  generalize hst : forStep _ _ _ = step
  have st : ∀ i ∈ List.range l.length, ∀ ε, (∃ s, ε = [.f (encL q l), .f (.int d), s]) → ∃ ε', (∃ s, ε' = [.f (encL q l), .f (.int d), s]) ∧ step (.int (i : Nat)) ε = .ok (if (decide (hi l 0 i ≤ d) && decide (d < lo l 0 (i + 1))) = true then .rt (.int (i : Nat)) else .nx, ε') := by
    rintro i hi' ε ⟨s, rfl⟩
    have li : i < l.length := by simpa using hi'
    refine ⟨[.f (encL q l), .f (.int d), .f (.int (i : Nat))], ⟨_, rfl⟩, ?_⟩
    rw [← hst]
    simp (config := { implicitDefEqProofs := false }) [exSs, ev, evs, evi, evc, evo, tyIs, retv, noMut, noMuts, put, puto, wipeE, ixD, frzE, inTD, notD, binD, negD, own, lstD, setD, intOf, isD, isNone, forStep, depth_ok k q l h i (by omega), idxD]
    rw [show (i : Int) + 1 = ((i + 1 : Nat) : Int) by omega, depth_ok k q l h (i + 1) (by omega)]
    simp (config := { implicitDefEqProofs := false }) [exSs, ev, evs, evi, evc, evo, tyIs, retv, noMut, noMuts, put, puto, wipeE, ixD, frzE, inTD, notD, binD, negD, own, lstD, setD, intOf, isD, isNone, idxD]
    by_cases c1 : hi l 0 i ≤ d <;> by_cases c2 : d < lo l 0 (i + 1) <;> simp (config := { implicitDefEqProofs := false }) [exSs, ev, evs, evi, evc, evo, tyIs, retv, noMut, noMuts, put, puto, wipeE, ixD, frzE, inTD, notD, binD, negD, own, lstD, setD, intOf, isD, isNone, c1, c2]
  obtain ⟨ε', _, e'⟩ := exFor_find (enc := fun i : Nat => .int (i : Nat)) (r := fun i : Nat => .int (i : Nat)) (ε := [.f (encL q l), .f (.int d), .u]) ⟨_, rfl⟩ st
  rw [e', mustF]
  cases (List.range l.length).find? fun i => decide (hi l 0 i ≤ d) && decide (d < lo l 0 (i + 1)) <;> simp (config := { implicitDefEqProofs := false }) [exSs, ev, evs, evi, evc, evo, tyIs, retv, noMut, noMuts, put, puto, wipeE, ixD, frzE, inTD, notD, binD, negD, own, lstD, setD, intOf, isD, isNone]

def titles : List Str := [t "ash", t "birch", t "cedar", t "dogwood"]
theorem is_name_title (k : Nat) {x : Str} (h : x ∈ titles) : call fs (k + 1) 5 [.str x] = .ok (.bool true) := by
  simp only [titles, List.mem_cons, List.mem_nil_iff, or_false] at h
  rcases h with rfl | rfl | rfl | rfl <;> rfl
abbrev Well : Type := Str × Int × Int × Int × List Bed
def encW (q : Bool) (w : Well) : D := sq q [.str w.1, .int w.2.1, .int w.2.2.1, .int w.2.2.2.1, encL q w.2.2.2.2]
def inPl (x y : Int) : Bool := decide (0 ≤ x) && decide (x ≤ 60) && (decide (0 ≤ y) && decide (y ≤ 60))
def inP (w : Well) : Bool := inPl w.2.1 w.2.2.1
def okW (w : Well) : Prop := w.1 ∈ titles ∧ -500 ≤ w.2.2.2.1 ∧ w.2.2.2.1 ≤ 500 ∧ okL w.2.2.2.2
theorem is_place_int (k : Nat) (x y : Int) : call fs (k + 3) 15 [.int x, .int y] = .ok (.bool (inPl x y)) := by
  rw [call_at at_is_place rfl]
  simp (config := { implicitDefEqProofs := false }) [exSs, ev, evs, evi, evc, evo, tyIs, retv, noMut, noMuts, put, puto, wipeE, ixD, frzE, inTD, notD, binD, negD, own, lstD, setD, intOf, isD, isNone, f_is_place, b_is_place, is_between_int, inPl]
  by_cases h : 0 ≤ x <;> by_cases h' : x ≤ 60 <;> simp (config := { implicitDefEqProofs := false }) [exSs, ev, evs, evi, evc, evo, tyIs, retv, noMut, noMuts, put, puto, wipeE, ixD, frzE, inTD, notD, binD, negD, own, lstD, setD, intOf, isD, isNone, h, h']
theorem is_well_ok (k : Nat) (q : Bool) (w : Well) (h : okW w) : call fs (k + 5) 16 [encW q w] = .ok (.bool (inP w)) := by
  obtain ⟨h1, h2, h3, h4⟩ := h
  rw [call_at at_is_well rfl, inP]
  cases hp : inPl w.2.1 w.2.2.1 <;> simp (config := { implicitDefEqProofs := false }) [exSs, ev, evs, evi, evc, evo, tyIs, retv, noMut, noMuts, put, puto, wipeE, ixD, frzE, inTD, notD, binD, negD, own, lstD, setD, intOf, isD, isNone, f_is_well, b_is_well, encW, is_row_sq, is_name_title (h := h1), is_place_int, is_between_int, is_log_ok (h := h4), h2, h3, hp]
theorem height_ok (k : Nat) (q : Bool) (w : Well) (h : okW w) (hp : inP w = true) (j : Nat) (hj : j ≤ w.2.2.2.2.length) : call fs (k + 7) 24 [encW q w, .int j] = .ok (.tuple [.int (w.2.2.2.1 - hi w.2.2.2.2 0 j), .int (w.2.2.2.1 - lo w.2.2.2.2 0 j)]) := by
  rw [call_at at_height rfl]
  have e : biD .len [encL q w.2.2.2.2] = .ok (.int w.2.2.2.2.length) := by simp [encL]
  have i3 : idxD (encW q w) (.int 3) = .ok (.int w.2.2.2.1) := by simp (config := { implicitDefEqProofs := false }) [exSs, ev, evs, evi, evc, evo, tyIs, retv, noMut, noMuts, put, puto, wipeE, ixD, frzE, inTD, notD, binD, negD, own, lstD, setD, intOf, isD, isNone, encW]
  have i4 : idxD (encW q w) (.int 4) = .ok (encL q w.2.2.2.2) := by simp (config := { implicitDefEqProofs := false }) [exSs, ev, evs, evi, evc, evo, tyIs, retv, noMut, noMuts, put, puto, wipeE, ixD, frzE, inTD, notD, binD, negD, own, lstD, setD, intOf, isD, isNone, encW]
  simp (config := { implicitDefEqProofs := false }) [exSs, ev, evs, evi, evc, evo, tyIs, retv, noMut, noMuts, put, puto, wipeE, ixD, frzE, inTD, notD, binD, negD, own, lstD, setD, intOf, isD, isNone, f_height, b_height, is_well_ok (h := h), hp, need_true, is_between_int, e, i3, i4, show (j : Int) ≤ w.2.2.2.2.length by omega, depth_ok (h := h.2.2.2) (hj := hj)]

theorem asc3 (k : Nat) : call fs (k + 5) 8 [.list [.str (t "ash"), .str (t "birch"), .str (t "cedar")]] = .ok (.bool true) := rfl
theorem asc4 (k : Nat) : call fs (k + 5) 8 [.list [.str (t "ash"), .str (t "birch"), .str (t "cedar"), .str (t "dogwood")]] = .ok (.bool true) := rfl
theorem asc (k : Nat) {ns : List Str} (h : ns = titles.take 3 ∨ ns = titles) : call fs (k + 5) 8 [.list (ns.map .str)] = .ok (.bool true) := by
  rcases h with rfl | rfl
  · exact asc3 k
  · exact asc4 k
def encWs (q r : Bool) (ws : List Well) : D := sq q (ws.map (encW r))
structure okWs (ws : List Well) : Prop where
  nm : ws.map (·.1) = titles.take 3 ∨ ws.map (·.1) = titles
  ok : ∀ w ∈ ws, okW w
  pl : dnum (ws.map fun w => [w.2.1, w.2.2.1]) = ws.length
theorem okWs.len {ws : List Well} (h : okWs ws) : 3 ≤ ws.length ∧ ws.length ≤ 4 := by
  rcases h.nm with e | e <;> (have := congrArg List.length e; rw [List.length_map] at this; simp [titles] at this; omega)
theorem encWs_seq (q r : Bool) (ws : List Well) : seqD (encWs q r ws) = .ok (ws.map (encW r)) := by simp [encWs]
theorem is_row_wells (k : Nat) (q r : Bool) {ws : List Well} (h : okWs ws) : call fs (k + 2) 4 [encWs q r ws, .int 1, .int 8] = .ok (.bool true) := by
  have hl := h.len
  rw [encWs, is_row_sq, List.length_map]
  simp; omega
theorem is_wells_ok (k : Nat) (q r : Bool) (ws : List Well) (h : okWs ws) : call fs (k + 6) 17 [encWs q r ws] = .ok (.bool (ws.all inP)) := by
  have hl := h.len
  have i0 : ∀ w : Well, idxD (encW r w) (.int 0) = .ok (.str w.1) := fun w => by simp (config := { implicitDefEqProofs := false }) [exSs, ev, evs, evi, evc, evo, tyIs, retv, noMut, noMuts, put, puto, wipeE, ixD, frzE, inTD, notD, binD, negD, own, lstD, setD, intOf, isD, isNone, encW]
  have i1 : ∀ w : Well, idxD (encW r w) (.int 1) = .ok (.int w.2.1) := fun w => by simp (config := { implicitDefEqProofs := false }) [exSs, ev, evs, evi, evc, evo, tyIs, retv, noMut, noMuts, put, puto, wipeE, ixD, frzE, inTD, notD, binD, negD, own, lstD, setD, intOf, isD, isNone, encW]
  have i2 : ∀ w : Well, idxD (encW r w) (.int 2) = .ok (.int w.2.2.1) := fun w => by simp (config := { implicitDefEqProofs := false }) [exSs, ev, evs, evi, evc, evo, tyIs, retv, noMut, noMuts, put, puto, wipeE, ixD, frzE, inTD, notD, binD, negD, own, lstD, setD, intOf, isD, isNone, encW]
  rw [call_at at_is_wells rfl]
  simp (config := { implicitDefEqProofs := false }) [exSs, ev, evs, evi, evc, evo, tyIs, retv, noMut, noMuts, put, puto, wipeE, ixD, frzE, inTD, notD, binD, negD, own, lstD, setD, intOf, isD, isNone, f_is_wells, b_is_wells, encWs_seq, is_row_wells (h := h)]
  rw [lcL_map (enc := encW r) (f := fun w => .bool (inP w)) fun w hw => by simp (config := { implicitDefEqProofs := false }) [exSs, ev, evs, evi, evc, evo, tyIs, retv, noMut, noMuts, put, puto, wipeE, ixD, frzE, inTD, notD, binD, negD, own, lstD, setD, intOf, isD, isNone, is_well_ok (k := k) r w (h.ok w hw)]]
  cases hp : ws.all inP
  · simp (config := { implicitDefEqProofs := false }) [exSs, ev, evs, evi, evc, evo, tyIs, retv, noMut, noMuts, put, puto, wipeE, ixD, frzE, inTD, notD, binD, negD, own, lstD, setD, intOf, isD, isNone, all_map (p := inP), hp]
  · simp (config := { implicitDefEqProofs := false }) [exSs, ev, evs, evi, evc, evo, tyIs, retv, noMut, noMuts, put, puto, wipeE, ixD, frzE, inTD, notD, binD, negD, own, lstD, setD, intOf, isD, isNone, all_map (p := inP), hp, encWs_seq]
    rw [lcL_map (enc := encW r) (f := fun w => .str w.1) fun w hw => by simp (config := { implicitDefEqProofs := false }) [exSs, ev, evs, evi, evc, evo, tyIs, retv, noMut, noMuts, put, puto, wipeE, ixD, frzE, inTD, notD, binD, negD, own, lstD, setD, intOf, isD, isNone, i0 w]]
    simp (config := { implicitDefEqProofs := false }) [exSs, ev, evs, evi, evc, evo, tyIs, retv, noMut, noMuts, put, puto, wipeE, ixD, frzE, inTD, notD, binD, negD, own, lstD, setD, intOf, isD, isNone, encWs_seq]
    rw [lcL_map (enc := encW r) (f := fun w => .tuple [.int w.2.1, .int w.2.2.1]) fun w hw => by simp (config := { implicitDefEqProofs := false }) [exSs, ev, evs, evi, evc, evo, tyIs, retv, noMut, noMuts, put, puto, wipeE, ixD, frzE, inTD, notD, binD, negD, own, lstD, setD, intOf, isD, isNone, i1 w, i2 w]]
    have hs := asc k h.nm
    rw [List.map_map] at hs
    simp (config := { implicitDefEqProofs := false }) [exSs, ev, evs, evi, evc, evo, tyIs, retv, noMut, noMuts, put, puto, wipeE, ixD, frzE, inTD, notD, binD, negD, own, lstD, setD, intOf, isD, isNone, show (fun w : Well => PyData.str w.1) = (PyData.str ∘ fun x : Well => x.1) from rfl, hs]
    rw [lset_map (f := fun w : Well => w.2.1) (g := fun w : Well => w.2.2.1) (by omega), h.pl]
    simp (config := { implicitDefEqProofs := false }) [exSs, ev, evs, evi, evc, evo, tyIs, retv, noMut, noMuts, put, puto, wipeE, ixD, frzE, inTD, notD, binD, negD, own, lstD, setD, intOf, isD, isNone, biD, eqD_int']

mutual
/-- lists made tuples -/
def tpl : D → D
  | .list xs => .tuple (tpls xs)
  | .tuple xs => .tuple (tpls xs)
  | d => d
def tpls : List D → List D
  | [] => []
  | x :: xs => tpl x :: tpls xs
end
theorem tpls_map : ∀ xs : List D, tpls xs = xs.map tpl
  | [] => rfl
  | x :: xs => by rw [tpls, tpls_map xs]; rfl
theorem nms_map {f : D → D} : ∀ {xs : List D}, (∀ x ∈ xs, noMut (f x) = true) → noMuts (xs.map f) = true
  | [], _ => rfl
  | x :: xs, h => by
    show (noMut (f x) && noMuts (xs.map f)) = true
    rw [h x List.mem_cons_self, nms_map fun y hy => h y (List.mem_cons_of_mem _ hy)]; rfl
theorem tpl_nm : ∀ (n : Nat) (d : D), lim n d = true → noMut (tpl d) = true
  | n, .none, _ => rfl
  | n, .bool _, _ => rfl
  | n, .int _, _ => rfl
  | n, .str _, _ => rfl
  | 0, .list _, h => by simp [lim] at h
  | 0, .tuple _, h => by simp [lim] at h
  | 0, .dict _, h => by simp [lim] at h
  | n + 1, .dict _, h => by simp [lim] at h
  | n + 1, .list xs, h => by
    have h : xs.all (lim n) = true := by simpa [lim] using h
    show noMuts (tpls xs) = true
    rw [tpls_map]
    exact nms_map fun x hx => tpl_nm n x (List.all_eq_true.mp h x hx)
  | n + 1, .tuple xs, h => by
    have h : xs.all (lim n) = true := by simpa [lim] using h
    show noMuts (tpls xs) = true
    rw [tpls_map]
    exact nms_map fun x hx => tpl_nm n x (List.all_eq_true.mp h x hx)
def isSq : D → Bool
  | .list _ => true
  | .tuple _ => true
  | _ => false
theorem is_seq_any (k : Nat) (d : D) : call fs (k + 1) 3 [d] = .ok (.bool (isSq d)) := by cases d <;> rfl
theorem tupled_ok (k : Nat) : ∀ (n : Nat) (d : D), lim n d = true → call fs (k + n + 2) 6 [d] = .ok (tpl d) := by
  intro n
  induction n with
  | zero =>
    intro d h
    rw [call_at at_tupled rfl]
    cases d <;> first | (simp [lim] at h; done) | (simp (config := { implicitDefEqProofs := false }) [exSs, ev, evs, evi, evc, evo, tyIs, retv, noMut, noMuts, put, puto, wipeE, ixD, frzE, inTD, notD, binD, negD, own, lstD, setD, intOf, isD, isNone, f_tupled, b_tupled, is_seq_any, isSq, tpl])
  | succ n ih =>
    intro d h
    rw [call_at at_tupled rfl]
    have lst : ∀ xs : List D, xs.all (lim n) = true → lcL (fun x => (nmR (call fs (k + n + 2) 6 [x])).bnd fun y => Rs.ok [y]) xs = .ok (xs.map tpl) := by
      intro xs h
      have := lcL_map (turn := fun x => (nmR (call fs (k + n + 2) 6 [x])).bnd fun y => Rs.ok [y]) (enc := fun d : D => d) (f := tpl) (l := xs) fun x hx => by
        have hl := List.all_eq_true.mp h x hx
        rw [ih x hl]
        simp [tpl_nm n x hl]
      simpa using this
    cases d with
    | list xs =>
      have h : xs.all (lim n) = true := by simpa [lim] using h
      simp (config := { implicitDefEqProofs := false }) [exSs, ev, evs, evi, evc, evo, tyIs, retv, noMut, noMuts, put, puto, wipeE, ixD, frzE, inTD, notD, binD, negD, own, lstD, setD, intOf, isD, isNone, f_tupled, b_tupled, is_sequence_list, seqD]
      rw [show k + (n + 1) + 1 = k + n + 2 by omega, lst xs h]
      simp (config := { implicitDefEqProofs := false }) [exSs, ev, evs, evi, evc, evo, tyIs, retv, noMut, noMuts, put, puto, wipeE, ixD, frzE, inTD, notD, binD, negD, own, lstD, setD, intOf, isD, isNone, biD, tpl, tpls_map]
    | tuple xs =>
      have h : xs.all (lim n) = true := by simpa [lim] using h
      simp (config := { implicitDefEqProofs := false }) [exSs, ev, evs, evi, evc, evo, tyIs, retv, noMut, noMuts, put, puto, wipeE, ixD, frzE, inTD, notD, binD, negD, own, lstD, setD, intOf, isD, isNone, f_tupled, b_tupled, is_sequence_tup, seqD]
      rw [show k + (n + 1) + 1 = k + n + 2 by omega, lst xs h]
      simp (config := { implicitDefEqProofs := false }) [exSs, ev, evs, evi, evc, evo, tyIs, retv, noMut, noMuts, put, puto, wipeE, ixD, frzE, inTD, notD, binD, negD, own, lstD, setD, intOf, isD, isNone, biD, tpl, tpls_map]
    | dict _ => simp [lim] at h
    | none => simp (config := { implicitDefEqProofs := false }) [exSs, ev, evs, evi, evc, evo, tyIs, retv, noMut, noMuts, put, puto, wipeE, ixD, frzE, inTD, notD, binD, negD, own, lstD, setD, intOf, isD, isNone, f_tupled, b_tupled, is_seq_any, isSq, tpl]
    | bool _ => simp (config := { implicitDefEqProofs := false }) [exSs, ev, evs, evi, evc, evo, tyIs, retv, noMut, noMuts, put, puto, wipeE, ixD, frzE, inTD, notD, binD, negD, own, lstD, setD, intOf, isD, isNone, f_tupled, b_tupled, is_seq_any, isSq, tpl]
    | int _ => simp (config := { implicitDefEqProofs := false }) [exSs, ev, evs, evi, evc, evo, tyIs, retv, noMut, noMuts, put, puto, wipeE, ixD, frzE, inTD, notD, binD, negD, own, lstD, setD, intOf, isD, isNone, f_tupled, b_tupled, is_seq_any, isSq, tpl]
    | str _ => simp (config := { implicitDefEqProofs := false }) [exSs, ev, evs, evi, evc, evo, tyIs, retv, noMut, noMuts, put, puto, wipeE, ixD, frzE, inTD, notD, binD, negD, own, lstD, setD, intOf, isD, isNone, f_tupled, b_tupled, is_seq_any, isSq, tpl]

/-! ### the well of a name, its spots -/
def wellOf (ws : List Well) (x : Str) : Option Well := ws.find? fun w => decide (w.1 = x)
def wellD (r : Bool) (ws : List Well) (x : Str) : D := match wellOf ws x with
  | some w => encW r w
  | none => .none
theorem well_named_ok (k : Nat) (q r : Bool) (ws : List Well) {x : Str} (hx : x ∈ titles) : call fs (k + 2) 18 [encWs q r ws, .str x] = .ok (wellD r ws x) := by
  rw [call_at at_well_named rfl]
  simp (config := { implicitDefEqProofs := false }) [exSs, ev, evs, evi, evc, evo, tyIs, retv, noMut, noMuts, put, puto, wipeE, ixD, frzE, inTD, notD, binD, negD, own, lstD, setD, intOf, isD, isNone, f_well_named, b_well_named, is_name_title (h := hx), encWs_seq]
  generalize hst : forStep _ _ _ = step
  have st : ∀ w ∈ ws, ∀ ε, (∃ s, ε = [.f (encWs q r ws), .f (.str x), s]) → ∃ ε', (∃ s, ε' = [.f (encWs q r ws), .f (.str x), s]) ∧ step (encW r w) ε = .ok (if decide (w.1 = x) = true then .rt (encW r w) else .nx, ε') := by
    rintro w hw ε ⟨s, rfl⟩
    have i0 : idxD (encW r w) (.int 0) = .ok (.str w.1) := by simp (config := { implicitDefEqProofs := false }) [exSs, ev, evs, evi, evc, evo, tyIs, retv, noMut, noMuts, put, puto, wipeE, ixD, frzE, inTD, notD, binD, negD, own, lstD, setD, intOf, isD, isNone, encW]
    refine ⟨[.f (encWs q r ws), .f (.str x), .f (encW r w)], ⟨_, rfl⟩, ?_⟩
    rw [← hst]
    simp (config := { implicitDefEqProofs := false }) [exSs, ev, evs, evi, evc, evo, tyIs, retv, noMut, noMuts, put, puto, wipeE, ixD, frzE, inTD, notD, binD, negD, own, lstD, setD, intOf, isD, isNone, forStep, i0, eqD_str]
    by_cases e : w.1 = x <;> simp (config := { implicitDefEqProofs := false }) [exSs, ev, evs, evi, evc, evo, tyIs, retv, noMut, noMuts, put, puto, wipeE, ixD, frzE, inTD, notD, binD, negD, own, lstD, setD, intOf, isD, isNone, e]
  obtain ⟨ε', ⟨s, hs⟩, e'⟩ := exFor_find (enc := encW r) (r := encW r) (ε := [.f (encWs q r ws), .f (.str x), .u]) ⟨_, rfl⟩ st
  rw [e', wellD, wellOf]
  cases ws.find? fun w => decide (w.1 = x) <;> simp (config := { implicitDefEqProofs := false }) [exSs, ev, evs, evi, evc, evo, tyIs, retv, noMut, noMuts, put, puto, wipeE, ixD, frzE, inTD, notD, binD, negD, own, lstD, setD, intOf, isD, isNone]

theorem is_spot_ok (k : Nat) (q r p : Bool) (ws : List Well) (h : okWs ws) {w : Well} (hw : wellOf ws w.1 = some w) (hm : w ∈ ws) (i : Nat) (hi' : i < w.2.2.2.2.length) : call fs (k + 3) 19 [encWs q r ws, sq p [.str w.1, .int i]] = .ok (.bool true) := by
  have ok := h.ok w hm
  have wn := well_named_ok k q r ws (x := w.1) ok.1
  rw [wellD, hw] at wn
  have e : biD .len [encL r w.2.2.2.2] = .ok (.int w.2.2.2.2.length) := by simp [encL]
  have i4 : idxD (encW r w) (.int 4) = .ok (encL r w.2.2.2.2) := by simp (config := { implicitDefEqProofs := false }) [exSs, ev, evs, evi, evc, evo, tyIs, retv, noMut, noMuts, put, puto, wipeE, ixD, frzE, inTD, notD, binD, negD, own, lstD, setD, intOf, isD, isNone, encW]
  have nn : cmpD .isn (encW r w) .none = .ok (.bool true) := by cases r <;> rfl
  rw [call_at at_is_spot rfl]
  simp (config := { implicitDefEqProofs := false }) [exSs, ev, evs, evi, evc, evo, tyIs, retv, noMut, noMuts, put, puto, wipeE, ixD, frzE, inTD, notD, binD, negD, own, lstD, setD, intOf, isD, isNone, f_is_spot, b_is_spot, is_row_sq, wn, i4, e, nn, is_between_int, show (i : Int) ≤ (w.2.2.2.2.length : Int) - 1 by omega]

theorem flat_len {α β : Type} {f : α → List β} {n : Nat} : ∀ {l : List α}, (∀ a ∈ l, (f a).length ≤ n) → (l.flatMap f).length ≤ l.length * n
  | [], _ => by simp
  | a :: l, h => by
    rw [List.flatMap_cons, List.length_append, List.length_cons]
    have h1 := h a List.mem_cons_self
    have h2 := flat_len (l := l) fun b hb => h b (List.mem_cons_of_mem _ hb)
    rw [Nat.succ_mul]; omega
def spotsF (ws : List Well) : List D := ws.flatMap fun w => (List.range w.2.2.2.2.length).map fun i => .tuple [.str w.1, .int (i : Nat)]
theorem spots_ok (k : Nat) (q r : Bool) (ws : List Well) (h : okWs ws) (hp : ws.all inP = true) : call fs (k + 7) 20 [encWs q r ws] = .ok (.tuple (spotsF ws)) := by
  have hl := h.len
  have i0 : ∀ w : Well, idxD (encW r w) (.int 0) = .ok (.str w.1) := fun w => by simp (config := { implicitDefEqProofs := false }) [exSs, ev, evs, evi, evc, evo, tyIs, retv, noMut, noMuts, put, puto, wipeE, ixD, frzE, inTD, notD, binD, negD, own, lstD, setD, intOf, isD, isNone, encW]
  have i4 : ∀ w : Well, idxD (encW r w) (.int 4) = .ok (encL r w.2.2.2.2) := fun w => by simp (config := { implicitDefEqProofs := false }) [exSs, ev, evs, evi, evc, evo, tyIs, retv, noMut, noMuts, put, puto, wipeE, ixD, frzE, inTD, notD, binD, negD, own, lstD, setD, intOf, isD, isNone, encW]
  have e : ∀ w : Well, biD .len [encL r w.2.2.2.2] = .ok (.int w.2.2.2.2.length) := fun w => by simp [encL]
  rw [call_at at_spots rfl]
  simp (config := { implicitDefEqProofs := false }) [exSs, ev, evs, evi, evc, evo, tyIs, retv, noMut, noMuts, put, puto, wipeE, ixD, frzE, inTD, notD, binD, negD, own, lstD, setD, intOf, isD, isNone, f_spots, b_spots, is_wells_ok (h := h), hp, need_true, encWs_seq]
  rw [lcL_flat (enc := encW r) (f := fun w : Well => (List.range w.2.2.2.2.length).map fun i => .tuple [.str w.1, .int (i : Nat)]) fun w hw => ?_]
  · have hlen : (spotsF ws).length ≤ 16777216 := by
      have := flat_len (f := fun w : Well => (List.range w.2.2.2.2.length).map fun i => PyData.tuple [.str w.1, .int (i : Nat)]) (n := 12) (l := ws) fun w hw => by
        have := (h.ok w hw).2.2.2.2.1
        simpa using this
      unfold spotsF; omega
    have hc : (if (ws.flatMap fun w : Well => (List.range w.2.2.2.2.length).map fun i => PyData.tuple [.str w.1, .int (i : Nat)]).length ≤ 16777216 then (Rs.ok (PyData.list (spotsF ws)) : Rs D) else .st) = .ok (.list (spotsF ws)) := if_pos hlen
    rw [Rs.bnd_ok]
    rw [if_pos (show (ws.flatMap _).length ≤ LIM from hlen)]
    simp (config := { implicitDefEqProofs := false }) [exSs, ev, evs, evi, evc, evo, tyIs, retv, noMut, noMuts, put, puto, wipeE, ixD, frzE, inTD, notD, binD, negD, own, lstD, setD, intOf, isD, isNone, biD, spotsF]
  · have hr := rng_len (n := w.2.2.2.2.length) (by have := (h.ok w hw).2.2.2.2.1; omega)
    simp (config := { implicitDefEqProofs := false }) [exSs, ev, evs, evi, evc, evo, tyIs, retv, noMut, noMuts, put, puto, wipeE, ixD, frzE, inTD, notD, binD, negD, own, lstD, setD, intOf, isD, isNone, i4 w, e w, hr]
    rw [lcL_map (enc := fun i : Nat => .int (i : Nat)) (f := fun i : Nat => .tuple [.str w.1, .int (i : Nat)]) fun i hi' => by simp (config := { implicitDefEqProofs := false }) [exSs, ev, evs, evi, evc, evo, tyIs, retv, noMut, noMuts, put, puto, wipeE, ixD, frzE, inTD, notD, binD, negD, own, lstD, setD, intOf, isD, isNone, i0 w]]

theorem lim_bed (q : Bool) (b : Bed) : lim 1 (encB q b) = true := by cases q <;> simp [encB, sq, lim]
theorem lim_log (q : Bool) (l : List Bed) : lim 2 (encL q l) = true := by
  have : (l.map (encB q)).all (lim 1) = true := by
    rw [List.all_eq_true]
    intro x hx
    obtain ⟨b, _, rfl⟩ := List.mem_map.mp hx
    exact lim_bed q b
  cases q <;> (unfold encL sq; simpa [lim] using this)
theorem tpl_bed (q : Bool) (b : Bed) : tpl (encB q b) = encB true b := by cases q <;> rfl
theorem tpl_log (q : Bool) (l : List Bed) : tpl (encL q l) = encL true l := by
  have : tpls (l.map (encB q)) = l.map (encB true) := by
    rw [tpls_map, List.map_map]
    exact List.map_congr_left fun b _ => tpl_bed q b
  cases q <;> (show PyData.tuple (tpls _) = PyData.tuple _; rw [this])
theorem bed_ok (k : Nat) (q r p : Bool) (ws : List Well) (h : okWs ws) (hp : ws.all inP = true) {w : Well} (hw : wellOf ws w.1 = some w) (hm : w ∈ ws) (i : Nat) {b : Bed} (hb : w.2.2.2.2[i]? = some b) : call fs (k + 7) 21 [encWs q r ws, sq p [.str w.1, .int i]] = .ok (encB true b) := by
  have ok := h.ok w hm
  have li : i < w.2.2.2.2.length := (List.getElem?_eq_some_iff.mp hb).1
  have wn := well_named_ok (k + 4) q r ws (x := w.1) ok.1
  rw [wellD, hw] at wn
  have i4 : idxD (encW r w) (.int 4) = .ok (encL r w.2.2.2.2) := by simp (config := { implicitDefEqProofs := false }) [exSs, ev, evs, evi, evc, evo, tyIs, retv, noMut, noMuts, put, puto, wipeE, ixD, frzE, inTD, notD, binD, negD, own, lstD, setD, intOf, isD, isNone, encW]
  have ib : idxD (encL r w.2.2.2.2) (.int i) = .ok (encB r b) := by
    unfold encL
    rw [idx_sq]
    unfold ixD
    rw [if_pos (by omega), Int.toNat_natCast, List.getElem?_map, hb]; rfl
  have t1 := tupled_ok (k + 3) 1 (encB r b) (lim_bed r b)
  rw [tpl_bed] at t1
  have nm : noMut (encB true b) = true := rfl
  rw [call_at at_bed rfl]
  simp (config := { implicitDefEqProofs := false }) [exSs, ev, evs, evi, evc, evo, tyIs, retv, noMut, noMuts, put, puto, wipeE, ixD, frzE, inTD, notD, binD, negD, own, lstD, setD, intOf, isD, isNone, f_bed, b_bed, is_wells_ok (h := h), hp, need_true, is_spot_ok (h := h) (hw := hw) (hm := hm) (hi' := li), wn, i4, ib, t1, nm]

/-- a bed made looser -/
def loose (m : Int) (b : Bed) : Bed := (b.1, if b.2.1 - m > 1 then b.2.1 - m else 1, if b.2.2 + m < 99 then b.2.2 + m else 99)
theorem looser_ok (k : Nat) (q : Bool) (l : List Bed) (h : okL l) (m : Int) (h0 : 0 ≤ m) (h1 : m ≤ 99) : call fs (k + 5) 31 [encL q l, .int m] = .ok (.tuple (l.map fun b => encB true (loose m b))) := by
  have sq1 : seqD (encL q l) = .ok (l.map (encB q)) := by simp [encL]
  rw [call_at at_looser rfl]
  simp (config := { implicitDefEqProofs := false }) [exSs, ev, evs, evi, evc, evo, tyIs, retv, noMut, noMuts, put, puto, wipeE, ixD, frzE, inTD, notD, binD, negD, own, lstD, setD, intOf, isD, isNone, f_looser, b_looser, is_log_ok (h := h), need_true, is_between_int, h0, h1, sq1]
  rw [lcL_map (enc := encB q) (f := fun b => encB true (loose m b)) fun b hb => by
    have e : encB q b = sq q [.str b.1, .int b.2.1, .int b.2.2] := rfl
    have e2 : encB true (loose m b) = .tuple [.str b.1, .int (if b.2.1 - m > 1 then b.2.1 - m else 1), .int (if b.2.2 + m < 99 then b.2.2 + m else 99)] := rfl
    rw [e2]
    simp (config := { implicitDefEqProofs := false }) [exSs, ev, evs, evi, evc, evo, tyIs, retv, noMut, noMuts, put, puto, wipeE, ixD, frzE, inTD, notD, binD, negD, own, lstD, setD, intOf, isD, isNone, e, biD]]
  simp (config := { implicitDefEqProofs := false }) [exSs, ev, evs, evi, evc, evo, tyIs, retv, noMut, noMuts, put, puto, wipeE, ixD, frzE, inTD, notD, binD, negD, own, lstD, setD, intOf, isD, isNone, biD]

theorem lim_well (q : Bool) (w : Well) : lim 3 (encW q w) = true := by
  have h := lim_log q w.2.2.2.2
  cases q <;> (unfold encW sq; simp [lim]; exact h)
theorem tpl_well (q : Bool) (w : Well) : tpl (encW q w) = encW true w := by
  have h := tpl_log q w.2.2.2.2
  cases q <;> (show PyData.tuple [_, _, _, _, tpl _] = PyData.tuple _; rw [h]; rfl)
theorem lim_wells (q r : Bool) (ws : List Well) : lim 4 (encWs q r ws) = true := by
  have : (ws.map (encW r)).all (lim 3) = true := by
    rw [List.all_eq_true]
    intro x hx
    obtain ⟨b, _, rfl⟩ := List.mem_map.mp hx
    exact lim_well r b
  cases q <;> (unfold encWs sq; simpa [lim] using this)
theorem tpl_wells (q r : Bool) (ws : List Well) : tpl (encWs q r ws) = encWs true true ws := by
  have : tpls (ws.map (encW r)) = ws.map (encW true) := by
    rw [tpls_map, List.map_map]
    exact List.map_congr_left fun b _ => tpl_well r b
  cases q <;> (show PyData.tuple (tpls _) = PyData.tuple _; rw [this])
theorem nm_wells (ws : List Well) : noMut (encWs true true ws) = true := by
  have := tpl_nm 4 (encWs true true ws) (lim_wells true true ws)
  rwa [tpl_wells] at this
def turnW (w : Well) : Well := (w.1, 60 - w.2.2.1, w.2.1, w.2.2.2.1, w.2.2.2.2)
theorem turned_ok (k : Nat) (q r : Bool) (ws : List Well) (h : okWs ws) (hp : ws.all inP = true) : call fs (k + 7) 30 [encWs q r ws] = .ok (encWs true true (ws.map turnW)) := by
  have t1 := tupled_ok k 4 (encWs q r ws) (lim_wells q r ws)
  rw [tpl_wells, show k + 4 + 2 = k + 6 by omega] at t1
  rw [call_at at_turned rfl]
  simp (config := { implicitDefEqProofs := false }) [exSs, ev, evs, evi, evc, evo, tyIs, retv, noMut, noMuts, put, puto, wipeE, ixD, frzE, inTD, notD, binD, negD, own, lstD, setD, intOf, isD, isNone, f_turned, b_turned, is_wells_ok (h := h), hp, need_true, t1, nm_wells, encWs_seq]
  rw [lcL_map (enc := encW true) (f := fun w => encW true (turnW w)) fun w hw => by
    have e : encW true w = sq true [.str w.1, .int w.2.1, .int w.2.2.1, .int w.2.2.2.1, encL true w.2.2.2.2] := rfl
    have e2 : encW true (turnW w) = .tuple [.str w.1, .int (60 - w.2.2.1), .int w.2.1, .int w.2.2.2.1, encL true w.2.2.2.2] := rfl
    rw [e2]
    simp (config := { implicitDefEqProofs := false }) [exSs, ev, evs, evi, evc, evo, tyIs, retv, noMut, noMuts, put, puto, wipeE, ixD, frzE, inTD, notD, binD, negD, own, lstD, setD, intOf, isD, isNone, e]]
  simp (config := { implicitDefEqProofs := false }) [exSs, ev, evs, evi, evc, evo, tyIs, retv, noMut, noMuts, put, puto, wipeE, ixD, frzE, inTD, notD, binD, negD, own, lstD, setD, intOf, isD, isNone, biD]
  show PyData.tuple _ = PyData.tuple _
  rw [List.map_map]; rfl

def shiftW (x y up : Int) (w : Well) : Well := (w.1, w.2.1 + x, w.2.2.1 + y, w.2.2.2.1 + up, w.2.2.2.2)
theorem moved_ok (k : Nat) (q r : Bool) (ws : List Well) (h : okWs ws) (hp : ws.all inP = true) (x y up : Int) (h2 : okWs (ws.map (shiftW x y up))) : call fs (k + 7) 29 [encWs q r ws, .int x, .int y, .int up] =
    .ok (if (ws.map (shiftW x y up)).all inP = true then encWs true true (ws.map (shiftW x y up)) else .none) := by
  have t1 := tupled_ok k 4 (encWs q r ws) (lim_wells q r ws)
  rw [tpl_wells, show k + 4 + 2 = k + 6 by omega] at t1
  have hl := h.len
  rw [call_at at_moved rfl]
  simp (config := { implicitDefEqProofs := false }) [exSs, ev, evs, evi, evc, evo, tyIs, retv, noMut, noMuts, put, puto, wipeE, ixD, frzE, inTD, notD, binD, negD, own, lstD, setD, intOf, isD, isNone, f_moved, b_moved, is_wells_ok (h := h), hp, need_true, is_integer_int, t1, nm_wells, encWs_seq]
  generalize hst : forStep _ _ _ = step
  have st : ∀ w ∈ ws, ∀ b ε, b.length < 4 → (∃ s5 s6 s7 s8 s9, ε = [.f (encWs q r ws), .f (.int x), .f (.int y), .f (.int up), .o (.list b), s5, s6, s7, s8, s9]) →
      ∃ ε', (∃ s5 s6 s7 s8 s9, ε' = [.f (encWs q r ws), .f (.int x), .f (.int y), .f (.int up), .o (.list (b ++ [encW true (shiftW x y up w)])), s5, s6, s7, s8, s9]) ∧ step (encW true w) ε = .ok (.nx, ε') := by
    rintro w hw b ε hb ⟨s5, s6, s7, s8, s9, rfl⟩
    have e : encW true w = sq true [.str w.1, .int w.2.1, .int w.2.2.1, .int w.2.2.2.1, encL true w.2.2.2.2] := rfl
    have e2 : encW true (shiftW x y up w) = .tuple [.str w.1, .int (w.2.1 + x), .int (w.2.2.1 + y), .int (w.2.2.2.1 + up), encL true w.2.2.2.2] := rfl
    refine ⟨[.f (encWs q r ws), .f (.int x), .f (.int y), .f (.int up), .o (.list (b ++ [encW true (shiftW x y up w)])), .f (.str w.1), .f (.int w.2.1), .f (.int w.2.2.1), .f (.int w.2.2.2.1), .f (encL true w.2.2.2.2)], ⟨_, _, _, _, _, rfl⟩, ?_⟩
    rw [← hst, e2]
    simp (config := { implicitDefEqProofs := false }) [exSs, ev, evs, evi, evc, evo, tyIs, retv, noMut, noMuts, put, puto, wipeE, ixD, frzE, inTD, notD, binD, negD, own, lstD, setD, intOf, isD, isNone, forStep, e, show b.length < 16777216 by omega]
  obtain ⟨ε', ⟨s5, s6, s7, s8, s9, hs⟩, e'⟩ := exFor_app (N := 4) (enc := encW true) (g := fun w => encW true (shiftW x y up w)) (l := ws) (b := []) (ε := [.f (encWs q r ws), .f (.int x), .f (.int y), .f (.int up), .o (.list []), .u, .u, .u, .u, .u]) (by simpa using hl.2) ⟨_, _, _, _, _, rfl⟩ st
  rw [e', hs]
  have e3 : PyData.list ([] ++ ws.map fun w => encW true (shiftW x y up w)) = encWs false true (ws.map (shiftW x y up)) := by
    simp [encWs, sq, List.map_map]
  have e4 : biD .tuple [encWs false true (ws.map (shiftW x y up))] = .ok (encWs true true (ws.map (shiftW x y up))) := rfl
  have iw := is_wells_ok k false true (ws.map (shiftW x y up)) h2
  rw [e3]
  cases hq : (ws.map (shiftW x y up)).all inP <;> rw [hq] at iw <;> simp (config := { implicitDefEqProofs := false }) [exSs, ev, evs, evi, evc, evo, tyIs, retv, noMut, noMuts, put, puto, wipeE, ixD, frzE, inTD, notD, binD, negD, own, lstD, setD, intOf, isD, isNone, iw, e4]

def sqd (w v : Well) : Int := (w.2.1 - v.2.1) ^ 2 + (w.2.2.1 - v.2.2.1) ^ 2
theorem apart_ok (k : Nat) (q r : Bool) (w v : Well) (hx : (w.2.1 - v.2.1).natAbs < 2 ^ 64) (hy : (w.2.2.1 - v.2.2.1).natAbs < 2 ^ 64) : call fs (k + 1) 32 [encW q w, encW r v] = .ok (.int (sqd w v)) := by
  have p2 : ∀ i : Int, i.natAbs < 2 ^ 64 → binD .pow (.int i) (.int 2) = .ok (.int (i ^ 2)) := fun i h => by
    show (if 0 ≤ (2 : Int) ∧ (2 : Int) ≤ 1000000 ∧ i.natAbs < 2 ^ 64 then _ else _) = _
    rw [if_pos ⟨by decide, by decide, h⟩]; rfl
  have a1 : idxD (encW q w) (.int 1) = .ok (.int w.2.1) := by simp (config := { implicitDefEqProofs := false }) [exSs, ev, evs, evi, evc, evo, tyIs, retv, noMut, noMuts, put, puto, wipeE, ixD, frzE, inTD, notD, binD, negD, own, lstD, setD, intOf, isD, isNone, encW]
  have a2 : idxD (encW q w) (.int 2) = .ok (.int w.2.2.1) := by simp (config := { implicitDefEqProofs := false }) [exSs, ev, evs, evi, evc, evo, tyIs, retv, noMut, noMuts, put, puto, wipeE, ixD, frzE, inTD, notD, binD, negD, own, lstD, setD, intOf, isD, isNone, encW]
  have b1 : idxD (encW r v) (.int 1) = .ok (.int v.2.1) := by simp (config := { implicitDefEqProofs := false }) [exSs, ev, evs, evi, evc, evo, tyIs, retv, noMut, noMuts, put, puto, wipeE, ixD, frzE, inTD, notD, binD, negD, own, lstD, setD, intOf, isD, isNone, encW]
  have b2 : idxD (encW r v) (.int 2) = .ok (.int v.2.2.1) := by simp (config := { implicitDefEqProofs := false }) [exSs, ev, evs, evi, evc, evo, tyIs, retv, noMut, noMuts, put, puto, wipeE, ixD, frzE, inTD, notD, binD, negD, own, lstD, setD, intOf, isD, isNone, encW]
  have s1 : ∀ i j : Int, binD .sub (.int i) (.int j) = .ok (.int (i - j)) := fun _ _ => rfl
  have s2 : ∀ i j : Int, binD .add (.int i) (.int j) = .ok (.int (i + j)) := fun _ _ => rfl
  rw [call_at at_apart_squared rfl]
  simp only [f_apart_squared, b_apart_squared, exSs, exS_ret, ev, List.map, List.replicate, frz_f, List.getElem?_cons_zero, List.getElem?_cons_succ, List.append_nil, Nat.sub_self, Rs.bnd_ok, a1, a2, b1, b2, s1, s2, p2 _ hx, p2 _ hy]
  rfl

theorem square_ok (k : Nat) (q r : Bool) (ws : List Well) (h : okWs ws) (hp : ws.all inP = true) {w v : Well} (hw : wellOf ws w.1 = some w) (hm : w ∈ ws) (hv : wellOf ws v.1 = some v) (hmv : v ∈ ws) (hx : (w.2.1 - v.2.1).natAbs < 2 ^ 64) (hy : (w.2.2.1 - v.2.2.1).natAbs < 2 ^ 64) :
    call fs (k + 7) 34 [encWs q r ws, .str w.1, .str v.1] = .ok (.int (sqd w v)) := by
  have wn := well_named_ok (k + 4) q r ws (x := w.1) (h.ok w hm).1
  have vn := well_named_ok (k + 4) q r ws (x := v.1) (h.ok v hmv).1
  rw [wellD, hw] at wn
  rw [wellD, hv] at vn
  have n1 : cmpD .isn (encW r w) .none = .ok (.bool true) := by cases r <;> rfl
  have n2 : cmpD .isn (encW r v) .none = .ok (.bool true) := by cases r <;> rfl
  rw [call_at at_square rfl]
  simp (config := { implicitDefEqProofs := false }) [exSs, ev, evs, evi, evc, evo, tyIs, retv, noMut, noMuts, put, puto, wipeE, ixD, frzE, inTD, notD, binD, negD, own, lstD, setD, intOf, isD, isNone, f_square, b_square, is_wells_ok (h := h), hp, need_true, wn, vn, n1, n2, apart_ok (hx := hx) (hy := hy)]

theorem find_nd {w : Well} : ∀ {l : List Well}, (l.map (·.1)).Nodup → w ∈ l → l.find? (fun v => decide (v.1 = w.1)) = some w
  | v :: l, nd, hm => by
    rw [List.map_cons, List.nodup_cons] at nd
    rw [List.find?_cons]
    by_cases e : v.1 = w.1
    · rcases List.mem_cons.mp hm with rfl | hm
      · simp
      · exact absurd (List.mem_map.mpr ⟨w, hm, e.symm⟩) nd.1
    · rcases List.mem_cons.mp hm with rfl | hm
      · exact absurd rfl e
      · simp only [e, decide_false]
        exact find_nd nd.2 hm
theorem wellOf_mem {ws : List Well} (h : okWs ws) {w : Well} (hm : w ∈ ws) : wellOf ws w.1 = some w := by
  refine find_nd ?_ hm
  rcases h.nm with e | e <;> (rw [e]; decide +kernel)
end K01
end Ws

set_option Elab.async false
set_option linter.all false
set_option maxRecDepth 100000
set_option maxHeartbeats 400000
namespace Ws
namespace K01
open PySem
/-- a loop that goes through, with a measure -/
theorem exFor_foldN {α β : Type} {enc : α → D} {step : D → Env → Rs (Fl × Env)} {f : β → α → β} {m : β → Nat} {N : Nat} {I : β → Env → Prop} (hm : ∀ b a, m (f b a) ≤ m b + 1) : ∀ {l : List α} {b : β} {ε : Env}, m b + l.length ≤ N → I b ε → (∀ a ∈ l, ∀ b ε, m b < N → I b ε → ∃ ε', I (f b a) ε' ∧ step (enc a) ε = .ok (.nx, ε')) →
    ∃ ε', I (l.foldl f b) ε' ∧ exFor step (l.map enc) ε = .ok (.nx, ε')
  | [], b, ε, _, hi, _ => ⟨ε, hi, rfl⟩
  | a :: l, b, ε, hN, hi, h => by
    rw [List.length_cons] at hN
    obtain ⟨ε1, i1, e1⟩ := h a List.mem_cons_self b ε (by omega) hi
    have := hm b a
    obtain ⟨ε2, i2, e2⟩ := exFor_foldN hm (l := l) (b := f b a) (by omega) i1 fun c hc => h c (List.mem_cons_of_mem _ hc)
    refine ⟨ε2, i2, ?_⟩
    rw [List.map_cons, exFor, e1]
    exact e2
theorem exFor_all {α : Type} {enc : α → D} {step : D → Env → Rs (Fl × Env)} {I : Env → Prop} {l : List α} {ε : Env} (hi : I ε) (h : ∀ a ∈ l, ∀ ε, I ε → ∃ ε', I ε' ∧ step (enc a) ε = .ok (.nx, ε')) :
    ∃ ε', I ε' ∧ exFor step (l.map enc) ε = .ok (.nx, ε') := by
  obtain ⟨ε', h1, h2⟩ := exFor_fold (f := fun (_ : Unit) _ => ()) (I := fun _ ε => I ε) (b := ()) hi fun a ha _ ε i => h a ha ε i
  exact ⟨ε', h1, h2⟩
theorem eqD_bool (a b : Bool) : cmpD .eq (.bool a) (.bool b) = .ok (.bool (decide (a = b))) := by cases a <;> cases b <;> rfl
theorem flat_nil {α β : Type} (l : List α) : l.flatMap (fun _ => ([] : List β)) = [] := by
  induction l with
  | nil => rfl
  | cons a l ih => rw [List.flatMap_cons, ih]; rfl
@[simp] theorem is_none (d : D) : cmpD .is_ d .none = .ok (.bool (isNone d)) := rfl
theorem isn_none (d : D) : cmpD .isn d .none = .ok (.bool (!isNone d)) := rfl
/-- small tuples of texts and numbers -/
def sm : Nat → D → Bool
  | _, .none => true
  | _, .bool _ => true
  | _, .int _ => true
  | _, .str _ => true
  | n + 1, .tuple xs => decide (xs.length ≤ 1000) && xs.all (sm n)
  | _, _ => false
theorem same_ok (k : Nat) : ∀ (n : Nat) (d : D), sm n d = true → call fs (k + n + 1) 35 [d, d] = .ok (.bool true) := by
  intro n
  induction n with
  | zero =>
    intro d h
    rw [call_at at__law_same rfl]
    cases d <;> first | (simp [sm] at h; done) | (simp (config := { implicitDefEqProofs := false }) [exSs, ev, evs, evi, evc, evo, tyIs, retv, noMut, noMuts, put, puto, wipeE, ixD, frzE, inTD, notD, binD, negD, own, lstD, setD, intOf, isD, isNone, f__law_same, b__law_same, eqD_int', eqD_bool, eqD_str])
  | succ n ih =>
    intro d h
    rw [call_at at__law_same rfl]
    cases d with
    | tuple xs =>
      have h : xs.length ≤ 1000 ∧ ∀ x ∈ xs, sm n x = true := by simpa [sm] using h
      have hr := rng_len (n := xs.length) (by omega)
      have hl : biD .len [.tuple xs] = .ok (.int xs.length) := rfl
      simp (config := { implicitDefEqProofs := false }) [exSs, ev, evs, evi, evc, evo, tyIs, retv, noMut, noMuts, put, puto, wipeE, ixD, frzE, inTD, notD, binD, negD, own, lstD, setD, intOf, isD, isNone, f__law_same, b__law_same, hl, eqD_int', hr]
      rw [lcL_flat (enc := fun i : Nat => .int (i : Nat)) (f := fun _ => []) fun i hi' => ?_]
      · rw [flat_nil]; rfl
      · have li : i < xs.length := by simpa using hi'
        have ix : idxD (.tuple xs) (.int (i : Nat)) = .ok xs[i] := by
          show Rs.of (ixD xs _) = _
          unfold ixD
          rw [if_pos (by omega), Int.toNat_natCast, List.getElem?_eq_getElem li]; rfl
        have s1 := ih xs[i] (h.2 _ (List.getElem_mem li))
        rw [show k + (n + 1) = k + n + 1 by omega]
        simp (config := { implicitDefEqProofs := false }) [exSs, ev, evs, evi, evc, evo, tyIs, retv, noMut, noMuts, put, puto, wipeE, ixD, frzE, inTD, notD, binD, negD, own, lstD, setD, intOf, isD, isNone, ix, s1]
    | none => simp (config := { implicitDefEqProofs := false }) [exSs, ev, evs, evi, evc, evo, tyIs, retv, noMut, noMuts, put, puto, wipeE, ixD, frzE, inTD, notD, binD, negD, own, lstD, setD, intOf, isD, isNone, f__law_same, b__law_same, eqD_int', eqD_bool, eqD_str]
    | bool _ => simp (config := { implicitDefEqProofs := false }) [exSs, ev, evs, evi, evc, evo, tyIs, retv, noMut, noMuts, put, puto, wipeE, ixD, frzE, inTD, notD, binD, negD, own, lstD, setD, intOf, isD, isNone, f__law_same, b__law_same, eqD_int', eqD_bool, eqD_str]
    | int _ => simp (config := { implicitDefEqProofs := false }) [exSs, ev, evs, evi, evc, evo, tyIs, retv, noMut, noMuts, put, puto, wipeE, ixD, frzE, inTD, notD, binD, negD, own, lstD, setD, intOf, isD, isNone, f__law_same, b__law_same, eqD_int', eqD_bool, eqD_str]
    | str _ => simp (config := { implicitDefEqProofs := false }) [exSs, ev, evs, evi, evc, evo, tyIs, retv, noMut, noMuts, put, puto, wipeE, ixD, frzE, inTD, notD, binD, negD, own, lstD, setD, intOf, isD, isNone, f__law_same, b__law_same, eqD_int', eqD_bool, eqD_str]
    | list _ => simp [sm] at h
    | dict _ => simp [sm] at h

mutual
/-- tuples made lists -/
def ltd : D → D
  | .tuple xs => .list (ltds xs)
  | d => d
def ltds : List D → List D
  | [] => []
  | x :: xs => ltd x :: ltds xs
end
theorem ltds_map : ∀ xs : List D, ltds xs = xs.map ltd
  | [] => rfl
  | x :: xs => by rw [ltds, ltds_map xs]; rfl
theorem listed_ok (k : Nat) : ∀ (n : Nat) (d : D), lim n d = true → call fs (k + n + 1) 36 [d] = .ok (ltd d) := by
  intro n
  induction n with
  | zero =>
    intro d h
    rw [call_at at__law_listed rfl]
    cases d <;> first | (simp [lim] at h; done) | (simp (config := { implicitDefEqProofs := false }) [exSs, ev, evs, evi, evc, evo, tyIs, retv, noMut, noMuts, put, puto, wipeE, ixD, frzE, inTD, notD, binD, negD, own, lstD, setD, intOf, isD, isNone, f__law_listed, b__law_listed, ltd])
  | succ n ih =>
    intro d h
    rw [call_at at__law_listed rfl]
    cases d with
    | tuple xs =>
      have h : xs.all (lim n) = true := by simpa [lim] using h
      simp (config := { implicitDefEqProofs := false }) [exSs, ev, evs, evi, evc, evo, tyIs, retv, noMut, noMuts, put, puto, wipeE, ixD, frzE, inTD, notD, binD, negD, own, lstD, setD, intOf, isD, isNone, f__law_listed, b__law_listed, seqD]
      have := lcL_map (turn := fun x => (call fs (k + n + 1) 36 [x]).bnd fun y => Rs.ok [y]) (enc := fun d : D => d) (f := ltd) (l := xs) fun x hx => by
        rw [ih x (List.all_eq_true.mp h x hx)]; rfl
      rw [List.map_id'] at this
      rw [show k + (n + 1) = k + n + 1 by omega, this]
      simp (config := { implicitDefEqProofs := false }) [exSs, ev, evs, evi, evc, evo, tyIs, retv, noMut, noMuts, put, puto, wipeE, ixD, frzE, inTD, notD, binD, negD, own, lstD, setD, intOf, isD, isNone, ltd, ltds_map]
    | list xs => simp (config := { implicitDefEqProofs := false }) [exSs, ev, evs, evi, evc, evo, tyIs, retv, noMut, noMuts, put, puto, wipeE, ixD, frzE, inTD, notD, binD, negD, own, lstD, setD, intOf, isD, isNone, f__law_listed, b__law_listed, ltd]
    | dict _ => simp [lim] at h
    | none => simp (config := { implicitDefEqProofs := false }) [exSs, ev, evs, evi, evc, evo, tyIs, retv, noMut, noMuts, put, puto, wipeE, ixD, frzE, inTD, notD, binD, negD, own, lstD, setD, intOf, isD, isNone, f__law_listed, b__law_listed, ltd]
    | bool _ => simp (config := { implicitDefEqProofs := false }) [exSs, ev, evs, evi, evc, evo, tyIs, retv, noMut, noMuts, put, puto, wipeE, ixD, frzE, inTD, notD, binD, negD, own, lstD, setD, intOf, isD, isNone, f__law_listed, b__law_listed, ltd]
    | int _ => simp (config := { implicitDefEqProofs := false }) [exSs, ev, evs, evi, evc, evo, tyIs, retv, noMut, noMuts, put, puto, wipeE, ixD, frzE, inTD, notD, binD, negD, own, lstD, setD, intOf, isD, isNone, f__law_listed, b__law_listed, ltd]
    | str _ => simp (config := { implicitDefEqProofs := false }) [exSs, ev, evs, evi, evc, evo, tyIs, retv, noMut, noMuts, put, puto, wipeE, ixD, frzE, inTD, notD, binD, negD, own, lstD, setD, intOf, isD, isNone, f__law_listed, b__law_listed, ltd]
theorem ltd_bed (b : Bed) : ltd (encB true b) = encB false b := rfl
theorem ltd_log (l : List Bed) : ltd (encL true l) = encL false l := by
  have : ltds (l.map (encB true)) = l.map (encB false) := by
    rw [ltds_map, List.map_map]
    exact List.map_congr_left fun b _ => ltd_bed b
  show PyData.list (ltds _) = PyData.list _
  rw [this]
theorem ltd_well (w : Well) : ltd (encW true w) = encW false w := by
  have h := ltd_log w.2.2.2.2
  show PyData.list [_, _, _, _, ltd _] = PyData.list _
  rw [h]; rfl
theorem ltd_wells (ws : List Well) : ltd (encWs true true ws) = encWs false false ws := by
  have : ltds (ws.map (encW true)) = ws.map (encW false) := by
    rw [ltds_map, List.map_map]
    exact List.map_congr_left fun w _ => ltd_well w
  show PyData.list (ltds _) = PyData.list _
  rw [this]
theorem listed_log (k : Nat) (l : List Bed) : call fs (k + 3) 36 [encL true l] = .ok (encL false l) := by
  rw [← ltd_log]
  exact listed_ok k 2 _ (lim_log true l)
theorem listed_wells (k : Nat) (ws : List Well) : call fs (k + 5) 36 [encWs true true ws] = .ok (encWs false false ws) := by
  rw [← ltd_wells]
  exact listed_ok k 4 _ (lim_wells true true ws)

def cell (ns : List Int) (p : Nat) : Int := ns.getD p 0
theorem cell_ok (k : Nat) (ns : List Int) (p : Nat) : call fs (k + 1) 37 [.list (ns.map .int), .int p] = .ok (.int (cell ns p)) := by
  rw [call_at at__law_cell rfl]
  have hl : biD .len [.list (ns.map .int)] = .ok (.int ns.length) := by
    show Rs.ok (PyData.int ((ns.map PyData.int).length : Nat)) = _
    rw [List.length_map]
  by_cases h : p < ns.length
  · have ix : idxD (.list (ns.map .int)) (.int (p : Nat)) = .ok (.int (cell ns p)) := by
      show Rs.of (ixD _ _) = _
      unfold ixD cell
      rw [if_pos (by omega), Int.toNat_natCast, List.getElem?_map, List.getElem?_eq_getElem h, List.getD_eq_getElem?_getD, List.getElem?_eq_getElem h]; rfl
    simp (config := { implicitDefEqProofs := false }) [exSs, ev, evs, evi, evc, evo, tyIs, retv, noMut, noMuts, put, puto, wipeE, ixD, frzE, inTD, notD, binD, negD, own, lstD, setD, intOf, isD, isNone, f__law_cell, b__law_cell, hl, show (p : Int) < ns.length by omega, ix, biD]
  · have : cell ns p = 0 := by
      unfold cell
      rw [List.getD_eq_getElem?_getD, List.getElem?_eq_none (by omega)]; rfl
    simp (config := { implicitDefEqProofs := false }) [exSs, ev, evs, evi, evc, evo, tyIs, retv, noMut, noMuts, put, puto, wipeE, ixD, frzE, inTD, notD, binD, negD, own, lstD, setD, intOf, isD, isNone, f__law_cell, b__law_cell, hl, show ¬ (p : Int) < ns.length by omega, this]
theorem foldl_len {α : Type} : ∀ (l : List α) (n : Nat), l.foldl (fun m _ => m + 1) n = n + l.length
  | [], n => rfl
  | a :: l, n => by rw [List.foldl_cons, foldl_len l, List.length_cons]; omega
theorem numbers_ok (k : Nat) (ns : List Int) : ∃ xs : List Int, xs.length = 4 ∧ call fs (k + 2) 38 [.list (ns.map .int), .int 1, .int 4] = .ok (.list (xs.map .int)) := by
  rw [call_at at__law_numbers rfl]
  have c1 : call fs (k + 1) 37 [.list (ns.map .int), .int 1] = .ok (.int (cell ns 1)) := cell_ok k ns 1
  have hr : rngD 0 4 = .ok ((List.range 4).map fun i => .int (i : Nat)) := rng_len (n := 4) (by omega)
  have p18 : binD .pow (.int 10) (.int 18) = .ok (.int (10 ^ 18)) := rfl
  have p9 : binD .pow (.int 10) (.int 9) = .ok (.int (10 ^ 9)) := rfl
  simp (config := { implicitDefEqProofs := false }) [exSs, ev, evs, evi, evc, evo, tyIs, retv, noMut, noMuts, put, puto, wipeE, ixD, frzE, inTD, notD, binD, negD, own, lstD, setD, intOf, isD, isNone, f__law_numbers, b__law_numbers, c1, hr]
  generalize hst : forStep _ _ _ = step
  generalize cell ns 1 = c at *
  have st : ∀ i ∈ List.range 4, ∀ (b : Nat) ε, b < 4 → (∃ (xs : List Int) (s5 : Int) (s6 s7 : Sl), xs.length = b ∧ ε = [.f (.list (ns.map .int)), .f (.int 1), .f (.int 4), .f (.int c), .o (.list (xs.map .int)), .f (.int s5), s6, s7]) →
      ∃ ε', (∃ (xs : List Int) (s5 : Int) (s6 s7 : Sl), xs.length = b + 1 ∧ ε' = [.f (.list (ns.map .int)), .f (.int 1), .f (.int 4), .f (.int c), .o (.list (xs.map .int)), .f (.int s5), s6, s7]) ∧ step (.int (i : Nat)) ε = .ok (.nx, ε') := by
    rintro i hi b ε hb ⟨xs, s5, s6, s7, hx, rfl⟩
    have hL : xs.length < 16777216 := by omega
    have m1 : ∀ a c : Int, 0 < c → binD .mod (.int a) (.int c) = .ok (.int (a % c)) := fun a c h => if_pos h
    have m2 : ∀ a c : Int, mulOk a c = true → binD .mul (.int a) (.int c) = .ok (.int (a * c)) := fun a c h => if_pos h
    have m3 : ∀ a c : Int, mulOk a (Int.ofNat c.toNat) = true → True := fun _ _ _ => trivial
    have mo : ∀ a : Int, mulOk a 48271 = true := fun a => by simp [mulOk]
    have mo2 : ∀ a : Int, mulOk a 69621 = true := fun a => by simp [mulOk]
    have mo3 : ∀ a : Int, mulOk a 16807 = true := fun a => by simp [mulOk]
    have mo4 : ∀ a : Int, mulOk a 40692 = true := fun a => by simp [mulOk]
    have hL2 : (xs.map PyData.int).length < 16777216 := by rw [List.length_map]; omega
    by_cases hc : (1000000000000000000 : Int) ≤ c
    · refine ⟨_, ⟨xs ++ [s5 % 1000000000], s5 / 1000000000, .f (.int i), s7, by rw [List.length_append, hx]; rfl, rfl⟩, ?_⟩
      rw [← hst]
      simp (config := { implicitDefEqProofs := false }) [exSs, ev, evs, evi, evc, evo, tyIs, retv, noMut, noMuts, put, puto, wipeE, ixD, frzE, inTD, notD, binD, negD, own, lstD, setD, intOf, isD, isNone, forStep, p18, p9, hc, biD, hL]
    · refine ⟨_, ⟨xs ++ [((c * 48271 + ((i : Int) + 1) * 69621 + 1) % 2147483647 * 16807 + ((i : Int) + 3) * 40692) % 2147483399 % 1000000000], s5, .f (.int i), .f (.int ((c * 48271 + ((i : Int) + 1) * 69621 + 1) % 2147483647)), by rw [List.length_append, hx]; rfl, rfl⟩, ?_⟩
      rw [← hst]
      simp (config := { implicitDefEqProofs := false }) [exSs, ev, evs, evi, evc, evo, tyIs, retv, noMut, noMuts, put, puto, wipeE, ixD, frzE, inTD, notD, binD, negD, own, lstD, setD, intOf, isD, isNone, forStep, p18, p9, hc, biD, hL, mo, mo2, mo3, mo4]
  obtain ⟨ε', ⟨xs, s5, s6, s7, hx, hs⟩, e'⟩ := exFor_foldN (N := 4) (m := fun b : Nat => b) (f := fun (b : Nat) (_ : Nat) => b + 1) (enc := fun i : Nat => .int (i : Nat)) (fun b a => Nat.le_refl _) (l := List.range 4) (b := 0) (ε := [.f (.list (ns.map .int)), .f (.int 1), .f (.int 4), .f (.int c), .o (.list ([].map .int)), .f (.int c), .u, .u]) (by decide) ⟨[], _, _, _, rfl, rfl⟩ st
  refine ⟨xs, by rw [hx, foldl_len]; rfl, ?_⟩
  rw [show [Sl.f (.list (ns.map .int)), .f (.int 1), .f (.int 4), .f (.int c), .o (.list []), .f (.int c), .u, .u] = [Sl.f (.list (ns.map .int)), .f (.int 1), .f (.int 4), .f (.int c), .o (.list ([].map .int)), .f (.int c), .u, .u] from rfl, e', hs]
  simp (config := { implicitDefEqProofs := false }) [exSs, ev, evs, evi, evc, evo, tyIs, retv, noMut, noMuts, put, puto, wipeE, ixD, frzE, inTD, notD, binD, negD, own, lstD, setD, intOf, isD, isNone]
end K01
end Ws

set_option Elab.async false
set_option linter.all false
set_option maxRecDepth 100000
set_option maxHeartbeats 400000
namespace Ws
namespace K01
open PySem
/-! ### plain -/
theorem ixD_last {α : Type} (xs : List α) (x : α) : ixD (xs ++ [x]) (-1) = some x := by
  unfold ixD
  rw [if_neg (by omega), if_pos (by rw [List.length_append, List.length_singleton]; omega)]
  rw [show ((-1 : Int) + ((xs ++ [x]).length : Nat)).toNat = xs.length by rw [List.length_append, List.length_singleton]; omega]
  simp
theorem idx_last (xs : List D) (x : D) : idxD (.list (xs ++ [x])) (.int (-1)) = .ok x := by
  show Rs.of (ixD _ _) = _
  rw [ixD_last]; rfl
theorem ixN_last (n : Nat) : L2.ixN (n + 1) (-1) = some n := by
  unfold L2.ixN
  split
  · omega
  · split
    · congr 1; omega
    · omega
theorem set_snoc (cs : List Bed) (x v : D) : (cs.map (encB true) ++ [x]).set cs.length v = cs.map (encB true) ++ [v] := by
  rw [List.set_append_right _ _ (by rw [List.length_map]; exact Nat.le_refl _), List.length_map, Nat.sub_self]; rfl
def mn (v : Int) : Int := if v < 99 then v else 99
def pstep (bs : List Bed) (b : Bed) : List Bed := match bs.getLast? with
  | some c => if c.1 = b.1 then bs.dropLast ++ [(b.1, mn (c.2.1 + b.2.1), mn (c.2.2 + b.2.2))] else bs ++ [b]
  | none => [b]
theorem pstep_nil (b : Bed) : pstep [] b = [b] := rfl
theorem pstep_eq (bs : List Bed) (c b : Bed) (h : c.1 = b.1) : pstep (bs ++ [c]) b = bs ++ [(b.1, mn (c.2.1 + b.2.1), mn (c.2.2 + b.2.2))] := by
  unfold pstep
  rw [List.getLast?_concat]
  simp [h]
theorem pstep_ne (bs : List Bed) (c b : Bed) (h : ¬ c.1 = b.1) : pstep (bs ++ [c]) b = (bs ++ [c]) ++ [b] := by
  unfold pstep
  rw [List.getLast?_concat]
  simp [h]
theorem pstep_len (bs : List Bed) (b : Bed) : (pstep bs b).length ≤ bs.length + 1 := by
  rcases List.eq_nil_or_concat bs with rfl | ⟨cs, c, rfl⟩
  · rw [pstep_nil]; simp
  · by_cases h : c.1 = b.1
    · rw [List.concat_eq_append, pstep_eq _ _ _ h]; simp
    · rw [List.concat_eq_append, pstep_ne _ _ _ h]; simp
def plainF (l : List Bed) : List Bed := l.foldl pstep []
theorem map_snoc (bs : List Bed) (c : Bed) : (bs ++ [c]).map (encB true) = bs.map (encB true) ++ [encB true c] := by simp
theorem encB_i0 (q : Bool) (b : Bed) : idxD (encB q b) (.int 0) = .ok (.str b.1) := by cases q <;> rfl
theorem encB_i1 (q : Bool) (b : Bed) : idxD (encB q b) (.int 1) = .ok (.int b.2.1) := by cases q <;> rfl
theorem encB_i2 (q : Bool) (b : Bed) : idxD (encB q b) (.int 2) = .ok (.int b.2.2) := by cases q <;> rfl
theorem mn_bi (v : Int) : biD .min [.int 99, .int v] = .ok (.int (mn v)) := rfl
theorem tup_bed (x : Str) (a c : Int) : PyData.tuple [.str x, .int a, .int c] = encB true (x, a, c) := rfl
theorem eq_nil_list (xs : List D) (x : D) : cmpD .eq (.list (xs ++ [x])) (.list []) = if (lim 40 (.list (xs ++ [x]))) = true then .ok (.bool false) else .st := by
  show eqD _ _ = _
  unfold eqD
  cases lim 40 (.list (xs ++ [x])) with
  | false => rfl
  | true =>
    rw [if_pos (by rfl)]
    cases xs <;> rfl
theorem lim_mono : ∀ (n : Nat) (d : D), lim n d = true → ∀ m, n ≤ m → lim m d = true
  | n, .none, _, m, _ => lim_none m
  | n, .bool b, _, m, _ => lim_bool m b
  | n, .int b, _, m, _ => lim_int m b
  | n, .str b, _, m, _ => lim_str m b
  | 0, .list _, h, _, _ => by simp [lim] at h
  | 0, .tuple _, h, _, _ => by simp [lim] at h
  | 0, .dict _, h, _, _ => by simp [lim] at h
  | n + 1, .dict _, h, _, _ => by simp [lim] at h
  | n + 1, .list xs, h, m + 1, hm => by
    have h : xs.all (lim n) = true := by simpa [lim] using h
    show lim (m + 1) (.list xs) = true
    have : xs.all (lim m) = true := List.all_eq_true.mpr fun x hx => lim_mono n x (List.all_eq_true.mp h x hx) m (by omega)
    simpa [lim] using this
  | n + 1, .tuple xs, h, m + 1, hm => by
    have h : xs.all (lim n) = true := by simpa [lim] using h
    show lim (m + 1) (.tuple xs) = true
    have : xs.all (lim m) = true := List.all_eq_true.mpr fun x hx => lim_mono n x (List.all_eq_true.mp h x hx) m (by omega)
    simpa [lim] using this
  | n + 1, .list _, _, 0, hm => by omega
  | n + 1, .tuple _, _, 0, hm => by omega
theorem lim40_beds (bs : List Bed) : lim 40 (.list (bs.map (encB true))) = true := by
  have := lim_log false bs
  have h2 : lim 2 (.list (bs.map (encB true))) = true := by
    have : (bs.map (encB true)).all (lim 1) = true := by
      rw [List.all_eq_true]
      intro x hx
      obtain ⟨b, _, rfl⟩ := List.mem_map.mp hx
      exact lim_bed true b
    simpa [lim] using this
  exact lim_mono 2 _ h2 40 (by omega)
theorem cmp_ne_nil : cmpD .ne (.list []) (.list []) = .ok (.bool false) := rfl
theorem plain_ok (k : Nat) (q : Bool) (l : List Bed) (h : okL l) : call fs (k + 5) 28 [encL q l] = .ok (encL true (plainF l)) := by
  have sq1 : seqD (encL q l) = .ok (l.map (encB q)) := by simp [encL]
  have hl := h.2.1
  rw [call_at at_plain rfl]
  simp (config := { implicitDefEqProofs := false }) [exSs, ev, evs, evi, evc, evo, tyIs, retv, noMut, noMuts, put, puto, wipeE, ixD, frzE, inTD, notD, binD, negD, own, lstD, setD, intOf, isD, isNone, f_plain, b_plain, is_log_ok (h := h), need_true, sq1]
  generalize hst : forStep _ _ _ = step
  have st : ∀ b ∈ l, ∀ (bs : List Bed) ε, bs.length < 12 → (∃ s2 s3 s4 s5 s6, ε = [.f (encL q l), .o (.list (bs.map (encB true))), s2, s3, s4, s5, s6]) →
      ∃ ε', (∃ s2 s3 s4 s5 s6, ε' = [.f (encL q l), .o (.list ((pstep bs b).map (encB true))), s2, s3, s4, s5, s6]) ∧ step (encB q b) ε = .ok (.nx, ε') := by
    rintro b hb bs ε hbs ⟨s2, s3, s4, s5, s6, rfl⟩
    have e : encB q b = sq q [.str b.1, .int b.2.1, .int b.2.2] := rfl
    have eta : ((b.1, b.2.1, b.2.2) : Bed) = b := rfl
    rcases List.eq_nil_or_concat bs with rfl | ⟨cs, c, rfl⟩
    · refine ⟨[.f (encL q l), .o (.list ((pstep [] b).map (encB true))), .f (.str b.1), .f (.int b.2.1), .f (.int b.2.2), s5, s6], ⟨_, _, _, _, _, rfl⟩, ?_⟩
      rw [← hst, pstep_nil]
      simp (config := { implicitDefEqProofs := false }) [exSs, ev, evs, evi, evc, evo, tyIs, retv, noMut, noMuts, put, puto, wipeE, ixD, frzE, inTD, notD, binD, negD, own, lstD, setD, intOf, isD, isNone, forStep, e, tup_bed, eta]
    · rw [List.concat_eq_append] at hbs ⊢
      have hL : cs.length < 16777215 := by
        rw [List.length_append, List.length_singleton] at hbs
        omega
      by_cases hc : c.1 = b.1
      · refine ⟨[.f (encL q l), .o (.list ((pstep (cs ++ [c]) b).map (encB true))), .f (.str b.1), .f (.int b.2.1), .f (.int b.2.2), .f (.int (mn (c.2.1 + b.2.1))), .f (.int (mn (c.2.2 + b.2.2)))], ⟨_, _, _, _, _, rfl⟩, ?_⟩
        rw [← hst, pstep_eq _ _ _ hc, map_snoc, map_snoc]
        simp (config := { implicitDefEqProofs := false }) [exSs, ev, evs, evi, evc, evo, tyIs, retv, noMut, noMuts, put, puto, wipeE, ixD, frzE, inTD, notD, binD, negD, own, lstD, setD, intOf, isD, isNone, forStep, e, idx_last, ixN_last, set_snoc, encB_i0, encB_i1, encB_i2, eqD_str, hc, mn_bi, tup_bed]
      · refine ⟨[.f (encL q l), .o (.list ((pstep (cs ++ [c]) b).map (encB true))), .f (.str b.1), .f (.int b.2.1), .f (.int b.2.2), s5, s6], ⟨_, _, _, _, _, rfl⟩, ?_⟩
        rw [← hst, pstep_ne _ _ _ hc, map_snoc, map_snoc]
        simp (config := { implicitDefEqProofs := false }) [exSs, ev, evs, evi, evc, evo, tyIs, retv, noMut, noMuts, put, puto, wipeE, ixD, frzE, inTD, notD, binD, negD, own, lstD, setD, intOf, isD, isNone, forStep, e, idx_last, ixN_last, set_snoc, encB_i0, encB_i1, encB_i2, eqD_str, hc, mn_bi, tup_bed, eta, LIM, eq_true (show cs.length + 1 < 16777216 by omega)]
  obtain ⟨ε', ⟨s2, s3, s4, s5, s6, hs⟩, e'⟩ := exFor_foldN (N := 12) (m := List.length) (f := pstep) (enc := encB q) pstep_len (l := l) (b := []) (ε := [.f (encL q l), .o (.list ([].map (encB true))), .u, .u, .u, .u, .u]) (by simpa using hl) ⟨_, _, _, _, _, rfl⟩ st
  rw [show [Sl.f (encL q l), .o (.list []), .u, .u, .u, .u, .u] = [Sl.f (encL q l), .o (.list ([].map (encB true))), .u, .u, .u, .u, .u] from rfl, e', hs]
  simp (config := { implicitDefEqProofs := false }) [exSs, ev, evs, evi, evc, evo, tyIs, retv, noMut, noMuts, put, puto, wipeE, ixD, frzE, inTD, notD, binD, negD, own, lstD, setD, intOf, isD, isNone, biD]
  rfl
theorem law_plain_ok (k : Nat) (q : Bool) (l : List Bed) (h : l.length ≤ 12) : call fs (k + 1) 47 [encL q l] = .ok (encL true (plainF l)) := by
  have sq1 : seqD (encL q l) = .ok (l.map (encB q)) := by simp [encL]
  have hl := h
  rw [call_at at__law_plain rfl]
  simp (config := { implicitDefEqProofs := false }) [exSs, ev, evs, evi, evc, evo, tyIs, retv, noMut, noMuts, put, puto, wipeE, ixD, frzE, inTD, notD, binD, negD, own, lstD, setD, intOf, isD, isNone, f__law_plain, b__law_plain, sq1]
  generalize hst : forStep _ _ _ = step
  have st : ∀ b ∈ l, ∀ (bs : List Bed) ε, bs.length < 12 → (∃ s2 s3 s4, ε = [.f (encL q l), .o (.list (bs.map (encB true))), s2, s3, s4]) →
      ∃ ε', (∃ s2 s3 s4, ε' = [.f (encL q l), .o (.list ((pstep bs b).map (encB true))), s2, s3, s4]) ∧ step (encB q b) ε = .ok (.nx, ε') := by
    rintro b hb bs ε hbs ⟨s2, s3, s4, rfl⟩
    have e : encB q b = sq q [.str b.1, .int b.2.1, .int b.2.2] := rfl
    have eta : ((b.1, b.2.1, b.2.2) : Bed) = b := rfl
    rcases List.eq_nil_or_concat bs with rfl | ⟨cs, c, rfl⟩
    · refine ⟨[.f (encL q l), .o (.list ((pstep [] b).map (encB true))), .f (.str b.1), .f (.int b.2.1), .f (.int b.2.2)], ⟨_, _, _, rfl⟩, ?_⟩
      rw [← hst, pstep_nil]
      have en : cmpD .eq (.list []) (.list []) = .ok (.bool true) := rfl
      simp (config := { implicitDefEqProofs := false }) [exSs, ev, evs, evi, evc, evo, tyIs, retv, noMut, noMuts, put, puto, wipeE, ixD, frzE, inTD, notD, binD, negD, own, lstD, setD, intOf, isD, isNone, forStep, e, tup_bed, eta, cmp_ne_nil]
    · rw [List.concat_eq_append] at hbs ⊢
      have hL : cs.length < 16777215 := by
        rw [List.length_append, List.length_singleton] at hbs
        omega
      have hq : cmpD .eq (.list (cs.map (encB true) ++ [encB true c])) (.list []) = .ok (.bool false) := by
        rw [eq_nil_list, ← map_snoc, if_pos (lim40_beds _)]
      have hn : cmpD .ne (.list (cs.map (encB true) ++ [encB true c])) (.list []) = .ok (.bool true) := by
        show notD (cmpD .eq _ _) = _
        rw [hq]; rfl
      by_cases hc : c.1 = b.1
      · refine ⟨[.f (encL q l), .o (.list ((pstep (cs ++ [c]) b).map (encB true))), .f (.str b.1), .f (.int b.2.1), .f (.int b.2.2)], ⟨_, _, _, rfl⟩, ?_⟩
        rw [← hst, pstep_eq _ _ _ hc, map_snoc, map_snoc]
        simp (config := { implicitDefEqProofs := false }) [exSs, ev, evs, evi, evc, evo, tyIs, retv, noMut, noMuts, put, puto, wipeE, ixD, frzE, inTD, notD, binD, negD, own, lstD, setD, intOf, isD, isNone, forStep, e, hn, idx_last, ixN_last, set_snoc, encB_i0, encB_i1, encB_i2, eqD_str, hc, mn_bi, tup_bed]
      · refine ⟨[.f (encL q l), .o (.list ((pstep (cs ++ [c]) b).map (encB true))), .f (.str b.1), .f (.int b.2.1), .f (.int b.2.2)], ⟨_, _, _, rfl⟩, ?_⟩
        rw [← hst, pstep_ne _ _ _ hc, map_snoc, map_snoc]
        simp (config := { implicitDefEqProofs := false }) [exSs, ev, evs, evi, evc, evo, tyIs, retv, noMut, noMuts, put, puto, wipeE, ixD, frzE, inTD, notD, binD, negD, own, lstD, setD, intOf, isD, isNone, forStep, e, hn, idx_last, ixN_last, set_snoc, encB_i0, encB_i1, encB_i2, eqD_str, hc, mn_bi, tup_bed, eta, LIM, eq_true (show cs.length + 1 < 16777216 by omega)]
  obtain ⟨ε', ⟨s2, s3, s4, hs⟩, e'⟩ := exFor_foldN (N := 12) (m := List.length) (f := pstep) (enc := encB q) pstep_len (l := l) (b := []) (ε := [.f (encL q l), .o (.list ([].map (encB true))), .u, .u, .u]) (by simpa using hl) ⟨_, _, _, rfl⟩ st
  rw [show [Sl.f (encL q l), .o (.list []), .u, .u, .u] = [Sl.f (encL q l), .o (.list ([].map (encB true))), .u, .u, .u] from rfl, e', hs]
  simp (config := { implicitDefEqProofs := false }) [exSs, ev, evs, evi, evc, evo, tyIs, retv, noMut, noMuts, put, puto, wipeE, ixD, frzE, inTD, notD, binD, negD, own, lstD, setD, intOf, isD, isNone, biD]
  rfl
end K01
end Ws

set_option Elab.async false
set_option linter.all false
set_option maxRecDepth 100000
set_option maxHeartbeats 400000
namespace Ws
namespace K01
open PySem
/-! ### nearest -/
theorem insD_map {α β : Type} (f : α → β) (le : β → β → Bool) (x : α) : ∀ l : List α, insD le (f x) (l.map f) = (insD (fun a b => le (f a) (f b)) x l).map f
  | [] => rfl
  | y :: ys => by
    show (if le (f x) (f y) then f x :: f y :: ys.map f else f y :: insD le (f x) (ys.map f)) = _
    rw [insD_map f le x ys]
    show _ = (if le (f x) (f y) then x :: y :: ys else y :: insD (fun a b => le (f a) (f b)) x ys).map f
    split <;> rfl
theorem sortD_map {α β : Type} (f : α → β) (le : β → β → Bool) : ∀ l : List α, sortD le (l.map f) = (sortD (fun a b => le (f a) (f b)) l).map f
  | [] => rfl
  | x :: xs => by
    show insD le (f x) (sortD le (xs.map f)) = (insD (fun a b => le (f a) (f b)) x (sortD (fun a b => le (f a) (f b)) xs)).map f
    rw [sortD_map f le xs, insD_map]
theorem insD_mem {α : Type} {le : α → α → Bool} {x y : α} : ∀ {l : List α}, y ∈ insD le x l → y = x ∨ y ∈ l
  | [], h => by
    have h : y ∈ [x] := h
    exact .inl (by simpa using h)
  | z :: zs, h => by
    have h : y ∈ (if le x z then x :: z :: zs else z :: insD le x zs) := h
    split at h
    · exact List.mem_cons.mp h
    · rcases List.mem_cons.mp h with h | h
      · exact .inr (h ▸ List.mem_cons_self)
      · rcases insD_mem h with h | h
        · exact .inl h
        · exact .inr (List.mem_cons_of_mem _ h)
theorem sortD_mem {α : Type} {le : α → α → Bool} {y : α} : ∀ {l : List α}, y ∈ sortD le l → y ∈ l
  | [], h => h
  | x :: xs, h => by
    rcases insD_mem (l := sortD le xs) h with h | h
    · exact h ▸ List.mem_cons_self
    · exact List.mem_cons_of_mem _ (sortD_mem h)
theorem insD_ne {α : Type} {le : α → α → Bool} {x : α} : ∀ {l : List α}, insD le x l ≠ []
  | [], h => by cases h
  | z :: zs, h => by
    have h : (if le x z then x :: z :: zs else z :: insD le x zs) = [] := h
    split at h <;> cases h
theorem insD_len {α : Type} {le : α → α → Bool} {x : α} : ∀ {l : List α}, (insD le x l).length = l.length + 1
  | [] => rfl
  | z :: zs => by
    show (if le x z then x :: z :: zs else z :: insD le x zs).length = _
    split
    · rfl
    · rw [List.length_cons, insD_len]; rfl
theorem sortD_len {α : Type} {le : α → α → Bool} : ∀ {l : List α}, (sortD le l).length = l.length
  | [] => rfl
  | x :: xs => by
    show (insD le x (sortD le xs)).length = _
    rw [insD_len, sortD_len]; rfl
def pairE (w v : Well) : D := .tuple [.int (sqd w v), .str v.1]
def others (ws : List Well) (w : Well) : List Well := ws.filter fun v => !decide (v.1 = w.1)
def far (ws : List Well) (w : Well) : List Well := sortD (fun a b => leT (pairE w a) (pairE w b)) (others ws w)
theorem alike_pair (a b : Int) (x y : Str) : PySem.W.alike (.tuple [.int a, .str x]) (.tuple [.int b, .str y]) = true := by
  simp [PySem.W.alike, PySem.W.alikeAll]
theorem sort_pairs (w : Well) (l : List Well) : biD .sorted [.list (l.map (pairE w))] = .ok (.list ((sortD (fun a b => leT (pairE w a) (pairE w b)) l).map (pairE w))) := by
  have ok : sortOk (l.map (pairE w)) = true := by
    unfold sortOk allOk
    have h1 : ∀ x ∈ l.map (pairE w), ∃ a y, x = .tuple [.int a, .str y] := by
      intro x hx
      obtain ⟨v, _, rfl⟩ := List.mem_map.mp hx
      exact ⟨_, _, rfl⟩
    generalize l.map (pairE w) = xs at *
    rw [Bool.and_eq_true, Bool.or_eq_true]
    refine ⟨List.all_eq_true.mpr fun x hx => ?_, .inl (List.all_eq_true.mpr fun x hx => ?_)⟩
    · obtain ⟨a, y, rfl⟩ := h1 x hx
      rw [Bool.and_eq_true]
      refine ⟨by simp [isNone, lim], List.all_eq_true.mpr fun z hz => ?_⟩
      obtain ⟨b, u, rfl⟩ := h1 z hz
      exact alike_pair _ _ _ _
    · obtain ⟨a, y, rfl⟩ := h1 x hx
      rfl
  show (if sortOk _ then _ else _) = _
  rw [if_pos ok, sortD_map]
theorem flat_filter {α β : Type} (p : α → Bool) (f : α → β) : ∀ l : List α, l.flatMap (fun a => if p a = true then [f a] else []) = (l.filter p).map f
  | [] => rfl
  | a :: l => by
    rw [List.flatMap_cons, flat_filter p f l, List.filter_cons]
    cases p a <;> rfl
theorem ne_str (a b : Str) : cmpD .ne (.str a) (.str b) = .ok (.bool (!decide (a = b))) := by
  show notD (cmpD .eq (.str a) (.str b)) = _
  rw [eqD_str]; rfl
theorem inP_bound {w : Well} (h : inP w = true) : 0 ≤ w.2.1 ∧ w.2.1 ≤ 60 ∧ 0 ≤ w.2.2.1 ∧ w.2.2.1 ≤ 60 := by
  unfold inP inPl at h
  simp only [Bool.and_eq_true, decide_eq_true_eq] at h
  exact ⟨h.1.1, h.1.2, h.2.1, h.2.2⟩
theorem nearest_ok (k : Nat) (q r : Bool) (ws : List Well) (h : okWs ws) (hp : ws.all inP = true) {w : Well} (hm : w ∈ ws) : call fs (k + 7) 33 [encWs q r ws, .str w.1] = .ok (.tuple ((far ws w).map fun v => .str v.1)) := by
  have wn := well_named_ok (k + 4) q r ws (x := w.1) (h.ok w hm).1
  rw [wellD, wellOf_mem h hm] at wn
  have n1 : cmpD .isn (encW r w) .none = .ok (.bool true) := by cases r <;> rfl
  have i0 : ∀ v : Well, idxD (encW r v) (.int 0) = .ok (.str v.1) := fun w => by simp (config := { implicitDefEqProofs := false }) [exSs, ev, evs, evi, evc, evo, tyIs, retv, noMut, noMuts, put, puto, wipeE, ixD, frzE, inTD, notD, binD, negD, own, lstD, setD, intOf, isD, isNone, encW]
  have hpa := List.all_eq_true.mp hp
  rw [call_at at_nearest rfl]
  simp (config := { implicitDefEqProofs := false }) [exSs, ev, evs, evi, evc, evo, tyIs, retv, noMut, noMuts, put, puto, wipeE, ixD, frzE, inTD, notD, binD, negD, own, lstD, setD, intOf, isD, isNone, f_nearest, b_nearest, is_wells_ok (h := h), hp, need_true, wn, n1, encWs_seq]
  rw [lcL_flat (enc := encW r) (f := fun v => if (!decide (v.1 = w.1)) = true then [pairE w v] else []) fun v hv => ?_]
  · rw [flat_filter]
    simp (config := { implicitDefEqProofs := false }) [exSs, ev, evs, evi, evc, evo, tyIs, retv, noMut, noMuts, put, puto, wipeE, ixD, frzE, inTD, notD, binD, negD, own, lstD, setD, intOf, isD, isNone]
    rw [sort_pairs]
    simp (config := { implicitDefEqProofs := false }) [exSs, ev, evs, evi, evc, evo, tyIs, retv, noMut, noMuts, put, puto, wipeE, ixD, frzE, inTD, notD, binD, negD, own, lstD, setD, intOf, isD, isNone, seqD]
    rw [lcL_map (enc := pairE w) (f := fun v => .str v.1) fun v hv => by simp (config := { implicitDefEqProofs := false }) [exSs, ev, evs, evi, evc, evo, tyIs, retv, noMut, noMuts, put, puto, wipeE, ixD, frzE, inTD, notD, binD, negD, own, lstD, setD, intOf, isD, isNone, pairE, idxD]]
    simp (config := { implicitDefEqProofs := false }) [exSs, ev, evs, evi, evc, evo, tyIs, retv, noMut, noMuts, put, puto, wipeE, ixD, frzE, inTD, notD, binD, negD, own, lstD, setD, intOf, isD, isNone, biD]
    rfl
  · have b1 := inP_bound (hpa w hm)
    have b2 := inP_bound (hpa v hv)
    have ap := apart_ok (k + 5) r r w v (by omega) (by omega)
    by_cases e : v.1 = w.1 <;> simp (config := { implicitDefEqProofs := false }) [exSs, ev, evs, evi, evc, evo, tyIs, retv, noMut, noMuts, put, puto, wipeE, ixD, frzE, inTD, notD, binD, negD, own, lstD, setD, intOf, isD, isNone, i0, ne_str, e, ap, pairE]

/-! ### stuffs by their traits -/
def tr (x : Str) : List Str := match tabAt tabT x with
  | some (.tuple ds) => ds.filterMap fun d => match d with | .str y => some y | _ => none
  | _ => []
def allS {P : Str → Prop} (h1 : P (t "ash")) (h2 : P (t "chalk")) (h3 : P (t "clay")) (h4 : P (t "coal")) (h5 : P (t "gravel")) (h6 : P (t "lime")) (h7 : P (t "loam")) (h8 : P (t "marl")) (h9 : P (t "rock")) (h10 : P (t "salt")) (h11 : P (t "sand")) (h12 : P (t "shale")) : ∀ x ∈ stuffs, P x := by
  intro x hx
  simp only [stuffs, List.mem_cons, List.mem_nil_iff, or_false] at hx
  rcases hx with rfl | rfl | rfl | rfl | rfl | rfl | rfl | rfl | rfl | rfl | rfl | rfl <;> assumption
theorem tab_at : ∀ x ∈ stuffs, tabAt tabT x = some (.tuple ((tr x).map .str)) := by
  refine allS ?_ ?_ ?_ ?_ ?_ ?_ ?_ ?_ ?_ ?_ ?_ ?_ <;> rfl
theorem stuff_any {x : Str} (h : x ∈ stuffs) : (stuffs.any fun y => decide (y = x)) = true := List.any_eq_true.mpr ⟨x, h, by simp⟩
theorem traits_ok (k : Nat) {x : Str} (h : x ∈ stuffs) : call fs (k + 2) 10 [.str x] = .ok (.tuple ((tr x).map .str)) := by
  have e : atTD tabT (.str x) = .ok (.tuple ((tr x).map .str)) := by
    show Rs.of (tabAt tabT x) = _
    rw [tab_at x h]; rfl
  rw [call_at at_traits rfl]
  simp (config := { implicitDefEqProofs := false }) [exSs, ev, evs, evi, evc, evo, tyIs, retv, noMut, noMuts, put, puto, wipeE, ixD, frzE, inTD, notD, binD, negD, own, lstD, setD, intOf, isD, isNone, f_traits, b_traits, is_stuff_str, stuff_any h, need_true, e]
def lawT : D := match call fs 1 45 [] with
  | .ok d => d
  | _ => .none
theorem law_traits_ok (k : Nat) : call fs (k + 1) 45 [] = .ok lawT := rfl
theorem lawT_at : ∀ x ∈ stuffs, idxD lawT (.str x) = .ok (.tuple ((tr x).map .str)) := by
  refine allS ?_ ?_ ?_ ?_ ?_ ?_ ?_ ?_ ?_ ?_ ?_ ?_ <;> rfl
theorem law_stuffs_ok (k : Nat) : call fs (k + 1) 39 [] = .ok (.list (stuffs.map .str)) := rfl
theorem in_strs (a : Str) (xs : List Str) : cmpD .in_ (.str a) (.tuple (xs.map .str)) = .ok (.bool (xs.any fun z => decide (z = a))) := by
  have l1 : lim 40 (.tuple (xs.map .str)) = true := by
    have : (xs.map PyData.str).all (lim 39) = true := by
      rw [List.all_eq_true]
      intro x hx
      obtain ⟨b, _, rfl⟩ := List.mem_map.mp hx
      exact lim_str 39 b
    simpa [lim] using this
  show inD (.str a) (.tuple (xs.map .str)) = _
  unfold inD
  simp only [lim_str, l1, Bool.and_self, if_true]
  rw [List.any_map]
  congr 2
theorem nin_strs (a : Str) (xs : List Str) : cmpD .nin (.str a) (.tuple (xs.map .str)) = .ok (.bool (!xs.any fun z => decide (z = a))) := by
  show notD (cmpD .in_ (.str a) (.tuple (xs.map .str))) = _
  rw [in_strs]; rfl
def hasW (x w : Str) : Bool := (tr x).any fun z => decide (z = w)
def withW (ss : List Str) : List Str := stuffs.filter fun x => ss.all (hasW x)
theorem stuffs_with_ok (k : Nat) (ss : List Str) (hw : call fs (k + 3) 11 [.list (ss.map .str)] = .ok (.bool true)) : call fs (k + 4) 12 [.list (ss.map .str)] = .ok (.tuple ((withW ss).map .str)) := by
  rw [call_at at_stuffs_with rfl]
  simp (config := { implicitDefEqProofs := false }) [exSs, ev, evs, evi, evc, evo, tyIs, retv, noMut, noMuts, put, puto, wipeE, ixD, frzE, inTD, notD, binD, negD, own, lstD, setD, intOf, isD, isNone, f_stuffs_with, b_stuffs_with, hw, need_true]
  have sq1 : ∀ ys : List D, seqD (.tuple ys) = .ok ys := fun _ => rfl
  have sq2 : ∀ ys : List D, seqD (.list ys) = .ok ys := fun _ => rfl
  rw [sq1]
  simp (config := { implicitDefEqProofs := false }) [exSs, ev, evs, evi, evc, evo, tyIs, retv, noMut, noMuts, put, puto, wipeE, ixD, frzE, inTD, notD, binD, negD, own, lstD, setD, intOf, isD, isNone]
  rw [show [PyData.str (t "ash"), .str (t "chalk"), .str (t "clay"), .str (t "coal"), .str (t "gravel"), .str (t "lime"), .str (t "loam"), .str (t "marl"), .str (t "rock"), .str (t "salt"), .str (t "sand"), .str (t "shale")] = stuffs.map .str from rfl]
  rw [lcL_flat (enc := PyData.str) (f := fun x => if (ss.all (hasW x)) = true then [.str x] else []) fun x hx => ?_]
  · rw [flat_filter]
    simp (config := { implicitDefEqProofs := false }) [exSs, ev, evs, evi, evc, evo, tyIs, retv, noMut, noMuts, put, puto, wipeE, ixD, frzE, inTD, notD, binD, negD, own, lstD, setD, intOf, isD, isNone, biD]
    rfl
  · have e : atTD tabT (.str x) = .ok (.tuple ((tr x).map .str)) := by
      show Rs.of (tabAt tabT x) = _
      rw [tab_at x hx]; rfl
    generalize hb : ss.all (hasW x) = b
    simp (config := { implicitDefEqProofs := false }) [exSs, ev, evs, evi, evc, evo, tyIs, retv, noMut, noMuts, put, puto, wipeE, ixD, frzE, inTD, notD, binD, negD, own, lstD, setD, intOf, isD, isNone, sq2]
    rw [lcL_map (enc := PyData.str) (f := fun w => .bool (hasW x w)) fun w hw => by simp (config := { implicitDefEqProofs := false }) [exSs, ev, evs, evi, evc, evo, tyIs, retv, noMut, noMuts, put, puto, wipeE, ixD, frzE, inTD, notD, binD, negD, own, lstD, setD, intOf, isD, isNone, e, in_strs, hasW]]
    rw [Rs.bnd_ok, Rs.bnd_ok, Rs.bnd_ok, all_map (p := hasW x), hb]
    cases b <;> simp (config := { implicitDefEqProofs := false }) [exSs, ev, evs, evi, evc, evo, tyIs, retv, noMut, noMuts, put, puto, wipeE, ixD, frzE, inTD, notD, binD, negD, own, lstD, setD, intOf, isD, isNone]
def words5 : List Str := [t "hard", t "soft", t "lets", t "holds", t "burns"]
theorem words1 (k : Nat) {a : Str} (ha : a ∈ words5) : call fs (k + 3) 11 [.list [.str a]] = .ok (.bool true) := by
  simp only [words5, List.mem_cons, List.mem_nil_iff, or_false] at ha
  rcases ha with rfl | rfl | rfl | rfl | rfl <;> rfl
theorem words2 (k : Nat) {a b : Str} (ha : a ∈ words5) (hb : b ∈ words5) (hn : a ≠ b) : call fs (k + 3) 11 [.list [.str a, .str b]] = .ok (.bool true) := by
  simp only [words5, List.mem_cons, List.mem_nil_iff, or_false] at ha hb
  rcases ha with rfl | rfl | rfl | rfl | rfl <;> rcases hb with rfl | rfl | rfl | rfl | rfl <;> first | rfl | exact absurd rfl hn

/-! ### the law's own logs -/
def st (i : Int) : Str := stuffs.getD i.toNat (t "")
theorem idx12 (i : Int) (h0 : 0 ≤ i) (h1 : i < 12) : idxD (.list (stuffs.map .str)) (.int i) = .ok (.str (st i)) := by
  obtain ⟨n, rfl⟩ : ∃ n : Nat, i = n := ⟨i.toNat, by omega⟩
  have hn : n < stuffs.length := by show n < 12; omega
  show Rs.of (ixD _ _) = _
  unfold ixD st
  rw [if_pos h0, Int.toNat_natCast, List.getElem?_map, List.getElem?_eq_getElem hn, List.getD_eq_getElem?_getD, List.getElem?_eq_getElem hn]; rfl
theorem st_mem (i : Int) (h0 : 0 ≤ i) (h1 : i < 12) : st i ∈ stuffs := by
  obtain ⟨n, rfl⟩ : ∃ n : Nat, i = n := ⟨i.toNat, by omega⟩
  have hn : n < stuffs.length := by show n < 12; omega
  unfold st
  rw [Int.toNat_natCast, List.getD_eq_getElem?_getD, List.getElem?_eq_getElem hn]
  exact List.getElem_mem hn
theorem st_inj (i j : Int) (h0 : 0 ≤ i) (h1 : i < 12) (g0 : 0 ≤ j) (g1 : j < 12) (h : st i = st j) : i = j := by
  have nd : ∀ a b : Fin 12, stuffs.getD a.val (t "") = stuffs.getD b.val (t "") → a = b := by decide +kernel
  have := nd ⟨i.toNat, by omega⟩ ⟨j.toNat, by omega⟩ h
  have := congrArg Fin.val this
  simp only at this
  omega
theorem some_stuffs_ok (k : Nat) (v : Int) : ∃ (a b : Str) (r : List Str), a ∈ stuffs ∧ b ∈ stuffs ∧ a ≠ b ∧ (∀ x ∈ r, x ∈ stuffs) ∧ r.length ≤ 1 ∧ call fs (k + 2) 40 [.int v] = .ok (.list ((a :: b :: r).map .str)) := by
  have h1 : ∀ a : Int, 0 ≤ a % 12 ∧ a % 12 < 12 := fun a => by omega
  have m1 : ∀ a c : Int, 0 < c → binD .mod (.int a) (.int c) = .ok (.int (a % c)) := fun a c h => if_pos h
  have d1 : ∀ a c : Int, 0 < c → c < 1073741824 → binD .fdiv (.int a) (.int c) = .ok (.int (a / c)) := fun a c h h' => if_pos ⟨h, h'⟩
  have bl : ∀ a b c : Str, cutD [PyData.str a, .str b, .str c] none (some 2) = [.str a, .str b] := fun _ _ _ => rfl
  have bm : ∀ a b c : Str, cutD [PyData.str a, .str b, .str c] none (some 3) = [.str a, .str b, .str c] := fun _ _ _ => rfl
  have hne : st (v % 12) ≠ st ((v % 12 + 1 + v / 12 % 5) % 12) := fun h => by
    have := st_inj _ _ (h1 _).1 (h1 _).2 (h1 _).1 (h1 _).2 h
    omega
  have c : v / 360 % 2 = 0 ∨ v / 360 % 2 = 1 := by omega
  rcases c with c | c
  · refine ⟨st (v % 12), st ((v % 12 + 1 + v / 12 % 5) % 12), [], st_mem _ (h1 _).1 (h1 _).2, st_mem _ (h1 _).1 (h1 _).2, hne, by simp, by simp, ?_⟩
    rw [call_at at__law_some_stuffs rfl]
    simp (config := { implicitDefEqProofs := false }) [exSs, ev, evs, evi, evc, evo, tyIs, retv, noMut, noMuts, put, puto, wipeE, ixD, frzE, inTD, notD, binD, negD, own, lstD, setD, intOf, isD, isNone, f__law_some_stuffs, b__law_some_stuffs, law_stuffs_ok, biD, idx12 _ (h1 _).1 (h1 _).2, c, sliD, bl]
  · refine ⟨st (v % 12), st ((v % 12 + 1 + v / 12 % 5) % 12), [st ((v % 12 + 6 + v / 60 % 6) % 12)], st_mem _ (h1 _).1 (h1 _).2, st_mem _ (h1 _).1 (h1 _).2, hne, by simpa using st_mem _ (h1 _).1 (h1 _).2, by simp, ?_⟩
    rw [call_at at__law_some_stuffs rfl]
    simp (config := { implicitDefEqProofs := false }) [exSs, ev, evs, evi, evc, evo, tyIs, retv, noMut, noMuts, put, puto, wipeE, ixD, frzE, inTD, notD, binD, negD, own, lstD, setD, intOf, isD, isNone, f__law_some_stuffs, b__law_some_stuffs, law_stuffs_ok, biD, idx12 _ (h1 _).1 (h1 _).2, c, sliD, bm]
end K01
end Ws

set_option Elab.async false
set_option linter.all false
set_option maxRecDepth 100000
set_option maxHeartbeats 400000
namespace Ws
namespace K01
open PySem
theorem m1 (a c : Int) (h : 0 < c) : binD .mod (.int a) (.int c) = .ok (.int (a % c)) := if_pos h
theorem d1 (a c : Int) (h : 0 < c) (h' : c < 1073741824) : binD .fdiv (.int a) (.int c) = .ok (.int (a / c)) := if_pos ⟨h, h'⟩
theorem mu (a c : Int) (h : mulOk a c = true) : binD .mul (.int a) (.int c) = .ok (.int (a * c)) := if_pos h
def lawBed (ss : List Str) (n : Int) : Bed := (ss.getD (n % ss.length).toNat (t ""), 1 + n / 3 % 9, 1 + n / 3 % 9 + n / 27 % 4)
theorem law_bed_ok (k : Nat) (ss : List Str) (n : Int) (h : 0 < ss.length) : call fs (k + 1) 41 [.int n, .list (ss.map .str)] = .ok (encB true (lawBed ss n)) := by
  have hl : biD .len [.list (ss.map .str)] = .ok (.int ss.length) := by
    show Rs.ok (PyData.int ((ss.map PyData.str).length : Nat)) = _
    rw [List.length_map]
  have ix : idxD (.list (ss.map .str)) (.int (n % ss.length)) = .ok (.str (ss.getD (n % ss.length).toNat (t ""))) := by
    have h0 : 0 ≤ n % (ss.length : Int) := Int.emod_nonneg _ (by omega)
    have h1 : n % (ss.length : Int) < ss.length := Int.emod_lt_of_pos _ (by omega)
    have h2 : (n % (ss.length : Int)).toNat < ss.length := by omega
    show Rs.of (ixD _ _) = _
    unfold ixD
    rw [if_pos h0, List.getElem?_map, List.getElem?_eq_getElem h2, List.getD_eq_getElem?_getD, List.getElem?_eq_getElem h2]; rfl
  have hm : binD .mod (.int n) (.int (ss.length : Nat)) = .ok (.int (n % (ss.length : Nat))) := m1 _ _ (by omega)
  rw [call_at at__law_bed rfl]
  have e : encB true (lawBed ss n) = .tuple [.str (ss.getD (n % ss.length).toNat (t "")), .int (1 + n / 3 % 9), .int (1 + n / 3 % 9 + n / 27 % 4)] := rfl
  rw [e]
  have b1 : ∀ i, biD .int [.int i] = .ok (.int i) := fun _ => rfl
  simp (config := { implicitDefEqProofs := false }) [exSs, ev, evs, evi, evc, evo, tyIs, retv, noMut, noMuts, put, puto, wipeE, ixD, frzE, inTD, notD, binD, negD, own, lstD, setD, intOf, isD, isNone, f__law_bed, b__law_bed, b1, hl, d1, m1, hm, ix, h]
theorem law_bed_in (ss : List Str) (n : Int) (h : 0 < ss.length) : (lawBed ss n).1 ∈ ss := by
  have h0 : 0 ≤ n % (ss.length : Int) := Int.emod_nonneg _ (by omega)
  have h1 : n % (ss.length : Int) < ss.length := Int.emod_lt_of_pos _ (by omega)
  have h2 : (n % (ss.length : Int)).toNat < ss.length := by omega
  show ss.getD _ _ ∈ ss
  rw [List.getD_eq_getElem?_getD, List.getElem?_eq_getElem h2]
  exact List.getElem_mem h2
/-- at most twelve thick -/
def lowB (b : Bed) : Prop := 0 ≤ b.2.1 ∧ 0 ≤ b.2.2 ∧ b.2.2 ≤ 12
theorem law_bed_okB (ss : List Str) (n : Int) (h : 0 < ss.length) (hs : ∀ x ∈ ss, x ∈ stuffs) : okB (lawBed ss n) ∧ lowB (lawBed ss n) := by
  refine ⟨⟨stuff_any (hs _ (law_bed_in ss n h)), ?_, ?_, ?_⟩, ?_, ?_, ?_⟩
  · show 1 ≤ 1 + n / 3 % 9; omega
  · show 1 + n / 3 % 9 ≤ 1 + n / 3 % 9 + n / 27 % 4; omega
  · show 1 + n / 3 % 9 + n / 27 % 4 ≤ 99; omega
  · show 0 ≤ 1 + n / 3 % 9; omega
  · show 0 ≤ 1 + n / 3 % 9 + n / 27 % 4; omega
  · show 1 + n / 3 % 9 + n / 27 % 4 ≤ 12; omega
def lawLog (ss : List Str) (n : Int) : List Bed := (List.range (1 + n % 6).toNat).map fun k : Nat => lawBed ss (n / (6 + 3 * (k : Int)) + 11 * (k : Int))
theorem law_log_ok (k : Nat) (ss : List Str) (n : Int) (h : 0 < ss.length) : call fs (k + 2) 42 [.int n, .list (ss.map .str), .int 6] = .ok (encL true (lawLog ss n)) := by
  have b1 : ∀ i, biD .int [.int i] = .ok (.int i) := fun _ => rfl
  have hr : rngD 0 (1 + n % 6) = .ok ((List.range (1 + n % 6).toNat).map fun i => .int (i : Nat)) := by
    rw [show 1 + n % 6 = (((1 + n % 6).toNat : Nat) : Int) by omega, rng_len (by omega)]; rfl
  have b6 : (1 + n % 6).toNat ≤ 6 := by omega
  rw [call_at at__law_log rfl]
  simp (config := { implicitDefEqProofs := false }) [exSs, ev, evs, evi, evc, evo, tyIs, retv, noMut, noMuts, put, puto, wipeE, ixD, frzE, inTD, notD, binD, negD, own, lstD, setD, intOf, isD, isNone, f__law_log, b__law_log, b1, m1, hr]
  generalize hst : forStep _ _ _ = step
  have st : ∀ i ∈ List.range (1 + n % 6).toNat, ∀ b ε, b.length < 6 → (∃ s5, ε = [.f (.int n), .f (.list (ss.map .str)), .f (.int 6), .f (.int n), .o (.list b), s5]) →
      ∃ ε', (∃ s5, ε' = [.f (.int n), .f (.list (ss.map .str)), .f (.int 6), .f (.int n), .o (.list (b ++ [encB true (lawBed ss (n / (6 + 3 * (i : Int)) + 11 * i))])), s5]) ∧ step (.int (i : Nat)) ε = .ok (.nx, ε') := by
    rintro i hi b ε hb ⟨s5, rfl⟩
    have hi : i < 6 := by have := List.mem_range.mp hi; omega
    refine ⟨_, ⟨.f (.int i), rfl⟩, ?_⟩
    rw [← hst]
    have q1 : binD .mul (.int 3) (.int (i : Nat)) = .ok (.int (3 * (i : Nat))) := mu _ _ (by simp [mulOk])
    have q2 : binD .mul (.int 11) (.int (i : Nat)) = .ok (.int (11 * (i : Nat))) := mu _ _ (by simp [mulOk])
    have q3 : binD .fdiv (.int n) (.int (6 + 3 * (i : Nat))) = .ok (.int (n / (6 + 3 * (i : Nat)))) := d1 _ _ (by omega) (by omega)
    have q4 := law_bed_ok k ss (n / (6 + 3 * (i : Int)) + 11 * i) h
    have q5 : noMut (encB true (lawBed ss (n / (6 + 3 * (i : Int)) + 11 * i))) = true := rfl
    have qa : ∀ i j : Int, binD .add (.int i) (.int j) = .ok (.int (i + j)) := fun _ _ => rfl
    simp only [forStep, exSs, exS_app, List.map_cons, List.map_nil, frz_f, frz_o, ev, evs, bnd_nm1, frzE, own, lstD, puto, List.getElem?_cons_zero, List.getElem?_cons_succ, List.set_cons_zero, List.set_cons_succ, Rs.bnd_ok, b1, q1, q2, q3, qa, q4, nmR_ok, q5, if_true, show b.length < LIM from by show b.length < 16777216; omega]
  obtain ⟨ε', ⟨s5, hs⟩, e'⟩ := exFor_app (N := 6) (enc := fun i : Nat => .int (i : Nat)) (g := fun i : Nat => encB true (lawBed ss (n / (6 + 3 * (i : Int)) + 11 * i))) (l := List.range (1 + n % 6).toNat) (b := []) (ε := [.f (.int n), .f (.list (ss.map .str)), .f (.int 6), .f (.int n), .o (.list []), .u]) (by simpa using b6) ⟨_, rfl⟩ st
  rw [e', hs]
  simp (config := { implicitDefEqProofs := false }) [exSs, ev, evs, evi, evc, evo, tyIs, retv, noMut, noMuts, put, puto, wipeE, ixD, frzE, inTD, notD, binD, negD, own, lstD, setD, intOf, isD, isNone, biD]
  show PyData.tuple _ = PyData.tuple _
  unfold lawLog
  rw [List.map_map]; rfl
theorem lawLog_len (ss : List Str) (n : Int) : 1 ≤ (lawLog ss n).length ∧ (lawLog ss n).length ≤ 6 := by
  unfold lawLog
  rw [List.length_map, List.length_range]
  omega
theorem lawLog_mem {ss : List Str} {n : Int} {b : Bed} (h : b ∈ lawLog ss n) : ∃ m, b = lawBed ss m := by
  obtain ⟨k, _, e⟩ := List.mem_map.mp h
  exact ⟨_, e.symm⟩

/-! ### the law's own wells -/
def lawWell (ss : List Str) (x : Str) (k : Nat) (n : Int) : Well := (x, 10 * k + n % 10, n / 10 % 60, n / 600 % 90 - 40, lawLog ss (n / 7))
theorem law_wells_step (k : Nat) (ss : List Str) (h : 0 < ss.length) (n : Int) : call fs (k + 2) 42 [.int (n / 7), .list (ss.map .str), .int 6] = .ok (encL true (lawLog ss (n / 7))) := law_log_ok k ss _ h
def lawWells (ss : List Str) : List Int → List Well
  | [a, b, c] => [lawWell ss (t "ash") 0 a, lawWell ss (t "birch") 1 b, lawWell ss (t "cedar") 2 c]
  | [a, b, c, d] => [lawWell ss (t "ash") 0 a, lawWell ss (t "birch") 1 b, lawWell ss (t "cedar") 2 c, lawWell ss (t "dogwood") 3 d]
  | _ => []
theorem law_wells_ok (k : Nat) (ss : List Str) (h : 0 < ss.length) (xs : List Int) (hx : xs.length = 4) (c : Int) (hc : c = 3 ∨ c = 4) : call fs (k + 3) 43 [.list (xs.map .int), .list (ss.map .str), .int c, .int 6] = .ok (encWs true true (lawWells ss (xs.take c.toNat))) := by
  have b1 : ∀ i, biD .int [.int i] = .ok (.int i) := fun _ => rfl
  obtain ⟨n0, n1, n2, n3, rfl⟩ : ∃ a b c d, xs = [a, b, c, d] := by
    match xs, hx with
    | [a, b, c, d], _ => exact ⟨a, b, c, d, rfl⟩
  have r3 : rngD 0 3 = .ok [.int 0, .int 1, .int 2] := rfl
  have r4 : rngD 0 4 = .ok [.int 0, .int 1, .int 2, .int 3] := rfl
  have ec : ∀ l : List Bed, noMut (encL true l) = true := fun l => by
    have := tpl_nm 2 (encL true l) (lim_log true l)
    rwa [tpl_log] at this
  have q0 : binD .mul (.int 10) (.int 0) = .ok (.int 0) := rfl
  have q1 : binD .mul (.int 10) (.int 1) = .ok (.int 10) := rfl
  have q2 : binD .mul (.int 10) (.int 2) = .ok (.int 20) := rfl
  have q3 : binD .mul (.int 10) (.int 3) = .ok (.int 30) := rfl
  have qa : ∀ i j : Int, binD .add (.int i) (.int j) = .ok (.int (i + j)) := fun _ _ => rfl
  have qs : ∀ i j : Int, binD .sub (.int i) (.int j) = .ok (.int (i - j)) := fun _ _ => rfl
  have L := law_wells_step k ss h
  have bt : ∀ xs, biD .tuple [.list xs] = .ok (.tuple xs) := fun _ => rfl
  have x0 : ∀ a b c d : D, idxD (.list [a, b, c, d]) (.int 0) = .ok a := fun _ _ _ _ => rfl
  have x1 : ∀ a b c d : D, idxD (.list [a, b, c, d]) (.int 1) = .ok b := fun _ _ _ _ => rfl
  have x2 : ∀ a b c d : D, idxD (.list [a, b, c, d]) (.int 2) = .ok c := fun _ _ _ _ => rfl
  have x3 : ∀ a b c d : D, idxD (.list [a, b, c, d]) (.int 3) = .ok d := fun _ _ _ _ => rfl
  rw [call_at at__law_wells rfl]
  rcases hc with rfl | rfl
  · simp (config := { implicitDefEqProofs := false }) [exSs, ev, evs, evi, evc, evo, tyIs, retv, noMut, noMuts, put, puto, wipeE, ixD, frzE, inTD, notD, negD, own, lstD, setD, intOf, isD, isNone, encWs, encW, sq, lawWells, lawWell, show (3 : Int).toNat = 3 from rfl, f__law_wells, b__law_wells, r3, exFor, forStep, b1, q0, q1, q2, q3, qa, qs, d1, m1, L, ec, bt, x0, x1, x2, x3, LIM]
  · simp (config := { implicitDefEqProofs := false }) [exSs, ev, evs, evi, evc, evo, tyIs, retv, noMut, noMuts, put, puto, wipeE, ixD, frzE, inTD, notD, negD, own, lstD, setD, intOf, isD, isNone, encWs, encW, sq, lawWells, lawWell, show (4 : Int).toNat = 4 from rfl, f__law_wells, b__law_wells, r4, exFor, forStep, b1, q0, q1, q2, q3, qa, qs, d1, m1, L, ec, bt, x0, x1, x2, x3, LIM]
theorem dnum_nd : ∀ {l : List (List Int)}, l.Nodup → dnum l = l.length
  | [], _ => rfl
  | x :: xs, h => by
    rw [List.nodup_cons] at h
    unfold dnum
    rw [if_neg, dnum_nd h.2]
    · rfl
    · intro c
      obtain ⟨y, hy, e⟩ := List.any_eq_true.mp c
      have e : y = x := by simpa using e
      exact h.1 (e ▸ hy)
theorem lawWells_ok (ss : List Str) (h : 0 < ss.length) (hs : ∀ x ∈ ss, x ∈ stuffs) (xs : List Int) (hx : xs.length = 4) (c : Int) (hc : c = 3 ∨ c = 4) : okWs (lawWells ss (xs.take c.toNat)) ∧ (lawWells ss (xs.take c.toNat)).all inP = true ∧ ∀ w ∈ lawWells ss (xs.take c.toNat), -40 ≤ w.2.2.2.1 ∧ w.2.2.2.1 ≤ 49 ∧ w.2.2.2.2.length ≤ 6 ∧ w.2.1 ≤ 39 ∧ ∀ b ∈ w.2.2.2.2, lowB b := by
  obtain ⟨n0, n1, n2, n3, rfl⟩ : ∃ a b c d, xs = [a, b, c, d] := by
    match xs, hx with
    | [a, b, c, d], _ => exact ⟨a, b, c, d, rfl⟩
  have hl : ∀ n, okL (lawLog ss n) ∧ ∀ b ∈ lawLog ss n, lowB b := fun n => by
    have := lawLog_len ss n
    refine ⟨⟨this.1, by omega, fun b hb => ?_⟩, fun b hb => ?_⟩
    · obtain ⟨m, rfl⟩ := lawLog_mem hb
      exact (law_bed_okB ss m h hs).1
    · obtain ⟨m, rfl⟩ := lawLog_mem hb
      exact (law_bed_okB ss m h hs).2
  have w1 : ∀ (x : Str) (k : Nat) (n : Int), x ∈ titles → okW (lawWell ss x k n) := fun x k n hx => by
    refine ⟨hx, ?_, ?_, (hl _).1⟩
    · show -500 ≤ n / 600 % 90 - 40; omega
    · show n / 600 % 90 - 40 ≤ 500; omega
  have w2 : ∀ (x : Str) (k : Nat) (n : Int), k ≤ 3 → inP (lawWell ss x k n) = true := fun x k n hk => by
    show inPl (10 * k + n % 10) (n / 10 % 60) = true
    unfold inPl
    simp only [Bool.and_eq_true, decide_eq_true_eq]
    omega
  have w3 : ∀ (x : Str) (k : Nat) (n : Int), k ≤ 3 → (-40 ≤ (lawWell ss x k n).2.2.2.1 ∧ (lawWell ss x k n).2.2.2.1 ≤ 49 ∧ (lawWell ss x k n).2.2.2.2.length ≤ 6 ∧ (lawWell ss x k n).2.1 ≤ 39 ∧ ∀ b ∈ (lawWell ss x k n).2.2.2.2, lowB b) := fun x k n hk => by
    refine ⟨?_, ?_, (lawLog_len _ _).2, ?_, (hl _).2⟩
    · show -40 ≤ n / 600 % 90 - 40; omega
    · show n / 600 % 90 - 40 ≤ 49; omega
    · show 10 * (k : Int) + n % 10 ≤ 39; omega
  have tm : t "ash" ∈ titles ∧ t "birch" ∈ titles ∧ t "cedar" ∈ titles ∧ t "dogwood" ∈ titles := by simp [titles]
  have ne : ∀ (a b : Int) (j k : Nat) (y z : Int), j < k → [10 * (j : Int) + a % 10, y] ≠ [10 * (k : Int) + b % 10, z] := fun a b j k y z hk e => by
    injection e with e _
    omega
  rcases hc with rfl | rfl
  · refine ⟨⟨.inl rfl, ?_, ?_⟩, ?_, ?_⟩
    · intro w hw
      simp only [lawWells, List.take, List.mem_cons, List.mem_nil_iff, or_false, show (3 : Int).toNat = 3 from rfl] at hw
      rcases hw with rfl | rfl | rfl <;> exact w1 _ _ _ (by simp [titles])
    · have e1 := ne n0 n1 0 1 (n0 / 10 % 60) (n1 / 10 % 60) (by omega)
      have e2 := ne n0 n2 0 2 (n0 / 10 % 60) (n2 / 10 % 60) (by omega)
      have e3 := ne n1 n2 1 2 (n1 / 10 % 60) (n2 / 10 % 60) (by omega)
      refine dnum_nd (l := [[10 * ((0 : Nat) : Int) + n0 % 10, n0 / 10 % 60], [10 * ((1 : Nat) : Int) + n1 % 10, n1 / 10 % 60], [10 * ((2 : Nat) : Int) + n2 % 10, n2 / 10 % 60]]) ?_
      simp only [List.nodup_cons, List.mem_cons, List.mem_nil_iff, or_false, not_or, List.nodup_nil, not_false_eq_true, and_true]
      exact ⟨⟨e1, e2⟩, e3⟩
    · show (inP _ && (inP _ && (inP _ && true))) = true
      rw [w2 _ 0 _ (by omega), w2 _ 1 _ (by omega), w2 _ 2 _ (by omega)]; rfl
    · intro w hw
      simp only [lawWells, List.take, List.mem_cons, List.mem_nil_iff, or_false, show (3 : Int).toNat = 3 from rfl] at hw
      rcases hw with rfl | rfl | rfl <;> exact w3 _ _ _ (by omega)
  · refine ⟨⟨.inr rfl, ?_, ?_⟩, ?_, ?_⟩
    · intro w hw
      simp only [lawWells, List.take, List.mem_cons, List.mem_nil_iff, or_false, show (4 : Int).toNat = 4 from rfl] at hw
      rcases hw with rfl | rfl | rfl | rfl <;> exact w1 _ _ _ (by simp [titles])
    · have e1 := ne n0 n1 0 1 (n0 / 10 % 60) (n1 / 10 % 60) (by omega)
      have e2 := ne n0 n2 0 2 (n0 / 10 % 60) (n2 / 10 % 60) (by omega)
      have e3 := ne n1 n2 1 2 (n1 / 10 % 60) (n2 / 10 % 60) (by omega)
      have e4 := ne n0 n3 0 3 (n0 / 10 % 60) (n3 / 10 % 60) (by omega)
      have e5 := ne n1 n3 1 3 (n1 / 10 % 60) (n3 / 10 % 60) (by omega)
      have e6 := ne n2 n3 2 3 (n2 / 10 % 60) (n3 / 10 % 60) (by omega)
      refine dnum_nd (l := [[10 * ((0 : Nat) : Int) + n0 % 10, n0 / 10 % 60], [10 * ((1 : Nat) : Int) + n1 % 10, n1 / 10 % 60], [10 * ((2 : Nat) : Int) + n2 % 10, n2 / 10 % 60], [10 * ((3 : Nat) : Int) + n3 % 10, n3 / 10 % 60]]) ?_
      simp only [List.nodup_cons, List.mem_cons, List.mem_nil_iff, or_false, not_or, List.nodup_nil, not_false_eq_true, and_true]
      exact ⟨⟨e1, e2, e4⟩, ⟨e3, e5⟩, e6⟩
    · show (inP _ && (inP _ && (inP _ && (inP _ && true)))) = true
      rw [w2 _ 0 _ (by omega), w2 _ 1 _ (by omega), w2 _ 2 _ (by omega), w2 _ 3 _ (by omega)]; rfl
    · intro w hw
      simp only [lawWells, List.take, List.mem_cons, List.mem_nil_iff, or_false, show (4 : Int).toNat = 4 from rfl] at hw
      rcases hw with rfl | rfl | rfl | rfl <;> exact w3 _ _ _ (by omega)

theorem law_thick_ok (k : Nat) (q : Bool) (l : List Bed) (i j : Nat) (hi' : i ≤ l.length) (hij : i ≤ j) (hj : j ≤ l.length) : call fs (k + 1) 46 [encL q l, .int i, .int ((j : Int) - 1)] = .ok (.tuple [.int (lo l i j), .int (hi l i j)]) := by
  rw [call_at at__law_thick rfl]
  have e : encL q l = sq q (l.map (encB q)) := rfl
  rw [e]
  simp (config := { implicitDefEqProofs := false }) [exSs, ev, evs, evi, evc, evo, tyIs, retv, noMut, noMuts, put, puto, wipeE, ixD, frzE, inTD, notD, binD, negD, own, lstD, setD, intOf, isD, isNone, f__law_thick, b__law_thick, cut_map]
  rw [show cutD l (some (i : Int)) (some (j : Int)) = part l i j from cut_nat (by omega) hj]
  rw [lcL_map (enc := encB q) (f := fun b => .int b.2.1) fun b hb => by simp (config := { implicitDefEqProofs := false }) [exSs, ev, evs, evi, evc, evo, tyIs, retv, noMut, noMuts, put, puto, wipeE, ixD, frzE, inTD, notD, binD, negD, own, lstD, setD, intOf, isD, isNone, encB], lcL_map (enc := encB q) (f := fun b => .int b.2.2) fun b hb => by simp (config := { implicitDefEqProofs := false }) [exSs, ev, evs, evi, evc, evo, tyIs, retv, noMut, noMuts, put, puto, wipeE, ixD, frzE, inTD, notD, binD, negD, own, lstD, setD, intOf, isD, isNone, encB]]
  simp (config := { implicitDefEqProofs := false }) [exSs, ev, evs, evi, evc, evo, tyIs, retv, noMut, noMuts, put, puto, wipeE, ixD, frzE, inTD, notD, binD, negD, own, lstD, setD, intOf, isD, isNone, sum_map' (p := fun b : Bed => b.2.1), sum_map' (p := fun b : Bed => b.2.2), lo, hi]
theorem foldl_snoc {α : Type} : ∀ (l b : List α), l.foldl (fun d a => d ++ [a]) b = b ++ l
  | [], b => by simp
  | a :: l, b => by rw [List.foldl_cons, foldl_snoc l]; simp
def spG (w : Well) : List D := (List.range w.2.2.2.2.length).map fun i => .tuple [.str w.1, .int (i : Nat)]
theorem law_spots_ok (k : Nat) (ws : List Well) (h : okWs ws) : call fs (k + 1) 44 [encWs true true ws] = .ok (.list (spotsF ws)) := by
  have hl := h.len
  have i0 : ∀ w : Well, idxD (encW true w) (.int 0) = .ok (.str w.1) := fun w => by simp (config := { implicitDefEqProofs := false }) [exSs, ev, evs, evi, evc, evo, tyIs, retv, noMut, noMuts, put, puto, wipeE, ixD, frzE, inTD, notD, binD, negD, own, lstD, setD, intOf, isD, isNone, encW]
  have i4 : ∀ w : Well, idxD (encW true w) (.int 4) = .ok (encL true w.2.2.2.2) := fun w => by simp (config := { implicitDefEqProofs := false }) [exSs, ev, evs, evi, evc, evo, tyIs, retv, noMut, noMuts, put, puto, wipeE, ixD, frzE, inTD, notD, binD, negD, own, lstD, setD, intOf, isD, isNone, encW]
  have e : ∀ w : Well, biD .len [encL true w.2.2.2.2] = .ok (.int w.2.2.2.2.length) := fun w => by simp [encL]
  rw [call_at at__law_spots rfl]
  simp (config := { implicitDefEqProofs := false }) [exSs, ev, evs, evi, evc, evo, tyIs, retv, noMut, noMuts, put, puto, wipeE, ixD, frzE, inTD, notD, binD, negD, own, lstD, setD, intOf, isD, isNone, f__law_spots, b__law_spots, encWs_seq]
  generalize hst : forStep _ _ _ = step
  have st : ∀ w ∈ ws, ∀ (done : List Well) ε, done.length < 4 → ((∀ w ∈ done, w ∈ ws) ∧ ∃ s2, ε = [.f (encWs true true ws), .o (.list (done.flatMap spG)), s2, .u]) →
      ∃ ε', ((∀ v ∈ done ++ [w], v ∈ ws) ∧ ∃ s2, ε' = [.f (encWs true true ws), .o (.list ((done ++ [w]).flatMap spG)), s2, .u]) ∧ step (encW true w) ε = .ok (.nx, ε') := by
    rintro w hw done ε hd ⟨hin, s2, rfl⟩
    have hlw := (h.ok w hw).2.2.2.2.1
    have hr := rng_len (n := w.2.2.2.2.length) (by omega)
    have hG : (spG w).length ≤ 12 := by simpa [spG] using hlw
    have hD : (done.flatMap spG).length ≤ done.length * 12 := flat_len fun v hv => by simpa [spG] using (h.ok v (hin v hv)).2.2.2.2.1
    have ad : binD .add (.list (done.flatMap spG)) (.list (spG w)) = .ok (.list (done.flatMap spG ++ spG w)) := if_pos (by show (done.flatMap spG).length + (spG w).length ≤ 16777216; omega)
    refine ⟨[.f (encWs true true ws), .o (.list ((done ++ [w]).flatMap spG)), .f (encW true w), .u], ⟨fun v hv => ?_, _, rfl⟩, ?_⟩
    · rcases List.mem_append.mp hv with hv | hv
      · exact hin v hv
      · rw [List.mem_singleton.mp hv]; exact hw
    · rw [← hst, List.flatMap_append, List.flatMap_singleton]
      generalize done.flatMap spG = b at *
      simp (config := { implicitDefEqProofs := false }) [exSs, ev, evs, evi, evc, evo, tyIs, retv, noMut, noMuts, put, puto, wipeE, ixD, frzE, inTD, notD, negD, own, lstD, setD, intOf, isD, isNone, forStep, i4, i0, e, hr]
      rw [lcL_map (enc := fun i : Nat => .int (i : Nat)) (f := fun i : Nat => .tuple [.str w.1, .int (i : Nat)]) fun i hi' => by simp (config := { implicitDefEqProofs := false }) [exSs, ev, evs, evi, evc, evo, tyIs, retv, noMut, noMuts, put, puto, wipeE, ixD, frzE, inTD, notD, negD, own, lstD, setD, intOf, isD, isNone, i0 w]]
      rw [Rs.bnd_ok, Rs.bnd_ok, show List.map (fun i : Nat => PyData.tuple [PyData.str w.fst, PyData.int (i : Nat)]) (List.range w.2.2.2.2.length) = spG w from rfl, ad]
      simp (config := { implicitDefEqProofs := false }) [exSs, ev, evs, evi, evc, evo, tyIs, retv, noMut, noMuts, put, puto, wipeE, ixD, frzE, inTD, notD, negD, own, lstD, setD, intOf, isD, isNone]
  obtain ⟨ε', ⟨_, s2, hs⟩, e'⟩ := exFor_foldN (N := 4) (m := List.length) (f := fun (d : List Well) w => d ++ [w]) (enc := encW true) (fun b a => by rw [List.length_append]; exact Nat.le_refl _) (l := ws) (b := []) (ε := [.f (encWs true true ws), .o (.list (([] : List Well).flatMap spG)), .u, .u]) (by simpa using hl.2) ⟨fun _ h => (by cases h), _, rfl⟩ st
  rw [show [Sl.f (encWs true true ws), .o (.list []), .u, .u] = [Sl.f (encWs true true ws), .o (.list (([] : List Well).flatMap spG)), .u, .u] from rfl, e', hs, foldl_snoc]
  simp (config := { implicitDefEqProofs := false }) [exSs, ev, evs, evi, evc, evo, tyIs, retv, noMut, noMuts, put, puto, wipeE, ixD, frzE, inTD, notD, binD, negD, own, lstD, setD, intOf, isD, isNone]
  rfl
end K01
end Ws

set_option Elab.async false
set_option linter.all false
set_option maxRecDepth 100000
set_option maxHeartbeats 400000
namespace Ws
namespace K01
open PySem
theorem encL_len (q : Bool) (l : List Bed) : biD .len [encL q l] = .ok (.int l.length) := by simp [encL]
theorem same12 (k n : Nat) (hn : n ≤ 8) (d : D) (h : sm n d = true) : call fs (k + 12) 35 [d, d] = .ok (.bool true) := by
  have := same_ok (k + (11 - n)) n d h
  rwa [show k + (11 - n) + n + 1 = k + 12 by omega] at this
theorem nm2 (a b : Int) : noMut (.tuple [.int a, .int b]) = true := rfl
theorem f1_step (k : Nat) (l : List Bed) (hl : okL l) (f i : Nat) (hf : f ≤ l.length) (hi' : f + i ≤ l.length) (ε : Env) (hlen : ε.length = 34) (e13 : ε[13]? = some (.f (encL true l))) (e15 : ε[15]? = some (.f (.int f))) :
    forStep (call fs (k + 12)) (.nm 19) b_law_f1 (.int ((f : Int) - 1 + (i : Nat))) ε = .ok (.nx, ε.set 19 (.f (.int ((f : Int) - 1 + (i : Nat))))) := by
  have h19 := eq_true (show 19 < ε.length by omega)
  by_cases c : f < l.length
  · have th : call fs (k + 12) 22 [encL true l, .int f, .int ((f : Int) - 1 + (i : Nat))] = .ok (.tuple [.int (lo l f (f + i)), .int (hi l f (f + i))]) := by
      rw [show (f : Int) - 1 + (i : Nat) = ((f + i : Nat) : Int) - 1 by omega]
      exact thick_ok (k + 7) true l hl f (f + i) c (by omega) hi'
    have lt : call fs (k + 12) 46 [encL true l, .int f, .int ((f : Int) - 1 + (i : Nat))] = .ok (.tuple [.int (lo l f (f + i)), .int (hi l f (f + i))]) := by
      rw [show (f : Int) - 1 + (i : Nat) = ((f + i : Nat) : Int) - 1 by omega]
      exact law_thick_ok (k + 11) true l f (f + i) hf (by omega) hi'
    have sa := same12 k 1 (by omega) (.tuple [.int (lo l f (f + i)), .int (hi l f (f + i))]) rfl
    simp (config := { implicitDefEqProofs := false }) [exSs, ev, evs, evi, evc, evo, tyIs, retv, noMut, noMuts, put, puto, wipeE, ixD, frzE, inTD, notD, binD, negD, own, lstD, setD, intOf, isD, isNone, List.getElem?_set, -getElem?_pos, forStep, b_law_f1, List.getElem?_set, h19, e13, e15, encL_len, th, lt, sa, nm2, c]
  · simp (config := { implicitDefEqProofs := false }) [exSs, ev, evs, evi, evc, evo, tyIs, retv, noMut, noMuts, put, puto, wipeE, ixD, frzE, inTD, notD, binD, negD, own, lstD, setD, intOf, isD, isNone, List.getElem?_set, -getElem?_pos, forStep, b_law_f1, List.getElem?_set, h19, e13, e15, encL_len, c]
theorem f2_step (k : Nat) (w : Well) (hw : okW w) (hp : inP w = true) (f : Nat) (hf : f ≤ w.2.2.2.2.length) (I : Env → Prop) (hI : ∀ ε i s, i ∈ [15, 19, 22, 23] → I ε → I (ε.set i s)) (ε : Env) (i0 : I ε)
    (hlen : ε.length = 34) (e7 : ε[7]? = some (.f (encW true w))) (e13 : ε[13]? = some (.f (encL true w.2.2.2.2))) :
    ∃ ε', (I ε' ∧ ε'.length = 34 ∧ ε'[7]? = some (.f (encW true w)) ∧ ε'[13]? = some (.f (encL true w.2.2.2.2))) ∧ forStep (call fs (k + 12)) (.nm 15) b_law_f2 (.int (f : Nat)) ε = .ok (.nx, ε') := by
  have hl := hw.2.2.2
  have hr : rngD ((f : Int) - 1) (w.2.2.2.2.length : Nat) = .ok ((List.range (w.2.2.2.2.length + 1 - f)).map fun i => .int ((f : Int) - 1 + (i : Nat))) := by
    have := hl.2.1
    refine rngD_ok (by omega) (by omega) (by omega) (by show _ ≤ 16777216; omega)
  have i3 : idxD (encW true w) (.int 3) = .ok (.int w.2.2.2.1) := by simp (config := { implicitDefEqProofs := false }) [exSs, ev, evs, evi, evc, evo, tyIs, retv, noMut, noMuts, put, puto, wipeE, ixD, frzE, inTD, notD, binD, negD, own, lstD, setD, intOf, isD, isNone, encW]
  have lt : call fs (k + 12) 46 [encL true w.2.2.2.2, .int 0, .int ((f : Int) - 1)] = .ok (.tuple [.int (lo w.2.2.2.2 0 f), .int (hi w.2.2.2.2 0 f)]) := law_thick_ok (k + 11) true w.2.2.2.2 0 f (by omega) (by omega) hf
  have dp : call fs (k + 12) 23 [encL true w.2.2.2.2, .int f] = .ok (.tuple [.int (lo w.2.2.2.2 0 f), .int (hi w.2.2.2.2 0 f)]) := depth_ok (k + 6) true w.2.2.2.2 hl f hf
  have hg : call fs (k + 12) 24 [encW true w, .int f] = .ok (.tuple [.int (w.2.2.2.1 - hi w.2.2.2.2 0 f), .int (w.2.2.2.1 - lo w.2.2.2.2 0 f)]) := height_ok (k + 5) true w hw hp f hf
  have sa := same12 k 1 (by omega) (.tuple [.int (lo w.2.2.2.2 0 f), .int (hi w.2.2.2.2 0 f)]) rfl
  have sb := same12 k 1 (by omega) (.tuple [.int (w.2.2.2.1 - hi w.2.2.2.2 0 f), .int (w.2.2.2.1 - lo w.2.2.2.2 0 f)]) rfl
  obtain ⟨ε1, ⟨j0, j1, j2, j3, j4⟩, e1⟩ := exFor_all (enc := fun i : Nat => .int ((f : Int) - 1 + (i : Nat))) (step := forStep (call fs (k + 12)) (.nm 19) b_law_f1) (l := List.range (w.2.2.2.2.length + 1 - f)) (ε := ε.set 15 (.f (.int (f : Nat))))
    (I := fun ε => I ε ∧ ε.length = 34 ∧ ε[7]? = some (.f (encW true w)) ∧ ε[13]? = some (.f (encL true w.2.2.2.2)) ∧ ε[15]? = some (.f (.int (f : Nat))))
    ⟨hI _ _ _ (by simp) i0, by simp [hlen], by simp [List.getElem?_set, e7], by simp [List.getElem?_set, e13], by simp [List.getElem?_set, hlen]⟩
    (fun i hi' ε ⟨h0, h1, h2, h3, h4⟩ => by
      have li : i < w.2.2.2.2.length + 1 - f := by simpa using hi'
      exact ⟨_, ⟨hI _ _ _ (by simp) h0, by simp [h1], by simp [List.getElem?_set, h2], by simp [List.getElem?_set, h3], by simp [List.getElem?_set, h4]⟩, f1_step k _ hl f i hf (by omega) ε h1 h3 h4⟩)
  refine ⟨(ε1.set 22 (.f (.int (lo w.2.2.2.2 0 f)))).set 23 (.f (.int (hi w.2.2.2.2 0 f))), ⟨hI _ _ _ (by simp) (hI _ _ _ (by simp) j0), by simp [j1], by simp [List.getElem?_set, j2], by simp [List.getElem?_set, j3]⟩, ?_⟩
  have h15 := eq_true (show 15 < ε.length by omega)
  have h22 := eq_true (show 22 < ε1.length by omega)
  have h23 := eq_true (show 23 < ε1.length by omega)
  simp (config := { implicitDefEqProofs := false }) [exSs, ev, evs, evi, evc, evo, tyIs, retv, noMut, noMuts, put, puto, wipeE, ixD, frzE, inTD, notD, binD, negD, own, lstD, setD, intOf, isD, isNone, List.getElem?_set, -getElem?_pos, forStep, b_law_f2, List.getElem?_set, h15, h22, h23, e13, encL_len, hr, e1, j2, j3, j4, lt, dp, hg, sa, sb, nm2, i3]

/-! ### every depth -/
def mP (l : List Bed) (d : Int) (i : Nat) : Bool := decide (lo l 0 i ≤ d) && decide (d < hi l 0 (i + 1))
def sP (l : List Bed) (d : Int) (i : Nat) : Bool := decide (hi l 0 i ≤ d) && decide (d < lo l 0 (i + 1))
theorem mayF_eq (l : List Bed) (d : Int) : mayF l d = ((List.range l.length).filter (mP l d)).map fun i => .int (i : Nat) := by
  unfold mayF
  rw [← flat_filter]
  congr 1
  funext i
  unfold mP
  by_cases c1 : lo l 0 i ≤ d <;> by_cases c2 : d < hi l 0 (i + 1) <;> simp [c1, c2]
theorem sm_ints (xs : List Nat) (h : xs.length ≤ 1000) : sm 1 (.tuple (xs.map fun i => .int (i : Nat))) = true := by
  unfold sm
  rw [Bool.and_eq_true]
  refine ⟨by simpa using h, List.all_eq_true.mpr fun x hx => ?_⟩
  obtain ⟨b, _, rfl⟩ := List.mem_map.mp hx
  rfl
theorem nm_ints (xs : List Nat) : noMuts (xs.map fun i => .int (i : Nat)) = true := nms_map (f := fun d => d) (xs := xs.map fun i => .int (i : Nat)) (fun x hx => by
    obtain ⟨b, _, rfl⟩ := List.mem_map.mp hx
    rfl) |> fun h => by rwa [List.map_id'] at h
theorem ne_nil_ints (xs : List Nat) : cmpD .ne (.list (xs.map fun i => .int (i : Nat))) (.list []) = .ok (.bool (!xs.isEmpty)) := by
  have l1 : lim 40 (.list (xs.map fun i => PyData.int (i : Nat))) = true := by
    have : (xs.map fun i => PyData.int (i : Nat)).all (lim 39) = true := by
      rw [List.all_eq_true]
      intro x hx
      obtain ⟨b, _, rfl⟩ := List.mem_map.mp hx
      exact lim_int 39 _
    simpa [lim] using this
  show notD (eqD _ _) = _
  unfold eqD
  rw [l1]
  cases xs <;> rfl
theorem ne_self_int (a : Int) : cmpD .ne (.int a) (.int a) = .ok (.bool false) := by
  show notD (cmpD .eq (.int a) (.int a)) = _
  rw [eqD_int', decide_eq_true rfl]; rfl
theorem ne_self_none : cmpD .ne .none .none = .ok (.bool false) := rfl
theorem f3_step (k : Nat) (l : List Bed) (hl : okL l) (d : Int) (h0 : 0 ≤ d) (h1 : d ≤ 1200) (ε : Env) (hlen : ε.length = 34) (e25 : ε[25]? = some .u) (e13 : ε[13]? = some (.f (encL true l))) :
    ∃ s20 s21, forStep (call fs (k + 12)) (.nm 17) b_law_f3 (.int d) ε = .ok (.nx, ((ε.set 17 (.f (.int d))).set 20 s20).set 21 s21) := by
  have hr := rng_len (n := l.length) (by have := hl.2.1; omega)
  have mk : call fs (k + 12) 25 [encL true l, .int d] = .ok (.tuple (mayF l d)) := may_ok (k + 5) true l hl d h0 h1
  have mu : call fs (k + 12) 26 [encL true l, .int d] = .ok (mustF l d) := must_ok (k + 5) true l hl d h0 h1
  rw [mayF_eq] at mk
  have fl : ((List.range l.length).filter (mP l d)).length ≤ 1000 := by
    have := List.length_filter_le (mP l d) (List.range l.length)
    rw [List.length_range] at this
    have := hl.2.1
    omega
  have sa := same12 k 1 (by omega) _ (sm_ints _ fl)
  have nmm := nm_ints ((List.range l.length).filter (mP l d))
  have lt0 : ∀ i ≤ l.length, call fs (k + 12) 46 [encL true l, .int 0, .int ((i : Int) - 1)] = .ok (.tuple [.int (lo l 0 i), .int (hi l 0 i)]) := fun i hi' => law_thick_ok (k + 11) true l 0 i (by omega) (by omega) hi'
  have lt1 : ∀ i, i < l.length → call fs (k + 12) 46 [encL true l, .int 0, .int (i : Nat)] = .ok (.tuple [.int (lo l 0 (i + 1)), .int (hi l 0 (i + 1))]) := fun i hi' => by
    have := lt0 (i + 1) hi'
    rwa [show ((i + 1 : Nat) : Int) - 1 = (i : Nat) by omega] at this
  have ix0 : ∀ a b : Int, idxD (.tuple [.int a, .int b]) (.int 0) = .ok (.int a) := fun _ _ => rfl
  have ix1 : ∀ a b : Int, idxD (.tuple [.int a, .int b]) (.int 1) = .ok (.int b) := fun _ _ => rfl
  refine ⟨.o (.list (((List.range l.length).filter (mP l d)).map fun i => .int (i : Nat))), .o (.list (((List.range l.length).filter (sP l d)).map fun i => .int (i : Nat))), ?_⟩
  have h17 := eq_true (show 17 < ε.length by omega)
  have h20 := eq_true (show 20 < ε.length by omega)
  have h21 := eq_true (show 21 < ε.length by omega)
  have h25 := eq_true (show 25 < ε.length by omega)
  unfold forStep b_law_f3
  rw [bnd_nm1, Rs.bnd_ok]
  unfold exSs
  rw [exS_asg]
  simp (config := { implicitDefEqProofs := false }) [exSs, ev, evs, evi, evc, evo, tyIs, retv, noMut, noMuts, put, puto, wipeE, ixD, frzE, inTD, notD, binD, negD, own, lstD, setD, intOf, isD, isNone, List.getElem?_set, -getElem?_pos, List.getElem?_set, h17, h20, h21, h25, e25, e13, encL_len, hr]
  rw [lcL_flat (enc := fun i : Nat => .int (i : Nat)) (f := fun i => if mP l d i = true then [.int (i : Nat)] else []) fun i hi' => by
    have li : i < l.length := by simpa using hi'
    simp (config := { implicitDefEqProofs := false }) [exSs, ev, evs, evi, evc, evo, tyIs, retv, noMut, noMuts, put, puto, wipeE, ixD, frzE, inTD, notD, binD, negD, own, lstD, setD, intOf, isD, isNone, List.getElem?_set, -getElem?_pos, List.getElem?_set, h17, h20, h21, h25, e25, e13, lt0 i (by omega), lt1 i li, nm2, ix0, ix1, mP]
    by_cases c1 : lo l 0 i ≤ d <;> by_cases c2 : d < hi l 0 (i + 1) <;> simp (config := { implicitDefEqProofs := false }) [exSs, ev, evs, evi, evc, evo, tyIs, retv, noMut, noMuts, put, puto, wipeE, ixD, frzE, inTD, notD, binD, negD, own, lstD, setD, intOf, isD, isNone, List.getElem?_set, -getElem?_pos, c1, c2, List.getElem?_set, h17, h20, h21, h25, e25, e13, lt1 i li, nm2, ix1]]
  rw [flat_filter]
  simp (config := { implicitDefEqProofs := false }) [exSs, ev, evs, evi, evc, evo, tyIs, retv, noMut, noMuts, put, puto, wipeE, ixD, frzE, inTD, notD, binD, negD, own, lstD, setD, intOf, isD, isNone, List.getElem?_set, -getElem?_pos, List.getElem?_set, h17, h20, h21, h25, e25, e13, encL_len, hr]
  rw [lcL_flat (enc := fun i : Nat => .int (i : Nat)) (f := fun i => if sP l d i = true then [.int (i : Nat)] else []) fun i hi' => by
    have li : i < l.length := by simpa using hi'
    simp (config := { implicitDefEqProofs := false }) [exSs, ev, evs, evi, evc, evo, tyIs, retv, noMut, noMuts, put, puto, wipeE, ixD, frzE, inTD, notD, binD, negD, own, lstD, setD, intOf, isD, isNone, List.getElem?_set, -getElem?_pos, List.getElem?_set, h17, h20, h21, h25, e25, e13, lt0 i (by omega), lt1 i li, nm2, ix0, ix1, sP]
    by_cases c1 : hi l 0 i ≤ d <;> by_cases c2 : d < lo l 0 (i + 1) <;> simp (config := { implicitDefEqProofs := false }) [exSs, ev, evs, evi, evc, evo, tyIs, retv, noMut, noMuts, put, puto, wipeE, ixD, frzE, inTD, notD, binD, negD, own, lstD, setD, intOf, isD, isNone, List.getElem?_set, -getElem?_pos, c1, c2, List.getElem?_set, h17, h20, h21, h25, e25, e13, lt1 i li, nm2, ix0]]
  rw [flat_filter]
  have fm : mustF l d = match ((List.range l.length).filter (sP l d)) with
      | i :: _ => .int (i : Nat)
      | [] => .none := by
    unfold mustF
    rw [show (fun i => decide (hi l 0 i ≤ d) && decide (d < lo l 0 (i + 1))) = sP l d from rfl, ← List.head?_filter]
    cases (List.range l.length).filter (sP l d) <;> rfl
  rw [fm] at mu
  have nn := ne_nil_ints ((List.range l.length).filter (sP l d))
  generalize (List.range l.length).filter (sP l d) = S at *
  cases S with
  | nil =>
    have nn := cmp_ne_nil
    simp (config := { implicitDefEqProofs := false }) [exSs, ev, evs, evi, evc, evo, tyIs, retv, noMut, noMuts, put, puto, wipeE, ixD, frzE, inTD, notD, binD, negD, own, lstD, setD, intOf, isD, isNone, List.getElem?_set, -getElem?_pos, List.getElem?_set, h17, h20, h21, h25, e25, e13, mk, mu, nmm, sa, nn, biD, ne_self_none]
  | cons i S =>
    have ixx : idxD (.list (.int (i : Nat) :: S.map fun i => .int (i : Nat))) (.int 0) = .ok (.int (i : Nat)) := rfl
    rw [List.map_cons] at nn
    simp (config := { implicitDefEqProofs := false }) [exSs, ev, evs, evi, evc, evo, tyIs, retv, noMut, noMuts, put, puto, wipeE, ixD, frzE, inTD, notD, binD, negD, own, lstD, setD, intOf, isD, isNone, List.getElem?_set, -getElem?_pos, List.getElem?_set, h17, h20, h21, h25, e25, e13, mk, mu, nmm, sa, nn, biD, ne_self_int, ixx]
end K01
end Ws

set_option Elab.async false
set_option linter.all false
set_option maxRecDepth 100000
set_option maxHeartbeats 400000
namespace Ws
namespace K01
open PySem
theorem exSs_nx {φ : Nat → List D → Rs D} {s : S} {ss : List S} {ε ε' : Env} (h : exS φ s ε = .ok (.nx, ε')) : exSs φ (s :: ss) ε = exSs φ ss ε' := by
  simp only [exSs, h, Rs.bnd_ok]
theorem frzE_no {ε : Env} : ∀ {is : List Nat}, (∀ i ∈ is, ∀ d, ε[i]? ≠ some (.o d)) → frzE ε is = ε
  | [], _ => rfl
  | i :: is, h => by
    have h1 := h i List.mem_cons_self
    unfold frzE
    cases e : ε[i]? with
    | none => exact frzE_no fun j hj => h j (List.mem_cons_of_mem _ hj)
    | some s => cases s with
      | o d => exact absurd e (h1 d)
      | u => exact frzE_no fun j hj => h j (List.mem_cons_of_mem _ hj)
      | f d => exact frzE_no fun j hj => h j (List.mem_cons_of_mem _ hj)
structure Wi (SS W : D) (n : Int) (ε : Env) : Prop where
  len : ε.length = 34
  e1 : ε[1]? = some (.f SS)
  e2 : ε[2]? = some (.f W)
  e3 : ∃ d, ε[3]? = some (.f d)
  e5 : ε[5]? = some (.f (.int n))
  e9 : ε[9]? = some .u
  e13 : ∀ d, ε[13]? ≠ some (.o d)
  e24 : ε[24]? = some .u
  e25 : ε[25]? = some .u
  e26 : ε[26]? = some .u
  e27 : ε[27]? = some .u
theorem Wi.set {SS W : D} {n : Int} {ε : Env} (h : Wi SS W n ε) {i : Nat} (hi : 6 < i ∧ i < 24 ∧ i ≠ 9 ∧ i ≠ 13) (s : Sl) : Wi SS W n (ε.set i s) := by
  have g : ∀ j, i ≠ j → (ε.set i s)[j]? = ε[j]? := fun j hj => List.getElem?_set_ne hj
  refine ⟨by rw [List.length_set]; exact h.len, ?_, ?_, ?_, ?_, ?_, ?_, ?_, ?_, ?_, ?_⟩ <;> rw [g _ (by omega)]
  · exact h.e1
  · exact h.e2
  · exact h.e3
  · exact h.e5
  · exact h.e9
  · exact h.e13
  · exact h.e24
  · exact h.e25
  · exact h.e26
  · exact h.e27
theorem Wi.set13 {SS W : D} {n : Int} {ε : Env} (h : Wi SS W n ε) (d : D) : Wi SS W n (ε.set 13 (.f d)) := by
  have g : ∀ j, 13 ≠ j → (ε.set 13 (.f d))[j]? = ε[j]? := fun j hj => List.getElem?_set_ne hj
  refine ⟨by rw [List.length_set]; exact h.len, ?_, ?_, ?_, ?_, ?_, ?_, ?_, ?_, ?_, ?_⟩
  · rw [g _ (by omega)]; exact h.e1
  · rw [g _ (by omega)]; exact h.e2
  · rw [g _ (by omega)]; exact h.e3
  · rw [g _ (by omega)]; exact h.e5
  · rw [g _ (by omega)]; exact h.e9
  · intro d' e
    rw [List.getElem?_set_self (by rw [h.len]; omega)] at e
    cases e
  · rw [g _ (by omega)]; exact h.e24
  · rw [g _ (by omega)]; exact h.e25
  · rw [g _ (by omega)]; exact h.e26
  · rw [g _ (by omega)]; exact h.e27
theorem eq_nil {xs : List D} (h : xs.all (lim 39) = true) : cmpD .eq (.list xs) (.list []) = .ok (.bool xs.isEmpty) := by
  have l1 : lim 40 (.list xs) = true := by simpa [lim] using h
  show eqD _ _ = _
  unfold eqD
  rw [l1]
  cases xs <;> rfl
theorem ne_nil {xs : List D} (h : xs.all (lim 39) = true) : cmpD .ne (.list xs) (.list []) = .ok (.bool (!xs.isEmpty)) := by
  show notD (cmpD .eq _ _) = _
  rw [eq_nil h]; rfl
theorem sm_bed (b : Bed) : sm 1 (encB true b) = true := rfl
theorem sm_log (l : List Bed) (h : l.length ≤ 1000) : sm 2 (encL true l) = true := by
  show (decide ((l.map (encB true)).length ≤ 1000) && (l.map (encB true)).all (sm 1)) = true
  rw [Bool.and_eq_true]
  refine ⟨by simpa using h, List.all_eq_true.mpr fun x hx => ?_⟩
  obtain ⟨b, _, rfl⟩ := List.mem_map.mp hx
  exact sm_bed b
theorem sm_well (w : Well) (h : w.2.2.2.2.length ≤ 1000) : sm 3 (encW true w) = true := by
  show (decide (5 ≤ 1000) && (true && (true && (true && (true && (sm 2 (encL true w.2.2.2.2) && true)))))) = true
  rw [sm_log _ h]; rfl
theorem sm_wells (ws : List Well) (h : ws.length ≤ 1000) (h2 : ∀ w ∈ ws, w.2.2.2.2.length ≤ 1000) : sm 4 (encWs true true ws) = true := by
  show (decide ((ws.map (encW true)).length ≤ 1000) && (ws.map (encW true)).all (sm 3)) = true
  rw [Bool.and_eq_true]
  refine ⟨by simpa using h, List.all_eq_true.mpr fun x hx => ?_⟩
  obtain ⟨b, hb, rfl⟩ := List.mem_map.mp hx
  exact sm_well b (h2 b hb)
theorem sm_strs (xs : List Str) (h : xs.length ≤ 1000) : sm 1 (.tuple (xs.map .str)) = true := by
  show (decide ((xs.map PyData.str).length ≤ 1000) && (xs.map PyData.str).all (sm 0)) = true
  rw [Bool.and_eq_true]
  refine ⟨by simpa using h, List.all_eq_true.mpr fun x hx => ?_⟩
  obtain ⟨b, hb, rfl⟩ := List.mem_map.mp hx
  rfl
theorem nm_strs (xs : List Str) : noMuts (xs.map .str) = true := by
  induction xs with
  | nil => rfl
  | cons a xs ih => exact ih
theorem nm_log (l : List Bed) : noMut (encL true l) = true := by
  have := tpl_nm 2 (encL true l) (lim_log true l)
  rwa [tpl_log] at this
theorem hi_all (l : List Bed) : hi l 0 l.length = (l.map fun b => b.2.2).sum := by
  unfold hi part
  simp
theorem hi_low : ∀ {l : List Bed}, (∀ b ∈ l, lowB b) → 0 ≤ (l.map fun b => b.2.2).sum ∧ (l.map fun b => b.2.2).sum ≤ 12 * l.length
  | [], _ => by simp
  | b :: l, h => by
    have h1 := h b List.mem_cons_self
    have h2 := hi_low (l := l) fun c hc => h c (List.mem_cons_of_mem _ hc)
    rw [List.map_cons, List.sum_cons, List.length_cons]
    obtain ⟨a1, a2, a3⟩ := h1
    omega
theorem sq_comm (a b : Int) : (a - b) ^ 2 = (b - a) ^ 2 := by
  rw [show a - b = -(b - a) by omega, Int.pow_succ, Int.pow_succ, Int.pow_zero, Int.pow_succ, Int.pow_succ, Int.pow_zero]
  simp only [Int.one_mul, Int.neg_mul_neg]
theorem sqd_comm (w v : Well) : sqd w v = sqd v w := by
  unfold sqd
  rw [sq_comm, sq_comm w.2.2.1]
theorem p2 (i : Int) (h : i.natAbs < 2 ^ 64) : binD .pow (.int i) (.int 2) = .ok (.int (i ^ 2)) := by
  show (if 0 ≤ (2 : Int) ∧ (2 : Int) ≤ 1000000 ∧ i.natAbs < 2 ^ 64 then _ else _) = _
  rw [if_pos ⟨by decide, by decide, h⟩]; rfl
theorem far_mem {ws : List Well} {w v : Well} (h : v ∈ far ws w) : v ∈ ws := (List.mem_filter.mp (sortD_mem h)).1
theorem far_ne {ws : List Well} (h : okWs ws) (w : Well) : far ws w ≠ [] := by
  intro e
  have e2 : (others ws w).length = 0 := by
    have := congrArg List.length e
    unfold far at this
    rw [sortD_len] at this
    exact this
  have hall : ∀ v ∈ ws, v.1 = w.1 := by
    intro v hv
    by_cases c : v.1 = w.1
    · exact c
    · have : v ∈ others ws w := List.mem_filter.mpr ⟨hv, by simp [c]⟩
      rw [List.length_eq_zero_iff.mp e2] at this
      cases this
  have ha : t "ash" ∈ ws.map (·.1) ∧ t "birch" ∈ ws.map (·.1) := by
    rcases h.nm with e | e <;> (rw [e]; simp [titles])
  obtain ⟨v1, m1, e1⟩ := List.mem_map.mp ha.1
  obtain ⟨v2, m2, e2⟩ := List.mem_map.mp ha.2
  have := (hall v1 m1).trans (hall v2 m2).symm
  rw [e1, e2] at this
  exact absurd this (by decide +kernel)
theorem far_len (ws : List Well) (w : Well) : (far ws w).length ≤ ws.length := by
  unfold far
  rw [sortD_len]
  exact List.length_filter_le _ _
end K01
end Ws

set_option Elab.async false
set_option linter.all false
set_option maxRecDepth 100000
set_option maxHeartbeats 400000
namespace Ws
namespace K01
open PySem
/-! ### one well -/
theorem isn_tt : cmpD .isn (.bool true) (.bool true) = .ok (.bool false) := rfl
theorem qa (i j : Int) : binD .add (.int i) (.int j) = .ok (.int (i + j)) := rfl
theorem qs (i j : Int) : binD .sub (.int i) (.int j) = .ok (.int (i - j)) := rfl
theorem mxb (i j : Int) : biD .max [.int i, .int j] = .ok (.int (if j > i then j else i)) := rfl
theorem mib (i j : Int) : biD .min [.int i, .int j] = .ok (.int (if j < i then j else i)) := rfl
theorem bt (xs : List D) : biD .tuple [.list xs] = .ok (.tuple xs) := rfl
structure Wj (SS W : D) (n : Int) (w : Well) (ε : Env) : Prop where
  wi : Wi SS W n ε
  e7 : ε[7]? = some (.f (encW true w))
  e13 : ε[13]? = some (.f (encL true w.2.2.2.2))
theorem Wj.set {SS W : D} {n : Int} {w : Well} {ε : Env} (h : Wj SS W n w ε) {i : Nat} (hi : 13 < i ∧ i < 24) (s : Sl) : Wj SS W n w (ε.set i s) :=
  ⟨h.wi.set ⟨by omega, by omega, by omega, by omega⟩ s, by rw [List.getElem?_set_ne (by omega)]; exact h.e7, by rw [List.getElem?_set_ne (by omega)]; exact h.e13⟩
theorem flat_filter' {α β : Type} (p : α → Bool) (f : α → β) (l : List α) (g : α → List β) (h : ∀ a ∈ l, g a = if p a = true then [f a] else []) : l.flatMap g = (l.filter p).map f := by
  rw [← flat_filter]
  induction l with
  | nil => rfl
  | cons a l ih =>
    rw [List.flatMap_cons, List.flatMap_cons, h a List.mem_cons_self, ih fun b hb => h b (List.mem_cons_of_mem _ hb)]
section
variable (k : Nat) (SS : D) (n : Int) (ws : List Well) (h : okWs ws) (hp : ws.all inP = true) (w : Well) (hm : w ∈ ws) (ε : Env)
/-- the first three asked -/
theorem g1 (j : Wj SS (encWs true true ws) n w ε) (h : okWs ws) (hp : ws.all inP = true) (hm : w ∈ ws) : exS (call fs (k + 12)) (.iff (.or_ (.cmp .isn (.nomut (.call 14 [(.var 13)])) (.lit (.bool true))) (.or_ (.not_ (.nomut (.call 35 [(.nomut (.call 28 [(.var 13)])), (.nomut (.call 47 [(.var 13)]))]))) (.cmp .ne (.lc [25] (.var 25) (.nm 25) (.rng1 (.bi .len [(.wv 13)])) (.some (.not_ (.nomut (.call 35 [(.nomut (.call 21 [(.var 2), (.tup [(.idx (.wv 7) (.lit (.int (0)))), (.var 25)])])), (.idx (.wv 13) (.wv 25))]))))) (.lst [])))) [(.ret (.lit (.bool false)))] []) ε = .ok (.nx, ε) := by
  have hw := h.ok w hm
  have hl := hw.2.2.2
  have e2 := j.wi.e2
  have e7 := j.e7
  have e13 := j.e13
  have h25 := eq_true (show 25 < ε.length by have := j.wi.len; omega)
  have il : call fs (k + 12) 14 [encL true w.2.2.2.2] = .ok (.bool true) := is_log_ok (k + 8) true _ hl
  have pl : call fs (k + 12) 28 [encL true w.2.2.2.2] = .ok (encL true (plainF w.2.2.2.2)) := plain_ok (k + 7) true _ hl
  have lp : call fs (k + 12) 47 [encL true w.2.2.2.2] = .ok (encL true (plainF w.2.2.2.2)) := law_plain_ok (k + 11) true _ hl.2.1
  have pn : (plainF w.2.2.2.2).length ≤ 1000 := by
    have : ∀ (l bs : List Bed), (l.foldl pstep bs).length ≤ bs.length + l.length := by
      intro l
      induction l with
      | nil => intro bs; exact Nat.le_refl _
      | cons b l ih =>
        intro bs
        have h1 := ih (pstep bs b)
        have h2 := pstep_len bs b
        rw [List.foldl_cons, List.length_cons]; omega
    have h1 := this w.2.2.2.2 []
    have h2 := hl.2.1
    unfold plainF
    rw [List.length_nil] at h1
    omega
  have sa := same12 k 2 (by omega) _ (sm_log _ pn)
  have na := nm_log (plainF w.2.2.2.2)
  have hr := rng_len (n := w.2.2.2.2.length) (by have := hl.2.1; omega)
  have i0 : idxD (encW true w) (.int 0) = .ok (.str w.1) := by simp (config := { implicitDefEqProofs := false }) [exSs, ev, evs, evi, evc, evo, tyIs, retv, noMut, noMuts, put, puto, wipeE, ixD, frzE, inTD, notD, binD, negD, own, lstD, setD, intOf, isD, isNone, encW]
  have nn := cmp_ne_nil
  have key : ∀ i ∈ List.range w.2.2.2.2.length, ∃ b, w.2.2.2.2[i]? = some b ∧ idxD (encL true w.2.2.2.2) (.int (i : Nat)) = .ok (encB true b) ∧ call fs (k + 12) 21 [encWs true true ws, .tuple [.str w.1, .int (i : Nat)]] = .ok (encB true b) := by
    intro i hi'
    have li : i < w.2.2.2.2.length := by simpa using hi'
    have hb : w.2.2.2.2[i]? = some w.2.2.2.2[i] := List.getElem?_eq_getElem li
    refine ⟨_, hb, ?_, bed_ok (k + 5) true true true ws h hp (wellOf_mem h hm) hm i hb⟩
    unfold encL
    rw [idx_sq]
    unfold ixD
    rw [if_pos (by omega), Int.toNat_natCast, List.getElem?_map, hb]; rfl
  simp (config := { implicitDefEqProofs := false }) [exSs, ev, evs, evi, evc, evo, tyIs, retv, noMut, noMuts, put, puto, wipeE, frzE, inTD, notD, negD, own, lstD, setD, intOf, isD, isNone, List.getElem?_set, -getElem?_pos, e13, e2, e7, il, pl, lp, sa, na, hr, i0, encL_len, isn_tt]
  rw [lcL_flat (enc := fun i : Nat => .int (i : Nat)) (f := fun _ => []) fun i hi' => ?_]
  · rw [flat_nil]
    simp (config := { implicitDefEqProofs := false }) [exSs, ev, evs, evi, evc, evo, tyIs, retv, noMut, noMuts, put, puto, wipeE, frzE, inTD, notD, negD, own, lstD, setD, intOf, isD, isNone, List.getElem?_set, -getElem?_pos, nn]
  · obtain ⟨b, _, k1, k2⟩ := key i hi'
    have sb := same12 k 1 (by omega) _ (sm_bed b)
    have nb : noMut (encB true b) = true := rfl
    simp (config := { implicitDefEqProofs := false }) [exSs, ev, evs, evi, evc, evo, tyIs, retv, noMut, noMuts, put, puto, wipeE, frzE, inTD, notD, negD, own, lstD, setD, intOf, isD, isNone, List.getElem?_set, -getElem?_pos, e13, e2, e7, h25, i0, k1, k2, sb, nb]
theorem noMut_c (xs : List D) : noMut (.tuple xs) = noMuts xs := rfl
theorem nm_beds (l : List Bed) (f : Bed → Bed) : noMuts (l.map fun b => encB true (f b)) = true := by
  induction l with
  | nil => rfl
  | cons a l ih => exact ih
theorem sm_beds (l : List Bed) (f : Bed → Bed) (h : l.length ≤ 1000) : sm 2 (.tuple (l.map fun b => encB true (f b))) = true := by
  show (decide ((l.map fun b => encB true (f b)).length ≤ 1000) && (l.map fun b => encB true (f b)).all (sm 1)) = true
  rw [Bool.and_eq_true]
  refine ⟨by simpa using h, List.all_eq_true.mpr fun x hx => ?_⟩
  obtain ⟨b, hb, rfl⟩ := List.mem_map.mp hx
  exact sm_bed _
theorem f4_step (i0 : Wi SS (encWs true true ws) n ε) (h : okWs ws) (hp : ws.all inP = true) (hm : w ∈ ws) : ∃ ε', Wi SS (encWs true true ws) n ε' ∧ forStep (call fs (k + 12)) (.nm 7) b_law_f4 (encW true w) ε = .ok (.nx, ε') := by
  have hw := h.ok w hm
  have hl := hw.2.2.2
  have hpw := List.all_eq_true.mp hp w hm
  have len := i0.len
  have i4 : idxD (encW true w) (.int 4) = .ok (encL true w.2.2.2.2) := by simp (config := { implicitDefEqProofs := false }) [exSs, ev, evs, evi, evc, evo, tyIs, retv, noMut, noMuts, put, puto, wipeE, ixD, frzE, inTD, notD, binD, negD, own, lstD, setD, intOf, isD, isNone, encW]
  have ii0 : ∀ v, idxD (encW true v) (.int 0) = .ok (.str v.1) := fun v => by simp (config := { implicitDefEqProofs := false }) [exSs, ev, evs, evi, evc, evo, tyIs, retv, noMut, noMuts, put, puto, wipeE, ixD, frzE, inTD, notD, binD, negD, own, lstD, setD, intOf, isD, isNone, encW]
  have ii1 : ∀ v, idxD (encW true v) (.int 1) = .ok (.int v.2.1) := fun v => by simp (config := { implicitDefEqProofs := false }) [exSs, ev, evs, evi, evc, evo, tyIs, retv, noMut, noMuts, put, puto, wipeE, ixD, frzE, inTD, notD, binD, negD, own, lstD, setD, intOf, isD, isNone, encW]
  have ii2 : ∀ v, idxD (encW true v) (.int 2) = .ok (.int v.2.2.1) := fun v => by simp (config := { implicitDefEqProofs := false }) [exSs, ev, evs, evi, evc, evo, tyIs, retv, noMut, noMuts, put, puto, wipeE, ixD, frzE, inTD, notD, binD, negD, own, lstD, setD, intOf, isD, isNone, encW]
  have h7 := eq_true (show 7 < ε.length by omega)
  have h13 := eq_true (show 13 < ε.length by omega)
  have sq1 : seqD (encL true w.2.2.2.2) = .ok (w.2.2.2.2.map (encB true)) := by simp [encL]
  have j1 : Wj SS (encWs true true ws) n w ((ε.set 7 (.f (encW true w))).set 13 (.f (encL true w.2.2.2.2))) :=
    ⟨(i0.set ⟨by omega, by omega, by omega, by omega⟩ _).set13 _, by rw [List.getElem?_set_ne (by omega), List.getElem?_set_self (by omega)], by rw [List.getElem?_set_self (by rw [List.length_set]; omega)]⟩
  suffices hh : ∃ ε', Wi SS (encWs true true ws) n ε' ∧ exSs (call fs (k + 12)) b_law_f4 (ε.set 7 (.f (encW true w))) = .ok (.nx, ε') by
    obtain ⟨ε', h1, h2⟩ := hh
    exact ⟨ε', h1, by unfold forStep; rw [bnd_nm1, Rs.bnd_ok, h2]⟩
  have c1 : ∀ R, exSs (call fs (k + 12)) (b_law_f4.drop 1) ((ε.set 7 (.f (encW true w))).set 13 (.f (encL true w.2.2.2.2))) = R → exSs (call fs (k + 12)) b_law_f4 (ε.set 7 (.f (encW true w))) = R := by
    rintro R rfl
    unfold b_law_f4
    refine exSs_nx ?_
    simp (config := { implicitDefEqProofs := false }) [exSs, ev, evs, evi, evc, evo, tyIs, retv, noMut, noMuts, put, puto, wipeE, frzE, inTD, notD, negD, own, lstD, setD, intOf, isD, isNone, List.getElem?_set, -getElem?_pos, h7, i4]
  generalize (ε.set 7 (.f (encW true w))).set 13 (.f (encL true w.2.2.2.2)) = ε1 at j1 c1
  have c2 : ∀ R, exSs (call fs (k + 12)) (b_law_f4.drop 2) ε1 = R → exSs (call fs (k + 12)) (b_law_f4.drop 1) ε1 = R := by
    rintro R rfl
    exact exSs_nx (g1 k SS n ws w ε1 j1 h hp hm)
  -- wide
  obtain ⟨d3, e3⟩ := j1.wi.e3
  have m0 : 0 ≤ n % 4 := by omega
  have m3 : n % 4 ≤ 99 := by omega
  have c3 : ∀ R, exSs (call fs (k + 12)) (b_law_f4.drop 3) (ε1.set 14 (.f (.tuple (w.2.2.2.2.map fun b => encB true (loose (n % 4) b))))) = R → exSs (call fs (k + 12)) (b_law_f4.drop 2) ε1 = R := by
    rintro R rfl
    refine exSs_nx ?_
    have l3 := eq_true (show 3 < ε1.length by have := j1.wi.len; omega)
    have l30 := eq_true (show 30 < ε1.length by have := j1.wi.len; omega)
    have l31 := eq_true (show 31 < ε1.length by have := j1.wi.len; omega)
    have e13 := j1.e13
    have e5 := j1.wi.e5
    simp (config := { implicitDefEqProofs := false }) [exSs, ev, evs, evi, evc, evo, tyIs, retv, noMut, noMuts, put, puto, wipeE, frzE, inTD, notD, negD, own, lstD, setD, intOf, isD, isNone, List.getElem?_set, -getElem?_pos, e3, e13, e5, sq1]
    rw [lcL_map (enc := encB true) (f := fun b => encB true (loose (n % 4) b)) fun b hb => by
      have e : encB true b = .tuple [.str b.1, .int b.2.1, .int b.2.2] := rfl
      have e2 : encB true (loose (n % 4) b) = .tuple [.str b.1, .int (if b.2.1 - n % 4 > 1 then b.2.1 - n % 4 else 1), .int (if b.2.2 + n % 4 < 99 then b.2.2 + n % 4 else 99)] := rfl
      rw [e2]
      simp (config := { implicitDefEqProofs := false }) [exSs, ev, evs, evi, evc, evo, tyIs, retv, noMut, noMuts, put, puto, wipeE, frzE, inTD, notD, negD, own, lstD, setD, intOf, isD, isNone, List.getElem?_set, -getElem?_pos, e, e5, l3, l30, l31, m1, qa, qs, mxb, mib]]
    simp (config := { implicitDefEqProofs := false }) [exSs, ev, evs, evi, evc, evo, tyIs, retv, noMut, noMuts, put, puto, wipeE, frzE, inTD, notD, negD, own, lstD, setD, intOf, isD, isNone, List.getElem?_set, -getElem?_pos, bt]
  have j2 : Wj SS (encWs true true ws) n w (ε1.set 14 (.f (.tuple (w.2.2.2.2.map fun b => encB true (loose (n % 4) b))))) := j1.set ⟨by omega, by omega⟩ _
  have e14 : (ε1.set 14 (.f (.tuple (w.2.2.2.2.map fun b => encB true (loose (n % 4) b)))))[14]? = some (.f (.tuple (w.2.2.2.2.map fun b => encB true (loose (n % 4) b)))) := List.getElem?_set_self (by have := j1.wi.len; omega)
  generalize ε1.set 14 (.f (.tuple (w.2.2.2.2.map fun b => encB true (loose (n % 4) b)))) = ε2 at j2 c3 e14
  have c4 : ∀ R, exSs (call fs (k + 12)) (b_law_f4.drop 4) ε2 = R → exSs (call fs (k + 12)) (b_law_f4.drop 3) ε2 = R := by
    rintro R rfl
    refine exSs_nx ?_
    have e13 := j2.e13
    have e5 := j2.wi.e5
    have ls : call fs (k + 12) 36 [encL true w.2.2.2.2] = .ok (encL false w.2.2.2.2) := listed_log (k + 9) _
    have lo : call fs (k + 12) 31 [encL false w.2.2.2.2, .int (n % 4)] = .ok (.tuple (w.2.2.2.2.map fun b => encB true (loose (n % 4) b))) := looser_ok (k + 7) false _ hl _ m0 m3
    have sa := same12 k 2 (by omega) _ (sm_beds w.2.2.2.2 (loose (n % 4)) (by have := hl.2.1; omega))
    have na := nm_beds w.2.2.2.2 (loose (n % 4))
    simp (config := { implicitDefEqProofs := false }) [exSs, ev, evs, evi, evc, evo, tyIs, retv, noMut, noMuts, put, puto, wipeE, frzE, inTD, notD, negD, own, lstD, setD, intOf, isD, isNone, List.getElem?_set, -getElem?_pos, e13, e5, e14, ls, lo, sa, na, m1]
  have hr1 : rngD 0 ((w.2.2.2.2.length : Int) + 1) = .ok ((List.range (w.2.2.2.2.length + 1)).map fun i => .int (i : Nat)) := by
    rw [show (w.2.2.2.2.length : Int) + 1 = ((w.2.2.2.2.length + 1 : Nat) : Int) by omega]
    exact rng_len (by have := hl.2.1; omega)
  obtain ⟨ε3, j3, x3⟩ := exFor_all (enc := fun i : Nat => .int (i : Nat)) (step := forStep (call fs (k + 12)) (.nm 15) b_law_f2) (l := List.range (w.2.2.2.2.length + 1)) (ε := ε2) (I := Wj SS (encWs true true ws) n w) j2
    (fun i hi' ε j => by
      have li : i < w.2.2.2.2.length + 1 := by simpa using hi'
      obtain ⟨ε', ⟨a1, a2, a3, a4⟩, a5⟩ := f2_step k w hw hpw i (by omega) (Wi SS (encWs true true ws) n) (fun ε i s hi' a => a.set (by simp at hi'; rcases hi' with rfl | rfl | rfl | rfl <;> exact ⟨by omega, by omega, by omega, by omega⟩) s) ε j.wi j.wi.len j.e7 j.e13
      exact ⟨ε', ⟨a1, a3, a4⟩, a5⟩)
  have c5 : ∀ R, exSs (call fs (k + 12)) (b_law_f4.drop 5) ε3 = R → exSs (call fs (k + 12)) (b_law_f4.drop 4) ε2 = R := by
    rintro R rfl
    refine exSs_nx ?_
    have e13 := j2.e13
    simp (config := { implicitDefEqProofs := false }) [exSs, ev, evs, evi, evc, evo, tyIs, retv, noMut, noMuts, put, puto, wipeE, frzE, inTD, notD, negD, own, lstD, setD, intOf, isD, isNone, List.getElem?_set, -getElem?_pos, e13, encL_len, qa, hr1, x3]
  -- the end
  have hb := hi_all w.2.2.2.2
  have hbd : 0 ≤ hi w.2.2.2.2 0 w.2.2.2.2.length ∧ hi w.2.2.2.2 0 w.2.2.2.2.length ≤ 1188 := by
    rw [hb]
    have : ∀ l : List Bed, (∀ b ∈ l, okB b) → 0 ≤ (l.map fun b => b.2.2).sum ∧ (l.map fun b => b.2.2).sum ≤ 99 * l.length := by
      intro l
      induction l with
      | nil => intro _; simp
      | cons b l ih =>
        intro hh
        have h1 := hh b List.mem_cons_self
        have h2 := ih fun c hc => hh c (List.mem_cons_of_mem _ hc)
        rw [List.map_cons, List.sum_cons, List.length_cons]
        obtain ⟨_, a1, a2, a3⟩ := h1
        omega
    have h1 := this _ hl.2.2
    have h2 := hl.2.1
    omega
  generalize hE : hi w.2.2.2.2 0 w.2.2.2.2.length = E at hbd
  have c6 : ∀ R, exSs (call fs (k + 12)) (b_law_f4.drop 6) (ε3.set 16 (.f (.int E))) = R → exSs (call fs (k + 12)) (b_law_f4.drop 5) ε3 = R := by
    rintro R rfl
    refine exSs_nx ?_
    have e13 := j3.e13
    have lt : call fs (k + 12) 46 [encL true w.2.2.2.2, .int 0, .int ((w.2.2.2.2.length : Int) - 1)] = .ok (.tuple [.int (lo w.2.2.2.2 0 w.2.2.2.2.length), .int (hi w.2.2.2.2 0 w.2.2.2.2.length)]) := law_thick_ok (k + 11) true w.2.2.2.2 0 _ (by omega) (by omega) (Nat.le_refl _)
    have ix1 : ∀ a b : Int, idxD (.tuple [.int a, .int b]) (.int 1) = .ok (.int b) := fun _ _ => rfl
    simp (config := { implicitDefEqProofs := false }) [exSs, ev, evs, evi, evc, evo, tyIs, retv, noMut, noMuts, put, puto, wipeE, frzE, inTD, notD, negD, own, lstD, setD, intOf, isD, isNone, List.getElem?_set, -getElem?_pos, e13, encL_len, qs, lt, nm2, ix1, hE]
  have j4 : Wj SS (encWs true true ws) n w (ε3.set 16 (.f (.int E))) := j3.set ⟨by omega, by omega⟩ _
  have e16 : (ε3.set 16 (.f (.int E)))[16]? = some (.f (.int E)) := List.getElem?_set_self (by have := j3.wi.len; omega)
  generalize ε3.set 16 (.f (.int E)) = ε4 at j4 c6 e16
  have hr2 : rngD 0 (E + 2) = .ok ((List.range (E + 2).toNat).map fun i => .int (i : Nat)) := by
    rw [show E + 2 = (((E + 2).toNat : Nat) : Int) by omega, rng_len (by omega)]; rfl
  obtain ⟨ε5, ⟨j5, e16'⟩, x5⟩ := exFor_all (enc := fun i : Nat => .int (i : Nat)) (step := forStep (call fs (k + 12)) (.nm 17) b_law_f3) (l := List.range (E + 2).toNat) (ε := ε4) (I := fun ε => Wj SS (encWs true true ws) n w ε ∧ ε[16]? = some (.f (.int E))) ⟨j4, e16⟩
    (fun i hi' ε ⟨j, e⟩ => by
      have li : i < (E + 2).toNat := by simpa using hi'
      obtain ⟨s20, s21, x⟩ := f3_step k _ hl (i : Nat) (by omega) (by omega) ε j.wi.len j.wi.e25 j.e13
      exact ⟨_, ⟨((j.set ⟨by omega, by omega⟩ _).set ⟨by omega, by omega⟩ _).set ⟨by omega, by omega⟩ _, by rw [List.getElem?_set_ne (by omega), List.getElem?_set_ne (by omega), List.getElem?_set_ne (by omega)]; exact e⟩, x⟩)
  have c7 : ∀ R, exSs (call fs (k + 12)) (b_law_f4.drop 7) ε5 = R → exSs (call fs (k + 12)) (b_law_f4.drop 6) ε4 = R := by
    rintro R rfl
    refine exSs_nx ?_
    simp (config := { implicitDefEqProofs := false }) [exSs, ev, evs, evi, evc, evo, tyIs, retv, noMut, noMuts, put, puto, wipeE, frzE, inTD, notD, negD, own, lstD, setD, intOf, isD, isNone, List.getElem?_set, -getElem?_pos, e16, qa, hr2, x5]
  have c8 : ∀ R, exSs (call fs (k + 12)) (b_law_f4.drop 8) ε5 = R → exSs (call fs (k + 12)) (b_law_f4.drop 7) ε5 = R := by
    rintro R rfl
    refine exSs_nx ?_
    have e13 := j5.e13
    have ro : call fs (k + 12) 27 [encL true w.2.2.2.2] = .ok (.int E) := by rw [← hE]; exact runs_out_ok (k + 5) true _ hl
    simp (config := { implicitDefEqProofs := false }) [exSs, ev, evs, evi, evc, evo, tyIs, retv, noMut, noMuts, put, puto, wipeE, frzE, inTD, notD, negD, own, lstD, setD, intOf, isD, isNone, List.getElem?_set, -getElem?_pos, e13, e16', ro, ne_self_int]
  -- near ones
  have hpa := List.all_eq_true.mp hp
  have c9 : ∀ R, exSs (call fs (k + 12)) (b_law_f4.drop 9) (ε5.set 18 (.o (.list ((far ws w).map (pairE w))))) = R → exSs (call fs (k + 12)) (b_law_f4.drop 8) ε5 = R := by
    rintro R rfl
    refine exSs_nx ?_
    have e7 := j5.e7
    have e2 := j5.wi.e2
    have l24 := eq_true (show 24 < ε5.length by have := j5.wi.len; omega)
    simp (config := { implicitDefEqProofs := false }) [exSs, ev, evs, evi, evc, evo, tyIs, retv, noMut, noMuts, put, puto, wipeE, frzE, inTD, notD, negD, own, lstD, setD, intOf, isD, isNone, List.getElem?_set, -getElem?_pos, e2, encWs_seq]
    rw [lcL_flat (enc := encW true) (f := fun v => if (!decide (v.1 = w.1)) = true then [pairE w v] else []) fun v hv => by
      have b1 := inP_bound hpw
      have b2 := inP_bound (hpa v hv)
      have p1 := p2 (w.2.1 - v.2.1) (by omega)
      have p3 := p2 (w.2.2.1 - v.2.2.1) (by omega)
      have e2 : pairE w v = .tuple [.int ((w.2.1 - v.2.1) ^ 2 + (w.2.2.1 - v.2.2.1) ^ 2), .str v.1] := rfl
      rw [e2]
      by_cases e : v.1 = w.1 <;> simp (config := { implicitDefEqProofs := false }) [exSs, ev, evs, evi, evc, evo, tyIs, retv, noMut, noMuts, put, puto, wipeE, frzE, inTD, notD, negD, own, lstD, setD, intOf, isD, isNone, List.getElem?_set, -getElem?_pos, e7, l24, ii0, ii1, ii2, ne_str, e, p1, p3, qa, qs]]
    rw [flat_filter]
    simp (config := { implicitDefEqProofs := false }) [exSs, ev, evs, evi, evc, evo, tyIs, retv, noMut, noMuts, put, puto, wipeE, frzE, inTD, notD, negD, own, lstD, setD, intOf, isD, isNone, List.getElem?_set, -getElem?_pos]
    rw [sort_pairs]
    simp (config := { implicitDefEqProofs := false }) [exSs, ev, evs, evi, evc, evo, tyIs, retv, noMut, noMuts, put, puto, wipeE, frzE, inTD, notD, negD, own, lstD, setD, intOf, isD, isNone, List.getElem?_set, -getElem?_pos]
    rfl
  have j6 : Wj SS (encWs true true ws) n w (ε5.set 18 (.o (.list ((far ws w).map (pairE w))))) := j5.set ⟨by omega, by omega⟩ _
  have e18 : (ε5.set 18 (.o (.list ((far ws w).map (pairE w)))))[18]? = some (.o (.list ((far ws w).map (pairE w)))) := List.getElem?_set_self (by have := j5.wi.len; omega)
  generalize ε5.set 18 (.o (.list ((far ws w).map (pairE w)))) = ε6 at j6 c9 e18
  refine ⟨ε6, j6.wi, c1 _ (c2 _ (c3 _ (c4 _ (c5 _ (c6 _ (c7 _ (c8 _ (c9 _ ?_))))))))⟩
  refine (exSs_nx (ε' := ε6) ?_).trans (by simp (config := { implicitDefEqProofs := false }) [exSs, ev, evs, evi, evc, evo, tyIs, retv, noMut, noMuts, put, puto, wipeE, frzE, inTD, notD, negD, own, lstD, setD, intOf, isD, isNone, List.getElem?_set, -getElem?_pos, b_law_f4])
  have e7 := j6.e7
  have e2 := j6.wi.e2
  have l26 := eq_true (show 26 < ε6.length by have := j6.wi.len; omega)
  have l33 := eq_true (show 33 < ε6.length by have := j6.wi.len; omega)
  have nr : call fs (k + 12) 33 [encWs true true ws, .str w.1] = .ok (.tuple ((far ws w).map fun v => .str v.1)) := nearest_ok (k + 5) true true ws h hp hm
  have fl := far_len ws w
  have hwl := h.len
  have sa := same12 k 1 (by omega) (.tuple ((far ws w).map fun v => .str v.1)) (by
    have := sm_strs ((far ws w).map (·.1)) (by rw [List.length_map]; omega)
    rwa [List.map_map] at this)
  have na : noMuts ((far ws w).map fun v => .str v.1) = true := by
    have := nm_strs ((far ws w).map (·.1))
    rwa [List.map_map] at this
  have sqq : seqD (.list ((far ws w).map (pairE w))) = .ok ((far ws w).map (pairE w)) := rfl
  have ixp0 : ∀ v, idxD (pairE w v) (.int 0) = .ok (.int (sqd w v)) := fun _ => rfl
  have ixp1 : ∀ v, idxD (pairE w v) (.int 1) = .ok (.str v.1) := fun _ => rfl
  obtain ⟨v, hv, ix⟩ : ∃ v, v ∈ ws ∧ idxD (.list ((far ws w).map (pairE w))) (.int 0) = .ok (pairE w v) := by
    have hn := far_ne h w
    have hmem := fun v => far_mem (ws := ws) (w := w) (v := v)
    generalize far ws w = F at *
    cases F with
    | nil => exact absurd rfl hn
    | cons v F => exact ⟨v, hmem v List.mem_cons_self, rfl⟩
  have b1 := inP_bound hpw
  have b2 := inP_bound (hpa v hv)
  have sqv : call fs (k + 12) 34 [encWs true true ws, .str v.1, .str w.1] = .ok (.int (sqd w v)) := by
    rw [sqd_comm]
    exact square_ok (k + 5) true true ws h hp (wellOf_mem h hv) hv (wellOf_mem h hm) hm (by omega) (by omega)
  simp (config := { implicitDefEqProofs := false }) [exSs, ev, evs, evi, evc, evo, tyIs, retv, noMut, noMuts, put, puto, wipeE, frzE, inTD, notD, negD, own, lstD, setD, intOf, isD, isNone, List.getElem?_set, -getElem?_pos, b_law_f4, e2, e7, e18, ii0, nr, sqq]
  rw [lcL_map (enc := pairE w) (f := fun v => .str v.1) fun v hv => by
    have e : pairE w v = .tuple [.int (sqd w v), .str v.1] := rfl
    simp (config := { implicitDefEqProofs := false }) [exSs, ev, evs, evi, evc, evo, tyIs, retv, noMut, noMuts, put, puto, wipeE, frzE, inTD, notD, negD, own, lstD, setD, intOf, isD, isNone, List.getElem?_set, -getElem?_pos, e, l26, l33]]
  simp (config := { implicitDefEqProofs := false }) [exSs, ev, evs, evi, evc, evo, tyIs, retv, noMut, noMuts, put, puto, wipeE, frzE, inTD, notD, negD, own, lstD, setD, intOf, isD, isNone, List.getElem?_set, -getElem?_pos, bt, sa, na, ix, ixp0, ixp1, sqv, ne_self_int]
end
end K01
end Ws

set_option Elab.async false
set_option linter.all false
set_option maxRecDepth 100000
set_option maxHeartbeats 400000
namespace Ws
namespace K01
open PySem
theorem dnum_congr {α : Type} {F G : α → List Int} (hh : ∀ a b, F a = F b ↔ G a = G b) : ∀ l : List α, dnum (l.map F) = dnum (l.map G)
  | [] => rfl
  | a :: l => by
    have ih := dnum_congr hh l
    have e : (l.map F).any (fun y => decide (y = F a)) = (l.map G).any (fun y => decide (y = G a)) := by
      rw [List.any_map, List.any_map]
      congr 1
      funext b
      simp only [Function.comp]
      rw [decide_eq_decide]
      exact hh b a
    show (if (l.map F).any (fun y => decide (y = F a)) then dnum (l.map F) else dnum (l.map F) + 1) = _
    rw [e, ih]; rfl
theorem shift_ok {ws : List Well} (h : okWs ws) (x y : Int) (ht : ∀ w ∈ ws, -40 ≤ w.2.2.2.1 ∧ w.2.2.2.1 ≤ 49) : okWs (ws.map (shiftW x y 3)) := by
  refine ⟨?_, ?_, ?_⟩
  · rw [List.map_map]
    exact h.nm
  · intro v hv
    obtain ⟨w, hw, rfl⟩ := List.mem_map.mp hv
    obtain ⟨a1, a2, a3, a4⟩ := h.ok w hw
    have := ht w hw
    exact ⟨a1, by show -500 ≤ w.2.2.2.1 + 3; omega, by show w.2.2.2.1 + 3 ≤ 500; omega, a4⟩
  · rw [List.map_map, List.length_map, ← h.pl]
    refine dnum_congr (fun a b => ?_) ws
    show [a.2.1 + x, a.2.2.1 + y] = [b.2.1 + x, b.2.2.1 + y] ↔ [a.2.1, a.2.2.1] = [b.2.1, b.2.2.1]
    simp only [List.cons.injEq, and_true]
    omega
def wd (i : Int) : Str := words5.getD i.toNat (t "")
theorem idx5 (i : Int) (h0 : 0 ≤ i) (h1 : i < 5) : idxD (.list (words5.map .str)) (.int i) = .ok (.str (wd i)) := by
  obtain ⟨n, rfl⟩ : ∃ n : Nat, i = n := ⟨i.toNat, by omega⟩
  have hn : n < words5.length := by show n < 5; omega
  show Rs.of (ixD _ _) = _
  unfold ixD wd
  rw [if_pos h0, Int.toNat_natCast, List.getElem?_map, List.getElem?_eq_getElem hn, List.getD_eq_getElem?_getD, List.getElem?_eq_getElem hn]; rfl
theorem wd_mem (i : Int) (h0 : 0 ≤ i) (h1 : i < 5) : wd i ∈ words5 := by
  obtain ⟨n, rfl⟩ : ∃ n : Nat, i = n := ⟨i.toNat, by omega⟩
  have hn : n < words5.length := by show n < 5; omega
  unfold wd
  rw [Int.toNat_natCast, List.getD_eq_getElem?_getD, List.getElem?_eq_getElem hn]
  exact List.getElem_mem hn
theorem wd_inj (i j : Int) (h0 : 0 ≤ i) (h1 : i < 5) (g0 : 0 ≤ j) (g1 : j < 5) (h : wd i = wd j) : i = j := by
  have nd : ∀ a b : Fin 5, words5.getD a.val (t "") = words5.getD b.val (t "") → a = b := by decide +kernel
  have := nd ⟨i.toNat, by omega⟩ ⟨j.toNat, by omega⟩ h
  have := congrArg Fin.val this
  simp only at this
  omega
structure Wa (SS W sc : D) (ε : Env) : Prop where
  len : ε.length = 34
  e0 : ε[0]? = some (.f sc)
  e1 : ε[1]? = some (.f SS)
  e2 : ε[2]? = some (.f W)
  e9 : ε[9]? = some .u
  e13 : ε[13]? = some .u
  e24 : ε[24]? = some .u
  e25 : ε[25]? = some .u
  e26 : ε[26]? = some .u
  e27 : ε[27]? = some .u
theorem Wa.set {SS W sc : D} {ε : Env} (h : Wa SS W sc ε) {i : Nat} (hi : 2 < i ∧ i < 7) (s : Sl) : Wa SS W sc (ε.set i s) := by
  have g : ∀ j, i ≠ j → (ε.set i s)[j]? = ε[j]? := fun j hj => List.getElem?_set_ne hj
  refine ⟨by rw [List.length_set]; exact h.len, ?_, ?_, ?_, ?_, ?_, ?_, ?_, ?_, ?_⟩ <;> rw [g _ (by omega)]
  · exact h.e0
  · exact h.e1
  · exact h.e2
  · exact h.e9
  · exact h.e13
  · exact h.e24
  · exact h.e25
  · exact h.e26
  · exact h.e27
theorem strs_lim (xs : List Str) : (xs.map PyData.str).all (lim 39) = true := by
  rw [List.all_eq_true]
  intro x hx
  obtain ⟨b, _, rfl⟩ := List.mem_map.mp hx
  exact lim_str 39 b
theorem tr_nm (x : Str) : noMuts ((tr x).map .str) = true := nm_strs _
theorem tr_len : ∀ x ∈ stuffs, (tr x).length ≤ 1000 := by
  refine allS ?_ ?_ ?_ ?_ ?_ ?_ ?_ ?_ ?_ ?_ ?_ ?_ <;> exact (by decide +kernel)
theorem f0_step (k : Nat) (x : Str) (hx : x ∈ stuffs) (ε : Env) (len : ε.length = 34) : forStep (call fs (k + 12)) (.nm 3) b_law_f0 (.str x) ε = .ok (.nx, ε.set 3 (.f (.str x))) := by
  have h3 := eq_true (show 3 < ε.length by omega)
  have t1 : call fs (k + 12) 10 [.str x] = .ok (.tuple ((tr x).map .str)) := traits_ok (k + 10) hx
  have t2 : call fs (k + 12) 45 [] = .ok lawT := law_traits_ok (k + 11)
  have t3 := lawT_at x hx
  have sa := same12 k 1 (by omega) _ (sm_strs (tr x) (tr_len x hx))
  have na := tr_nm x
  simp (config := { implicitDefEqProofs := false }) [exSs, ev, evs, evi, evc, evo, tyIs, retv, noMut, noMuts, put, puto, wipeE, frzE, inTD, notD, negD, own, lstD, setD, intOf, isD, isNone, List.getElem?_set, -getElem?_pos, forStep, b_law_f0, h3, t1, t2, t3, sa, na]
theorem filt_emp (p : Str → Bool) : ∀ ss : List Str, (List.map PyData.str (List.filter (fun a => !p a) ss)).isEmpty = ss.all p
  | [] => rfl
  | a :: ss => by
    have ih := filt_emp p ss
    rw [List.filter_cons, List.all_cons]
    cases p a
    · rfl
    · exact ih
/-- stuffs by their traits, asked of the law -/
theorem ask_stuffs (k : Nat) (ss : List Str) (ε : Env) (len : ε.length = 34) (e6 : ε[6]? = some (.o (.list (ss.map .str)))) (hw : call fs (k + 11) 11 [.list (ss.map .str)] = .ok (.bool true)) :
    exS (call fs (k + 12)) (.iff (.not_ (.nomut (.call 35 [(.nomut (.call 12 [(.var 6)])), (.bi .tuple [(.lc [3] (.var 3) (.nm 3) (.seq (.call 39 [])) (.some (.cmp .eq (.lc [32] (.var 32) (.nm 32) (.seq (.wv 6)) (.some (.cmp .nin (.wv 32) (.idx (.call 45 []) (.wv 3))))) (.lst []))))])]))) [(.ret (.lit (.bool false)))] []) ε = .ok (.nx, ε) := by
  have h3 := eq_true (show 3 < ε.length by omega)
  have h32 := eq_true (show 32 < ε.length by omega)
  have t2 : call fs (k + 12) 45 [] = .ok lawT := law_traits_ok (k + 11)
  have t4 : call fs (k + 12) 39 [] = .ok (.list (stuffs.map .str)) := law_stuffs_ok (k + 11)
  have sw : call fs (k + 12) 12 [.list (ss.map .str)] = .ok (.tuple ((withW ss).map .str)) := stuffs_with_ok (k + 8) ss hw
  have wl : (withW ss).length ≤ 1000 := by
    have := List.length_filter_le (fun x => ss.all (hasW x)) stuffs
    have e : stuffs.length = 12 := rfl
    unfold withW; omega
  have sa := same12 k 1 (by omega) _ (sm_strs (withW ss) wl)
  have na := nm_strs (withW ss)
  have sq2 : ∀ ys : List D, seqD (.list ys) = .ok ys := fun _ => rfl
  simp (config := { implicitDefEqProofs := false }) [exSs, ev, evs, evi, evc, evo, tyIs, retv, noMut, noMuts, put, puto, wipeE, frzE, inTD, notD, negD, own, lstD, setD, intOf, isD, isNone, List.getElem?_set, -getElem?_pos, e6, t4, sw, sq2]
  rw [lcL_flat (enc := PyData.str) (f := fun x => if (ss.all (hasW x)) = true then [.str x] else []) fun x hx => ?_]
  · rw [flat_filter]
    have e : List.map (fun a => PyData.str a) (List.filter (fun a => ss.all (hasW a)) stuffs) = (withW ss).map .str := rfl
    rw [e]
    simp (config := { implicitDefEqProofs := false }) [exSs, ev, evs, evi, evc, evo, tyIs, retv, noMut, noMuts, put, puto, wipeE, frzE, inTD, notD, negD, own, lstD, setD, intOf, isD, isNone, List.getElem?_set, -getElem?_pos, bt, sa, na]
  · generalize hb : ss.all (hasW x) = b
    have t3 := lawT_at x hx
    simp (config := { implicitDefEqProofs := false }) [exSs, ev, evs, evi, evc, evo, tyIs, retv, noMut, noMuts, put, puto, wipeE, frzE, inTD, notD, negD, own, lstD, setD, intOf, isD, isNone, List.getElem?_set, -getElem?_pos, e6, h3, sq2]
    rw [lcL_flat (enc := PyData.str) (f := fun w => if (!hasW x w) = true then [.str w] else []) fun w hw => by
      have nw : cmpD .nin (.str w) (.tuple ((tr x).map .str)) = .ok (.bool (!hasW x w)) := nin_strs w (tr x)
      generalize hasW x w = c at nw ⊢
      cases c <;> simp (config := { implicitDefEqProofs := false }) [exSs, ev, evs, evi, evc, evo, tyIs, retv, noMut, noMuts, put, puto, wipeE, frzE, inTD, notD, negD, own, lstD, setD, intOf, isD, isNone, List.getElem?_set, -getElem?_pos, h3, h32, t2, t3, nw]]
    rw [flat_filter]
    have e1 : (List.map PyData.str (List.filter (fun a => !hasW x a) ss)).isEmpty = b := by
      rw [← hb]
      exact filt_emp (hasW x) ss
    have e2 := eq_nil (strs_lim (List.filter (fun a => !hasW x a) ss))
    rw [e1] at e2
    simp (config := { implicitDefEqProofs := false }) [exSs, ev, evs, evi, evc, evo, tyIs, retv, noMut, noMuts, put, puto, wipeE, frzE, inTD, notD, negD, own, lstD, setD, intOf, isD, isNone, List.getElem?_set, -getElem?_pos, e2]
    cases b <;> simp (config := { implicitDefEqProofs := false }) [exSs, ev, evs, evi, evc, evo, tyIs, retv, noMut, noMuts, put, puto, wipeE, frzE, inTD, notD, negD, own, lstD, setD, intOf, isD, isNone, List.getElem?_set, -getElem?_pos, h3]
/-- what is left behind the loop over wells -/
theorem law_tail (k : Nat) (a b : Str) (r : List Str) (ha : a ∈ stuffs) (hb : b ∈ stuffs) (hab : a ≠ b) (n : Int) (ws : List Well) (h : okWs ws) (hp : ws.all inP = true) (ht : ∀ w ∈ ws, -40 ≤ w.2.2.2.1 ∧ w.2.2.2.1 ≤ 49) (ε : Env) (i : Wi (.list ((a :: b :: r).map .str)) (encWs true true ws) n ε) :
    ∃ ε', exSs (call fs (k + 12)) (b_law.drop 9) ε = .ok (.rt (.bool true), ε') := by
  have tl : ∀ w : Well, encW true w = .tuple [.str w.1, .int w.2.1, .int w.2.2.1, .int w.2.2.2.1, encL true w.2.2.2.2] := fun _ => rfl
  have hwl := h.len
  have hlw : ∀ w ∈ ws, w.2.2.2.2.length ≤ 1000 := fun w hw => by have := (h.ok w hw).2.2.2.2.1; omega
  -- turned
  have c9 : ∀ R, exSs (call fs (k + 12)) (b_law.drop 10) (ε.set 8 (.f (encWs true true (ws.map turnW)))) = R → exSs (call fs (k + 12)) (b_law.drop 9) ε = R := by
    rintro R rfl
    refine exSs_nx ?_
    have fz : frzE ε [26, 9, 27, 13] = ε := frzE_no (by
      intro j hj d
      simp only [List.mem_cons, List.mem_nil_iff, or_false] at hj
      rcases hj with rfl | rfl | rfl | rfl
      · rw [i.e26]; exact fun h => by cases h
      · rw [i.e9]; exact fun h => by cases h
      · rw [i.e27]; exact fun h => by cases h
      · exact i.e13 d)
    have l26 := eq_true (show 26 < ε.length by have := i.len; omega)
    have l9 := eq_true (show 9 < ε.length by have := i.len; omega)
    have l10 := eq_true (show 10 < ε.length by have := i.len; omega)
    have l27 := eq_true (show 27 < ε.length by have := i.len; omega)
    have l13 := eq_true (show 13 < ε.length by have := i.len; omega)
    have e2 := i.e2
    rw [exS_asg, fz]
    simp (config := { implicitDefEqProofs := false }) [exSs, ev, evs, evi, evc, evo, tyIs, retv, noMut, noMuts, put, puto, wipeE, frzE, inTD, notD, negD, own, lstD, setD, intOf, isD, isNone, List.getElem?_set, -getElem?_pos, e2, encWs_seq]
    rw [lcL_map (enc := encW true) (f := fun w => encW true (turnW w)) fun w hw => by
      have e : encW true (turnW w) = .tuple [.str w.1, .int (60 - w.2.2.1), .int w.2.1, .int w.2.2.2.1, encL true w.2.2.2.2] := rfl
      rw [e]
      simp (config := { implicitDefEqProofs := false }) [exSs, ev, evs, evi, evc, evo, tyIs, retv, noMut, noMuts, put, puto, wipeE, frzE, inTD, notD, negD, own, lstD, setD, intOf, isD, isNone, List.getElem?_set, -getElem?_pos, tl, l26, l9, l10, l27, l13, qs]]
    simp (config := { implicitDefEqProofs := false }) [exSs, ev, evs, evi, evc, evo, tyIs, retv, noMut, noMuts, put, puto, wipeE, frzE, inTD, notD, negD, own, lstD, setD, intOf, isD, isNone, List.getElem?_set, -getElem?_pos, bt]
    show ε.set 8 (.f (.tuple _)) = ε.set 8 (.f (.tuple _))
    rw [List.map_map]; rfl
  have i1 : Wi (.list ((a :: b :: r).map .str)) (encWs true true ws) n (ε.set 8 (.f (encWs true true (ws.map turnW)))) := i.set ⟨by omega, by omega, by omega, by omega⟩ _
  have e8 : (ε.set 8 (.f (encWs true true (ws.map turnW))))[8]? = some (.f (encWs true true (ws.map turnW))) := List.getElem?_set_self (by have := i.len; omega)
  generalize ε.set 8 (.f (encWs true true (ws.map turnW))) = ε1 at i1 e8 c9
  generalize hx : n % 9 - 4 = x
  generalize hy : n / 9 % 9 - 4 = y
  have l9 := eq_true (show 9 < ε1.length by have := i1.len; omega)
  have l10 := eq_true (show 10 < ε1.length by have := i1.len; omega)
  have b1 : ∀ i, biD .int [.int i] = .ok (.int i) := fun _ => rfl
  have c10 : ∀ R, exSs (call fs (k + 12)) (b_law.drop 12) ((ε1.set 9 (.f (.int x))).set 10 (.f (.int y))) = R → exSs (call fs (k + 12)) (b_law.drop 10) ε1 = R := by
    rintro R rfl
    have e5 := i1.e5
    refine (exSs_nx (ε' := ε1.set 9 (.f (.int x))) ?_).trans (exSs_nx ?_)
    · simp (config := { implicitDefEqProofs := false }) [exSs, ev, evs, evi, evc, evo, tyIs, retv, noMut, noMuts, put, puto, wipeE, frzE, inTD, notD, negD, own, lstD, setD, intOf, isD, isNone, List.getElem?_set, -getElem?_pos, e5, m1, qs, hx]
    · simp (config := { implicitDefEqProofs := false }) [exSs, ev, evs, evi, evc, evo, tyIs, retv, noMut, noMuts, put, puto, wipeE, frzE, inTD, notD, negD, own, lstD, setD, intOf, isD, isNone, List.getElem?_set, -getElem?_pos, e5, m1, d1, qs, b1, hy]
  have len2 : ((ε1.set 9 (.f (.int x))).set 10 (.f (.int y))).length = 34 := by rw [List.length_set, List.length_set]; exact i1.len
  have g : ∀ j, 9 ≠ j → 10 ≠ j → ((ε1.set 9 (.f (.int x))).set 10 (.f (.int y)))[j]? = ε1[j]? := fun j h9 h10 => by rw [List.getElem?_set_ne h10, List.getElem?_set_ne h9]
  have f1 := (g 1 (by omega) (by omega)).trans i1.e1
  have f2 := (g 2 (by omega) (by omega)).trans i1.e2
  have f8 := (g 8 (by omega) (by omega)).trans e8
  have f13 : ∀ d, ((ε1.set 9 (.f (.int x))).set 10 (.f (.int y)))[13]? ≠ some (.o d) := fun d => by rw [g 13 (by omega) (by omega)]; exact i1.e13 d
  have f24 := (g 24 (by omega) (by omega)).trans i1.e24
  have f26 := (g 26 (by omega) (by omega)).trans i1.e26
  have f9 : ((ε1.set 9 (.f (.int x))).set 10 (.f (.int y)))[9]? = some (.f (.int x)) := by rw [List.getElem?_set_ne (by omega), List.getElem?_set_self (by have := i1.len; omega)]
  have f10 : ((ε1.set 9 (.f (.int x))).set 10 (.f (.int y)))[10]? = some (.f (.int y)) := List.getElem?_set_self (by rw [List.length_set]; have := i1.len; omega)
  generalize (ε1.set 9 (.f (.int x))).set 10 (.f (.int y)) = ε2 at *
  -- moved
  have h2 := shift_ok h x y ht
  generalize hsw : ws.map (shiftW x y 3) = sw at h2
  have c12 : ∀ R, exSs (call fs (k + 12)) (b_law.drop 13) (ε2.set 11 (.f (encWs true true sw))) = R → exSs (call fs (k + 12)) (b_law.drop 12) ε2 = R := by
    rintro R rfl
    refine exSs_nx ?_
    have fz : frzE ε2 [26, 13] = ε2 := frzE_no (by
      intro j hj d
      simp only [List.mem_cons, List.mem_nil_iff, or_false] at hj
      rcases hj with rfl | rfl
      · rw [f26]; exact fun h => by cases h
      · exact f13 d)
    have l26 := eq_true (show 26 < ε2.length by omega)
    have l28 := eq_true (show 28 < ε2.length by omega)
    have l29 := eq_true (show 29 < ε2.length by omega)
    have l27 := eq_true (show 27 < ε2.length by omega)
    have l13 := eq_true (show 13 < ε2.length by omega)
    rw [exS_asg, fz]
    simp (config := { implicitDefEqProofs := false }) [exSs, ev, evs, evi, evc, evo, tyIs, retv, noMut, noMuts, put, puto, wipeE, frzE, inTD, notD, negD, own, lstD, setD, intOf, isD, isNone, List.getElem?_set, -getElem?_pos, f2, encWs_seq]
    rw [lcL_map (enc := encW true) (f := fun w => encW true (shiftW x y 3 w)) fun w hw => by
      have e : encW true (shiftW x y 3 w) = .tuple [.str w.1, .int (w.2.1 + x), .int (w.2.2.1 + y), .int (w.2.2.2.1 + 3), encL true w.2.2.2.2] := rfl
      rw [e]
      simp (config := { implicitDefEqProofs := false }) [exSs, ev, evs, evi, evc, evo, tyIs, retv, noMut, noMuts, put, puto, wipeE, frzE, inTD, notD, negD, own, lstD, setD, intOf, isD, isNone, List.getElem?_set, -getElem?_pos, tl, l26, l28, l29, l27, l13, qa, f9, f10]]
    simp (config := { implicitDefEqProofs := false }) [exSs, ev, evs, evi, evc, evo, tyIs, retv, noMut, noMuts, put, puto, wipeE, frzE, inTD, notD, negD, own, lstD, setD, intOf, isD, isNone, List.getElem?_set, -getElem?_pos, bt]
    show ε2.set 11 (.f (.tuple _)) = ε2.set 11 (.f (.tuple _))
    rw [← hsw, List.map_map]; rfl
  have len3 : (ε2.set 11 (.f (encWs true true sw))).length = 34 := by rw [List.length_set]; exact len2
  have g : ∀ j, 11 ≠ j → (ε2.set 11 (.f (encWs true true sw)))[j]? = ε2[j]? := fun j h9 => List.getElem?_set_ne h9
  have f1 := (g 1 (by omega)).trans f1
  have f2 := (g 2 (by omega)).trans f2
  have f8 := (g 8 (by omega)).trans f8
  have f9 := (g 9 (by omega)).trans f9
  have f10 := (g 10 (by omega)).trans f10
  have f24 := (g 24 (by omega)).trans f24
  have f11 : (ε2.set 11 (.f (encWs true true sw)))[11]? = some (.f (encWs true true sw)) := List.getElem?_set_self (by omega)
  generalize ε2.set 11 (.f (encWs true true sw)) = ε3 at *
  have c13 : ∀ R, exSs (call fs (k + 12)) (b_law.drop 14) (ε3.set 12 (.f (.bool (sw.all inP)))) = R → exSs (call fs (k + 12)) (b_law.drop 13) ε3 = R := by
    rintro R rfl
    refine exSs_nx ?_
    have l24 := eq_true (show 24 < ε3.length by omega)
    have ii1 : ∀ v, idxD (encW true v) (.int 1) = .ok (.int v.2.1) := fun v => by simp (config := { implicitDefEqProofs := false }) [exSs, ev, evs, evi, evc, evo, tyIs, retv, noMut, noMuts, put, puto, wipeE, ixD, frzE, inTD, notD, binD, negD, own, lstD, setD, intOf, isD, isNone, encW]
    have ii2 : ∀ v, idxD (encW true v) (.int 2) = .ok (.int v.2.2.1) := fun v => by simp (config := { implicitDefEqProofs := false }) [exSs, ev, evs, evi, evc, evo, tyIs, retv, noMut, noMuts, put, puto, wipeE, ixD, frzE, inTD, notD, binD, negD, own, lstD, setD, intOf, isD, isNone, encW]
    generalize hb : sw.all inP = B
    simp (config := { implicitDefEqProofs := false }) [exSs, ev, evs, evi, evc, evo, tyIs, retv, noMut, noMuts, put, puto, wipeE, frzE, inTD, notD, negD, own, lstD, setD, intOf, isD, isNone, List.getElem?_set, -getElem?_pos, f24, f11, encWs_seq]
    rw [lcL_flat (enc := encW true) (f := fun w => if (!inP w) = true then [encW true w] else []) fun w hw => by
      unfold inP inPl
      by_cases c1 : 0 ≤ w.2.1 <;> by_cases c2 : w.2.1 ≤ 60 <;> by_cases c3 : 0 ≤ w.2.2.1 <;> by_cases c4 : w.2.2.1 ≤ 60 <;> simp (config := { implicitDefEqProofs := false }) [exSs, ev, evs, evi, evc, evo, tyIs, retv, noMut, noMuts, put, puto, wipeE, frzE, inTD, notD, negD, own, lstD, setD, intOf, isD, isNone, List.getElem?_set, -getElem?_pos, l24, ii1, ii2, c1, c2, c3, c4]]
    rw [flat_filter]
    have e1 : (List.map (encW true) (List.filter (fun a => !inP a) sw)).isEmpty = B := by
      rw [← hb]
      clear hb h2 hsw f11 c12 len3 g f1 f2 f8 f9 f10 f24 l24
      induction sw with
      | nil => rfl
      | cons a ss ih =>
        rw [List.filter_cons, List.all_cons]
        cases inP a
        · rfl
        · exact ih
    have e2 := eq_nil (xs := List.map (encW true) (List.filter (fun a => !inP a) sw)) (by
      rw [List.all_eq_true]
      intro x hx
      obtain ⟨b, _, rfl⟩ := List.mem_map.mp hx
      exact lim_mono 3 _ (lim_well true b) 39 (by omega))
    rw [e1] at e2
    simp (config := { implicitDefEqProofs := false }) [exSs, ev, evs, evi, evc, evo, tyIs, retv, noMut, noMuts, put, puto, wipeE, frzE, inTD, notD, negD, own, lstD, setD, intOf, isD, isNone, List.getElem?_set, -getElem?_pos, e2]
  have len4 : (ε3.set 12 (.f (.bool (sw.all inP)))).length = 34 := by rw [List.length_set]; exact len3
  have g : ∀ j, 12 ≠ j → (ε3.set 12 (.f (.bool (sw.all inP))))[j]? = ε3[j]? := fun j h9 => List.getElem?_set_ne h9
  have f1 := (g 1 (by omega)).trans f1
  have f2 := (g 2 (by omega)).trans f2
  have f8 := (g 8 (by omega)).trans f8
  have f9 := (g 9 (by omega)).trans f9
  have f10 := (g 10 (by omega)).trans f10
  have f11 := (g 11 (by omega)).trans f11
  have f12 : (ε3.set 12 (.f (.bool (sw.all inP))))[12]? = some (.f (.bool (sw.all inP))) := List.getElem?_set_self (by omega)
  generalize ε3.set 12 (.f (.bool (sw.all inP))) = ε4 at *
  have c14 : ∀ R, exSs (call fs (k + 12)) (b_law.drop 15) ε4 = R → exSs (call fs (k + 12)) (b_law.drop 14) ε4 = R := by
    rintro R rfl
    refine exSs_nx ?_
    have s0 : idxD (.list ((a :: b :: r).map .str)) (.int 0) = .ok (.str a) := rfl
    have s1 : idxD (.list ((a :: b :: r).map .str)) (.int 1) = .ok (.str b) := rfl
    have okl : okL [(a, 60, 70), (a, 50, 60), (b, 1, 2)] := by
      refine ⟨by simp, by simp, fun x hx => ?_⟩
      simp only [List.mem_cons, List.mem_nil_iff, or_false] at hx
      rcases hx with rfl | rfl | rfl
      · exact ⟨stuff_any ha, by simp, by simp, by simp⟩
      · exact ⟨stuff_any ha, by simp, by simp, by simp⟩
      · exact ⟨stuff_any hb, by simp, by simp, by simp⟩
    have pf : plainF [(a, 60, 70), (a, 50, 60), (b, 1, 2)] = [(a, 99, 99), (b, 1, 2)] := by
      simp [plainF, pstep, hab, mn]
    have pl : call fs (k + 12) 28 [.tuple [.tuple [.str a, .int 60, .int 70], .tuple [.str a, .int 50, .int 60], .tuple [.str b, .int 1, .int 2]]] = .ok (.tuple [.tuple [.str a, .int 99, .int 99], .tuple [.str b, .int 1, .int 2]]) := by
      have := plain_ok (k + 7) true _ okl
      rw [pf] at this
      exact this
    have sa := same12 k 2 (by omega) (.tuple [.tuple [.str a, .int 99, .int 99], .tuple [.str b, .int 1, .int 2]]) rfl
    generalize PyData.list ((a :: b :: r).map .str) = SS at *
    simp (config := { implicitDefEqProofs := false }) [exSs, ev, evs, evi, evc, evo, tyIs, retv, noMut, noMuts, put, puto, wipeE, frzE, inTD, notD, negD, own, lstD, setD, intOf, isD, isNone, List.getElem?_set, -getElem?_pos, f1, s0, s1, pl, sa]
  have tn : call fs (k + 12) 30 [encWs true true ws] = .ok (encWs true true (ws.map turnW)) := turned_ok (k + 5) true true ws h hp
  have mv : call fs (k + 12) 29 [encWs true true ws, .int x, .int y, .int 3] = .ok (if sw.all inP = true then encWs true true sw else .none) := by
    have := moved_ok (k + 5) true true ws h hp x y 3 (by rw [hsw]; exact h2)
    rw [hsw] at this
    exact this
  have hsl : sw.length ≤ 1000 := by rw [← hsw, List.length_map]; omega
  have sa := same12 k 4 (by omega) _ (sm_wells (ws.map turnW) (by rw [List.length_map]; omega) (fun w hw => by
    obtain ⟨v, hv, rfl⟩ := List.mem_map.mp hw
    exact hlw v hv))
  have sb := same12 k 4 (by omega) _ (sm_wells sw hsl (fun w hw => by
    rw [← hsw] at hw
    obtain ⟨v, hv, rfl⟩ := List.mem_map.mp hw
    exact hlw v hv))
  have sc := same12 k 0 (by omega) .none rfl
  have na := nm_wells (ws.map turnW)
  have nb := nm_wells sw
  refine ⟨ε4, c9 _ (c10 _ (c12 _ (c13 _ (c14 _ ?_))))⟩
  have hbl : b_law.drop 15 = [(.ret (.and_ (.nomut (.call 35 [(.nomut (.call 30 [(.var 2)])), (.var 8)])) (.nomut (.call 35 [(.nomut (.call 29 [(.var 2), (.var 9), (.var 10), (.lit (.int (3)))])), (.ite (.wv 12) (.var 11) (.lit .none))]))))] := rfl
  rw [hbl]
  cases hq : sw.all inP <;> rw [hq] at mv f12 <;> simp (config := { implicitDefEqProofs := false }) [exSs, ev, evs, evi, evc, evo, tyIs, retv, noMut, noMuts, put, puto, wipeE, frzE, inTD, notD, negD, own, lstD, setD, intOf, isD, isNone, List.getElem?_set, -getElem?_pos, f2, f8, f9, f10, f11, f12, tn, mv, sa, sb, sc, na, nb]
end K01
end Ws

set_option Elab.async false
set_option linter.all false
set_option maxRecDepth 100000
set_option maxHeartbeats 400000
namespace Ws
namespace K01
open PySem
theorem sm_spots (ws : List Well) (h : okWs ws) : sm 2 (.tuple (spotsF ws)) = true := by
  have hl := h.len
  have hlen : (spotsF ws).length ≤ 1000 := by
    have := flat_len (f := fun w : Well => (List.range w.2.2.2.2.length).map fun i => PyData.tuple [.str w.1, .int (i : Nat)]) (n := 12) (l := ws) fun w hw => by
      have := (h.ok w hw).2.2.2.2.1
      simpa using this
    unfold spotsF; omega
  show (decide ((spotsF ws).length ≤ 1000) && (spotsF ws).all (sm 1)) = true
  rw [Bool.and_eq_true]
  refine ⟨by simpa using hlen, List.all_eq_true.mpr fun x hx => ?_⟩
  obtain ⟨w, _, hx⟩ := List.mem_flatMap.mp hx
  obtain ⟨i, _, rfl⟩ := List.mem_map.mp hx
  rfl
theorem nm_spots (ws : List Well) : noMuts (spotsF ws) = true := by
  have : ∀ xs : List D, (∀ x ∈ xs, noMut x = true) → noMuts xs = true := fun xs h => by
    have := nms_map (f := fun d => d) h
    rwa [List.map_id'] at this
  refine this _ fun x hx => ?_
  obtain ⟨w, _, hx⟩ := List.mem_flatMap.mp hx
  obtain ⟨i, _, rfl⟩ := List.mem_map.mp hx
  rfl
theorem law_ok (k : Nat) (ns : List Int) : call fs (k + 13) 48 [.list (ns.map .int)] = .ok (.bool true) := by
  obtain ⟨a, b, r, ha, hb, hab, hr, hrl, some_e⟩ := some_stuffs_ok (k + 10) (cell ns 0)
  obtain ⟨xs, hx, num_e⟩ := numbers_ok (k + 10) ns
  have hss : ∀ x ∈ a :: b :: r, x ∈ stuffs := by
    intro x hx
    rcases List.mem_cons.mp hx with rfl | hx
    · exact ha
    · rcases List.mem_cons.mp hx with rfl | hx
      · exact hb
      · exact hr x hx
  have hs0 : 0 < (a :: b :: r).length := by rw [List.length_cons]; omega
  generalize hC : 3 + cell ns 2 % 2 = C
  have hC34 : C = 3 ∨ C = 4 := by omega
  have wells_e := law_wells_ok (k + 9) (a :: b :: r) hs0 xs hx C hC34
  obtain ⟨h, hp, hlow⟩ := lawWells_ok (a :: b :: r) hs0 hss xs hx C hC34
  have hL0 : seqD (encWs true true (lawWells (a :: b :: r) (xs.take C.toNat))) = .ok ((lawWells (a :: b :: r) (xs.take C.toNat)).map (encW true)) := encWs_seq _ _ _
  generalize lawWells (a :: b :: r) (xs.take C.toNat) = ws at *
  generalize hn : cell ns 3 = n
  have c0 : call fs (k + 12) 37 [.list (ns.map .int), .int 0] = .ok (.int (cell ns 0)) := cell_ok (k + 11) ns 0
  have c2 : call fs (k + 12) 37 [.list (ns.map .int), .int 2] = .ok (.int (cell ns 2)) := cell_ok (k + 11) ns 2
  have c3 : call fs (k + 12) 37 [.list (ns.map .int), .int 3] = .ok (.int n) := by rw [← hn]; exact cell_ok (k + 11) ns 3
  have some_e : call fs (k + 12) 40 [.int (cell ns 0)] = .ok (.list ((a :: b :: r).map .str)) := some_e
  have num_e : call fs (k + 12) 38 [.list (ns.map .int), .int 1, .int 4] = .ok (.list (xs.map .int)) := num_e
  have wells_e : call fs (k + 12) 43 [.list (xs.map .int), .list ((a :: b :: r).map .str), .int C, .int 6] = .ok (encWs true true ws) := wells_e
  rw [call_at at_law rfl]
  show (exSs (call fs (k + 12)) b_law _).bnd retv = _
  suffices hh : ∃ ε', exSs (call fs (k + 12)) b_law ([.f (.list (ns.map .int))] ++ List.replicate 33 .u) = .ok (.rt (.bool true), ε') by
    obtain ⟨ε', e⟩ := hh
    show (exSs (call fs (k + 12)) b_law ([.f (.list (ns.map .int))] ++ List.replicate 33 .u)).bnd retv = _
    rw [e]; rfl
  generalize hSS : PyData.list ((a :: b :: r).map .str) = SS at some_e wells_e
  have s01 : ∃ ε, Wa SS (encWs true true ws) (.list (ns.map .int)) ε ∧ ε[3]? = some .u ∧ ∀ R, exSs (call fs (k + 12)) (b_law.drop 2) ε = R → exSs (call fs (k + 12)) b_law ([.f (.list (ns.map .int))] ++ List.replicate 33 .u) = R := by
    refine ⟨(([.f (.list (ns.map .int))] ++ List.replicate 33 .u : Env).set 1 (.f SS)).set 2 (.f (encWs true true ws)), ⟨rfl, rfl, rfl, rfl, rfl, rfl, rfl, rfl, rfl, rfl⟩, rfl, ?_⟩
    rintro R rfl
    unfold b_law
    refine (exSs_nx (ε' := ([.f (.list (ns.map .int))] ++ List.replicate 33 .u : Env).set 1 (.f SS)) ?_).trans (exSs_nx ?_)
    · have l0 : ([.f (.list (ns.map .int))] ++ List.replicate 33 .u : Env)[0]? = some (.f (.list (ns.map .int))) := rfl
      generalize ([.f (.list (ns.map .int))] ++ List.replicate 33 .u : Env) = E at l0
      simp (config := { implicitDefEqProofs := false }) [exSs, ev, evs, evi, evc, evo, tyIs, retv, noMut, noMuts, put, puto, wipeE, frzE, inTD, notD, negD, own, lstD, setD, intOf, isD, isNone, List.getElem?_set, -getElem?_pos, l0, c0, some_e]
    · have l0 : (([.f (.list (ns.map .int))] ++ List.replicate 33 .u : Env).set 1 (.f SS))[0]? = some (.f (.list (ns.map .int))) := rfl
      have l1 : (([.f (.list (ns.map .int))] ++ List.replicate 33 .u : Env).set 1 (.f SS))[1]? = some (.f SS) := rfl
      generalize (([.f (.list (ns.map .int))] ++ List.replicate 33 .u : Env).set 1 (.f SS)) = E at l0 l1
      have nw := nm_wells ws
      simp (config := { implicitDefEqProofs := false }) [exSs, ev, evs, evi, evc, evo, tyIs, retv, noMut, noMuts, put, puto, wipeE, frzE, inTD, notD, negD, own, lstD, setD, intOf, isD, isNone, List.getElem?_set, -getElem?_pos, l0, l1, c2, num_e, m1, qa, hC, wells_e, nw]
  obtain ⟨ε0, w0, e30, c01⟩ := s01
  have hp2 := hp
  have cw : ∀ R, exSs (call fs (k + 12)) (b_law.drop 3) ε0 = R → exSs (call fs (k + 12)) (b_law.drop 2) ε0 = R := by
    rintro R rfl
    refine exSs_nx ?_
    have e2 := w0.e2
    have li : call fs (k + 12) 36 [encWs true true ws] = .ok (encWs false false ws) := listed_wells (k + 7) ws
    have iw : call fs (k + 12) 17 [encWs false false ws] = .ok (.bool true) := by
      have := is_wells_ok (k + 6) false false ws h
      rwa [hp] at this
    have sp : call fs (k + 12) 20 [encWs true true ws] = .ok (.tuple (spotsF ws)) := spots_ok (k + 5) true true ws h hp
    have ls : call fs (k + 12) 44 [encWs true true ws] = .ok (.list (spotsF ws)) := law_spots_ok (k + 11) ws h
    have sa := same12 k 2 (by omega) _ (sm_spots ws h)
    have na := nm_spots ws
    simp (config := { implicitDefEqProofs := false }) [exSs, ev, evs, evi, evc, evo, tyIs, retv, noMut, noMuts, put, puto, wipeE, frzE, inTD, notD, negD, own, lstD, setD, intOf, isD, isNone, List.getElem?_set, -getElem?_pos, e2, li, iw, isn_tt, sp, ls, bt, sa, na]
  obtain ⟨ε1, ⟨w1, e31⟩, x1⟩ := exFor_fold (enc := PyData.str) (step := forStep (call fs (k + 12)) (.nm 3) b_law_f0) (f := fun (m : Nat) (_ : Str) => m + 1) (l := stuffs) (b := 0) (ε := ε0) (I := fun m ε => Wa SS (encWs true true ws) (.list (ns.map .int)) ε ∧ (m = 0 ∨ ∃ d, ε[3]? = some (.f d))) ⟨w0, .inl rfl⟩
    (fun x hx m ε ⟨i1, i2⟩ => ⟨_, ⟨i1.set ⟨by omega, by omega⟩ _, .inr ⟨_, List.getElem?_set_self (by have := i1.len; omega)⟩⟩, f0_step k x hx ε i1.len⟩)
  have e31 : ∃ d, ε1[3]? = some (.f d) := by
    rcases e31 with e | e
    · rw [foldl_len] at e; cases e
    · exact e
  have cf : ∀ R, exSs (call fs (k + 12)) (b_law.drop 4) ε1 = R → exSs (call fs (k + 12)) (b_law.drop 3) ε0 = R := by
    rintro R rfl
    refine exSs_nx ?_
    have t4 : call fs (k + 12) 39 [] = .ok (.list (stuffs.map .str)) := law_stuffs_ok (k + 11)
    have sq2 : ∀ ys : List D, seqD (.list ys) = .ok ys := fun _ => rfl
    simp (config := { implicitDefEqProofs := false }) [exSs, ev, evs, evi, evc, evo, tyIs, retv, noMut, noMuts, put, puto, wipeE, frzE, inTD, notD, negD, own, lstD, setD, intOf, isD, isNone, List.getElem?_set, -getElem?_pos, t4, sq2, x1]
  have w5 : words5.map PyData.str = [.str (t "hard"), .str (t "soft"), .str (t "lets"), .str (t "holds"), .str (t "burns")] := rfl
  obtain ⟨ss, hsw, c46⟩ : ∃ ss : List Str, call fs (k + 11) 11 [.list (ss.map .str)] = .ok (.bool true) ∧ ∀ R, exSs (call fs (k + 12)) (b_law.drop 7) (((ε1.set 4 (.o (.list (words5.map .str)))).set 5 (.f (.int n))).set 6 (.o (.list (ss.map .str)))) = R → exSs (call fs (k + 12)) (b_law.drop 4) ε1 = R := by
    have h5 : ∀ a : Int, 0 ≤ a % 5 ∧ a % 5 < 5 := fun a => by omega
    have hne : wd (n % 5) ≠ wd ((n + 1 + n / 5 % 4) % 5) := fun e => by
      have := wd_inj _ _ (h5 _).1 (h5 _).2 (h5 _).1 (h5 _).2 e
      omega
    have e0 := w1.e0
    have l4 := eq_true (show 4 < ε1.length by have := w1.len; omega)
    have l5 := eq_true (show 5 < ε1.length by have := w1.len; omega)
    have b1 : ∀ i, biD .int [.int i] = .ok (.int i) := fun _ => rfl
    have i5 : ∀ i, idxD (.list [.str (t "hard"), .str (t "soft"), .str (t "lets"), .str (t "holds"), .str (t "burns")]) (.int (i % 5)) = .ok (.str (wd (i % 5))) := fun i => idx5 _ (h5 i).1 (h5 i).2
    have bl : ∀ a b : Str, cutD [PyData.str a, .str b] none (some 1) = [.str a] := fun _ _ => rfl
    have bm : ∀ a b : Str, cutD [PyData.str a, .str b] none (some 2) = [.str a, .str b] := fun _ _ => rfl
    have c : n / 20 % 2 = 0 ∨ n / 20 % 2 = 1 := by omega
    rcases c with c | c
    · refine ⟨[wd (n % 5)], words1 (k + 8) (wd_mem _ (h5 _).1 (h5 _).2), ?_⟩
      rintro R rfl
      refine (exSs_nx (ε' := ε1.set 4 (.o (.list (words5.map .str)))) ?_).trans ((exSs_nx (ε' := (ε1.set 4 (.o (.list (words5.map .str)))).set 5 (.f (.int n))) ?_).trans (exSs_nx ?_))
      · simp (config := { implicitDefEqProofs := false }) [exSs, ev, evs, evi, evc, evo, tyIs, retv, noMut, noMuts, put, puto, wipeE, frzE, inTD, notD, negD, own, lstD, setD, intOf, isD, isNone, List.getElem?_set, -getElem?_pos, w5]
      · simp (config := { implicitDefEqProofs := false }) [exSs, ev, evs, evi, evc, evo, tyIs, retv, noMut, noMuts, put, puto, wipeE, frzE, inTD, notD, negD, own, lstD, setD, intOf, isD, isNone, List.getElem?_set, -getElem?_pos, e0, c3]
      · rw [w5]
        simp (config := { implicitDefEqProofs := false }) [exSs, ev, evs, evi, evc, evo, tyIs, retv, noMut, noMuts, put, puto, wipeE, frzE, inTD, notD, negD, own, lstD, setD, intOf, isD, isNone, List.getElem?_set, -getElem?_pos, l4, l5, m1, d1, qa, b1, i5, c, sliD, bl]
    · refine ⟨[wd (n % 5), wd ((n + 1 + n / 5 % 4) % 5)], words2 (k + 8) (wd_mem _ (h5 _).1 (h5 _).2) (wd_mem _ (h5 _).1 (h5 _).2) hne, ?_⟩
      rintro R rfl
      refine (exSs_nx (ε' := ε1.set 4 (.o (.list (words5.map .str)))) ?_).trans ((exSs_nx (ε' := (ε1.set 4 (.o (.list (words5.map .str)))).set 5 (.f (.int n))) ?_).trans (exSs_nx ?_))
      · simp (config := { implicitDefEqProofs := false }) [exSs, ev, evs, evi, evc, evo, tyIs, retv, noMut, noMuts, put, puto, wipeE, frzE, inTD, notD, negD, own, lstD, setD, intOf, isD, isNone, List.getElem?_set, -getElem?_pos, w5]
      · simp (config := { implicitDefEqProofs := false }) [exSs, ev, evs, evi, evc, evo, tyIs, retv, noMut, noMuts, put, puto, wipeE, frzE, inTD, notD, negD, own, lstD, setD, intOf, isD, isNone, List.getElem?_set, -getElem?_pos, e0, c3]
      · rw [w5]
        simp (config := { implicitDefEqProofs := false }) [exSs, ev, evs, evi, evc, evo, tyIs, retv, noMut, noMuts, put, puto, wipeE, frzE, inTD, notD, negD, own, lstD, setD, intOf, isD, isNone, List.getElem?_set, -getElem?_pos, l4, l5, m1, d1, qa, b1, i5, c, sliD, bm]
  have e32 : ∃ d, (((ε1.set 4 (.o (.list (words5.map .str)))).set 5 (.f (.int n))).set 6 (.o (.list (ss.map .str))))[3]? = some (.f d) := by
    rw [List.getElem?_set_ne (by omega), List.getElem?_set_ne (by omega), List.getElem?_set_ne (by omega)]
    exact e31
  have e5 : (((ε1.set 4 (.o (.list (words5.map .str)))).set 5 (.f (.int n))).set 6 (.o (.list (ss.map .str))))[5]? = some (.f (.int n)) := by
    rw [List.getElem?_set_ne (by omega), List.getElem?_set_self (by rw [List.length_set]; have := w1.len; omega)]
  have e6 : (((ε1.set 4 (.o (.list (words5.map .str)))).set 5 (.f (.int n))).set 6 (.o (.list (ss.map .str))))[6]? = some (.o (.list (ss.map .str))) := by
    rw [List.getElem?_set_self (by rw [List.length_set, List.length_set]; have := w1.len; omega)]
  have w2 : Wa SS (encWs true true ws) (.list (ns.map .int)) (((ε1.set 4 (.o (.list (words5.map .str)))).set 5 (.f (.int n))).set 6 (.o (.list (ss.map .str)))) := ((w1.set ⟨by omega, by omega⟩ _).set ⟨by omega, by omega⟩ _).set ⟨by omega, by omega⟩ _
  generalize ((ε1.set 4 (.o (.list (words5.map .str)))).set 5 (.f (.int n))).set 6 (.o (.list (ss.map .str))) = ε2 at *
  have c7 : ∀ R, exSs (call fs (k + 12)) (b_law.drop 8) ε2 = R → exSs (call fs (k + 12)) (b_law.drop 7) ε2 = R := by
    rintro R rfl
    exact exSs_nx (ask_stuffs k ss ε2 w2.len e6 hsw)
  have wi : Wi SS (encWs true true ws) n ε2 := ⟨w2.len, w2.e1, w2.e2, e32, e5, w2.e9, fun d => by rw [w2.e13]; exact fun h => (by cases h), w2.e24, w2.e25, w2.e26, w2.e27⟩
  obtain ⟨ε3, w3, x3⟩ := exFor_all (enc := encW true) (step := forStep (call fs (k + 12)) (.nm 7) b_law_f4) (l := ws) (ε := ε2) (I := Wi SS (encWs true true ws) n) wi
    (fun w hw ε i => f4_step k SS n ws w ε i h hp hw)
  have c8 : ∀ R, exSs (call fs (k + 12)) (b_law.drop 9) ε3 = R → exSs (call fs (k + 12)) (b_law.drop 8) ε2 = R := by
    rintro R rfl
    refine exSs_nx ?_
    have e2 := wi.e2
    simp (config := { implicitDefEqProofs := false }) [exSs, ev, evs, evi, evc, evo, tyIs, retv, noMut, noMuts, put, puto, wipeE, frzE, inTD, notD, negD, own, lstD, setD, intOf, isD, isNone, List.getElem?_set, -getElem?_pos, e2, encWs_seq, x3]
  rw [← hSS] at w3
  obtain ⟨ε4, fin⟩ := law_tail k a b r ha hb hab n ws h hp (fun w hw => ⟨(hlow w hw).1, (hlow w hw).2.1⟩) ε3 w3
  exact ⟨ε4, c01 _ (cw _ (cf _ (c46 _ (c7 _ (c8 _ fin)))))⟩
end K01
end Ws

set_option Elab.async false
set_option linter.all false
set_option maxRecDepth 100000
set_option maxHeartbeats 0
namespace Hd
open PySem PySem.Spec PyProof.Rows L2 Ws
abbrev Pg : Program := PySem.Challenge.pw_wellstell_k01_logs_between_two_numbers
def top (i : Nat) : Stmt := Pg.main.body.getD i (.Pass ⟨0, 0, 0, 0⟩)
def r0 : DRow := ⟨"need", top 5, [("good" : PySem.Str), ("at" : PySem.Str)], [("good" : PySem.Str), ("at" : PySem.Str)], Ws.K01.b_need⟩
def r1 : DRow := ⟨"is_integer", top 6, [("value" : PySem.Str)], [("value" : PySem.Str)], Ws.K01.b_is_integer⟩
def r2 : DRow := ⟨"is_between", top 7, [("value" : PySem.Str), ("low" : PySem.Str), ("high" : PySem.Str)], [("value" : PySem.Str), ("low" : PySem.Str), ("high" : PySem.Str)], Ws.K01.b_is_between⟩
def r3 : DRow := ⟨"is_sequence", top 8, [("value" : PySem.Str)], [("value" : PySem.Str)], Ws.K01.b_is_sequence⟩
def r4 : DRow := ⟨"is_row", top 9, [("value" : PySem.Str), ("low" : PySem.Str), ("high" : PySem.Str)], [("value" : PySem.Str), ("low" : PySem.Str), ("high" : PySem.Str)], Ws.K01.b_is_row⟩
def r5 : DRow := ⟨"is_name", top 10, [("value" : PySem.Str), ("sign" : PySem.Str)], [("value" : PySem.Str)], Ws.K01.b_is_name⟩
def r6 : DRow := ⟨"tupled", top 11, [("value" : PySem.Str), ("member" : PySem.Str)], [("value" : PySem.Str)], Ws.K01.b_tupled⟩
def r7 : DRow := ⟨"rank", top 12, [("value" : PySem.Str), ("member" : PySem.Str)], [("value" : PySem.Str)], Ws.K01.b_rank⟩
def r8 : DRow := ⟨"is_ascending", top 13, [("rows" : PySem.Str), ("keys" : PySem.Str), ("row" : PySem.Str), ("k" : PySem.Str)], [("rows" : PySem.Str)], Ws.K01.b_is_ascending⟩
def r9 : DRow := ⟨"is_stuff", top 23, [("value" : PySem.Str)], [("value" : PySem.Str)], Ws.K01.b_is_stuff⟩
def r10 : DRow := ⟨"traits", top 24, [("stuff" : PySem.Str)], [("stuff" : PySem.Str)], Ws.K01.b_traits⟩
def r11 : DRow := ⟨"is_words", top 25, [("value" : PySem.Str), ("k" : PySem.Str), ("word" : PySem.Str)], [("value" : PySem.Str)], Ws.K01.b_is_words⟩
def r12 : DRow := ⟨"stuffs_with", top 26, [("words" : PySem.Str), ("stuff" : PySem.Str), ("word" : PySem.Str)], [("words" : PySem.Str)], Ws.K01.b_stuffs_with⟩
def r13 : DRow := ⟨"is_bed", top 27, [("value" : PySem.Str)], [("value" : PySem.Str)], Ws.K01.b_is_bed⟩
def r14 : DRow := ⟨"is_log", top 28, [("value" : PySem.Str), ("row" : PySem.Str)], [("value" : PySem.Str)], Ws.K01.b_is_log⟩
def r15 : DRow := ⟨"is_place", top 29, [("x" : PySem.Str), ("y" : PySem.Str)], [("x" : PySem.Str), ("y" : PySem.Str)], Ws.K01.b_is_place⟩
def r16 : DRow := ⟨"is_well", top 30, [("value" : PySem.Str)], [("value" : PySem.Str)], Ws.K01.b_is_well⟩
def r17 : DRow := ⟨"is_wells", top 31, [("value" : PySem.Str), ("names" : PySem.Str), ("places" : PySem.Str), ("well" : PySem.Str)], [("value" : PySem.Str)], Ws.K01.b_is_wells⟩
def r18 : DRow := ⟨"well_named", top 32, [("wells" : PySem.Str), ("name" : PySem.Str), ("well" : PySem.Str)], [("wells" : PySem.Str), ("name" : PySem.Str)], Ws.K01.b_well_named⟩
def r19 : DRow := ⟨"is_spot", top 33, [("wells" : PySem.Str), ("value" : PySem.Str), ("well" : PySem.Str)], [("wells" : PySem.Str), ("value" : PySem.Str)], Ws.K01.b_is_spot⟩
def r20 : DRow := ⟨"spots", top 34, [("wells" : PySem.Str), ("well" : PySem.Str), ("k" : PySem.Str)], [("wells" : PySem.Str)], Ws.K01.b_spots⟩
def r21 : DRow := ⟨"bed", top 35, [("wells" : PySem.Str), ("spot" : PySem.Str)], [("wells" : PySem.Str), ("spot" : PySem.Str)], Ws.K01.b_bed⟩
def r22 : DRow := ⟨"thick", top 36, [("log" : PySem.Str), ("first" : PySem.Str), ("last" : PySem.Str), ("rows" : PySem.Str), ("row" : PySem.Str)], [("log" : PySem.Str), ("first" : PySem.Str), ("last" : PySem.Str)], Ws.K01.b_thick⟩
def r23 : DRow := ⟨"depth", top 37, [("log" : PySem.Str), ("k" : PySem.Str)], [("log" : PySem.Str), ("k" : PySem.Str)], Ws.K01.b_depth⟩
def r24 : DRow := ⟨"height", top 38, [("well" : PySem.Str), ("k" : PySem.Str), ("least" : PySem.Str), ("most" : PySem.Str)], [("well" : PySem.Str), ("k" : PySem.Str)], Ws.K01.b_height⟩
def r25 : DRow := ⟨"may", top 39, [("log" : PySem.Str), ("d" : PySem.Str), ("k" : PySem.Str)], [("log" : PySem.Str), ("d" : PySem.Str)], Ws.K01.b_may⟩
def r26 : DRow := ⟨"must", top 40, [("log" : PySem.Str), ("d" : PySem.Str), ("k" : PySem.Str)], [("log" : PySem.Str), ("d" : PySem.Str)], Ws.K01.b_must⟩
def r27 : DRow := ⟨"runs_out", top 41, [("log" : PySem.Str)], [("log" : PySem.Str)], Ws.K01.b_runs_out⟩
def r28 : DRow := ⟨"plain", top 42, [("log" : PySem.Str), ("told" : PySem.Str), ("stuff" : PySem.Str), ("least" : PySem.Str), ("most" : PySem.Str), ("low" : PySem.Str), ("high" : PySem.Str)], [("log" : PySem.Str)], Ws.K01.b_plain⟩
def r29 : DRow := ⟨"moved", top 43, [("wells" : PySem.Str), ("x" : PySem.Str), ("y" : PySem.Str), ("up" : PySem.Str), ("told" : PySem.Str), ("name" : PySem.Str), ("east" : PySem.Str), ("north" : PySem.Str), ("top" : PySem.Str), ("log" : PySem.Str)], [("wells" : PySem.Str), ("x" : PySem.Str), ("y" : PySem.Str), ("up" : PySem.Str)], Ws.K01.b_moved⟩
def r30 : DRow := ⟨"turned", top 44, [("wells" : PySem.Str), ("name" : PySem.Str), ("x" : PySem.Str), ("y" : PySem.Str), ("top" : PySem.Str), ("log" : PySem.Str)], [("wells" : PySem.Str)], Ws.K01.b_turned⟩
def r31 : DRow := ⟨"looser", top 45, [("log" : PySem.Str), ("more" : PySem.Str), ("stuff" : PySem.Str), ("least" : PySem.Str), ("most" : PySem.Str)], [("log" : PySem.Str), ("more" : PySem.Str)], Ws.K01.b_looser⟩
def r32 : DRow := ⟨"apart_squared", top 46, [("well" : PySem.Str), ("other" : PySem.Str)], [("well" : PySem.Str), ("other" : PySem.Str)], Ws.K01.b_apart_squared⟩
def r33 : DRow := ⟨"nearest", top 47, [("wells" : PySem.Str), ("name" : PySem.Str), ("well" : PySem.Str), ("rows" : PySem.Str), ("other" : PySem.Str), ("row" : PySem.Str)], [("wells" : PySem.Str), ("name" : PySem.Str)], Ws.K01.b_nearest⟩
def r34 : DRow := ⟨"square", top 48, [("wells" : PySem.Str), ("name" : PySem.Str), ("other" : PySem.Str)], [("wells" : PySem.Str), ("name" : PySem.Str), ("other" : PySem.Str)], Ws.K01.b_square⟩
def r35 : DRow := ⟨"_law_same", top 50, [("one" : PySem.Str), ("other" : PySem.Str), ("kin" : PySem.Str), ("k" : PySem.Str)], [("one" : PySem.Str), ("other" : PySem.Str)], Ws.K01.b__law_same⟩
def r36 : DRow := ⟨"_law_listed", top 51, [("value" : PySem.Str), ("member" : PySem.Str)], [("value" : PySem.Str)], Ws.K01.b__law_listed⟩
def r37 : DRow := ⟨"_law_cell", top 52, [("script" : PySem.Str), ("place" : PySem.Str)], [("script" : PySem.Str), ("place" : PySem.Str)], Ws.K01.b__law_cell⟩
def r38 : DRow := ⟨"_law_numbers", top 53, [("script" : PySem.Str), ("place" : PySem.Str), ("size" : PySem.Str), ("cell" : PySem.Str), ("numbers" : PySem.Str), ("rest" : PySem.Str), ("k" : PySem.Str), ("twice" : PySem.Str)], [("script" : PySem.Str), ("place" : PySem.Str), ("size" : PySem.Str)], Ws.K01.b__law_numbers⟩
def r39 : DRow := ⟨"_law_stuffs", top 54, [], [], Ws.K01.b__law_stuffs⟩
def r40 : DRow := ⟨"_law_some_stuffs", top 55, [("number" : PySem.Str), ("pool" : PySem.Str), ("first" : PySem.Str)], [("number" : PySem.Str)], Ws.K01.b__law_some_stuffs⟩
def r41 : DRow := ⟨"_law_bed", top 56, [("number" : PySem.Str), ("stuffs" : PySem.Str), ("n" : PySem.Str), ("least" : PySem.Str)], [("number" : PySem.Str), ("stuffs" : PySem.Str)], Ws.K01.b__law_bed⟩
def r42 : DRow := ⟨"_law_log", top 57, [("number" : PySem.Str), ("stuffs" : PySem.Str), ("most" : PySem.Str), ("n" : PySem.Str), ("beds" : PySem.Str), ("k" : PySem.Str)], [("number" : PySem.Str), ("stuffs" : PySem.Str), ("most" : PySem.Str)], Ws.K01.b__law_log⟩
def r43 : DRow := ⟨"_law_wells", top 58, [("numbers" : PySem.Str), ("stuffs" : PySem.Str), ("size" : PySem.Str), ("most" : PySem.Str), ("titles" : PySem.Str), ("wells" : PySem.Str), ("k" : PySem.Str), ("n" : PySem.Str)], [("numbers" : PySem.Str), ("stuffs" : PySem.Str), ("size" : PySem.Str), ("most" : PySem.Str)], Ws.K01.b__law_wells⟩
def r44 : DRow := ⟨"_law_spots", top 59, [("wells" : PySem.Str), ("found" : PySem.Str), ("well" : PySem.Str), ("k" : PySem.Str)], [("wells" : PySem.Str)], Ws.K01.b__law_spots⟩
def r45 : DRow := ⟨"_law_traits", top 60, [], [], Ws.K01.b__law_traits⟩
def r46 : DRow := ⟨"_law_thick", top 61, [("log" : PySem.Str), ("first" : PySem.Str), ("last" : PySem.Str), ("one" : PySem.Str)], [("log" : PySem.Str), ("first" : PySem.Str), ("last" : PySem.Str)], Ws.K01.b__law_thick⟩
def r47 : DRow := ⟨"_law_plain", top 62, [("log" : PySem.Str), ("beds" : PySem.Str), ("stuff" : PySem.Str), ("least" : PySem.Str), ("most" : PySem.Str)], [("log" : PySem.Str)], Ws.K01.b__law_plain⟩
def r48 : DRow := ⟨"law", top 63, [("script" : PySem.Str), ("stuffs" : PySem.Str), ("wells" : PySem.Str), ("stuff" : PySem.Str), ("words" : PySem.Str), ("n" : PySem.Str), ("some" : PySem.Str), ("well" : PySem.Str), ("due" : PySem.Str), ("x" : PySem.Str), ("y" : PySem.Str), ("shifted" : PySem.Str), ("fine" : PySem.Str), ("log" : PySem.Str), ("wide" : PySem.Str), ("first" : PySem.Str), ("end" : PySem.Str), ("d" : PySem.Str), ("far" : PySem.Str), ("last" : PySem.Str), ("here" : PySem.Str), ("sure" : PySem.Str), ("low" : PySem.Str), ("high" : PySem.Str), ("one" : PySem.Str), ("k" : PySem.Str), ("name" : PySem.Str), ("top" : PySem.Str), ("a" : PySem.Str), ("b" : PySem.Str), ("least" : PySem.Str), ("most" : PySem.Str), ("word" : PySem.Str), ("size" : PySem.Str)], [("script" : PySem.Str)], Ws.K01.b_law⟩
def rows : List DRow := [r0, r1, r2, r3, r4, r5, r6, r7, r8, r9, r10, r11, r12, r13, r14, r15, r16, r17, r18, r19, r20, r21, r22, r23, r24, r25, r26, r27, r28, r29, r30, r31, r32, r33, r34, r35, r36, r37, r38, r39, r40, r41, r42, r43, r44, r45, r46, r47, r48]
def c0 : Cfg := ⟨[], [("need" : PySem.Str), ("is_integer" : PySem.Str), ("is_between" : PySem.Str), ("is_sequence" : PySem.Str), ("is_row" : PySem.Str), ("is_name" : PySem.Str), ("tupled" : PySem.Str), ("rank" : PySem.Str), ("is_ascending" : PySem.Str), ("is_stuff" : PySem.Str), ("traits" : PySem.Str), ("is_words" : PySem.Str), ("stuffs_with" : PySem.Str), ("is_bed" : PySem.Str), ("is_log" : PySem.Str), ("is_place" : PySem.Str), ("is_well" : PySem.Str), ("is_wells" : PySem.Str), ("well_named" : PySem.Str), ("is_spot" : PySem.Str), ("spots" : PySem.Str), ("bed" : PySem.Str), ("thick" : PySem.Str), ("depth" : PySem.Str), ("height" : PySem.Str), ("may" : PySem.Str), ("must" : PySem.Str), ("runs_out" : PySem.Str), ("plain" : PySem.Str), ("moved" : PySem.Str), ("turned" : PySem.Str), ("looser" : PySem.Str), ("apart_squared" : PySem.Str), ("nearest" : PySem.Str), ("square" : PySem.Str), ("_law_same" : PySem.Str), ("_law_listed" : PySem.Str), ("_law_cell" : PySem.Str), ("_law_numbers" : PySem.Str), ("_law_stuffs" : PySem.Str), ("_law_some_stuffs" : PySem.Str), ("_law_bed" : PySem.Str), ("_law_log" : PySem.Str), ("_law_wells" : PySem.Str), ("_law_spots" : PySem.Str), ("_law_traits" : PySem.Str), ("_law_thick" : PySem.Str), ("_law_plain" : PySem.Str), ("law" : PySem.Str)], [(("LETTERS" : PySem.Str), (.str "abcdefghijklmnopqrstuvwxyz")), (("STUFFS" : PySem.Str), (.tuple [(.str "ash"), (.str "chalk"), (.str "clay"), (.str "coal"), (.str "gravel"), (.str "lime"), (.str "loam"), (.str "marl"), (.str "rock"), (.str "salt"), (.str "sand"), (.str "shale")])), (("WORDS" : PySem.Str), (.tuple [(.str "burns"), (.str "hard"), (.str "holds"), (.str "lets"), (.str "marks"), (.str "melts"), (.str "soft")])), (("THICKEST" : PySem.Str), (.int (99))), (("SIDE" : PySem.Str), (.int (60))), (("MOST_BEDS" : PySem.Str), (.int (12))), (("MOST_WELLS" : PySem.Str), (.int (8))), (("DEEPEST" : PySem.Str), (.int (1200)))], [("all" : PySem.Str), ("bool" : PySem.Str), ("int" : PySem.Str), ("isinstance" : PySem.Str), ("len" : PySem.Str), ("list" : PySem.Str), ("max" : PySem.Str), ("min" : PySem.Str), ("range" : PySem.Str), ("set" : PySem.Str), ("sorted" : PySem.Str), ("str" : PySem.Str), ("sum" : PySem.Str), ("tuple" : PySem.Str)], [("need" : PySem.Str), ("is_integer" : PySem.Str), ("is_between" : PySem.Str), ("is_sequence" : PySem.Str), ("is_row" : PySem.Str), ("is_name" : PySem.Str), ("tupled" : PySem.Str), ("rank" : PySem.Str), ("is_ascending" : PySem.Str), ("is_stuff" : PySem.Str), ("traits" : PySem.Str), ("is_words" : PySem.Str), ("stuffs_with" : PySem.Str), ("is_bed" : PySem.Str), ("is_log" : PySem.Str), ("is_place" : PySem.Str), ("is_well" : PySem.Str), ("is_wells" : PySem.Str), ("is_spot" : PySem.Str), ("spots" : PySem.Str), ("bed" : PySem.Str), ("thick" : PySem.Str), ("depth" : PySem.Str), ("height" : PySem.Str), ("may" : PySem.Str), ("must" : PySem.Str), ("runs_out" : PySem.Str), ("plain" : PySem.Str), ("moved" : PySem.Str), ("turned" : PySem.Str), ("looser" : PySem.Str), ("apart_squared" : PySem.Str), ("nearest" : PySem.Str), ("square" : PySem.Str), ("_law_same" : PySem.Str), ("_law_cell" : PySem.Str), ("_law_bed" : PySem.Str), ("_law_log" : PySem.Str), ("_law_wells" : PySem.Str), ("_law_thick" : PySem.Str), ("_law_plain" : PySem.Str)], false, [(("TRAITS" : PySem.Str), [(("ash" : PySem.Str), (.tuple [(.str "holds"), (.str "marks"), (.str "soft")])), (("chalk" : PySem.Str), (.tuple [(.str "hard"), (.str "lets")])), (("clay" : PySem.Str), (.tuple [(.str "holds"), (.str "soft")])), (("coal" : PySem.Str), (.tuple [(.str "burns"), (.str "lets"), (.str "soft")])), (("gravel" : PySem.Str), (.tuple [(.str "lets"), (.str "soft")])), (("lime" : PySem.Str), (.tuple [(.str "hard"), (.str "lets")])), (("loam" : PySem.Str), (.tuple [(.str "lets"), (.str "soft")])), (("marl" : PySem.Str), (.tuple [(.str "holds"), (.str "soft")])), (("rock" : PySem.Str), (.tuple [(.str "hard"), (.str "holds")])), (("salt" : PySem.Str), (.tuple [(.str "holds"), (.str "melts"), (.str "soft")])), (("sand" : PySem.Str), (.tuple [(.str "lets"), (.str "soft")])), (("shale" : PySem.Str), (.tuple [(.str "hard"), (.str "holds")]))])]⟩
def fa : List He.Fa := ([.glo "need", .glo "is_integer", .glo "is_between", .glo "is_sequence", .glo "is_row", .glo "is_name", .glo "tupled", .glo "rank", .glo "is_ascending", .glo "is_stuff", .glo "traits", .glo "is_words", .glo "stuffs_with", .glo "is_bed", .glo "is_log", .glo "is_place", .glo "is_well", .glo "is_wells", .glo "well_named", .glo "is_spot", .glo "spots", .glo "bed", .glo "thick", .glo "depth", .glo "height", .glo "may", .glo "must", .glo "runs_out", .glo "plain", .glo "moved"] : List He.Fa) ++ ([.glo "turned", .glo "looser", .glo "apart_squared", .glo "nearest", .glo "square", .glo "_law_same", .glo "_law_listed", .glo "_law_cell", .glo "_law_numbers", .glo "_law_stuffs", .glo "_law_some_stuffs", .glo "_law_bed", .glo "_law_log", .glo "_law_wells", .glo "_law_spots", .glo "_law_traits", .glo "_law_thick", .glo "_law_plain", .glo "law", .glo "TRAITS", .free "Exception", .free "all", .free "bool", .free "int", .free "isinstance", .free "len", .free "list", .free "max", .free "min", .free "range"] : List He.Fa) ++ ([.free "set", .free "sorted", .free "str", .free "sum", .free "tuple"] : List He.Fa)
def loose : List PySem.Str := (["WellError", "BadValue", "LETTERS", "need", "is_integer", "is_between", "is_sequence", "is_row", "is_name", "tupled", "rank", "is_ascending", "TRAITS", "STUFFS", "WORDS", "THICKEST", "SIDE", "MOST_BEDS", "MOST_WELLS", "DEEPEST", "is_stuff", "traits", "is_words", "stuffs_with", "is_bed", "is_log", "is_place", "is_well", "is_wells", "well_named"] : List PySem.Str) ++ (["is_spot", "spots", "bed", "thick", "depth", "height", "may", "must", "runs_out", "plain", "moved", "turned", "looser", "apart_squared", "nearest", "square", "_law_same", "_law_listed", "_law_cell", "_law_numbers", "_law_stuffs", "_law_some_stuffs", "_law_bed", "_law_log", "_law_wells", "_law_spots", "_law_traits", "_law_thick", "_law_plain"] : List PySem.Str)
abbrev R : PySem.W.OpenRow := PySem.W.OpenLaw.row PySem.Challenge.rw_wellstell_k01_logs_between_two_numbers
def tb : List He.Tab := [(fun K => He.ga K "TRAITS", [("ash" : PySem.Str), ("chalk" : PySem.Str), ("clay" : PySem.Str), ("coal" : PySem.Str), ("gravel" : PySem.Str), ("lime" : PySem.Str), ("loam" : PySem.Str), ("marl" : PySem.Str), ("rock" : PySem.Str), ("salt" : PySem.Str), ("sand" : PySem.Str), ("shale" : PySem.Str)])]
def ex (K : PySem.W.Frag) : Bool := csB K c0.cs && tabB K "TRAITS" [(("ash" : PySem.Str), (.tuple [(.str "holds"), (.str "marks"), (.str "soft")])), (("chalk" : PySem.Str), (.tuple [(.str "hard"), (.str "lets")])), (("clay" : PySem.Str), (.tuple [(.str "holds"), (.str "soft")])), (("coal" : PySem.Str), (.tuple [(.str "burns"), (.str "lets"), (.str "soft")])), (("gravel" : PySem.Str), (.tuple [(.str "lets"), (.str "soft")])), (("lime" : PySem.Str), (.tuple [(.str "hard"), (.str "lets")])), (("loam" : PySem.Str), (.tuple [(.str "lets"), (.str "soft")])), (("marl" : PySem.Str), (.tuple [(.str "holds"), (.str "soft")])), (("rock" : PySem.Str), (.tuple [(.str "hard"), (.str "holds")])), (("salt" : PySem.Str), (.tuple [(.str "holds"), (.str "melts"), (.str "soft")])), (("sand" : PySem.Str), (.tuple [(.str "lets"), (.str "soft")])), (("shale" : PySem.Str), (.tuple [(.str "hard"), (.str "holds")]))]
abbrev hk : PySem.W.Hook := He.hookX 4 fa (rows.map DRow.dd) tb [] ex
def ob (s : PySem.W.SharedT) : He.AlX := He.obsX 4 fa (rows.map DRow.dd) tb [] ex (HandSHeadRun.getT s)
theorem ob_eq (s : PySem.W.SharedT) : ob s = hk.obs s.abs := He.obsX_eq (HandSHeadRun.getT_eq s)
theorem run (w : World) : HandSHeadRun.RunEq R (PySem.W.view R.prog [63]) hk ob 4000 loose w := by
  refine PySem.W.byRow2 "special-get-raises" (P := fun w => HandSHeadRun.RunEq R (PySem.W.view R.prog [63]) hk ob 4000 loose w) (fun w => ?_) (fun w => ?_) w
  · intro os
    kernel_rfl
  · intro os
    kernel_rfl
theorem ok0 : DRowOk c0 r0 := ⟨⟨rfl, rfl, rfl, by decide +kernel, rfl, by decide +kernel, by decide +kernel⟩, fun _ _ _ _ _ _ us hl => match us, hl with | [_, _], _ => rfl, by kernel_rfl⟩
theorem ok1 : DRowOk c0 r1 := ⟨⟨rfl, rfl, rfl, by decide +kernel, rfl, by decide +kernel, by decide +kernel⟩, fun _ _ _ _ _ _ us hl => match us, hl with | [_], _ => rfl, by kernel_rfl⟩
theorem ok2 : DRowOk c0 r2 := ⟨⟨rfl, rfl, rfl, by decide +kernel, rfl, by decide +kernel, by decide +kernel⟩, fun _ _ _ _ _ _ us hl => match us, hl with | [_, _, _], _ => rfl, by kernel_rfl⟩
theorem ok3 : DRowOk c0 r3 := ⟨⟨rfl, rfl, rfl, by decide +kernel, rfl, by decide +kernel, by decide +kernel⟩, fun _ _ _ _ _ _ us hl => match us, hl with | [_], _ => rfl, by kernel_rfl⟩
theorem ok4 : DRowOk c0 r4 := ⟨⟨rfl, rfl, rfl, by decide +kernel, rfl, by decide +kernel, by decide +kernel⟩, fun _ _ _ _ _ _ us hl => match us, hl with | [_, _, _], _ => rfl, by kernel_rfl⟩
theorem ok5 : DRowOk c0 r5 := ⟨⟨rfl, rfl, rfl, by decide +kernel, rfl, by decide +kernel, by decide +kernel⟩, fun _ _ _ _ _ _ us hl => match us, hl with | [_], _ => rfl, by kernel_rfl⟩
theorem ok6 : DRowOk c0 r6 := ⟨⟨rfl, rfl, rfl, by decide +kernel, rfl, by decide +kernel, by decide +kernel⟩, fun _ _ _ _ _ _ us hl => match us, hl with | [_], _ => rfl, by kernel_rfl⟩
theorem ok7 : DRowOk c0 r7 := ⟨⟨rfl, rfl, rfl, by decide +kernel, rfl, by decide +kernel, by decide +kernel⟩, fun _ _ _ _ _ _ us hl => match us, hl with | [_], _ => rfl, by kernel_rfl⟩
theorem ok8 : DRowOk c0 r8 := ⟨⟨rfl, rfl, rfl, by decide +kernel, rfl, by decide +kernel, by decide +kernel⟩, fun _ _ _ _ _ _ us hl => match us, hl with | [_], _ => rfl, by kernel_rfl⟩
theorem ok9 : DRowOk c0 r9 := ⟨⟨rfl, rfl, rfl, by decide +kernel, rfl, by decide +kernel, by decide +kernel⟩, fun _ _ _ _ _ _ us hl => match us, hl with | [_], _ => rfl, by kernel_rfl⟩
theorem ok10 : DRowOk c0 r10 := ⟨⟨rfl, rfl, rfl, by decide +kernel, rfl, by decide +kernel, by decide +kernel⟩, fun _ _ _ _ _ _ us hl => match us, hl with | [_], _ => rfl, by kernel_rfl⟩
theorem ok11 : DRowOk c0 r11 := ⟨⟨rfl, rfl, rfl, by decide +kernel, rfl, by decide +kernel, by decide +kernel⟩, fun _ _ _ _ _ _ us hl => match us, hl with | [_], _ => rfl, by kernel_rfl⟩
theorem ok12 : DRowOk c0 r12 := ⟨⟨rfl, rfl, rfl, by decide +kernel, rfl, by decide +kernel, by decide +kernel⟩, fun _ _ _ _ _ _ us hl => match us, hl with | [_], _ => rfl, by kernel_rfl⟩
theorem ok13 : DRowOk c0 r13 := ⟨⟨rfl, rfl, rfl, by decide +kernel, rfl, by decide +kernel, by decide +kernel⟩, fun _ _ _ _ _ _ us hl => match us, hl with | [_], _ => rfl, by kernel_rfl⟩
theorem ok14 : DRowOk c0 r14 := ⟨⟨rfl, rfl, rfl, by decide +kernel, rfl, by decide +kernel, by decide +kernel⟩, fun _ _ _ _ _ _ us hl => match us, hl with | [_], _ => rfl, by kernel_rfl⟩
theorem ok15 : DRowOk c0 r15 := ⟨⟨rfl, rfl, rfl, by decide +kernel, rfl, by decide +kernel, by decide +kernel⟩, fun _ _ _ _ _ _ us hl => match us, hl with | [_, _], _ => rfl, by kernel_rfl⟩
theorem ok16 : DRowOk c0 r16 := ⟨⟨rfl, rfl, rfl, by decide +kernel, rfl, by decide +kernel, by decide +kernel⟩, fun _ _ _ _ _ _ us hl => match us, hl with | [_], _ => rfl, by kernel_rfl⟩
theorem ok17 : DRowOk c0 r17 := ⟨⟨rfl, rfl, rfl, by decide +kernel, rfl, by decide +kernel, by decide +kernel⟩, fun _ _ _ _ _ _ us hl => match us, hl with | [_], _ => rfl, by kernel_rfl⟩
theorem ok18 : DRowOk c0 r18 := ⟨⟨rfl, rfl, rfl, by decide +kernel, rfl, by decide +kernel, by decide +kernel⟩, fun _ _ _ _ _ _ us hl => match us, hl with | [_, _], _ => rfl, by kernel_rfl⟩
theorem ok19 : DRowOk c0 r19 := ⟨⟨rfl, rfl, rfl, by decide +kernel, rfl, by decide +kernel, by decide +kernel⟩, fun _ _ _ _ _ _ us hl => match us, hl with | [_, _], _ => rfl, by kernel_rfl⟩
theorem ok20 : DRowOk c0 r20 := ⟨⟨rfl, rfl, rfl, by decide +kernel, rfl, by decide +kernel, by decide +kernel⟩, fun _ _ _ _ _ _ us hl => match us, hl with | [_], _ => rfl, by kernel_rfl⟩
theorem ok21 : DRowOk c0 r21 := ⟨⟨rfl, rfl, rfl, by decide +kernel, rfl, by decide +kernel, by decide +kernel⟩, fun _ _ _ _ _ _ us hl => match us, hl with | [_, _], _ => rfl, by kernel_rfl⟩
theorem ok22 : DRowOk c0 r22 := ⟨⟨rfl, rfl, rfl, by decide +kernel, rfl, by decide +kernel, by decide +kernel⟩, fun _ _ _ _ _ _ us hl => match us, hl with | [_, _, _], _ => rfl, by kernel_rfl⟩
theorem ok23 : DRowOk c0 r23 := ⟨⟨rfl, rfl, rfl, by decide +kernel, rfl, by decide +kernel, by decide +kernel⟩, fun _ _ _ _ _ _ us hl => match us, hl with | [_, _], _ => rfl, by kernel_rfl⟩
theorem ok24 : DRowOk c0 r24 := ⟨⟨rfl, rfl, rfl, by decide +kernel, rfl, by decide +kernel, by decide +kernel⟩, fun _ _ _ _ _ _ us hl => match us, hl with | [_, _], _ => rfl, by kernel_rfl⟩
theorem ok25 : DRowOk c0 r25 := ⟨⟨rfl, rfl, rfl, by decide +kernel, rfl, by decide +kernel, by decide +kernel⟩, fun _ _ _ _ _ _ us hl => match us, hl with | [_, _], _ => rfl, by kernel_rfl⟩
theorem ok26 : DRowOk c0 r26 := ⟨⟨rfl, rfl, rfl, by decide +kernel, rfl, by decide +kernel, by decide +kernel⟩, fun _ _ _ _ _ _ us hl => match us, hl with | [_, _], _ => rfl, by kernel_rfl⟩
theorem ok27 : DRowOk c0 r27 := ⟨⟨rfl, rfl, rfl, by decide +kernel, rfl, by decide +kernel, by decide +kernel⟩, fun _ _ _ _ _ _ us hl => match us, hl with | [_], _ => rfl, by kernel_rfl⟩
theorem ok28 : DRowOk c0 r28 := ⟨⟨rfl, rfl, rfl, by decide +kernel, rfl, by decide +kernel, by decide +kernel⟩, fun _ _ _ _ _ _ us hl => match us, hl with | [_], _ => rfl, by kernel_rfl⟩
theorem ok29 : DRowOk c0 r29 := ⟨⟨rfl, rfl, rfl, by decide +kernel, rfl, by decide +kernel, by decide +kernel⟩, fun _ _ _ _ _ _ us hl => match us, hl with | [_, _, _, _], _ => rfl, by kernel_rfl⟩
theorem ok30 : DRowOk c0 r30 := ⟨⟨rfl, rfl, rfl, by decide +kernel, rfl, by decide +kernel, by decide +kernel⟩, fun _ _ _ _ _ _ us hl => match us, hl with | [_], _ => rfl, by kernel_rfl⟩
theorem ok31 : DRowOk c0 r31 := ⟨⟨rfl, rfl, rfl, by decide +kernel, rfl, by decide +kernel, by decide +kernel⟩, fun _ _ _ _ _ _ us hl => match us, hl with | [_, _], _ => rfl, by kernel_rfl⟩
theorem ok32 : DRowOk c0 r32 := ⟨⟨rfl, rfl, rfl, by decide +kernel, rfl, by decide +kernel, by decide +kernel⟩, fun _ _ _ _ _ _ us hl => match us, hl with | [_, _], _ => rfl, by kernel_rfl⟩
theorem ok33 : DRowOk c0 r33 := ⟨⟨rfl, rfl, rfl, by decide +kernel, rfl, by decide +kernel, by decide +kernel⟩, fun _ _ _ _ _ _ us hl => match us, hl with | [_, _], _ => rfl, by kernel_rfl⟩
theorem ok34 : DRowOk c0 r34 := ⟨⟨rfl, rfl, rfl, by decide +kernel, rfl, by decide +kernel, by decide +kernel⟩, fun _ _ _ _ _ _ us hl => match us, hl with | [_, _, _], _ => rfl, by kernel_rfl⟩
theorem ok35 : DRowOk c0 r35 := ⟨⟨rfl, rfl, rfl, by decide +kernel, rfl, by decide +kernel, by decide +kernel⟩, fun _ _ _ _ _ _ us hl => match us, hl with | [_, _], _ => rfl, by kernel_rfl⟩
theorem ok36 : DRowOk c0 r36 := ⟨⟨rfl, rfl, rfl, by decide +kernel, rfl, by decide +kernel, by decide +kernel⟩, fun _ _ _ _ _ _ us hl => match us, hl with | [_], _ => rfl, by kernel_rfl⟩
theorem ok37 : DRowOk c0 r37 := ⟨⟨rfl, rfl, rfl, by decide +kernel, rfl, by decide +kernel, by decide +kernel⟩, fun _ _ _ _ _ _ us hl => match us, hl with | [_, _], _ => rfl, by kernel_rfl⟩
theorem ok38 : DRowOk c0 r38 := ⟨⟨rfl, rfl, rfl, by decide +kernel, rfl, by decide +kernel, by decide +kernel⟩, fun _ _ _ _ _ _ us hl => match us, hl with | [_, _, _], _ => rfl, by kernel_rfl⟩
theorem ok39 : DRowOk c0 r39 := ⟨⟨rfl, rfl, rfl, by decide +kernel, rfl, by decide +kernel, by decide +kernel⟩, fun _ _ _ _ _ _ us hl => match us, hl with | [], _ => rfl, by kernel_rfl⟩
theorem ok40 : DRowOk c0 r40 := ⟨⟨rfl, rfl, rfl, by decide +kernel, rfl, by decide +kernel, by decide +kernel⟩, fun _ _ _ _ _ _ us hl => match us, hl with | [_], _ => rfl, by kernel_rfl⟩
theorem ok41 : DRowOk c0 r41 := ⟨⟨rfl, rfl, rfl, by decide +kernel, rfl, by decide +kernel, by decide +kernel⟩, fun _ _ _ _ _ _ us hl => match us, hl with | [_, _], _ => rfl, by kernel_rfl⟩
theorem ok42 : DRowOk c0 r42 := ⟨⟨rfl, rfl, rfl, by decide +kernel, rfl, by decide +kernel, by decide +kernel⟩, fun _ _ _ _ _ _ us hl => match us, hl with | [_, _, _], _ => rfl, by kernel_rfl⟩
theorem ok43 : DRowOk c0 r43 := ⟨⟨rfl, rfl, rfl, by decide +kernel, rfl, by decide +kernel, by decide +kernel⟩, fun _ _ _ _ _ _ us hl => match us, hl with | [_, _, _, _], _ => rfl, by kernel_rfl⟩
theorem ok44 : DRowOk c0 r44 := ⟨⟨rfl, rfl, rfl, by decide +kernel, rfl, by decide +kernel, by decide +kernel⟩, fun _ _ _ _ _ _ us hl => match us, hl with | [_], _ => rfl, by kernel_rfl⟩
theorem ok45 : DRowOk c0 r45 := ⟨⟨rfl, rfl, rfl, by decide +kernel, rfl, by decide +kernel, by decide +kernel⟩, fun _ _ _ _ _ _ us hl => match us, hl with | [], _ => rfl, by kernel_rfl⟩
theorem ok46 : DRowOk c0 r46 := ⟨⟨rfl, rfl, rfl, by decide +kernel, rfl, by decide +kernel, by decide +kernel⟩, fun _ _ _ _ _ _ us hl => match us, hl with | [_, _, _], _ => rfl, by kernel_rfl⟩
theorem ok47 : DRowOk c0 r47 := ⟨⟨rfl, rfl, rfl, by decide +kernel, rfl, by decide +kernel, by decide +kernel⟩, fun _ _ _ _ _ _ us hl => match us, hl with | [_], _ => rfl, by kernel_rfl⟩
theorem ok48 : DRowOk c0 r48 := ⟨⟨rfl, rfl, rfl, by decide +kernel, rfl, by decide +kernel, by decide +kernel⟩, fun _ _ _ _ _ _ us hl => match us, hl with | [_], _ => rfl, by kernel_rfl⟩
theorem rows_ok : ∀ r ∈ rows, DRowOk c0 r := by
  unfold rows
  simp only [List.forall_mem_cons]
  exact ⟨ok0, ok1, ok2, ok3, ok4, ok5, ok6, ok7, ok8, ok9, ok10, ok11, ok12, ok13, ok14, ok15, ok16, ok17, ok18, ok19, ok20, ok21, ok22, ok23, ok24, ok25, ok26, ok27, ok28, ok29, ok30, ok31, ok32, ok33, ok34, ok35, ok36, ok37, ok38, ok39, ok40, ok41, ok42, ok43, ok44, ok45, ok46, ok47, ok48, fun r h => by cases h⟩
theorem fs_eq : Ws.K01.fs = rows.map DRow.fn := rfl
theorem glo_in : ∀ r ∈ rows, He.Fa.glo r.x ∈ fa := by
  unfold rows
  simp only [List.forall_mem_cons]
  exact ⟨List.mem_of_getElem? (i := 0) rfl, List.mem_of_getElem? (i := 1) rfl, List.mem_of_getElem? (i := 2) rfl, List.mem_of_getElem? (i := 3) rfl, List.mem_of_getElem? (i := 4) rfl, List.mem_of_getElem? (i := 5) rfl, List.mem_of_getElem? (i := 6) rfl, List.mem_of_getElem? (i := 7) rfl, List.mem_of_getElem? (i := 8) rfl, List.mem_of_getElem? (i := 9) rfl, List.mem_of_getElem? (i := 10) rfl, List.mem_of_getElem? (i := 11) rfl, List.mem_of_getElem? (i := 12) rfl, List.mem_of_getElem? (i := 13) rfl, List.mem_of_getElem? (i := 14) rfl, List.mem_of_getElem? (i := 15) rfl, List.mem_of_getElem? (i := 16) rfl, List.mem_of_getElem? (i := 17) rfl, List.mem_of_getElem? (i := 18) rfl, List.mem_of_getElem? (i := 19) rfl, List.mem_of_getElem? (i := 20) rfl, List.mem_of_getElem? (i := 21) rfl, List.mem_of_getElem? (i := 22) rfl, List.mem_of_getElem? (i := 23) rfl, List.mem_of_getElem? (i := 24) rfl, List.mem_of_getElem? (i := 25) rfl, List.mem_of_getElem? (i := 26) rfl, List.mem_of_getElem? (i := 27) rfl, List.mem_of_getElem? (i := 28) rfl, List.mem_of_getElem? (i := 29) rfl, List.mem_of_getElem? (i := 30) rfl, List.mem_of_getElem? (i := 31) rfl, List.mem_of_getElem? (i := 32) rfl, List.mem_of_getElem? (i := 33) rfl, List.mem_of_getElem? (i := 34) rfl, List.mem_of_getElem? (i := 35) rfl, List.mem_of_getElem? (i := 36) rfl, List.mem_of_getElem? (i := 37) rfl, List.mem_of_getElem? (i := 38) rfl, List.mem_of_getElem? (i := 39) rfl, List.mem_of_getElem? (i := 40) rfl, List.mem_of_getElem? (i := 41) rfl, List.mem_of_getElem? (i := 42) rfl, List.mem_of_getElem? (i := 43) rfl, List.mem_of_getElem? (i := 44) rfl, List.mem_of_getElem? (i := 45) rfl, List.mem_of_getElem? (i := 46) rfl, List.mem_of_getElem? (i := 47) rfl, List.mem_of_getElem? (i := 48) rfl, fun r h => by cases h⟩
end Hd
open PySem PySem.W PySem.Calls PyProof.Rows Ws

theorem PySem.Challenge.cw_wellstell_k01_logs_between_two_numbers_holds : PySem.Challenge.rw_wellstell_k01_logs_between_two_numbers.Holds := by
  w_on; o_law
  refine HandSHeadRun.head_any (r := OpenLaw.row PySem.Challenge.rw_wellstell_k01_logs_between_two_numbers) (q := view (OpenLaw.row PySem.Challenge.rw_wellstell_k01_logs_between_two_numbers).prog [63]) (H := Hd.hk) (ob := Hd.ob) (M := 4000) (loose := Hd.loose) (d := HandSHeadRun.topDef (OpenLaw.row PySem.Challenge.rw_wellstell_k01_logs_between_two_numbers).prog 63) (kwd := []) Hd.ob_eq
    (by kernel_rfl) (fun s => by kernel_rfl) Hd.run (by kernel_rfl) (by kernel_rfl) (by kernel_rfl) (by rfl) (by first | assumption | decide +kernel) (by decide +kernel) ⟨rfl, rfl, rfl, rfl, rfl, by decide +kernel⟩ ?hw ?hc
  case hw => w_witness2
  case hc =>
    refine L2.walk_ofE (l := PySem.Challenge.rw_wellstell_k01_logs_between_two_numbers) (n := 63) (k := 12 + 1) (x := "script") (CX := CXa (PySem.Challenge.rw_wellstell_k01_logs_between_two_numbers).prog) rfl (by decide) (by kernel_rfl) ⟨rfl, by decide, by decide⟩ ?F cxa_end
    intro w mg fa h Y G hmg0
    obtain ⟨K, KX, c⟩ := Y
    have hmg : mg ("law" : PySem.Str) = some (.ref fa) := by
      have e : (HandSHeadRun.topDef (OpenLaw.row PySem.Challenge.rw_wellstell_k01_logs_between_two_numbers).prog 63).name = ("law" : PySem.Str) := by kernel_rfl
      rw [← e]
      exact hmg0
    have more := c.more
    unfold Hd.ex at more
    obtain ⟨m0, m1⟩ := He.ba more
    obtain ⟨es, n, kd⟩ := c.t.tab 0
    have T0 := tab_is (w := w) KX G kd m1
    obtain ⟨fd, sp, e1, e2, e3, e4⟩ := law_of (P := (PySem.Challenge.rw_wellstell_k01_logs_between_two_numbers).prog) (w := w) (k := 12) (i := 48) (r := Hd.r48) (p := "script") KX G c.t.d rfl Hd.rows_ok Hd.glo_in
      (fun x hx => by
        have : (Hd.c0.bl.all fun x => Hd.fa.any fun f => match f with | .free y => decide (y = x) | _ => false) = true := by decide +kernel
        obtain ⟨f, hf, e⟩ := List.any_eq_true.mp (List.all_eq_true.mp this x hx)
        cases f <;> first | cases e | (have e := of_decide_eq_true e; subst e; exact hf))
      m0 (fun e => by cases e) (fun T kvs e => by
        have e2 : List.lookup T [(_, _)] = some kvs := e
        obtain ⟨q1, q2⟩ := lk_one e2
        subst q1 q2
        exact T0) Hd.fs_eq rfl rfl (fun ns _ => Ws.K01.law_ok _ ns)
    have e1 : mg ("law" : PySem.Str) = some (.ref (He.ga K "law")) := e1
    rw [hmg] at e1
    injection e1 with e1
    injection e1 with e1
    subst e1
    exact ⟨K, fd, sp, KX, e2, e3, e4⟩

