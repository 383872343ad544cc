import PyProof.Rows.All
import Wide.All
import OpenK.AllK
import Wide.FinOn
import HandS.ForMost
import HandS.ForExc
import HandS.TupAny
import HandS.Deep
import HandS.Flow
import HandS.IsInst
import HandS.TupMul
import HandS.SortInts
import HandS.Conv
import HandS.ExcOwn
import HandS.Walk
import KE.KDictDisplayH
import HandS.Small
import HandS.SortRule
import HandS.More
import KE.KDictCopyH
import HandS.Zip
import HandS.Style
import HandS.SetFor
import HandS.TupLe
import HandS.DictTup
import PyProof.StrOps2
import KE.GoesMore
import KE.GoesEnum
import HandS.Zip0
import KE.GoesZip
import HandS.TryOnly
import HandS.DictComp
import HandS.WordsDict
import PyProof.SetRoads
import PyProof.Rows.SetFrom
import HandS.Strs
import HandS.ExcInit
import HandS.ExcField
import HandS.ExcIs
import KE.KExcIs
import KE.KIndexOf
import HandS.SetKeys
import PyProof.TupleOfSeq
import KE.DatumMore
import KE.DatumIndex
import HandS.TupLen
import KE.SortData
import HandS.RepeatKit
import PyProof.DictValues
import KE.KDictList
import KE.DataCmp
import KE.DataFind
import PySem.Challenge.RW_undobystate_k65_tokens_of_texts
section
set_option Elab.async false
set_option linter.all false
set_option maxRecDepth 100000
set_option maxHeartbeats 1000000
/-! the layer of denotations: pure values over the hand layer's heap -/
namespace Dn
open PySem L2

/-- a pure value (a tree), or a place in the store -/
inductive PV where
  | non | bl (b : Bool) | int (i : Int) | str (x : Str)
  | tup (xs : List PV) | lst (xs : List PV) | rol (xs : List PV) | ftp (xs : List PV)
  | dk (kvs : List (Key × PV)) | dt (kvs : List (List Key × PV)) | ref (n : Nat)

/-- a mutable thing -/
inductive SO where
  | lst (xs : List PV)
  | ins (C : Str) (fs : List (Str × PV))

abbrev Stor := List SO

/-- what a name holds: nothing, a value, a list or a dict that no one else knows -/
inductive Slot where
  | un | v (p : PV) | ol (xs : List PV) | od (kvs : List (Key × PV)) | ot (kvs : List (List Key × PV))

abbrev DEnv := List Slot

/-- an exception: its class, its fields -/
structure Exc where
  cls : Str
  fs : List (Str × PV)

inductive Out (α : Type) where
  | st
  | ok (a : α) (e : DEnv) (s : Stor)
  | ex (x : Exc) (e : DEnv) (s : Stor)

abbrev Den (α : Type) := DEnv → Stor → Out α
abbrev DE := Den PV

def Out.bind {α β : Type} (o : Out α) (k : α → Den β) : Out β := match o with
  | .st => .st
  | .ok a e s => k a e s
  | .ex x e s => .ex x e s
def Den.bind {α β : Type} (d : Den α) (k : α → Den β) : Den β := fun e s => (d e s).bind k
def Den.pure {α : Type} (a : α) : Den α := fun e s => .ok a e s
def Den.fail {α : Type} : Den α := fun _ _ => .st
def Den.opt {α : Type} (o : Option α) : Den α := fun e s => match o with
  | some a => .ok a e s
  | none => .st

/-! ### how a value stands -/
mutual
inductive Rep (K : PySem.W.Frag) (F : Hp) (m : List Addr) : V → PV → Prop
  | non : Rep K F m .non .non
  | bl (b : Bool) : Rep K F m (.bl b) (.bl b)
  | int (i : Int) : Rep K F m (.int i) (.int i)
  | str (x : Str) : Rep K F m (.str x) (.str x)
  | tup {a : Addr} {vs : List V} {ps : List PV} : F a = some (.tup vs) → RepL K F m vs ps → Rep K F m (.ref a) (.tup ps)
  | lst {a : Addr} {vs : List V} {ps : List PV} : F a = some (.lst vs) → RepL K F m vs ps → Rep K F m (.ref a) (.lst ps)
  | rol {a : Addr} {vs : List V} {ps : List PV} : SqL K F a vs → RepL K F m vs ps → Rep K F m (.ref a) (.rol ps)
  | ftp {a : Addr} {ob : Obj} {vs : List V} {ps : List PV} : F a = some (.frz ob (.tup vs)) → ob.cls = .type "tuple" → ob.dict = none → RepL K F m vs ps → Rep K F m (.ref a) (.ftp ps)
  | dk {a : Addr} {kvs : List (Key × V)} {ps : List (Key × PV)} : F a = some (.dK kvs) → RepK K F m kvs ps → Rep K F m (.ref a) (.dk ps)
  | dt {a : Addr} {kvs : List (List Key × V)} {ps : List (List Key × PV)} : F a = some (.dT kvs) → RepT K F m kvs ps → Rep K F m (.ref a) (.dt ps)
  | ref {a : Addr} {n : Nat} : m[n]? = some a → Rep K F m (.ref a) (.ref n)
inductive RepL (K : PySem.W.Frag) (F : Hp) (m : List Addr) : List V → List PV → Prop
  | nil : RepL K F m [] []
  | cons {v : V} {p : PV} {vs : List V} {ps : List PV} : Rep K F m v p → RepL K F m vs ps → RepL K F m (v :: vs) (p :: ps)
inductive RepK (K : PySem.W.Frag) (F : Hp) (m : List Addr) : List (Key × V) → List (Key × PV) → Prop
  | nil : RepK K F m [] []
  | cons {k : Key} {v : V} {p : PV} {vs : List (Key × V)} {ps : List (Key × PV)} : Rep K F m v p → RepK K F m vs ps → RepK K F m ((k, v) :: vs) ((k, p) :: ps)
inductive RepT (K : PySem.W.Frag) (F : Hp) (m : List Addr) : List (List Key × V) → List (List Key × PV) → Prop
  | nil : RepT K F m [] []
  | cons {k : List Key} {v : V} {p : PV} {vs : List (List Key × V)} {ps : List (List Key × PV)} : Rep K F m v p → RepT K F m vs ps → RepT K F m ((k, v) :: vs) ((k, p) :: ps)
end

section
variable {K : PySem.W.Frag} {F F' : Hp} {m m' : List Addr}
theorem pre_get {m m' : List Addr} (h : m <+: m') {n : Nat} {a : Addr} (e : m[n]? = some a) : m'[n]? = some a := by
  obtain ⟨t, rfl⟩ := h
  have := (List.getElem?_eq_some_iff.mp e).1
  rw [List.getElem?_append_left this]
  exact e
mutual
theorem Rep.mono (hs : Same F F') (hm : m <+: m') : ∀ {v : V} {p : PV}, Rep K F m v p → Rep K F' m' v p
  | _, _, .non => .non
  | _, _, .bl b => .bl b
  | _, _, .int i => .int i
  | _, _, .str x => .str x
  | _, _, .tup h r => .tup (hs _ _ h) (RepL.mono hs hm r)
  | _, _, .lst h r => .lst (hs _ _ h) (RepL.mono hs hm r)
  | _, _, .rol h r => .rol (hs.seq h) (RepL.mono hs hm r)
  | _, _, .ftp h e1 e2 r => .ftp (hs _ _ h) e1 e2 (RepL.mono hs hm r)
  | _, _, .dk h r => .dk (hs _ _ h) (RepK.mono hs hm r)
  | _, _, .dt h r => .dt (hs _ _ h) (RepT.mono hs hm r)
  | _, _, .ref h => .ref (pre_get hm h)
theorem RepL.mono (hs : Same F F') (hm : m <+: m') : ∀ {v : List V} {p : List PV}, RepL K F m v p → RepL K F' m' v p
  | _, _, .nil => .nil
  | _, _, .cons h r => .cons (Rep.mono hs hm h) (RepL.mono hs hm r)
theorem RepK.mono (hs : Same F F') (hm : m <+: m') : ∀ {v : List (Key × V)} {p : List (Key × PV)}, RepK K F m v p → RepK K F' m' v p
  | _, _, .nil => .nil
  | _, _, .cons h r => .cons (Rep.mono hs hm h) (RepK.mono hs hm r)
theorem RepT.mono (hs : Same F F') (hm : m <+: m') : ∀ {v : List (List Key × V)} {p : List (List Key × PV)}, RepT K F m v p → RepT K F' m' v p
  | _, _, .nil => .nil
  | _, _, .cons h r => .cons (Rep.mono hs hm h) (RepT.mono hs hm r)
end
theorem RepL.length : ∀ {v : List V} {p : List PV}, RepL K F m v p → v.length = p.length
  | _, _, .nil => rfl
  | _, _, .cons _ r => by simp [RepL.length r]
theorem RepK.length : ∀ {v : List (Key × V)} {p : List (Key × PV)}, RepK K F m v p → v.length = p.length
  | _, _, .nil => rfl
  | _, _, .cons _ r => by simp [RepK.length r]
theorem RepT.length : ∀ {v : List (List Key × V)} {p : List (List Key × PV)}, RepT K F m v p → v.length = p.length
  | _, _, .nil => rfl
  | _, _, .cons _ r => by simp [RepT.length r]
theorem RepL.append : ∀ {v w : List V} {p q : List PV}, RepL K F m v p → RepL K F m w q → RepL K F m (v ++ w) (p ++ q)
  | _, _, _, _, .nil, r => r
  | _, _, _, _, .cons h t, r => .cons h (t.append r)
theorem RepL.get : ∀ {vs : List V} {ps : List PV} {i : Nat} {p : PV}, RepL K F m vs ps → ps[i]? = some p → ∃ v, vs[i]? = some v ∧ Rep K F m v p
  | _, _, _, _, .nil, e => by simp at e
  | _, _, 0, _, .cons h _, e => by simp at e; subst e; exact ⟨_, rfl, h⟩
  | _, _, i + 1, _, .cons _ t, e => by
    obtain ⟨v, h1, h2⟩ := RepL.get (i := i) t (by simpa using e)
    exact ⟨v, by simpa using h1, h2⟩
theorem RepL.getV : ∀ {vs : List V} {ps : List PV} {i : Nat} {v : V}, RepL K F m vs ps → vs[i]? = some v → ∃ p, ps[i]? = some p ∧ Rep K F m v p
  | _, _, _, _, .nil, e => by simp at e
  | _, _, 0, _, .cons h _, e => by simp at e; subst e; exact ⟨_, rfl, h⟩
  | _, _, i + 1, _, .cons _ t, e => by
    obtain ⟨v, h1, h2⟩ := RepL.getV (i := i) t (by simpa using e)
    exact ⟨v, by simpa using h1, h2⟩
theorem RepL.take : ∀ {vs : List V} {ps : List PV} (n : Nat), RepL K F m vs ps → RepL K F m (vs.take n) (ps.take n)
  | _, _, 0, _ => .nil
  | _, _, _ + 1, .nil => .nil
  | _, _, n + 1, .cons r t => .cons r (t.take n)
theorem RepL.drop : ∀ {vs : List V} {ps : List PV} (n : Nat), RepL K F m vs ps → RepL K F m (vs.drop n) (ps.drop n)
  | _, _, 0, r => r
  | _, _, _ + 1, .nil => .nil
  | _, _, n + 1, .cons _ t => t.drop n
theorem RepL.set {v : V} {p : PV} (r : Rep K F m v p) : ∀ {vs : List V} {ps : List PV} (i : Nat), RepL K F m vs ps → RepL K F m (vs.set i v) (ps.set i p)
  | _, _, _, .nil => .nil
  | _, _, 0, .cons _ t => .cons r t
  | _, _, i + 1, .cons q t => .cons q (t.set r i)
theorem RepL.dropLast {vs : List V} {ps : List PV} (h : RepL K F m vs ps) : RepL K F m vs.dropLast ps.dropLast := by
  rw [List.dropLast_eq_take, List.dropLast_eq_take, h.length]
  exact h.take _
theorem RepL.flat {vs : List V} {ps : List PV} (h : RepL K F m vs ps) : ∀ k : Nat, RepL K F m (List.replicate k vs).flatten (List.replicate k ps).flatten
  | 0 => .nil
  | k + 1 => by rw [List.replicate_succ, List.flatten_cons, List.replicate_succ, List.flatten_cons]; exact h.append (h.flat k)
end

/-! ### the frozen part, the store, the frame -/
def IsDO : HO → Prop
  | .dK _ => True
  | .dT _ => True
  | _ => False
def Imm : HO → Prop
  | .lst _ => True
  | .tup _ => True
  | .dK _ => True
  | .dT _ => True
  | .frz _ _ => True
  | _ => False
/-- it stands so, but for the lock of a dict that is walked -/
def Has (lk : List Addr) (H : Hp) (a : Addr) (o : HO) : Prop := H a = some o ∨ (a ∈ lk ∧ IsDO o ∧ ∃ ob, H a = some (.frz ob o))
theorem Has.same {lk : List Addr} {H H' : Hp} {a : Addr} {o : HO} (h : Has lk H a o) (s : Same H H') : Has lk H' a o := by
  rcases h with h | ⟨l, d, ob, h⟩
  · exact .inl (s _ _ h)
  · exact .inr ⟨l, d, ob, s _ _ h⟩
theorem Has.ne {lk : List Addr} {H : Hp} {a : Addr} {o : HO} (h : Has lk H a o) : H a ≠ none := by
  rcases h with h | ⟨l, d, ob, h⟩ <;> rw [h] <;> exact fun z => nomatch z
theorem Has.rd {lk : List Addr} {H : Hp} {a : Addr} {o : HO} (h : Has lk H a o) : Rd H a o := by
  rcases h with h | ⟨l, d, ob, h⟩
  · exact .inl h
  · exact .inr ⟨ob, h⟩
theorem Has.lst {lk : List Addr} {H : Hp} {a : Addr} {xs : List V} (h : Has lk H a (.lst xs)) : H a = some (.lst xs) := by
  rcases h with h | ⟨l, d, ob, h⟩
  · exact h
  · exact d.elim
theorem Has.tup {lk : List Addr} {H : Hp} {a : Addr} {xs : List V} (h : Has lk H a (.tup xs)) : H a = some (.tup xs) := by
  rcases h with h | ⟨l, d, ob, h⟩
  · exact h
  · exact d.elim

inductive RepF (K : PySem.W.Frag) (F : Hp) (m : List Addr) : List (Str × V) → List (Str × PV) → Prop
  | nil : RepF K F m [] []
  | cons {k : Str} {v : V} {p : PV} {vs : List (Str × V)} {ps : List (Str × PV)} : Rep K F m v p → RepF K F m vs ps → RepF K F m ((k, v) :: vs) ((k, p) :: ps)
theorem RepF.mono {K : PySem.W.Frag} {F F' : Hp} {m m' : List Addr} (hs : Same F F') (hm : m <+: m') : ∀ {v : List (Str × V)} {p : List (Str × PV)}, RepF K F m v p → RepF K F' m' v p
  | _, _, .nil => .nil
  | _, _, .cons h r => .cons (Rep.mono hs hm h) (RepF.mono hs hm r)

def SOR (K : PySem.W.Frag) (mg : Str → Option Value) (F : Hp) (m : List Addr) (H : Hp) (a : Addr) : SO → Prop
  | .lst xs => ∃ vs, H a = some (.lst vs) ∧ RepL K F m vs xs
  | .ins C fs => ∃ Ca dx vfs, mg C = some (.ref Ca) ∧ H a = some (.ins Ca dx vfs) ∧ RepF K F m vfs fs

/-- the frozen part F within H, the store S at the addresses m -/
structure R0 (K : PySem.W.Frag) (mg : Str → Option Value) (lk : List Addr) (F : Hp) (m : List Addr) (S : Stor) (H : Hp) : Prop where
  sub : ∀ a o, F a = some o → Has lk H a o
  imm : ∀ a o, F a = some o → Imm o
  len : m.length = S.length
  sto : ∀ (i : Nat) (a : Addr) (so : SO), m[i]? = some a → S[i]? = some so → SOR K mg F m H a so
  nd : m.Nodup
  muf : ∀ a ∈ m, F a = none
  lkd : ∀ a ∈ lk, ∃ ob u, H a = some (.frz ob u)

/-- nothing, or a tuple, stands there -/
def IT (H : Hp) (a : Addr) : Prop := H a = none ∨ ∃ xs, H a = some (.tup xs)
theorem IT.same {H H' : Hp} {a : Addr} (s : Same H H') (h : IT H' a) : IT H a := by
  cases q : H a with
  | none => exact .inl q
  | some o =>
    have e := s _ _ q
    rcases h with h | ⟨xs, h⟩
    · rw [e] at h; cases h
    · rw [e] at h; cases h; exact .inr ⟨xs, q⟩
/-- H grows, F grows by what is new -/
structure Ext (F H F' H' : Hp) : Prop where
  f : Same F F'
  h : Same H H'
  n : ∀ a, F' a ≠ none → F a = none → IT H a
  s : ∀ a o, F' a = some o → F a = none → H' a = some o ∧ Imm o
theorem Ext.refl (F H : Hp) : Ext F H F H := ⟨Same.refl _, Same.refl _, fun a h e => absurd e h, fun a o h e => by rw [e] at h; cases h⟩
theorem Ext.trans {F H F1 H1 F2 H2 : Hp} (a : Ext F H F1 H1) (b : Ext F1 H1 F2 H2) : Ext F H F2 H2 where
  f := a.f.trans b.f
  h := a.h.trans b.h
  n := fun x hx e => by
    cases q : F1 x with
    | none => exact (b.n x hx q).same a.h
    | some o => exact a.n x (by rw [q]; exact fun z => nomatch z) e
  s := fun x o hx e => by
    cases q : F1 x with
    | none => exact b.s x o hx q
    | some u =>
      have := b.f x u q
      rw [hx] at this; cases this
      obtain ⟨h1, h2⟩ := a.s x _ q e
      exact ⟨b.h _ _ h1, h2⟩
/-- a new object, frozen -/
theorem Ext.new {F H : Hp} {p : Addr} {o : HO} (hs : ∀ a u, F a = some u → H a ≠ none) (hp : H p = none) (ho : Imm o) : Ext F H (upd F p o) (upd H p o) := by
  have fp : F p = none := by
    cases q : F p with
    | none => rfl
    | some u => exact absurd hp (hs _ _ q)
  refine ⟨fun a u e => ?_, fun a u e => ?_, fun a hx e => ?_, fun a u hx e => ?_⟩
  · rw [upd_ne (ne_of_none e fp)]; exact e
  · rw [upd_ne (ne_of_none e hp)]; exact e
  · by_cases h : a = p
    · rw [h]; exact .inl hp
    · rw [upd_ne h] at hx; exact absurd e hx
  · by_cases h : a = p
    · subst h
      rw [upd_same] at hx; cases hx
      exact ⟨upd_same, ho⟩
    · rw [upd_ne h] at hx; rw [e] at hx; cases hx
/-- a new object, not frozen -/
theorem Ext.raw {F H : Hp} {p : Addr} {o : HO} (hp : H p = none) : Ext F H F (upd H p o) :=
  ⟨Same.refl _, fun a u e => by rw [upd_ne (ne_of_none e hp)]; exact e, fun a hx e => absurd e hx, fun a u hx e => by rw [e] at hx; cases hx⟩

section
variable {K : PySem.W.Frag} {mg : Str → Option Value} {lk : List Addr} {F F' H H' : Hp} {m m' : List Addr} {S : Stor}
theorem SOR.mono {a : Addr} {so : SO} (hs : Same F F') (hm : m <+: m') (hh : H' a = H a) (h : SOR K mg F m H a so) : SOR K mg F' m' H' a so := by
  cases so with
  | lst xs => obtain ⟨vs, h1, h2⟩ := h; exact ⟨vs, hh.trans h1, h2.mono hs hm⟩
  | ins C fs => obtain ⟨Ca, dx, vfs, h1, h2, h3⟩ := h; exact ⟨Ca, dx, vfs, h1, hh.trans h2, h3.mono hs hm⟩
theorem SOR.some {a : Addr} {so : SO} (h : SOR K mg F m H a so) : ∃ o, H a = some o := by
  cases so with
  | lst xs => obtain ⟨vs, h1, h2⟩ := h; exact ⟨_, h1⟩
  | ins C fs => obtain ⟨Ca, dx, vfs, h1, h2, h3⟩ := h; exact ⟨_, h2⟩
theorem R0.mem (r : R0 K mg lk F m S H) {a : Addr} (h : a ∈ m) : ∃ o, H a = some o := by
  obtain ⟨i, hi⟩ := List.getElem?_of_mem h
  have hl : i < S.length := by rw [← r.len]; exact (List.getElem?_eq_some_iff.mp hi).1
  exact (r.sto i a S[i] hi (List.getElem?_eq_getElem hl)).some
theorem R0.fne (r : R0 K mg lk F m S H) : ∀ a u, F a = some u → H a ≠ none := fun a u e => (r.sub a u e).ne
theorem R0.noit (r : R0 K mg lk F m S H) {a : Addr} (ha : a ∈ m) (h : IT H a) : False := by
  obtain ⟨i, hi⟩ := List.mem_iff_getElem?.mp ha
  have hl : i < S.length := by rw [← r.len]; exact (List.getElem?_eq_some_iff.mp hi).1
  have q := r.sto i a _ hi (List.getElem?_eq_getElem hl)
  cases hs : S[i] with
  | lst xs => rw [hs] at q; obtain ⟨_, e, _⟩ := q; rcases h with h | ⟨xs, h⟩ <;> (rw [e] at h; cases h)
  | ins C fs => rw [hs] at q; obtain ⟨_, _, _, _, e, _⟩ := q; rcases h with h | ⟨xs, h⟩ <;> (rw [e] at h; cases h)
theorem R0.ext (r : R0 K mg lk F m S H) (x : Ext F H F' H') : R0 K mg lk F' m S H' where
  sub := fun a o e => by
    cases q : F a with
    | none => exact .inl (x.s a o e q).1
    | some u =>
      have := x.f a u q
      rw [e] at this; cases this
      exact (r.sub a _ q).same x.h
  imm := fun a o e => by
    cases q : F a with
    | none => exact (x.s a o e q).2
    | some u =>
      have := x.f a u q
      rw [e] at this; cases this
      exact r.imm a _ q
  len := r.len
  sto := fun i a so h1 h2 => by
    have h3 := r.sto i a so h1 h2
    obtain ⟨o, ho⟩ := h3.some
    exact h3.mono x.f (List.prefix_refl _) (by rw [ho]; exact x.h _ _ ho)
  nd := r.nd
  lkd := fun a ha => by
    obtain ⟨ob, u, e⟩ := r.lkd a ha
    exact ⟨ob, u, x.h _ _ e⟩
  muf := fun a ha => by
    cases q : F' a with
    | none => rfl
    | some u =>
      exact (r.noit ha (x.n a (by rw [q]; exact fun z => nomatch z) (r.muf a ha))).elim
end

/-- a def's entry, and what is wished of an exception -/
structure Cfg where
  K : PySem.W.Frag
  mg : Str → Option Value
  F0 : Hp
  m0 : List Addr
  H0 : Hp
  lk : List Addr
  W : WX

def Slot.own : Slot → Bool
  | .un => false
  | .v _ => false
  | _ => true
def SlotR (K : PySem.W.Frag) (F : Hp) (m : List Addr) (H : Hp) (sv : Option (Option V)) : Slot → Prop
  | .un => True
  | .v p => ∃ v, sv = some (some v) ∧ Rep K F m v p
  | .ol ps => ∃ a vs, sv = some (some (.ref a)) ∧ H a = some (.lst vs) ∧ RepL K F m vs ps
  | .od ps => ∃ a vs, sv = some (some (.ref a)) ∧ H a = some (.dK vs) ∧ RepK K F m vs ps
  | .ot ps => ∃ a vs, sv = some (some (.ref a)) ∧ H a = some (.dT vs) ∧ RepT K F m vs ps
def Own (env : DEnv) (σ : St) (i : Nat) (a : Addr) : Prop := ∃ s, env[i]? = some s ∧ s.own = true ∧ σ[i]? = some (some (.ref a))

structure Rel (c : Cfg) (F : Hp) (m : List Addr) (σ : St) (env : DEnv) (S : Stor) (H : Hp) : Prop where
  r0 : R0 c.K c.mg c.lk F m S H
  len : σ.length = env.length
  slot : ∀ (i : Nat) (s : Slot), env[i]? = some s → SlotR c.K F m H σ[i]? s
  ownd : ∀ i j a, Own env σ i a → Own env σ j a → i = j
  ownf : ∀ i a, Own env σ i a → F a = none ∧ a ∉ m ∧ c.H0 a = none
  old : ∀ a o, c.H0 a = some o → a ∉ c.m0 → Has c.lk H a o
  newm : ∀ a ∈ m, a ∉ c.m0 → c.H0 a = none
  pre : c.m0 <+: m
  frn : ∀ a, F a ≠ none → c.F0 a ≠ none ∨ IT c.H0 a
  f0 : Same c.F0 F
  lkh : ∀ a ∈ c.lk, a ∉ c.m0 ∧ ∃ ob u, c.H0 a = some (.frz ob u)

section
variable {c : Cfg} {F F' H H' : Hp} {m m' : List Addr} {σ : St} {env : DEnv} {S : Stor}
theorem SlotR.mono {K : PySem.W.Frag} {sv : Option (Option V)} {s : Slot} (h : SlotR K F m H sv s) (hs : Same F F') (hm : m <+: m') (hh : ∀ a, s.own = true → sv = some (some (.ref a)) → H' a = H a) : SlotR K F' m' H' sv s := by
  cases s with
  | un => trivial
  | v p => obtain ⟨v, h1, h2⟩ := h; exact ⟨v, h1, h2.mono hs hm⟩
  | ol ps => obtain ⟨a, vs, h1, h2, h3⟩ := h; exact ⟨a, vs, h1, (hh a rfl h1).trans h2, h3.mono hs hm⟩
  | od ps => obtain ⟨a, vs, h1, h2, h3⟩ := h; exact ⟨a, vs, h1, (hh a rfl h1).trans h2, h3.mono hs hm⟩
  | ot ps => obtain ⟨a, vs, h1, h2, h3⟩ := h; exact ⟨a, vs, h1, (hh a rfl h1).trans h2, h3.mono hs hm⟩
theorem SlotR.there {K : PySem.W.Frag} {sv : Option (Option V)} {s : Slot} {a : Addr} (h : SlotR K F m H sv s) (o : s.own = true) (e : sv = some (some (.ref a))) : ∃ u, H a = some u := by
  cases s with
  | un => cases o
  | v p => cases o
  | ol ps => obtain ⟨a', vs, h1, h2, h3⟩ := h; rw [e] at h1; cases h1; exact ⟨_, h2⟩
  | od ps => obtain ⟨a', vs, h1, h2, h3⟩ := h; rw [e] at h1; cases h1; exact ⟨_, h2⟩
  | ot ps => obtain ⟨a', vs, h1, h2, h3⟩ := h; rw [e] at h1; cases h1; exact ⟨_, h2⟩
theorem Rel.own_there (r : Rel c F m σ env S H) {i : Nat} {a : Addr} (o : Own env σ i a) : ∃ u, H a = some u := by
  obtain ⟨s, h1, h2, h3⟩ := o
  exact (r.slot i s h1).there h2 h3
theorem Rel.free0 (r : Rel c F m σ env S H) {a : Addr} (h : H a = none) : c.H0 a = none := by
  cases q : c.H0 a with
  | none => rfl
  | some o =>
    by_cases hm : a ∈ c.m0
    · obtain ⟨u, hu⟩ := r.r0.mem (r.pre.subset hm)
      rw [h] at hu; cases hu
    · exact absurd h (r.old a o q hm).ne
theorem Rel.own_noit (r : Rel c F m σ env S H) {i : Nat} {a : Addr} (o : Own env σ i a) (h : IT H a) : False := by
  obtain ⟨s, h1, h2, h3⟩ := o
  have hs := r.slot i s h1
  cases s with
  | un => cases h2
  | v p => cases h2
  | ol ps => obtain ⟨a', vs, e1, e2, _⟩ := hs; rw [h3] at e1; cases e1; rcases h with h | ⟨xs, h⟩ <;> (rw [e2] at h; cases h)
  | od ps => obtain ⟨a', vs, e1, e2, _⟩ := hs; rw [h3] at e1; cases e1; rcases h with h | ⟨xs, h⟩ <;> (rw [e2] at h; cases h)
  | ot ps => obtain ⟨a', vs, e1, e2, _⟩ := hs; rw [h3] at e1; cases e1; rcases h with h | ⟨xs, h⟩ <;> (rw [e2] at h; cases h)
theorem Rel.it0 (r : Rel c F m σ env S H) {a : Addr} (h : IT H a) : IT c.H0 a := by
  rcases h with h | ⟨xs, h⟩
  · exact .inl (r.free0 h)
  · cases q : c.H0 a with
    | none => exact .inl q
    | some o =>
      by_cases hm : a ∈ c.m0
      · exact (r.r0.noit (r.pre.subset hm) (.inr ⟨xs, h⟩)).elim
      · rcases r.old a o q hm with e | ⟨_, _, ob, e⟩
        · rw [h] at e; cases e; exact .inr ⟨xs, q⟩
        · rw [h] at e; cases e
theorem Rel.ext (r : Rel c F m σ env S H) (x : Ext F H F' H') : Rel c F' m σ env S H' where
  r0 := r.r0.ext x
  len := r.len
  slot := fun i s e => (r.slot i s e).mono x.f (List.prefix_refl _) fun a o q => by
    obtain ⟨u, hu⟩ := (r.slot i s e).there o q
    rw [hu]; exact x.h _ _ hu
  ownd := r.ownd
  ownf := fun i a o => by
    obtain ⟨h1, h2, h3⟩ := r.ownf i a o
    refine ⟨?_, h2, h3⟩
    cases q : F' a with
    | none => rfl
    | some u =>
      exact (r.own_noit o (x.n a (by rw [q]; exact fun z => nomatch z) h1)).elim
  old := fun a o e hm => (r.old a o e hm).same x.h
  newm := r.newm
  pre := r.pre
  frn := fun a h => by
    cases q : F a with
    | none => exact .inr (r.it0 (x.n a h q))
    | some u => exact r.frn a (by rw [q]; exact fun z => nomatch z)
  f0 := r.f0.trans x.f
  lkh := r.lkh
end

/-! ### readings -/
/-- how an answer of the machine bears an answer of ours: by K, the frozen part, the store's addresses -/
abbrev RP (β α : Type) := PySem.W.Frag → Hp → List Addr → β → α → Prop

/-- an exception as it lies -/
def ExR (c : Cfg) (F : Hp) (m : List Addr) (H : Hp) (x : Exc) (cls : Value) (d : Option Addr) : Prop :=
  ∃ C dd vfs, cls = .ref C ∧ c.mg x.cls = some (.ref C) ∧ d = some dd ∧ H dd = some (.xd vfs) ∧ RepF c.K F m vfs x.fs

def post {β α : Type} (R : RP β α) (c : Cfg) (F : Hp) (m : List Addr) (σ : St) (Q : β → Hp → Prop) : Out α → Prop
  | .st => False
  | .ok p env S => ∀ F' m' H v, Rel c F' m' σ env S H → Same F F' → m <+: m' → R c.K F' m' v p → Q v H
  | .ex x env S => ∀ F' m' H cls d, Rel c F' m' σ env S H → Same F F' → m <+: m' → ExR c F' m' H x cls d → c.W cls d σ H
def rdAt {β α : Type} (R : RP β α) (c : Cfg) (d : Den α) (F : Hp) (m : List Addr) : St → Hp → (β → Hp → Prop) → Prop := fun σ H Q =>
  ∃ env S, Rel c F m σ env S H ∧ post R c F m σ Q (d env S)
def rd {β α : Type} (R : RP β α) (c : Cfg) (d : Den α) : St → Hp → (β → Hp → Prop) → Prop := fun σ H Q => ∃ F m, rdAt R c d F m σ H Q
abbrev rE (c : Cfg) (d : DE) : TE := rd (fun K F m v p => Rep K F m v p) c d
abbrev rA (c : Cfg) (d : Den (List PV)) : TA := rd (fun K F m v p => RepL K F m v p) c d
abbrev rT (c : Cfg) (d : Den Bool) : TT := rd (fun _ _ _ v p => v = p) c d

theorem post.mono {β α : Type} {R : RP β α} {c : Cfg} {F F1 : Hp} {m m1 : List Addr} {σ : St} {Q : β → Hp → Prop} {o : Out α} (h : post R c F m σ Q o) (hs : Same F F1) (hm : m <+: m1) : post R c F1 m1 σ Q o := by
  cases o with
  | st => exact h
  | ok p env S => exact fun F' m' H v r s1 p1 q => h F' m' H v r (hs.trans s1) (hm.trans p1) q
  | ex x env S => exact fun F' m' H cls d r s1 p1 q => h F' m' H cls d r (hs.trans s1) (hm.trans p1) q
/-- one after the other -/
theorem rd_bind {β α β' α' : Type} {R : RP β α} {R' : RP β' α'} {c : Cfg} {d : Den α} {k : α → Den α'} {F : Hp} {m : List Addr} {σ : St} {H : Hp} {Q : β' → Hp → Prop} (h : rdAt R' c (d.bind k) F m σ H Q) :
    rd R c d σ H fun v H1 => ∃ F1 m1 p, Same F F1 ∧ m <+: m1 ∧ R c.K F1 m1 v p ∧ rdAt R' c (k p) F1 m1 σ H1 Q := by
  obtain ⟨env, S, r, h⟩ := h
  refine ⟨F, m, env, S, r, ?_⟩
  unfold Den.bind at h
  cases e : d env S with
  | st => rw [e] at h; exact h
  | ok p env1 S1 =>
    rw [e] at h
    exact fun F1 m1 H1 v r1 s1 p1 q1 => ⟨F1, m1, p, s1, p1, q1, env1, S1, r1, post.mono h s1 p1⟩
  | ex x env1 S1 =>
    rw [e] at h
    exact h
theorem rdAt.end_ {β α : Type} {R : RP β α} {c : Cfg} {p : α} {F : Hp} {m : List Addr} {σ : St} {H : Hp} {Q : β → Hp → Prop} (h : rdAt R c (Den.pure p) F m σ H Q) {F' H' : Hp} {v : β} (x : Ext F H F' H') (q : R c.K F' m v p) : Q v H' := by
  obtain ⟨env, S, r, h⟩ := h
  exact h F' m H' v (r.ext x) x.f (List.prefix_refl _) q
theorem rdAt.end0 {β α : Type} {R : RP β α} {c : Cfg} {p : α} {F : Hp} {m : List Addr} {σ : St} {H : Hp} {Q : β → Hp → Prop} (h : rdAt R c (Den.pure p) F m σ H Q) {v : β} (q : R c.K F m v p) : Q v H := h.end_ (Ext.refl _ _) q
theorem rdAt.opt {β α : Type} {R : RP β α} {c : Cfg} {o : Option α} {F : Hp} {m : List Addr} {σ : St} {H : Hp} {Q : β → Hp → Prop} (h : rdAt R c (Den.opt o) F m σ H Q) : ∃ p, o = some p ∧ rdAt R c (Den.pure p) F m σ H Q := by
  obtain ⟨env, S, r, h⟩ := h
  cases o with
  | none => exact h.elim
  | some p => exact ⟨p, rfl, env, S, r, h⟩
/-- the store is read -/
def Den.getS : Den Stor := fun e s => .ok s e s
theorem rdAt.getS {β α : Type} {R : RP β α} {c : Cfg} {k : Stor → Den α} {F : Hp} {m : List Addr} {σ : St} {H : Hp} {Q : β → Hp → Prop} (h : rdAt R c (Den.getS.bind k) F m σ H Q) : ∃ env S, Rel c F m σ env S H ∧ rdAt R c (k S) F m σ H Q := by
  obtain ⟨env, S, r, h⟩ := h
  exact ⟨env, S, r, env, S, r, h⟩

/-- weaker readings -/
theorem PE.weak {X : Cx} {e : Expr} {t t' : TE} (h : PE X e t) (w : ∀ σ H Q, t' σ H Q → t σ H Q) : PE X e t' := ⟨fun pins s σ H Q I q => h.run pins s σ H Q I (w _ _ _ q)⟩
theorem PT.weak {X : Cx} {e : Expr} {t t' : TT} (h : PT X e t) (w : ∀ σ H Q, t' σ H Q → t σ H Q) : PT X e t' := ⟨fun pins s σ H Q I q => h.run pins s σ H Q I (w _ _ _ q)⟩
theorem PW.weak {X : Cx} {e : Expr} {t t' : TT} (h : PW X e t) (w : ∀ σ H Q, t' σ H Q → t σ H Q) : PW X e t' := ⟨fun wh pins s σ H Q I q => h.run wh pins s σ H Q I (w _ _ _ q)⟩
theorem PA.weak {X : Cx} {e : List Expr} {t t' : TA} (h : PA X e t) (w : ∀ σ H Q, t' σ H Q → t σ H Q) : PA X e t' := ⟨fun pos pins s σ H Q I q => h.run pos pins s σ H Q I (w _ _ _ q)⟩
theorem PS.weak {X : Cx} {e : Stmt} {t t' : TS} (h : PS X e t) (w : ∀ D σ H, t' D σ H → t D σ H) : PS X e t' := ⟨fun pins s σ H D I q => h.run pins s σ H D I (w _ _ _ q)⟩
theorem PSs.weak {X : Cx} {e : List Stmt} {t t' : TS} (h : PSs X e t) (w : ∀ D σ H, t' D σ H → t D σ H) : PSs X e t' := ⟨fun pins s σ H D I q => h.run pins s σ H D I (w _ _ _ q)⟩
theorem PG.weak {X : Cx} {e : Expr} {t t' : TG} (h : PG X e t) (w : ∀ v σ H Q, t' v σ H Q → t v σ H Q) : PG X e t' := ⟨fun pins s σ H v u Q I r q => h.run pins s σ H v u Q I r (w _ _ _ _ q)⟩
end Dn
end
section
set_option Elab.async false
set_option linter.all false
set_option maxRecDepth 100000
set_option maxHeartbeats 1000000
namespace Dn
open PySem L2

structure XOk (k : Nat) (X : Cx) (c : Cfg) : Prop where
  K : X.K = c.K
  mg : X.mg = c.mg
  calm : X.calm = true
  nd : X.N.Nodup
  room : Room k X.A
  pas : ∀ σ, PassesAt (L2.CX X.prog X.w) X σ (WE c.W σ)

theorem rd.imp {β α : Type} {R : RP β α} {c : Cfg} {d : Den α} {σ : St} {H : Hp} {Q Q' : β → Hp → Prop} (h : rd R c d σ H Q) (w : ∀ v H, Q v H → Q' v H) : rd R c d σ H Q' := by
  obtain ⟨F, m, env, S, r, h⟩ := h
  refine ⟨F, m, env, S, r, ?_⟩
  cases e : d env S with
  | st => rw [e] at h; exact h
  | ok p env1 S1 => rw [e] at h; exact fun F1 m1 H1 v r1 s1 p1 q1 => w _ _ (h F1 m1 H1 v r1 s1 p1 q1)
  | ex x env1 S1 => rw [e] at h; exact h
theorem rdAt.ext {β α : Type} {R : RP β α} {c : Cfg} {d : Den α} {F F' : Hp} {m : List Addr} {σ : St} {H H' : Hp} {Q : β → Hp → Prop} (h : rdAt R c d F m σ H Q) (x : Ext F H F' H') : rdAt R c d F' m σ H' Q := by
  obtain ⟨env', S', r', h'⟩ := h
  exact ⟨env', S', r'.ext x, post.mono h' x.f (List.prefix_refl _)⟩
theorem rdAt.rd {β α : Type} {R : RP β α} {c : Cfg} {d : Den α} {F : Hp} {m : List Addr} {σ : St} {H : Hp} {Q : β → Hp → Prop} (h : rdAt R c d F m σ H Q) : rd R c d σ H Q := ⟨F, m, h⟩

/-- an answer, in a grown heap -/
def Yl (K : PySem.W.Frag) (F : Hp) (m : List Addr) (H : Hp) (res : PV) (Q : VK) : Prop := ∀ F' H' v, Ext F H F' H' → Rep K F' m v res → Q v H'
theorem Yl.here {K : PySem.W.Frag} {F : Hp} {m : List Addr} {H : Hp} {res : PV} {Q : VK} (y : Yl K F m H res Q) {v : V} (r : Rep K F m v res) : Q v H := y F H v (Ext.refl _ _) r

/-! ### names and constants -/
def dC (p : PV) : DE := Den.pure p
def dVar (i : Nat) : DE := fun env S => match env[i]? with
  | some (.v p) => .ok p env S
  | some (.ol ps) => .ok (.lst ps) (env.set i (.v (.lst ps))) S
  | some (.od ps) => .ok (.dk ps) (env.set i (.v (.dk ps))) S
  | some (.ot ps) => .ok (.dt ps) (env.set i (.v (.dt ps))) S
  | _ => .st
theorem r_int {X : Cx} {c : Cfg} {i j pos} : PE X (.Constant (.int i) j pos) (rE c (dC (.int i))) := PE.weak pe_int fun _ _ _ ⟨_, _, h⟩ => h.end0 (Rep.int i)
theorem r_bl {X : Cx} {c : Cfg} {i j pos} : PE X (.Constant (.bool i) j pos) (rE c (dC (.bl i))) := PE.weak pe_bl fun _ _ _ ⟨_, _, h⟩ => h.end0 (Rep.bl i)
theorem r_non {X : Cx} {c : Cfg} {j pos} : PE X (.Constant .none j pos) (rE c (dC .non)) := PE.weak pe_non fun _ _ _ ⟨_, _, h⟩ => h.end0 Rep.non
theorem r_str {X : Cx} {c : Cfg} {i j pos} : PE X (.Constant (.str i) j pos) (rE c (dC (.str i))) := PE.weak pe_str fun _ _ _ ⟨_, _, h⟩ => h.end0 (Rep.str i)

theorem set_get {env : DEnv} {i j : Nat} {s t : Slot} (h : (env.set i s)[j]? = some t) : (j = i ∧ t = s) ∨ (j ≠ i ∧ env[j]? = some t) := by
  by_cases e : j = i
  · subst e
    have hl : j < env.length := by
      have := (List.getElem?_eq_some_iff.mp h).1
      simpa using this
    rw [List.getElem?_set_self hl] at h
    cases h
    exact .inl ⟨rfl, rfl⟩
  · rw [List.getElem?_set_ne (Ne.symm e)] at h
    exact .inr ⟨e, h⟩
/-- an owned thing becomes frozen -/
theorem Rel.freeze {c : Cfg} {F H : Hp} {m : List Addr} {σ : St} {env : DEnv} {S : Stor} {i : Nat} {s : Slot} {a : Addr} {o : HO} {p : PV} (r : Rel c F m σ env S H) (he : env[i]? = some s) (hs : s.own = true) (ha : σ[i]? = some (some (.ref a)))
    (ho : H a = some o) (im : Imm o) (rp : Rep c.K (upd F a o) m (.ref a) p) : Rel c (upd F a o) m σ (env.set i (.v p)) S H ∧ Same F (upd F a o) := by
  have ow : Own env σ i a := ⟨s, he, hs, ha⟩
  obtain ⟨f0, fm, f1⟩ := r.ownf i a ow
  have same : Same F (upd F a o) := fun b u e => by rw [upd_ne (ne_of_none e f0)]; exact e
  refine ⟨⟨⟨fun b u e => ?_, fun b u e => ?_, r.r0.len, fun j b so h1 h2 => (r.r0.sto j b so h1 h2).mono same (List.prefix_refl _) rfl, r.r0.nd, fun b hb => ?_, r.r0.lkd⟩, by rw [List.length_set]; exact r.len, fun j t e => ?_, fun j k b h1 h2 => ?_, fun j b h1 => ?_, r.old, r.newm, r.pre, fun b h => ?_, r.f0.trans same, r.lkh⟩, same⟩
  · by_cases q : b = a
    · subst q; rw [upd_same] at e; cases e; exact .inl ho
    · rw [upd_ne q] at e; exact r.r0.sub b u e
  · by_cases q : b = a
    · subst q; rw [upd_same] at e; cases e; exact im
    · rw [upd_ne q] at e; exact r.r0.imm b u e
  · rw [upd_ne (fun (q : b = a) => fm (q ▸ hb))]; exact r.r0.muf b hb
  · rcases set_get e with ⟨rfl, rfl⟩ | ⟨ne, e⟩
    · exact ⟨_, ha, rp⟩
    · exact (r.slot j t e).mono same (List.prefix_refl _) fun _ _ _ => rfl
  · obtain ⟨s1, e1, o1, a1⟩ := h1
    obtain ⟨s2, e2, o2, a2⟩ := h2
    rcases set_get e1 with ⟨rfl, rfl⟩ | ⟨n1, e1⟩
    · cases o1
    · rcases set_get e2 with ⟨rfl, rfl⟩ | ⟨n2, e2⟩
      · cases o2
      · exact r.ownd j k b ⟨s1, e1, o1, a1⟩ ⟨s2, e2, o2, a2⟩
  · obtain ⟨s1, e1, o1, a1⟩ := h1
    rcases set_get e1 with ⟨rfl, rfl⟩ | ⟨n1, e1⟩
    · cases o1
    · obtain ⟨g0, g1, g2⟩ := r.ownf j b ⟨s1, e1, o1, a1⟩
      refine ⟨?_, g1, g2⟩
      rw [upd_ne (fun (q : b = a) => n1 (r.ownd j i b ⟨s1, e1, o1, a1⟩ (q.symm ▸ ow)))]
      exact g0
  · by_cases q : b = a
    · subst q; exact .inr (.inl f1)
    · rw [upd_ne q] at h; exact r.frn b h

theorem r_var {X : Cx} {c : Cfg} (i : Nat) {x : Str} {pos : Pos} (hN : X.N[i]? = some x := by rfl) (hv : Vis X.env.scope x := by first | exact Or.inl rfl | exact Or.inr (Or.inl rfl) | exact Or.inr (Or.inr rfl))
    (hd : (x == ("__debug__" : Str)) = false := by decide) (hcd : (x == ("__classdict__" : Str)) = false := by decide) : PE X (.Name x pos) (rE c (dVar i)) := by
  refine PE.weak (pe_var (i := i) hN hv hd hcd) fun σ H Q h => ?_
  obtain ⟨F, m, env, S, r, h⟩ := h
  unfold dVar at h
  split at h
  · rename_i p e
    obtain ⟨v, hv, q⟩ := r.slot i _ e
    exact ⟨v, hv, h F m H v r (Same.refl _) (List.prefix_refl _) q⟩
  · rename_i ps e
    obtain ⟨a, vs, ha, ho, q⟩ := r.slot i _ e
    have f0 := (r.ownf i a ⟨_, e, rfl, ha⟩).1
    have same : Same F (upd F a (.lst vs)) := fun b u e => by rw [upd_ne (ne_of_none e f0)]; exact e
    have rp : Rep c.K (upd F a (.lst vs)) m (.ref a) (.lst ps) := .lst upd_same (q.mono same (List.prefix_refl _))
    obtain ⟨r2, s2⟩ := r.freeze e rfl ha ho trivial rp
    exact ⟨_, ha, h _ m H _ r2 s2 (List.prefix_refl _) rp⟩
  · rename_i ps e
    obtain ⟨a, vs, ha, ho, q⟩ := r.slot i _ e
    have f0 := (r.ownf i a ⟨_, e, rfl, ha⟩).1
    have same : Same F (upd F a (.dK vs)) := fun b u e => by rw [upd_ne (ne_of_none e f0)]; exact e
    have rp : Rep c.K (upd F a (.dK vs)) m (.ref a) (.dk ps) := .dk upd_same (q.mono same (List.prefix_refl _))
    obtain ⟨r2, s2⟩ := r.freeze e rfl ha ho trivial rp
    exact ⟨_, ha, h _ m H _ r2 s2 (List.prefix_refl _) rp⟩
  · rename_i ps e
    obtain ⟨a, vs, ha, ho, q⟩ := r.slot i _ e
    have f0 := (r.ownf i a ⟨_, e, rfl, ha⟩).1
    have same : Same F (upd F a (.dT vs)) := fun b u e => by rw [upd_ne (ne_of_none e f0)]; exact e
    have rp : Rep c.K (upd F a (.dT vs)) m (.ref a) (.dt ps) := .dt upd_same (q.mono same (List.prefix_refl _))
    obtain ⟨r2, s2⟩ := r.freeze e rfl ha ho trivial rp
    exact ⟨_, ha, h _ m H _ r2 s2 (List.prefix_refl _) rp⟩
  · exact h.elim

/-! ### operators by values -/
abbrev G1 := Stor → PV → Option PV
abbrev G2 := Stor → PV → PV → Option PV
def d1 (g : G1) (da : DE) : DE := da.bind fun p => Den.getS.bind fun S => Den.opt (g S p)
def d2 (g : G2) (da db : DE) : DE := da.bind fun p => db.bind fun q => Den.getS.bind fun S => Den.opt (g S p q)
/-- the rule r of the machine serves the function g -/
def S2 (X : Cx) (r : R2) (g : G2) : Prop := ∀ (lk : List Addr) (F : Hp) (m : List Addr) (S : Stor) (H : Hp) (x y : V) (p q res : PV) (Q : VK),
  R0 X.K X.mg lk F m S H → Rep X.K F m x p → Rep X.K F m y q → g S p q = some res → Yl X.K F m H res Q → r x y H Q
def S1 (X : Cx) (r : V → Hp → VK → Prop) (g : G1) : Prop := ∀ (lk : List Addr) (F : Hp) (m : List Addr) (S : Stor) (H : Hp) (x : V) (p res : PV) (Q : VK),
  R0 X.K X.mg lk F m S H → Rep X.K F m x p → g S p = some res → Yl X.K F m H res Q → r x H Q
def O2 (X : Cx) (f : Value → Value → Sem Value) (g : G2) : Prop := ∃ r, OpR X f r ∧ S2 X r g
def O1 (X : Cx) (f : Value → Sem Value) (g : G1) : Prop := ∃ r, UnR X f r ∧ S1 X r g
section
variable {k : Nat} {X : Cx} {c : Cfg} {a b : Expr} {da db : DE} {pos : Pos}
theorem rd_two {g : G2} {r : R2} (hX : XOk k X c) (hs : S2 X r g) {σ : St} {H : Hp} {Q : VK} (h : rE c (d2 g da db) σ H Q) : rE c da σ H fun x H1 => rE c db σ H1 fun y H2 => r x y H2 Q := by
  obtain ⟨K, mg, F0, m0, H0, lk, W⟩ := c
  obtain rfl := hX.K
  obtain rfl := hX.mg
  obtain ⟨F, m, h⟩ := h
  refine (rd_bind h).imp fun v H1 ⟨F1, m1, p, s1, p1, q1, h⟩ => ?_
  refine (rd_bind h).imp fun w H2 ⟨F2, m2, q, s2, p2, q2, h⟩ => ?_
  obtain ⟨env, S, R, h⟩ := h.getS
  obtain ⟨res, e, h⟩ := h.opt
  exact hs _ _ _ _ _ _ _ _ _ _ _ R.r0 (q1.mono s2 p2) q2 e fun F' H' v x rv => h.end_ x rv
theorem rd_one {g : G1} {r : V → Hp → VK → Prop} (hX : XOk k X c) (hs : S1 X r g) {σ : St} {H : Hp} {Q : VK} (h : rE c (d1 g da) σ H Q) : rE c da σ H fun x H1 => r x H1 Q := by
  obtain ⟨K, mg, F0, m0, H0, lk, W⟩ := c
  obtain rfl := hX.K
  obtain rfl := hX.mg
  obtain ⟨F, m, h⟩ := h
  refine (rd_bind h).imp fun v H1 ⟨F1, m1, p, s1, p1, q1, h⟩ => ?_
  obtain ⟨env, S, R, h⟩ := h.getS
  obtain ⟨res, e, h⟩ := h.opt
  exact hs _ _ _ _ _ _ _ _ _ R.r0 q1 e fun F' H' v x rv => h.end_ x rv
theorem r_bin {op : Operator} {g : G2} (hX : XOk k X c) (o : O2 X (binaryOp op) g) (ha : PE X a (rE c da)) (hb : PE X b (rE c db)) : PE X (.BinOp a op b pos) (rE c (d2 g da db)) :=
  let ⟨_, o1, o2⟩ := o; PE.weak (pe_op o1 ha hb) fun _ _ _ h => rd_two hX o2 h
theorem r_cmp {op : CmpOp} {g : G2} (hX : XOk k X c) (o : O2 X (compareOp op) g) (ha : PE X a (rE c da)) (hb : PE X b (rE c db)) (hm : behindInMarks op b = false) : PE X (.Compare a [op] [b] pos) (rE c (d2 g da db)) :=
  let ⟨_, o1, o2⟩ := o; PE.weak (pe_cmpR o1 ha hb hm) fun _ _ _ h => rd_two hX o2 h
theorem r_un {op : UnaryOp} {g : G1} (hX : XOk k X c) (o : O1 X (unaryOp op) g) (ha : PE X a (rE c da)) : PE X (.UnaryOp op a pos) (rE c (d1 g da)) :=
  let ⟨_, o1, o2⟩ := o; PE.weak (pe_un o1 ha) fun _ _ _ h => rd_one hX o2 h
end

/-! ### tests -/
def dT (da : DE) : Den Bool := da.bind fun p => match p with
  | .bl b => Den.pure b
  | _ => Den.fail
def truP (S : Stor) : PV → Option Bool
  | .non => some false
  | .bl b => some b
  | .int i => some (i != 0)
  | .str x => if x.length ≤ sizeLine then some (x.length != 0) else none
  | .tup xs => some (!xs.isEmpty)
  | .lst xs => some (!xs.isEmpty)
  | .rol xs => some (!xs.isEmpty)
  | .ftp xs => some (!xs.isEmpty)
  | .dk xs => none
  | .dt xs => none
  | .ref n => match S[n]? with
    | some (.lst xs) => some (!xs.isEmpty)
    | _ => none
def dTru (da : DE) : Den Bool := da.bind fun p => Den.getS.bind fun S => Den.opt (truP S p)
section
variable {k : Nat} {X : Cx} {c : Cfg} {a b : Expr} {da db : DE} {ta tb : Den Bool} {pos : Pos} {rest : List Expr}
theorem rdAt.fail {β α : Type} {R : RP β α} {c : Cfg} {F : Hp} {m : List Addr} {σ : St} {H : Hp} {Q : β → Hp → Prop} (h : rdAt R c (Den.fail) F m σ H Q) : False := by
  obtain ⟨env, S, r, h⟩ := h
  exact h
theorem dT_of {σ : St} {H : Hp} {Q : Bool → Hp → Prop} (h : rT c (dT da) σ H Q) : rE c da σ H fun x H1 => ∃ b, x = .bl b ∧ Q b H1 := by
  obtain ⟨F, m, h⟩ := h
  refine (rd_bind h).imp fun v H1 ⟨F1, m1, p, s1, p1, q1, h⟩ => ?_
  cases p with
  | bl b => cases q1; exact ⟨_, rfl, h.end0 rfl⟩
  | non => exact h.fail.elim
  | int i => exact h.fail.elim
  | str i => exact h.fail.elim
  | tup i => exact h.fail.elim
  | lst i => exact h.fail.elim
  | rol i => exact h.fail.elim
  | ftp i => exact h.fail.elim
  | dk i => exact h.fail.elim
  | dt i => exact h.fail.elim
  | ref i => exact h.fail.elim
theorem ftp_h {lk : List Addr} {K : PySem.W.Frag} {mg : Str → Option Value} {F H : Hp} {m : List Addr} {S : Stor} {a : Addr} {ob : Obj} {vs : List V} (R : R0 K mg lk F m S H) (hf : F a = some (.frz ob (.tup vs))) : H a = some (.frz ob (.tup vs)) := by
  rcases R.sub _ _ hf with z | ⟨_, z, _⟩
  · exact z
  · exact z.elim
theorem ftp_sq {lk : List Addr} {K : PySem.W.Frag} {mg : Str → Option Value} {F H : Hp} {m : List Addr} {S : Stor} {a : Addr} {ob : Obj} {vs : List V} (R : R0 K mg lk F m S H) (hf : F a = some (.frz ob (.tup vs))) : SqT K H a vs := .inl (.inr ⟨ob, ftp_h R hf⟩)
/-- the truth of a value -/
theorem tru_rep {lk : List Addr} {K : PySem.W.Frag} {mg : Str → Option Value} {F H : Hp} {m : List Addr} {S : Stor} {v : V} {p : PV} {b : Bool} (R : R0 K mg lk F m S H) (q : Rep K F m v p) (h : truP S p = some b) : TruV K v H b := by
  have lenE : ∀ {vs : List V} {ps : List PV}, RepL K F m vs ps → ps.isEmpty = vs.isEmpty := fun r => by cases r <;> rfl
  cases q with
  | non => cases h; rfl
  | bl b => cases h; rfl
  | int i => cases h; rfl
  | str x =>
    simp only [truP] at h
    split at h
    · rename_i hl
      cases h
      refine ⟨hl, ?_⟩
      have : (x.length != 0) = ((x.length : Int) != 0) := by
        cases e : x.length with
        | zero => rfl
        | succ n => rw [bne_iff_ne.mpr (Nat.succ_ne_zero n), bne_iff_ne.mpr (by omega)]
      exact this
    · cases h
  | tup hf r =>
    cases h
    exact .inr (.inl ⟨_, SqT.of (R.sub _ _ hf).tup, by rw [lenE r]⟩)
  | lst hf r =>
    cases h
    exact .inl ⟨_, SqL.of (R.sub _ _ hf).lst, by rw [lenE r]⟩
  | ftp hf e1 e2 r =>
    cases h
    exact .inr (.inl ⟨_, ftp_sq R hf, by rw [lenE r]⟩)
  | rol hf r =>
    cases h
    refine .inl ⟨_, ?_, by rw [lenE r]⟩
    rcases hf with (hf | ⟨ob, hf⟩) | hf
    · exact SqL.of (R.sub _ _ hf).lst
    · exact .inl (.inr ⟨ob, by rcases R.sub _ _ hf with z | ⟨_, z, _⟩; exact z; exact z.elim⟩)
    · exact .inr hf
  | dk hf r => cases h
  | dt hf r => cases h
  | ref hm =>
    simp only [truP] at h
    split at h
    · rename_i xs hs
      cases h
      obtain ⟨vs, h1, h2⟩ := R.sto _ _ _ hm hs
      exact .inl ⟨_, SqL.of h1, by rw [lenE h2]⟩
    · cases h
theorem dTru_of {k : Nat} (hX : XOk k X c) {σ : St} {H : Hp} {Q : Bool → Hp → Prop} (h : rT c (dTru da) σ H Q) : rE c da σ H fun x H1 => ∃ b, TruV X.K x H1 b ∧ Q b H1 := by
  obtain ⟨F, m, h⟩ := h
  refine (rd_bind h).imp fun v H1 ⟨F1, m1, p, s1, p1, q1, h⟩ => ?_
  obtain ⟨env, S, R, h⟩ := h.getS
  obtain ⟨res, e, h⟩ := h.opt
  refine ⟨res, ?_, h.end0 rfl⟩
  rw [hX.K]
  exact tru_rep R.r0 q1 e
theorem t_tru (hX : XOk k X c) (ha : PE X a (rE c da)) (he : ∀ whole, isTrue a X.env whole = (do let v ← whole; standAt a.pos; holding [v] (truthy v)) := by intro _; rfl) : PT X a (rT c (dTru da)) :=
  PT.weak (pt_truth ha he) fun σ H Q h => dTru_of hX h
theorem t_cmp {op : CmpOp} {g : G2} (hX : XOk k X c) (o : O2 X (compareOp op) g) (ha : PE X a (rE c da)) (hb : PE X b (rE c db)) (hm : behindInMarks op b = false) : PT X (.Compare a [op] [b] pos) (rT c (dT (d2 g da db))) :=
  let ⟨_, o1, o2⟩ := o; PT.weak (pt_cmpR o1 ha hb hm) fun _ _ _ h => rd_two hX o2 (dT_of h)
def dNotT (t : Den Bool) : Den Bool := t.bind fun b => Den.pure (!b)
def dAndT (t u : Den Bool) : Den Bool := t.bind fun b => if b then u else Den.pure false
def dOrT (t u : Den Bool) : Den Bool := t.bind fun b => if b then Den.pure true else u
theorem t_not (ha : PT X a (rT c ta)) : PT X (.UnaryOp .Not a pos) (rT c (dNotT ta)) := by
  refine PT.weak (pt_not ha) fun σ H Q h => ?_
  obtain ⟨F, m, h⟩ := h
  refine (rd_bind h).imp fun v H1 ⟨F1, m1, p, s1, p1, q1, h⟩ => ?_
  cases q1
  exact h.end0 rfl
theorem and_of {σ : St} {H : Hp} {Q : Bool → Hp → Prop} (h : rT c (dAndT ta tb) σ H Q) : tAnd (rT c ta) (rT c tb) σ H Q := by
  obtain ⟨F, m, h⟩ := h
  refine (rd_bind h).imp fun v H1 ⟨F1, m1, p, s1, p1, q1, h⟩ => ?_
  cases q1
  cases v with
  | true => exact h.rd
  | false => exact h.end0 rfl
theorem or_of {σ : St} {H : Hp} {Q : Bool → Hp → Prop} (h : rT c (dOrT ta tb) σ H Q) : tOr (rT c ta) (rT c tb) σ H Q := by
  obtain ⟨F, m, h⟩ := h
  refine (rd_bind h).imp fun v H1 ⟨F1, m1, p, s1, p1, q1, h⟩ => ?_
  cases q1
  cases v with
  | true => exact h.end0 rfl
  | false => exact h.rd
theorem w_and1 (ha : PT X a (rT c ta)) : PW X (.BoolOp .And [a] pos) (rT c ta) := pw_and1 ha
theorem w_or1 (ha : PT X a (rT c ta)) : PW X (.BoolOp .Or [a] pos) (rT c ta) := pw_or1 ha
theorem w_and (ha : PT X a (rT c ta)) (hb : PW X (.BoolOp .And (b :: rest) pos) (rT c tb)) : PW X (.BoolOp .And (a :: b :: rest) pos) (rT c (dAndT ta tb)) := PW.weak (pw_and ha hb) fun _ _ _ h => and_of h
theorem w_or (ha : PT X a (rT c ta)) (hb : PW X (.BoolOp .Or (b :: rest) pos) (rT c tb)) : PW X (.BoolOp .Or (a :: b :: rest) pos) (rT c (dOrT ta tb)) := PW.weak (pw_or ha hb) fun _ _ _ h => or_of h
theorem t_w (h : PW X a (rT c ta)) : PT X a (rT c ta) := h.pt
/-- .. as values -/
def dAndV (da db : DE) : DE := da.bind fun p => Den.getS.bind fun S => (Den.opt (truP S p)).bind fun b => if b then db else Den.pure p
def dOrV (da db : DE) : DE := da.bind fun p => Den.getS.bind fun S => (Den.opt (truP S p)).bind fun b => if b then Den.pure p else db
def dNotV (da : DE) : DE := da.bind fun p => Den.getS.bind fun S => (Den.opt (truP S p)).bind fun b => Den.pure (.bl (!b))
theorem rdAt.opt_bind {β α α' : Type} {R : RP β α} {c : Cfg} {o : Option α'} {k : α' → Den α} {F : Hp} {m : List Addr} {σ : St} {H : Hp} {Q : β → Hp → Prop} (h : rdAt R c ((Den.opt o).bind k) F m σ H Q) : ∃ p, o = some p ∧ rdAt R c (k p) F m σ H Q := by
  obtain ⟨env, S, r, h⟩ := h
  cases o with
  | none => exact h.elim
  | some p => exact ⟨p, rfl, env, S, r, h⟩
theorem r_one {op} (ha : PE X a (rE c da)) : PE X (.BoolOp op [a] pos) (rE c da) := pe_one ha
theorem r_and (hX : XOk k X c) (ha : PE X a (rE c da)) (hb : PE X (.BoolOp .And (b :: rest) pos) (rE c db)) : PE X (.BoolOp .And (a :: b :: rest) pos) (rE c (dAndV da db)) := by
  refine PE.weak (pe_andT ha hb) fun σ H Q h => ?_
  obtain ⟨F, m, h⟩ := h
  refine (rd_bind h).imp fun v H1 ⟨F1, m1, p, s1, p1, q1, h⟩ => ?_
  obtain ⟨env, S, R, h⟩ := h.getS
  obtain ⟨res, e, h⟩ := h.opt_bind
  refine ⟨res, by rw [hX.K]; exact tru_rep R.r0 q1 e, ?_⟩
  cases res with
  | true => exact h.rd
  | false => exact h.end0 q1
theorem r_not (hX : XOk k X c) (ha : PE X a (rE c da)) : PE X (.UnaryOp .Not a pos) (rE c (dNotV da)) := by
  refine PE.weak (pe_notT ha) fun σ H Q h => ?_
  obtain ⟨F, m, h⟩ := h
  refine (rd_bind h).imp fun v H1 ⟨F1, m1, p, s1, p1, q1, h⟩ => ?_
  obtain ⟨env, S, R, h⟩ := h.getS
  obtain ⟨res, e, h⟩ := h.opt_bind
  exact ⟨res, by rw [hX.K]; exact tru_rep R.r0 q1 e, h.end0 (Rep.bl _)⟩
def dIf (t : Den Bool) (da db : DE) : DE := t.bind fun b => if b then da else db
theorem r_if {e : Expr} {t : Den Bool} (hc : PT X e (rT c t)) (ha : PE X a (rE c da)) (hb : PE X b (rE c db)) : PE X (.IfExp e a b pos) (rE c (dIf t da db)) := by
  refine PE.weak (pe_ifExp hc ha hb) fun σ H Q h => ?_
  obtain ⟨F, m, h⟩ := h
  refine (rd_bind h).imp fun v H1 ⟨F1, m1, p, s1, p1, q1, h⟩ => ?_
  cases q1
  cases v with
  | true => exact h.rd
  | false => exact h.rd
/-- a < b < c -/
def dChain (g g' : G2) (da db dc : DE) : DE := da.bind fun p => db.bind fun q => Den.getS.bind fun S => (Den.opt (g S p q)).bind fun z => match z with
  | .bl true => dc.bind fun r => Den.getS.bind fun S => Den.opt (g' S q r)
  | .bl false => Den.pure (.bl false)
  | _ => Den.fail
end

/-! ### argument lists, displays -/
def aNil : Den (List PV) := Den.pure []
def aCons (da : DE) (dr : Den (List PV)) : Den (List PV) := da.bind fun p => dr.bind fun ps => Den.pure (p :: ps)
section
variable {k : Nat} {X : Cx} {c : Cfg} {e : Expr} {es : List Expr} {da : DE} {dr : Den (List PV)} {pos : Pos}
theorem a_nil : PA X [] (rA c aNil) := PA.weak pa_nil fun _ _ _ ⟨_, _, h⟩ => h.end0 RepL.nil
theorem a_cons (ha : PE X e (rE c da)) (hr : PA X es (rA c dr)) (hs : starEach (e :: es) X.env = (false, eval e X.env) :: starEach es X.env := by rfl) : PA X (e :: es) (rA c (aCons da dr)) := by
  refine PA.weak (pa_cons ha hr hs) fun σ H Q h => ?_
  obtain ⟨F, m, h⟩ := h
  refine (rd_bind h).imp fun v H1 ⟨F1, m1, p, s1, p1, q1, h⟩ => ?_
  refine (rd_bind h).imp fun w H2 ⟨F2, m2, q, s2, p2, q2, h⟩ => ?_
  exact h.end0 (RepL.cons (q1.mono s2 p2) q2)
theorem Yl.new {K : PySem.W.Frag} {mg : Str → Option Value} {lk : List Addr} {F H : Hp} {m : List Addr} {S : Stor} {res : PV} {Q : VK} (R : R0 K mg lk F m S H) {o : HO} {p : Addr} (hp : H p = none) (im : Imm o) (y : Yl K F m H res Q) (r : Same F (upd F p o) → Rep K (upd F p o) m (.ref p) res) : Q (.ref p) (upd H p o) := by
  have x := Ext.new R.fne hp im
  exact y _ _ _ x (r x.f)
def dTup (dr : Den (List PV)) : DE := dr.bind fun ps => if ps.length ≤ sizeLine then Den.pure (.tup ps) else Den.fail
def dLst (dr : Den (List PV)) : DE := dr.bind fun ps => if ps.length ≤ sizeLine then Den.pure (.lst ps) else Den.fail
theorem rdAt.if_ {β α : Type} {R : RP β α} {c : Cfg} {F : Hp} {m : List Addr} {σ : St} {H : Hp} {Q : β → Hp → Prop} {C : Prop} [Decidable C] {d : Den α} (h : rdAt R c (if C then d else Den.fail) F m σ H Q) : C ∧ rdAt R c d F m σ H Q := by
  by_cases q : C
  · rw [if_pos q] at h; exact ⟨q, h⟩
  · rw [if_neg q] at h; exact h.fail.elim
theorem rdAt.yl {c : Cfg} {F : Hp} {m : List Addr} {σ : St} {H : Hp} {Q : VK} {p : PV} (h : rdAt (fun K F m v p => Rep K F m v p) c (Den.pure p) F m σ H Q) : Yl c.K F m H p Q := fun F' H' v x q => h.end_ x q
theorem rdAt.rel {β α : Type} {R : RP β α} {c : Cfg} {d : Den α} {F : Hp} {m : List Addr} {σ : St} {H : Hp} {Q : β → Hp → Prop} (h : rdAt R c d F m σ H Q) : ∃ env S, Rel c F m σ env S H := by
  obtain ⟨env, S, r, _⟩ := h
  exact ⟨env, S, r⟩
theorem r_tup {x1} (hr : PA X es (rA c dr)) : PE X (.Tuple es x1 pos) (rE c (dTup dr)) := by
  refine PE.weak (pe_tup hr) fun σ H Q h => ?_
  obtain ⟨F, m, h⟩ := h
  refine (rd_bind h).imp fun v H1 ⟨F1, m1, p, s1, p1, q1, h⟩ => ?_
  obtain ⟨hl, h⟩ := h.if_
  refine ⟨by rw [q1.length]; exact hl, fun a ha => ?_⟩
  obtain ⟨env, S, R⟩ := h.rel
  exact h.yl.new R.r0 ha trivial fun s => .tup upd_same (q1.mono s (List.prefix_refl _))
theorem r_lst (hr : PA X es (rA c dr)) : PE X (.List es pos) (rE c (dLst dr)) := by
  refine PE.weak (pe_lst hr) fun σ H Q h => ?_
  obtain ⟨F, m, h⟩ := h
  refine (rd_bind h).imp fun v H1 ⟨F1, m1, p, s1, p1, q1, h⟩ => ?_
  obtain ⟨hl, h⟩ := h.if_
  refine ⟨by rw [q1.length]; exact hl, fun a ha => ?_⟩
  obtain ⟨env, S, R⟩ := h.rel
  exact h.yl.new R.r0 ha trivial fun s => .lst upd_same (q1.mono s (List.prefix_refl _))
end
end Dn
end
section
set_option Elab.async false
set_option linter.all false
set_option maxRecDepth 100000
set_option maxHeartbeats 1000000
namespace Dn
open PySem L2 PySem.Spec PyProof.Rows

/-! ### values as data -/
mutual
def toD : PV → Option PyData
  | .non => some .none
  | .bl b => some (.bool b)
  | .int i => some (.int i)
  | .str x => some (.str x)
  | .tup xs => (toDs xs).map PyData.tuple
  | .ftp xs => (toDs xs).map PyData.tuple
  | .lst xs => (toDs xs).map PyData.list
  | _ => none
def toDs : List PV → Option (List PyData)
  | [] => some []
  | x :: xs => match toD x, toDs xs with
    | some a, some b => some (a :: b)
    | _, _ => none
end
section
variable {K : PySem.W.Frag} {mg : Str → Option Value} {lk : List Addr} {F H : Hp} {m : List Addr} {S : Stor}
mutual
theorem rep_dp (R : R0 K mg lk F m S H) : ∀ {v : V} {p : PV} {d : PyData}, Rep K F m v p → toD p = some d → Dp K H v d
  | _, _, _, .non, h => by cases h; exact .non
  | _, _, _, .bl b, h => by cases h; exact .bl b
  | _, _, _, .int b, h => by cases h; exact .int b
  | _, _, _, .str b, h => by cases h; exact .str b
  | _, _, _, .tup (ps := ps) hf r, h => by
    simp only [toD] at h
    cases e : toDs ps with
    | none => rw [e] at h; cases h
    | some ds => rw [e] at h; cases h; exact .tup (SqT.of (R.sub _ _ hf).tup) (rep_dps R r e)
  | _, _, _, .lst (ps := ps) hf r, h => by
    simp only [toD] at h
    cases e : toDs ps with
    | none => rw [e] at h; cases h
    | some ds => rw [e] at h; cases h; exact .lst (SqL.of (R.sub _ _ hf).lst) (rep_dps R r e)
  | _, _, _, .rol hf r, h => by cases h
  | _, _, _, .ftp (ps := ps) hf e1 e2 r, h => by
    simp only [toD] at h
    cases e : toDs ps with
    | none => rw [e] at h; cases h
    | some ds => rw [e] at h; cases h; exact .tup (ftp_sq R hf) (rep_dps R r e)
  | _, _, _, .dk hf r, h => by cases h
  | _, _, _, .dt hf r, h => by cases h
  | _, _, _, .ref hf, h => by cases h
theorem rep_dps (R : R0 K mg lk F m S H) : ∀ {vs : List V} {ps : List PV} {ds : List PyData}, RepL K F m vs ps → toDs ps = some ds → DpAll K H vs ds
  | _, _, _, .nil, h => by cases h; exact .nil
  | _, _, _, .cons (p := p) (ps := ps) h1 h2, h => by
    simp only [toDs] at h
    cases e1 : toD p with
    | none => rw [e1] at h; cases h
    | some a =>
      cases e2 : toDs ps with
      | none => rw [e1, e2] at h; cases h
      | some b => rw [e1, e2] at h; cases h; exact .cons (rep_dp R h1 e1) (rep_dps R h2 e2)
end
end

def eqP : G2 := fun _ p q => match toD p, toD q with
  | some d, some e => if SeqAt.shaped d = true ∧ SeqAt.shaped e = true then some (.bl (PyData.eqv d e)) else none
  | _, _ => none
def neP : G2 := fun _ p q => match toD p, toD q with
  | some d, some e => if SeqAt.shaped d = true ∧ SeqAt.shaped e = true then some (.bl (!PyData.eqv d e)) else none
  | _, _ => none
section
variable {k : Nat} {X : Cx}
theorem o_eq (hr : Room k X.A) : O2 X (compareOp .Eq) eqP := by
  refine ⟨_, op_eqD hr.units, fun lk F m S H x y p q res Q R rx ry h yl => ?_⟩
  unfold eqP at h
  split at h
  · rename_i d e h1 h2
    split at h
    · rename_i hh
      cases h
      exact ⟨d, e, rep_dp R rx h1, rep_dp R ry h2, hh.1, hh.2, yl.here (.bl _)⟩
    · cases h
  · cases h
theorem o_ne (hr : Room k X.A) : O2 X (compareOp .NotEq) neP := by
  refine ⟨_, op_neD hr.units, fun lk F m S H x y p q res Q R rx ry h yl => ?_⟩
  unfold neP at h
  split at h
  · rename_i d e h1 h2
    split at h
    · rename_i hh
      cases h
      exact ⟨d, e, rep_dp R rx h1, rep_dp R ry h2, hh.1, hh.2, yl.here (.bl _)⟩
    · cases h
  · cases h
/-! ### order of ints -/
def cmpI (f : Int → Int → Bool) : G2 := fun _ p q => match p, q with
  | .int i, .int j => some (.bl (f i j))
  | _, _ => none
theorem s_cmpI (f : Int → Int → Bool) : S2 X (rI0 fun i j => .bl (f i j)) (cmpI f) := by
  intro lk F m S H x y p q res Q R rx ry h yl
  unfold cmpI at h
  split at h
  · cases h; cases rx; cases ry; exact ⟨_, _, rfl, rfl, yl.here (.bl _)⟩
  · cases h
abbrev ltP : G2 := cmpI fun i j => decide (i < j)
abbrev leP : G2 := cmpI fun i j => decide (i ≤ j)
abbrev gtP : G2 := cmpI fun i j => decide (j < i)
abbrev geP : G2 := cmpI fun i j => decide (j ≤ i)
theorem o_lt : O2 X (compareOp .Lt) ltP := ⟨_, op_lt, s_cmpI _⟩
theorem o_gt : O2 X (compareOp .Gt) gtP := ⟨_, op_gt, s_cmpI _⟩
/-! ### is None -/
def isNonP : G2 := fun _ p q => match q with
  | .non => some (.bl (match p with | .non => true | _ => false))
  | _ => none
def notNonP : G2 := fun _ p q => match q with
  | .non => some (.bl (match p with | .non => false | _ => true))
  | _ => none
theorem o_is : O2 X (compareOp .Is) isNonP := by
  refine ⟨_, op_isN, fun lk F m S H x y p q res Q R rx ry h yl => ?_⟩
  unfold isNonP at h
  split at h
  · cases h; cases ry
    refine ⟨rfl, ?_⟩
    cases rx <;> exact yl.here (.bl _)
  · cases h
theorem o_isnot : O2 X (compareOp .IsNot) notNonP := by
  refine ⟨_, op_notN, fun lk F m S H x y p q res Q R rx ry h yl => ?_⟩
  unfold notNonP at h
  split at h
  · cases h; cases ry
    refine ⟨rfl, ?_⟩
    cases rx <;> exact yl.here (.bl _)
  · cases h
/-! ### arithmetic -/
def addP : G2 := fun _ p q => match p, q with
  | .int i, .int j => some (.int (i + j))
  | .str x, .str y => if x.length + y.length ≤ sizeLine then some (.str (x ++ y)) else none
  | .tup xs, .tup ys => if xs.length + ys.length ≤ sizeLine then some (.tup (xs ++ ys)) else none
  | .lst xs, .lst ys => if xs.length + ys.length ≤ sizeLine then some (.lst (xs ++ ys)) else none
  | _, _ => none
theorem o_add : O2 X (binaryOp .Add) addP := by
  refine ⟨_, op_add.or (op_add_str.or (op_catA.or op_cat)), fun lk F m S H x y p q res Q R rx ry h yl => ?_⟩
  unfold addP at h
  split at h
  · cases h; cases rx; cases ry; exact .inl ⟨_, _, rfl, rfl, yl.here (.int _)⟩
  · split at h
    · rename_i hh
      cases h; cases rx; cases ry; exact .inr (.inl ⟨_, _, rfl, rfl, hh, yl.here (.str _)⟩)
    · cases h
  · split at h
    · rename_i xs ys hh
      cases h; cases rx; cases ry
      rename_i a vs hf rl b ws hg rm
      refine .inr (.inr (.inl ⟨a, b, vs, ws, rfl, rfl, SqT.of (R.sub _ _ hf).tup, SqT.of (R.sub _ _ hg).tup, by rw [rl.length, rm.length]; exact hh, fun e => ?_, fun _ e => ?_, fun _ _ d hd => ?_⟩))
      · subst e; cases rl; exact yl.here (.tup hg rm)
      · subst e; cases rm; refine yl.here ?_; rw [List.append_nil]; exact .tup hf rl
      · exact yl.new R hd trivial fun s => .tup upd_same ((rl.append rm).mono s (List.prefix_refl _))
    · cases h
  · split at h
    · rename_i xs ys hh
      cases h; cases rx; cases ry
      rename_i a vs hf rl b ws hg rm
      refine .inr (.inr (.inr ⟨a, b, vs, ws, rfl, rfl, (R.sub _ _ hf).lst, (R.sub _ _ hg).lst, by rw [rl.length, rm.length]; exact hh, fun d hd => ?_⟩))
      exact yl.new R hd trivial fun s => .lst upd_same ((rl.append rm).mono s (List.prefix_refl _))
    · cases h
  · cases h
def subP : G2 := fun _ p q => match p, q with
  | .int i, .int j => some (.int (i - j))
  | _, _ => none
theorem o_sub : O2 X (binaryOp .Sub) subP := by
  refine ⟨_, op_sub, fun lk F m S H x y p q res Q R rx ry h yl => ?_⟩
  unfold subP at h
  split at h
  · cases h; cases rx; cases ry; exact ⟨_, _, rfl, rfl, yl.here (.int _)⟩
  · cases h
def mulOk (i j : Int) : Bool := (decide (-(2 ^ 64) < i) && decide (i < 2 ^ 64)) || (decide (-(2 ^ 64) < j) && decide (j < 2 ^ 64))
def mulP : G2 := fun _ p q => match p, q with
  | .int i, .int j => if mulOk i j then some (.int (i * j)) else none
  | .tup xs, .int j => if xs.length ≤ 1000 ∧ xs ≠ [] ∧ 2 ≤ j ∧ j ≤ 1000 then some (.tup (List.replicate j.toNat xs).flatten) else none
  | .lst xs, .int j => if xs.length ≤ 1000 ∧ -1000 ≤ j ∧ j ≤ 1000 then some (.lst (List.replicate j.toNat xs).flatten) else none
  | _, _ => none
theorem o_mul : O2 X (binaryOp .Mult) mulP := by
  refine ⟨_, op_mul.or (op_repT.or op_rep), fun lk F m S H x y p q res Q R rx ry h yl => ?_⟩
  unfold mulP at h
  split at h
  · split at h
    · rename_i hh
      cases h; cases rx; cases ry
      simp only [mulOk, Bool.or_eq_true, Bool.and_eq_true, decide_eq_true_eq] at hh
      exact .inl ⟨_, _, rfl, rfl, hh, yl.here (.int _)⟩
    · cases h
  · split at h
    · rename_i hh
      obtain ⟨h1, h2, h3, h4⟩ := hh
      cases h; cases rx; cases ry
      rename_i a vs hf rl
      refine .inr (.inl ⟨a, _, vs, rfl, rfl, SqT.of (R.sub _ _ hf).tup, fun e => ?_, h3, h4, by rw [rl.length]; exact h1, fun d hd => ?_⟩)
      · subst e; cases rl; exact h2 rfl
      · exact yl.new R hd trivial fun s => .tup upd_same ((rl.flat _).mono s (List.prefix_refl _))
    · cases h
  · split at h
    · rename_i hh
      obtain ⟨h1, h2, h3⟩ := hh
      cases h; cases rx; cases ry
      rename_i j a vs hf rl
      refine .inr (.inr ⟨a, _, vs, rfl, rfl, (R.sub _ _ hf).lst, by omega, by omega, ?_, fun d hd => ?_⟩)
      · rw [rl.length, sizeLine_eq]
        have : j.toNat ≤ 1000 := by omega
        exact Nat.le_trans (Nat.mul_le_mul h1 this) (by decide)
      · exact yl.new R hd trivial fun s => .lst upd_same ((rl.flat _).mono s (List.prefix_refl _))
    · cases h
  · cases h
def fdivP : G2 := fun _ p q => match p, q with
  | .int i, .int j => if 0 < j ∧ j < 1073741824 then some (.int (i / j)) else none
  | _, _ => none
theorem o_fdiv : O2 X (binaryOp .FloorDiv) fdivP := by
  refine ⟨_, op_fdiv, fun lk F m S H x y p q res Q R rx ry h yl => ?_⟩
  unfold fdivP at h
  split at h
  · split at h
    · rename_i hh
      cases h; cases rx; cases ry; exact ⟨_, _, rfl, rfl, hh, yl.here (.int _)⟩
    · cases h
  · cases h
def modP : G2 := fun _ p q => match p, q with
  | .int i, .int j => if 0 < j then some (.int (i % j)) else none
  | _, _ => none
theorem o_mod : O2 X (binaryOp .Mod) modP := by
  refine ⟨_, op_mod, fun lk F m S H x y p q res Q R rx ry h yl => ?_⟩
  unfold modP at h
  split at h
  · split at h
    · rename_i hh
      cases h; cases rx; cases ry; exact ⟨_, _, rfl, rfl, hh, yl.here (.int _)⟩
    · cases h
  · cases h
def powP : G2 := fun _ p q => match p, q with
  | .int i, .int j => if 0 ≤ j ∧ j ≤ 1000000 ∧ i.natAbs < 2 ^ 64 then some (.int (i ^ j.toNat)) else none
  | _, _ => none
theorem o_pow : O2 X (binaryOp .Pow) powP := by
  refine ⟨_, op_pow, fun lk F m S H x y p q res Q R rx ry h yl => ?_⟩
  unfold powP at h
  split at h
  · split at h
    · rename_i hh
      cases h; cases rx; cases ry; exact ⟨_, _, rfl, rfl, hh, yl.here (.int _)⟩
    · cases h
  · cases h
def negP : G1 := fun _ p => match p with
  | .int i => some (.int (-i))
  | _ => none
theorem o_neg : O1 X (unaryOp .USub) negP := by
  refine ⟨_, un_neg, fun lk F m S H x p res Q R rx h yl => ?_⟩
  unfold negP at h
  split at h
  · cases h; cases rx; exact ⟨_, rfl, yl.here (.int _)⟩
  · cases h
end

/-! ### keys -/
def keyP : PV → Option Key
  | .int i => some (.inl i)
  | .str x => some (.inr x)
  | _ => none
def keysP : List PV → Option (List Key)
  | [] => some []
  | p :: ps => match keyP p, keysP ps with
    | some k, some ks => some (k :: ks)
    | _, _ => none
def getKV {κ : Type} [DecidableEq κ] (kvs : List (κ × PV)) (k : κ) : Option PV := (kvs.find? fun kv => decide (kv.1 = k)).map (·.2)
section
variable {K : PySem.W.Frag} {F H : Hp} {m : List Addr}
theorem key_rep {v : V} {p : PV} {k : Key} (r : Rep K F m v p) (h : keyP p = some k) : v = kV k := by
  cases r with
  | int i => cases h; rfl
  | str i => cases h; rfl
  | _ => cases h
theorem keys_rep : ∀ {vs : List V} {ps : List PV} {ks : List Key}, RepL K F m vs ps → keysP ps = some ks → vs = ks.map kV
  | _, _, _, .nil, h => by cases h; rfl
  | _, _, _, .cons (p := p) (ps := ps) h1 h2, h => by
    simp only [keysP] at h
    cases e1 : keyP p with
    | none => rw [e1] at h; cases h
    | some a =>
      cases e2 : keysP ps with
      | none => rw [e1, e2] at h; cases h
      | some b => rw [e1, e2] at h; cases h; rw [List.map_cons, key_rep h1 e1, keys_rep h2 e2]
theorem RepK.get : ∀ {vs : List (Key × V)} {ps : List (Key × PV)}, RepK K F m vs ps → ∀ k : Key, (∃ v p, valV vs k = some v ∧ getKV ps k = some p ∧ Rep K F m v p) ∨ (valV vs k = none ∧ getKV ps k = none)
  | _, _, .nil, k => .inr ⟨rfl, rfl⟩
  | _, _, .cons (k := j) (v := v) (p := p) h1 h2, k => by
    by_cases e : j = k
    · exact .inl ⟨v, p, by simp [valV, List.find?_cons, e], by simp [getKV, List.find?_cons, e], h1⟩
    · rcases RepK.get h2 k with ⟨v', p', a, b, r⟩ | ⟨a, b⟩
      · exact .inl ⟨v', p', by simp only [valV, List.find?_cons, decide_eq_false e] at a ⊢; exact a, by simp only [getKV, List.find?_cons, decide_eq_false e] at b ⊢; exact b, r⟩
      · exact .inr ⟨by simp only [valV, List.find?_cons, decide_eq_false e] at a ⊢; exact a, by simp only [getKV, List.find?_cons, decide_eq_false e] at b ⊢; exact b⟩
theorem RepT.get : ∀ {vs : List (List Key × V)} {ps : List (List Key × PV)}, RepT K F m vs ps → ∀ k : List Key, (∃ v p, valV vs k = some v ∧ getKV ps k = some p ∧ Rep K F m v p) ∨ (valV vs k = none ∧ getKV ps k = none)
  | _, _, .nil, k => .inr ⟨rfl, rfl⟩
  | _, _, .cons (k := j) (v := v) (p := p) h1 h2, k => by
    by_cases e : j = k
    · exact .inl ⟨v, p, by simp [valV, List.find?_cons, e], by simp [getKV, List.find?_cons, e], h1⟩
    · rcases RepT.get h2 k with ⟨v', p', a, b, r⟩ | ⟨a, b⟩
      · exact .inl ⟨v', p', by simp only [valV, List.find?_cons, decide_eq_false e] at a ⊢; exact a, by simp only [getKV, List.find?_cons, decide_eq_false e] at b ⊢; exact b, r⟩
      · exact .inr ⟨by simp only [valV, List.find?_cons, decide_eq_false e] at a ⊢; exact a, by simp only [getKV, List.find?_cons, decide_eq_false e] at b ⊢; exact b⟩
end

/-! ### in -/
def flatP : PV → Bool
  | .non => true
  | .bl _ => true
  | .int _ => true
  | .str _ => true
  | _ => false
def eqF : PV → PV → Bool
  | .non, .non => true
  | .bl a, .bl b => a == b
  | .bl a, .int b => (if a then 1 else 0) == b
  | .int a, .bl b => a == (if b then 1 else 0)
  | .int a, .int b => a == b
  | .str a, .str b => a == b
  | _, _ => false
def memP (S : Stor) (p q : PV) : Option Bool := match q with
  | .tup xs => if flatP p && xs.all flatP then some (xs.any fun y => eqF y p) else none
  | .ftp xs => if flatP p && xs.all flatP then some (xs.any fun y => eqF y p) else none
  | .lst xs => match toD p, toDs xs with
    | some d, some ds => if SeqAt.shaped d = true ∧ SeqAt.shaped (.list ds) = true then some (ds.any fun z => PyData.eqv z d) else none
    | _, _ => none
  | .dk kvs => (keyP p).map fun k => (getKV kvs k).isSome
  | .dt kvs => match p with
    | .tup ks => (keysP ks).map fun k => (getKV kvs k).isSome
    | _ => none
  | _ => none
def inP : G2 := fun S p q => (memP S p q).map PV.bl
section
variable {K : PySem.W.Frag} {mg : Str → Option Value} {lk : List Addr} {F H : Hp} {m : List Addr} {S : Stor}
theorem flat_rep {v : V} {p : PV} (r : Rep K F m v p) (h : flatP p = true) : flatV v = true := by
  cases r <;> first | rfl | cases h
theorem flats_rep : ∀ {vs : List V} {ps : List PV}, RepL K F m vs ps → ps.all flatP = true → vs.all flatV = true
  | _, _, .nil, _ => rfl
  | _, _, .cons h1 h2, h => by
    rw [List.all_cons, Bool.and_eq_true] at h ⊢
    exact ⟨flat_rep h1 h.1, flats_rep h2 h.2⟩
theorem eqF_rep {x y : V} {p q : PV} (r : Rep K F m x p) (r' : Rep K F m y q) (hp : flatP p = true) (hq : flatP q = true) : eqV x y = eqF p q := by
  cases r <;> first | (cases hp; done) | (cases r' <;> first | (cases hq; done) | rfl)
theorem any_rep {x : V} {p : PV} (r : Rep K F m x p) (hp : flatP p = true) : ∀ {vs : List V} {ps : List PV}, RepL K F m vs ps → ps.all flatP = true → inV x vs = ps.any fun y => eqF y p
  | _, _, .nil, _ => rfl
  | _, _, .cons h1 h2, h => by
    rw [List.all_cons, Bool.and_eq_true] at h
    unfold inV
    rw [List.any_cons, List.any_cons, eqF_rep h1 r h.1 hp]
    have := any_rep r hp h2 h.2
    unfold inV at this
    rw [this]
theorem DGet_rep (R : R0 K mg lk F m S H) {x y : V} {p : PV} {kvs : List (Key × PV)} {k : Key} (rx : Rep K F m x (.dk kvs)) (ry : Rep K F m y p) (h : keyP p = some k) :
    ∃ a o, x = .ref a ∧ DGet H a y o ∧ o.isSome = (getKV kvs k).isSome ∧ (∀ q, getKV kvs k = some q → ∃ v, o = some v ∧ Rep K F m v q) ∧ ((getKV kvs k) = none → o = none) := by
  cases rx with
  | dk hf r =>
    rename_i a vs
    have e := key_rep ry h
    subst e
    refine ⟨a, valV vs k, rfl, .inl ⟨vs, k, (R.sub _ _ hf).rd, rfl, rfl⟩, ?_, fun q hq => ?_, fun hq => ?_⟩
    · rcases r.get k with ⟨v, q, h1, h2, _⟩ | ⟨h1, h2⟩ <;> rw [h1, h2] <;> rfl
    · rcases r.get k with ⟨v, q', h1, h2, h3⟩ | ⟨h1, h2⟩
      · rw [hq] at h2; cases h2; exact ⟨v, h1, h3⟩
      · rw [hq] at h2; cases h2
    · rcases r.get k with ⟨v, q', h1, h2, h3⟩ | ⟨h1, h2⟩
      · rw [hq] at h2; cases h2
      · exact h1
theorem DGetT_rep (R : R0 K mg lk F m S H) {x y : V} {ps : List PV} {kvs : List (List Key × PV)} {k : List Key} (rx : Rep K F m x (.dt kvs)) (ry : Rep K F m y (.tup ps)) (h : keysP ps = some k) :
    ∃ a o, x = .ref a ∧ DGet H a y o ∧ o.isSome = (getKV kvs k).isSome ∧ (∀ q, getKV kvs k = some q → ∃ v, o = some v ∧ Rep K F m v q) ∧ ((getKV kvs k) = none → o = none) := by
  cases rx with
  | dt hf r =>
    rename_i a vs
    cases ry with
    | tup hg rl =>
      rename_i b ws
      have e := keys_rep rl h
      subst e
      refine ⟨a, valV vs k, rfl, .inr ⟨vs, k, b, (R.sub _ _ hf).rd, rfl, (R.sub _ _ hg).tup, rfl⟩, ?_, fun q hq => ?_, fun hq => ?_⟩
      · rcases r.get k with ⟨v, q, h1, h2, _⟩ | ⟨h1, h2⟩ <;> rw [h1, h2] <;> rfl
      · rcases r.get k with ⟨v, q', h1, h2, h3⟩ | ⟨h1, h2⟩
        · rw [hq] at h2; cases h2; exact ⟨v, h1, h3⟩
        · rw [hq] at h2; cases h2
      · rcases r.get k with ⟨v, q', h1, h2, h3⟩ | ⟨h1, h2⟩
        · rw [hq] at h2; cases h2
        · exact h1
end
section
variable {k : Nat} {X : Cx}
theorem op_dIn (hu : X.A.units + 1 < cLine) : OpR X (compareOp .In) (fun x y H Q => ∃ a o, y = .ref a ∧ DGet H a x o ∧ Q (.bl o.isSome) H) := by
  intro pins s σ H x y v u Q I rx ry h
  obtain ⟨a, o, rfl, g, q⟩ := h
  cases ry
  exact d_in hu I g rx fun s' I' => ⟨.bl _, H, I', rfl, q⟩
theorem room65 (hr : Room k X.A) : X.A.units + 65 < cLine := by have := hr.un; omega
theorem o_in (hr : Room k X.A) : O2 X (compareOp .In) inP := by
  refine ⟨_, op_in_seq.or ((op_inD (room65 hr)).or (op_dIn (hu_of hr))), fun lk F m S H x y p q res Q R rx ry h yl => ?_⟩
  unfold inP at h
  obtain ⟨b, hb, rfl⟩ := Option.map_eq_some_iff.mp h
  have q := yl.here (.bl b)
  unfold memP at hb
  split at hb
  · split at hb
    · rename_i hh
      rw [Bool.and_eq_true] at hh
      cases hb
      cases ry with
      | tup hf r =>
        refine .inl ⟨_, _, rfl, .inr (SqT.of (R.sub _ _ hf).tup), flat_rep rx hh.1, flats_rep r hh.2, ?_⟩
        rw [if_neg Bool.false_ne_true, any_rep rx hh.1 r hh.2]
        exact q
    · cases hb
  · split at hb
    · rename_i hh
      rw [Bool.and_eq_true] at hh
      cases hb
      cases ry with
      | ftp hf e1 e2 r =>
        refine .inl ⟨_, _, rfl, .inr (ftp_sq R hf), flat_rep rx hh.1, flats_rep r hh.2, ?_⟩
        rw [if_neg Bool.false_ne_true, any_rep rx hh.1 r hh.2]
        exact q
    · cases hb
  · split at hb
    · rename_i d ds h1 h2
      split at hb
      · rename_i hh
        cases hb
        cases ry with
        | lst hf r =>
          exact .inr (.inl ⟨d, ds, rep_dp R rx h1, .lst (SqL.of (R.sub _ _ hf).lst) (rep_dps R r h2), hh.1, hh.2, q⟩)
      · cases hb
    · cases hb
  · obtain ⟨kk, hk, rfl⟩ := Option.map_eq_some_iff.mp hb
    obtain ⟨a, o, e, g, e2, _⟩ := DGet_rep R ry rx hk
    exact .inr (.inr ⟨a, o, e, g, by rw [e2]; exact q⟩)
  · split at hb
    · obtain ⟨kk, hk, rfl⟩ := Option.map_eq_some_iff.mp hb
      obtain ⟨a, o, e, g, e2, _⟩ := DGetT_rep R ry rx hk
      exact .inr (.inr ⟨a, o, e, g, by rw [e2]; exact q⟩)
    · cases hb
  · cases hb
end

/-! ### subscripts -/
def ixP : G2 := fun S p q => match p, q with
  | .tup xs, .int i => atI xs i
  | .lst xs, .int i => atI xs i
  | .rol xs, .int i => atI xs i
  | .ftp xs, .int i => atI xs i
  | .str x, .int i => if x.length ≤ sizeLine then (atI x.cps.toList i).map fun c => .str ⟨#[c]⟩ else none
  | .ref n, .int i => match S[n]? with
    | some (.lst xs) => atI xs i
    | _ => none
  | .dk kvs, q => (keyP q).bind fun k => getKV kvs k
  | .dt kvs, .tup ks => (keysP ks).bind fun k => getKV kvs k
  | _, _ => none
section
variable {K : PySem.W.Frag} {mg : Str → Option Value} {lk : List Addr} {F H : Hp} {m : List Addr} {S : Stor}
theorem atI_rep {vs : List V} {ps : List PV} {i : Int} {p : PV} (r : RepL K F m vs ps) (h : atI ps i = some p) : ∃ v, atI vs i = some v ∧ Rep K F m v p := by
  unfold atI at h ⊢
  rw [r.length]
  cases e : ixN ps.length i with
  | none => rw [e] at h; cases h
  | some j =>
    rw [e] at h
    exact r.get h
theorem rol_sq (R : R0 K mg lk F m S H) {a : Addr} {vs : List V} (hf : SqL K F a vs) : SqL K H a vs := by
  rcases hf with (hf | ⟨ob, hf⟩) | hf
  · exact SqL.of (R.sub _ _ hf).lst
  · exact .inl (.inr ⟨ob, by rcases R.sub _ _ hf with z | ⟨_, z, _⟩; exact z; exact z.elim⟩)
  · exact .inr hf
end
section
variable {k : Nat} {X : Cx} {c : Cfg} {a b : Expr} {da db : DE} {pos : Pos}
theorem ix_dict (hu : X.A.units + 1 < cLine) : IxR X (fun x y H Q => ∃ a v, x = .ref a ∧ DGet H a y (some v) ∧ Q v H) := by
  intro value slice pins s σ H x y v u Q I rx ry h hs
  obtain ⟨a, z, rfl, g, q⟩ := h
  cases rx
  have hT := dict_typeIs I g
  unfold subscriptTail
  refine wpAny_bind ?_
  rw [getitemInPython_of_ne hT.not_modules]
  refine wpAny_bind (wpAny_specialOf hT PySem.F.slot_dict_getitem.lookup ?_)
  have fin : wpAny (model X.prog X.w) X.A (subscripted slice false (.ref a) u) (fun r s₃ => wpAny (model X.prog X.w) X.A (letTemporaryGo value (.ref a) r >>= fun _ => pure r) (EP X pins σ Q) X.xe s₃) X.xe s := by
    rw [hs]
    refine wpAny_operating (wpAny_mono (d_getItem (Q := EP X pins σ Q) hu I g ry fun w' s' I' r' => ⟨z, H, I', r', q⟩) (fun r s₃ h₃ => wpAny_bind (wpAny_letTemporaryGo (wpAny_pure h₃))) fun _ _ x => x)
  first
    | exact wpAny_pure (wpAny_bind fin)
    | exact wpAny_bind (wpAny_pure (wpAny_bind fin))
    | exact wpAny_bind fin
abbrev rIxP (K : PySem.W.Frag) : R2 := fun x y H Q => rIx K x y H Q ∨ ∃ a v, x = .ref a ∧ DGet H a y (some v) ∧ Q v H
theorem s_ix : S2 X (rIxP X.K) ixP := by
  intro lk F m S H x y p q res Q R rx ry h yl
  unfold ixP at h
  split at h
  · cases ry; cases rx with
    | tup hf r =>
      obtain ⟨v, h1, h2⟩ := atI_rep r h
      exact .inl (.inr (.inl ⟨_, _, _, v, rfl, rfl, SqT.of (R.sub _ _ hf).tup, h1, yl.here h2⟩))
  · cases ry; cases rx with
    | lst hf r =>
      obtain ⟨v, h1, h2⟩ := atI_rep r h
      exact .inl (.inl ⟨_, _, _, v, rfl, rfl, SqL.of (R.sub _ _ hf).lst, h1, yl.here h2⟩)
  · cases ry; cases rx with
    | rol hf r =>
      obtain ⟨v, h1, h2⟩ := atI_rep r h
      exact .inl (.inl ⟨_, _, _, v, rfl, rfl, rol_sq R hf, h1, yl.here h2⟩)
  · cases ry; cases rx with
    | ftp hf e1 e2 r =>
      obtain ⟨v, h1, h2⟩ := atI_rep r h
      exact .inl (.inr (.inl ⟨_, _, _, v, rfl, rfl, ftp_sq R hf, h1, yl.here h2⟩))
  · split at h
    · rename_i hl
      obtain ⟨z, hz, rfl⟩ := Option.map_eq_some_iff.mp h
      cases ry; cases rx
      exact .inl (.inr (.inr ⟨_, _, z, rfl, rfl, hl, hz, yl.here (.str _)⟩))
    · cases h
  · split at h
    · rename_i xs hs
      cases ry; cases rx with
      | ref hm =>
        obtain ⟨vs, h1, h2⟩ := R.sto _ _ _ hm hs
        obtain ⟨v, h3, h4⟩ := atI_rep h2 h
        exact .inl (.inl ⟨_, _, _, v, rfl, rfl, SqL.of h1, h3, yl.here h4⟩)
    · cases h
  · obtain ⟨kk, hk, hg⟩ := Option.bind_eq_some_iff.mp h
    obtain ⟨a, o, e, g, _, e2, _⟩ := DGet_rep R rx ry hk
    obtain ⟨v, rfl, rv⟩ := e2 _ hg
    exact .inr ⟨a, v, e, g, yl.here rv⟩
  · obtain ⟨kk, hk, hg⟩ := Option.bind_eq_some_iff.mp h
    obtain ⟨a, o, e, g, _, e2, _⟩ := DGetT_rep R rx ry hk
    obtain ⟨v, rfl, rv⟩ := e2 _ hg
    exact .inr ⟨a, v, e, g, yl.here rv⟩
  · cases h
theorem r_ix (hX : XOk k X c) (ha : PE X a (rE c da)) (hb : PE X b (rE c db)) (hs : PlainIx b := by intro _ _; rfl) : PE X (.Subscript a b pos) (rE c (d2 ixP da db)) :=
  PE.weak (pe_ix (ix_seq.or (ix_dict (hu_of hX.room))) ha hb hs) fun _ _ _ h => rd_two hX s_ix h
end
end Dn
end
section
set_option Elab.async false
set_option linter.all false
set_option maxRecDepth 100000
set_option maxHeartbeats 1000000
namespace Dn
open PySem L2 PySem.Spec PyProof.Rows

abbrev GN := Stor → List PV → Option PV
def dN (g : GN) (dr : Den (List PV)) : DE := dr.bind fun ps => Den.getS.bind fun S => Den.opt (g S ps)
def SN (X : Cx) (r : List V → Hp → VK → Prop) (g : GN) : Prop := ∀ (lk : List Addr) (F : Hp) (m : List Addr) (S : Stor) (H : Hp) (vs : List V) (ps : List PV) (res : PV) (Q : VK),
  R0 X.K X.mg lk F m S H → RepL X.K F m vs ps → g S ps = some res → Yl X.K F m H res Q → r vs H Q
def CN (X : Cx) (f : Value) (g : GN) : Prop := ∃ r, CallR X f r ∧ SN X r g
section
variable {k : Nat} {X : Cx} {c : Cfg} {e : Expr} {es : List Expr} {dr : Den (List PV)} {p pos : Pos} {x : Str} {g : GN} {id T : String}
theorem rd_n {r : List V → Hp → VK → Prop} (hX : XOk k X c) (hs : SN X r g) {σ : L2.St} {H : Hp} {Q : VK} (h : rE c (dN g dr) σ H Q) : rA c dr σ H fun vs H1 => r vs H1 Q := by
  obtain ⟨K, mg, F0, m0, H0, lk, W⟩ := c
  obtain rfl := hX.K
  obtain rfl := hX.mg
  obtain ⟨F, m, h⟩ := h
  refine (rd_bind h).imp fun v H1 ⟨F1, m1, p, s1, p1, q1, h⟩ => ?_
  obtain ⟨env, S, R, h⟩ := h.getS
  obtain ⟨res, e, h⟩ := h.opt
  exact hs _ _ _ _ _ _ _ _ _ R.r0 q1 e fun F' H' v x rv => h.end_ x rv
theorem r_callB (hX : XOk k X c) (o : CN X (.builtin id) g) (hg : Gl X x) (hm : X.mg x = none) (hv : bootBuiltins x = some (.builtin id)) (ha : PA X (e :: es) (rA c dr)) (hn : x ≠ "__name__" := by decide) (hdb : (x == ("__debug__" : Str)) = false := by decide)
    (he : starEach (e :: es) X.env = (false, eval e X.env) :: starEach es X.env := by rfl) (hpl : (backTo pos (starEach es X.env)).any (·.1) = false := by rfl) : PE X (.Call (.Name x p) (e :: es) [] pos) (rE c (dN g dr)) :=
  let ⟨_, o1, o2⟩ := o; PE.weak (pe_callB o1 hg hm hv ha hn hdb he hpl) fun _ _ _ h => rd_n hX o2 h
theorem r_callTy (hX : XOk k X c) (o : CN X (.type T) g) (hg : Gl X x) (hm : X.mg x = none) (hv : bootBuiltins x = some (.type T)) (ha : PA X (e :: es) (rA c dr)) (hn : x ≠ "__name__" := by decide) (hdb : (x == ("__debug__" : Str)) = false := by decide)
    (he : starEach (e :: es) X.env = (false, eval e X.env) :: starEach es X.env := by rfl) (hpl : (backTo pos (starEach es X.env)).any (·.1) = false := by rfl) : PE X (.Call (.Name x p) (e :: es) [] pos) (rE c (dN g dr)) :=
  let ⟨_, o1, o2⟩ := o; PE.weak (pe_callTy o1 hg hm hv ha hn hdb he hpl) fun _ _ _ h => rd_n hX o2 h
end

/-! ### the built-ins -/
theorem repl1 {K : PySem.W.Frag} {F : Hp} {m : List Addr} {vs : List V} {p : PV} (r : RepL K F m vs [p]) : ∃ v, vs = [v] ∧ Rep K F m v p := by
  cases r with
  | cons a b => cases b; exact ⟨_, rfl, a⟩
theorem repl2 {K : PySem.W.Frag} {F : Hp} {m : List Addr} {vs : List V} {p q : PV} (r : RepL K F m vs [p, q]) : ∃ v w, vs = [v, w] ∧ Rep K F m v p ∧ Rep K F m w q := by
  cases r with
  | cons a b =>
    cases b with
    | cons a' b => cases b; exact ⟨_, _, rfl, a, a'⟩
def lenP : GN := fun S ps => match ps with
  | [.tup xs] => some (.int xs.length)
  | [.lst xs] => some (.int xs.length)
  | [.rol xs] => some (.int xs.length)
  | [.ftp xs] => some (.int xs.length)
  | [.str x] => if x.length ≤ sizeLine then some (.int x.length) else none
  | [.ref n] => match S[n]? with
    | some (.lst xs) => some (.int xs.length)
    | _ => none
  | _ => none
def absP : GN := fun _ ps => match ps with
  | [.int i] => some (.int (if i < 0 then -i else i))
  | _ => none
def intP : GN := fun _ ps => match ps with
  | [.int i] => some (.int i)
  | [.bl b] => some (.int (if b then 1 else 0))
  | _ => none
def max2P : GN := fun _ ps => match ps with
  | [.int i, .int j] => some (.int (if j > i then j else i))
  | _ => none
def blsP : List PV → Option (List Bool)
  | [] => some []
  | .bl b :: ps => (blsP ps).map (b :: ·)
  | _ => none
def allP : GN := fun _ ps => match ps with
  | [.lst xs] => (blsP xs).map fun bs => .bl (bs.all id)
  | _ => none
def maxI : List Int → Int
  | [] => 0
  | [a] => a
  | a :: r => if maxI r ≤ a then a else maxI r
def listP : GN := fun S ps => match ps with
  | [.tup xs] => some (.lst xs)
  | [.lst xs] => some (.lst xs)
  | [.rol xs] => some (.lst xs)
  | [.ftp xs] => some (.lst xs)
  | _ => none
def tupleP : GN := fun S ps => match ps with
  | [.tup xs] => some (.tup xs)
  | [.ftp xs] => some (.ftp xs)
  | [.lst xs] => some (.tup xs)
  | [.ref n] => match S[n]? with
    | some (.lst xs) => some (.tup xs)
    | _ => none
  | _ => none
section
variable {K : PySem.W.Frag} {F : Hp} {m : List Addr}
theorem bls_rep : ∀ {vs : List V} {ps : List PV} {bs : List Bool}, RepL K F m vs ps → blsP ps = some bs → vs = bs.map V.bl
  | _, _, _, .nil, h => by cases h; rfl
  | _, _, _, .cons (p := p) (ps := ps) h1 h2, h => by
    cases h1 with
    | bl b =>
      simp only [blsP] at h
      obtain ⟨r, hr, rfl⟩ := Option.map_eq_some_iff.mp h
      rw [List.map_cons, bls_rep h2 hr]
    | _ => cases h
end
section
variable {X : Cx}
theorem b_len : CN X (.builtin "len") lenP := by
  refine ⟨_, call_len_seq.or call_len_str, fun lk F m S H vs ps res Q R r h yl => ?_⟩
  unfold lenP at h
  split at h
  · cases h; obtain ⟨v, rfl, q⟩ := repl1 r; clear r; cases q with
    | tup hf r => exact .inl ⟨_, _, rfl, .inr (SqT.of (R.sub _ _ hf).tup), by rw [r.length]; exact yl.here (.int _)⟩
  · cases h; obtain ⟨v, rfl, q⟩ := repl1 r; clear r; cases q with
    | lst hf r => exact .inl ⟨_, _, rfl, .inl (SqL.of (R.sub _ _ hf).lst), by rw [r.length]; exact yl.here (.int _)⟩
  · cases h; obtain ⟨v, rfl, q⟩ := repl1 r; clear r; cases q with
    | rol hf r => exact .inl ⟨_, _, rfl, .inl (rol_sq R hf), by rw [r.length]; exact yl.here (.int _)⟩
  · cases h; obtain ⟨v, rfl, q⟩ := repl1 r; clear r; cases q with
    | ftp hf e1 e2 r => exact .inl ⟨_, _, rfl, .inr (ftp_sq R hf), by rw [r.length]; exact yl.here (.int _)⟩
  · split at h
    · rename_i hl
      cases h; obtain ⟨v, rfl, q⟩ := repl1 r; clear r; cases q with
      | str x => exact .inr ⟨_, rfl, hl, yl.here (.int _)⟩
    · cases h
  · split at h
    · rename_i xs hs
      cases h; obtain ⟨v, rfl, q⟩ := repl1 r; clear r; cases q with
      | ref hm =>
        obtain ⟨vs, h1, h2⟩ := R.sto _ _ _ hm hs
        exact .inl ⟨_, _, rfl, .inl (SqL.of h1), by rw [h2.length]; exact yl.here (.int _)⟩
    · cases h
  · cases h
theorem b_abs : CN X (.builtin "abs") absP := by
  refine ⟨_, call_abs, fun lk F m S H vs ps res Q R r h yl => ?_⟩
  unfold absP at h
  split at h
  · cases h; obtain ⟨v, rfl, q⟩ := repl1 r; clear r; cases q; exact ⟨_, rfl, yl.here (.int _)⟩
  · cases h
theorem b_int : CN X (.type "int") intP := by
  refine ⟨_, call_int1, fun lk F m S H vs ps res Q R r h yl => ?_⟩
  unfold intP at h
  split at h
  · cases h; obtain ⟨v, rfl, q⟩ := repl1 r; clear r; cases q; exact .inl ⟨_, rfl, yl.here (.int _)⟩
  · cases h; obtain ⟨v, rfl, q⟩ := repl1 r; clear r; cases q; exact .inr ⟨_, rfl, yl.here (.int _)⟩
  · cases h
theorem b_max2 (hc : X.calm = true) : CN X (.builtin "max") max2P := by
  refine ⟨_, call_max2 hc, fun lk F m S H vs ps res Q R r h yl => ?_⟩
  unfold max2P at h
  split at h
  · cases h; obtain ⟨v, w, rfl, q, q'⟩ := repl2 r; cases q; cases q'; exact ⟨_, _, rfl, yl.here (.int _)⟩
  · cases h
theorem b_all (hc : X.calm = true) : CN X (.builtin "all") allP := by
  refine ⟨_, cr_all hc, fun lk F m S H vs ps res Q R r h yl => ?_⟩
  unfold allP at h
  split at h
  · obtain ⟨bs, hb, rfl⟩ := Option.map_eq_some_iff.mp h
    obtain ⟨v, rfl, q⟩ := repl1 r; clear r
    cases q with
    | lst hf r => exact ⟨_, bs, rfl, by rw [← bls_rep r hb]; exact SqL.of (R.sub _ _ hf).lst, yl.here (.bl _)⟩
  · cases h
theorem b_list : CN X (.type "list") listP := by
  refine ⟨_, call_list_of, fun lk F m S H vs ps res Q R r h yl => ?_⟩
  unfold listP at h
  split at h
  · cases h; obtain ⟨v, rfl, q⟩ := repl1 r; clear r; cases q with
    | tup hf r => exact ⟨_, _, rfl, .inr (SqT.of (R.sub _ _ hf).tup), fun l hl => yl.new R hl trivial fun s => .lst upd_same (r.mono s (List.prefix_refl _))⟩
  · cases h; obtain ⟨v, rfl, q⟩ := repl1 r; clear r; cases q with
    | lst hf r => exact ⟨_, _, rfl, .inl (SqL.of (R.sub _ _ hf).lst), fun l hl => yl.new R hl trivial fun s => .lst upd_same (r.mono s (List.prefix_refl _))⟩
  · cases h; obtain ⟨v, rfl, q⟩ := repl1 r; clear r; cases q with
    | rol hf r => exact ⟨_, _, rfl, .inl (rol_sq R hf), fun l hl => yl.new R hl trivial fun s => .lst upd_same (r.mono s (List.prefix_refl _))⟩
  · cases h; obtain ⟨v, rfl, q⟩ := repl1 r; clear r; cases q with
    | ftp hf e1 e2 r => exact ⟨_, _, rfl, .inr (ftp_sq R hf), fun l hl => yl.new R hl trivial fun s => .lst upd_same (r.mono s (List.prefix_refl _))⟩
  · cases h
end

/-! ### isinstance of the built-in kinds -/
def isiP (T : String) : G1 := fun S p => match p with
  | .non => (kitB "NoneType" T).map .bl
  | .bl _ => (kitB "bool" T).map .bl
  | .int _ => (kitB "int" T).map .bl
  | .str _ => (kitB "str" T).map .bl
  | .tup _ => (kitB "tuple" T).map .bl
  | .lst _ => (kitB "list" T).map .bl
  | .rol _ => (kitB "list" T).map .bl
  | .ftp _ => (kitB "tuple" T).map .bl
  | .ref n => match S[n]? with
    | some (.lst _) => (kitB "list" T).map .bl
    | _ => none
  | _ => none
section
variable {k : Nat} {X : Cx} {c : Cfg} {e : Expr} {da : DE} {p p' pos : Pos} {x : Str} {T : String}
theorem s_isi : S1 X (fun x H Q => ∃ (t : Value) (b : Bool), TyX X.K H x t ∧ PySem.W.kitOne X.K t (.type T) = some b ∧ Q (.bl b) H) (isiP T) := by
  intro lk F m S H x p res Q R r h yl
  unfold isiP at h
  split at h
  · obtain ⟨b, hb, rfl⟩ := Option.map_eq_some_iff.mp h; cases r; exact ⟨_, b, .base .non, kit_ty hb, yl.here (.bl _)⟩
  · obtain ⟨b, hb, rfl⟩ := Option.map_eq_some_iff.mp h; cases r; exact ⟨_, b, .base (.bl _), kit_ty hb, yl.here (.bl _)⟩
  · obtain ⟨b, hb, rfl⟩ := Option.map_eq_some_iff.mp h; cases r; exact ⟨_, b, .base (.int _), kit_ty hb, yl.here (.bl _)⟩
  · obtain ⟨b, hb, rfl⟩ := Option.map_eq_some_iff.mp h; cases r; exact ⟨_, b, .base (.str _), kit_ty hb, yl.here (.bl _)⟩
  · obtain ⟨b, hb, rfl⟩ := Option.map_eq_some_iff.mp h; cases r with
    | tup hf r => exact ⟨_, b, .base (.tup (R.sub _ _ hf).tup), kit_ty hb, yl.here (.bl _)⟩
  · obtain ⟨b, hb, rfl⟩ := Option.map_eq_some_iff.mp h; cases r with
    | lst hf r => exact ⟨_, b, .base (.lst (R.sub _ _ hf).lst), kit_ty hb, yl.here (.bl _)⟩
  · obtain ⟨b, hb, rfl⟩ := Option.map_eq_some_iff.mp h; cases r with
    | rol hf r =>
      rcases rol_sq R hf with (hf | ⟨ob, hf⟩) | ⟨o, its, n, h1, h2, _⟩
      · exact ⟨_, b, .base (.lst hf), kit_ty hb, yl.here (.bl _)⟩
      · exact ⟨_, b, .base (.frz hf), kit_ty hb, yl.here (.bl _)⟩
      · exact ⟨_, b, .kList h1 h2, kit_ty hb, yl.here (.bl _)⟩
  · obtain ⟨b, hb, rfl⟩ := Option.map_eq_some_iff.mp h; cases r with
    | ftp hf e1 e2 r => exact ⟨_, b, .fTuple (ftp_h R hf), kit_ty hb, yl.here (.bl _)⟩
  · split at h
    · rename_i xs hs
      obtain ⟨b, hb, rfl⟩ := Option.map_eq_some_iff.mp h; cases r with
      | ref hm =>
        obtain ⟨vs, h1, h2⟩ := R.sto _ _ _ hm hs
        exact ⟨_, b, .base (.lst h1), kit_ty hb, yl.here (.bl _)⟩
    · cases h
  · cases h
theorem r_isi (hX : XOk k X c) (hg : Gl X "isinstance") (hm : X.mg "isinstance" = none) (hgT : Gl X x) (hmT : X.mg x = none) (hv : bootBuiltins x = some (.type T)) (ha : PE X e (rE c da)) (hn : x ≠ "__name__" := by decide) (hdb : (x == ("__debug__" : Str)) = false := by decide)
    (he1 : starEach [e, .Name x p'] X.env = (false, eval e X.env) :: starEach [.Name x p'] X.env := by rfl) (he2 : starEach [.Name x p'] X.env = (false, eval (.Name x p') X.env) :: starEach [] X.env := by rfl) (hpl : (backTo pos (starEach [.Name x p'] X.env)).any (·.1) = false := by rfl)
    : PE X (.Call (.Name "isinstance" p) [e, .Name x p'] [] pos) (rE c (d1 (isiP T) da)) := by
  refine PE.weak (pe_callB call_isi hg hm (by decide +kernel) (pa_cons ha (pa_cons (pe_bltn (v := .ty T) hgT hmT hv rfl hn hdb) pa_nil he2) he1) (by decide) (by decide) he1 hpl) fun σ H Q h => ?_
  refine (rd_one hX s_isi h).imp fun v H1 ⟨t, b, h1, h2, h3⟩ => ?_
  exact ⟨v, .ty T, t, .type T, b, rfl, .ty T, h1, h2, h3⟩
/-! ### list(range(n)), tuple(range(n)) -/
def rngPV (n : Int) : List PV := (List.range n.toNat).map fun i => .int (i : Nat)
end
end Dn
end
section
set_option Elab.async false
set_option linter.all false
set_option maxRecDepth 100000
set_option maxHeartbeats 1000000
namespace Dn
open PySem L2 PySem.Spec PyProof.Rows
abbrev St := L2.St

inductive OutS where
  | st
  | nx (e : DEnv) (s : Stor)
  | bk (e : DEnv) (s : Stor)
  | ct (e : DEnv) (s : Stor)
  | rt (p : PV) (e : DEnv) (s : Stor)
  | ex (x : Exc) (e : DEnv) (s : Stor)
abbrev DS := DEnv → Stor → OutS

def pS (c : Cfg) (F : Hp) (m : List Addr) (D : Ends) : OutS → Prop
  | .st => False
  | .nx env S => ∀ F' m' σ H, Rel c F' m' σ env S H → Same F F' → m <+: m' → D.nx σ H
  | .bk env S => ∀ F' m' σ H, Rel c F' m' σ env S H → Same F F' → m <+: m' → D.bk σ H
  | .ct env S => ∀ F' m' σ H, Rel c F' m' σ env S H → Same F F' → m <+: m' → D.ct σ H
  | .rt p env S => ∀ F' m' σ H v, Rel c F' m' σ env S H → Same F F' → m <+: m' → Rep c.K F' m' v p → D.rt v H
  | .ex x env S => ∀ F' m' σ H cls d, Rel c F' m' σ env S H → Same F F' → m <+: m' → ExR c F' m' H x cls d → c.W cls d σ H
def rSAt (c : Cfg) (d : DS) (F : Hp) (m : List Addr) (D : Ends) (σ : St) (H : Hp) : Prop := ∃ env S, Rel c F m σ env S H ∧ pS c F m D (d env S)
def rS (c : Cfg) (d : DS) : TS := fun D σ H => ∃ F m, rSAt c d F m D σ H
theorem pS.mono {c : Cfg} {F F1 : Hp} {m m1 : List Addr} {D : Ends} {o : OutS} (h : pS c F m D o) (hs : Same F F1) (hm : m <+: m1) : pS c F1 m1 D o := by
  cases o with
  | st => exact h
  | nx env S => exact fun F' m' σ H r s1 p1 => h F' m' σ H r (hs.trans s1) (hm.trans p1)
  | bk env S => exact fun F' m' σ H r s1 p1 => h F' m' σ H r (hs.trans s1) (hm.trans p1)
  | ct env S => exact fun F' m' σ H r s1 p1 => h F' m' σ H r (hs.trans s1) (hm.trans p1)
  | rt p env S => exact fun F' m' σ H v r s1 p1 q => h F' m' σ H v r (hs.trans s1) (hm.trans p1) q
  | ex x env S => exact fun F' m' σ H cls d r s1 p1 q => h F' m' σ H cls d r (hs.trans s1) (hm.trans p1) q
theorem pS.imp {c : Cfg} {F : Hp} {m : List Addr} {D D' : Ends} {o : OutS} (h : pS c F m D o) (h1 : ∀ σ H, D.nx σ H → D'.nx σ H) (h2 : ∀ σ H, D.bk σ H → D'.bk σ H) (h3 : ∀ σ H, D.ct σ H → D'.ct σ H) (h4 : ∀ v H, D.rt v H → D'.rt v H) : pS c F m D' o := by
  cases o with
  | st => exact h
  | nx env S => exact fun F' m' σ H r s1 p1 => h1 _ _ (h F' m' σ H r s1 p1)
  | bk env S => exact fun F' m' σ H r s1 p1 => h2 _ _ (h F' m' σ H r s1 p1)
  | ct env S => exact fun F' m' σ H r s1 p1 => h3 _ _ (h F' m' σ H r s1 p1)
  | rt p env S => exact fun F' m' σ H v r s1 p1 q => h4 _ _ (h F' m' σ H v r s1 p1 q)
  | ex x env S => exact fun F' m' σ H cls d r s1 p1 q => h F' m' σ H cls d r s1 p1 q
theorem rSAt.rS {c : Cfg} {d : DS} {F : Hp} {m : List Addr} {D : Ends} {σ : St} {H : Hp} (h : rSAt c d F m D σ H) : rS c d D σ H := ⟨F, m, h⟩

def sE {α : Type} (d : Den α) (k : α → DS) : DS := fun e s => match d e s with
  | .st => .st
  | .ok a e s => k a e s
  | .ex x e s => .ex x e s
theorem sE_of {β α : Type} {R : RP β α} {c : Cfg} {d : Den α} {k : α → DS} {F : Hp} {m : List Addr} {D : Ends} {σ : St} {H : Hp} (h : rSAt c (sE d k) F m D σ H) :
    rd R c d σ H fun v H1 => ∃ F1 m1 p, Same F F1 ∧ m <+: m1 ∧ R c.K F1 m1 v p ∧ rSAt c (k p) F1 m1 D σ H1 := by
  obtain ⟨env, S, r, h⟩ := h
  refine ⟨F, m, env, S, r, ?_⟩
  unfold sE at h
  cases e : d env S with
  | st => rw [e] at h; exact h
  | ok p env1 S1 =>
    rw [e] at h
    exact fun F1 m1 H1 v r1 s1 p1 q1 => ⟨F1, m1, p, s1, p1, q1, env1, S1, r1, pS.mono h s1 p1⟩
  | ex x env1 S1 =>
    rw [e] at h
    exact fun F1 m1 H1 cls d r1 s1 p1 q1 => h F1 m1 σ H1 cls d r1 s1 p1 q1

def sNext : DS := fun e s => .nx e s
def sSeq (a b : DS) : DS := fun e s => match a e s with
  | .nx e s => b e s
  | o => o
def sBreak : DS := fun e s => .bk e s
def sCont : DS := fun e s => .ct e s
def sRet (d : DE) : DS := sE d fun p e s => .rt p e s
def sRetN : DS := fun e s => .rt .non e s
def sExpr (d : DE) : DS := sE d fun _ e s => .nx e s
def sIf (t : Den Bool) (a b : DS) : DS := sE t fun k => if k then a else b
def sSet (i : Nat) (d : DE) : DS := sE d fun p e s => .nx (e.set i (.v p)) s

section
variable {c : Cfg} {F H : Hp} {m : List Addr} {σ : St} {env : DEnv} {S : Stor} {i : Nat}
theorem Rel.set_v {v : V} {p : PV} (r : Rel c F m σ env S H) (q : Rep c.K F m v p) (i : Nat) : Rel c F m (σ.set i (some v)) (env.set i (.v p)) S H where
  r0 := r.r0
  len := by rw [List.length_set, List.length_set]; exact r.len
  slot := fun j s e => by
    rcases set_get e with ⟨rfl, rfl⟩ | ⟨ne, e⟩
    · have : j < σ.length := by rw [r.len]; have := (List.getElem?_eq_some_iff.mp e).1; rwa [List.length_set] at this
      exact ⟨v, by rw [List.getElem?_set_self this], q⟩
    · rw [List.getElem?_set_ne (Ne.symm ne)]
      exact r.slot j s e
  ownd := fun j k a h1 h2 => by
    obtain ⟨s1, e1, o1, a1⟩ := h1
    obtain ⟨s2, e2, o2, a2⟩ := h2
    rcases set_get e1 with ⟨rfl, rfl⟩ | ⟨n1, e1⟩
    · cases o1
    rcases set_get e2 with ⟨rfl, rfl⟩ | ⟨n2, e2⟩
    · cases o2
    rw [List.getElem?_set_ne (Ne.symm n1)] at a1
    rw [List.getElem?_set_ne (Ne.symm n2)] at a2
    exact r.ownd j k a ⟨s1, e1, o1, a1⟩ ⟨s2, e2, o2, a2⟩
  ownf := fun j a h1 => by
    obtain ⟨s1, e1, o1, a1⟩ := h1
    rcases set_get e1 with ⟨rfl, rfl⟩ | ⟨n1, e1⟩
    · cases o1
    rw [List.getElem?_set_ne (Ne.symm n1)] at a1
    exact r.ownf j a ⟨s1, e1, o1, a1⟩
  old := r.old
  newm := r.newm
  pre := r.pre
  frn := r.frn
  f0 := r.f0
  lkh := r.lkh
/-- a slot comes to own what is new -/
theorem Rel.set_own {s : Slot} {a : Addr} (r : Rel c F m σ env S H) (i : Nat) (hF : F a = none) (hm : a ∉ m) (h0 : c.H0 a = none) (hn : ∀ j, ¬ Own env σ j a) (q : SlotR c.K F m H (some (some (.ref a))) s) : Rel c F m (σ.set i (some (.ref a))) (env.set i s) S H where
  r0 := r.r0
  len := by rw [List.length_set, List.length_set]; exact r.len
  slot := fun j t e => by
    rcases set_get e with ⟨rfl, rfl⟩ | ⟨ne, e⟩
    · have : j < σ.length := by rw [r.len]; have := (List.getElem?_eq_some_iff.mp e).1; rwa [List.length_set] at this
      rw [List.getElem?_set_self this]
      exact q
    · rw [List.getElem?_set_ne (Ne.symm ne)]
      exact r.slot j t e
  ownd := fun j k b h1 h2 => by
    obtain ⟨s1, e1, o1, a1⟩ := h1
    obtain ⟨s2, e2, o2, a2⟩ := h2
    have hl : ∀ {j : Nat} {t : Slot}, (env.set i s)[j]? = some t → j < σ.length := fun e => by rw [r.len]; have := (List.getElem?_eq_some_iff.mp e).1; rwa [List.length_set] at this
    rcases set_get e1 with ⟨rfl, rfl⟩ | ⟨n1, e1'⟩
    · rcases set_get e2 with ⟨rfl, rfl⟩ | ⟨n2, e2'⟩
      · rfl
      · rw [List.getElem?_set_self (hl e1)] at a1
        cases a1
        rw [List.getElem?_set_ne (Ne.symm n2)] at a2
        exact absurd ⟨s2, e2', o2, a2⟩ (hn k)
    · rw [List.getElem?_set_ne (Ne.symm n1)] at a1
      rcases set_get e2 with ⟨rfl, rfl⟩ | ⟨n2, e2'⟩
      · rw [List.getElem?_set_self (hl e2)] at a2
        cases a2
        exact absurd ⟨s1, e1', o1, a1⟩ (hn j)
      · rw [List.getElem?_set_ne (Ne.symm n2)] at a2
        exact r.ownd j k b ⟨s1, e1', o1, a1⟩ ⟨s2, e2', o2, a2⟩
  ownf := fun j b h1 => by
    obtain ⟨s1, e1, o1, a1⟩ := h1
    rcases set_get e1 with ⟨rfl, rfl⟩ | ⟨n1, e1'⟩
    · rw [List.getElem?_set_self (by rw [r.len]; have := (List.getElem?_eq_some_iff.mp e1).1; rwa [List.length_set] at this)] at a1
      cases a1
      exact ⟨hF, hm, h0⟩
    · rw [List.getElem?_set_ne (Ne.symm n1)] at a1
      exact r.ownf j b ⟨s1, e1', o1, a1⟩
  old := r.old
  newm := r.newm
  pre := r.pre
  frn := r.frn
  f0 := r.f0
  lkh := r.lkh
theorem Own.slot {a : Addr} (o : Own env σ i a) : ∃ s, env[i]? = some s ∧ s.own = true ∧ σ[i]? = some (some (.ref a)) := o
/-- what a slot owns is changed -/
theorem Rel.upd_own {s : Slot} {a : Addr} {o : HO} (r : Rel c F m σ env S H) (ow : Own env σ i a) (q : SlotR c.K F m (upd H a o) (some (some (.ref a))) s) : Rel c F m σ (env.set i s) S (upd H a o) := by
  obtain ⟨f0, fm, f1⟩ := r.ownf i a ow
  obtain ⟨t, et, ot, at_⟩ := id ow
  have nfz : ∀ ob w, H a ≠ some (.frz ob w) := fun ob w e => by
    have := r.slot i t et
    cases t with
    | un => cases ot
    | v p => cases ot
    | ol ps => obtain ⟨a', vs, h1, h2, h3⟩ := this; rw [at_] at h1; cases h1; rw [e] at h2; cases h2
    | od ps => obtain ⟨a', vs, h1, h2, h3⟩ := this; rw [at_] at h1; cases h1; rw [e] at h2; cases h2
    | ot ps => obtain ⟨a', vs, h1, h2, h3⟩ := this; rw [at_] at h1; cases h1; rw [e] at h2; cases h2
  have lkd : ∀ b ∈ c.lk, ∃ ob u, upd H a o b = some (.frz ob u) := fun b hb => by
    obtain ⟨ob, u, e⟩ := r.r0.lkd b hb
    exact ⟨ob, u, by rw [upd_ne (fun (z : b = a) => nfz ob u (z ▸ e))]; exact e⟩
  refine ⟨⟨fun b u e => ?_, r.r0.imm, r.r0.len, fun j b so h1 h2 => ?_, r.r0.nd, r.r0.muf, lkd⟩, by rw [List.length_set]; exact r.len, fun j u e => ?_, fun j k b h1 h2 => ?_, fun j b h1 => ?_, fun b u e hb => ?_, r.newm, r.pre, r.frn, r.f0, r.lkh⟩
  · have nb : b ≠ a := ne_of_none e f0
    rcases r.r0.sub b u e with h | ⟨l, d, ob, h⟩
    · exact .inl (by rw [upd_ne nb]; exact h)
    · exact .inr ⟨l, d, ob, by rw [upd_ne nb]; exact h⟩
  · have nb : b ≠ a := fun z => fm (z ▸ List.mem_of_getElem? h1)
    exact (r.r0.sto j b so h1 h2).mono (Same.refl _) (List.prefix_refl _) (upd_ne nb)
  · rcases set_get e with ⟨rfl, rfl⟩ | ⟨ne, e⟩
    · rw [at_]; exact q
    · refine (r.slot j u e).mono (Same.refl _) (List.prefix_refl _) fun b ob eb => upd_ne fun z => ?_
      subst z
      exact ne (r.ownd j i b ⟨u, e, ob, eb⟩ ow)
  · obtain ⟨s1, e1, o1, a1⟩ := h1
    obtain ⟨s2, e2, o2, a2⟩ := h2
    have g : ∀ {j : Nat} {s1 : Slot}, (env.set i s)[j]? = some s1 → s1.own = true → σ[j]? = some (some (.ref b)) → Own env σ j b := fun {j s1} e1 o1 a1 => by
      rcases set_get e1 with ⟨rfl, rfl⟩ | ⟨n1, e1⟩
      · rw [at_] at a1; cases a1; exact ow
      · exact ⟨s1, e1, o1, a1⟩
    exact r.ownd j k b (g e1 o1 a1) (g e2 o2 a2)
  · obtain ⟨s1, e1, o1, a1⟩ := h1
    rcases set_get e1 with ⟨rfl, rfl⟩ | ⟨n1, e1⟩
    · rw [at_] at a1; cases a1; exact ⟨f0, fm, f1⟩
    · exact r.ownf j b ⟨s1, e1, o1, a1⟩
  · have nb : b ≠ a := ne_of_none e f1
    rcases r.old b u e hb with h | ⟨l, d, ob, h⟩
    · exact .inl (by rw [upd_ne nb]; exact h)
    · exact .inr ⟨l, d, ob, by rw [upd_ne nb]; exact h⟩
/-- the store's thing is changed -/
theorem Rel.upd_sto {n : Nat} {a : Addr} {o : HO} {so : SO} (r : Rel c F m σ env S H) (hm : m[n]? = some a) (q : SOR c.K c.mg F m (upd H a o) a so) : Rel c F m σ env (S.set n so) (upd H a o) := by
  have ham : a ∈ m := List.mem_of_getElem? hm
  have f0 := r.r0.muf a ham
  have nfz : ∀ ob w, H a ≠ some (.frz ob w) := fun ob w e => by
    have hl : n < S.length := by rw [← r.r0.len]; exact (List.getElem?_eq_some_iff.mp hm).1
    have := r.r0.sto n a _ hm (List.getElem?_eq_getElem hl)
    cases hso : S[n] with
    | lst xs => rw [hso] at this; obtain ⟨vs, h1, h2⟩ := this; rw [e] at h1; cases h1
    | ins C fs => rw [hso] at this; obtain ⟨_, _, _, _, h1, _⟩ := this; rw [e] at h1; cases h1
  have lkd : ∀ b ∈ c.lk, ∃ ob u, upd H a o b = some (.frz ob u) := fun b hb => by
    obtain ⟨ob, u, e⟩ := r.r0.lkd b hb
    exact ⟨ob, u, by rw [upd_ne (fun (z : b = a) => nfz ob u (z ▸ e))]; exact e⟩
  refine ⟨⟨fun b u e => ?_, r.r0.imm, by rw [List.length_set]; exact r.r0.len, fun j b so' h1 h2 => ?_, r.r0.nd, r.r0.muf, lkd⟩, r.len, fun j u e => ?_, r.ownd, r.ownf, fun b u e hb => ?_, r.newm, r.pre, r.frn, r.f0, r.lkh⟩
  · have nb : b ≠ a := ne_of_none e f0
    rcases r.r0.sub b u e with h | ⟨l, d, ob, h⟩
    · exact .inl (by rw [upd_ne nb]; exact h)
    · exact .inr ⟨l, d, ob, by rw [upd_ne nb]; exact h⟩
  · by_cases e : j = n
    · subst e
      have hl : j < S.length := by have := (List.getElem?_eq_some_iff.mp h2).1; rwa [List.length_set] at this
      rw [List.getElem?_set_self hl] at h2
      cases h2
      rw [hm] at h1; cases h1
      exact q
    · rw [List.getElem?_set_ne (Ne.symm e)] at h2
      have nb : b ≠ a := fun z => by
        subst z
        have h3 := List.getElem?_eq_some_iff.mp h1
        have h4 := List.getElem?_eq_some_iff.mp hm
        exact e ((List.getElem_inj r.r0.nd).mp (h3.2.trans h4.2.symm))
      exact (r.r0.sto j b so' h1 h2).mono (Same.refl _) (List.prefix_refl _) (upd_ne nb)
  · refine (r.slot j u e).mono (Same.refl _) (List.prefix_refl _) fun b ob eb => upd_ne fun z => ?_
    subst z
    exact (r.ownf j b ⟨u, e, ob, eb⟩).2.1 ham
  · have nb : b ≠ a := fun z => by
      subst z
      have := r.newm b ham hb
      rw [e] at this; cases this
    rcases r.old b u e hb with h | ⟨l, d, ob, h⟩
    · exact .inl (by rw [upd_ne nb]; exact h)
    · exact .inr ⟨l, d, ob, by rw [upd_ne nb]; exact h⟩
/-- something new that stands by itself comes into the store -/
theorem Rel.alloc {a : Addr} {so : SO} (r : Rel c F m σ env S H) (hF : F a = none) (hm : a ∉ m) (h0 : c.H0 a = none) (hn : ∀ j, ¬ Own env σ j a) (q : SOR c.K c.mg F (m ++ [a]) H a so) : Rel c F (m ++ [a]) σ env (S ++ [so]) H where
  r0 := {
    sub := r.r0.sub
    imm := r.r0.imm
    len := by rw [List.length_append, List.length_append, r.r0.len]; rfl
    sto := fun j b so' h1 h2 => by
      by_cases hj : j < m.length
      · rw [List.getElem?_append_left hj] at h1
        rw [List.getElem?_append_left (by rw [← r.r0.len]; exact hj)] at h2
        exact (r.r0.sto j b so' h1 h2).mono (Same.refl _) (List.prefix_append _ _) rfl
      · rw [List.getElem?_append_right (Nat.le_of_not_lt hj)] at h1
        rw [List.getElem?_append_right (by rw [← r.r0.len]; exact Nat.le_of_not_lt hj)] at h2
        rw [← r.r0.len] at h2
        have e : j - m.length = 0 := by
          have := (List.getElem?_eq_some_iff.mp h1).1
          simp at this; omega
        rw [e] at h1 h2
        cases h1; cases h2
        exact q
    nd := by
      rw [List.nodup_append]
      refine ⟨r.r0.nd, by simp, fun b hb d hd => ?_⟩
      have : d = a := by simpa using hd
      subst this
      exact fun z => hm (z ▸ hb)
    muf := fun b hb => by
      rcases List.mem_append.mp hb with hb | hb
      · exact r.r0.muf b hb
      · have : b = a := by simpa using hb
        rw [this]; exact hF
    lkd := r.r0.lkd }
  len := r.len
  slot := fun j s e => (r.slot j s e).mono (Same.refl _) (List.prefix_append _ _) fun _ _ _ => rfl
  ownd := r.ownd
  ownf := fun j b o => by
    obtain ⟨h1, h2, h3⟩ := r.ownf j b o
    refine ⟨h1, fun hb => ?_, h3⟩
    rcases List.mem_append.mp hb with hb | hb
    · exact h2 hb
    · have : b = a := by simpa using hb
      exact hn j (this ▸ o)
  old := r.old
  newm := fun b hb => by
    rcases List.mem_append.mp hb with hb | hb
    · exact r.newm b hb
    · have : b = a := by simpa using hb
      rw [this]; exact fun _ => h0
  pre := r.pre.trans (List.prefix_append _ _)
  frn := r.frn
  f0 := r.f0
  lkh := r.lkh
end

/-! ### rules for statements -/
section
variable {k : Nat} {X : Cx} {c : Cfg} {st : Stmt} {rest a b : List Stmt} {d1 d2 : DS} {e : Expr} {de : DE} {t : Den Bool} {pos : Pos}
theorem k_nil : PSs X [] (rS c sNext) := PSs.weak pss_nil fun D σ H ⟨F, m, env, S, r, h⟩ => h F m σ H r (Same.refl _) (List.prefix_refl _)
theorem k_cons (h1 : PS X st (rS c d1)) (h2 : PSs X rest (rS c d2)) : PSs X (st :: rest) (rS c (sSeq d1 d2)) := by
  refine PSs.weak (pss_cons h1 h2) fun D σ H ⟨F, m, env, S, r, h⟩ => ?_
  refine ⟨F, m, env, S, r, ?_⟩
  unfold sSeq at h
  cases q : d1 env S with
  | nx env1 S1 =>
    rw [q] at h
    exact fun F' m' σ' H' r' s' p' => ⟨F', m', env1, S1, r', h.mono s' p'⟩
  | st => rw [q] at h; exact h
  | bk env1 S1 => rw [q] at h; exact h
  | ct env1 S1 => rw [q] at h; exact h
  | rt p env1 S1 => rw [q] at h; exact h
  | ex x env1 S1 => rw [q] at h; exact h
theorem k_one (h1 : PS X st (rS c d1)) : PSs X [st] (rS c d1) := pss_one h1
theorem k_ret (he : PE X e (rE c de)) : PS X (.Return (some e) pos) (rS c (sRet de)) := by
  refine PS.weak (ps_ret he) fun D σ H ⟨F, m, h⟩ => ?_
  refine (sE_of h).imp fun v H1 ⟨F1, m1, p, s1, p1, q1, env, S, r, h⟩ => ?_
  exact h F1 m1 σ H1 v r (Same.refl _) (List.prefix_refl _) q1
theorem k_expr (he : PE X e (rE c de)) (hs : swapsWith e none pos.line X.env = pure false := by rfl) : PS X (.Expr e pos) (rS c (sExpr de)) := by
  refine PS.weak (ps_expr he hs) fun D σ H ⟨F, m, h⟩ => ?_
  refine (sE_of h).imp fun v H1 ⟨F1, m1, p, s1, p1, q1, env, S, r, h⟩ => ?_
  exact h F1 m1 σ H1 r (Same.refl _) (List.prefix_refl _)
theorem k_if (hc : PT X e (rT c t)) (ha : PSs X a (rS c d1)) (hb : PSs X b (rS c d2)) : PS X (.If e a b pos) (rS c (sIf t d1 d2)) := by
  refine PS.weak (ps_if hc ha hb) fun D σ H ⟨F, m, h⟩ => ?_
  refine (sE_of h).imp fun v H1 ⟨F1, m1, p, s1, p1, q1, h⟩ => ?_
  cases q1
  cases v with
  | true => rw [if_pos rfl]; exact h.rS
  | false => rw [if_neg Bool.false_ne_true]; exact h.rS
theorem k_set (i : Nat) {x : Str} {pos' : Pos} (hX : XOk k X c) (hi : X.N[i]? = some x) (hx : Loc X.env.scope x) (he : PE X e (rE c de)) (hs : swapsWith e (some (.Name x pos')) pos.line X.env = pure false := by rfl)
    (hf : X.fn x = true ∨ X.env.scope.names.lookup x = some .local := by first | exact .inl rfl | exact .inr rfl | assumption) : PS X (.Assign [.Name x pos'] e pos) (rS c (sSet i de)) := by
  refine PS.weak (ps_set hX.nd hi hx he hs hf) fun D σ H ⟨F, m, h⟩ => ?_
  refine (sE_of h).imp fun v H1 ⟨F1, m1, p, s1, p1, q1, env, S, r, h⟩ => ?_
  exact h F1 m1 _ H1 (r.set_v q1 i) (Same.refl _) (List.prefix_refl _)

/-! ### targets of several names -/
def setAll : List Nat → List PV → DEnv → DEnv
  | i :: is, p :: ps, e => setAll is ps (e.set i (.v p))
  | _, _, e => e
def tgN (i : Nat) : PV → DEnv → Option DEnv := fun p e => some (e.set i (.v p))
def tgT (is : List Nat) : PV → DEnv → Option DEnv := fun p e => match p with
  | .tup ps => if ps.length = is.length then some (setAll is ps e) else none
  | _ => none
/-- a target's reading; is: the slots that it writes -/
def rG (c : Cfg) (is : List Nat) (g : PV → DEnv → Option DEnv) : TG := fun v σ H Q => ∃ F m env S p, Rel c F m σ env S H ∧ Rep c.K F m v p ∧ ∃ env', g p env = some env' ∧ ∀ σ', Rel c F m σ' env' S H → (∀ vs, (∀ i ∈ is, i ∈ vs) → wipe σ' vs = wipe σ vs) → Q σ' H
def rGs (c : Cfg) (is : List Nat) : TGs := fun vs σ H Q => ∃ F m env S ps, Rel c F m σ env S H ∧ RepL c.K F m vs ps ∧ ps.length = is.length ∧ ∀ σ', Rel c F m σ' (setAll is ps env) S H → (∀ vs, (∀ i ∈ is, i ∈ vs) → wipe σ' vs = wipe σ vs) → Q σ' H
theorem wipe_get (σ : St) (j : Nat) : ∀ vs : List Nat, (wipe σ vs)[j]? = if j ∈ vs then σ[j]?.map (fun _ => none) else σ[j]?
  | [] => by simp [wipe]
  | v :: vs => by
    unfold wipe
    have ih := wipe_get σ j vs
    by_cases e : v = j
    · subst e
      rw [if_pos List.mem_cons_self]
      by_cases hl : v < σ.length
      · rw [List.getElem?_set_self (by rw [wipe_length]; exact hl), List.getElem?_eq_getElem hl]; rfl
      · rw [List.getElem?_eq_none (by rw [List.length_set, wipe_length]; exact Nat.le_of_not_lt hl), List.getElem?_eq_none (Nat.le_of_not_lt hl)]; rfl
    · rw [List.getElem?_set_ne e, ih]
      by_cases h : j ∈ vs
      · rw [if_pos h, if_pos (List.mem_cons_of_mem _ h)]
      · rw [if_neg h, if_neg (fun z => by rcases List.mem_cons.mp z with z | z; exact e z.symm; exact h z)]
theorem wipe_set {σ : St} {i : Nat} {x : Option V} {vs : List Nat} (h : i ∈ vs) : wipe (σ.set i x) vs = wipe σ vs := by
  apply List.ext_getElem?
  intro j
  rw [wipe_get, wipe_get]
  by_cases hj : j ∈ vs
  · rw [if_pos hj, if_pos hj]
    by_cases e : i = j
    · subst e
      by_cases hl : i < σ.length
      · rw [List.getElem?_set_self hl, List.getElem?_eq_getElem hl]; rfl
      · rw [List.getElem?_eq_none (by rw [List.length_set]; exact Nat.le_of_not_lt hl), List.getElem?_eq_none (Nat.le_of_not_lt hl)]
    · rw [List.getElem?_set_ne e]
  · rw [if_neg hj, if_neg hj, List.getElem?_set_ne (fun (e : i = j) => hj (e ▸ h))]
theorem g_name (i : Nat) {x : Str} {pos' : Pos} (hX : XOk k X c) (hi : X.N[i]? = some x) (hx : Loc X.env.scope x) (hf : X.fn x = true ∨ X.env.scope.names.lookup x = some .local := by first | exact .inl rfl | exact .inr rfl | assumption) :
    PG X (.Name x pos') (rG c [i] (tgN i)) := by
  refine PG.weak (pg_name hX.nd hi hx hf) fun v σ H Q ⟨F, m, env, S, p, r, q, env', h1, h⟩ => ?_
  cases h1
  exact h _ (r.set_v q i) fun vs hv => wipe_set (hv i List.mem_cons_self)
theorem PGs.weak {X : Cx} {e : List Expr} {t t' : TGs} (h : PGs X e t) (w : ∀ v σ H Q, t' v σ H Q → t v σ H Q) : PGs X e t' := ⟨fun pins s σ H v u Q I r q => h.run pins s σ H v u Q I r (w _ _ _ _ q)⟩
theorem gs_nil : PGs X [] (rGs c []) := PGs.weak pgs_nil fun v σ H Q ⟨F, m, env, S, ps, r, q, hl, h⟩ => by
  cases ps with
  | nil => cases q; exact ⟨rfl, h σ r fun _ _ => rfl⟩
  | cons p ps => cases hl
theorem gs_cons (i : Nat) {is : List Nat} {x : Str} {pos' : Pos} {es : List Expr} (hX : XOk k X c) (hi : X.N[i]? = some x) (hx : Loc X.env.scope x) (hr : PGs X es (rGs c is)) (hf : X.fn x = true ∨ X.env.scope.names.lookup x = some .local := by first | exact .inl rfl | exact .inr rfl | assumption)
    (hs : (assignEach (.Name x pos' :: es) X.env).map (·.2) = assign (.Name x pos') X.env :: (assignEach es X.env).map (·.2) := by rfl) : PGs X (.Name x pos' :: es) (rGs c (i :: is)) := by
  refine PGs.weak (pgs_cons (pg_name (pos := pos') hX.nd hi hx hf) hr hs) fun v σ H Q ⟨F, m, env, S, ps, r, q, hl, h⟩ => ?_
  cases ps with
  | nil => cases hl
  | cons p ps =>
    cases q with
    | cons q1 q2 => exact ⟨_, _, rfl, F, m, _, S, ps, r.set_v q1 i, q2, Nat.succ.inj hl, fun σ' r' hw => h σ' r' fun vs hv => (hw vs fun j hj => hv j (List.mem_cons_of_mem _ hj)).trans (wipe_set (hv i List.mem_cons_self))⟩
theorem g_tup {is : List Nat} {es : List Expr} {kk : Nat} (hX : XOk k X c) (hr : PGs X es (rGs c is)) (hl : is.length = es.length := by rfl) (hn : (assignEach es X.env).length = es.length := by rfl) (hst : (assignEach es X.env).findIdx? (·.1) = none := by rfl) : PG X (.Tuple es kk pos) (rG c is (tgT is)) := by
  refine PG.weak (pg_tup hX.calm hr hn hst) fun v σ H Q ⟨F, m, env, S, p, r, q, env', h1, h⟩ => ?_
  unfold tgT at h1
  split at h1
  · rename_i ps
    split at h1
    · rename_i hh
      cases h1
      cases q with
      | tup hf q =>
        exact ⟨_, _, rfl, by rw [hX.K]; exact SqT.of (r.r0.sub _ _ hf).tup, by rw [q.length, hh, hl], F, m, env, S, ps, r, q, hh, h⟩
    · cases h1
  · cases h1
def sSetT (is : List Nat) (d : DE) : DS := sE d fun p e s => match tgT is p e with
  | some e => .nx e s
  | none => .st
theorem k_setT {is : List Nat} {tg : Expr} (hg : PG X tg (rG c is (tgT is))) (he : PE X e (rE c de)) (hs : swapsWithSole [tg] e pos.line X.env = pure false := by rfl) (hw : swappedStores [tg] e X.env = pure none := by rfl)
    (h1 : (assignEach [tg] X.env).map (·.2) = [assign tg X.env] := by rfl) : PS X (.Assign [tg] e pos) (rS c (sSetT is de)) := by
  refine PS.weak (ps_asg he hg hs hw h1) fun D σ H ⟨F, m, h⟩ => ?_
  refine (sE_of h).imp fun v H1 ⟨F1, m1, p, s1, p1, q1, env, S, r, h⟩ => ?_
  dsimp only at h
  cases q : tgT is p env with
  | none => rw [q] at h; exact h.elim
  | some env' =>
    rw [q] at h
    exact ⟨F1, m1, env, S, p, r, q1, env', q, fun σ' r' _ => h F1 m1 σ' H1 r' (Same.refl _) (List.prefix_refl _)⟩
end
end Dn
end
section
set_option Elab.async false
set_option linter.all false
set_option maxRecDepth 100000
set_option maxHeartbeats 1000000
namespace Dn
open PySem L2 PySem.Spec PyProof.Rows

/-! ### defs -/
inductive OutF where
  | st
  | ok (p : PV) (s : Stor)
  | ex (x : Exc) (s : Stor)
/-- what a def computes -/
abbrev DF := List PV → Stor → OutF
/-- a def of n parameters and u more names, by its body -/
def dFun (n u : Nat) (b : DS) : DF := fun ps S => if ps.length = n then
  match b (ps.map Slot.v ++ List.replicate u Slot.un) S with
  | .nx _ S => .ok .non S
  | .rt p _ S => .ok p S
  | .ex x _ S => .ex x S
  | _ => .st
  else .st
/-- .. its promise -/
def spOf (K : PySem.W.Frag) (mg : Str → Option Value) (n : Nat) (f : DF) : Sp := fun vs H Q E => vs.length = n ∧ ∃ lk F m S ps, R0 K mg lk F m S H ∧ RepL K F m vs ps ∧
  match f ps S with
  | .st => False
  | .ok p S' => ∀ F' m' H' v, R0 K mg lk F' m' S' H' → Same F F' → m <+: m' → (∀ a, F' a ≠ none → F a ≠ none ∨ IT H a) → (∀ a ∈ m', a ∉ m → H a = none) → (∀ a o, H a = some o → a ∉ m → H' a = some o) → Rep K F' m' v p → Q v H'
  | .ex x S' => ∀ F' m' H' cls d, R0 K mg lk F' m' S' H' → Same F F' → m <+: m' → (∀ a, F' a ≠ none → F a ≠ none ∨ IT H a) → (∀ a ∈ m', a ∉ m → H a = none) → (∀ a o, H a = some o → a ∉ m → H' a = some o) →
      (∃ C dd vfs, cls = Value.ref C ∧ mg x.cls = some (.ref C) ∧ d = some dd ∧ H' dd = some (.xd vfs) ∧ RepF K F' m' vfs x.fs) → E cls d H'

theorem rel_start {K : PySem.W.Frag} {mg : Str → Option Value} {lk : List Addr} {F H : Hp} {m : List Addr} {S : Stor} {vs : List V} {ps : List PV} {W : WX} {N : List Str} {u : Nat} (r : R0 K mg lk F m S H) (q : RepL K F m vs ps) (hN : N.length = vs.length + u) :
    Rel ⟨K, mg, F, m, H, lk, W⟩ F m (L2.start N vs) (ps.map Slot.v ++ List.replicate u Slot.un) S H := by
  have hl := q.length
  have noown : ∀ i a, ¬ Own (ps.map Slot.v ++ List.replicate u Slot.un) (L2.start N vs) i a := fun i a ⟨s, e, o, _⟩ => by
    by_cases hi : i < (ps.map Slot.v).length
    · rw [List.getElem?_append_left hi, List.getElem?_map] at e
      obtain ⟨p, _, rfl⟩ := Option.map_eq_some_iff.mp e
      cases o
    · rw [List.getElem?_append_right (Nat.le_of_not_lt hi)] at e
      have := List.mem_of_getElem? e
      rw [(List.mem_replicate.mp this).2] at o
      cases o
  refine ⟨r, ?_, fun i s e => ?_, fun i j a h => absurd h (noown i a), fun i a h => absurd h (noown i a), fun a o h _ => .inl h, fun a h h' => absurd h h', List.prefix_refl _, fun a h => .inl h, Same.refl _, fun a ha => ?_⟩
  · unfold L2.start
    rw [List.length_append, List.length_append, List.length_map, List.length_map, List.length_replicate, List.length_replicate, hN, ← hl]
    omega
  · by_cases hi : i < ps.length
    · rw [List.getElem?_append_left (by rw [List.length_map]; exact hi), List.getElem?_map] at e
      obtain ⟨p, hp, rfl⟩ := Option.map_eq_some_iff.mp e
      obtain ⟨v, hv, rv⟩ := q.get hp
      refine ⟨v, ?_, rv⟩
      unfold L2.start
      rw [List.getElem?_append_left (by rw [List.length_map, hl]; exact hi), List.getElem?_map, hv]
      rfl
    · rw [List.getElem?_append_right (by rw [List.length_map]; exact Nat.le_of_not_lt hi)] at e
      rw [(List.mem_replicate.mp (List.mem_of_getElem? e)).2]
      trivial
  · obtain ⟨ob, w, e⟩ := r.lkd a ha
    refine ⟨fun hm => ?_, ob, w, e⟩
    obtain ⟨i, hi⟩ := List.mem_iff_getElem?.mp hm
    have hl2 : i < S.length := by rw [← r.len]; exact (List.getElem?_eq_some_iff.mp hi).1
    have h := r.sto i a _ hi (List.getElem?_eq_getElem hl2)
    cases hs : S[i] with
    | lst xs => rw [hs] at h; obtain ⟨_, h, _⟩ := h; rw [e] at h; cases h
    | ins C fs => rw [hs] at h; obtain ⟨_, _, _, _, h, _⟩ := h; rw [e] at h; cases h
theorem has_exact {lk : List Addr} {H H' : Hp} {a : Addr} {o : HO} (hl : ∀ a ∈ lk, ∃ ob u, H a = some (.frz ob u)) (h : Has lk H' a o) (e : H a = some o) : H' a = some o := by
  rcases h with h | ⟨l, d, ob, h⟩
  · exact h
  · obtain ⟨ob', u, e'⟩ := hl a l
    rw [e] at e'; cases e'
    exact d.elim
/-- where a call may go on -/
structure FOk (P : Program) (w : World) (K : PySem.W.Frag) (mg : Str → Option Value) (base : Heap) (k : Nat) (x : Str) (ps : List Str) (f : DF) : Prop where
  len : ∀ pvs S, pvs.length ≠ ps.length → f pvs S = .st
  ex : ∃ (a : Addr) (fd : FuncData), mg x = some (.ref a) ∧ PySem.W.keepIn K (.ref a) = true ∧ Binds K fd ps [] ∧ FnOk P w K mg base (L2.CX P w) k a fd ps (spOf K mg ps.length f) ∧ ∃ oc od osl, K.lookup a = some ⟨oc, od, .func fd, osl⟩
theorem Fun.look {K : PySem.W.Frag} {x qual : Str} {st : Stmt} {f : Addr} {fd : FuncData} (F : Fun K x qual st f fd) : ∃ oc od osl, K.lookup f = some ⟨oc, od, .func fd, osl⟩ :=
  let ⟨oc, od, kV, doc, pm, an, cdv, ct, osl, _, lk, _⟩ := F.ex; ⟨oc, od, osl, lk⟩
theorem Fun.bindsLaw {K : PySem.W.Frag} {x qual p : Str} {st : Stmt} {f : Addr} {fd : FuncData} (F : Fun K x qual st f fd)
    (h : ∀ (kV doc pm : Value) (an : Option Addr) (cdv ct : Value) (u : Value), bindArgs (PySem.W.fnOf x qual (defArgs st) (defBody st) (defScope st) .none kV doc pm an cdv ct) ⟨[u], []⟩ = pure [(p, u)]) (s : Shared) (u : Value) : BindsTo s fd ⟨[u], []⟩ [(p, u)] := by
  obtain ⟨oc, od, kV, doc, pm, an, cdv, ct, osl, rfl, _, _⟩ := F.ex
  exact .of_eq (h kV doc pm an cdv ct u)
/-- a def of the text keeps the promise of its denotation -/
theorem fok {P : Program} {w : World} {K : PySem.W.Frag} {mg : Str → Option Value} {base : Heap} {x qual : Str} {st : Stmt} {f : Addr} {fd : FuncData} {N ps : List Str} {k u : Nat} {b : DS} (F : Fun K x qual st f fd) (S : FnScope N ps (defScope st)) (hN : N.length = ps.length + u)
    (hm : mg x = some (.ref f)) (hb : Binds K fd ps [])
    (body : ∀ (cdv : Value) (A : Around) (outer : List PySem.Env) (s : Shared) (H : Hp) (E : XK) (c : Cfg), XOk k (cxOf (L2.CX P w) P w K mg base N qual (defScope st) f cdv A outer s H E) c →
      Takes (cxOf (L2.CX P w) P w K mg base N qual (defScope st) f cdv A outer s H E) c.W → PSs (cxOf (L2.CX P w) P w K mg base N qual (defScope st) f cdv A outer s H E) (defBody st) (rS c b)) :
    FOk P w K mg base (k + 1) x ps (dFun ps.length u b) := by
  refine ⟨fun pvs S h => by unfold dFun; rw [if_neg h], f, fd, hm, F.kp, hb, F.okX S (fun vs H Q E h => h.1) fun cdv A outer s H vs Q E hr h => ?_, Fun.look F⟩
  obtain ⟨hl, lk, Fz, m, St, pvs, r, q, h⟩ := h
  have hlk := r.lkd
  have tk : Takes (cxOf (L2.CX P w) P w K mg base N qual (defScope st) f cdv A outer s H E) (fun cls d σ H' => E cls d H') := takes_of rfl rfl rfl rfl
  let c : Cfg := ⟨K, mg, Fz, m, H, lk, fun cls d σ H' => E cls d H'⟩
  refine ⟨_, body cdv A outer s H E c ⟨rfl, rfl, rfl, S.nd, hr, fun σ => passAt tk σ⟩ tk, Fz, m, _, St, rel_start r q (by rw [hl]; exact hN), ?_⟩
  unfold dFun at h
  rw [if_pos (by rw [← q.length]; exact hl)] at h
  have fz : ∀ {F' m' σ env S' H'}, Rel c F' m' σ env S' H' → (∀ a, F' a ≠ none → Fz a ≠ none ∨ IT H a) := fun r a ha => r.frn a ha
  have kp : ∀ {F' m' σ env S' H'}, Rel c F' m' σ env S' H' → (∀ a o, H a = some o → a ∉ m → H' a = some o) := fun r a o e hn => has_exact hlk (r.old a o e hn) e
  cases e : b (pvs.map Slot.v ++ List.replicate u Slot.un) St with
  | st => rw [e] at h; exact h
  | nx env S' => rw [e] at h; exact fun F' m' σ H' r' s' p' => h F' m' H' .non r'.r0 s' p' (fz r') (fun a ha hn => r'.newm a ha hn) (kp r') .non
  | bk env S' => rw [e] at h; exact h.elim
  | ct env S' => rw [e] at h; exact h.elim
  | rt p env S' => rw [e] at h; exact fun F' m' σ H' v r' s' p' q' => h F' m' H' v r'.r0 s' p' (fz r') (fun a ha hn => r'.newm a ha hn) (kp r') q'
  | ex x env S' => rw [e] at h; exact fun F' m' σ H' cls d r' s' p' q' => h F' m' H' cls d r'.r0 s' p' (fz r') (fun a ha hn => r'.newm a ha hn) (kp r') q'

/-! ### calls -/
def dCall (f : DF) (dr : Den (List PV)) : DE := dr.bind fun ps => fun e s => match f ps s with
  | .st => .st
  | .ok p s => .ok p e s
  | .ex x s => .ex x e s
section
variable {c : Cfg} {F F' H H' : Hp} {m m' : List Addr} {σ : St} {env : DEnv} {S S' : Stor}
/-- behind a call -/
theorem Rel.call (r : Rel c F m σ env S H) (r' : R0 c.K c.mg c.lk F' m' S' H') (s : Same F F') (p : m <+: m') (hf : ∀ a, F' a ≠ none → F a ≠ none ∨ IT H a) (hm : ∀ a ∈ m', a ∉ m → H a = none) (ho : ∀ a o, H a = some o → a ∉ m → H' a = some o) : Rel c F' m' σ env S' H' where
  r0 := r'
  len := r.len
  slot := fun i t e => (r.slot i t e).mono s p fun a o q => by
    obtain ⟨u, hu⟩ := (r.slot i t e).there o q
    rw [hu]
    exact ho a u hu (r.ownf i a ⟨t, e, o, q⟩).2.1
  ownd := r.ownd
  ownf := fun i a o => by
    obtain ⟨h1, h2, h3⟩ := r.ownf i a o
    obtain ⟨u, hu⟩ := r.own_there o
    refine ⟨?_, fun ha => ?_, h3⟩
    · cases q : F' a with
      | none => rfl
      | some w =>
        rcases hf a (by rw [q]; exact fun z => nomatch z) with z | z
        · exact absurd h1 z
        · exact (r.own_noit o z).elim
    · have := hm a ha h2
      rw [hu] at this; cases this
  old := fun a o e hn => by
    by_cases ha : a ∈ m
    · have := r.newm a ha hn
      rw [e] at this; cases this
    · rcases r.old a o e hn with h | ⟨l, d, ob, h⟩
      · exact .inl (ho a o h ha)
      · exact .inr ⟨l, d, ob, ho a _ h ha⟩
  newm := fun a ha hn => by
    by_cases h : a ∈ m
    · exact r.newm a h hn
    · exact r.free0 (hm a ha h)
  pre := r.pre.trans p
  frn := fun a ha => by
    rcases hf a ha with z | z
    · exact r.frn a z
    · exact .inr (r.it0 z)
  f0 := r.f0.trans s
  lkh := r.lkh
end
section
variable {k j : Nat} {X : Cx} {c : Cfg} {e : Expr} {es : List Expr} {dr : Den (List PV)} {p pos : Pos} {x : Str} {f : DF} {ps : List Str}
theorem call_sp {σ : St} {Q : VK} {F H : Hp} {m : List Addr} {env : DEnv} {S : Stor} {vs : List V} {pvs : List PV} (hl : vs.length = ps.length) (r : Rel c F m σ env S H) (q : RepL c.K F m vs pvs)
    (h : post (fun K F m v p => Rep K F m v p) c F m σ Q (match f pvs S with | .st => .st | .ok p s => .ok p env s | .ex x s => .ex x env s)) : spOf c.K c.mg ps.length f vs H Q (WE c.W σ) := by
  refine ⟨hl, c.lk, F, m, S, pvs, r.r0, q, ?_⟩
  cases e : f pvs S with
  | st => rw [e] at h; exact h
  | ok p S' => rw [e] at h; exact fun F' m' H' v r' s' p' a b o q' => h F' m' H' v (r.call r' s' p' a b o) s' p' q'
  | ex x S' => rw [e] at h; exact fun F' m' H' cls d r' s' p' a b o q' => h F' m' H' cls d (r.call r' s' p' a b o) s' p' q'
theorem r_call (hX : XOk k X c) (Fn : FOk X.prog X.w X.K X.mg X.base j x ps f) (hj : j ≤ k) (hg : Gl X x) (ha : PA X (e :: es) (rA c dr)) (hdb : (x == ("__debug__" : Str)) = false := by decide)
    (he : starEach (e :: es) X.env = (false, eval e X.env) :: starEach es X.env := by rfl) (hpl : (backTo pos (starEach es X.env)).any (·.1) = false := by rfl) : PE X (.Call (.Name x p) (e :: es) [] pos) (rE c (dCall f dr)) := by
  obtain ⟨a, fd, hm, hk, hb, FO, _⟩ := Fn.ex
  refine PE.weak (pe_callS FO (hX.room.mono hj) hg hm hk hb (E := WE c.W) hX.pas ha hdb he hpl) fun σ H Q h => ?_
  obtain ⟨F, m, h⟩ := h
  refine (rd_bind h).imp fun v H1 ⟨F1, m1, p, s1, p1, q1, env, S, r, h⟩ => ?_
  rw [hX.K, hX.mg]
  refine call_sp ?_ r q1 h
  rw [q1.length]
  exact Decidable.byContradiction fun hne => by dsimp only at h; rw [Fn.len p S hne] at h; exact h
end
end Dn
end
section
set_option Elab.async false
set_option linter.all false
set_option maxRecDepth 100000
set_option maxHeartbeats 1000000
namespace Dn
open PySem L2 PySem.Spec PyProof.Rows

/-! ### what is walked -/
def ItR (c : Cfg) (J : It) (F : Hp) (m : List Addr) (ps : List PV) : Prop := ∃ G Y, Walk J ps.length G Y ∧
  (∀ F' m' σ env S H, Rel c F' m' σ env S H → Same F F' → m <+: m' → G H) ∧
  ∀ F' m' σ env S H i x H', Rel c F' m' σ env S H → Same F F' → m <+: m' → i < ps.length → Y i H x H' → ∃ F3 p, Ext F' H F3 H' ∧ ps[i]? = some p ∧ Rep c.K F3 m' x p
def pI (c : Cfg) (F : Hp) (m : List Addr) (σ : St) (R : It → Hp → Prop) : Out (List PV) → Prop
  | .st => False
  | .ok ps env S => ∀ F' m' H J, Rel c F' m' σ env S H → Same F F' → m <+: m' → ItR c J F' m' ps → R J H
  | .ex x env S => ∀ F' m' H cls d, Rel c F' m' σ env S H → Same F F' → m <+: m' → ExR c F' m' H x cls d → c.W cls d σ H
def rI (c : Cfg) (d : Den (List PV)) : TI := fun σ H R => ∃ F m env S, Rel c F m σ env S H ∧ pI c F m σ R (d env S)
theorem PI.weak {X : Cx} {tg e : Expr} {t t' : TI} (h : PI X tg e t) (w : ∀ σ H Q, t' σ H Q → t σ H Q) : PI X tg e t' := ⟨fun pins s σ H R I q => h.run pins s σ H R I (w _ _ _ q)⟩

def dItL (d : DE) : Den (List PV) := d.bind fun p => match p with
  | .lst xs => Den.pure xs
  | .rol xs => Den.pure xs
  | _ => Den.fail
def dItT (d : DE) : Den (List PV) := d.bind fun p => match p with
  | .tup xs => Den.pure xs
  | .ftp xs => Den.pure xs
  | _ => Den.fail
theorem rI_of {α β : Type} {R : RP β α} {c : Cfg} {d : Den α} {kk : α → Den (List PV)} {σ : St} {H : Hp} {Q : It → Hp → Prop} (h : rI c (d.bind kk) σ H Q) :
    rd R c d σ H fun v H1 => ∃ F1 m1 p env S, R c.K F1 m1 v p ∧ Rel c F1 m1 σ env S H1 ∧ pI c F1 m1 σ Q (kk p env S) := by
  obtain ⟨F, m, env, S, r, h⟩ := h
  refine ⟨F, m, env, S, r, ?_⟩
  unfold Den.bind at h
  cases e : d env S with
  | st => rw [e] at h; exact h
  | ok p env1 S1 =>
    rw [e] at h
    refine fun F1 m1 H1 v r1 s1 p1 q1 => ⟨F1, m1, p, env1, S1, q1, r1, ?_⟩
    have h : pI c F m σ Q (kk p env1 S1) := h
    cases e2 : kk p env1 S1 with
    | st => rw [e2] at h; exact h
    | ok ps env2 S2 => rw [e2] at h; exact fun F' m' H J r s' p' i => h F' m' H J r (s1.trans s') (p1.trans p') i
    | ex x env2 S2 => rw [e2] at h; exact fun F' m' H J d r s' p' i => h F' m' H J d r (s1.trans s') (p1.trans p') i
  | ex x env1 S1 =>
    rw [e] at h
    exact h
theorem itR_list {c : Cfg} {F : Hp} {m : List Addr} {a : Addr} {vs : List V} {ps : List PV} (hf : F a = some (.lst vs)) (r : RepL c.K F m vs ps) : ItR c (Itl c.K a) F m ps := by
  refine ⟨_, _, by rw [← r.length]; exact walk_list (xs := vs), fun F' m' σ env S H R s p => SqL.of (R.r0.sub _ _ (s _ _ hf)).lst, fun F' m' σ env S H i x H' R s p hi y => ?_⟩
  obtain ⟨rfl, h⟩ := y
  obtain ⟨q, hq, rq⟩ := r.getV h
  exact ⟨F', q, Ext.refl _ _, hq, rq.mono s p⟩
theorem itR_rol {c : Cfg} {F : Hp} {m : List Addr} {a : Addr} {vs : List V} {ps : List PV} (hf : SqL c.K F a vs) (r : RepL c.K F m vs ps) : ItR c (Itl c.K a) F m ps := by
  refine ⟨_, _, by rw [← r.length]; exact walk_list (xs := vs), fun F' m' σ env S H R s p => rol_sq R.r0 (s.seq hf), fun F' m' σ env S H i x H' R s p hi y => ?_⟩
  obtain ⟨rfl, h⟩ := y
  obtain ⟨q, hq, rq⟩ := r.getV h
  exact ⟨F', q, Ext.refl _ _, hq, rq.mono s p⟩
theorem itR_tup {c : Cfg} {F : Hp} {m : List Addr} {a : Addr} {vs : List V} {ps : List PV} (hf : F a = some (.tup vs)) (r : RepL c.K F m vs ps) : ItR c (Itt c.K a) F m ps := by
  refine ⟨_, _, by rw [← r.length]; exact walk_tup (xs := vs), fun F' m' σ env S H R s p => SqT.of (R.r0.sub _ _ (s _ _ hf)).tup, fun F' m' σ env S H i x H' R s p hi y => ?_⟩
  obtain ⟨rfl, h⟩ := y
  obtain ⟨q, hq, rq⟩ := r.getV h
  exact ⟨F', q, Ext.refl _ _, hq, rq.mono s p⟩
theorem itR_ftp {c : Cfg} {F : Hp} {m : List Addr} {a : Addr} {ob : Obj} {vs : List V} {ps : List PV} (hf : F a = some (.frz ob (.tup vs))) (r : RepL c.K F m vs ps) : ItR c (Itt c.K a) F m ps := by
  refine ⟨_, _, by rw [← r.length]; exact walk_tup (xs := vs), fun F' m' σ env S H R s p => ftp_sq R.r0 (s _ _ hf), fun F' m' σ env S H i x H' R s p hi y => ?_⟩
  obtain ⟨rfl, h⟩ := y
  obtain ⟨q, hq, rq⟩ := r.getV h
  exact ⟨F', q, Ext.refl _ _, hq, rq.mono s p⟩
section
variable {k : Nat} {X : Cx} {c : Cfg} {tg e : Expr} {de : DE} {p pos : Pos}
theorem i_list (hX : XOk k X c) (he : PE X e (rE c de)) : PI X tg e (rI c (dItL de)) := by
  refine PI.weak (pi_list he) fun σ H Q h => ?_
  obtain ⟨K, mg, F0, m0, H0, lk, W⟩ := c
  obtain rfl := hX.K
  obtain rfl := hX.mg
  refine (rI_of h).imp fun v H1 ⟨F1, m1, p, env, S, q1, r, h⟩ => ?_
  cases q1 with
  | lst hf q => exact ⟨_, rfl, ⟨_, SqL.of (r.r0.sub _ _ hf).lst⟩, h F1 m1 H1 _ r (Same.refl _) (List.prefix_refl _) (itR_list hf q)⟩
  | rol hf q => exact ⟨_, rfl, ⟨_, rol_sq r.r0 hf⟩, h F1 m1 H1 _ r (Same.refl _) (List.prefix_refl _) (itR_rol hf q)⟩
  | _ => exact (show False from h).elim
theorem i_tup (hX : XOk k X c) (he : PE X e (rE c de)) : PI X tg e (rI c (dItT de)) := by
  refine PI.weak (pi_tup he) fun σ H Q h => ?_
  obtain ⟨K, mg, F0, m0, H0, lk, W⟩ := c
  obtain rfl := hX.K
  obtain rfl := hX.mg
  refine (rI_of h).imp fun v H1 ⟨F1, m1, p, env, S, q1, r, h⟩ => ?_
  cases q1 with
  | tup hf q => exact ⟨_, rfl, ⟨_, SqT.of (r.r0.sub _ _ hf).tup⟩, h F1 m1 H1 _ r (Same.refl _) (List.prefix_refl _) (itR_tup hf q)⟩
  | ftp hf e1 e2 q => exact ⟨_, rfl, ⟨_, ftp_sq r.r0 hf⟩, h F1 m1 H1 _ r (Same.refl _) (List.prefix_refl _) (itR_ftp hf q)⟩
  | _ => exact (show False from h).elim
/-- range(n) -/
def dItR (d : DE) : Den (List PV) := d.bind fun p => match p with
  | .int n => if -1000000 ≤ n ∧ n ≤ 1000000 then Den.pure (rngPV n) else Den.fail
  | _ => Den.fail
theorem i_rng {a : Expr} {da : DE} (hX : XOk k X c) (hg : Gl X "range") (hm : X.mg "range" = none) (ha : PE X a (rE c da)) (hs : starEach [a] X.env = (false, eval a X.env) :: starEach [] X.env := by rfl) (hs' : starEach [a] X.env = [(false, eval a X.env)] := by rfl) :
    PI X tg (.Call (.Name "range" p) [a] [] pos) (rI c (dItR da)) := by
  refine PI.weak (pi_range1 hg hm (pa_cons ha pa_nil hs) hs') fun σ H Q h => ?_
  refine (rI_of h).imp fun v H1 ⟨F1, m1, p, env, S, q1, r, h⟩ => ?_
  cases q1 with
  | int n =>
    dsimp only at h
    split at h
    · rename_i hh
      refine ⟨n, rfl, by omega, by omega, h F1 m1 H1 _ r (Same.refl _) (List.prefix_refl _) ?_⟩
      have hl : (rngPV n).length = n.toNat := by unfold rngPV; rw [List.length_map, List.length_range]
      refine ⟨_, _, by rw [hl]; exact walk_range, fun _ _ _ _ _ _ _ _ _ => trivial, fun F' m' σ env S H i x H' R s p hi y => ?_⟩
      obtain ⟨rfl, rfl⟩ := y
      refine ⟨F', .int (0 + (i : Int)), Ext.refl _ _, ?_, .int _⟩
      unfold rngPV
      rw [List.getElem?_map, List.getElem?_range (by rw [hl] at hi; exact hi), Int.zero_add]
      rfl
    · exact (show False from h).elim
  | _ => exact (show False from h).elim
end

/-! ### for -/
def forL (g : PV → DEnv → Option DEnv) (b : DS) : List PV → DS
  | [] => sNext
  | p :: ps => fun e s => match g p e with
    | none => .st
    | some e1 => match b e1 s with
      | .nx e s => forL g b ps e s
      | .ct e s => forL g b ps e s
      | .bk e s => .nx e s
      | o => o
def sFor (di : Den (List PV)) (g : PV → DEnv → Option DEnv) (b : DS) : DS := sE di (forL g b)
theorem k_for {k : Nat} {X : Cx} {c : Cfg} {tg iter : Expr} {body : List Stmt} {di : Den (List PV)} {g : PV → DEnv → Option DEnv} {b : DS} {pos : Pos} (hX : XOk k X c) (hp : PassesOwn (model X.prog X.w) X.A X.env X.xe) (hi : PI X tg iter (rI c di)) {is : List Nat} (hg : PG X tg (rG c is g)) (hb : PSs X body (rS c b))
    (hs : ∀ x, foldedSetIterable iter X.env x = pure x := by intro _; rfl) : PS X (.For tg iter body [] pos) (rS c (sFor di g b)) := by
  refine PS.weak (ps_for hp hX.calm hi hg hb hs) fun D σ H ⟨F, m, env, S, r, h⟩ => ?_
  refine ⟨F, m, env, S, r, ?_⟩
  unfold sFor sE at h
  cases e : di env S with
  | st => rw [e] at h; exact h
  | ex x env1 S1 => rw [e] at h; exact fun F' m' H cls d r' s' p' q => h F' m' σ H cls d r' s' p' q
  | ok ps env1 S1 =>
    rw [e] at h
    intro F1 m1 H1 J r1 s1 p1 it
    obtain ⟨G, Y, w, hG, hY⟩ := it
    refine for_it w (fun i σ H => ∃ F2 m2 env2 S2, Same F1 F2 ∧ m1 <+: m2 ∧ Rel c F2 m2 σ env2 S2 H ∧ pS c F2 m2 D (forL g b (ps.drop i) env2 S2)) ?_ ?_ ?_ ?_
    · exact ⟨F1, m1, env1, S1, Same.refl _, List.prefix_refl _, r1, h.mono s1 p1⟩
    · rintro i σ H hi ⟨F2, m2, env2, S2, s2, p2, r2, _⟩
      exact hG F2 m2 _ _ S2 H r2 s2 p2
    · rintro i x σ H H' hi ⟨F2, m2, env2, S2, s2, p2, r2, h2⟩ y
      obtain ⟨F3, p, x3, hp3, rp⟩ := hY F2 m2 _ _ S2 H i x H' r2 s2 p2 hi y
      have ed : ps.drop i = p :: ps.drop (i + 1) := by
        rw [List.drop_eq_getElem_cons hi]
        rw [List.getElem?_eq_getElem hi] at hp3
        rw [Option.some.inj hp3]
      rw [ed] at h2
      unfold forL at h2
      cases eg : g p env2 with
      | none => rw [eg] at h2; exact h2.elim
      | some env3 =>
        rw [eg] at h2
        refine ⟨F3, m2, env2, S2, p, r2.ext x3, rp, env3, eg, fun σ' r' _ => ⟨F3, m2, env3, S2, r', ?_⟩⟩
        have h2 := h2.mono x3.f (List.prefix_refl _)
        dsimp only at h2
        cases eb : b env3 S2 with
        | st => rw [eb] at h2; exact h2
        | nx env4 S4 => rw [eb] at h2; exact fun F' m' σ H r s p => ⟨F', m', env4, S4, s2.trans (x3.f.trans s), p2.trans p, r, h2.mono s p⟩
        | ct env4 S4 => rw [eb] at h2; exact fun F' m' σ H r s p => ⟨F', m', env4, S4, s2.trans (x3.f.trans s), p2.trans p, r, h2.mono s p⟩
        | bk env4 S4 => rw [eb] at h2; exact h2
        | rt q env4 S4 => rw [eb] at h2; exact h2
        | ex q env4 S4 => rw [eb] at h2; exact h2
    · rintro σ H ⟨F2, m2, env2, S2, s2, p2, r2, h2⟩
      rw [List.drop_length] at h2
      exact h2 F2 m2 σ H r2 (Same.refl _) (List.prefix_refl _)

/-! ### while -/
def whL (t : Den Bool) (b : DS) : Nat → DS
  | 0 => fun _ _ => .st
  | n + 1 => sE t fun k => if k then fun e s => match b e s with
      | .nx e s => whL t b n e s
      | .ct e s => whL t b n e s
      | .bk e s => .nx e s
      | o => o
    else sNext
open Classical in
noncomputable def sWhile (t : Den Bool) (b : DS) : DS := fun e s => if h : ∃ n, whL t b n e s ≠ .st then whL t b h.choose e s else .st
theorem whL_succ (t : Den Bool) (b : DS) : ∀ (n : Nat) (e : DEnv) (s : Stor), whL t b n e s ≠ .st → whL t b (n + 1) e s = whL t b n e s
  | 0, e, s, h => absurd rfl h
  | n + 1, e, s, h => by
    have ih := whL_succ t b n
    rw [whL.eq_2, whL.eq_2] at *
    unfold sE at *
    cases e1 : t e s with
    | st => rfl
    | ex x env S => rfl
    | ok k env S =>
      rw [e1] at h
      cases k with
      | false => rfl
      | true =>
        simp only [if_true] at h ⊢
        cases e2 : b env S with
        | st => rfl
        | nx env2 S2 => rw [e2] at h; exact ih _ _ h
        | ct env2 S2 => rw [e2] at h; exact ih _ _ h
        | bk env2 S2 => rfl
        | rt p env2 S2 => rfl
        | ex p env2 S2 => rfl
theorem whL_add (t : Den Bool) (b : DS) (n : Nat) (e : DEnv) (s : Stor) (h : whL t b n e s ≠ .st) : ∀ j, whL t b (n + j) e s = whL t b n e s
  | 0 => rfl
  | j + 1 => by
    have ih := whL_add t b n e s h j
    rw [← Nat.add_assoc, whL_succ t b (n + j) e s (by rw [ih]; exact h), ih]
theorem sWhile_of {t : Den Bool} {b : DS} (n : Nat) {e : DEnv} {s : Stor} {o : OutS} (h : whL t b n e s = o) (ho : o ≠ .st) : sWhile t b e s = o := by
  unfold sWhile
  have hx : ∃ n, whL t b n e s ≠ .st := ⟨n, by rw [h]; exact ho⟩
  rw [dif_pos hx]
  have h1 := whL_add t b _ e s hx.choose_spec n
  have h2 := whL_add t b n e s (by rw [h]; exact ho) hx.choose
  rw [← h1, Nat.add_comm, h2, h]
theorem k_while {k : Nat} {X : Cx} {c : Cfg} {e : Expr} {body : List Stmt} {t : Den Bool} {b : DS} {pos : Pos} (hp : PassesOwn (model X.prog X.w) X.A X.env X.xe) (hc : PT X e (rT c t)) (hb : PSs X body (rS c b)) : PS X (.While e body [] pos) (rS c (sWhile t b)) := by
  refine PS.weak (ps_while hp hc hb) fun D σ H ⟨F, m, env, S, r, h⟩ => ?_
  have hx : ∃ n, whL t b n env S ≠ .st := by
    by_cases hx : ∃ n, whL t b n env S ≠ .st
    · exact hx
    · unfold sWhile at h; rw [dif_neg hx] at h; exact h.elim
  obtain ⟨n, hn⟩ := hx
  rw [sWhile_of n rfl hn] at h
  refine ⟨fun n σ H => ∃ F m env S, Rel c F m σ env S H ∧ pS c F m D (whL t b n env S), ⟨n, F, m, env, S, r, h⟩, ?_⟩
  rintro n σ H ⟨F, m, env, S, r, h⟩
  cases n with
  | zero => exact h.elim
  | succ n =>
    refine (sE_of (R := fun _ _ _ v p => v = p) ⟨env, S, r, h⟩).imp fun v H1 ⟨F1, m1, p, s1, p1, q1, env, S, r, h⟩ => ?_
    cases q1
    cases v with
    | false =>
      rw [if_neg Bool.false_ne_true]
      exact h F1 m1 σ H1 r (Same.refl _) (List.prefix_refl _)
    | true =>
      rw [if_pos rfl]
      refine ⟨fun σ H => ∃ F m env S, Rel c F m σ env S H ∧ pS c F m D (whL t b n env S), fun σ' H' h' => ⟨n, Nat.lt_succ_self n, h'⟩, F1, m1, env, S, r, ?_⟩
      simp only [if_true] at h
      cases eb : b env S with
      | st => rw [eb] at h; exact h
      | nx env4 S4 => rw [eb] at h; exact fun F' m' σ H r s p => ⟨F', m', env4, S4, r, h.mono s p⟩
      | ct env4 S4 => rw [eb] at h; exact fun F' m' σ H r s p => ⟨F', m', env4, S4, r, h.mono s p⟩
      | bk env4 S4 => rw [eb] at h; exact h
      | rt q env4 S4 => rw [eb] at h; exact h
      | ex q env4 S4 => rw [eb] at h; exact h
end Dn
end
section
set_option Elab.async false
set_option linter.all false
set_option maxRecDepth 100000
set_option maxHeartbeats 1000000
namespace Dn
open PySem L2 PySem.Spec PyProof.Rows

/-! ### lists that no one knows yet -/
def pO (c : Cfg) (F : Hp) (m : List Addr) (σ : St) (Q : VK) : Out (List PV) → Prop
  | .st => False
  | .ok ps env S => ∀ F' m' H a vs, Rel c F' m' σ env S H → Same F F' → m <+: m' → F' a = none → a ∉ m' → c.H0 a = none → (∀ j, ¬ Own env σ j a) → H a = some (.lst vs) → RepL c.K F' m' vs ps → Q (.ref a) H
  | .ex x env S => ∀ F' m' H cls d, Rel c F' m' σ env S H → Same F F' → m <+: m' → ExR c F' m' H x cls d → c.W cls d σ H
def rO (c : Cfg) (d : Den (List PV)) : TE := fun σ H Q => ∃ F m env S, Rel c F m σ env S H ∧ pO c F m σ Q (d env S)
theorem pO.mono {c : Cfg} {F F1 : Hp} {m m1 : List Addr} {σ : St} {Q : VK} {o : Out (List PV)} (h : pO c F m σ Q o) (hs : Same F F1) (hm : m <+: m1) : pO c F1 m1 σ Q o := by
  cases o with
  | st => exact h
  | ok p env S => exact fun F' m' H a v r s1 p1 => h F' m' H a v r (hs.trans s1) (hm.trans p1)
  | ex x env S => exact fun F' m' H cls d r s1 p1 q => h F' m' H cls d r (hs.trans s1) (hm.trans p1) q
theorem Rel.fresh_ne {c : Cfg} {F H : Hp} {m : List Addr} {σ : St} {env : DEnv} {S : Stor} (r : Rel c F m σ env S H) {a : Addr} (h : H a = none) : F a = none ∧ a ∉ m ∧ c.H0 a = none ∧ (∀ j, ¬ Own env σ j a) ∧ c.F0 a = none := by
  have hF : F a = none := by
    cases q : F a with
    | none => rfl
    | some u => exact absurd h (r.r0.fne a u q)
  refine ⟨hF, fun z => ?_, r.free0 h, fun j o => ?_, ?_⟩
  · obtain ⟨o, ho⟩ := r.r0.mem z; rw [h] at ho; cases ho
  · obtain ⟨u, hu⟩ := r.own_there o; rw [h] at hu; cases hu
  · cases q : c.F0 a with
    | none => rfl
    | some u => have := r.f0 a u q; rw [hF] at this; cases this
/-- a thing that the relation does not speak of -/
theorem Rel.upd_free {c : Cfg} {F H : Hp} {m : List Addr} {σ : St} {env : DEnv} {S : Stor} {a : Addr} {o : HO} (r : Rel c F m σ env S H) (hF : F a = none) (hm : a ∉ m) (h0 : c.H0 a = none) (hn : ∀ j, ¬ Own env σ j a) (hl : ∀ ob u, H a ≠ some (.frz ob u)) : Rel c F m σ env S (upd H a o) where
  r0 := {
    sub := fun b u e => by
      have nb : b ≠ a := ne_of_none e hF
      rcases r.r0.sub b u e with h | ⟨l, d, ob, h⟩
      · exact .inl (by rw [upd_ne nb]; exact h)
      · exact .inr ⟨l, d, ob, by rw [upd_ne nb]; exact h⟩
    imm := r.r0.imm
    len := r.r0.len
    sto := fun j b so h1 h2 => (r.r0.sto j b so h1 h2).mono (Same.refl _) (List.prefix_refl _) (upd_ne fun z => hm (z ▸ List.mem_of_getElem? h1))
    nd := r.r0.nd
    muf := r.r0.muf
    lkd := fun b hb => by
      obtain ⟨ob, u, e⟩ := r.r0.lkd b hb
      exact ⟨ob, u, by rw [upd_ne (fun (z : b = a) => hl ob u (z ▸ e))]; exact e⟩ }
  len := r.len
  slot := fun j s e => (r.slot j s e).mono (Same.refl _) (List.prefix_refl _) fun b ob eb => upd_ne fun (z : b = a) => hn j (z ▸ ⟨s, e, ob, eb⟩)
  ownd := r.ownd
  ownf := r.ownf
  old := fun b u e hb => by
    have nb : b ≠ a := ne_of_none e h0
    rcases r.old b u e hb with h | ⟨l, d, ob, h⟩
    · exact .inl (by rw [upd_ne nb]; exact h)
    · exact .inr ⟨l, d, ob, by rw [upd_ne nb]; exact h⟩
  newm := r.newm
  pre := r.pre
  frn := r.frn
  f0 := r.f0
  lkh := r.lkh
theorem Rel.freeze_free {c : Cfg} {F H : Hp} {m : List Addr} {σ : St} {env : DEnv} {S : Stor} {a : Addr} {o : HO} (r : Rel c F m σ env S H) (hF : F a = none) (hm : a ∉ m) (h0 : c.H0 a = none) (hn : ∀ j, ¬ Own env σ j a) (ho : H a = some o) (im : Imm o) : Rel c (upd F a o) m σ env S H ∧ Same F (upd F a o) := by
  have same : Same F (upd F a o) := fun b u e => by rw [upd_ne (ne_of_none e hF)]; exact e
  refine ⟨⟨⟨fun b u e => ?_, fun b u e => ?_, r.r0.len, fun j b so h1 h2 => (r.r0.sto j b so h1 h2).mono same (List.prefix_refl _) rfl, r.r0.nd, fun b hb => ?_, r.r0.lkd⟩, r.len, fun j t e => (r.slot j t e).mono same (List.prefix_refl _) fun _ _ _ => rfl, r.ownd, fun j b h1 => ?_, r.old, r.newm, r.pre, fun b h => ?_, r.f0.trans same, r.lkh⟩, same⟩
  · by_cases q : b = a
    · subst q; rw [upd_same] at e; cases e; exact .inl ho
    · rw [upd_ne q] at e; exact r.r0.sub b u e
  · by_cases q : b = a
    · subst q; rw [upd_same] at e; cases e; exact im
    · rw [upd_ne q] at e; exact r.r0.imm b u e
  · rw [upd_ne (fun (q : b = a) => hm (q ▸ hb))]; exact r.r0.muf b hb
  · obtain ⟨g0, g1, g2⟩ := r.ownf j b h1
    exact ⟨by rw [upd_ne (fun (q : b = a) => hn j (q ▸ h1))]; exact g0, g1, g2⟩
  · by_cases q : b = a
    · subst q; exact .inr (.inl h0)
    · rw [upd_ne q] at h; exact r.frn b h
def dLs (d : Den (List PV)) : DE := d.bind fun ps => Den.pure (.lst ps)
/-- .. as a value -/
theorem o_val {X : Cx} {c : Cfg} {e : Expr} {d : Den (List PV)} (h : PE X e (rO c d)) : PE X e (rE c (dLs d)) := by
  refine PE.weak h fun σ H Q ⟨F, m, env, S, r, h⟩ => ⟨F, m, env, S, r, ?_⟩
  unfold dLs Den.bind at h
  cases e : d env S with
  | st => rw [e] at h; exact h
  | ex x env1 S1 => rw [e] at h; exact h
  | ok ps env1 S1 =>
    rw [e] at h
    intro F1 m1 H1 a vs r1 s1 p1 hF hm h0 hn ha q
    obtain ⟨r2, s2⟩ := r1.freeze_free hF hm h0 hn ha trivial
    exact h _ m1 H1 _ r2 (s1.trans s2) p1 (.lst upd_same (q.mono s2 (List.prefix_refl _)))
/-- .. as a name's own -/
def sSetO (i : Nat) (d : Den (List PV)) : DS := sE d fun ps e s => .nx (e.set i (.ol ps)) s
theorem asgO {c : Cfg} {d : Den (List PV)} {i : Nat} {D : Ends} {σ : St} {H : Hp} (h : rS c (sSetO i d) D σ H) : rO c d σ H fun x H1 => D.nx (σ.set i (some x)) H1 := by
  obtain ⟨F, m, env, S, r, h⟩ := h
  refine ⟨F, m, env, S, r, ?_⟩
  unfold sSetO sE at h
  cases e : d env S with
  | st => rw [e] at h; exact h
  | ex x env1 S1 => rw [e] at h; exact fun F' m' H cls d r s p q => h F' m' σ H cls d r s p q
  | ok ps env1 S1 =>
    rw [e] at h
    intro F1 m1 H1 a vs r1 s1 p1 hF hm h0 hn ha q
    exact h F1 m1 _ H1 (r1.set_own i hF hm h0 hn ⟨a, vs, rfl, ha, q⟩) s1 p1
theorem k_setO (i : Nat) {k : Nat} {X : Cx} {c : Cfg} {e : Expr} {d : Den (List PV)} {pos : Pos} {x : Str} {pos' : Pos} (hX : XOk k X c) (hi : X.N[i]? = some x) (hx : Loc X.env.scope x) (he : PE X e (rO c d)) (hs : swapsWith e (some (.Name x pos')) pos.line X.env = pure false := by rfl)
    (hf : X.fn x = true ∨ X.env.scope.names.lookup x = some .local := by first | exact .inl rfl | exact .inr rfl | assumption) : PS X (.Assign [.Name x pos'] e pos) (rS c (sSetO i d)) :=
  PS.weak (ps_set hX.nd hi hx he hs hf) fun D σ H h => asgO h
/-- .. into the store -/
def dNew (d : Den (List PV)) : DE := d.bind fun ps => fun e s => .ok (.ref s.length) e (s ++ [.lst ps])
theorem o_new {X : Cx} {c : Cfg} {e : Expr} {d : Den (List PV)} (h : PE X e (rO c d)) : PE X e (rE c (dNew d)) := by
  refine PE.weak h fun σ H Q ⟨F, m, env, S, r, h⟩ => ⟨F, m, env, S, r, ?_⟩
  unfold dNew Den.bind at h
  cases e : d env S with
  | st => rw [e] at h; exact h
  | ex x env1 S1 => rw [e] at h; exact h
  | ok ps env1 S1 =>
    rw [e] at h
    intro F1 m1 H1 a vs r1 s1 p1 hF hm h0 hn ha q
    refine h F1 (m1 ++ [a]) H1 _ (r1.alloc hF hm h0 hn ⟨vs, ha, q.mono (Same.refl _) (List.prefix_append _ _)⟩) s1 (p1.trans (List.prefix_append _ _)) (.ref ?_)
    rw [← r1.r0.len, List.getElem?_append_right (Nat.le_refl _), Nat.sub_self]
    rfl
/-- from a rule that lays a list -/
theorem o_of {β α : Type} {R : RP β α} {c : Cfg} {d : Den α} {g : α → Option (List PV)} {σ : St} {H : Hp} {Q : VK} (h : rO c (d.bind fun p => Den.opt (g p)) σ H Q) :
    rd R c d σ H fun v H1 => ∃ F1 m1 p env S ps, R c.K F1 m1 v p ∧ Rel c F1 m1 σ env S H1 ∧ g p = some ps ∧ ∀ a vs, H1 a = none → RepL c.K F1 m1 vs ps → Q (.ref a) (upd H1 a (.lst vs)) := by
  obtain ⟨F, m, env, S, r, h⟩ := h
  refine ⟨F, m, env, S, r, ?_⟩
  unfold Den.bind at h
  cases e : d env S with
  | st => rw [e] at h; exact h
  | ex x env1 S1 => rw [e] at h; exact h
  | ok p env1 S1 =>
    rw [e] at h
    have h : pO c F m σ Q (Den.opt (g p) env1 S1) := h
    cases eg : g p with
    | none => rw [eg] at h; exact h.elim
    | some ps =>
      rw [eg] at h
      refine fun F1 m1 H1 v r1 s1 p1 q1 => ⟨F1, m1, p, env1, S1, ps, q1, r1, eg, fun a vs ha q => ?_⟩
      obtain ⟨f1, f2, f3, f4, f5⟩ := r1.fresh_ne ha
      exact h F1 m1 _ a vs (r1.upd_free f1 f2 f3 f4 (fun ob u z => by rw [ha] at z; cases z)) s1 p1 f1 f2 f3 f4 upd_same q
/-- [a, b, ..] -/
def lDisp (dr : Den (List PV)) : Den (List PV) := dr.bind fun ps => Den.opt (if ps.length ≤ sizeLine then some ps else none)
theorem o_disp {X : Cx} {c : Cfg} {es : List Expr} {dr : Den (List PV)} {pos : Pos} (hr : PA X es (rA c dr)) : PE X (.List es pos) (rO c (lDisp dr)) := by
  refine PE.weak (pe_lst hr) fun σ H Q h => ?_
  refine (o_of (R := fun K F m v p => RepL K F m v p) h).imp fun v H1 ⟨F1, m1, p, env, S, ps, q, r, hg, h⟩ => ?_
  split at hg
  · rename_i hl
    cases hg
    exact ⟨by rw [q.length]; exact hl, fun a ha => h a v ha q⟩
  · cases hg
/-- list(range(n)) -/
def lRng (d : DE) : Den (List PV) := d.bind fun p => Den.opt (match p with
  | .int n => if -1000000 ≤ n ∧ n ≤ 1000000 then some (rngPV n) else none
  | _ => none)
/-! ### comprehensions -/
def wipeE (e : DEnv) : List Nat → DEnv
  | [] => e
  | v :: vs => (wipeE e vs).set v .un
def restE (e0 : DEnv) : List Nat → DEnv → DEnv
  | [], e => e
  | v :: vs, e => (restE e0 vs e).set v (e0[v]?.getD .un)
def lcL (own : List Nat) (g : PV → DEnv → Option DEnv) (dt : Den Bool) (de : DE) : List PV → List PV → Den (List PV)
  | [], acc => Den.pure acc
  | p :: ps, acc => fun e s => match g p e with
    | none => .st
    | some e1 => match dt e1 s with
      | .ok true e2 s2 => match de e2 s2 with
        | .ok v e3 s3 => if acc.length < sizeLine then lcL own g dt de ps (acc ++ [v]) (wipeE e3 own) s3 else .st
        | _ => .st
      | .ok false e2 s2 => lcL own g dt de ps acc (wipeE e2 own) s2
      | _ => .st
def noOwn (e : DEnv) (own : List Nat) : Bool := own.all fun i => match e[i]? with
  | some s => !s.own
  | none => true
def lComp (own : List Nat) (di : Den (List PV)) (g : PV → DEnv → Option DEnv) (dt : Den Bool) (de : DE) : Den (List PV) := di.bind fun ps => fun e s =>
  if noOwn e own then match lcL own g dt de ps [] (wipeE e own) s with
    | .ok acc e2 s2 => .ok acc (restE e own e2) s2
    | _ => .st
  else .st
def tTrue : Den Bool := Den.pure true
theorem wipeE_len (e : DEnv) : ∀ vs, (wipeE e vs).length = e.length
  | [] => rfl
  | v :: vs => by unfold wipeE; rw [List.length_set, wipeE_len e vs]
theorem wipeE_get (e : DEnv) (j : Nat) : ∀ vs : List Nat, (wipeE e vs)[j]? = if j ∈ vs then e[j]?.map (fun _ => Slot.un) else e[j]?
  | [] => by simp [wipeE]
  | v :: vs => by
    unfold wipeE
    have ih := wipeE_get e j vs
    by_cases q : v = j
    · subst q
      rw [if_pos List.mem_cons_self]
      by_cases hl : v < e.length
      · rw [List.getElem?_set_self (by rw [wipeE_len]; exact hl), List.getElem?_eq_getElem hl]; rfl
      · rw [List.getElem?_eq_none (by rw [List.length_set, wipeE_len]; exact Nat.le_of_not_lt hl), List.getElem?_eq_none (Nat.le_of_not_lt hl)]; rfl
    · rw [List.getElem?_set_ne q, ih]
      by_cases h : j ∈ vs
      · rw [if_pos h, if_pos (List.mem_cons_of_mem _ h)]
      · rw [if_neg h, if_neg (fun z => by rcases List.mem_cons.mp z with z | z; exact q z.symm; exact h z)]
theorem restE_len (e0 e : DEnv) : ∀ vs, (restE e0 vs e).length = e.length
  | [] => rfl
  | v :: vs => by unfold restE; rw [List.length_set, restE_len e0 e vs]
theorem restE_get (e0 e : DEnv) (j : Nat) : ∀ vs : List Nat, (restE e0 vs e)[j]? = if j ∈ vs then e[j]?.map (fun _ => e0[j]?.getD Slot.un) else e[j]?
  | [] => by simp [restE]
  | v :: vs => by
    unfold restE
    have ih := restE_get e0 e j vs
    by_cases q : v = j
    · subst q
      rw [if_pos List.mem_cons_self]
      by_cases hl : v < e.length
      · rw [List.getElem?_set_self (by rw [restE_len]; exact hl), List.getElem?_eq_getElem hl]; rfl
      · rw [List.getElem?_eq_none (by rw [List.length_set, restE_len]; exact Nat.le_of_not_lt hl), List.getElem?_eq_none (Nat.le_of_not_lt hl)]; rfl
    · rw [List.getElem?_set_ne q, ih]
      by_cases h : j ∈ vs
      · rw [if_pos h, if_pos (List.mem_cons_of_mem _ h)]
      · rw [if_neg h, if_neg (fun z => by rcases List.mem_cons.mp z with z | z; exact q z.symm; exact h z)]
section
variable {c : Cfg} {F F' H H' : Hp} {m m' : List Addr} {σ : St} {env env' : DEnv} {S S' : Stor}
theorem own_wipe {vs : List Nat} {i : Nat} {a : Addr} (o : Own (wipeE env vs) (wipe σ vs) i a) : i ∉ vs ∧ Own env σ i a := by
  obtain ⟨s, e, os, q⟩ := o
  rw [wipeE_get] at e
  rw [wipe_get] at q
  by_cases h : i ∈ vs
  · rw [if_pos h] at e
    obtain ⟨t, _, rfl⟩ := Option.map_eq_some_iff.mp e
    cases os
  · rw [if_neg h] at e q
    exact ⟨h, s, e, os, q⟩
theorem Rel.wipe (r : Rel c F m σ env S H) (vs : List Nat) : Rel c F m (L2.wipe σ vs) (wipeE env vs) S H where
  r0 := r.r0
  len := by rw [wipe_length, wipeE_len]; exact r.len
  slot := fun i s e => by
    rw [wipeE_get] at e
    rw [wipe_get]
    by_cases h : i ∈ vs
    · rw [if_pos h] at e
      obtain ⟨t, _, rfl⟩ := Option.map_eq_some_iff.mp e
      trivial
    · rw [if_neg h] at e ⊢
      exact r.slot i s e
  ownd := fun i j a h1 h2 => r.ownd i j a (own_wipe h1).2 (own_wipe h2).2
  ownf := fun i a h => r.ownf i a (own_wipe h).2
  old := r.old
  newm := r.newm
  pre := r.pre
  frn := r.frn
  f0 := r.f0
  lkh := r.lkh
theorem own_rest {vs : List Nat} {i : Nat} {a : Addr} (hno : noOwn env vs = true) (o : Own (restE env vs env') σ i a) : i ∉ vs ∧ Own env' (L2.wipe σ vs) i a := by
  obtain ⟨s, e, os, q⟩ := o
  rw [restE_get] at e
  by_cases h : i ∈ vs
  · rw [if_pos h] at e
    obtain ⟨t, _, rfl⟩ := Option.map_eq_some_iff.mp e
    unfold noOwn at hno
    have := List.all_eq_true.mp hno i h
    cases q2 : env[i]? with
    | none => rw [q2] at os; cases os
    | some u => rw [q2] at os this; simp at this os; rw [this] at os; cases os
  · rw [if_neg h] at e
    exact ⟨h, s, e, os, by rw [wipe_get, if_neg h]; exact q⟩
/-- behind the block -/
theorem Rel.rest {vs : List Nat} (hno : noOwn env vs = true) (r : Rel c F m σ env S H) (r' : Rel c F' m' (L2.wipe σ vs) env' S' H') (s : Same F F') (p : m <+: m') : Rel c F' m' σ (restE env vs env') S' H' where
  r0 := r'.r0
  len := by rw [restE_len, ← r'.len, wipe_length]
  slot := fun i t e => by
    rw [restE_get] at e
    by_cases h : i ∈ vs
    · rw [if_pos h] at e
      obtain ⟨t', _, rfl⟩ := Option.map_eq_some_iff.mp e
      unfold noOwn at hno
      have := List.all_eq_true.mp hno i h
      cases q2 : env[i]? with
      | none => trivial
      | some u =>
        rw [q2] at this
        have hs := r.slot i u q2
        show SlotR c.K F' m' H' σ[i]? u
        refine hs.mono s p fun a o _ => ?_
        have this : (!u.own) = true := this
        rw [o] at this; cases this
    · rw [if_neg h] at e
      have := r'.slot i t e
      rw [wipe_get, if_neg h] at this
      exact this
  ownd := fun i j a h1 h2 => r'.ownd i j a (own_rest hno h1).2 (own_rest hno h2).2
  ownf := fun i a h => r'.ownf i a (own_rest hno h).2
  old := r'.old
  newm := r'.newm
  pre := r'.pre
  frn := r'.frn
  f0 := r'.f0
  lkh := r'.lkh
/-- the new list is held as if it were old -/
theorem Rel.pin {W : WX} {D : Addr} {o : HO} (r : Rel c F m σ env S H) (hF : F D = none) (hm : D ∉ m) (hn : ∀ j, ¬ Own env σ j D) (ho : H D = some o) : Rel { c with H0 := upd c.H0 D o, W := W } F m σ env S H where
  r0 := r.r0
  len := r.len
  slot := r.slot
  ownd := r.ownd
  ownf := fun i a h => by
    obtain ⟨h1, h2, h3⟩ := r.ownf i a h
    refine ⟨h1, h2, ?_⟩
    show upd c.H0 D o a = none
    rw [upd_ne (fun (z : a = D) => hn i (z ▸ h))]
    exact h3
  old := fun a u e hb => by
    by_cases z : a = D
    · subst z
      have e : upd c.H0 a o a = some u := e
      rw [upd_same] at e; cases e
      exact .inl ho
    · have e : upd c.H0 D o a = some u := e
      rw [upd_ne z] at e
      exact r.old a u e hb
  newm := fun a ha hb => by
    show upd c.H0 D o a = none
    rw [upd_ne (fun (z : a = D) => hm (z ▸ ha))]
    exact r.newm a ha hb
  pre := r.pre
  frn := fun a h => by
    rcases r.frn a h with z | z
    · exact .inl z
    · refine .inr ?_
      show IT (upd c.H0 D o) a
      unfold IT
      rw [upd_ne (fun (q : a = D) => h (q ▸ hF))]
      exact z
  f0 := r.f0
  lkh := fun a ha => by
    obtain ⟨h1, ob, w, e⟩ := r.lkh a ha
    refine ⟨h1, ?_⟩
    by_cases z : a = D
    · subst z
      rcases r.old a _ e h1 with h | ⟨_, z, _⟩
      · rw [ho] at h; cases h
        exact ⟨ob, w, upd_same⟩
      · exact z.elim
    · exact ⟨ob, w, by show upd c.H0 D o a = _; rw [upd_ne z]; exact e⟩
theorem Rel.unpin {W : WX} {D : Addr} {vs : List V} (r : Rel { c with H0 := upd c.H0 D (.lst vs), W := W } F m σ env S H) (h0 : c.H0 D = none) (hF0 : c.F0 D = none) (hm0 : D ∉ c.m0) : Rel c F m σ env S H ∧ F D = none ∧ D ∉ m ∧ (∀ j, ¬ Own env σ j D) ∧ H D = some (.lst vs) := by
  have up : ∀ a, upd c.H0 D (.lst vs) a = none → c.H0 a = none := fun a h => by
    by_cases z : a = D
    · rw [z]; exact h0
    · rw [upd_ne z] at h; exact h
  refine ⟨⟨r.r0, r.len, r.slot, r.ownd, fun i a h => ?_, fun a u e hb => ?_, fun a ha hb => up a (r.newm a ha hb), r.pre, fun a h => ?_, r.f0, fun a ha => ?_⟩, ?_, fun hm => ?_, fun j h => ?_, ?_⟩
  · obtain ⟨h1, h2, h3⟩ := r.ownf i a h
    exact ⟨h1, h2, up a h3⟩
  · exact r.old a u (show upd c.H0 D (.lst vs) a = some u by rw [upd_ne (ne_of_none e h0)]; exact e) hb
  · rcases r.frn a h with z | z
    · exact .inl z
    · have z : IT (upd c.H0 D (.lst vs)) a := z
      refine .inr ?_
      by_cases q : a = D
      · rw [q]; exact .inl h0
      · unfold IT at z ⊢; rw [upd_ne q] at z; exact z
  · obtain ⟨h1, ob, w, e⟩ := r.lkh a ha
    have e : upd c.H0 D (.lst vs) a = some (.frz ob w) := e
    by_cases z : a = D
    · subst z; rw [upd_same] at e; cases e
    · rw [upd_ne z] at e; exact ⟨h1, ob, w, e⟩
  · cases q : F D with
    | none => rfl
    | some u =>
      rcases r.frn D (by rw [q]; exact fun z => nomatch z) with z | z
      · exact absurd hF0 z
      · have z : IT (upd c.H0 D (.lst vs)) D := z
        unfold IT at z; rw [upd_same] at z
        rcases z with z | ⟨_, z⟩ <;> cases z
  · have z : upd c.H0 D (.lst vs) D = none := r.newm D hm hm0
    rw [upd_same] at z; cases z
  · have z : upd c.H0 D (.lst vs) D = none := (r.ownf j D h).2.2
    rw [upd_same] at z; cases z
  · exact (r.old D (.lst vs) (show upd c.H0 D (.lst vs) D = _ from upd_same) hm0).lst
end
theorem PE.ex {X : Cx} {e : Expr} {ι : Type} {t : ι → TE} (h : ∀ i, PE X e (t i)) : PE X e (fun σ H Q => ∃ i, t i σ H Q) := ⟨fun pins s σ H Q I ⟨i, q⟩ => (h i).run pins s σ H Q I q⟩
theorem PG.ex {X : Cx} {e : Expr} {ι : Type} {t : ι → TG} (h : ∀ i, PG X e (t i)) : PG X e (fun v σ H Q => ∃ i, t i v σ H Q) := ⟨fun pins s σ H v u Q I r ⟨i, q⟩ => (h i).run pins s σ H v u Q I r q⟩
theorem PTs.ex {X : Cx} {e : List Expr} {ι : Type} {t : ι → TT} (h : ∀ i, PTs X e (t i)) : PTs X e (fun σ H Q => ∃ i, t i σ H Q) := ⟨fun pins s σ H Q I ⟨i, q⟩ => (h i).run pins s σ H Q I q⟩
theorem ts_nil {X : Cx} {c : Cfg} : PTs X [] (rT c tTrue) := ⟨fun pins s σ H Q I ⟨F, m, env, S, r, h⟩ => pts_nil.run pins s σ H Q I (h F m H true r (Same.refl _) (List.prefix_refl _) rfl)⟩
def noW : WX := fun _ _ _ _ => False
/-- the same place, at other times; no exception is let out -/
abbrev Tm := Hp × List Addr × Hp × List Addr
def Cfg.al (c : Cfg) (t : Tm) : Cfg := ⟨c.K, c.mg, t.2.2.1, t.2.2.2, t.1, t.2.1, noW⟩
theorem XOk.blk {k : Nat} {X : Cx} {c : Cfg} (h : XOk k X c) {s : Shared} {H : Hp} {scope : Scope} {ce : PySem.Env} {fp : List Addr} (t : Tm) : XOk k (X.blk s H scope ce fp) (c.al t) :=
  ⟨h.K, h.mg, h.calm, h.nd, h.room, fun _ _ _ _ _ _ _ q => by obtain ⟨_, _, _, _, _, _, _, _, _, _, _, _, z⟩ := q; exact z.elim⟩
def gEx (c : Cfg) (is : List Nat) (g : PV → DEnv → Option DEnv) : TG := fun v σ H Q => ∃ t : Tm, rG (c.al t) is g v σ H Q
def tEx (c : Cfg) (dt : Den Bool) : TT := fun σ H Q => ∃ t : Tm, rT (c.al t) dt σ H Q
def eEx (c : Cfg) (de : DE) : TE := fun σ H Q => ∃ t : Tm, rE (c.al t) de σ H Q
/-- one walk, by its items -/
theorem lc_corD {c : Cfg} {vs : List Nat} {is : List Nat} {g : PV → DEnv → Option DEnv} {dt : Den Bool} {de : DE} (his : ∀ i ∈ is, i ∈ vs) {σ : St} {Q : VK} {ps : List PV} {F1 : Hp} {m1 : List Addr} {env1 : DEnv} {S1 : Stor} {H1 : Hp} {J : It} (r1 : Rel c F1 m1 σ env1 S1 H1) (it : ItR c J F1 m1 ps) (hno : noOwn env1 vs = true)
    (h : pO c F1 m1 σ Q (match lcL vs g dt de ps [] (wipeE env1 vs) S1 with | .ok acc e2 s2 => .ok acc (restE env1 vs e2) s2 | _ => .st)) (D : Addr) (hD : H1 D = none) : ∃ W : Nat → Nat → Hp → Prop, (∃ m, W 0 m (upd H1 D (.lst []))) ∧ ∀ i m H, W i m H →
  (J.stop i H ∧ Q (.ref D) H) ∨ (J.go i H ∧ ∃ Nx : Hp → Prop, (∀ H', Nx H' → ∃ m', m' < m ∧ W (i + 1) m' H') ∧ ∀ x H', J.yld i H x H' → gEx c is g x (L2.wipe σ vs) H' fun σ2 H2 => L2.wipe σ2 vs = L2.wipe σ vs ∧ tEx c dt σ2 H2 fun b H3 =>
    if b = true then eEx c de σ2 H3 fun y H4 => ∃ acc, H4 D = some (.lst acc) ∧ acc.length < sizeLine ∧ Nx (upd H4 D (.lst (acc ++ [y]))) else Nx H3) := by
  obtain ⟨f1, f2, f3, f4, f5⟩ := r1.fresh_ne hD
  have fm0 : D ∉ c.m0 := fun z => f2 (r1.pre.subset z)
  obtain ⟨G, Y, w, hG, hY⟩ := it
  refine lc_it w (g := gEx c is g) (tt := tEx c dt) (te := eEx c de) (vs := vs) (σ := σ) (H1 := H1) (D := D) (Qd := fun H => Q (.ref D) H) (fun i H => ∃ F2 m2 env2 S2 acc va, Same F1 F2 ∧ m1 <+: m2 ∧ Rel c F2 m2 (L2.wipe σ vs) env2 S2 H ∧ (F2 D = none ∧ D ∉ m2 ∧ ∀ j, ¬ Own env2 (L2.wipe σ vs) j D) ∧ H D = some (.lst va) ∧ RepL c.K F2 m2 va acc ∧
    pO c F1 m1 σ Q (match lcL vs g dt de (ps.drop i) acc env2 S2 with | .ok acc e2 s2 => .ok acc (restE env1 vs e2) s2 | _ => .st)) ?_ ?_ ?_ ?_
  · refine ⟨F1, m1, wipeE env1 vs, S1, [], [], Same.refl _, List.prefix_refl _, (r1.wipe vs).upd_free f1 f2 f3 (fun j o => f4 j (own_wipe o).2) (fun ob u z => by rw [hD] at z; cases z), ⟨f1, f2, fun j o => f4 j (own_wipe o).2⟩, upd_same, .nil, h⟩
  · rintro i H hi ⟨F2, m2, env2, S2, acc, va, s2, p2, r2, _⟩
    exact hG F2 m2 _ _ S2 H r2 s2 p2
  · rintro i x H H' hi ⟨F2, m2, env2, S2, acc, va, s2, p2, r2, ⟨g1, g2, g3⟩, hva, ra, h2⟩ y
    obtain ⟨F3, p, x3, hp3, rp⟩ := hY F2 m2 _ _ S2 H i x H' r2 s2 p2 hi y
    have ed : ps.drop i = p :: ps.drop (i + 1) := by
      rw [List.drop_eq_getElem_cons hi]
      rw [List.getElem?_eq_getElem hi] at hp3
      rw [Option.some.inj hp3]
    rw [ed] at h2
    unfold lcL at h2
    cases eg : g p env2 with
    | none => rw [eg] at h2; exact h2.elim
    | some env3 =>
      rw [eg] at h2
      have r3 := r2.ext x3
      have g1' : F3 D = none := by
        cases q : F3 D with
        | none => rfl
        | some u =>
          rcases x3.n D (by rw [q]; exact fun z => nomatch z) g1 with z | ⟨_, z⟩ <;> (rw [hva] at z; cases z)
      have hva' : H' D = some (.lst va) := x3.h _ _ hva
      have rp3 := r3.pin (W := noW) g1' g2 (fun j o => g3 j o) hva'
      refine ⟨(upd c.H0 D (.lst va), c.lk, c.F0, c.m0), F3, m2, env2, S2, p, rp3, rp, env3, eg, fun σ' r4 hw => ?_⟩
      have hw2 : L2.wipe σ' vs = L2.wipe (L2.wipe σ vs) vs := hw vs his
      have hww : L2.wipe (L2.wipe σ vs) vs = L2.wipe σ vs := by
        apply List.ext_getElem?
        intro j
        rw [wipe_get, wipe_get]
        by_cases hj : j ∈ vs
        · rw [if_pos hj, if_pos hj]; cases σ[j]? <;> rfl
        · rw [if_neg hj, if_neg hj]
      have hw3 := hw2.trans hww
      refine ⟨hw3, (upd c.H0 D (.lst va), c.lk, c.F0, c.m0), F3, m2, env3, S2, r4, ?_⟩
      dsimp only at h2
      cases et : dt env3 S2 with
      | st => rw [et] at h2; exact h2.elim
      | ex x env4 S4 => rw [et] at h2; exact h2.elim
      | ok b env4 S4 =>
        rw [et] at h2
        intro F4 m4 H4 b' r5 s5 p5 hb
        have hb : b' = b := hb
        subst hb
        cases b' with
        | false =>
          rw [if_neg Bool.false_ne_true]
          obtain ⟨r6, g4, g5, g6, g7⟩ := r5.unpin f3 f5 fm0
          refine ⟨F4, m4, wipeE env4 vs, S4, acc, va, s2.trans (x3.f.trans s5), p2.trans p5, by rw [← hw3]; exact r6.wipe vs, ⟨g4, g5, fun j o => ?_⟩, g7, ra.mono (x3.f.trans s5) p5, h2⟩
          rw [← hw3] at o
          exact g6 j (own_wipe o).2
        | true =>
          rw [if_pos rfl]
          refine ⟨(upd c.H0 D (.lst va), c.lk, c.F0, c.m0), F4, m4, env4, S4, r5, ?_⟩
          dsimp only at h2
          cases ee : de env4 S4 with
          | st => rw [ee] at h2; exact h2.elim
          | ex x env5 S5 => rw [ee] at h2; exact h2.elim
          | ok v env5 S5 =>
            rw [ee] at h2
            dsimp only at h2
            by_cases hl : acc.length < sizeLine
            · rw [if_pos hl] at h2
              intro F5 m5 H5 yv r7 s7 p7 ry
              obtain ⟨r8, g4, g5, g6, g7⟩ := r7.unpin f3 f5 fm0
              have s25 : Same F2 F5 := x3.f.trans (s5.trans s7)
              have p25 : m2 <+: m5 := p5.trans p7
              refine ⟨va, g7, by rw [ra.length]; exact hl, F5, m5, wipeE env5 vs, S5, acc ++ [v], va ++ [yv], s2.trans s25, p2.trans p25, ?_, ⟨g4, g5, fun j o => ?_⟩, upd_same, (ra.mono s25 p25).append (.cons ry .nil), h2⟩
              · rw [← hw3]
                exact (r8.upd_free g4 g5 f3 g6 (fun ob u z => by rw [g7] at z; cases z)).wipe vs
              · rw [← hw3] at o
                exact g6 j (own_wipe o).2
            · rw [if_neg hl] at h2
              exact h2.elim
  · rintro H ⟨F2, m2, env2, S2, acc, va, s2, p2, r2, ⟨g1, g2, g3⟩, hva, ra, h2⟩
    rw [List.drop_length] at h2
    have h2 : pO c F1 m1 σ Q (.ok acc (restE env1 vs env2) S2) := h2
    exact h2 F2 m2 H D va (r1.rest hno r2 s2 p2) s2 p2 g1 g2 f3 (fun j o => g3 j (own_rest hno o).2) hva ra
theorem lc_read {c : Cfg} {own : List (Str × Nat)} {di : Den (List PV)} {is : List Nat} {g : PV → DEnv → Option DEnv} {dt : Den Bool} {de : DE} (his : ∀ i ∈ is, i ∈ own.map (·.2)) {σ : St} {H : Hp} {Q : VK} (h : rO c (lComp (own.map (·.2)) di g dt de) σ H Q) :
    tLc (rI c di) (gEx c is g) (tEx c dt) (eEx c de) (own.map (·.2)) σ H Q := by
  obtain ⟨F, m, env, S, r, h⟩ := h
  refine ⟨F, m, env, S, r, ?_⟩
  generalize hvs : own.map (·.2) = vs at h his ⊢
  unfold lComp Den.bind at h
  cases e : di env S with
  | st => rw [e] at h; exact h
  | ex x env1 S1 => rw [e] at h; exact h
  | ok ps env1 S1 =>
    rw [e] at h
    have h : pO c F m σ Q (if noOwn env1 vs then match lcL vs g dt de ps [] (wipeE env1 vs) S1 with | .ok acc e2 s2 => .ok acc (restE env1 vs e2) s2 | _ => .st else .st) := h
    by_cases hno : noOwn env1 vs = true
    · rw [if_pos hno] at h
      intro F1 m1 H1 J r1 s1 p1 it D hD
      exact lc_corD his r1 it hno (h.mono s1 p1) D hD
    · rw [if_neg hno] at h
      exact h.elim

theorem o_comp {k : Nat} {X : Cx} {c : Cfg} {elt tg iter : Expr} {ifs : List Expr} {scope : Scope} {own : List (Str × Nat)} {pos : Pos} {di : Den (List PV)} {is : List Nat} {g : PV → DEnv → Option DEnv} {dt : Den Bool} {de : DE} (hX : XOk k X c)
    (ok : BlkOk X.N X.env.scope scope own) (hi : PI X tg iter (rI c di)) (his : ∀ i ∈ is, i ∈ own.map (·.2))
    (hg : ∀ (c : Cfg) (s : Shared) (H : Hp) (C : Addr) (cl : List (Str × Addr)) (fp : List Addr), XOk k (X.blk s H scope (compEnvC scope cl C X.env) fp) c → PG (X.blk s H scope (compEnvC scope cl C X.env) fp) tg (rG c is g))
    (ht : ∀ (c : Cfg) (s : Shared) (H : Hp) (C : Addr) (cl : List (Str × Addr)) (fp : List Addr), XOk k (X.blk s H scope (compEnvC scope cl C X.env) fp) c → PTs (X.blk s H scope (compEnvC scope cl C X.env) fp) ifs (rT c dt))
    (he : ∀ (c : Cfg) (s : Shared) (H : Hp) (C : Addr) (cl : List (Str × Addr)) (fp : List Addr), XOk k (X.blk s H scope (compEnvC scope cl C X.env) fp) c → PE (X.blk s H scope (compEnvC scope cl C X.env) fp) elt (rE c de))
    (hs : ∀ x, foldedSetIterable iter X.env x = pure x := by intro _; rfl) : PE X (.ListComp elt [⟨tg, iter, ifs, 0⟩] scope pos) (rO c (lComp (own.map (·.2)) di g dt de)) :=
  PE.weak (pe_lc (g := gEx c is g) (tt := tEx c dt) (te := eEx c de) hX.calm hX.nd hi ok (fun s H C cl fp => PG.ex fun H0 => hg (c.al H0) s H C cl fp (hX.blk H0)) (fun s H C cl fp => PTs.ex fun H0 => ht (c.al H0) s H C cl fp (hX.blk H0)) (fun s H C cl fp => PE.ex fun H0 => he (c.al H0) s H C cl fp (hX.blk H0)) hs) fun σ H Q h => lc_read his h

/-- x = [.. for ..] -/
theorem asgV {c : Cfg} {d : Den (List PV)} {i : Nat} {D : Ends} {σ : St} {H : Hp} (h : rS c (sSet i (dLs d)) D σ H) : rO c d σ H fun x H1 => D.nx (σ.set i (some x)) H1 := by
  obtain ⟨F, m, env, S, r, h⟩ := h
  refine ⟨F, m, env, S, r, ?_⟩
  unfold sSet sE dLs Den.bind at h
  cases e : d env S with
  | st => rw [e] at h; exact h
  | ex x env1 S1 => rw [e] at h; exact fun F' m' H cls d r s p q => h F' m' σ H cls d r s p q
  | ok ps env1 S1 =>
    rw [e] at h
    intro F1 m1 H1 a vs r1 s1 p1 hF hm h0 hn ha q
    obtain ⟨r2, s2⟩ := r1.freeze_free hF hm h0 hn ha trivial
    exact h _ m1 _ H1 (r2.set_v (.lst upd_same (q.mono s2 (List.prefix_refl _))) i) (s1.trans s2) p1
section
variable {i : Nat} {y : Str} {py spos : Pos} {k : Nat} {X : Cx} {c : Cfg} {elt tg iter : Expr} {ifs : List Expr} {scope : Scope} {own : List (Str × Nat)} {pos : Pos} {di : Den (List PV)} {is : List Nat} {g : PV → DEnv → Option DEnv} {dt : Den Bool} {de : DE}
theorem k_setOc (i : Nat) (hX : XOk k X c) (hy : X.N[i]? = some y) (hyl : X.env.scope.names.lookup y = some .local)
    (ok : BlkOk X.N X.env.scope scope own) (hi : PI X tg iter (rI c di)) (his : ∀ i ∈ is, i ∈ own.map (·.2))
    (hg : ∀ (c : Cfg) (s : Shared) (H : Hp) (C : Addr) (cl : List (Str × Addr)) (fp : List Addr), XOk k (X.blk s H scope (compEnvC scope cl C X.env) fp) c → PG (X.blk s H scope (compEnvC scope cl C X.env) fp) tg (rG c is g))
    (ht : ∀ (c : Cfg) (s : Shared) (H : Hp) (C : Addr) (cl : List (Str × Addr)) (fp : List Addr), XOk k (X.blk s H scope (compEnvC scope cl C X.env) fp) c → PTs (X.blk s H scope (compEnvC scope cl C X.env) fp) ifs (rT c dt))
    (he : ∀ (c : Cfg) (s : Shared) (H : Hp) (C : Addr) (cl : List (Str × Addr)) (fp : List Addr), XOk k (X.blk s H scope (compEnvC scope cl C X.env) fp) c → PE (X.blk s H scope (compEnvC scope cl C X.env) fp) elt (rE c de))
    (hsw : swapsWith (.ListComp elt [⟨tg, iter, ifs, 0⟩] scope pos) (some (.Name y py)) spos.line X.env = pure true := by rfl) (hs : ∀ x, foldedSetIterable iter X.env x = pure x := by intro _; rfl) :
    PS X (.Assign [.Name y py] (.ListComp elt [⟨tg, iter, ifs, 0⟩] scope pos) spos) (rS c (sSetO i (lComp (own.map (·.2)) di g dt de))) :=
  PS.weak (ps_setLc (g := gEx c is g) (tt := tEx c dt) (te := eEx c de) hX.calm hX.nd hy hyl hsw hi ok (fun s H C cl fp => PG.ex fun H0 => hg (c.al H0) s H C cl fp (hX.blk H0)) (fun s H C cl fp => PTs.ex fun H0 => ht (c.al H0) s H C cl fp (hX.blk H0)) (fun s H C cl fp => PE.ex fun H0 => he (c.al H0) s H C cl fp (hX.blk H0)) hs) fun D σ H h => lc_read his (asgO h)
theorem k_setC (i : Nat) (hX : XOk k X c) (hy : X.N[i]? = some y) (hyl : X.env.scope.names.lookup y = some .local)
    (ok : BlkOk X.N X.env.scope scope own) (hi : PI X tg iter (rI c di)) (his : ∀ i ∈ is, i ∈ own.map (·.2))
    (hg : ∀ (c : Cfg) (s : Shared) (H : Hp) (C : Addr) (cl : List (Str × Addr)) (fp : List Addr), XOk k (X.blk s H scope (compEnvC scope cl C X.env) fp) c → PG (X.blk s H scope (compEnvC scope cl C X.env) fp) tg (rG c is g))
    (ht : ∀ (c : Cfg) (s : Shared) (H : Hp) (C : Addr) (cl : List (Str × Addr)) (fp : List Addr), XOk k (X.blk s H scope (compEnvC scope cl C X.env) fp) c → PTs (X.blk s H scope (compEnvC scope cl C X.env) fp) ifs (rT c dt))
    (he : ∀ (c : Cfg) (s : Shared) (H : Hp) (C : Addr) (cl : List (Str × Addr)) (fp : List Addr), XOk k (X.blk s H scope (compEnvC scope cl C X.env) fp) c → PE (X.blk s H scope (compEnvC scope cl C X.env) fp) elt (rE c de))
    (hsw : swapsWith (.ListComp elt [⟨tg, iter, ifs, 0⟩] scope pos) (some (.Name y py)) spos.line X.env = pure true := by rfl) (hs : ∀ x, foldedSetIterable iter X.env x = pure x := by intro _; rfl) :
    PS X (.Assign [.Name y py] (.ListComp elt [⟨tg, iter, ifs, 0⟩] scope pos) spos) (rS c (sSet i (dLs (lComp (own.map (·.2)) di g dt de)))) :=
  PS.weak (ps_setLc (g := gEx c is g) (tt := tEx c dt) (te := eEx c de) hX.calm hX.nd hy hyl hsw hi ok (fun s H C cl fp => PG.ex fun H0 => hg (c.al H0) s H C cl fp (hX.blk H0)) (fun s H C cl fp => PTs.ex fun H0 => ht (c.al H0) s H C cl fp (hX.blk H0)) (fun s H C cl fp => PE.ex fun H0 => he (c.al H0) s H C cl fp (hX.blk H0)) hs) fun D σ H h => lc_read his (asgV h)
end
end Dn
end
section
set_option Elab.async false
set_option linter.all false
set_option maxRecDepth 100000
set_option maxHeartbeats 1000000
namespace Dn
open PySem L2 PySem.Spec PyProof.Rows

theorem own_of {env : DEnv} {σ : St} {i : Nat} {s : Slot} {a : Addr} (e : env[i]? = some s) (o : s.own = true) (h : σ[i]? = some (some (.ref a))) : Own env σ i a := ⟨s, e, o, h⟩

/-! ### statements that change what a name owns -/
/-- x.append(e) -/
def sApp (i : Nat) (da : DE) : DS := fun e s => match e[i]? with
  | some (.ol _) => sE da (fun p e s => match e[i]? with
      | some (.ol xs) => if xs.length < sizeLine then .nx (e.set i (.ol (xs ++ [p]))) s else .st
      | _ => .st) e s
  | _ => .st
section
variable {k : Nat} {X : Cx} {c : Cfg} {e : Expr} {da de : DE} {x : Str} {p1 p2 p3 pos : Pos}
theorem tyL {K : PySem.W.Frag} {H : Hp} {a : Addr} {vs : List V} (h : H a = some (.lst vs)) : tyV K "list" (.ref a) H := Or.inl ⟨rfl, _, Or.inl (Or.inl h)⟩
/-- what follows a value, in the statement's own slots -/
theorem at_slot {d : DE} {kk : PV → DS} {F : Hp} {m : List Addr} {D : Ends} {σ : St} {H : Hp} {Q : VK} (h : rSAt c (sE d kk) F m D σ H) (w : ∀ v H1 F1 m1 p env S, Rel c F1 m1 σ env S H1 → Rep c.K F1 m1 v p → pS c F1 m1 D (kk p env S) → Q v H1) : rE c d σ H Q :=
  (sE_of h).imp fun v H1 ⟨F1, m1, p, _, _, q, env, S, r, h⟩ => w v H1 F1 m1 p env S r q h
theorem k_app (i : Nat) (hX : XOk k X c) (hN : X.N[i]? = some x) (hv : Vis X.env.scope x) (ha : PE X e (rE c da)) (hd : (x == ("__debug__" : Str)) = false := by decide) (hcd : (x == ("__classdict__" : Str)) = false := by decide)
    (hs : swapsWith (.Call (.Attribute (.Name x p1) "append" p2) [e] [] p3) none pos.line X.env = pure false := by rfl)
    (hpe : ∀ {t : TE}, PE X (.Name x p1) (tVar i) → PE X e t → PE X (.Call (.Attribute (.Name x p1) "append" p2) [e] [] p3) (tBM X.K "list" rAppend (tVar i) (tCons t tNil)) := by exact fun h1 h2 => pe_bm PySem.F.plainAttrs_list PySem.F.slot_list_append PySem.F.type_list_append mt_append h1 (pa_cons h2 pa_nil)) :
    PS X (.Expr (.Call (.Attribute (.Name x p1) "append" p2) [e] [] p3) pos) (rS c (sApp i da)) := by
  refine PS.weak (ps_expr (hpe (pe_var (i := i) hN hv hd hcd) ha) hs) fun D σ H ⟨F, m, env, S, r, h⟩ => ?_
  unfold sApp at h
  split at h
  · rename_i ps0 e0
    obtain ⟨a, vs, hva, hoa, _⟩ := r.slot i _ e0
    refine ⟨_, hva, tyL hoa, ?_⟩
    refine at_slot (D := D) ⟨env, S, r, h⟩ fun v H1 F1 m1 p env S r q h => ?_
    split at h
    · rename_i xs e1
      split at h
      · rename_i hl
        obtain ⟨a', vs', hva', hoa', rl⟩ := r.slot i _ e1
        rw [hva] at hva'; cases hva'
        have ow := own_of e1 rfl hva
        refine ⟨a, vs', v, rfl, rfl, hoa', by rw [rl.length]; exact hl, ?_⟩
        exact h F1 m1 σ _ (r.upd_own ow ⟨a, _, rfl, upd_same, rl.append (.cons q .nil)⟩) (Same.refl _) (List.prefix_refl _)
      · exact h.elim
    · exact h.elim
  · exact h.elim
/-! ### looks at what a name owns -/
/-- len(x) -/
def dLenO (i : Nat) : DE := fun e s => match e[i]? with
  | some (.ol xs) => .ok (.int xs.length) e s
  | _ => .st
theorem r_lenO (i : Nat) {pn pc : Pos} (hX : XOk k X c) (hg : Gl X "len") (hm : X.mg "len" = none) (hN : X.N[i]? = some x) (hv : Vis X.env.scope x) (hd : (x == ("__debug__" : Str)) = false := by decide) (hcd : (x == ("__classdict__" : Str)) = false := by decide) :
    PE X (.Call (.Name "len" pn) [.Name x p1] [] pc) (rE c (dLenO i)) := by
  refine PE.weak (pe_callB call_len_seq hg hm PySem.boot_len (pa_cons (pe_var (i := i) hN hv hd hcd) pa_nil)) fun σ H Q ⟨F, m, env, S, r, h⟩ => ?_
  unfold dLenO at h
  split at h
  · rename_i xs e0
    obtain ⟨a, vs, hva, hoa, rl⟩ := r.slot i _ e0
    refine ⟨_, hva, a, vs, rfl, .inl (SqL.of hoa), ?_⟩
    rw [rl.length]
    exact h F m H _ r (Same.refl _) (List.prefix_refl _) (.int _)
  · exact h.elim
/-! ### stores by place -/
/-- o[i] = e, o a list of the store -/
def setS (S : Stor) (o q p : PV) : Option Stor := match o, q with
  | .ref n, .int j => match S[n]? with
    | some (.lst xs) => (ixN xs.length j).map fun jj => S.set n (.lst (xs.set jj p))
    | _ => none
  | _, _ => none
theorem setS_inv {S S' : Stor} {o q p : PV} (h : setS S o q p = some S') : ∃ n j xs jj, o = .ref n ∧ q = .int j ∧ S[n]? = some (.lst xs) ∧ ixN xs.length j = some jj ∧ S' = S.set n (.lst (xs.set jj p)) := by
  unfold setS at h
  split at h
  · split at h
    · rename_i hs
      obtain ⟨jj, hj, rfl⟩ := Option.map_eq_some_iff.mp h
      exact ⟨_, _, _, jj, rfl, rfl, hs, hj, rfl⟩
    · cases h
  · cases h
def sSetR (dobj di de : DE) : DS := sE de fun p => sE dobj fun o => sE di fun q => fun e s => match setS s o q p with
  | some s => .nx e s
  | none => .st
theorem k_setR {o i : Expr} {dobj di : DE} {ps : Pos} (hX : XOk k X c) (he : PE X e (rE c de)) (ho : PE X o (rE c dobj)) (hi : PE X i (rE c di))
    (ha : ∀ v, assign (.Subscript o i ps) X.env v = (do
      let ov ← holding [v] (eval o X.env)
      let iv ← holding [v, ov] (eval i X.env)
      standAt ps
      holding [v, ov, iv] (setItem ov iv v)
      release [v, ov, iv] []) := by intro _; rfl)
    (hs : swapsWithSole [.Subscript o i ps] e pos.line X.env = pure false := by rfl) (hw : swappedStores [.Subscript o i ps] e X.env = pure none := by rfl)
    (h1 : (assignEach [.Subscript o i ps] X.env).map (·.2) = [assign (.Subscript o i ps) X.env] := by rfl) : PS X (.Assign [.Subscript o i ps] e pos) (rS c (sSetR dobj di de)) := by
  refine PS.weak (ps_asg he (pg_sub ho hi set_list ha) hs hw h1) fun D σ H ⟨F, m, h⟩ => ?_
  refine (sE_of h).imp fun v H1 ⟨F1, m1, p, _, _, q1, h⟩ => ?_
  refine (sE_of h).imp fun w H2 ⟨F2, m2, p2, s2, t2, q2, h⟩ => ?_
  refine (sE_of h).imp fun u H3 ⟨F3, m3, p3, s3, t3, q3, env, S, r, h⟩ => ?_
  dsimp only at h
  cases e1 : setS S p2 p3 p with
  | none => rw [e1] at h; exact h.elim
  | some S' =>
    rw [e1] at h
    obtain ⟨n, j, xs, jj, rfl, rfl, hxs, hj, rfl⟩ := setS_inv e1
    have q2 := q2.mono s3 t3
    cases q2 with
    | ref hm =>
      cases q3
      obtain ⟨vs, h2, h3⟩ := r.r0.sto _ _ _ hm hxs
      refine ⟨_, vs, j, jj, rfl, rfl, h2, by rw [h3.length]; exact hj, ?_⟩
      exact h F3 m3 σ _ (r.upd_sto hm ⟨_, upd_same, h3.set ((q1.mono s2 t2).mono s3 t3) jj⟩) (Same.refl _) (List.prefix_refl _)
end
end Dn
end
section
set_option Elab.async false
set_option linter.all false
set_option maxRecDepth 100000
set_option maxHeartbeats 1000000
namespace Dn
open PySem L2 PySem.Spec PyProof.Rows

/-! ### the names of the boot -/
theorem bt_len : bootBuiltins "len" = some (.builtin "len") := by decide +kernel
theorem bt_abs : bootBuiltins "abs" = some (.builtin "abs") := by decide +kernel
theorem bt_int : bootBuiltins "int" = some (.type "int") := by decide +kernel
theorem bt_bool : bootBuiltins "bool" = some (.type "bool") := by decide +kernel
theorem bt_str : bootBuiltins "str" = some (.type "str") := by decide +kernel
theorem bt_list : bootBuiltins "list" = some (.type "list") := by decide +kernel
theorem bt_tuple : bootBuiltins "tuple" = some (.type "tuple") := by decide +kernel
theorem bt_all : bootBuiltins "all" = some (.builtin "all") := by decide +kernel
theorem bt_max : bootBuiltins "max" = some (.builtin "max") := by decide +kernel
/-! ### names of the module -/
theorem r_globI {X : Cx} {c : Cfg} {x : Str} {pos : Pos} {n : Int} (hg : Gl X x) (hm : ∃ t, X.mg x = some (.int n t)) (hd : (x == ("__debug__" : Str)) = false := by decide) : PE X (.Name x pos) (rE c (dC (.int n))) :=
  let ⟨t, hm⟩ := hm; PE.weak (pe_glob (v := .int n) hg hm ⟨t, rfl⟩ hd) fun _ _ _ ⟨_, _, h⟩ => h.end0 (Rep.int n)
theorem r_globS {X : Cx} {c : Cfg} {x : Str} {pos : Pos} {n : Str} (hg : Gl X x) (hm : ∃ t, X.mg x = some (.str n t)) (hd : (x == ("__debug__" : Str)) = false := by decide) : PE X (.Name x pos) (rE c (dC (.str n))) :=
  let ⟨t, hm⟩ := hm; PE.weak (pe_glob (v := .str n) hg hm ⟨t, rfl⟩ hd) fun _ _ _ ⟨_, _, h⟩ => h.end0 (Rep.str n)

/-! ### what is walked: a list or a tuple -/
theorem PI.or {X : Cx} {tg e : Expr} {t t' : TI} (h : PI X tg e t) (h' : PI X tg e t') : PI X tg e (fun σ H R => t σ H R ∨ t' σ H R) := ⟨fun pins s σ H R I q => q.elim (h.run pins s σ H R I) (h'.run pins s σ H R I)⟩
def itemsP : PV → Option (List PV)
  | .lst xs => some xs
  | .rol xs => some xs
  | .tup xs => some xs
  | .ftp xs => some xs
  | _ => none
def dItS (d : DE) : Den (List PV) := d.bind fun p => Den.opt (itemsP p)
theorem i_seq {k : Nat} {X : Cx} {c : Cfg} {tg e : Expr} {de : DE} (hX : XOk k X c) (he : PE X e (rE c de)) : PI X tg e (rI c (dItS de)) := by
  refine PI.weak (Dn.PI.or (i_list hX he) (i_tup hX he)) fun σ H Q ⟨F, m, env, S, r, h⟩ => ?_
  unfold dItS Den.bind at h
  cases e1 : de env S with
  | st => rw [e1] at h; exact h.elim
  | ex x env1 S1 => rw [e1] at h; exact .inl ⟨F, m, env, S, r, by unfold dItL Den.bind; rw [e1]; exact h⟩
  | ok p env1 S1 =>
    rw [e1] at h
    cases p with
    | lst xs => exact .inl ⟨F, m, env, S, r, by unfold dItL Den.bind; rw [e1]; exact h⟩
    | rol xs => exact .inl ⟨F, m, env, S, r, by unfold dItL Den.bind; rw [e1]; exact h⟩
    | tup xs => exact .inr ⟨F, m, env, S, r, by unfold dItT Den.bind; rw [e1]; exact h⟩
    | ftp xs => exact .inr ⟨F, m, env, S, r, by unfold dItT Den.bind; rw [e1]; exact h⟩
    | _ => exact (show False from h).elim

/-! ### slices -/
def slP (p : PV) (lo hi : Option Int) : Option PV := match p with
  | .tup xs => some (.tup ((xs.drop (HT.sIx xs.length 0 lo)).take (HT.sIx xs.length xs.length hi - HT.sIx xs.length 0 lo)))
  | .lst xs => some (.lst ((xs.drop (HT.sIx xs.length 0 lo)).take (HT.sIx xs.length xs.length hi - HT.sIx xs.length 0 lo)))
  | .str z => if z.length ≤ sizeLine then some (.str (cutS z lo hi)) else none
  | _ => none
theorem rl_cut {K : PySem.W.Frag} {F F' : Hp} {m : List Addr} {vs : List V} {xs : List PV} (rl : RepL K F m vs xs) (l u : Option Int) (s : Same F F') : RepL K F' m (cutV vs l u) ((xs.drop (HT.sIx xs.length 0 l)).take (HT.sIx xs.length xs.length u - HT.sIx xs.length 0 l)) := by
  have e : cutV vs l u = (vs.drop (HT.sIx xs.length 0 l)).take (HT.sIx xs.length xs.length u - HT.sIx xs.length 0 l) := by unfold cutV; rw [rl.length]
  rw [e]
  exact ((rl.mono s (List.prefix_refl _)).drop _).take _
abbrev rO3 (c : Cfg) (d : Den (Option Int)) : TO := rd (fun _ _ _ v p => v = p) c d
def oNo : Den (Option Int) := Den.pure none
def oSome (d : DE) : Den (Option Int) := d.bind fun p => match p with
  | .int i => Den.pure (some i)
  | _ => Den.fail
def dSl (da : DE) (lo hi : Den (Option Int)) : DE := da.bind fun p => lo.bind fun l => hi.bind fun h => Den.opt (slP p l h)
section
variable {k : Nat} {X : Cx} {c : Cfg} {e : Expr} {lo hi : Option Expr} {da : DE} {dl dh : Den (Option Int)} {p2 pos : Pos}
theorem PO.weak {X : Cx} {e : Option Expr} {t t' : TO} (h : PO X e t) (w : ∀ σ H Q, t' σ H Q → t σ H Q) : PO X e t' := ⟨fun pins s σ H Q I q => h.run pins s σ H Q I (w _ _ _ q)⟩
theorem po_no : PO X none (rO3 c oNo) := PO.weak po_none fun σ H Q ⟨_, _, h⟩ => h.end0 rfl
theorem po_yes {e : Expr} (he : PE X e (rE c da)) : PO X (some e) (rO3 c (oSome da)) := by
  refine PO.weak (po_some he) fun σ H Q ⟨F, m, h⟩ => ?_
  refine (rd_bind h).imp fun v H1 ⟨F1, m1, p, s1, p1, q1, h⟩ => ?_
  cases q1 with
  | int i => exact ⟨i, rfl, h.end0 rfl⟩
  | _ => exact h.fail.elim
theorem r_sl (hX : XOk k X c) (ha : PE X e (rE c da)) (hl : PO X lo (rO3 c dl)) (hh : PO X hi (rO3 c dh)) : PE X (.Subscript e (.Slice lo hi none p2) pos) (rE c (dSl da dl dh)) := by
  refine PE.weak (pe_slice (sl_tupA.or (sl_list.or sl_str)) ha hl hh) fun σ H Q ⟨F, m, h⟩ => ?_
  obtain ⟨K, mg, F0, m0, H0, lk, W⟩ := c
  obtain rfl := hX.K
  obtain rfl := hX.mg
  refine (rd_bind h).imp fun v H1 ⟨F1, m1, p, s1, p1, q1, h⟩ => ?_
  refine (rd_bind h).imp fun l H2 ⟨F2, m2, l', s2, p2, q2, h⟩ => ?_
  refine (rd_bind h).imp fun u H3 ⟨F3, m3, u', s3, p3, q3, h⟩ => ?_
  have q2 : l = l' := q2
  have q3 : u = u' := q3
  subst q2 q3
  obtain ⟨res, e, h⟩ := h.opt
  obtain ⟨env, S, R⟩ := h.rel
  have q1 := (q1.mono s2 p2).mono s3 p3
  unfold slP at e
  split at e
  · rename_i xs
    cases e
    cases q1 with
    | tup hf rl =>
      refine .inl ⟨_, _, rfl, SqT.of (R.r0.sub _ _ hf).tup, fun ⟨h1, h2⟩ => ?_, fun _ d hd => ?_⟩
      · refine h.yl.here ?_
        rw [rl.length] at h1 h2
        rw [h1, h2, List.drop_zero, Nat.sub_zero, List.take_length]
        exact .tup hf rl
      · refine h.yl.new R.r0 hd trivial fun s => .tup upd_same ?_
        exact rl_cut rl l u s
  · rename_i xs
    cases e
    cases q1 with
    | lst hf rl =>
      refine .inr (.inl ⟨_, _, rfl, SqL.of (R.r0.sub _ _ hf).lst, fun d hd => ?_⟩)
      refine h.yl.new R.r0 hd trivial fun s => .lst upd_same ?_
      exact rl_cut rl l u s
  · split at e
    · rename_i hz
      cases e
      cases q1
      exact .inr (.inr ⟨_, rfl, hz, h.yl.here (.str _)⟩)
    · cases e
  · cases e
end
/-- a def that is promised nothing -/
theorem fok_zero {P : Program} {w : World} {K : PySem.W.Frag} {mg : Str → Option Value} {base : Heap} {x qual : Str} {st : Stmt} {f : Addr} {fd : FuncData} {N ps : List Str} {k : Nat} (F : Fun K x qual st f fd) (S : FnScope N ps (defScope st))
    (hm : mg x = some (.ref f)) (hb : Binds K fd ps []) : FOk P w K mg base (k + 1) x ps (fun _ _ => .st) := by
  refine ⟨fun _ _ _ => rfl, f, fd, hm, F.kp, hb, F.okX S (fun vs H Q E h => h.1) fun cdv A outer s H vs Q E hr h => ?_, Fun.look F⟩
  obtain ⟨_, _, _, _, _, _, _, _, h⟩ := h
  exact h.elim

/-! ### the end -/
def spLaw (K : PySem.W.Frag) : Sp := fun vs H Q _ => ∃ (a : Addr) (ns : List Int), vs = [.ref a] ∧ SqL K H a (ns.map V.int) ∧ ns.length ≤ 63 ∧ ∀ H', Q (.bl true) H'
theorem rep_ints {K : PySem.W.Frag} {F : Hp} {m : List Addr} : ∀ ns : List Int, RepL K F m (ns.map V.int) (ns.map PV.int)
  | [] => .nil
  | n :: ns => .cons (.int n) (rep_ints ns)
theorem law_sp {K : PySem.W.Frag} {mg : Str → Option Value} {f : DF} (hf : ∀ ns : List Int, ns.length ≤ 63 → ∃ S', f [.rol (ns.map PV.int)] [] = .ok (.bl true) S') (vs : List V) (H : Hp) (Q : VK) (E : XK) (h : spLaw K vs H Q E) : spOf K mg 1 f vs H Q E := by
  obtain ⟨a, ns, rfl, hS, hl, hq⟩ := h
  obtain ⟨S', e⟩ := hf ns hl
  have fin : ∀ F : Hp, R0 K mg [] F [] [] H → SqL K F a (ns.map V.int) → spOf K mg 1 f [.ref a] H Q E := fun F R s => by
    refine ⟨rfl, [], F, [], [], [.rol (ns.map PV.int)], R, .cons (.rol s (rep_ints ns)) .nil, ?_⟩
    rw [e]
    intro F' m' H' v _ _ _ _ _ _ q
    cases q
    exact hq H'
  rcases hS with hS | hS
  · have ho : ∃ o, H a = some o ∧ Imm o ∧ SqL K (upd (fun _ => none) a o) a (ns.map V.int) := by
      rcases hS with h | ⟨ob, h⟩
      · exact ⟨_, h, trivial, .inl (.inl upd_same)⟩
      · exact ⟨_, h, trivial, .inl (.inr ⟨ob, upd_same⟩)⟩
    obtain ⟨o, ho, im, s⟩ := ho
    refine fin (upd (fun _ => none) a o) ⟨fun b u eb => ?_, fun b u eb => ?_, rfl, fun i b so h1 => (by simp at h1), List.nodup_nil, fun b hb => (by cases hb), fun b hb => (by cases hb)⟩ s
    · by_cases z : b = a
      · subst z; rw [upd_same] at eb; cases eb; exact .inl ho
      · rw [upd_ne z] at eb; cases eb
    · by_cases z : b = a
      · subst z; rw [upd_same] at eb; cases eb; exact im
      · rw [upd_ne z] at eb; cases eb
  · exact fin (fun _ => none) ⟨fun b u eb => (nomatch eb), fun b u eb => (nomatch eb), rfl, fun i b so h1 => (by simp at h1), List.nodup_nil, fun b hb => (by cases hb), fun b hb => (by cases hb)⟩ (.inr hS)
theorem fok_law {P : Program} {w : World} {K : PySem.W.Frag} {mg : Str → Option Value} {base : Heap} {k : Nat} {p : Str} {f : DF} {fa : Addr} {fd : FuncData} (F : FnOk P w K mg base (L2.CX P w) k fa fd [p] (spOf K mg 1 f)) (hf : ∀ ns : List Int, ns.length ≤ 63 → ∃ S', f [.rol (ns.map PV.int)] [] = .ok (.bl true) S') :
    FnOk P w K mg base (L2.CX P w) k fa fd [p] (spLaw K) := F.imp (law_sp hf)
theorem cx_no {P : Program} {w : World} {l : List PySem.Env} {H : Hp} {s : Shared} {e : Value} {s' : Shared} (h : L2.CX P w l H s (fun _ _ _ => False) e s') : False := by
  obtain ⟨_, _, _, _, _, _, _, _, _, _, _, _, z⟩ := h
  exact z
theorem fok_lawD {P : Program} {w : World} {K : PySem.W.Frag} {mg : Str → Option Value} {base : Heap} {k : Nat} {x qual p : Str} {st : Stmt} {f : DF} {fa : Addr} {fd : FuncData} (G : FOk P w K mg base k x [p] f) (hm : mg x = some (.ref fa)) (F : Fun K x qual st fa fd) (hb : Binds K fd [p] [])
    (hf : ∀ ns : List Int, ns.length ≤ 63 → ∃ S', f [.rol (ns.map PV.int)] [] = .ok (.bl true) S') : FnOk P w K mg base (L2.CX P w) k fa fd [p] (spLaw K) := by
  obtain ⟨a, fd', hm', hk, hb', FO, oc, od, osl, lk⟩ := G.ex
  rw [hm] at hm'
  cases hm'
  obtain ⟨oc', od', osl', lk'⟩ := Fun.look F
  rw [lk] at lk'
  cases lk'
  exact fok_law FO hf
end Dn
end
section
set_option Elab.async false
set_option linter.all false
set_option maxRecDepth 100000
set_option maxHeartbeats 4000000
namespace Dn
open PySem L2 PySem.Spec PyProof.Rows
theorem tuple_mul1 (l : Addr) (items : Array Value) (n : Nat) (dd : Option Addr) (sl : Array (Option Value)) (x : Int) (u : Tok) (c0 : (decide (x < -(2 ^ 63)) || decide (x ≥ 2 ^ 63)) = false) (c1 : (items.isEmpty || x == 1) = true) :
    Meets (Builtin.«tuple.__mul__» ⟨[.ref l, .int x u], []⟩) (fun _ R s => s.heap.get? l = some { cls := .type "tuple", dict := dd, data := .seq items n, slots := sl } ∧
      R (.ok (.ret (Value.ref l))) s) :=
  .of_wp fun prog w A R s h => by
    obtain ⟨hp, g, d, tk, os⟩ := s
    obtain ⟨hl, h⟩ := h
    have f1 := AutoSeq1.idx_int
    wp_walk using wpAny_loadPart' hl
    repeat (first
      | (refine wpAny_ite_false (decide_eq_false (by rw [c0]; exact Bool.false_ne_true)) ?_; wp_walk using wpAny_loadPart' hl)
      | (refine wpAny_ite_true (decide_eq_true c1) ?_; wp_walk using wpAny_loadPart' hl))
    exact ⟨_, rfl, h⟩
theorem tuple_mul0 (l : Addr) (items : Array Value) (n : Nat) (dd : Option Addr) (sl : Array (Option Value)) (x : Int) (u : Tok) (c0 : (decide (x < -(2 ^ 63)) || decide (x ≥ 2 ^ 63)) = false) (c1 : (items.isEmpty || x == 1) = false) (c2 : (decide (x ≤ 0) || items.isEmpty) = true) :
    Meets (Builtin.«tuple.__mul__» ⟨[.ref l, .int x u], []⟩) (fun _ R s => s.heap.get? l = some { cls := .type "tuple", dict := dd, data := .seq items n, slots := sl } ∧
      R (.ok (.ret (Value.ref s.heap.objs.size))) { s with heap := s.heap.push { cls := Value.type "tuple", data := Data.seq #[] }, toks := s.toks }) :=
  .of_wp fun prog w A R s h => by
    obtain ⟨hp, g, d, tk, os⟩ := s
    obtain ⟨hl, h⟩ := h
    have f1 := AutoSeq1.idx_int
    wp_walk using wpAny_loadPart' hl
    repeat (first
      | (refine wpAny_ite_false (decide_eq_false (by rw [c0]; exact Bool.false_ne_true)) ?_; wp_walk using wpAny_loadPart' hl)
      | (refine wpAny_ite_false (decide_eq_false (by rw [c1]; exact Bool.false_ne_true)) ?_; wp_walk using wpAny_loadPart' hl)
      | (refine wpAny_ite_true (decide_eq_true c2) ?_; wp_walk using wpAny_loadPart' hl))
    exact ⟨_, rfl, h⟩
def rRepT0 (K : PySem.W.Frag) : R2 := fun x y H Q => ∃ l k xs, x = .ref l ∧ y = .int k ∧ SqT K H l xs ∧ -1000000 ≤ k ∧ k ≤ 1000000 ∧ (((xs = [] ∨ k = 1) ∧ Q (.ref l) H) ∨ (xs ≠ [] ∧ k ≤ 0 ∧ ∀ p, H p = none → Q (.ref p) (upd H p (.tup []))))
section
variable {X : Cx}
theorem op_repT0 : OpR X (binaryOp .Mult) (rRepT0 X.K) := by
  intro pins s σ H x y v u Q I rx ry h
  obtain ⟨l, k, xs, rfl, rfl, hT, h1, h2, q⟩ := h
  cases rx
  obtain ⟨t, rfl⟩ := ry
  obtain ⟨its, r, ⟨⟨cls, dd, data, sl⟩, ho, hc, n, hd⟩, hs⟩ := I.tuple hT
  simp only at hc hd
  subst hc hd
  have c0 : (decide (k < -(2 ^ 63)) || decide (k ≥ 2 ^ 63)) = false := by
    rw [decide_eq_false (by omega), decide_eq_false (by omega)] <;> rfl
  have ie : its.toArray.isEmpty = xs.isEmpty := by
    have := r.length
    cases its <;> cases xs <;> simp at this ⊢
  rcases q with ⟨e, q⟩ | ⟨e, e2, q⟩
  · have c1 : (its.toArray.isEmpty || k == 1) = true := by
      rw [ie]
      rcases e with e | e
      · rw [e]; rfl
      · rw [e]; simp
    exact wpAny_binaryOp_repeat_ref (T := "tuple") (U := "int") (by decide) ⟨_, ho, rfl⟩ (fun s' => typeIs_int s' k t) noFill_tuple_mul F.fills_int_mul F.slot_int_rmul repeat_tuple F.slot_int_index.lookup
      (call_meets F.slot_int_rmul (typeIs_int s k t) F.entry_int_rmul (F.args_int_rmul_2 _ _) (int_rmul_tuple k t l its.toArray n dd sl)
        ⟨ho, rfl, ⟨_, ho, rfl⟩, call_meets F.slot_tuple_mul ⟨_, ho, rfl⟩ F.entry_tuple_mul (F.args_tuple_mul_2 _ _) (tuple_mul1 l its.toArray n dd sl k t c0 c1) ⟨ho, .ref l, H, I, rfl, q⟩⟩)
  · have xe : xs.isEmpty = false := by cases xs with | nil => exact absurd rfl e | cons a b => rfl
    have c1 : (its.toArray.isEmpty || k == 1) = false := by
      rw [ie, xe, Bool.false_or]
      exact beq_eq_false_iff_ne.mpr (by omega)
    have c2 : (decide (k ≤ 0) || its.toArray.isEmpty) = true := by
      rw [decide_eq_true e2]; rfl
    refine wpAny_binaryOp_repeat_ref (T := "tuple") (U := "int") (by decide) ⟨_, ho, rfl⟩ (fun s' => typeIs_int s' k t) noFill_tuple_mul F.fills_int_mul F.slot_int_rmul repeat_tuple F.slot_int_index.lookup
      (call_meets F.slot_int_rmul (typeIs_int s k t) F.entry_int_rmul (F.args_int_rmul_2 _ _) (int_rmul_tuple k t l its.toArray n dd sl)
        ⟨ho, rfl, ⟨_, ho, rfl⟩, call_meets F.slot_tuple_mul ⟨_, ho, rfl⟩ F.entry_tuple_mul (F.args_tuple_mul_2 _ _) (tuple_mul0 l its.toArray n dd sl k t c0 c1 c2) ⟨ho, ?_⟩⟩)
    refine ⟨.ref s.heap.objs.size, _, I.laid (t' := s.toks) (o := .tup []) (fun b ob q => Heap.get?_push_of_some _ q) (Nat.le_refl _) ?_, rfl, q _ (I.hok.fresh (Nat.le_refl _))⟩
    exact ⟨Nat.zero_le _, [], .nil, IsTup.new _ _⟩
/-- the whole of * -/
def mulP' : G2 := fun S p q => match p, q with
  | .tup xs, .int j => if xs.length ≤ 1000 ∧ -1000000 ≤ j ∧ j ≤ 1000 then some (.tup (List.replicate j.toNat xs).flatten) else none
  | p, q => mulP S p q
theorem o_mul' : O2 X (binaryOp .Mult) mulP' := by
  obtain ⟨r, h1, h2⟩ := o_mul (X := X)
  refine ⟨_, h1.or op_repT0, fun lk F m S H x y p q res Q R rx ry h yl => ?_⟩
  unfold mulP' at h
  split at h
  · rename_i xs j
    split at h
    · rename_i hh
      obtain ⟨a1, a2, a3⟩ := hh
      cases h
      by_cases hx : xs = []
      · subst hx
        cases ry
        cases rx with
        | tup hf rl =>
          cases rl
          refine .inr ⟨_, j, [], rfl, rfl, SqT.of (R.sub _ _ hf).tup, a2, by omega, .inl ⟨.inl rfl, yl.here ?_⟩⟩
          have : (List.replicate j.toNat ([] : List PV)).flatten = [] := by simp
          rw [this]
          exact .tup hf .nil
      · by_cases h2' : 2 ≤ j
        · refine .inl (h2 lk F m S H x y _ _ _ Q R rx ry ?_ yl)
          simp only [mulP]
          rw [if_pos ⟨a1, hx, h2', a3⟩]
        · cases ry
          cases rx with
          | tup hf rl =>
            rename_i a vs
            by_cases h1' : j = 1
            · subst h1'
              refine .inr ⟨_, 1, vs, rfl, rfl, SqT.of (R.sub _ _ hf).tup, by omega, by omega, .inl ⟨.inr rfl, yl.here ?_⟩⟩
              have : (List.replicate (1 : Int).toNat xs).flatten = xs := by simp
              rw [this]
              exact .tup hf rl
            · refine .inr ⟨_, j, vs, rfl, rfl, SqT.of (R.sub _ _ hf).tup, a2, by omega, .inr ⟨fun e => hx ?_, by omega, fun p hp => ?_⟩⟩
              · subst e; cases rl; rfl
              · have : j.toNat = 0 := by omega
                rw [this] at yl
                exact yl.new R hp trivial fun s => .tup upd_same .nil
    · cases h
  · exact .inl (h2 lk F m S H x y _ _ _ Q R rx ry h yl)
end
end Dn
end
section
set_option Elab.async false
set_option linter.all false
set_option maxRecDepth 100000
set_option maxHeartbeats 1000000
namespace Dn
open PySem L2 PySem.Spec PyProof.Rows

/-! ### what no one promises -/
/-! ### {k: v} -/
/-- a dict that no one knows yet -/
inductive OD where
  | k (kvs : List (Key × PV))
  | t (kvs : List (List Key × PV))
def OD.slot : OD → Slot
  | .k kvs => .od kvs
  | .t kvs => .ot kvs
def ODR (K : PySem.W.Frag) (F : Hp) (m : List Addr) (H : Hp) (a : Addr) : OD → Prop
  | .k kvs => ∃ vs, H a = some (.dK vs) ∧ RepK K F m vs kvs
  | .t kvs => ∃ vs, H a = some (.dT vs) ∧ RepT K F m vs kvs
def pD (c : Cfg) (F : Hp) (m : List Addr) (σ : St) (Q : VK) : Out OD → Prop
  | .st => False
  | .ok od env S => ∀ F' m' H a, Rel c F' m' σ env S H → Same F F' → m <+: m' → F' a = none → a ∉ m' → c.H0 a = none → (∀ j, ¬ Own env σ j a) → ODR c.K F' m' H a od → Q (.ref a) H
  | .ex x env S => ∀ F' m' H cls d, Rel c F' m' σ env S H → Same F F' → m <+: m' → ExR c F' m' H x cls d → c.W cls d σ H
theorem PE.or {X : Cx} {e : Expr} {t t' : TE} (h : PE X e t) (h' : PE X e t') : PE X e (fun σ H Q => t σ H Q ∨ t' σ H Q) := ⟨fun pins s σ H Q I q => q.elim (h.run pins s σ H Q I) (h'.run pins s σ H Q I)⟩
section
variable {k : Nat} {X : Cx} {c : Cfg} {pos : Pos}
end

theorem XOk.no {k : Nat} {X : Cx} {c : Cfg} (h : XOk k X c) (t : Tm) : XOk k X (c.al t) :=
  ⟨h.K, h.mg, h.calm, h.nd, h.room, fun _ _ _ _ _ _ _ q => by obtain ⟨_, _, _, _, _, _, _, _, _, _, _, _, z⟩ := q; exact z.elim⟩
/-! ### x[k] = v, x a name's own -/
end Dn
end
section
set_option Elab.async false
set_option linter.all false
set_option maxRecDepth 100000
set_option maxHeartbeats 1000000
namespace Dn
open PySem L2 PySem.Spec PyProof.Rows

/-! ### a while with room for so many turns -/
def whN (t : Den Bool) (b : DS) : DS := whL t b 1000000000
theorem rS_whN {c : Cfg} {t : Den Bool} {b : DS} {D : Ends} {σ : St} {H : Hp} (h : rS c (whN t b) D σ H) : rS c (sWhile t b) D σ H := by
  obtain ⟨F, m, env, S, r, h⟩ := h
  refine ⟨F, m, env, S, r, ?_⟩
  have hn : whL t b 1000000000 env S ≠ .st := fun z => by
    unfold whN at h
    rw [z] at h
    exact h
  rw [sWhile_of 1000000000 (o := whN t b env S) rfl hn]
  exact h

theorem k_whN {X : Cx} {c : Cfg} {e : Expr} {body : List Stmt} {t : Den Bool} {b : DS} {pos : Pos} (hp : PassesOwn (model X.prog X.w) X.A X.env X.xe) (hc : PT X e (rT c t)) (hb : PSs X body (rS c b)) : PS X (.While e body [] pos) (rS c (whN t b)) :=
  PS.weak (k_while (k := 0) hp hc hb) fun D σ H h => rS_whN h

/-! ### sorted -/
def lexL (p q : Int × Int) : Bool := !SrtO.lexB q p
def sortPr (ps : List (Int × Int)) : List (Int × Int) := ps.mergeSort lexL
section
variable {K : PySem.W.Frag} {F H : Hp} {m : List Addr}
end
theorem CallR.or {X : Cx} {f : Value} {r r' : List V → Hp → VK → Prop} (h : CallR X f r) (h' : CallR X f r') : CallR X f (fun xs H Q => r xs H Q ∨ r' xs H Q) :=
  fun pins s σ H xs us Q I rv q => q.elim (h pins s σ H xs us Q I rv) (h' pins s σ H xs us Q I rv)
end Dn
end
section
set_option Elab.async false
set_option linter.all false
set_option maxRecDepth 100000
set_option maxHeartbeats 1000000
namespace Dn
open PySem L2 PySem.Spec PyProof.Rows

/-! ### a lock behind an evaluation, its end behind a statement -/
/-! ### the relation under a lock -/
section
variable {c : Cfg} {F F' H H' : Hp} {m m' : List Addr} {σ σ' : St} {env env' : DEnv} {S S' : Stor} {d : Addr} {u : HO}
theorem isDO_imm {u : HO} (h : IsDO u) : Mut (some u) ∧ ∀ ob w, u ≠ .frz ob w := by
  cases u with
  | dK _ => exact ⟨trivial, fun _ _ z => nomatch z⟩
  | dT _ => exact ⟨trivial, fun _ _ z => nomatch z⟩
  | _ => exact h.elim
/-- what is told when the lock is laid -/
structure Lk (c : Cfg) (F : Hp) (d : Addr) (u : HO) : Prop where
  f : F d = some u
  isd : IsDO u
  nl : d ∉ c.lk
  nm : d ∉ c.m0
  old : ∀ o, c.H0 d = some o → o = u
  f0 : Same c.F0 F
  frn : ∀ a, F a ≠ none → c.F0 a ≠ none ∨ IT c.H0 a
def Cfg.lock (c : Cfg) (F : Hp) (d : Addr) (o : Obj) (u : HO) : Cfg := c.al (upd c.H0 d (.frz o u), d :: c.lk, F, c.m0)
theorem Rel.lk (r : Rel c F m σ env S H) (hF : F d = some u) (hu : IsDO u) (hH : H d = some u) : Lk c F d u where
  f := hF
  isd := hu
  nl := fun z => by
    obtain ⟨ob, w, e⟩ := r.r0.lkd d z
    rw [hH] at e; cases e
    exact (isDO_imm hu).2 _ _ rfl
  nm := fun z => by
    have := r.r0.muf d (r.pre.subset z)
    rw [hF] at this; cases this
  old := fun o e => by
    have nm : d ∉ c.m0 := fun z => by
      have := r.r0.muf d (r.pre.subset z)
      rw [hF] at this; cases this
    rcases r.old d o e nm with h | ⟨_, _, ob, h⟩
    · rw [hH] at h; cases h; rfl
    · rw [hH] at h; cases h
      exact ((isDO_imm hu).2 _ _ rfl).elim
  f0 := r.f0
  frn := r.frn
end
/-! ### the keys of a dict -/
theorem RepK.at {K : PySem.W.Frag} {F : Hp} {m : List Addr} : ∀ {vs : List (Key × V)} {kvs : List (Key × PV)}, RepK K F m vs kvs → vs.map (·.1) = kvs.map (·.1)
  | _, _, .nil => rfl
  | _, _, .cons _ h => by rw [List.map_cons, List.map_cons, h.at]
theorem RepT.at {K : PySem.W.Frag} {F : Hp} {m : List Addr} : ∀ {vs : List (List Key × V)} {kvs : List (List Key × PV)}, RepT K F m vs kvs → vs.map (·.1) = kvs.map (·.1)
  | _, _, .nil => rfl
  | _, _, .cons _ h => by rw [List.map_cons, List.map_cons, h.at]
section
variable {k : Nat} {X : Cx} {c : Cfg} {elt tg iter : Expr} {ifs : List Expr} {scope : Scope} {own : List (Str × Nat)} {pos : Pos} {de0 : DE} {is : List Nat} {g : PV → DEnv → Option DEnv} {dt : Den Bool} {de : DE}
end

/-! ### for k in a dict -/
theorem PSs.ex {X : Cx} {e : List Stmt} {ι : Type} {t : ι → TS} (h : ∀ i, PSs X e (t i)) : PSs X e (fun D σ H => ∃ i, t i D σ H) := ⟨fun pins s σ H D I ⟨i, q⟩ => (h i).run pins s σ H D I q⟩
section
variable {y : Str} {py spos : Pos} {k : Nat} {X : Cx} {c : Cfg} {elt tg iter : Expr} {ifs : List Expr} {scope : Scope} {own : List (Str × Nat)} {pos : Pos} {de0 : DE} {is : List Nat} {g : PV → DEnv → Option DEnv} {dt : Den Bool} {de : DE}
end
/-! ### d.get -/
end Dn
end
section
set_option Elab.async false
set_option linter.all false
set_option maxRecDepth 100000
set_option maxHeartbeats 1000000
namespace Dn
open PySem L2 PySem.Spec PyProof.Rows
end Dn
end
section
set_option Elab.async false
set_option linter.all false
set_option maxRecDepth 100000
set_option maxHeartbeats 1000000
namespace Dn
open PySem L2 PySem.Spec PyProof.Rows
/-! ### list of a dict -/
end Dn
end
section
set_option Elab.async false
set_option linter.all false
set_option maxRecDepth 100000
set_option maxHeartbeats 1000000
namespace Dn
open PySem L2 PySem.Spec PyProof.Rows
/-! ### enumerate, zip -/
def enPV (ps : List PV) : List PV := ps.zipIdx.map fun x => .tup [.int (x.2 : Nat), x.1]
section
variable {k : Nat} {X : Cx} {c : Cfg} {e e2 : Expr} {de de2 : DE} {elts : List Expr} {kk : Nat} {tpos p pos : Pos}
theorem pair_new {c : Cfg} {F' : Hp} {m' : List Addr} {σ : St} {env : DEnv} {S : Stor} {H : Hp} (R : Rel c F' m' σ env S H) {T : Addr} {x y : V} {px py : PV} (hT : H T = none) (rx : Rep c.K F' m' x px) (ry : Rep c.K F' m' y py) :
    ∃ F3 p, Ext F' H F3 (upd H T (.tup [x, y])) ∧ p = PV.tup [px, py] ∧ Rep c.K F3 m' (.ref T) p := by
  have hx := Ext.new (F := F') (H := H) (p := T) (o := .tup [x, y]) (fun a u e => R.r0.fne a u e) hT trivial
  exact ⟨_, _, hx, rfl, .tup upd_same (.cons (rx.mono hx.f (List.prefix_refl _)) (.cons (ry.mono hx.f (List.prefix_refl _)) .nil))⟩
theorem itR_enum {c : Cfg} {F : Hp} {m : List Addr} {a : Addr} {vs : List V} {ps : List PV} (hf : SqL c.K F a vs) (r : RepL c.K F m vs ps) (hg : ∀ F' m' σ env S H, Rel c F' m' σ env S H → Same F F' → SqL c.K H a vs) : ItR c (Ite c.K a) F m (enPV ps) := by
  have hl : (enPV ps).length = vs.length := by unfold enPV; rw [List.length_map, List.length_zipIdx, r.length]
  refine ⟨_, _, by rw [hl]; exact walk_enum (xs := vs), fun F' m' σ env S H R s p => hg F' m' σ env S H R s, fun F' m' σ env S H i x H' R s p hi y => ?_⟩
  obtain ⟨T, x1, x2, rfl, hT, rfl, h1, h2⟩ := y
  cases h1
  obtain ⟨q, hq, rq⟩ := r.getV h2
  obtain ⟨F3, p3, g1, g2, g3⟩ := pair_new R hT (Rep.int (i : Int)) (rq.mono s p)
  refine ⟨F3, p3, g1, ?_, g3⟩
  unfold enPV
  rw [List.getElem?_map, List.getElem?_zipIdx, hq, g2]
  simp
end
end Dn
end
section
set_option Elab.async false
set_option linter.all false
set_option maxRecDepth 100000
set_option maxHeartbeats 1000000
namespace Dn
open PySem L2 PySem.Spec PyProof.Rows
theorem ra_cons {c : Cfg} {da : DE} {dr : Den (List PV)} {σ : St} {H : Hp} {Q : List V → Hp → Prop} (h : rA c (aCons da dr) σ H Q) : rE c da σ H fun x H1 => rA c dr σ H1 fun xs H2 => Q (x :: xs) H2 := by
  obtain ⟨F, m, h⟩ := h
  refine (rd_bind h).imp fun v H1 ⟨F1, m1, p, s1, p1, q1, h⟩ => ?_
  refine (rd_bind h).imp fun w H2 ⟨F2, m2, q, s2, p2, q2, h⟩ => ?_
  exact h.end0 (RepL.cons (q1.mono s2 p2) q2)
theorem ra_nil {c : Cfg} {σ : St} {H : Hp} {Q : List V → Hp → Prop} (h : rA c aNil σ H Q) : Q [] H := by
  obtain ⟨_, _, h⟩ := h
  exact h.end0 RepL.nil
end Dn
end
section
set_option Elab.async false
set_option linter.all false
set_option maxRecDepth 100000
set_option maxHeartbeats 1000000
namespace Dn
open PySem L2 PySem.Spec PyProof.Rows HT
/-! ### t[::-1] of a tuple -/
section
variable {prog : Program} {w : World} {A : Around} {E : Value → Shared → Prop} {s : Shared}
end
end Dn
end
section
set_option Elab.async false
set_option linter.all false
set_option maxRecDepth 100000
set_option maxHeartbeats 1000000
namespace Dn
open PySem L2 PySem.Spec PyProof.Rows
/-! ### methods of lists: count, index -/
/-- the first place of a flat item -/
def idxF (q : PV) : List PV → Option Nat
  | [] => none
  | p :: ps => if eqF p q then some 0 else (idxF q ps).map (· + 1)
section
variable {k : Nat} {X : Cx} {c : Cfg} {o e : Expr} {apos cpos : Pos} {da dk : DE}
end
end Dn
end
section
set_option Elab.async false
set_option linter.all false
set_option maxRecDepth 100000
set_option maxHeartbeats 1000000
namespace Dn
open PySem L2

/-! ### what holds of the outcome -/
def wp {α : Type} (d : Den α) (e : DEnv) (S : Stor) (Q : Out α → Prop) : Prop := Q (d e S)
def wpS (d : DS) (e : DEnv) (S : Stor) (Q : OutS → Prop) : Prop := Q (d e S)
def wpF (f : DF) (ps : List PV) (S : Stor) (Q : OutF → Prop) : Prop := Q (f ps S)
def bq {α β : Type} (k : α → Den β) (Q : Out β → Prop) : Out α → Prop
  | .st => Q .st
  | .ok a e s => wp (k a) e s Q
  | .ex x e s => Q (.ex x e s)
def bqS {α : Type} (k : α → DS) (Q : OutS → Prop) : Out α → Prop
  | .st => Q .st
  | .ok a e s => wpS (k a) e s Q
  | .ex x e s => Q (.ex x e s)
def bqF (e : DEnv) (Q : Out PV → Prop) : OutF → Prop
  | .st => Q .st
  | .ok a s => Q (.ok a e s)
  | .ex x s => Q (.ex x e s)
def sqS (b : DS) (Q : OutS → Prop) : OutS → Prop
  | .nx e s => wpS b e s Q
  | o => Q o
def fqS (Q : OutF → Prop) : OutS → Prop
  | .nx _ s => Q (.ok .non s)
  | .rt p _ s => Q (.ok p s)
  | .ex x _ s => Q (.ex x s)
  | _ => Q .st
section
variable {α β : Type} {d : Den α} {k : α → Den β} {e : DEnv} {S : Stor} {Q : Out β → Prop} {Q1 : Out α → Prop} {a : α}
theorem wp_bind : wp (d.bind k) e S Q = wp d e S (bq k Q) := by
  unfold wp Den.bind; cases d e S <;> rfl
theorem bq_ok : bq k Q (.ok a e S) = wp (k a) e S Q := id rfl
theorem bq_ex {x : Exc} : bq k Q (.ex x e S) = Q (.ex x e S) := id rfl
theorem wp_pure : wp (Den.pure a) e S Q1 = Q1 (.ok a e S) := id rfl
theorem wp_fail : wp Den.fail e S Q1 = Q1 .st := id rfl
theorem wp_getS {Q : Out Stor → Prop} : wp Den.getS e S Q = Q (.ok S e S) := id rfl
end
section
variable {α : Type} {d : Den α} {e : DEnv} {S : Stor} {Q : OutS → Prop} {p : PV} {k : α → DS} {a : α} {x y : DS}
theorem wpS_sE : wpS (sE d k) e S Q = wp d e S (bqS k Q) := by
  unfold wpS sE wp; cases d e S <;> rfl
theorem bqS_ok : bqS k Q (.ok a e S) = wpS (k a) e S Q := id rfl
theorem bqS_ex {z : Exc} : bqS k Q (.ex z e S) = Q (.ex z e S) := id rfl
theorem wpS_seq : wpS (sSeq x y) e S Q = wpS x e S (sqS y Q) := by
  unfold wpS sSeq; cases x e S <;> rfl
theorem sqS_nx : sqS y Q (.nx e S) = wpS y e S Q := id rfl
theorem sqS_rt : sqS y Q (.rt p e S) = Q (.rt p e S) := id rfl
theorem sqS_bk : sqS y Q (.bk e S) = Q (.bk e S) := id rfl
theorem sqS_ct : sqS y Q (.ct e S) = Q (.ct e S) := id rfl
theorem sqS_ex {z : Exc} : sqS y Q (.ex z e S) = Q (.ex z e S) := id rfl
theorem wpS_next : wpS sNext e S Q = Q (.nx e S) := id rfl
theorem wpS_break : wpS sBreak e S Q = Q (.bk e S) := id rfl
theorem wpS_cont : wpS sCont e S Q = Q (.ct e S) := id rfl
theorem wpS_retN : wpS sRetN e S Q = Q (.rt .non e S) := id rfl
def kSetT (is : List Nat) : PV → DS := fun p e s => match tgT is p e with
  | some e => .nx e s
  | none => .st
theorem wpS_setT {is : List Nat} {de : DE} : wpS (sSetT is de) e S Q = wp de e S (bqS (kSetT is) Q) := wpS_sE
def kApp (i : Nat) : PV → DS := fun p e s => match e[i]? with
  | some (.ol xs) => if xs.length < sizeLine then .nx (e.set i (.ol (xs ++ [p]))) s else .st
  | _ => .st
theorem wpS_app {i : Nat} {da : DE} {xs : List PV} (h : e[i]? = some (.ol xs)) : wpS (sApp i da) e S Q = wp da e S (bqS (kApp i) Q) := by
  rw [← wpS_sE]; unfold wpS sApp; rw [h]; rfl
theorem wpS_appv {i : Nat} {xs : List PV} (h : e[i]? = some (.ol xs)) (hl : xs.length < sizeLine) : wpS (kApp i p) e S Q = Q (.nx (e.set i (.ol (xs ++ [p]))) S) := by
  unfold wpS kApp; rw [h]; dsimp only; rw [if_pos hl]
def stQ (Q : OutS → Prop) : Option Stor → DEnv → Prop
  | some s, e => Q (.nx e s)
  | none, _ => Q .st
def kSetR (o q p : PV) : DS := fun e s => match setS s o q p with
  | some s => .nx e s
  | none => .st
theorem wpS_setSv {o q : PV} : wpS (kSetR o q p) e S Q = stQ Q (setS S o q p) e := by
  unfold wpS kSetR stQ; cases setS S o q p <;> rfl
theorem stQ_some : stQ Q (some S) e = Q (.nx e S) := id rfl
end
section
variable {e : DEnv} {S : Stor} {Q : Out PV → Prop} {ps : List PV} {p : PV} {i : Nat}
theorem wp_C : wp (dC p) e S Q = Q (.ok p e S) := id rfl
def kCall (f : DF) (ps : List PV) : DE := fun e s => match f ps s with
  | .st => .st
  | .ok p s => .ok p e s
  | .ex x s => .ex x e s
theorem wp_call {f : DF} {dr : Den (List PV)} : wp (dCall f dr) e S Q = wp dr e S (bq (kCall f) Q) := wp_bind
theorem wp_callv {f : DF} : wp (kCall f ps) e S Q = wpF f ps S (bqF e Q) := by
  unfold wp wpF kCall; cases f ps S <;> rfl
theorem bqF_ok : bqF e Q (.ok p S) = Q (.ok p e S) := id rfl
theorem bqF_ex {x : Exc} : bqF e Q (.ex x S) = Q (.ex x e S) := id rfl
def kNew (ps : List PV) : DE := fun e s => .ok (.ref s.length) e (s ++ [.lst ps])
theorem wp_new {dd : Den (List PV)} : wp (dNew dd) e S Q = wp dd e S (bq kNew Q) := wp_bind
theorem wp_newv : wp (kNew ps) e S Q = Q (.ok (.ref S.length) e (S ++ [.lst ps])) := id rfl
theorem wp_lenO (h : e[i]? = some (.ol ps)) : wp (dLenO i) e S Q = Q (.ok (.int ps.length) e S) := by unfold wp dLenO; rw [h]
end
/-! ### defs -/
theorem wpF_fun {n u : Nat} {b : DS} {ps : List PV} {S : Stor} {Q : OutF → Prop} (h : ps.length = n) : wpF (dFun n u b) ps S Q = wpS b (ps.map Slot.v ++ List.replicate u Slot.un) S (fqS Q) := by
  unfold wpF dFun wpS; rw [if_pos h]; cases b (ps.map Slot.v ++ List.replicate u Slot.un) S <;> rfl
section
variable {e : DEnv} {S : Stor} {Q : OutF → Prop} {p : PV}
theorem fqS_nx : fqS Q (.nx e S) = Q (.ok .non S) := id rfl
theorem fqS_rt : fqS Q (.rt p e S) = Q (.ok p S) := id rfl
theorem fqS_ex {x : Exc} : fqS Q (.ex x e S) = Q (.ex x S) := id rfl
end
/-! ### loops -/
section
variable {e : DEnv} {S : Stor}
theorem wpS_for {di : Den (List PV)} {g : PV → DEnv → Option DEnv} {b : DS} {Q : OutS → Prop} : wpS (sFor di g b) e S Q = wp di e S (bqS (forL g b) Q) := wpS_sE
/-- a for by an invariant: J of the items still to come -/
theorem forL_inv {b : DS} {g : PV → DEnv → Option DEnv} {Q : OutS → Prop} (J : List PV → DEnv → Stor → Prop) (hb : ∀ p ps e S, J (p :: ps) e S → ∃ e1, g p e = some e1 ∧ wpS b e1 S fun o => match o with
    | .nx e S => J ps e S
    | .ct e S => J ps e S
    | .bk e S => Q (.nx e S)
    | o => Q o) (hq : ∀ e S, J [] e S → Q (.nx e S)) : ∀ (ps : List PV) (e : DEnv) (S : Stor), J ps e S → wpS (forL g b ps) e S Q
  | [], e, S, h => hq e S h
  | p :: ps, e, S, h => by
    obtain ⟨e1, h1, h2⟩ := hb p ps e S h
    unfold wpS forL
    rw [h1]
    dsimp only
    unfold wpS at h2
    cases q : b e1 S with
    | nx e2 S2 => rw [q] at h2; exact forL_inv J hb hq ps e2 S2 h2
    | ct e2 S2 => rw [q] at h2; exact forL_inv J hb hq ps e2 S2 h2
    | bk e2 S2 => rw [q] at h2; exact h2
    | st => rw [q] at h2; exact h2
    | rt p e2 S2 => rw [q] at h2; exact h2
    | ex x e2 S2 => rw [q] at h2; exact h2
/-- .. of a body that leaves the slots as they are, but for the loop's own -/
theorem lcL_inv {own : List Nat} {g : PV → DEnv → Option DEnv} {dt : Den Bool} {de : DE} {Q : Out (List PV) → Prop} (J : List PV → List PV → DEnv → Stor → Prop)
    (hb : ∀ p ps acc e S, J (p :: ps) acc e S → ∃ e1, g p e = some e1 ∧ wp dt e1 S fun o => match o with
      | .ok true e2 S2 => wp de e2 S2 fun o => match o with
        | .ok v e3 S3 => acc.length < sizeLine ∧ J ps (acc ++ [v]) (wipeE e3 own) S3
        | _ => False
      | .ok false e2 S2 => J ps acc (wipeE e2 own) S2
      | _ => False)
    (hq : ∀ acc e S, J [] acc e S → Q (.ok acc e S)) : ∀ (ps acc : List PV) (e : DEnv) (S : Stor), J ps acc e S → wp (lcL own g dt de ps acc) e S Q
  | [], acc, e, S, h => hq acc e S h
  | p :: ps, acc, e, S, h => by
    obtain ⟨e1, h1, h2⟩ := hb p ps acc e S h
    unfold wp lcL
    rw [h1]
    dsimp only
    unfold wp at h2
    cases q : dt e1 S with
    | st => rw [q] at h2; exact h2.elim
    | ex x e2 S2 => rw [q] at h2; exact h2.elim
    | ok b e2 S2 =>
      rw [q] at h2
      cases b with
      | false => exact lcL_inv J hb hq ps acc _ S2 h2
      | true =>
        dsimp only at h2 ⊢
        cases q2 : de e2 S2 with
        | st => rw [q2] at h2; exact h2.elim
        | ex x e3 S3 => rw [q2] at h2; exact h2.elim
        | ok v e3 S3 =>
          rw [q2] at h2
          dsimp only
          rw [if_pos h2.1]
          exact lcL_inv J hb hq ps _ _ S3 h2.2
def lcQ (own : List Nat) (e0 : DEnv) (Q : Out (List PV) → Prop) : Out (List PV) → Prop
  | .ok acc e S => Q (.ok acc (restE e0 own e) S)
  | _ => Q .st
def kComp (own : List Nat) (g : PV → DEnv → Option DEnv) (dt : Den Bool) (de : DE) (ps : List PV) : Den (List PV) := fun e s =>
    if noOwn e own then match lcL own g dt de ps [] (wipeE e own) s with
    | .ok acc e2 s2 => .ok acc (restE e own e2) s2
    | _ => .st
  else .st
theorem wp_comp {own : List Nat} {di : Den (List PV)} {g : PV → DEnv → Option DEnv} {dt : Den Bool} {de : DE} {Q : Out (List PV) → Prop} : wp (lComp own di g dt de) e S Q = wp di e S (bq (kComp own g dt de) Q) := wp_bind
theorem wp_compv {own : List Nat} {g : PV → DEnv → Option DEnv} {dt : Den Bool} {de : DE} {Q : Out (List PV) → Prop} {ps : List PV} (h : noOwn e own = true) : wp (kComp own g dt de ps) e S Q = wp (lcL own g dt de ps []) (wipeE e own) S (lcQ own e Q) := by
  unfold wp kComp; rw [if_pos h]; cases lcL own g dt de ps [] (wipeE e own) S <;> rfl
end
end Dn
end
section
set_option Elab.async false
set_option linter.all false
set_option maxRecDepth 100000
set_option maxHeartbeats 1000000
namespace Dn
open PySem L2
def oQ {α : Type} (e : DEnv) (S : Stor) (Q : Out α → Prop) : Option α → Prop
  | some a => Q (.ok a e S)
  | none => Q .st
section
variable {α β : Type} {d : Den α} {e : DEnv} {S : Stor} {a : α}
theorem wp_opt {Q : Out α → Prop} {o : Option α} : wp (Den.opt o) e S Q = oQ e S Q o := by cases o <;> rfl
theorem oQ_some {Q : Out α → Prop} : oQ e S Q (some a) = Q (.ok a e S) := id rfl
theorem oQ_ite {Q : Out α → Prop} {c : Prop} [Decidable c] {o o' : Option α} : oQ e S Q (if c then o else o') = if c then oQ e S Q o else oQ e S Q o' := by split <;> rfl
def vQ (i : Nat) (e : DEnv) (S : Stor) (Q : Out PV → Prop) : Option Slot → Prop
  | some (.v p) => Q (.ok p e S)
  | some (.ol ps) => Q (.ok (.lst ps) (e.set i (.v (.lst ps))) S)
  | some (.od ps) => Q (.ok (.dk ps) (e.set i (.v (.dk ps))) S)
  | some (.ot ps) => Q (.ok (.dt ps) (e.set i (.v (.dt ps))) S)
  | _ => Q .st
variable {Q : Out PV → Prop} {i : Nat} {p : PV} {ps : List PV}
theorem wp_dVar : wp (dVar i) e S Q = vQ i e S Q e[i]? := by
  unfold wp dVar vQ; split <;> simp_all
theorem vQ_v : vQ i e S Q (some (.v p)) = Q (.ok p e S) := id rfl
theorem vQ_o : vQ i e S Q (some (.ol ps)) = Q (.ok (.lst ps) (e.set i (.v (.lst ps))) S) := id rfl
end
theorem mulOk_r {i j : Int} (h : -(2 ^ 64) < j ∧ j < 2 ^ 64) : mulOk i j = true := by
  unfold mulOk; rw [decide_eq_true h.1, decide_eq_true h.2, Bool.and_self, Bool.or_true]
/-! ### operators at values -/
section
variable {S : Stor} {i j : Int} {xs ys : List PV} {a b : Bool} {x y : Str}
theorem add_i : addP S (.int i) (.int j) = some (.int (i + j)) := id rfl
theorem add_t : addP S (.tup xs) (.tup ys) = if xs.length + ys.length ≤ sizeLine then some (.tup (xs ++ ys)) else none := id rfl
theorem add_l : addP S (.lst xs) (.lst ys) = if xs.length + ys.length ≤ sizeLine then some (.lst (xs ++ ys)) else none := id rfl
theorem sub_i : subP S (.int i) (.int j) = some (.int (i - j)) := id rfl
theorem mul_i : mulP' S (.int i) (.int j) = if mulOk i j then some (.int (i * j)) else none := id rfl
theorem mul_t : mulP' S (.tup xs) (.int j) = if xs.length ≤ 1000 ∧ -1000000 ≤ j ∧ j ≤ 1000 then some (.tup (List.replicate j.toNat xs).flatten) else none := id rfl
theorem mul_l : mulP' S (.lst xs) (.int j) = if xs.length ≤ 1000 ∧ -1000 ≤ j ∧ j ≤ 1000 then some (.lst (List.replicate j.toNat xs).flatten) else none := id rfl
theorem fdiv_i : fdivP S (.int i) (.int j) = if 0 < j ∧ j < 1073741824 then some (.int (i / j)) else none := id rfl
theorem mod_i : modP S (.int i) (.int j) = if 0 < j then some (.int (i % j)) else none := id rfl
theorem neg_i : negP S (.int i) = some (.int (-i)) := id rfl
theorem lt_i : ltP S (.int i) (.int j) = some (.bl (decide (i < j))) := id rfl
theorem le_i : leP S (.int i) (.int j) = some (.bl (decide (i ≤ j))) := id rfl
theorem gt_i : gtP S (.int i) (.int j) = some (.bl (decide (i > j))) := id rfl
theorem ge_i : geP S (.int i) (.int j) = some (.bl (decide (i ≥ j))) := id rfl
theorem eq_i : eqP S (.int i) (.int j) = some (.bl (decide (i = j))) := by
  unfold eqP toD; simp [SeqAt.shaped, PyData.canLay0, PyData.depth, PyData.eqv]; rfl
theorem ne_i : neP S (.int i) (.int j) = some (.bl (!decide (i = j))) := by
  unfold neP toD; simp [SeqAt.shaped, PyData.canLay0, PyData.depth, PyData.eqv]; rfl
theorem eq_b : eqP S (.bl a) (.bl b) = some (.bl (a == b)) := by
  unfold eqP toD; simp [SeqAt.shaped, PyData.canLay0, PyData.depth, PyData.eqv]
theorem len_ft : lenP S [.ftp xs] = some (.int xs.length) := id rfl
theorem len_t : lenP S [.tup xs] = some (.int xs.length) := id rfl
theorem len_l : lenP S [.lst xs] = some (.int xs.length) := id rfl
theorem len_r : lenP S [.rol xs] = some (.int xs.length) := id rfl
theorem abs_i : absP S [.int i] = some (.int (if i < 0 then -i else i)) := id rfl
theorem int_i : intP S [.int i] = some (.int i) := id rfl
theorem list_ft : listP S [.ftp xs] = some (.lst xs) := id rfl
theorem list_t : listP S [.tup xs] = some (.lst xs) := id rfl
theorem list_l : listP S [.lst xs] = some (.lst xs) := id rfl
theorem list_r : listP S [.rol xs] = some (.lst xs) := id rfl
theorem tuple_ft : tupleP S [.ftp xs] = some (.ftp xs) := id rfl
theorem tuple_t : tupleP S [.tup xs] = some (.tup xs) := id rfl
theorem tuple_l : tupleP S [.lst xs] = some (.tup xs) := id rfl
end
theorem kb0 : kitB "int" "int" = some true := by decide +kernel
theorem kb1 : kitB "bool" "int" = some true := by decide +kernel
theorem kb2 : kitB "str" "int" = some false := by decide +kernel
theorem kb3 : kitB "tuple" "int" = some false := by decide +kernel
theorem kb4 : kitB "list" "int" = some false := by decide +kernel
theorem kb5 : kitB "NoneType" "int" = some false := by decide +kernel
theorem kb6 : kitB "int" "bool" = some false := by decide +kernel
theorem kb7 : kitB "bool" "bool" = some true := by decide +kernel
theorem kb8 : kitB "str" "bool" = some false := by decide +kernel
theorem kb9 : kitB "tuple" "bool" = some false := by decide +kernel
theorem kb10 : kitB "list" "bool" = some false := by decide +kernel
theorem kb11 : kitB "NoneType" "bool" = some false := by decide +kernel
theorem kb12 : kitB "int" "tuple" = some false := by decide +kernel
theorem kb13 : kitB "bool" "tuple" = some false := by decide +kernel
theorem kb14 : kitB "str" "tuple" = some false := by decide +kernel
theorem kb15 : kitB "tuple" "tuple" = some true := by decide +kernel
theorem kb16 : kitB "list" "tuple" = some false := by decide +kernel
theorem kb17 : kitB "NoneType" "tuple" = some false := by decide +kernel
theorem kb18 : kitB "int" "list" = some false := by decide +kernel
theorem kb19 : kitB "bool" "list" = some false := by decide +kernel
theorem kb20 : kitB "str" "list" = some false := by decide +kernel
theorem kb21 : kitB "tuple" "list" = some false := by decide +kernel
theorem kb22 : kitB "list" "list" = some true := by decide +kernel
theorem kb23 : kitB "NoneType" "list" = some false := by decide +kernel
theorem kb24 : kitB "int" "str" = some false := by decide +kernel
theorem kb25 : kitB "bool" "str" = some false := by decide +kernel
theorem kb26 : kitB "str" "str" = some true := by decide +kernel
theorem kb27 : kitB "tuple" "str" = some false := by decide +kernel
theorem kb28 : kitB "list" "str" = some false := by decide +kernel
theorem kb29 : kitB "NoneType" "str" = some false := by decide +kernel
section
variable {S : Stor} {i : Int} {xs : List PV} {b : Bool} {x : Str} {T : String}
theorem isi_i : isiP T S (.int i) = (kitB "int" T).map .bl := id rfl
theorem isi_b : isiP T S (.bl b) = (kitB "bool" T).map .bl := id rfl
theorem isi_s : isiP T S (.str x) = (kitB "str" T).map .bl := id rfl
theorem isi_ft : isiP T S (.ftp xs) = (kitB "tuple" T).map .bl := id rfl
theorem isi_t : isiP T S (.tup xs) = (kitB "tuple" T).map .bl := id rfl
theorem isi_l : isiP T S (.lst xs) = (kitB "list" T).map .bl := id rfl
theorem isi_r : isiP T S (.rol xs) = (kitB "list" T).map .bl := id rfl
theorem isi_n : isiP T S .non = (kitB "NoneType" T).map .bl := id rfl
theorem tru_b : truP S (.bl b) = some b := id rfl
theorem tru_i : truP S (.int i) = some (i != 0) := id rfl
theorem tru_ft : truP S (.ftp xs) = some (!xs.isEmpty) := id rfl
theorem tru_t : truP S (.tup xs) = some (!xs.isEmpty) := id rfl
theorem tru_l : truP S (.lst xs) = some (!xs.isEmpty) := id rfl
theorem tru_n : truP S .non = some false := id rfl
theorem isN_n : isNonP S .non .non = some (.bl true) := id rfl
theorem isN_b : isNonP S (.bl b) .non = some (.bl false) := id rfl
theorem isN_i : isNonP S (.int i) .non = some (.bl false) := id rfl
theorem isN_s : isNonP S (.str x) .non = some (.bl false) := id rfl
theorem isN_t : isNonP S (.tup xs) .non = some (.bl false) := id rfl
theorem isN_l : isNonP S (.lst xs) .non = some (.bl false) := id rfl
theorem ix_ft : ixP S (.ftp xs) (.int i) = atI xs i := id rfl
theorem ix_t : ixP S (.tup xs) (.int i) = atI xs i := id rfl
theorem ix_l : ixP S (.lst xs) (.int i) = atI xs i := id rfl
theorem ix_r : ixP S (.rol xs) (.int i) = atI xs i := id rfl
theorem ix_ref {n : Nat} : ixP S (.ref n) (.int i) = match S[n]? with
    | some (.lst xs) => atI xs i
    | _ => none := id rfl
theorem setS_ref {n : Nat} {p : PV} : setS S (.ref n) (.int i) p = match S[n]? with
    | some (.lst xs) => (ixN xs.length i).map fun jj => S.set n (.lst (xs.set jj p))
    | _ => none := id rfl
theorem pow_i {j : Int} : powP S (.int i) (.int j) = if 0 ≤ j ∧ j ≤ 1000000 ∧ i.natAbs < 2 ^ 64 then some (.int (i ^ j.toNat)) else none := id rfl
theorem ixN_30 : ixN 3 0 = some 0 := id rfl
theorem ixN_31 : ixN 3 1 = some 1 := id rfl
theorem ixN_32 : ixN 3 2 = some 2 := id rfl
theorem pow_18 : powP S (.int 10) (.int 18) = some (.int 1000000000000000000) := by rw [pow_i, if_pos (by decide)]; rfl
theorem items_ft : itemsP (.ftp xs) = some xs := id rfl
theorem items_t : itemsP (.tup xs) = some xs := id rfl
theorem items_l : itemsP (.lst xs) = some xs := id rfl
theorem items_r : itemsP (.rol xs) = some xs := id rfl
theorem atI_0 {p : PV} : atI (p :: xs) 0 = some p := by unfold atI ixN; simp
theorem atI_1 {p q : PV} : atI (p :: q :: xs) 1 = some q := by unfold atI ixN; rw [if_pos (by omega), if_pos (by rw [List.length_cons, List.length_cons]; omega)]; rfl
theorem atI_2 {p q r : PV} : atI (p :: q :: r :: xs) 2 = some r := by unfold atI ixN; rw [if_pos (by omega), if_pos (by rw [List.length_cons, List.length_cons, List.length_cons]; omega)]; rfl
theorem atI_in {i : Int} (h0 : 0 ≤ i) (h : i < xs.length) : atI xs i = some (xs[i.toNat]'(by omega)) := by
  unfold atI ixN; rw [if_pos h0, if_pos h]; simp
end

/-! ### the combinators -/
section
variable {e : DEnv} {S : Stor} {Q : Out PV → Prop} {QB : Out Bool → Prop} {QL : Out (List PV) → Prop} {QS : OutS → Prop} {da db dc : DE} {t u : Den Bool} {dr : Den (List PV)} {g g' : G2} {f : G1} {h : GN} {p q r : PV} {b : Bool} {ps : List PV} {n : Int} {x y : DS} {i : Nat} {is : List Nat} {dl dh : Den (Option Int)} {l l' : Option Int} {QO : Out (Option Int) → Prop}
def k1 (f : G1) : PV → DE := fun p => Den.getS.bind fun S => Den.opt (f S p)
theorem wp_d1 : wp (d1 f da) e S Q = wp da e S (bq (k1 f) Q) := wp_bind
theorem wp_k1 : wp (k1 f p) e S Q = oQ e S Q (f S p) := wp_opt
def k2b (g : G2) (p : PV) : PV → DE := fun q => Den.getS.bind fun S => Den.opt (g S p q)
def k2 (g : G2) (db : DE) : PV → DE := fun p => db.bind (k2b g p)
theorem wp_d2 : wp (d2 g da db) e S Q = wp da e S (bq (k2 g db) Q) := wp_bind
theorem wp_k2 : wp (k2 g db p) e S Q = wp db e S (bq (k2b g p) Q) := wp_bind
theorem wp_k2b : wp (k2b g p q) e S Q = oQ e S Q (g S p q) := wp_opt
def kT : PV → Den Bool := fun p => match p with
  | .bl b => Den.pure b
  | _ => Den.fail
theorem wp_dT : wp (dT da) e S QB = wp da e S (bq kT QB) := wp_bind
theorem wp_kT : wp (kT (.bl b)) e S QB = QB (.ok b e S) := id rfl
def kTru : PV → Den Bool := fun p => Den.getS.bind fun S => Den.opt (truP S p)
theorem wp_dTru : wp (dTru da) e S QB = wp da e S (bq kTru QB) := wp_bind
theorem wp_kTru : wp (kTru p) e S QB = oQ e S QB (truP S p) := wp_opt
def kNot : Bool → Den Bool := fun b => Den.pure (!b)
theorem wp_dNotT : wp (dNotT t) e S QB = wp t e S (bq kNot QB) := wp_bind
theorem wp_kNot : wp (kNot b) e S QB = QB (.ok (!b) e S) := id rfl
def kAnd (u : Den Bool) : Bool → Den Bool := fun b => if b then u else Den.pure false
theorem wp_dAndT : wp (dAndT t u) e S QB = wp t e S (bq (kAnd u) QB) := wp_bind
theorem wp_kAnd : wp (kAnd u b) e S QB = if b then wp u e S QB else QB (.ok false e S) := by cases b <;> rfl
def kOr (u : Den Bool) : Bool → Den Bool := fun b => if b then Den.pure true else u
theorem wp_dOrT : wp (dOrT t u) e S QB = wp t e S (bq (kOr u) QB) := wp_bind
theorem wp_kOr : wp (kOr u b) e S QB = if b then QB (.ok true e S) else wp u e S QB := by cases b <;> rfl
def kAndVb (db : DE) (p : PV) : Bool → DE := fun b => if b then db else Den.pure p
def kAndV (db : DE) : PV → DE := fun p => Den.getS.bind fun S => (Den.opt (truP S p)).bind (kAndVb db p)
theorem wp_dAndV : wp (dAndV da db) e S Q = wp da e S (bq (kAndV db) Q) := wp_bind
theorem wp_kAndV : wp (kAndV db p) e S Q = oQ e S (bq (kAndVb db p) Q) (truP S p) := by
  show wp ((Den.opt (truP S p)).bind _) e S Q = _
  rw [wp_bind, wp_opt]
theorem wp_kAndVb : wp (kAndVb db p b) e S Q = if b then wp db e S Q else Q (.ok p e S) := by cases b <;> rfl
def kOrVb (db : DE) (p : PV) : Bool → DE := fun b => if b then Den.pure p else db
def kOrV (db : DE) : PV → DE := fun p => Den.getS.bind fun S => (Den.opt (truP S p)).bind (kOrVb db p)
theorem wp_dOrV : wp (dOrV da db) e S Q = wp da e S (bq (kOrV db) Q) := wp_bind
theorem wp_kOrV : wp (kOrV db p) e S Q = oQ e S (bq (kOrVb db p) Q) (truP S p) := by
  show wp ((Den.opt (truP S p)).bind _) e S Q = _
  rw [wp_bind, wp_opt]
theorem wp_kOrVb : wp (kOrVb db p b) e S Q = if b then Q (.ok p e S) else wp db e S Q := by cases b <;> rfl
def kNotVb : Bool → DE := fun b => Den.pure (.bl (!b))
def kNotV : PV → DE := fun p => Den.getS.bind fun S => (Den.opt (truP S p)).bind kNotVb
theorem wp_dNotV : wp (dNotV da) e S Q = wp da e S (bq kNotV Q) := wp_bind
theorem wp_kNotV : wp (kNotV p) e S Q = oQ e S (bq kNotVb Q) (truP S p) := by
  show wp ((Den.opt (truP S p)).bind _) e S Q = _
  rw [wp_bind, wp_opt]
theorem wp_kNotVb : wp (kNotVb b) e S Q = Q (.ok (.bl (!b)) e S) := id rfl
def kIf (da db : DE) : Bool → DE := fun b => if b then da else db
theorem wp_dIf : wp (dIf t da db) e S Q = wp t e S (bq (kIf da db) Q) := wp_bind
theorem wp_kIf : wp (kIf da db b) e S Q = if b then wp da e S Q else wp db e S Q := by cases b <;> rfl
def kCh3 (g' : G2) (dc : DE) (q : PV) : PV → DE := fun z => match z with
  | .bl true => d2 g' (dC q) dc
  | .bl false => Den.pure (.bl false)
  | _ => Den.fail
def kCh2 (g g' : G2) (dc : DE) (p : PV) : PV → DE := fun q => Den.getS.bind fun S => (Den.opt (g S p q)).bind (kCh3 g' dc q)
def kCh (g g' : G2) (db dc : DE) : PV → DE := fun p => db.bind (kCh2 g g' dc p)
theorem wp_dChain : wp (dChain g g' da db dc) e S Q = wp da e S (bq (kCh g g' db dc) Q) := wp_bind
theorem wp_kCh : wp (kCh g g' db dc p) e S Q = wp db e S (bq (kCh2 g g' dc p) Q) := wp_bind
theorem wp_kCh2 : wp (kCh2 g g' dc p q) e S Q = oQ e S (bq (kCh3 g' dc q) Q) (g S p q) := by
  show wp ((Den.opt (g S p q)).bind _) e S Q = _
  rw [wp_bind, wp_opt]
theorem wp_kCh3 : wp (kCh3 g' dc q (.bl b)) e S Q = if b then wp dc e S (bq (k2b g' q) Q) else Q (.ok (.bl false) e S) := by
  cases b with
  | true => show wp (d2 g' (dC q) dc) e S Q = _; rw [wp_d2]; exact wp_k2
  | false => rfl
theorem wp_aNil : wp aNil e S QL = QL (.ok [] e S) := id rfl
def kCons2 (p : PV) : List PV → Den (List PV) := fun ps => Den.pure (p :: ps)
def kCons (dr : Den (List PV)) : PV → Den (List PV) := fun p => dr.bind (kCons2 p)
theorem wp_aCons : wp (aCons da dr) e S QL = wp da e S (bq (kCons dr) QL) := wp_bind
theorem wp_kCons : wp (kCons dr p) e S QL = wp dr e S (bq (kCons2 p) QL) := wp_bind
theorem wp_kCons2 : wp (kCons2 p ps) e S QL = QL (.ok (p :: ps) e S) := id rfl
def kTup : List PV → DE := fun ps => if ps.length ≤ sizeLine then Den.pure (.tup ps) else Den.fail
theorem wp_dTup : wp (dTup dr) e S Q = wp dr e S (bq kTup Q) := wp_bind
theorem wp_kTup : wp (kTup ps) e S Q = if ps.length ≤ sizeLine then Q (.ok (.tup ps) e S) else Q .st := by unfold kTup; split <;> rfl
def kLst : List PV → DE := fun ps => if ps.length ≤ sizeLine then Den.pure (.lst ps) else Den.fail
theorem wp_dLst : wp (dLst dr) e S Q = wp dr e S (bq kLst Q) := wp_bind
theorem wp_kLst : wp (kLst ps) e S Q = if ps.length ≤ sizeLine then Q (.ok (.lst ps) e S) else Q .st := by unfold kLst; split <;> rfl
def kN (h : GN) : List PV → DE := fun ps => Den.getS.bind fun S => Den.opt (h S ps)
theorem wp_dN : wp (dN h dr) e S Q = wp dr e S (bq (kN h) Q) := wp_bind
theorem wp_kN : wp (kN h ps) e S Q = oQ e S Q (h S ps) := wp_opt
def kLs : List PV → DE := fun ps => Den.pure (.lst ps)
theorem wp_dLs : wp (dLs dr) e S Q = wp dr e S (bq kLs Q) := wp_bind
theorem wp_kLs : wp (kLs ps) e S Q = Q (.ok (.lst ps) e S) := id rfl
def kDisp : List PV → Den (List PV) := fun ps => Den.opt (if ps.length ≤ sizeLine then some ps else none)
theorem wp_lDisp : wp (lDisp dr) e S QL = wp dr e S (bq kDisp QL) := wp_bind
theorem wp_kDisp : wp (kDisp ps) e S QL = if ps.length ≤ sizeLine then QL (.ok ps e S) else QL .st := by unfold kDisp; split <;> rfl
def kRng : PV → Den (List PV) := fun p => Den.opt (match p with
  | .int n => if -1000000 ≤ n ∧ n ≤ 1000000 then some (rngPV n) else none
  | _ => none)
theorem wp_lRng : wp (lRng da) e S QL = wp da e S (bq kRng QL) := wp_bind
theorem wp_kRng : wp (kRng (.int n)) e S QL = if -1000000 ≤ n ∧ n ≤ 1000000 then QL (.ok (rngPV n) e S) else QL .st := by unfold kRng; dsimp only; split <;> rfl
def kItR : PV → Den (List PV) := fun p => match p with
  | .int n => if -1000000 ≤ n ∧ n ≤ 1000000 then Den.pure (rngPV n) else Den.fail
  | _ => Den.fail
theorem wp_dItR : wp (dItR da) e S QL = wp da e S (bq kItR QL) := wp_bind
theorem wp_kItR : wp (kItR (.int n)) e S QL = if -1000000 ≤ n ∧ n ≤ 1000000 then QL (.ok (rngPV n) e S) else QL .st := by unfold kItR; dsimp only; split <;> rfl
def kItS : PV → Den (List PV) := fun p => Den.opt (itemsP p)
theorem wp_dItS : wp (dItS da) e S QL = wp da e S (bq kItS QL) := wp_bind
theorem wp_kItS : wp (kItS p) e S QL = oQ e S QL (itemsP p) := wp_opt
theorem wp_tTrue : wp tTrue e S QB = QB (.ok true e S) := id rfl
theorem wp_oNo : wp oNo e S QO = QO (.ok none e S) := id rfl
def kSome : PV → Den (Option Int) := fun p => match p with
  | .int i => Den.pure (some i)
  | _ => Den.fail
theorem wp_oSome : wp (oSome da) e S QO = wp da e S (bq kSome QO) := wp_bind
theorem wp_kSome : wp (kSome (.int n)) e S QO = QO (.ok (some n) e S) := id rfl
def kSl2 (p : PV) (l : Option Int) : Option Int → DE := fun h => Den.opt (slP p l h)
def kSl1 (p : PV) (hi : Den (Option Int)) : Option Int → DE := fun l => hi.bind (kSl2 p l)
def kSl (lo hi : Den (Option Int)) : PV → DE := fun p => lo.bind (kSl1 p hi)
theorem wp_dSl : wp (dSl da dl dh) e S Q = wp da e S (bq (kSl dl dh) Q) := wp_bind
theorem wp_kSl : wp (kSl dl dh p) e S Q = wp dl e S (bq (kSl1 p dh) Q) := wp_bind
theorem wp_kSl1 : wp (kSl1 p dh l) e S Q = wp dh e S (bq (kSl2 p l) Q) := wp_bind
theorem wp_kSl2 : wp (kSl2 p l l') e S Q = oQ e S Q (slP p l l') := wp_opt
/-! statements -/
def kRet : PV → DS := fun p e s => .rt p e s
theorem ws_ret : wpS (sRet da) e S QS = wp da e S (bqS kRet QS) := wpS_sE
theorem ws_kRet : wpS (kRet p) e S QS = QS (.rt p e S) := id rfl
def kExpr : PV → DS := fun _ e s => .nx e s
theorem ws_expr : wpS (sExpr da) e S QS = wp da e S (bqS kExpr QS) := wpS_sE
theorem ws_kExpr : wpS (kExpr p) e S QS = QS (.nx e S) := id rfl
def kIfS (x y : DS) : Bool → DS := fun k => if k then x else y
theorem ws_if : wpS (sIf t x y) e S QS = wp t e S (bqS (kIfS x y) QS) := wpS_sE
theorem ws_kIfS : wpS (kIfS x y b) e S QS = if b then wpS x e S QS else wpS y e S QS := by cases b <;> rfl
def kSet (i : Nat) : PV → DS := fun p e s => .nx (e.set i (.v p)) s
theorem ws_set : wpS (sSet i da) e S QS = wp da e S (bqS (kSet i) QS) := wpS_sE
theorem ws_kSet : wpS (kSet i p) e S QS = QS (.nx (e.set i (.v p)) S) := id rfl
def kSetO (i : Nat) : List PV → DS := fun p e s => .nx (e.set i (.ol p)) s
theorem ws_setO : wpS (sSetO i dr) e S QS = wp dr e S (bqS (kSetO i) QS) := wpS_sE
theorem ws_kSetO : wpS (kSetO i ps) e S QS = QS (.nx (e.set i (.ol ps)) S) := id rfl
theorem ws_kSetT : wpS (kSetT is (.tup ps)) e S QS = if ps.length = is.length then QS (.nx (setAll is ps e) S) else QS .st := by
  unfold wpS kSetT tgT; dsimp only; by_cases c : ps.length = is.length
  · rw [if_pos c, if_pos c]
  · rw [if_neg c, if_neg c]
def kSetR2 (p o : PV) : PV → DS := fun q => kSetR o q p
def kSetR1 (db : DE) (p : PV) : PV → DS := fun o => sE db (kSetR2 p o)
def kSetR0 (da db : DE) : PV → DS := fun p => sE da (kSetR1 db p)
theorem ws_setR : wpS (sSetR da db dc) e S QS = wp dc e S (bqS (kSetR0 da db) QS) := wpS_sE
theorem ws_kSetR0 : wpS (kSetR0 da db p) e S QS = wp da e S (bqS (kSetR1 db p) QS) := wpS_sE
theorem ws_kSetR1 : wpS (kSetR1 db p q) e S QS = wp db e S (bqS (kSetR2 p q) QS) := wpS_sE
theorem ws_kSetR2 : wpS (kSetR2 p q r) e S QS = stQ QS (setS S q r p) e := wpS_setSv
end
theorem wpS_to {d : DS} {e : DEnv} {S : Stor} {Q : OutS → Prop} (P : OutS → Prop) (h : wpS d e S P) (w : ∀ o, P o → Q o) : wpS d e S Q := w _ h
theorem wp_to {α : Type} {d : Den α} {e : DEnv} {S : Stor} {Q : Out α → Prop} (P : Out α → Prop) (h : wp d e S P) (w : ∀ o, P o → Q o) : wp d e S Q := w _ h
theorem wpF_go {n u : Nat} {b : DS} {ps : List PV} {S : Stor} {Q : OutF → Prop} (h : ps.length = n) (w : wpS b (ps.map Slot.v ++ List.replicate u Slot.un) S (fqS Q)) : wpF (dFun n u b) ps S Q := by rw [wpF_fun h]; exact w
theorem sz0 : (0 ≤ sizeLine) = True := eq_true (by decide)
theorem szl0 : (0 < sizeLine) = True := eq_true (by decide)
theorem sz1 : (1 ≤ sizeLine) = True := eq_true (by decide)
theorem szl1 : (1 < sizeLine) = True := eq_true (by decide)
theorem sz2 : (2 ≤ sizeLine) = True := eq_true (by decide)
theorem szl2 : (2 < sizeLine) = True := eq_true (by decide)
theorem sz3 : (3 ≤ sizeLine) = True := eq_true (by decide)
theorem szl3 : (3 < sizeLine) = True := eq_true (by decide)
theorem sz4 : (4 ≤ sizeLine) = True := eq_true (by decide)
theorem szl4 : (4 < sizeLine) = True := eq_true (by decide)
theorem sz5 : (5 ≤ sizeLine) = True := eq_true (by decide)
theorem szl5 : (5 < sizeLine) = True := eq_true (by decide)
theorem sz6 : (6 ≤ sizeLine) = True := eq_true (by decide)
theorem szl6 : (6 < sizeLine) = True := eq_true (by decide)
theorem sz7 : (7 ≤ sizeLine) = True := eq_true (by decide)
theorem szl7 : (7 < sizeLine) = True := eq_true (by decide)
theorem sz8 : (8 ≤ sizeLine) = True := eq_true (by decide)
theorem szl8 : (8 < sizeLine) = True := eq_true (by decide)
theorem sz9 : (9 ≤ sizeLine) = True := eq_true (by decide)
theorem szl9 : (9 < sizeLine) = True := eq_true (by decide)
theorem sz10 : (10 ≤ sizeLine) = True := eq_true (by decide)
theorem szl10 : (10 < sizeLine) = True := eq_true (by decide)
theorem sz11 : (11 ≤ sizeLine) = True := eq_true (by decide)
theorem szl11 : (11 < sizeLine) = True := eq_true (by decide)
theorem sz12 : (12 ≤ sizeLine) = True := eq_true (by decide)
theorem szl12 : (12 < sizeLine) = True := eq_true (by decide)
theorem sz13 : (13 ≤ sizeLine) = True := eq_true (by decide)
theorem szl13 : (13 < sizeLine) = True := eq_true (by decide)
theorem sz14 : (14 ≤ sizeLine) = True := eq_true (by decide)
theorem szl14 : (14 < sizeLine) = True := eq_true (by decide)
theorem sz15 : (15 ≤ sizeLine) = True := eq_true (by decide)
theorem szl15 : (15 < sizeLine) = True := eq_true (by decide)
theorem sz16 : (16 ≤ sizeLine) = True := eq_true (by decide)
theorem szl16 : (16 < sizeLine) = True := eq_true (by decide)
theorem sz17 : (17 ≤ sizeLine) = True := eq_true (by decide)
theorem szl17 : (17 < sizeLine) = True := eq_true (by decide)
theorem sz18 : (18 ≤ sizeLine) = True := eq_true (by decide)
theorem szl18 : (18 < sizeLine) = True := eq_true (by decide)
theorem sz19 : (19 ≤ sizeLine) = True := eq_true (by decide)
theorem szl19 : (19 < sizeLine) = True := eq_true (by decide)
theorem sz20 : (20 ≤ sizeLine) = True := eq_true (by decide)
theorem szl20 : (20 < sizeLine) = True := eq_true (by decide)
theorem sz21 : (21 ≤ sizeLine) = True := eq_true (by decide)
theorem szl21 : (21 < sizeLine) = True := eq_true (by decide)
theorem sz22 : (22 ≤ sizeLine) = True := eq_true (by decide)
theorem szl22 : (22 < sizeLine) = True := eq_true (by decide)
theorem sz23 : (23 ≤ sizeLine) = True := eq_true (by decide)
theorem szl23 : (23 < sizeLine) = True := eq_true (by decide)
theorem sz24 : (24 ≤ sizeLine) = True := eq_true (by decide)
theorem szl24 : (24 < sizeLine) = True := eq_true (by decide)
theorem sz25 : (25 ≤ sizeLine) = True := eq_true (by decide)
theorem szl25 : (25 < sizeLine) = True := eq_true (by decide)
theorem sz26 : (26 ≤ sizeLine) = True := eq_true (by decide)
theorem szl26 : (26 < sizeLine) = True := eq_true (by decide)
theorem sz27 : (27 ≤ sizeLine) = True := eq_true (by decide)
theorem szl27 : (27 < sizeLine) = True := eq_true (by decide)
theorem sz28 : (28 ≤ sizeLine) = True := eq_true (by decide)
theorem szl28 : (28 < sizeLine) = True := eq_true (by decide)
theorem sz29 : (29 ≤ sizeLine) = True := eq_true (by decide)
theorem szl29 : (29 < sizeLine) = True := eq_true (by decide)
theorem sz30 : (30 ≤ sizeLine) = True := eq_true (by decide)
theorem szl30 : (30 < sizeLine) = True := eq_true (by decide)
theorem sz31 : (31 ≤ sizeLine) = True := eq_true (by decide)
theorem szl31 : (31 < sizeLine) = True := eq_true (by decide)
theorem sz32 : (32 ≤ sizeLine) = True := eq_true (by decide)
theorem szl32 : (32 < sizeLine) = True := eq_true (by decide)
theorem sz33 : (33 ≤ sizeLine) = True := eq_true (by decide)
theorem szl33 : (33 < sizeLine) = True := eq_true (by decide)
theorem sz34 : (34 ≤ sizeLine) = True := eq_true (by decide)
theorem szl34 : (34 < sizeLine) = True := eq_true (by decide)
theorem sz35 : (35 ≤ sizeLine) = True := eq_true (by decide)
theorem szl35 : (35 < sizeLine) = True := eq_true (by decide)
theorem sz36 : (36 ≤ sizeLine) = True := eq_true (by decide)
theorem szl36 : (36 < sizeLine) = True := eq_true (by decide)
theorem sz37 : (37 ≤ sizeLine) = True := eq_true (by decide)
theorem szl37 : (37 < sizeLine) = True := eq_true (by decide)
theorem sz38 : (38 ≤ sizeLine) = True := eq_true (by decide)
theorem szl38 : (38 < sizeLine) = True := eq_true (by decide)
theorem sz39 : (39 ≤ sizeLine) = True := eq_true (by decide)
theorem szl39 : (39 < sizeLine) = True := eq_true (by decide)
theorem sz40 : (40 ≤ sizeLine) = True := eq_true (by decide)
theorem szl40 : (40 < sizeLine) = True := eq_true (by decide)
end Dn
end
section
set_option Elab.async false
set_option linter.all false
set_option maxRecDepth 100000
namespace Dn
noncomputable section
open PySem L2
def d__law_stream : DF := dFun 1 0 (sRet (dNew (lDisp (aCons (dN listP (aCons (dVar 0) aNil)) (aCons (dC (.int 0)) (aCons (dC (.int 0)) aNil))))))
def d__law_next : DF := dFun 2 3 (sSeq (sIf (dT (d2 eqP (d2 ixP (dVar 0) (dC (.int 1))) (dC (.int 0)))) (sSeq (sSet 2 (d2 ixP (dVar 0) (dC (.int 2))))
  (sSeq (sSet 3 (d2 addP (dC (.int 7)) (dVar 2)))
  (sSeq (sIf (dT (d2 ltP (dVar 2) (dN lenP (aCons (d2 ixP (dVar 0) (dC (.int 0))) aNil)))) (sSet 3 (dN absP (aCons (d2 ixP (d2 ixP (dVar 0) (dC (.int 0))) (dVar 2)) aNil))) sNext)
  (sSeq (sIf (dT (d2 ltP (dVar 3) (d2 powP (dC (.int 10)) (dC (.int 18))))) (sSeq (sSet 3 (d2 modP (dN intP (aCons (d2 addP (d2 addP (d2 mulP' (dVar 3) (dC (.int 48271))) (d2 mulP' (dVar 2) (dC (.int 69621)))) (dC (.int 11))) aNil)) (dC (.int 2147483647))))
  (sSet 3 (d2 addP (d2 mulP' (d2 modP (dN intP (aCons (d2 addP (d2 mulP' (dVar 3) (dC (.int 16807))) (dC (.int 13))) aNil)) (dC (.int 2147483647))) (dC (.int 65537))) (dVar 3)))) sNext)
  (sSeq (sSetR (dVar 0) (dC (.int 1)) (dVar 3))
  (sSetR (dVar 0) (dC (.int 2)) (d2 addP (dVar 2) (dC (.int 1))))))))) sNext)
  (sSeq (sSet 4 (d2 modP (dN intP (aCons (d2 ixP (dVar 0) (dC (.int 1))) aNil)) (dVar 1)))
  (sSeq (sSetR (dVar 0) (dC (.int 1)) (d2 fdivP (d2 ixP (dVar 0) (dC (.int 1))) (dVar 1)))
  (sRet (dVar 4)))))
def d__law_is_integer : DF := dFun 1 0 (sRet (dAndV (d1 (isiP "int") (dVar 0)) (dNotV (d1 (isiP "bool") (dVar 0)))))
def d__law_equal_f : Nat → DF
  | 0 => fun _ _ => .st
  | n + 1 => dFun 2 1 (sSeq (sIf (dT (d2 isNonP (dVar 1) (dC .non))) (sRet (d2 isNonP (dVar 0) (dC .non))) sNext)
  (sSeq (sIf (dTru (d1 (isiP "bool") (dVar 1))) (sRet (dAndV (d1 (isiP "bool") (dVar 0)) (d2 eqP (dVar 0) (dVar 1)))) sNext)
  (sSeq (sIf (dTru (d1 (isiP "int") (dVar 1))) (sRet (dAndV (dCall d__law_is_integer (aCons (dVar 0) aNil)) (d2 eqP (dVar 0) (dVar 1)))) sNext)
  (sSeq (sIf (dTru (d1 (isiP "str") (dVar 1))) (sRet (dAndV (d1 (isiP "str") (dVar 0)) (d2 eqP (dVar 0) (dVar 1)))) sNext)
  (sSeq (sIf (dAndT (dTru (d1 (isiP "tuple") (dVar 1))) (dNotT (dTru (d1 (isiP "tuple") (dVar 0))))) (sRet (dC (.bl false))) sNext)
  (sSeq (sIf (dAndT (dTru (d1 (isiP "list") (dVar 1))) (dNotT (dTru (d1 (isiP "list") (dVar 0))))) (sRet (dC (.bl false))) sNext)
  (sSeq (sIf (dT (d2 neP (dN lenP (aCons (dVar 0) aNil)) (dN lenP (aCons (dVar 1) aNil)))) (sRet (dC (.bl false))) sNext)
  (sRet (dN allP (aCons (dLs (lComp [2] (dItR (dN lenP (aCons (dVar 1) aNil))) (tgN 2) tTrue (dCall (d__law_equal_f n) (aCons (d2 ixP (dVar 0) (dVar 2)) (aCons (d2 ixP (dVar 1) (dVar 2)) aNil))))) aNil))))))))))
def d__law_equal : DF := d__law_equal_f 6
def d__law_pick : DF := dFun 2 0 (sRet (d2 ixP (dVar 1) (dCall d__law_next (aCons (dVar 0) (aCons (dN lenP (aCons (dVar 1) aNil)) aNil)))))
end
end Dn
end
section
set_option Elab.async false
set_option linter.all false
set_option maxRecDepth 100000
set_option maxHeartbeats 1000000
namespace Dn
open PySem L2 PySem.Spec PyProof.Rows
/-! ### is True, is False -/
section
variable {X : Cx}
end
end Dn
end
section
set_option Elab.async false
set_option linter.all false
set_option maxRecDepth 100000
set_option maxHeartbeats 1000000
namespace Dn
open PySem L2 PySem.Spec PyProof.Rows
/-! ### for k, v in d.items(), tuples as keys -/
section
variable {P : Program} {w : World} {K : PySem.W.Frag} {d : Addr} {o : Obj} {es : Array DictEntry} {ep : Nat}
end
/-! ### by values -/
end Dn
end
section
set_option Elab.async false
set_option linter.all false
set_option maxRecDepth 100000
set_option maxHeartbeats 1000000
namespace Dn
open PySem L2 PySem.Spec PyProof.Rows
/-! ### text * number -/
def repS (z : Str) (k : Int) : Str := if k < 1 then Str.empty else if (k == 1 || z.length == 0) = true then z else ⟨(List.replicate k.toNat z.cps).foldl (· ++ ·) #[]⟩
def strMulP : G2 := fun _ p q => match p, q with
  | .str z, .int k => if 1 ≤ k ∧ k ≤ 1000 ∧ z.length ≤ 1000 then some (.str (repS z k)) else none
  | _, _ => none
theorem rsz_len {α : Type} (a : Array α) : ∀ (k : Nat) (b : Array α), ((List.replicate k a).foldl (· ++ ·) b).size = b.size + k * a.size
  | 0, b => by simp
  | k + 1, b => by
    rw [List.replicate_succ, List.foldl_cons, rsz_len a k, Array.size_append, Nat.succ_mul]; omega
theorem rsz_le (k : Nat) (z : Str) (h : z.length * k ≤ sizeLine) : (⟨(List.replicate k z.cps).foldl (· ++ ·) #[]⟩ : Str).length ≤ sizeLine := by
  show ((List.replicate k z.cps).foldl (· ++ ·) #[]).size ≤ sizeLine
  rw [rsz_len]
  have : z.length = z.cps.size := rfl
  rw [this, Nat.mul_comm] at h
  simpa using h
theorem op_repS {X : Cx} : OpR X (binaryOp .Mult) (fun x y H Q => ∃ z k, x = V.str z ∧ y = V.int k ∧ 1 ≤ k ∧ k ≤ 1000 ∧ z.length ≤ 1000 ∧ Q (.str (repS z k)) H) := by
  intro pins s σ H x y v u Q I rx ry h
  obtain ⟨z, k, rfl, rfl, h1, h2, h3, q⟩ := h
  obtain ⟨t, rfl⟩ := rx
  obtain ⟨t', rfl⟩ := ry
  refine P.mul_str ?_ ?_ ?_ ?_
  · rw [decide_eq_false (by omega), decide_eq_false (by omega)]; rfl
  · intro _ _ hh
    have h4 : (1000 : Int) ≤ (2 ^ 63 - 1) / k := (Int.le_ediv_iff_mul_le (by omega)).mpr (by omega)
    omega
  · intro _ _
    unfold Builtin.Str.tooLong
    have h5 : z.length * k.toNat ≤ 1000 * 1000 := Nat.mul_le_mul h3 (by omega)
    rw [sizeLine_eq]
    exact decide_eq_false (by omega)
  · unfold repS at q
    rw [if_neg (by omega)] at q ⊢
    by_cases hk : (k == 1 || z.length == 0) = true
    · rw [if_pos hk] at q ⊢
      exact ⟨.str z, H, I, ⟨_, rfl⟩, q⟩
    · rw [if_neg hk] at q ⊢
      exact ⟨rsz_le k.toNat z (Nat.le_trans (Nat.mul_le_mul h3 (show k.toNat ≤ 1000 by omega)) (by decide)), .str _, H, I.tok _, ⟨_, rfl⟩, q⟩
theorem o_strMul {X : Cx} : O2 X (binaryOp .Mult) strMulP := by
  refine ⟨_, op_repS, fun lk F m S H x y p q res Q R rx ry h yl => ?_⟩
  unfold strMulP at h
  split at h
  · split at h
    · rename_i hh
      cases h; cases rx; cases ry
      exact ⟨_, _, rfl, rfl, hh.1, hh.2.1, hh.2.2, yl.here (.str _)⟩
    · cases h
  · cases h
end Dn
end
section
set_option Elab.async false
set_option linter.all false
set_option maxRecDepth 100000
set_option maxHeartbeats 1000000
namespace Dn
open PySem L2 PySem.Spec PyProof.Rows
/-! ### targets with targets in them -/
section
variable {k : Nat} {X : Cx} {c : Cfg} {pos : Pos}
end
end Dn
end
section
set_option Elab.async false
set_option linter.all false
set_option maxRecDepth 100000
set_option maxHeartbeats 1000000
namespace Dn
open PySem L2 PySem.Spec PyProof.Rows
/-! ### x.get(e, f), x a dict of its own name -/
section
variable {k : Nat} {X : Cx} {c : Cfg} {x : Str} {e f : Expr} {p1 apos cpos : Pos} {dk df : DE}
end
end Dn
end
section
set_option Elab.async false
set_option linter.all false
set_option maxRecDepth 100000
set_option maxHeartbeats 1000000
namespace Dn
open PySem L2 PySem.Spec PyProof.Rows
/-! ### enumerate of a tuple -/
def enGo (K : PySem.W.Frag) (a : Addr) (i : Nat) (H : Hp) : Prop := ∃ (xs : List V) (y : V), xs[i]? = some y ∧ SqT K H a xs
def enYl (K : PySem.W.Frag) (a : Addr) (i : Nat) (H : Hp) (v : V) (H2 : Hp) : Prop := ∃ (p : Addr) (y : V), H p = none ∧ v = .ref p ∧ H2 = upd H p (.tup [.int (i : Nat), y]) ∧ ∀ xs : List V, SqT K H a xs → xs[i]? = some y
def enSt (K : PySem.W.Frag) (a : Addr) (i : Nat) (H : Hp) : Prop := ∃ xs : List V, xs.length = i ∧ SqT K H a xs
def IteT (K : PySem.W.Frag) (a : Addr) : It := ⟨enGo K a, enYl K a, enSt K a⟩
set_option maxHeartbeats 2000000 in
theorem meets_enum1 {v : Value} {o : Obj} {H : Heap → Prop} (B : Begins v o H) :
    Meets (Builtin.«enumerate.__new__» ⟨[.type "enumerate", v], []⟩) (fun _ R s => H s.heap ∧
      R (.ok (.ret (.ref (s.heap.push o).objs.size))) { s with heap := (s.heap.push o).push { cls := .type "enumerate", data := .fields #[.none, .bool false, .ref s.heap.objs.size, rawInt 0, .none, .none] } }) :=
  .of_wp fun prog w A R s h => by
    obtain ⟨hp, g, d, tk, os⟩ := s; obtain ⟨h1, fin⟩ := h
    have hsub := sub_enumerate
    have it1 : ∀ {A' : Around} {E : Value → Shared → Prop} {Q : Value → Shared → Prop}, Q (.ref hp.objs.size) ⟨hp.push o, g, d, tk, os⟩ → wpAny (model prog w) A' (pyIter v) Q E ⟨hp, g, d, tk, os⟩ := fun z => B.iter prog w _ _ _ _ h1 z
    wp_walk using it1
    refine wpAny_stack_any fun st => wpAny_pure ?_
    split
    · rename_i c _ _ _ _ _
      cases (c == Value.type "enumerate")
      · wp_walk using it1
        exact ⟨_, rfl, fin⟩
      · wp_walk using it1
        exact ⟨_, rfl, fin⟩
    · wp_walk using it1
      exact ⟨_, rfl, fin⟩
theorem call_enum1 {prog : Program} {w : World} {A : Around} {E : Value → Shared → Prop} {s : Shared} {v : Value} {o : Obj} {H : Heap → Prop} {Q : Value → Shared → Prop} (B : Begins v o H) (h1 : H s.heap)
    (h : ∀ h2 : Heap, IsEnum h2 (s.heap.objs.size + 1) s.heap.objs.size 0 .none → h2.get? s.heap.objs.size = some o → (∀ c ob, s.heap.get? c = some ob → h2.get? c = some ob) → Q (.ref (s.heap.objs.size + 1)) { s with heap := h2 }) :
    wpAny (model prog w) A (call (.type "enumerate") [v]) Q E s := by
  refine callType_new F.called_enumerate (by decide) (F.typeCall_enumerate_1 _) (F.newCall_enumerate_1 _) (fun ob => F.args_object_init_2 ob _) F.entry_enumerate_new (meets_enum1 B) ⟨h1, ?_⟩
  have z1 : (s.heap.push o).objs.size = s.heap.objs.size + 1 := Heap.size_push ..
  show _ ∧ _
  rw [z1]
  have e1 := Heap.get?_push_size (s.heap.push o) (o := { cls := .type "enumerate", data := .fields #[.none, .bool false, .ref s.heap.objs.size, rawInt 0, .none, .none] }) rfl
  rw [z1] at e1
  exact ⟨⟨_, e1, rfl⟩, h _ e1 (Heap.get?_push_of_some _ (Heap.get?_push_size _ B.free)) fun c ob q => Heap.get?_push_of_some _ (Heap.get?_push_of_some _ q)⟩
theorem turn_enT {P : Program} {w : World} {K : PySem.W.Frag} {elts : List Expr} {kk : Nat} {tpos : Pos} (a e it : Addr) (ea : e ≠ a) (ia : a ≠ it) (ei : e ≠ it) :
    Turn P w K (.Tuple elts kk tpos) (IteT K a) [e, it] e (fun i h => h.IsTupleIter it a i ∧ ∃ x, IsEnum h e it ((i : Nat) : Int) x) where
  mem := List.mem_cons_self ..
  obj := fun i h ⟨⟨o, ho, hc, hd⟩, x, he⟩ b hb => by
    rcases List.mem_cons.mp hb with rfl | hb
    · exact ⟨_, he, fun v q => nomatch q⟩
    · rw [List.mem_singleton.mp hb]
      exact ⟨o, ho, fun v q => by rw [hd] at q; cases q⟩
  keep := fun i h h' ⟨hi, x, he⟩ k => ⟨hi.at fun o q => k it (List.mem_cons_of_mem _ (List.mem_cons_self ..)) o q, x, k e (List.mem_cons_self ..) _ he⟩
  item := by
    intro X hP hw hK hc i pins s σ H E I hf st hg
    subst hP hw hK
    obtain ⟨hit, old, he⟩ := st
    obtain ⟨xs, y, hx, hq⟩ := hg
    obtain ⟨its, rv, p, _⟩ := I.tuple hq
    obtain ⟨u, hu, ru⟩ := rv.get hx
    have lte : e < s.heap.objs.size := Heap.lt_size he
    have lti : it < s.heap.objs.size := by obtain ⟨_, q, _⟩ := hit; exact Heap.lt_size q
    have hlt : i < its.toArray.size := by
      have hu' := List.getElem?_eq_some_iff.mp hu
      obtain ⟨z, _⟩ := hu'
      simpa using z
    have hA : X.A.in1.handled = none := I.ok.hd hc
    refine wpAny_pyNext_enum_itemD (Draws.tuple hA it a ia its.toArray) he ⟨hit, p⟩ hlt ei (by simp [ei, ea]) fun x h' tk hP ho st2 hT _ hk => ?_
    have hx2 : x = u := by
      have hP : its.toArray[i]? = some x := hP
      rw [List.getElem?_toArray, hu] at hP
      exact (Option.some.inj hP).symm
    subst hx2
    refine ⟨_, rfl, wpAny_letOwnedTupleGo_enum (s := { s with heap := h', toks := tk + 1 }) ho fun h2 he2 sb => ?_⟩
    have hT2 : h2.get? s.heap.objs.size = some { cls := .type "tuple", data := .seq #[.int i tk, x] } := (sb.2 _ (Nat.ne_of_gt lte)).trans hT
    have new : ObjOk X.prog X.w (upd H s.heap.objs.size (.tup [.int (i : Nat), y])) h2 s.heap.objs.size (.tup [.int (i : Nat), y]) :=
      ⟨by show 2 ≤ sizeLine; decide, [.int i tk, x], .cons ⟨_, rfl⟩ (.cons ru .nil), _, hT2, rfl, _, rfl⟩
    have kp : ∀ b ob, b ∉ [e, it] → s.heap.get? b = some ob → h2.get? b = some ob := fun b ob hb q => by
      have nb : b ≠ e ∧ b ≠ it := by simpa using hb
      exact (sb.2 b nb.1).trans (hk b ob nb.1 nb.2 q)
    have I1 : Inv X pins σ (upd H s.heap.objs.size (.tup [.int (i : Nat), y])) { s with heap := h2, toks := tk + 1 } := I.turnedNew (ch := [e, it]) kp hf (Nat.le_refl _) new
    refine ⟨.ref s.heap.objs.size, _, I1, rfl, ⟨_, y, I.hok.fresh (Nat.le_refl _), rfl, rfl, fun ys hy => by rw [I.tuple_inj hy hq]; exact hx⟩, ⟨st2.1.at fun o q => (sb.2 it (Ne.symm ei)).trans q, x, ?_⟩, fun b hb => ?_⟩
    · rw [show ((i + 1 : Nat) : Int) = (i : Int) + 1 by omega]
      exact he2
    · have lb : b < s.heap.objs.size := by
        rcases List.mem_cons.mp hb with rfl | hb
        · exact lte
        · rw [List.mem_singleton.mp hb]; exact lti
      rw [upd_ne (Nat.ne_of_lt lb)]
      exact (hf b hb).1
  done := by
    intro X hP hw hK hc i pins s σ H E I hf st hg
    subst hP hw hK
    obtain ⟨hit, old, he⟩ := st
    obtain ⟨xs, hx, hq⟩ := hg
    obtain ⟨its, rv, p, _⟩ := I.tuple hq
    have hl := rv.length
    have hA : X.A.in1.handled = none := I.ok.hd hc
    have hn : i = its.toArray.size := by rw [List.size_toArray, ← hl, hx]
    subst hn
    obtain ⟨f0, f1, f2, f3, f4, f5⟩ := hf it (List.mem_cons_of_mem _ (List.mem_cons_self ..))
    exact wpAny_pyNext_enum_endD (Draws.tuple hA it a ia its.toArray) he ⟨hit, p⟩ fun h2 eb => ⟨rfl, I.turned (t' := s.toks) (fun b ob hb q => eb b ob hb q) f0 f1 f3 f4 f5⟩
  self := fun A i s Q E ⟨_, _, he⟩ h => wpAny_pyIter_enum he h
theorem walk_enT {K : PySem.W.Frag} {a : Addr} {xs : List V} : Walk (IteT K a) xs.length (fun H => SqT K H a xs) (YPair (fun i => some (.int (i : Nat))) (fun i => xs[i]?)) := by
  refine ⟨fun i _ hi q => ⟨xs, xs[i], by simp [hi], q⟩, fun _ q => ⟨xs, rfl, q⟩, fun i H v H' _ q y => ?_⟩
  obtain ⟨T, x, h2, h1, h3, h4⟩ := y
  exact ⟨T, .int (i : Nat), x, h1, h2, h3, rfl, h4 xs q⟩
/-- enumerate of a list or of a tuple -/
def iEnB (K : PySem.W.Frag) (ta : TA) : TI := fun σ H R => ta σ H fun vs H1 => ∃ a xs, vs = [.ref a] ∧ ((SqL K H1 a xs ∧ R (Ite K a) H1) ∨ (SqT K H1 a xs ∧ R (IteT K a) H1))
theorem pi_enB {X : Cx} {e : Expr} {ta : TA} {p pos tpos : Pos} {elts : List Expr} {kk : Nat} (hg : Gl X "enumerate") (hm : X.mg "enumerate" = none) (ha : PA X [e] ta) (hs : starEach [e] X.env = [(false, eval e X.env)]) :
    PI X (.Tuple elts kk tpos) (.Call (.Name "enumerate" p) [e] [] pos) (iEnB X.K ta) := by
  refine ⟨fun pins s σ H R I h => Call_ (ld_blt I hg hm boot_enumerate (PyProof.Rows.callWith_type1 (thn (ha.run pos pins s σ H _ I h) fun us s1 ⟨vs, H1, I1, r1, a, xs, ev, q1⟩ => ?_) hs rfl))⟩
  subst ev
  cases r1 with
  | cons r rr =>
    cases rr
    cases r
    have fr : ∀ c, c ∈ [s1.heap.objs.size + 1, s1.heap.objs.size] → FpOk X pins H1 c := fun c hc => by
      have hle : s1.heap.objs.size ≤ c := by
        rcases List.mem_cons.mp hc with z | z
        · rw [z]; exact Nat.le_add_right _ _
        · rw [List.mem_singleton.mp z]; exact Nat.le_refl _
      exact I1.fpOk hle (I1.hok.fresh hle)
    rcases q1 with ⟨hq, q⟩ | ⟨hq, q⟩
    · obtain ⟨its, rv, pl, _⟩ := I1.list hq
      refine call_enumerate_list pl.isList fun h2 he hit _ hk => wpAny_pyIter_enum he ?_
      exact ⟨s1.heap.objs.size + 1, [s1.heap.objs.size + 1, s1.heap.objs.size], _, _, H1, rfl, I1.kept (t' := s1.toks) hk, turn_enum a _ _, ⟨⟨.none, he⟩, hit, Nat.succ_ne_self _⟩, fr, q⟩
    · obtain ⟨its, rv, pl, _⟩ := I1.tuple hq
      have pl2 : s1.heap.IsTuple a its.toArray := pl
      have la : a < s1.heap.objs.size := pl.lt
      refine call_enum1 (begins_tuple a its.toArray) pl2 fun h2 he hit hk => wpAny_pyIter_enum he ?_
      exact ⟨s1.heap.objs.size + 1, [s1.heap.objs.size + 1, s1.heap.objs.size], _, _, H1, rfl, I1.kept (t' := s1.toks) hk, turn_enT a _ _ (Nat.ne_of_gt (Nat.lt_succ_of_lt la)) (Nat.ne_of_lt la) (Nat.succ_ne_self _), ⟨⟨_, hit, rfl, rfl⟩, .none, he⟩, fr, q⟩
def dItE2 (d : DE) : Den (List PV) := d.bind fun p => match p with
  | .lst xs => Den.pure (enPV xs)
  | .rol xs => Den.pure (enPV xs)
  | .tup xs => Den.pure (enPV xs)
  | .ftp xs => Den.pure (enPV xs)
  | _ => Den.fail
section
variable {k : Nat} {X : Cx} {c : Cfg} {e e2 : Expr} {de de2 : DE} {elts : List Expr} {kk : Nat} {tpos p pos : Pos}
theorem itR_enT {c : Cfg} {F : Hp} {m : List Addr} {a : Addr} {vs : List V} {ps : List PV} (hf : F a = some (.tup vs)) (r : RepL c.K F m vs ps) : ItR c (IteT c.K a) F m (enPV ps) := by
  have hl : (enPV ps).length = vs.length := by unfold enPV; rw [List.length_map, List.length_zipIdx, r.length]
  refine ⟨_, _, by rw [hl]; exact walk_enT (xs := vs), fun F' m' σ env S H R s p => SqT.of (R.r0.sub _ _ (s _ _ hf)).tup, fun F' m' σ env S H i x H' R s p hi y => ?_⟩
  obtain ⟨T, x1, x2, rfl, hT, rfl, h1, h2⟩ := y
  cases h1
  obtain ⟨q, hq, rq⟩ := r.getV h2
  obtain ⟨F3, p3, g1, g2, g3⟩ := pair_new R hT (Rep.int (i : Int)) (rq.mono s p)
  refine ⟨F3, p3, g1, ?_, g3⟩
  unfold enPV
  rw [List.getElem?_map, List.getElem?_zipIdx, hq, g2]
  simp
theorem itR_enF {c : Cfg} {F : Hp} {m : List Addr} {a : Addr} {ob : Obj} {vs : List V} {ps : List PV} (hf : F a = some (.frz ob (.tup vs))) (r : RepL c.K F m vs ps) : ItR c (IteT c.K a) F m (enPV ps) := by
  have hl : (enPV ps).length = vs.length := by unfold enPV; rw [List.length_map, List.length_zipIdx, r.length]
  refine ⟨_, _, by rw [hl]; exact walk_enT (xs := vs), fun F' m' σ env S H R s p => ftp_sq R.r0 (s _ _ hf), fun F' m' σ env S H i x H' R s p hi y => ?_⟩
  obtain ⟨T, x1, x2, rfl, hT, rfl, h1, h2⟩ := y
  cases h1
  obtain ⟨q, hq, rq⟩ := r.getV h2
  obtain ⟨F3, p3, g1, g2, g3⟩ := pair_new R hT (Rep.int (i : Int)) (rq.mono s p)
  refine ⟨F3, p3, g1, ?_, g3⟩
  unfold enPV
  rw [List.getElem?_map, List.getElem?_zipIdx, hq, g2]
  simp
theorem i_enum2 (hX : XOk k X c) (hg : Gl X "enumerate") (hm : X.mg "enumerate" = none) (ha : PE X e (rE c de)) (hs : starEach [e] X.env = (false, eval e X.env) :: starEach [] X.env := by rfl) (hs' : starEach [e] X.env = [(false, eval e X.env)] := by rfl) :
    PI X (.Tuple elts kk tpos) (.Call (.Name "enumerate" p) [e] [] pos) (rI c (dItE2 de)) := by
  refine PI.weak (pi_enB hg hm (pa_cons ha pa_nil hs) hs') fun σ H Q h => ?_
  obtain ⟨K, mg, F0, m0, H0, lk, W⟩ := c
  obtain rfl := hX.K
  obtain rfl := hX.mg
  refine (rI_of h).imp fun v H1 ⟨F1, m1, p, env, S, q1, r, h⟩ => ?_
  cases q1 with
  | lst hf q => exact ⟨_, _, rfl, .inl ⟨SqL.of (r.r0.sub _ _ hf).lst, h F1 m1 H1 _ r (Same.refl _) (List.prefix_refl _) (itR_enum (c := ⟨X.K, X.mg, F0, m0, H0, lk, W⟩) (SqL.of hf) q fun F' m' σ env S H R s => SqL.of (R.r0.sub _ _ (s _ _ hf)).lst)⟩⟩
  | rol hf q => exact ⟨_, _, rfl, .inl ⟨rol_sq r.r0 hf, h F1 m1 H1 _ r (Same.refl _) (List.prefix_refl _) (itR_enum (c := ⟨X.K, X.mg, F0, m0, H0, lk, W⟩) hf q fun F' m' σ env S H R s => rol_sq R.r0 (s.seq hf))⟩⟩
  | tup hf q => exact ⟨_, _, rfl, .inr ⟨SqT.of (r.r0.sub _ _ hf).tup, h F1 m1 H1 _ r (Same.refl _) (List.prefix_refl _) (itR_enT (c := ⟨X.K, X.mg, F0, m0, H0, lk, W⟩) hf q)⟩⟩
  | ftp hf e1 e2 q => exact ⟨_, _, rfl, .inr ⟨ftp_sq r.r0 hf, h F1 m1 H1 _ r (Same.refl _) (List.prefix_refl _) (itR_enF (c := ⟨X.K, X.mg, F0, m0, H0, lk, W⟩) hf q)⟩⟩
  | _ => exact (show False from h).elim
end
end Dn
end
section
set_option Elab.async false
set_option linter.all false
set_option maxRecDepth 100000
set_option maxHeartbeats 1000000
namespace Dn
open PySem L2 PySem.Spec PyProof.Rows
/-! ### zip of a list and a tuple -/
section
variable {k : Nat} {X : Cx} {c : Cfg} {e e2 : Expr} {de de2 : DE} {elts : List Expr} {kk : Nat} {tpos p pos : Pos}
end
end Dn
end
section
set_option Elab.async false
set_option linter.all false
set_option maxRecDepth 100000
set_option maxHeartbeats 1000000
namespace Dn
open PySem L2 PySem.Spec PyProof.Rows
/-! ### several names from a list -/
section
variable {k : Nat} {X : Cx} {c : Cfg} {pos : Pos} {e : Expr} {de : DE}
end
end Dn
end
section
set_option Elab.async false
set_option linter.all false
set_option maxRecDepth 100000
set_option maxHeartbeats 1000000
namespace Dn
open PySem L2 PySem.Spec PyProof.Rows
/-! ### comprehensions of dicts -/
section
variable {c : Cfg} {F F' H H' : Hp} {m m' : List Addr} {σ : St} {env env' : DEnv} {S S' : Stor}
end
theorem pD.mono {c : Cfg} {F F1 : Hp} {m m1 : List Addr} {σ : St} {Q : VK} {o : Out OD} (h : pD c F m σ Q o) (hs : Same F F1) (hm : m <+: m1) : pD c F1 m1 σ Q o := by
  cases o with
  | st => exact h
  | ok p env S => exact fun F' m' H a r s1 p1 => h F' m' H a r (hs.trans s1) (hm.trans p1)
  | ex x env S => exact fun F' m' H cls d r s1 p1 q => h F' m' H cls d r (hs.trans s1) (hm.trans p1) q
section
variable {i : Nat} {y : Str} {py spos : Pos} {k : Nat} {X : Cx} {c : Cfg} {kx vx tg iter : Expr} {ifs : List Expr} {scope : Scope} {own : List (Str × Nat)} {pos : Pos} {di : Den (List PV)} {is : List Nat} {g : PV → DEnv → Option DEnv} {dt : Den Bool} {dk dv : DE}
end
/-! ### len of a dict -/
end Dn
end
section
set_option Elab.async false
set_option linter.all false
set_option maxRecDepth 100000
set_option maxHeartbeats 1000000
namespace Dn
open PySem L2 PySem.Spec PyProof.Rows
/-! ### len(set(xs)), xs a list of ints -/
end Dn
end
section
set_option Elab.async false
set_option linter.all false
set_option maxRecDepth 100000
set_option maxHeartbeats 4000000
namespace Dn
open PySem L2 PySem.Spec PyProof.Rows
/-! ### sorted(set(xs)), xs a list of ints -/
section
variable {P : Program} {w : World} {A : Around} {E : Value → Shared → Prop} {s : Shared}
end

end Dn
end
section
set_option Elab.async false
set_option linter.all false
set_option maxRecDepth 100000
set_option maxHeartbeats 1000000
namespace Dn
open PySem L2 PySem.Spec PyProof.Rows
/-! ### exceptions of the program's own classes: raise, try -/
/-- self.f = v of a new exception -/
def spIni (K : PySem.W.Frag) (f : Str) : Sp := fun vs H Q _ => ∃ (a C : Addr) (v : V), vs = [.ref a, v] ∧ OexC K C ∧ PySem.W.findIn K (.ref C) f = some none ∧ H a = some (exo a C none) ∧
  ∀ dx, H dx = none → dx ≠ a → Q .non (upd (upd H dx (exd dx [(f, v)])) a (exo a C (some dx)))
theorem ini_len {K : PySem.W.Frag} {f : Str} {vs : List V} {H : Hp} {Q : VK} {E : XK} (h : spIni K f vs H Q E) : vs.length = 2 := by
  obtain ⟨a, C, v, rfl, _⟩ := h
  rfl
theorem ini_pure {K : PySem.W.Frag} {f x y : Str} {vs : List V} {H : Hp} {Q : VK} {E : XK} (h : spIni K f vs H Q E) : tOst K f (tVar 0) (tVar 1) { nx := fun _ H' => Q .non H', rt := Q } (L2.start [x, y] vs) H := by
  obtain ⟨a, C, v, rfl, T, hno, e, q⟩ := h
  exact ⟨_, rfl, _, rfl, a, C, rfl, T, hno, .inl ⟨e, q⟩⟩
/-- a class x of exceptions whose __init__ keeps its argument as f -/
structure ExOk (P : Program) (w : World) (K : PySem.W.Frag) (mg : Str → Option Value) (base : Heap) (x f : Str) : Prop where
  ex : ∃ (C fI : Addr) (fd : FuncData) (pn : Str), mg x = some (.ref C) ∧ OexC K C ∧ PySem.W.findIn K (.ref C) f = some none ∧ PySem.W.findIn K (.ref C) "__init__" = some (some (.ref fI)) ∧ PySem.W.typeIn K (.ref fI) = some (.type "function") ∧
    FnOk P w K mg base (L2.CX P w) 1 fI fd ["self", pn] (spIni K f) ∧ Binds K fd ["self", pn] []
/-- what is known of a caught class: does the clause take it, its fields -/
structure XcOk (K : PySem.W.Frag) (mg : Str → Option Value) (x : Str) (Ch : Addr) (b : Bool) (fs : List Str) : Prop where
  ex : ∃ C : Addr, mg x = some (.ref C) ∧ PySem.W.exmOne K (.ref C) (.ref Ch) = some b ∧ XfC K C ∧ ∀ f ∈ fs, PySem.W.findIn K (.ref C) f = some none

/-- what an except clause of the class C asks: the classes that may come -/
structure TryOk (K : PySem.W.Frag) (mg : Str → Option Value) (C : Str) (cs : List (Str × Bool)) (fs : List Str) : Prop where
  ex : ∃ Ch : Addr, mg C = some (.ref Ch) ∧ ∀ p ∈ cs, XcOk K mg p.1 Ch p.2 fs
/-- a statement within a class -/
def inCls (s : Stmt) (j : Nat) : Stmt := match s with
  | .ClassDef _ _ _ body .. => body.getD j (.Pass ⟨0, 0, 0, 0⟩)
  | _ => .Pass ⟨0, 0, 0, 0⟩

def sRaise (x f : Str) (d : DE) : DS := sE d fun p e s => .ex ⟨x, [(f, p)]⟩ e s
section
variable {k : Nat} {X : Cx} {c : Cfg}
theorem k_raise {x f : Str} {a : Expr} {da : DE} {p pos pos' : Pos} (hX : XOk k X c) (hk : 2 ≤ k) (tk : Takes X c.W) (B : ExOk X.prog X.w X.K X.mg X.base x f) (hg : Gl X x) (ha : PE X a (rE c da))
    (hdb : (x == ("__debug__" : Str)) = false := by decide) (he : starEach (a :: []) X.env = (false, eval a X.env) :: starEach [] X.env := by rfl) (hpl : (backTo pos (starEach [] X.env)).any (·.1) = false := by rfl) :
    PS X (.Raise (some (.Call (.Name x p) [a] [] pos)) none pos') (rS c (sRaise x f da)) := by
  obtain ⟨C, fI, fd, pn, hm, T, hno, iC, tI, F1, hb⟩ := B.ex
  refine PS.weak (ps_raise hX.calm tk (pmk_oex T iC tI F1 (hX.room.mono hk) hb .nil (passes_call tk fun _ _ _ _ z => z.elim) hg hm (pa_cons ha pa_nil he) hdb he hpl)) fun D σ H ⟨F, m, h⟩ => ?_
  refine (sE_of (R := fun K F m v p => Rep K F m v p) h).imp fun v H1 ⟨F1, m1, p, s1, p1, q1, env, S, r, h⟩ => ?_
  refine ⟨by show 1 ≤ 1000; decide, fun a hn => ⟨a, C, v, rfl, T, hno, upd_same, fun dx hd hne => ⟨rfl, dx, [(f, v)], upd_same, ?_, ?_, ?_⟩⟩⟩
  · rw [upd_ne hne]; exact upd_same
  · rw [upd_ne hne] at hd; exact hd
  · have hd1 : H1 dx = none := by rw [upd_ne hne] at hd; exact hd
    have e : upd (del (upd (upd (upd H1 a (exo a C none)) dx (exd dx [(f, v)])) a (exo a C (some dx))) a) dx (.xd [(f, v)]) = upd H1 dx (.xd [(f, v)]) := by
      funext b
      by_cases hbd : b = dx
      · rw [hbd, upd_same, upd_same]
      · rw [upd_ne hbd, upd_ne hbd]
        by_cases hba : b = a
        · rw [hba, del_same]; exact hn.symm
        · rw [del_ne hba, upd_ne hba, upd_ne hbd, upd_ne hba]
    rw [e]
    exact h F1 m1 σ _ (.ref C) (some dx) (r.ext (Ext.raw hd1)) (Same.refl _) (List.prefix_refl _) ⟨C, dx, [(f, v)], rfl, by rw [← hX.mg]; exact hm, rfl, upd_same, .cons q1 .nil⟩
end

/-! ### the configuration of an except suite -/
def sCfg (c : Cfg) (F : Hp) (m : List Addr) (dd : Addr) (vfs : List (Str × V)) : Cfg := ⟨c.K, c.mg, F, m, upd c.H0 dd (.xd vfs), c.lk, fun _ _ _ _ => False⟩
theorem RepF.get {K : PySem.W.Frag} {F : Hp} {m : List Addr} : ∀ {vs : List (Str × V)} {ps : List (Str × PV)} {f : Str} {p : PV}, RepF K F m vs ps → ps.lookup f = some p → ∃ v, vs.lookup f = some v ∧ Rep K F m v p
  | _, _, f, p, .nil, h => by cases h
  | _, _, f, p, .cons (k := k) (v := v) (p := p') r rs, h => by
    unfold List.lookup at h ⊢
    cases e : f == k with
    | true => rw [e] at h; cases h; exact ⟨v, by simp, r⟩
    | false => rw [e] at h; obtain ⟨w, h1, h2⟩ := RepF.get rs h; exact ⟨w, by simpa using h1, h2⟩
section
variable {c : Cfg} {F F2 H H2 : Hp} {m m2 : List Addr} {σ σ2 : St} {env env2 : DEnv} {S S2 : Stor} {dd : Addr} {vfs : List (Str × V)}
theorem Rel.reW {W : WX} (r : Rel c F m σ env S H) : Rel { c with W := W } F m σ env S H := ⟨r.r0, r.len, r.slot, r.ownd, r.ownf, r.old, r.newm, r.pre, r.frn, r.f0, r.lkh⟩
theorem Rel.unW {W : WX} (r : Rel { c with W := W } F m σ env S H) : Rel c F m σ env S H := ⟨r.r0, r.len, r.slot, r.ownd, r.ownf, r.old, r.newm, r.pre, r.frn, r.f0, r.lkh⟩
/-- the exception's dict is nothing that the relation speaks of -/
theorem Rel.xd_own (r : Rel c F m σ env S H) (e : H dd = some (.xd vfs)) : ∀ i, ¬ Own env σ i dd := fun i ⟨s, h1, h2, h3⟩ => by
  have hs := r.slot i s h1
  cases s with
  | un => cases h2
  | v p => cases h2
  | ol ps => obtain ⟨a', vs, e1, e2, _⟩ := hs; rw [h3] at e1; cases e1; rw [e] at e2; cases e2
  | od ps => obtain ⟨a', vs, e1, e2, _⟩ := hs; rw [h3] at e1; cases e1; rw [e] at e2; cases e2
  | ot ps => obtain ⟨a', vs, e1, e2, _⟩ := hs; rw [h3] at e1; cases e1; rw [e] at e2; cases e2
theorem R0.sto_kind {K : PySem.W.Frag} {mg : Str → Option Value} {lk : List Addr} (r : R0 K mg lk F m S H) {a : Addr} (ha : a ∈ m) : (∃ xs, H a = some (.lst xs)) ∨ ∃ C dx fs, H a = some (.ins C dx fs) := by
  obtain ⟨i, hi⟩ := List.mem_iff_getElem?.mp ha
  have hl : i < S.length := by rw [← r.len]; exact (List.getElem?_eq_some_iff.mp hi).1
  have q := r.sto i a _ hi (List.getElem?_eq_getElem hl)
  cases hs : S[i] with
  | lst xs => rw [hs] at q; obtain ⟨vs, e, _⟩ := q; exact .inl ⟨_, e⟩
  | ins C fs => rw [hs] at q; obtain ⟨_, _, _, _, e, _⟩ := q; exact .inr ⟨_, _, _, e⟩
theorem Rel.xd_m (r : Rel c F m σ env S H) (e : H dd = some (.xd vfs)) : dd ∉ m := fun hm => by
  rcases r.r0.sto_kind hm with ⟨xs, h⟩ | ⟨_, _, _, h⟩ <;> (rw [e] at h; cases h)
theorem Rel.toS (r : Rel c F m σ env S H) (e : H dd = some (.xd vfs)) : Rel (sCfg c F m dd vfs) F m σ env S H where
  r0 := r.r0
  len := r.len
  slot := r.slot
  ownd := r.ownd
  ownf := fun i a o => by
    obtain ⟨h1, h2, h3⟩ := r.ownf i a o
    refine ⟨h1, h2, ?_⟩
    show upd c.H0 dd _ a = none
    rw [upd_ne (fun (z : a = dd) => r.xd_own e i (z ▸ o))]
    exact h3
  old := fun a o ha hm => by
    have ha : upd c.H0 dd (.xd vfs) a = some o := ha
    have hm : a ∉ m := hm
    by_cases z : a = dd
    · subst z
      rw [upd_same] at ha; cases ha
      exact .inl e
    · rw [upd_ne z] at ha
      exact r.old a o ha fun w => hm (r.pre.subset w)
  newm := fun a ha hm => absurd ha hm
  pre := List.prefix_refl _
  frn := fun a h => .inl h
  f0 := Same.refl _
  lkh := fun a ha => by
    obtain ⟨ob, u, ea⟩ := r.r0.lkd a ha
    obtain ⟨_, ob', u', e0⟩ := r.lkh a ha
    refine ⟨fun (hm : a ∈ m) => ?_, ob', u', ?_⟩
    · rcases r.r0.sto_kind hm with ⟨xs, h⟩ | ⟨_, _, _, h⟩ <;> (rw [ea] at h; cases h)
    · show upd c.H0 dd _ a = _
      rw [upd_ne (fun (z : a = dd) => by rw [z, e] at ea; cases ea)]
      exact e0
theorem Rel.ofS (r : Rel c F m σ env S H) (e : H dd = some (.xd vfs)) (r2 : Rel (sCfg c F m dd vfs) F2 m2 σ2 env2 S2 H2) : Rel c F2 m2 σ2 env2 S2 H2 where
  r0 := r2.r0
  len := r2.len
  slot := r2.slot
  ownd := r2.ownd
  ownf := fun i a o => by
    obtain ⟨h1, h2, h3⟩ := r2.ownf i a o
    refine ⟨h1, h2, ?_⟩
    have h3 : upd c.H0 dd (.xd vfs) a = none := h3
    by_cases z : a = dd
    · rw [z, upd_same] at h3; cases h3
    · rw [upd_ne z] at h3; exact h3
  old := fun a o ha hm => by
    by_cases z : a = dd
    · subst z
      have h1 : o = .xd vfs := by
        rcases r.old a o ha hm with h | ⟨_, _, ob, h⟩
        · rw [e] at h; cases h; rfl
        · rw [e] at h; cases h
      rw [h1]
      exact r2.old a (.xd vfs) (show upd c.H0 a (.xd vfs) a = _ from upd_same) (r.xd_m e)
    · by_cases hm2 : a ∈ m
      · have := r.newm a hm2 hm
        rw [ha] at this; cases this
      · exact r2.old a o (show upd c.H0 dd (.xd vfs) a = _ by rw [upd_ne z]; exact ha) hm2
  newm := fun a ha hm => by
    by_cases hm2 : a ∈ m
    · exact r.newm a hm2 hm
    · have h3 : upd c.H0 dd (.xd vfs) a = none := r2.newm a ha hm2
      by_cases z : a = dd
      · rw [z, upd_same] at h3; cases h3
      · rw [upd_ne z] at h3; exact h3
  pre := r.pre.trans r2.pre
  frn := fun a h => by
    rcases r2.frn a h with h | h
    · exact r.frn a h
    · have h : IT (upd c.H0 dd (.xd vfs)) a := h
      by_cases z : a = dd
      · unfold IT at h
        rw [z, upd_same] at h
        rcases h with h | ⟨_, h⟩ <;> cases h
      · unfold IT at h
        rw [upd_ne z] at h
        exact .inr h
  f0 := r.f0.trans r2.f0
  lkh := r.lkh
/-- nothing more is known of a slot -/
theorem Rel.setU (r : Rel c F m σ env S H) (i : Nat) (v : Option V) : Rel c F m (σ.set i v) (env.set i .un) S H where
  r0 := r.r0
  len := by rw [List.length_set, List.length_set]; exact r.len
  slot := fun j s e => by
    rcases set_get e with ⟨rfl, rfl⟩ | ⟨ne, e⟩
    · trivial
    · rw [List.getElem?_set_ne (Ne.symm ne)]
      exact r.slot j s e
  ownd := fun j k a h1 h2 => by
    obtain ⟨s1, e1, o1, a1⟩ := h1
    obtain ⟨s2, e2, o2, a2⟩ := h2
    rcases set_get e1 with ⟨rfl, rfl⟩ | ⟨n1, e1⟩
    · cases o1
    rcases set_get e2 with ⟨rfl, rfl⟩ | ⟨n2, e2⟩
    · cases o2
    rw [List.getElem?_set_ne (Ne.symm n1)] at a1
    rw [List.getElem?_set_ne (Ne.symm n2)] at a2
    exact r.ownd j k a ⟨s1, e1, o1, a1⟩ ⟨s2, e2, o2, a2⟩
  ownf := fun j a h1 => by
    obtain ⟨s1, e1, o1, a1⟩ := h1
    rcases set_get e1 with ⟨rfl, rfl⟩ | ⟨n1, e1⟩
    · cases o1
    rw [List.getElem?_set_ne (Ne.symm n1)] at a1
    exact r.ownf j a ⟨s1, e1, o1, a1⟩
  old := r.old
  newm := r.newm
  pre := r.pre
  frn := r.frn
  f0 := r.f0
  lkh := r.lkh
end

/-! ### the words of an except suite: slot i holds the exception at a -/
def Sσ (i : Nat) (a : Addr) (σ : St) : Prop := i < σ.length → σ[i]? = some (some (.ref a))
def rX (c : Cfg) (i : Nat) (a : Addr) (d : DE) : TE := fun σ H Q => Sσ i a σ ∧ rE c d σ H Q
def rXA (c : Cfg) (i : Nat) (a : Addr) (d : Den (List PV)) : TA := fun σ H Q => Sσ i a σ ∧ rA c d σ H Q
def rXT (c : Cfg) (i : Nat) (a : Addr) (d : Den Bool) : TT := fun σ H Q => Sσ i a σ ∧ rT c d σ H Q
/-- .. what follows may rest on the slot -/
abbrev upE (i : Nat) (a : Addr) (D : Ends) : Ends := { D with nx := fun σ H => Sσ i a σ → D.nx σ H }
def rXS (c : Cfg) (i : Nat) (a : Addr) (d : DS) : TS := fun D σ H => Sσ i a σ ∧ rS c d (upE i a D) σ H
/-- e.f of the caught x -/
def dXf (x : Exc) (f : Str) : DE := Den.opt (x.fs.lookup f)
/-- what a suite's rules may know of the exception -/
structure XS (c : Cfg) (cls : Value) (d : Option Addr) (x : Exc) (fs : List Str) : Prop where
  ex : ∃ C dd vfs, cls = .ref C ∧ c.mg x.cls = some (.ref C) ∧ d = some dd ∧ c.H0 dd = some (.xd vfs) ∧ dd ∉ c.m0 ∧ RepF c.K c.F0 c.m0 vfs x.fs ∧ XfC c.K C ∧ ∀ f ∈ fs, PySem.W.findIn c.K (.ref C) f = some none
section
variable {X : Cx} {c : Cfg} {i : Nat} {a : Addr} {oe : Obj} {cls : Value} {d : Option Addr} {pn : List (Addr × Obj)} {x : Exc} {fs : List Str}
theorem x_of {e : Expr} {de : DE} (h : PE X e (rE c de)) : PE X e (rX c i a de) := PE.weak h fun _ _ _ ⟨_, h⟩ => h
theorem x_fld {n f : Str} {p pos : Pos} (hKm : X.K = c.K ∧ X.mg = c.mg) (hx : XS c cls d x fs) (hf : f ∈ fs) (hz : Zc cls d oe) (hd : ∃ vs, oe.data = .fields vs) (hi : X.N[i]? = some n) (hv : Vis X.env.scope n := by first | exact Or.inl rfl | exact Or.inr (Or.inl rfl) | exact Or.inr (Or.inr rfl))
    (h1 : (n == ("__debug__" : Str)) = false := by decide) (h2 : (n == ("__classdict__" : Str)) = false := by decide)
    (hb : attributeBase (.Name n p) f X.env (eval (.Name n p) X.env) = eval (.Name n p) X.env := by rfl) :
    PE (X.suite a ((a, oe) :: pn)) (.Attribute (.Name n p) f pos) (rX c i a (dXf x f)) := by
  obtain ⟨C, dd, vfs, ec, hmx, ed, e0, hm, rf, T, hno⟩ := hx.ex
  have hK := hKm.1
  refine ⟨fun pins s σ H Q I ⟨hσ, F, m, h⟩ => ?_⟩
  obtain ⟨p, hp, h⟩ := h.opt
  obtain ⟨env, S, r, h⟩ := h
  obtain ⟨v, hv1, rv⟩ := rf.get hp
  refine (pe_xf (by rw [hK]; exact T) (by rw [hK]; exact hno f hf) hz hd (pe_var (i := i) hi hv h1 h2) hb).run pins s σ H Q I ⟨.ref a, hσ ?_, rfl, ec, dd, vfs, v, ed, ?_, hv1, ?_⟩
  · have := I.len
    rw [this]
    exact (List.getElem?_eq_some_iff.mp hi).1
  · rcases r.old dd _ e0 hm with h | ⟨_, h, _⟩
    · exact h
    · exact h.elim
  · exact h F m H v r (Same.refl _) (List.prefix_refl _) (rv.mono r.f0 r.pre)
theorem xa_nil : PA X [] (rXA c i a aNil) := PA.weak a_nil fun _ _ _ ⟨_, h⟩ => h
theorem xa_cons {e : Expr} {es : List Expr} {da : DE} {dr : Den (List PV)} (ha : PE X e (rX c i a da)) (hr : PA X es (rXA c i a dr)) (hs : starEach (e :: es) X.env = (false, eval e X.env) :: starEach es X.env := by rfl) : PA X (e :: es) (rXA c i a (aCons da dr)) := by
  refine PA.weak (pa_cons ha hr hs) fun σ H Q ⟨hσ, F, m, h⟩ => ?_
  refine ⟨hσ, (rd_bind h).imp fun v H1 ⟨F1, m1, p, s1, p1, q1, h⟩ => ?_⟩
  refine ⟨hσ, (rd_bind h).imp fun w H2 ⟨F2, m2, q, s2, p2, q2, h⟩ => ?_⟩
  exact h.end0 (RepL.cons (q1.mono s2 p2) q2)
theorem x_tup {es : List Expr} {dr : Den (List PV)} {x1} {pos : Pos} (hr : PA X es (rXA c i a dr)) : PE X (.Tuple es x1 pos) (rX c i a (dTup dr)) := by
  refine PE.weak (pe_tup hr) fun σ H Q ⟨hσ, F, m, h⟩ => ?_
  refine ⟨hσ, (rd_bind h).imp fun v H1 ⟨F1, m1, p, s1, p1, q1, h⟩ => ?_⟩
  obtain ⟨hl, h⟩ := h.if_
  refine ⟨by rw [q1.length]; exact hl, fun a ha => ?_⟩
  obtain ⟨env, S, R⟩ := h.rel
  exact h.yl.new R.r0 ha trivial fun s => .tup upd_same (q1.mono s (List.prefix_refl _))
theorem x_ret {e : Expr} {de : DE} {pos : Pos} (he : PE X e (rX c i a de)) : PS X (.Return (some e) pos) (rXS c i a (sRet de)) := by
  refine PS.weak (ps_ret he) fun D σ H ⟨hσ, F, m, h⟩ => ?_
  refine ⟨hσ, (sE_of h).imp fun v H1 ⟨F1, m1, p, s1, p1, q1, env, S, r, h⟩ => ?_⟩
  exact h F1 m1 σ H1 v r (Same.refl _) (List.prefix_refl _) q1
theorem x_one {st : Stmt} {ds : DS} (h : PS X st (rXS c i a ds)) : PSs X [st] (rXS c i a ds) := pss_one h
end

/-! ### isinstance of the caught exception -/
theorem lookup_mem {α : Type} : ∀ {l : List (Str × α)} {x : Str} {b : α}, l.lookup x = some b → (x, b) ∈ l
  | [], _, _, h => by cases h
  | (y, c) :: l, x, b, h => by
    unfold List.lookup at h
    cases e : x == y with
    | true => rw [e] at h; cases h; rw [beq_iff_eq.mp e]; exact List.mem_cons_self ..
    | false => rw [e] at h; exact List.mem_cons_of_mem _ (lookup_mem h)
/-- what the class C must say, so that isinstance asks its instances rightly -/
structure XiC (K : PySem.W.Frag) (C : Addr) : Prop where
  cl : PySem.W.hasDictIn K C = true
  ga : PySem.W.findIn K (.ref C) "__getattribute__" = some (some (.builtin "BaseException.__getattribute__"))
  gg : PySem.W.findIn K (.ref C) "__getattr__" = some none
  ex : PySem.W.subIn K (.ref C) (.type "BaseException") = some true
  kl : PySem.W.findIn K (.ref C) "__class__" = some (some (.builtin "object.__class__"))
  gt : PySem.W.specialIn K (.builtin "object.__class__") "__get__" = some (some (.builtin "getset_descriptor.__get__"))
  tk : PySem.W.takesIn K (.builtin "object.__class__") = some true
  mo : PySem.W.mroIn K C (.type "object") = some true
/-- the answers of isinstance(.., cv), class by class -/
def IsT (K : PySem.W.Frag) (mg : Str → Option Value) (cv : Value) (tb : List (Str × Bool)) : Prop := ∀ p ∈ tb, ∃ C : Addr, mg p.1 = some (.ref C) ∧ PySem.W.kitOne K (.ref C) cv = some p.2 ∧ XiC K C
theorem kit_cls_own {K : PySem.W.Frag} {C D : Addr} {b : Bool} (hd : PySem.W.hasDictIn K D = true) (ht : PySem.W.typeIn K (.ref D) = some (.type "type")) (hs : PySem.W.subIn K (.ref C) (.ref D) = some b) : PySem.W.kitCls K (.ref C) (.ref D) = some b := by
  obtain ⟨cd, hc, _⟩ := PySem.W.any_some hd
  show (if ((PySem.W.clsIn K D).isSome && PySem.W.typeIn K (.ref D) == some (.type "type")) = true then PySem.W.subIn K (.ref C) (.ref D) else none) = some b
  rw [if_pos (by rw [hc, ht] <;> rfl)]
  exact hs
theorem kit_ownT {K : PySem.W.Frag} {C D : Addr} (hd : PySem.W.hasDictIn K D = true) (ht : PySem.W.typeIn K (.ref D) = some (.type "type")) (hs : PySem.W.subIn K (.ref C) (.ref D) = some true) : PySem.W.kitOne K (.ref C) (.ref D) = some true := by
  unfold PySem.W.kitOne
  split
  · rfl
  · exact kit_cls_own hd ht hs
structure IsOwn (K : PySem.W.Frag) (mg : Str → Option Value) (D : Str) (tb : List (Str × Bool)) : Prop where
  ex : ∃ C : Addr, mg D = some (.ref C) ∧ IsT K mg (.ref C) tb
def dXi (x : Exc) (tb : List (Str × Bool)) : DE := Den.opt ((tb.lookup x.cls).map .bl)
def rIsX (K : PySem.W.Frag) (D a dd : Addr) : List V → Hp → VK → Prop := fun xs H Q => ∃ (v : V) (cv : Value) (b : Bool) (fs : List (Str × V)), xs = [.ref a, v] ∧ (∀ u, RelV v u → u = cv) ∧ PySem.W.kitOne K (.ref D) cv = some b ∧ H dd = some (.xd fs) ∧ Q (.bl b) H
section
variable {X : Cx} {c : Cfg} {i : Nat} {a : Addr} {oe : Obj} {cls : Value} {d : Option Addr} {pn : List (Addr × Obj)} {x : Exc} {fs : List Str}
theorem call_isX {D dd : Addr} (C : XiC X.K D) (hz : Zc (.ref D) (some dd) oe) (hf : ∃ vs, oe.data = .fields vs) : CallR (X.suite a ((a, oe) :: pn)) (.builtin "isinstance") (rIsX X.K D a dd) := fun pins s σ H xs us Q I r h => by
  obtain ⟨v, cv, b, fs, rfl, hcv, e, hx, q⟩ := h
  match us, r with
  | [_, u], .cons rx (.cons rt .nil) =>
    have eu := hcv u rt
    obtain rfl := eu
    obtain rfl := rx
    have there := (I.pin (a, oe) (List.mem_append_left _ List.mem_cons_self)).1
    obtain ⟨vs, hv⟩ := hf
    obtain ⟨mA, hns, _⟩ : ObjOk X.prog X.w H s.heap dd (.xd fs) := I.hok dd _ hx
    obtain ⟨od, ho, _⟩ := lookIn_ns hns
    have J : PySem.W.InstAt s.heap a oe D (some od) := ⟨there, hz.1, by unfold PySem.W.notCls; rw [hv] <;> rfl, by rw [hz.2]; exact ho⟩
    have hcl : (PySem.W.clsIn X.K D).isSome = true := by
      obtain ⟨cd, hc, _⟩ := PySem.W.any_some C.cl
      rw [hc]; rfl
    exact PySem.W.kia_one (PySem.W.kitx_exc hcl C.ga C.gg C.ex C.kl C.gt C.tk C.mo) I.kIn J e (by intro z; cases z) fun tk => ⟨.bl b, H, I.kept (t' := tk) fun _ _ z => z, rfl, q⟩
theorem x_isi {n : Str} {v : V} {cv : Value} {tb : List (Str × Bool)} {e : Expr} {p p1 pos : Pos} (hKm : X.K = c.K ∧ X.mg = c.mg) (hx : XS c cls d x fs) (hT : IsT X.K X.mg cv tb) (hz : Zc cls d oe) (hd : ∃ vs, oe.data = .fields vs) (hi : X.N[i]? = some n)
    (hD : PE (X.suite a ((a, oe) :: pn)) e (tC v)) (hv : ∀ u, RelV v u → u = cv) (hg : Gl X "isinstance") (hm0 : X.mg "isinstance" = none)
    (he1 : starEach [.Name n p1, e] X.env = (false, eval (.Name n p1) X.env) :: starEach [e] X.env) (he2 : starEach [e] X.env = (false, eval e X.env) :: starEach [] X.env) (hpl : (backTo pos (starEach [e] X.env)).any (·.1) = false)
    (hvi : Vis X.env.scope n := by first | exact Or.inl rfl | exact Or.inr (Or.inl rfl) | exact Or.inr (Or.inr rfl)) (h1 : (n == ("__debug__" : Str)) = false := by decide) (h2 : (n == ("__classdict__" : Str)) = false := by decide) :
    PE (X.suite a ((a, oe) :: pn)) (.Call (.Name "isinstance" p) [.Name n p1, e] [] pos) (rX c i a (dXi x tb)) := by
  obtain ⟨C, dd, vfs, ec, hmx, ed, e0, hm, rf, T, hno⟩ := hx.ex
  subst ec ed
  refine ⟨fun pins s σ H Q I ⟨hσ, F, m, h⟩ => ?_⟩
  obtain ⟨q, hq, h⟩ := h.opt
  obtain ⟨b, hb, rfl⟩ := Option.map_eq_some_iff.mp hq
  obtain ⟨env, S, r, h⟩ := h
  obtain ⟨C2, hm2, hk, hXi⟩ := hT _ (lookup_mem hb)
  have eC : C2 = C := by
    have z := hm2
    rw [hKm.2] at z
    rw [z] at hmx
    exact Value.ref.inj (Option.some.inj hmx)
  subst eC
  refine (pe_callB (call_isX hXi hz hd) (show Gl (X.suite a ((a, oe) :: pn)) "isinstance" from hg) hm0 (by decide +kernel) (pa_cons (pe_var (i := i) hi hvi h1 h2) (pa_cons hD pa_nil he2) he1) (by decide) (by decide) he1 hpl).run pins s σ H Q I ⟨.ref a, hσ ?_, v, cv, b, vfs, rfl, hv, hk, ?_, ?_⟩
  · have := I.len
    rw [this]
    exact (List.getElem?_eq_some_iff.mp hi).1
  · rcases r.old dd _ e0 hm with h | ⟨_, h, _⟩
    · exact h
    · exact h.elim
  · exact h F m H _ r (Same.refl _) (List.prefix_refl _) (.bl b)
theorem x_isO {n D : Str} {tb : List (Str × Bool)} {p p1 p2 pos : Pos} (hKm : X.K = c.K ∧ X.mg = c.mg) (hx : XS c cls d x fs) (hI : IsOwn X.K X.mg D tb) (hz : Zc cls d oe) (hd : ∃ vs, oe.data = .fields vs) (hi : X.N[i]? = some n) (hg : Gl X "isinstance") (hm0 : X.mg "isinstance" = none) (hgD : Gl X D)
    (he1 : starEach [.Name n p1, .Name D p2] X.env = (false, eval (.Name n p1) X.env) :: starEach [.Name D p2] X.env := by rfl) (he2 : starEach [.Name D p2] X.env = (false, eval (.Name D p2) X.env) :: starEach [] X.env := by rfl) (hpl : (backTo pos (starEach [.Name D p2] X.env)).any (·.1) = false := by rfl)
    (hvi : Vis X.env.scope n := by first | exact Or.inl rfl | exact Or.inr (Or.inl rfl) | exact Or.inr (Or.inr rfl)) (h1 : (n == ("__debug__" : Str)) = false := by decide) (h2 : (n == ("__classdict__" : Str)) = false := by decide) (h3 : (D == ("__debug__" : Str)) = false := by decide) :
    PE (X.suite a ((a, oe) :: pn)) (.Call (.Name "isinstance" p) [.Name n p1, .Name D p2] [] pos) (rX c i a (dXi x tb)) := by
  obtain ⟨C, hC, hT⟩ := hI.ex
  exact x_isi hKm hx hT hz hd hi (pe_glob (v := .ref C) (show Gl (X.suite a ((a, oe) :: pn)) D from hgD) hC rfl h3) (fun u r => r) hg hm0 he1 he2 hpl hvi h1 h2
/-- .. as a test -/
theorem xt_bool {e : Expr} {t : Option Bool} (h : PE X e (rX c i a (Den.opt (t.map .bl)))) (he : ∀ whole, isTrue e X.env whole = (do let v ← whole; standAt e.pos; holding [v] (truthy v)) := by intro _; rfl) : PT X e (rXT c i a (Den.opt t)) := by
  refine PT.weak (pt_truth h he) fun σ H Q ⟨hσ, F, m, h⟩ => ⟨hσ, F, m, ?_⟩
  obtain ⟨b, rfl, h⟩ := h.opt
  obtain ⟨env, S, r, h⟩ := h
  refine ⟨env, S, r, ?_⟩
  intro F' m' H' v r' s' p' q'
  cases q'
  exact ⟨b, rfl, h F' m' H' b r' s' p' rfl⟩
theorem x_ife {e ea eb : Expr} {t : Den Bool} {da db : DE} {pos : Pos} (hc : PT X e (rXT c i a t)) (ha : PE X ea (rX c i a da)) (hb : PE X eb (rX c i a db)) : PE X (.IfExp e ea eb pos) (rX c i a (dIf t da db)) := by
  refine PE.weak (pe_ifExp hc ha hb) fun σ H Q ⟨hσ, F, m, h⟩ => ?_
  refine ⟨hσ, (rd_bind h).imp fun v H1 ⟨F1, m1, p, s1, p1, q1, h⟩ => ?_⟩
  cases q1
  cases v with
  | true => exact ⟨hσ, h.rd⟩
  | false => exact ⟨hσ, h.rd⟩
end

/-! ### try: b, except C as n: su -/
/-! ### tuple(range(n)) -/
/-! ### list(x), a new list -/
/-! ### what is never asked -/
end Dn
end
section
set_option Elab.async false
set_option linter.all false
set_option maxRecDepth 100000
set_option maxHeartbeats 1000000
namespace Dn
open PySem L2 PySem.Spec PyProof.Rows
end Dn
end
section
set_option Elab.async false
set_option linter.all false
set_option maxRecDepth 100000
set_option maxHeartbeats 1000000
namespace Dn
open PySem L2 PySem.Spec PyProof.Rows
/-! ### tuples that are known to have no dict: made by tuple(l); their methods -/
section
variable {X : Cx}
end
section
variable {k : Nat} {X : Cx} {c : Cfg} {o e : Expr} {apos cpos : Pos} {da dk : DE}
end
/-! ### in a list that no one else knows -/
section
variable {k : Nat} {X : Cx} {c : Cfg} {e : Expr} {p1 pos : Pos} {da : DE} {x : Str}
end
/-! ### a list and a list, a new list -/
def lAdd (da db : DE) : Den (List PV) := (aCons da (aCons db aNil)).bind fun ps => Den.opt (match ps with
  | [.lst xs, .lst ys] => if xs.length + ys.length ≤ sizeLine then some (xs ++ ys) else none
  | _ => none)
theorem o_addL {k : Nat} {X : Cx} {c : Cfg} {a b : Expr} {da db : DE} {pos : Pos} (hX : XOk k X c) (ha : PE X a (rE c da)) (hb : PE X b (rE c db)) : PE X (.BinOp a .Add b pos) (rO c (lAdd da db)) := by
  refine PE.weak (pe_op op_cat ha hb) fun σ H Q h => ?_
  have h := (o_of (R := fun K F m v p => RepL K F m v p) h)
  refine (ra_cons h).imp fun x H1 h => ?_
  refine (ra_cons h).imp fun y H2 h => ?_
  obtain ⟨F1, m1, p, env, S, ps, q, r, hg, h9⟩ := ra_nil h
  split at hg
  · split at hg
    · rename_i hh
      cases hg
      cases q with
      | cons q1 q2 =>
        cases q2 with
        | cons q2 q3 =>
          cases q3
          cases q1 with
          | lst hf rl =>
            cases q2 with
            | lst hg rm =>
              exact ⟨_, _, _, _, rfl, rfl, (r.r0.sub _ _ hf).lst, (r.r0.sub _ _ hg).lst, by rw [rl.length, rm.length]; exact hh, fun d hd => h9 d _ hd (rl.append rm)⟩
    · cases hg
  · cases hg
end Dn
end
section
set_option Elab.async false
set_option linter.all false
set_option maxRecDepth 100000
namespace Dn
noncomputable section
open PySem L2
end
end Dn
end
section
set_option Elab.async false
set_option linter.all false
set_option maxRecDepth 100000
set_option maxHeartbeats 1000000
namespace Dn
open PySem L2
/-! ### slices of frozen tuples: the whole is the tuple itself, a part is a new one -/
section
variable {k : Nat} {X : Cx} {c : Cfg} {e : Expr} {lo hi : Option Expr} {da : DE} {dl dh : Den (Option Int)} {p2 pos : Pos}
end
end Dn
end
section
set_option Elab.async false
set_option linter.all false
set_option maxRecDepth 100000
set_option maxHeartbeats 1000000
namespace Dn
open PySem L2 PySem.Spec PyProof.Rows
/-! ### [.. for .. for x in range(..)] -/
theorem PI.ex {X : Cx} {tg e : Expr} {ι : Type} {t : ι → TI} (h : ∀ i, PI X tg e (t i)) : PI X tg e (fun σ H Q => ∃ i, t i σ H Q) := ⟨fun pins s σ H Q I ⟨i, q⟩ => (h i).run pins s σ H Q I q⟩
end Dn
end
section
set_option Elab.async false
set_option linter.all false
set_option maxRecDepth 100000
set_option maxHeartbeats 1000000
namespace Dn
open PySem L2 PySem.Spec PyProof.Rows
/-! ### x.setdefault(e, f), x a dict of its own name, ints and texts as keys -/
section
variable {k : Nat} {X : Cx} {c : Cfg} {x : Str} {e f : Expr} {p1 apos cpos : Pos} {dk df : DE}
end
end Dn
end
section
set_option Elab.async false
set_option linter.all false
set_option maxRecDepth 100000
set_option maxHeartbeats 1000000
namespace Dn
open PySem L2 PySem.Spec PyProof.Rows
/-! ### x, y = a, b and x, y, z = a, b, c: the stores are swapped -/
section
variable {k : Nat} {X : Cx} {cf : Cfg} {dr : Den (List PV)} {x y z : Str} {a b c : Expr} {px py pz pt pos : Pos} {kt k2 : Nat} {pt2 : Pos}
end
end Dn
end
section
set_option Elab.async false
set_option linter.all false
set_option maxRecDepth 100000
set_option maxHeartbeats 1000000
namespace Dn
open PySem L2 PySem.Spec PyProof.Rows
/-! ### sorted(t), t a tuple of ints -/
end Dn
end
section
set_option Elab.async false
set_option linter.all false
set_option maxRecDepth 100000
set_option maxHeartbeats 1000000
namespace L2
open PySem PySem.Spec PyProof.Rows
/-! several except clauses, each with a name of its own -/
def wManyA (K : PySem.W.Frag) (Wout : WX) (D : Ends) : List (Value × Nat × (Addr → Value → Option Addr → TS)) → WX
  | [] => Wout
  | (c, i, ts) :: r => fun cls d σ H => ∃ b, PySem.W.exmOne K cls c = some b ∧
      (b = true → ∀ a, H a = none → ts a cls d { nx := fun σ' H' => D.nx (σ'.set i none) H', rt := D.rt, bk := fun σ' H' => D.bk (σ'.set i none) H', ct := fun σ' H' => D.ct (σ'.set i none) H' } (σ.set i (some (.ref a))) H) ∧
      (b = false → wManyA K Wout D r cls d σ H)
inductive HdsA (X : Cx) : List ExceptHandler → List (Value × Nat × (Addr → Value → Option Addr → TS)) → Prop
  | nil : HdsA X [] []
  | cons {x n : Str} {i : Nat} {c : Value} {ts : Addr → Value → Option Addr → TS} {b₀ : Stmt} {suite : List Stmt} {np pos' : Pos} {hds : List ExceptHandler} {l : List (Value × Nat × (Addr → Value → Option Addr → TS))} (hc : Names X x c)
      (hi : X.N[i]? = some n) (hln : X.env.kindOf n = some .local)
      (hsu : ∀ (a : Addr) (oe : Obj) (cls : Value) (d : Option Addr) (pn : List (Addr × Obj)), Zc cls d oe → (∃ vs, oe.data = .fields vs) → PSs (X.suite a ((a, oe) :: pn)) (b₀ :: suite) (ts a cls d)) (r : HdsA X hds l) :
      HdsA X (.ExceptHandler (some (.Name x np)) (some n) (b₀ :: suite) pos' :: hds) ((c, i, ts) :: l)
section
variable {X : Cx} {body : List Stmt} {h₀ : ExceptHandler} {hds : List ExceptHandler} {l : List (Value × Nat × (Addr → Value → Option Addr → TS))} {pos : Pos} {tb : WX → TS} {Wout : WX}
theorem ps_try_manyA (hs : X.stack = X.env :: X.outer) (hf : X.env.frame = some X.env.locals) (hN : X.N.Nodup) (tk : Takes X Wout)
    (hb : ∀ (W : WX) (pn : List (Addr × Obj)) (xe : Value → Shared → Prop), Takes (X.tr pn xe) W → PassesOwn (model X.prog X.w) X.A X.env xe → PSs (X.tr pn xe) body (tb W))
    (hh : HdsA X (h₀ :: hds) l) : PS X (.Try body (h₀ :: hds) [] [] pos) (fun D σ H => tb (wManyA X.K Wout D l) D σ H) := by
  refine ⟨fun pins s σ H D I h => ?_⟩
  have ok := I.ok
  have hfr : X.A.frames = some (X.env :: X.outer) := by rw [ok.frames, hs]
  refine wpAny_Try_except ?_
  refine wpAny_mono ((hb (wManyA X.K Wout D l) (X.pn ++ pins) (fun e s₁ => wpAny (model X.prog X.w) X.A (noteFrame e X.env) (fun _ s₂ => wpAny (model X.prog X.w) X.A (setFlight e none) (fun _ s₃ =>
    wpAny (model X.prog X.w) X.A (handleBy e X.env (h₀ :: hds)) (SP X pins D) X.xe s₃) X.xe s₂) X.xe s₁) (fun u s' xx => ?_) PassesOwn.looking).run [] s σ H D (I.toTry _) h) (fun f s1 hsp => ?_) (fun e s1 he => he)
  · -- the catch
    obtain ⟨a, B, sI, pins', σ', H', cls, d, rfl, J', nb, up, sky, na, os, ag, w⟩ := xx
    have J : Inv X pins σ' H' sI := J'.ofTry ok
    have sky' : Sky B (X.env :: X.outer) a (Zc cls d) X.env.locals s'.heap := by rw [← hs]; exact sky
    show wpAny (model X.prog X.w) X.A (noteFrame (.ref a) X.env) _ _ _
    refine Sky.land Zc.steady hfr hf sky' fun h3 fl3 up3 => ?_
    have J3 : Inv X pins σ' H' { s' with heap := h3 } := J.landed nb fl3.1 (up.trans up3) os ag
    obtain ⟨oe3, vs3, he3, hz3, hd3⟩ := fl3.there
    have notFr : ∀ {h : Heap} {o : Obj} {vs : Array Value}, h.FunFrames B (X.env :: X.outer) → h.get? a = some o → o.data = .fields vs → a ∉ frs (X.env :: X.outer) := fun {h o vs} ff e dd hm => by
      obtain ⟨_, o', e', hnf⟩ := ff.mem hm
      rw [e] at e'; cases e'
      exact hnf _ dd
    have nfr := notFr fl3.2.2.1 he3 hd3
    have nL : a ≠ X.env.locals := fun z => nfr (List.mem_filterMap.mpr ⟨X.env, List.mem_cons_self, by rw [hf, z]⟩)
    have nF : a ∉ X.fs := fun hm => by
      obtain ⟨e, he, q⟩ := List.mem_filterMap.mp hm
      exact nfr (List.mem_filterMap.mpr ⟨e, List.mem_cons_of_mem _ he, q⟩)
    have S3 := J3.suite he3 hd3 na nL nF
    have go : ∀ {hds' : List ExceptHandler} {l' : List (Value × Nat × (Addr → Value → Option Addr → TS))}, HdsA X hds' l' → wManyA X.K Wout D l' cls d σ' H' →
        wpAny (model X.prog X.w) X.A (handleBy (.ref a) X.env hds') (SP X pins D) X.xe { s' with heap := h3 } := by
      intro hds' l' hk
      induction hk with
      | nil =>
        intro w
        refine wpAny_handleBy_nil ?_
        obtain ⟨k1, k2, k3, oe, vs, T, oT, ts', he, hz, hd, h1, hr⟩ := id fl3
        unfold PySem.passOn
        refine wpAny_bind (wpAny_field he hd h1 ?_)
        rw [if_neg (show ¬ ((Value.ref T == Value.none) = true) from by simp)]
        have fin : wpAny (model X.prog X.w) X.A (setFlight (.ref a) X.env.frame) (fun _ s4 => wpAny (model X.prog X.w) X.A (throw (.ref a) : Sem Flow) (SP X pins D) X.xe s4) X.xe { s' with heap := h3 } := by
          rw [hf]
          refine HandSPX.setFlight_upZ fl3 fun h4 hh4 up4 => wpAny_throw (tk _ _ ?_)
          exact ⟨a, B, sI, pins, σ', H', cls, d, rfl, J, nb, (up.trans up3).trans up4, .inr (.inr (by rw [hs]; exact hh4)), na, os, ag, w⟩
        first
          | exact wpAny_bind (wpAny_pure (wpAny_bind fin))
          | exact wpAny_bind fin
      | @cons x n i c ts b₀ suite np pos' hds2 l2 hc hi hln hsu r ih =>
        have hloc : Loc X.env.scope n := .inl hln
        intro w
        obtain ⟨b, hb1, hyes, hno⟩ := w
        refine wpAny_handleBy_cons (codeAny_handlers_test ?_) (by intro q; cases q)
        have LT : PySem.W.Looks (model X.prog X.w) h3 (typeOf (.ref a)) cls := fun A Q E s k q => wpAny_typeOf_ref (k _ _ he3) (by rw [hz3.1]; exact q)
        have LM := PySem.W.exm_one (M := model X.prog X.w) (J3.kIn) LT hb1
        have test : ∀ {Q : Value → Shared → Prop} {E : Value → Shared → Prop}, Q c { s' with heap := h3 } → wpAny (model X.prog X.w) (X.A.mark (some (.ref a))) (eval (.Name x np) X.env) Q E { s' with heap := h3 } := fun {Q E} q => by
          obtain ⟨hg, hdbg, hm | ⟨hm, hv, hnn⟩⟩ := hc
          · exact ld_glob (X := X.suite a ((a, oe3) :: (X.pn ++ pins))) S3 hg hm q hdbg
          · exact ld_blt (X := X.suite a ((a, oe3) :: (X.pn ++ pins))) S3 hg hm hv q hnn hdbg
        refine test (LM.here ?_)
        cases b with
        | true =>
          refine codeAny_handlers_suite_as ?_
          refine HandSPX.lands_againZ fl3 fun h4 fl4 up4 => ?_
          have J4 : Inv X pins σ' H' { s' with heap := h4 } := J.landed nb fl4.1 ((up.trans up3).trans up4) os ag
          obtain ⟨oe4, vs4, he4, hz4, hd4⟩ := fl4.there
          have S4 := J4.suite he4 hd4 na nL nF
          refine store_ok (X := X.suite a ((a, oe4) :: (X.pn ++ pins))) (v := .ref a) S4 hN hi hloc rfl (fun s5 S5 => ?_) (.inr hln)
          refine wpAny_mono ((hsu a oe4 cls d (X.pn ++ pins) hz4 ⟨_, hd4⟩).run [] s5 _ H' _ S5 (hyes rfl a na)) (fun f s6 hsp => ?_) (fun _ _ z => False.elim z)
          have end_ : ∀ {σ6 : St} {H6 : Hp} {Q : Shared → Prop}, Inv (X.suite a ((a, oe4) :: (X.pn ++ pins))) [] σ6 H6 s6 → (∀ s7, Inv X pins (σ6.set i none) H6 s7 → Q s7) →
              wpAny (model X.prog X.w) X.A (do bindName X.env n .none; unbindBehindTheSuite X.env n pos') (fun _ s7 => Q s7) X.xe s6 := fun {σ6 H6 Q} S6 hq => gone_ok (S6.unsuite ok) hN hi hln hq
          cases f with
          | next =>
            obtain ⟨σ6, H6, S6, q6⟩ := hsp
            exact end_ S6 fun s7 J7 => ⟨_, _, J7, q6⟩
          | brk =>
            obtain ⟨σ6, H6, S6, q6⟩ := hsp
            exact end_ S6 fun s7 J7 => ⟨_, _, J7, q6⟩
          | cont =>
            obtain ⟨σ6, H6, S6, q6⟩ := hsp
            exact end_ S6 fun s7 J7 => ⟨_, _, J7, q6⟩
          | ret u =>
            obtain ⟨v6, σ6, H6, S6, r6, q6⟩ := hsp
            exact end_ S6 fun s7 J7 => ⟨_, _, _, J7, r6, q6⟩
        | false =>
          show wpAny _ X.A (handleBy (.ref a) X.env hds2) _ _ _
          exact ih (hno rfl)
    exact go hh w
  · cases f with
    | next =>
      obtain ⟨σ', H', J', q⟩ := hsp
      exact wpAny_execs_nil ⟨σ', H', J'.ofTry ok, q⟩
    | brk =>
      obtain ⟨σ', H', J', q⟩ := hsp
      exact ⟨σ', H', J'.ofTry ok, q⟩
    | cont =>
      obtain ⟨σ', H', J', q⟩ := hsp
      exact ⟨σ', H', J'.ofTry ok, q⟩
    | ret u =>
      obtain ⟨v, σ', H', J', r, q⟩ := hsp
      exact ⟨v, σ', H', J'.ofTry ok, r, q⟩
end
end L2
namespace Dn
open PySem L2 PySem.Spec PyProof.Rows
/-! ### try: b, except C as n: su, except C2 as n2: su2 -/
/-- a clause's suite, its name unbound behind it -/
def sHd (i : Nat) (su : Exc → DS) (x : Exc) : DS := fun e1 S1 => match su x (e1.set i .un) S1 with
  | .nx e2 S2 => .nx (e2.set i .un) S2
  | .bk e2 S2 => .bk (e2.set i .un) S2
  | .ct e2 S2 => .ct (e2.set i .un) S2
  | .rt p e2 S2 => .rt p e2 S2
  | _ => .st
def sTry2 (cs : List (Str × Bool)) (i : Nat) (ct : List (Str × Bool)) (j : Nat) (b : DS) (su sv : Exc → DS) : DS := fun e S => match b e S with
  | .ex x e1 S1 => match cs.lookup x.cls with
    | some true => sHd i su x e1 S1
    | some false => match ct.lookup x.cls with
      | some true => sHd j sv x e1 S1
      | some false => .ex x e1 S1
      | none => .st
    | none => .st
  | o => o
theorem k_try2 {k : Nat} {X : Cx} {c : Cfg} {C n C' n' : Str} (i : Nat) (cs : List (Str × Bool)) (j : Nat) (ct : List (Str × Bool)) (fs : List Str) {body suite suite' : List Stmt} {b₀ b₀' : Stmt} {np pos pos' np' pos2' : Pos} {b : DS} {su sv : Exc → DS} (hX : XOk k X c) (tk : Takes X c.W) (HT : TryOk X.K X.mg C cs fs) (hg : Gl X C) (hi : X.N[i]? = some n) (HT' : TryOk X.K X.mg C' ct fs) (hg' : Gl X C') (hj : X.N[j]? = some n') (hs : X.stack = X.env :: X.outer) (hf : X.env.frame = some X.env.locals) (hln : X.env.kindOf n = some .local) (hln' : X.env.kindOf n' = some .local)
    (hb : ∀ (W : WX) (pn : List (Addr × Obj)) (xe : Value → Shared → Prop), XOk k (X.tr pn xe) { c with W := W } → Takes (X.tr pn xe) W → PSs (X.tr pn xe) body (rS { c with W := W } b))
    (hsu : ∀ (a : Addr) (oe : Obj) (cls : Value) (d : Option Addr) (pn : List (Addr × Obj)) (c' : Cfg) (x : Exc), X.K = c'.K ∧ X.mg = c'.mg → Zc cls d oe → (∃ vs, oe.data = .fields vs) → XS c' cls d x fs → PSs (X.suite a ((a, oe) :: pn)) (b₀ :: suite) (rXS c' i a (su x)))
    (hsv : ∀ (a : Addr) (oe : Obj) (cls : Value) (d : Option Addr) (pn : List (Addr × Obj)) (c' : Cfg) (x : Exc), X.K = c'.K ∧ X.mg = c'.mg → Zc cls d oe → (∃ vs, oe.data = .fields vs) → XS c' cls d x fs → PSs (X.suite a ((a, oe) :: pn)) (b₀' :: suite') (rXS c' j a (sv x)))
    (hdb : (C == ("__debug__" : Str)) = false := by decide) (hdb' : (C' == ("__debug__" : Str)) = false := by decide) :
    PS X (.Try body [.ExceptHandler (some (.Name C np)) (some n) (b₀ :: suite) pos', .ExceptHandler (some (.Name C' np')) (some n') (b₀' :: suite') pos2'] [] [] pos) (rS c (sTry2 cs i ct j b su sv)) := by
  obtain ⟨Ch, hm, hcs⟩ := HT.ex
  obtain ⟨Ch', hm', hct⟩ := HT'.ex
  have hsuite : ∀ (i : Nat) (su : Exc → DS) (b₀ : Stmt) (suite : List Stmt) (hsu : ∀ (a : Addr) (oe : Obj) (cls : Value) (d : Option Addr) (pn : List (Addr × Obj)) (c' : Cfg) (x : Exc), X.K = c'.K ∧ X.mg = c'.mg → Zc cls d oe → (∃ vs, oe.data = .fields vs) → XS c' cls d x fs → PSs (X.suite a ((a, oe) :: pn)) (b₀ :: suite) (rXS c' i a (su x))) (a : Addr) (oe : Obj) (cls : Value) (d : Option Addr) (pn : List (Addr × Obj)), Zc cls d oe → (∃ vs, oe.data = .fields vs) →
      PSs (X.suite a ((a, oe) :: pn)) (b₀ :: suite) (fun D σ H => ∃ c' x, (X.K = c'.K ∧ X.mg = c'.mg) ∧ XS c' cls d x fs ∧ rXS c' i a (su x) D σ H) :=
    fun i su b₀ suite hsu a oe cls d pn hz hd => ⟨fun pins s σ H D I ⟨c', x, hk, hx, h⟩ => (hsu a oe cls d pn c' x hk hz hd hx).run pins s σ H D I h⟩
  refine PS.weak (ps_try_manyA (Wout := c.W) (tb := fun W => rS { c with W := W } b)
    (l := [(.ref Ch, i, fun a cls d D σ H => ∃ c' x, (X.K = c'.K ∧ X.mg = c'.mg) ∧ XS c' cls d x fs ∧ rXS c' i a (su x) D σ H), (.ref Ch', j, fun a cls d D σ H => ∃ c' x, (X.K = c'.K ∧ X.mg = c'.mg) ∧ XS c' cls d x fs ∧ rXS c' j a (sv x) D σ H)]) hs hf hX.nd tk
    (fun W pn xe tk' _ => hb W pn xe ⟨hX.K, hX.mg, hX.calm, hX.nd, hX.room, fun σ => passAt tk' σ⟩ tk') (.cons ⟨hg, hdb, .inl hm⟩ hi hln (hsuite i su _ _ hsu) (.cons ⟨hg', hdb', .inl hm'⟩ hj hln' (hsuite j sv _ _ hsv) .nil))) fun D σ H ⟨F, m, env, S, r, h⟩ => ?_
  refine ⟨F, m, env, S, r.reW, ?_⟩
  unfold sTry2 at h
  cases e : b env S with
  | st => rw [e] at h; exact h
  | nx e1 S1 => rw [e] at h; exact fun F' m' σ' H' r' s' p' => h F' m' σ' H' r'.unW s' p'
  | bk e1 S1 => rw [e] at h; exact fun F' m' σ' H' r' s' p' => h F' m' σ' H' r'.unW s' p'
  | ct e1 S1 => rw [e] at h; exact fun F' m' σ' H' r' s' p' => h F' m' σ' H' r'.unW s' p'
  | rt p e1 S1 => rw [e] at h; exact fun F' m' σ' H' v r' s' p' q' => h F' m' σ' H' v r'.unW s' p' q'
  | ex x e1 S1 =>
    rw [e] at h
    intro F1 m1 σ1 H1 cls d r1 s1 p1 hx
    have r1 := r1.unW
    dsimp only at h
    cases el : cs.lookup x.cls with
    | none => rw [el] at h; exact h.elim
    | some bb =>
      rw [el] at h
      obtain ⟨C', dd, vfs, rfl, hmx, rfl, hdd, rf⟩ := hx
      obtain ⟨C2, hm2, hex, hxf, hno⟩ := (hcs _ (lookup_mem el)).ex
      have eC : C2 = C' := by
        have z := hm2
        rw [hX.mg] at z
        rw [z] at hmx
        exact Value.ref.inj (Option.some.inj hmx)
      subst eC
      have yes : ∀ (i : Nat) (su : Exc → DS), pS c F m D (sHd i su x e1 S1) → ∀ a, H1 a = none → ∃ (c' : Cfg) (x : Exc), (X.K = c'.K ∧ X.mg = c'.mg) ∧ XS c' (.ref C2) (some dd) x fs ∧ rXS c' i a (su x) { nx := fun σ' H' => D.nx (σ'.set i none) H', rt := D.rt, bk := fun σ' H' => D.bk (σ'.set i none) H', ct := fun σ' H' => D.ct (σ'.set i none) H' } (σ1.set i (some (.ref a))) H1 := fun i su h a ha => by
        have rs := (r1.toS hdd).setU i (some (.ref a))
        refine ⟨sCfg c F1 m1 dd vfs, x, ⟨hX.K, hX.mg⟩, ⟨C2, dd, vfs, rfl, hmx, rfl, upd_same, r1.xd_m hdd, rf, by show XfC c.K C2; rw [← hX.K]; exact hxf, fun f hf => by show PySem.W.findIn c.K _ _ = _; rw [← hX.K]; exact hno f hf⟩, fun hl => ?_, F1, m1, e1.set i .un, S1, rs, ?_⟩
        · rw [List.length_set] at hl
          rw [List.getElem?_set_self hl]
        · unfold sHd at h
          cases es : su x (e1.set i .un) S1 with
          | st => rw [es] at h; exact h
          | nx e2 S2 => rw [es] at h; exact fun F2 m2 σ2 H2 r2 s2 p2 _ => h F2 m2 _ H2 ((r1.ofS hdd r2).setU i none) (s1.trans s2) (p1.trans p2)
          | bk e2 S2 => rw [es] at h; exact fun F2 m2 σ2 H2 r2 s2 p2 => h F2 m2 _ H2 ((r1.ofS hdd r2).setU i none) (s1.trans s2) (p1.trans p2)
          | ct e2 S2 => rw [es] at h; exact fun F2 m2 σ2 H2 r2 s2 p2 => h F2 m2 _ H2 ((r1.ofS hdd r2).setU i none) (s1.trans s2) (p1.trans p2)
          | rt p e2 S2 => rw [es] at h; exact fun F2 m2 σ2 H2 v r2 s2 p2 q2 => h F2 m2 σ2 H2 v (r1.ofS hdd r2) (s1.trans s2) (p1.trans p2) q2
          | ex x2 e2 S2 => rw [es] at h; exact h.elim
      refine ⟨bb, hex, fun hb' => ?_, fun hb' => ?_⟩
      · subst hb'
        exact yes i su h
      · subst hb'
        dsimp only at h
        cases el2 : ct.lookup x.cls with
        | none => rw [el2] at h; exact h.elim
        | some b2 =>
          rw [el2] at h
          obtain ⟨C3, hm3, hex3, _, _⟩ := (hct _ (lookup_mem el2)).ex
          have e3 : C3 = C2 := by
            have z := hm3
            rw [hm2] at z
            exact (Value.ref.inj (Option.some.inj z)).symm
          subst e3
          refine ⟨b2, hex3, fun hb' => ?_, fun hb' => ?_⟩
          · subst hb'
            exact yes j sv h
          · subst hb'
            exact h F1 m1 σ1 H1 _ _ r1 s1 p1 ⟨C3, dd, vfs, rfl, hmx, rfl, hdd, rf⟩
end Dn
end
section
set_option Elab.async false
set_option linter.all false
set_option maxRecDepth 100000
set_option maxHeartbeats 1000000
namespace Dn
open PySem L2 PySem.Spec PyProof.Rows
/-! ### l.index(x), items of any depth -/
section
variable {k : Nat} {X : Cx} {c : Cfg} {o e : Expr} {apos cpos : Pos} {da dk : DE}
end
end Dn
end
section
set_option Elab.async false
set_option linter.all false
set_option maxRecDepth 100000
set_option maxHeartbeats 1000000
namespace Dn
open PySem L2 PySem.Spec PyProof.Rows
/-! ### t.index(x), t a tuple of None and ints -/
section
variable {k : Nat} {X : Cx} {c : Cfg} {o e : Expr} {apos cpos : Pos} {da dk : DE}
end
end Dn
end
section
set_option Elab.async false
set_option linter.all false
set_option maxRecDepth 100000
set_option maxHeartbeats 1000000
namespace Dn
open PySem L2 PySem.Spec PyProof.Rows
/-! ### len and list of dicts whose keys are tuples of any length -/
end Dn
end
section
set_option Elab.async false
set_option linter.all false
set_option maxRecDepth 100000
set_option maxHeartbeats 1000000
namespace Dn
open PySem L2 PySem.Spec PyProof.Rows
end Dn
end
section
set_option Elab.async false
set_option linter.all false
set_option maxRecDepth 100000
set_option maxHeartbeats 1000000
namespace Dn
open PySem L2 PySem.Spec PyProof.Rows
/-! ### comprehensions of dicts whose keys are tuples -/
section
variable {c : Cfg} {F F' H H' : Hp} {m m' : List Addr} {σ : L2.St} {env env' : DEnv} {S S' : Stor}
end
section
variable {X : Cx}
end
section
end
section
variable {i : Nat} {y : Str} {py spos : Pos} {k : Nat} {X : Cx} {c : Cfg} {kx vx tg iter : Expr} {ifs : List Expr} {scope : Scope} {own : List (Str × Nat)} {pos : Pos} {di : Den (List PV)} {is : List Nat} {g : PV → DEnv → Option DEnv} {dt : Den Bool} {dk dv : DE}
end
end Dn
end
section
set_option Elab.async false
set_option linter.all false
set_option maxRecDepth 100000
namespace Dn
noncomputable section
open PySem L2
end
end Dn
end
section
set_option Elab.async false
set_option linter.all false
set_option maxRecDepth 100000
set_option maxHeartbeats 1000000
namespace Dn
open PySem L2 PySem.Spec PyProof.Rows
/-! ### instances of a class of one's own: fields, methods, the making -/
theorem RepF.len {K : PySem.W.Frag} {F : Hp} {m : List Addr} : ∀ {vs : List (Str × V)} {ps : List (Str × PV)}, RepF K F m vs ps → vs.length = ps.length
  | _, _, .nil => rfl
  | _, _, .cons _ rs => by rw [List.length_cons, List.length_cons, RepF.len rs]
theorem RepF.no {K : PySem.W.Frag} {F : Hp} {m : List Addr} {f : Str} : ∀ {vs : List (Str × V)} {ps : List (Str × PV)}, RepF K F m vs ps → ps.lookup f = none → vs.lookup f = none
  | _, _, .nil, _ => rfl
  | _, _, .cons (k := k) _ rs, h => by
    rw [List.lookup_cons] at h ⊢
    cases e : f == k with
    | true => rw [e] at h; cases h
    | false => rw [e] at h; exact RepF.no rs h
/-- o.append(p) -/
def lstB (S : Stor) (o : PV) : Bool := match o with
  | .ref n => match S[n]? with
    | some (.lst _) => true
    | _ => false
  | _ => false
def appS (S : Stor) (o p : PV) : Option Stor := match o with
  | .ref n => match S[n]? with
    | some (.lst xs) => if xs.length < sizeLine then some (S.set n (.lst (xs ++ [p]))) else none
    | _ => none
  | _ => none
def sAppR (dobj da : DE) : DS := sE dobj fun o => fun e s => if lstB s o then sE da (fun p => fun e s => match appS s o p with
  | some s => .nx e s
  | none => .st) e s else .st
section
variable {k j : Nat} {X : Cx} {c : Cfg} {o e : Expr} {es : List Expr} {da de dobj : DE} {dr : Den (List PV)} {p pos pos' apos cpos : Pos} {C f m : Str} {fl ps : List Str} {df : DF}
theorem lstB_inv {S : Stor} {o : PV} (h : lstB S o = true) : ∃ n xs, o = .ref n ∧ S[n]? = some (.lst xs) := by
  unfold lstB at h
  split at h
  · split at h
    · rename_i hs; exact ⟨_, _, rfl, hs⟩
    · cases h
  · cases h
theorem appS_inv {S S' : Stor} {n : Nat} {p : PV} (h : appS S (.ref n) p = some S') : ∃ xs, S[n]? = some (.lst xs) ∧ xs.length < sizeLine ∧ S' = S.set n (.lst (xs ++ [p])) := by
  unfold appS at h
  dsimp only at h
  split at h
  · rename_i hs
    split at h
    · rename_i hl; cases h; exact ⟨_, hs, hl, rfl⟩
    · cases h
  · cases h
theorem k_appR (hX : XOk k X c) (ho : PE X o (rE c dobj)) (ha : PE X e (rE c da)) (hs : swapsWith (.Call (.Attribute o "append" apos) [e] [] cpos) none pos.line X.env = pure false := by rfl)
    (hpe : ∀ {t u : TE}, PE X o t → PE X e u → PE X (.Call (.Attribute o "append" apos) [e] [] cpos) (tBM X.K "list" rAppend t (tCons u tNil)) := by exact fun h1 h2 => pe_bm PySem.F.plainAttrs_list PySem.F.slot_list_append PySem.F.type_list_append mt_append h1 (pa_cons h2 pa_nil)) :
    PS X (.Expr (.Call (.Attribute o "append" apos) [e] [] cpos) pos) (rS c (sAppR dobj da)) := by
  refine PS.weak (ps_expr (hpe ho ha) hs) fun D σ H ⟨F, m, h⟩ => ?_
  refine (sE_of h).imp fun w H1 ⟨F1, m1, p, s1, t1, q1, env, S, r, h⟩ => ?_
  dsimp only at h
  split at h
  · rename_i hb
    obtain ⟨n, xs, rfl, hs⟩ := lstB_inv hb
    cases q1 with
    | ref hm =>
      obtain ⟨vs, h2, h3⟩ := r.r0.sto _ _ _ hm hs
      refine ⟨tyL h2, ?_⟩
      refine (sE_of (D := D) ⟨env, S, r, h⟩).imp fun v H2 ⟨F2, m2, p2, s2, t2, q2, env2, S2, r2, h⟩ => ?_
      dsimp only at h
      cases e1 : appS S2 (.ref n) p2 with
      | none => rw [e1] at h; exact h.elim
      | some S' =>
        rw [e1] at h
        obtain ⟨ys, hy, hl, rfl⟩ := appS_inv e1
        have hm2 := pre_get t2 hm
        obtain ⟨us, h4, h5⟩ := r2.r0.sto _ _ _ hm2 hy
        refine ⟨_, us, v, rfl, rfl, h4, by rw [h5.length]; exact hl, ?_⟩
        exact h F2 m2 σ _ (r2.upd_sto hm2 ⟨_, upd_same, h5.append (.cons q2 .nil)⟩) (Same.refl _) (List.prefix_refl _)
  · exact h.elim
end
section
variable {k j : Nat} {X : Cx} {c : Cfg} {o e : Expr} {es : List Expr} {da de dobj : DE} {dr : Den (List PV)} {p pos pos' apos cpos : Pos} {C f m x : Str} {fl ps : List Str} {df : DF}
/-! ### the making -/
end
/-! ### the plain side -/
section
variable {e : DEnv} {S : Stor} {Q : Out PV → Prop} {QS : OutS → Prop} {da db dobj : DE} {dr : Den (List PV)} {C f m : Str} {df : DF} {o p : PV} {ps : List PV} {n : Nat} {fs : List (Str × PV)} {xs : List PV}
def kAppR0 (da : DE) (o : PV) : DS := fun e s => if lstB s o then sE da (fun p => fun e s => match appS s o p with
  | some s => .nx e s
  | none => .st) e s else .st
def kAppR1 (o p : PV) : DS := fun e s => match appS s o p with
  | some s => .nx e s
  | none => .st
theorem ws_appR : wpS (sAppR dobj da) e S QS = wp dobj e S (bqS (kAppR0 da) QS) := wpS_sE
theorem ws_kAppR0 (h : S[n]? = some (.lst xs)) : wpS (kAppR0 da (.ref n)) e S QS = wp da e S (bqS (kAppR1 (.ref n)) QS) := by
  have : lstB S (.ref n) = true := by unfold lstB; dsimp only; rw [h]
  unfold wpS kAppR0; rw [if_pos this]; exact wpS_sE
theorem ws_kAppR1 : wpS (kAppR1 o p) e S QS = stQ QS (appS S o p) e := by
  unfold wpS kAppR1 stQ; cases appS S o p <;> rfl
theorem appS_at (h : S[n]? = some (.lst xs)) (hl : xs.length < sizeLine) : appS S (.ref n) p = some (S.set n (.lst (xs ++ [p]))) := by
  unfold appS; dsimp only; rw [h]; dsimp only; rw [if_pos hl]
end
end Dn
end
section
set_option Elab.async false
set_option linter.all false
set_option maxRecDepth 100000
namespace Dn
noncomputable section
open PySem L2
end
end Dn
end
section
set_option Elab.async false
set_option linter.all false
set_option maxRecDepth 100000
set_option maxHeartbeats 1000000
namespace Dn
open PySem L2 PySem.Spec PyProof.Rows
/-! ### zip of a tuple and a list -/
def ztGo (K : PySem.W.Frag) (a b : Addr) (i : Nat) (H : Hp) : Prop := ∃ (xs ys : List V) (x y : V), xs[i]? = some x ∧ ys[i]? = some y ∧ SqT K H a xs ∧ SqL K H b ys
def ztYl (K : PySem.W.Frag) (a b : Addr) (i : Nat) (H : Hp) (v : V) (H2 : Hp) : Prop := ∃ (p : Addr) (x y : V), H p = none ∧ v = .ref p ∧ H2 = upd H p (.tup [x, y]) ∧ (∀ xs : List V, SqT K H a xs → xs[i]? = some x) ∧ ∀ ys : List V, SqL K H b ys → ys[i]? = some y
def ztSt (K : PySem.W.Frag) (a b : Addr) (i : Nat) (H : Hp) : Prop := ∃ xs ys : List V, i = min xs.length ys.length ∧ SqT K H a xs ∧ SqL K H b ys
def Itt (K : PySem.W.Frag) (a b : Addr) : It := ⟨ztGo K a b, ztYl K a b, ztSt K a b⟩
section
variable {k : Nat} {X : Cx} {c : Cfg} {e e2 : Expr} {de de2 : DE} {elts : List Expr} {kk : Nat} {tpos p pos : Pos}
end
/-! ### a slice of a list of the store -/
/-! ### try: b, except C: su, the exception without a name -/
end Dn
end
section
set_option Elab.async false
set_option linter.all false
set_option maxRecDepth 100000
set_option maxHeartbeats 1000000
namespace Dn
open PySem L2 PySem.Spec PyProof.Rows
/-! ### zip of two tuples -/
section
variable {k : Nat} {X : Cx} {c : Cfg} {e e2 : Expr} {de de2 : DE} {elts : List Expr} {kk : Nat} {tpos p pos : Pos}
end
end Dn
end
section
set_option Elab.async false
set_option linter.all false
set_option maxRecDepth 100000
namespace Dn
noncomputable section
open PySem L2
end
end Dn
end
section
set_option Elab.async false
set_option linter.all false
set_option maxRecDepth 100000
set_option maxHeartbeats 1000000
namespace Dn
open PySem L2 PySem.Spec PyProof.Rows
/-! ### sorted(l), items alike data of any depth -/
end Dn
end
section
set_option Elab.async false
set_option linter.all false
set_option maxRecDepth 100000
set_option maxHeartbeats 1000000
namespace Dn
open PySem L2 PySem.Spec PyProof.Rows
/-! ### sorted(l), items tuples, the first one empty -/
section
variable {prog : Program} {w : World} {A : Around} {s : Shared}
end

end Dn
end
section
set_option Elab.async false
set_option linter.all false
set_option maxRecDepth 100000
set_option maxHeartbeats 1000000
/-! ### itertools.combinations of a list -/
namespace Cb
open PySem PySem.Spec PyProof.Rows
section
variable {prog : Program} {w : World} {A : Around} {E : Value → Shared → Prop} {s : Shared}
end
end Cb
end
section
set_option Elab.async false
set_option linter.all false
set_option maxRecDepth 100000
set_option maxHeartbeats 1000000
namespace Cb
open PySem PySem.Spec PyProof.Rows PySem.Builtin PySem.Builtin.Itertools
end Cb
namespace Cb
open PySem PySem.Spec PyProof.Rows PySem.Builtin PySem.Builtin.Itertools
section
variable {prog : Program} {w : World} {A : Around} {s : Shared}
end
end Cb
end
section
set_option Elab.async false
set_option linter.all false
set_option maxRecDepth 100000
set_option maxHeartbeats 1000000
namespace Cb
open PySem PySem.Spec PyProof.Rows PySem.Builtin PySem.Builtin.Itertools
section
variable {prog : Program} {w : World} {A : Around} {E : Value → Shared → Prop} {s : Shared}
end
end Cb
end
section
set_option Elab.async false
set_option linter.all false
set_option maxRecDepth 100000
set_option maxHeartbeats 1000000
namespace Cb
open PySem PySem.Spec PyProof.Rows PySem.Builtin PySem.Builtin.Itertools
section
variable {prog : Program} {w : World} {A : Around} {E : Value → Shared → Prop} {s : Shared}
end
end Cb
end
section
set_option Elab.async false
set_option linter.all false
set_option maxRecDepth 100000
set_option maxHeartbeats 1000000
namespace Dn
open PySem L2 PySem.Spec PyProof.Rows
/-! ### all combinations -/
/-! ### by values -/
section
variable {k : Nat} {X : Cx} {c : Cfg} {e e2 tg : Expr} {de de2 : DE} {p pos : Pos} {nm : Str}
end
end Dn
end
section
set_option Elab.async false
set_option linter.all false
set_option maxRecDepth 100000
namespace Dn
noncomputable section
open PySem L2
end
end Dn
end
section
set_option Elab.async false
set_option linter.all false
set_option maxRecDepth 100000
set_option maxHeartbeats 1000000
namespace Dn
open PySem L2 PySem.Spec PyProof.Rows
/-! ### [.. for v in d.values()], tuples as keys -/
section
variable {prog : Program} {w : World} {A : Around} {E : Value → Shared → Prop} {s : Shared} {d : Addr} {es : Array DictEntry} {ep : Nat}
end
section
variable {P : Program} {w : World} {K : PySem.W.Frag} {d : Addr} {o : Obj} {es : Array DictEntry} {ep : Nat} {tg : Expr}
end
/-! ### by values -/
section
variable {k : Nat} {X : Cx} {c : Cfg} {elt tg iter : Expr} {ifs : List Expr} {scope : Scope} {own : List (Str × Nat)} {pos : Pos} {de0 : DE} {is : List Nat} {g : PV → DEnv → Option DEnv} {dt : Den Bool} {de : DE}
end
end Dn
end
section
set_option Elab.async false
set_option linter.all false
set_option maxRecDepth 100000
set_option maxHeartbeats 1000000
namespace Dn
open PySem L2 PySem.Spec PyProof.Rows
/-! ### list(d.values()), tuples as keys -/
section
variable {prog : Program} {w : World} {A : Around} {E : Value → Shared → Prop} {s : Shared} {r d : Addr} {es : Array DictEntry} {ep : Nat}
end
/-! ### p > q of alike data -/
end Dn
end
section
set_option Elab.async false
set_option linter.all false
set_option maxRecDepth 100000
set_option maxHeartbeats 1000000
namespace Dn
open PySem L2 PySem.Spec PyProof.Rows
/-! ### frozen tuples of data: shown, added, searched -/
section
variable {X : Cx} {es : List Expr} {pos : Pos}
end
section
variable {X : Cx} {c : Cfg} {es : List Expr} {pos : Pos} {dr : Den (List PV)}
end
/-! t + u of frozen ones -/
/-! x not in t, items of any depth -/
/-! t.index(x), items of any depth -/
section
variable {k : Nat} {X : Cx} {c : Cfg} {o e : Expr} {apos cpos : Pos} {da dk : DE}
end
end Dn
end
section
set_option Elab.async false
set_option linter.all false
set_option maxRecDepth 100000
set_option maxHeartbeats 1000000
namespace Dn
open PySem L2 PySem.Spec PyProof.Rows
/-! ### exceptions of two fields; a text within a text -/
/-- self.f = v, self.g = w of a new exception -/
def spIni2 (K : PySem.W.Frag) (f g : Str) : Sp := fun vs H Q _ => ∃ (a C : Addr) (v w : V), vs = [.ref a, v, w] ∧ OexC K C ∧ PySem.W.findIn K (.ref C) f = some none ∧ PySem.W.findIn K (.ref C) g = some none ∧ H a = some (exo a C none) ∧
  ∀ dx, H dx = none → dx ≠ a → Q .non (upd (upd (upd H dx (exd dx [(f, v)])) a (exo a C (some dx))) dx (exd dx [(g, w), (f, v)]))
theorem ini2_len {K : PySem.W.Frag} {f g : Str} {vs : List V} {H : Hp} {Q : VK} {E : XK} (h : spIni2 K f g vs H Q E) : vs.length = 3 := by
  obtain ⟨a, C, v, w, rfl, _⟩ := h
  rfl
theorem ini2_pure {K : PySem.W.Frag} {f g x y z : Str} {vs : List V} {H : Hp} {Q : VK} {E : XK} (h : spIni2 K f g vs H Q E) : tSeq (tOst K f (tVar 0) (tVar 1)) (tOst K g (tVar 0) (tVar 2)) { nx := fun _ H' => Q .non H', rt := Q } (L2.start [x, y, z] vs) H := by
  obtain ⟨a, C, v, w, rfl, T, h1, h2, e, q⟩ := h
  refine ⟨_, rfl, _, rfl, a, C, rfl, T, h1, .inl ⟨e, fun dx hd hne => ?_⟩⟩
  refine ⟨_, rfl, _, rfl, a, C, rfl, T, h2, .inr ⟨dx, [(f, v)], upd_same, ?_, by show 1 ≤ 900; decide, q dx hd hne⟩⟩
  rw [upd_ne hne]
  exact upd_same
/-- a class x of exceptions whose __init__ keeps its arguments as f and g -/
structure ExOk2 (P : Program) (w : World) (K : PySem.W.Frag) (mg : Str → Option Value) (base : Heap) (x f g : Str) : Prop where
  ex : ∃ (C fI : Addr) (fd : FuncData) (pn qn : Str), mg x = some (.ref C) ∧ OexC K C ∧ PySem.W.findIn K (.ref C) f = some none ∧ PySem.W.findIn K (.ref C) g = some none ∧ PySem.W.findIn K (.ref C) "__init__" = some (some (.ref fI)) ∧ PySem.W.typeIn K (.ref fI) = some (.type "function") ∧
    FnOk P w K mg base (L2.CX P w) 1 fI fd ["self", pn, qn] (spIni2 K f g) ∧ Binds K fd ["self", pn, qn] []
def kRaise2 (x f g : Str) (ps : List PV) : DS := fun e s => match ps with
  | [p, q] => .ex ⟨x, [(g, q), (f, p)]⟩ e s
  | _ => .st
def sRaise2 (x f g : Str) (d : Den (List PV)) : DS := sE d (kRaise2 x f g)
section
variable {k : Nat} {X : Cx} {c : Cfg}
theorem k_raise2 {x f g : Str} {a b : Expr} {dr : Den (List PV)} {p pos pos' : Pos} (hX : XOk k X c) (hk : 2 ≤ k) (tk : Takes X c.W) (B : ExOk2 X.prog X.w X.K X.mg X.base x f g) (hg : Gl X x) (ha : PA X [a, b] (rA c dr))
    (hdb : (x == ("__debug__" : Str)) = false := by decide) (he : starEach [a, b] X.env = (false, eval a X.env) :: starEach [b] X.env := by rfl) (hpl : (backTo pos (starEach [b] X.env)).any (·.1) = false := by rfl) :
    PS X (.Raise (some (.Call (.Name x p) [a, b] [] pos)) none pos') (rS c (sRaise2 x f g dr)) := by
  obtain ⟨C, fI, fd, pn, qn, hm, T, n1, n2, iC, tI, F1, hb⟩ := B.ex
  refine PS.weak (ps_raise hX.calm tk (pmk_oex T iC tI F1 (hX.room.mono hk) hb .nil (passes_call tk fun _ _ _ _ z => z.elim) hg hm ha hdb he hpl)) fun D σ H ⟨F, m, h⟩ => ?_
  refine (sE_of (R := fun K F m v p => RepL K F m v p) h).imp fun vs H1 ⟨F1, m1, ps, s1, p1, q1, env, S, r, h⟩ => ?_
  match ps, h with
  | [p, q], h =>
    obtain ⟨v, vs, rfl, r1, q1⟩ : ∃ v vs', vs = v :: vs' ∧ Rep c.K F1 m1 v p ∧ RepL c.K F1 m1 vs' [q] := by
      cases q1 with
      | cons r1 q1 => exact ⟨_, _, rfl, r1, q1⟩
    obtain ⟨w, rfl, r2⟩ : ∃ w, vs = [w] ∧ Rep c.K F1 m1 w q := by
      cases q1 with
      | cons r2 q1 => cases q1; exact ⟨_, rfl, r2⟩
    refine ⟨by show 2 ≤ 1000; decide, fun a hn => ⟨a, C, v, w, rfl, T, n1, n2, upd_same, fun dx hd hne => ⟨rfl, dx, [(g, w), (f, v)], ?_, upd_same, ?_, ?_⟩⟩⟩
    · rw [upd_ne hne.symm]; exact upd_same
    · rw [upd_ne hne] at hd; exact hd
    · have hd1 : H1 dx = none := by rw [upd_ne hne] at hd; exact hd
      have e : upd (del (upd (upd (upd (upd H1 a (exo a C none)) dx (exd dx [(f, v)])) a (exo a C (some dx))) dx (exd dx [(g, w), (f, v)])) a) dx (.xd [(g, w), (f, v)]) = upd H1 dx (.xd [(g, w), (f, v)]) := by
        funext b
        by_cases hbd : b = dx
        · rw [hbd, upd_same, upd_same]
        · rw [upd_ne hbd, upd_ne hbd]
          by_cases hba : b = a
          · rw [hba, del_same]; exact hn.symm
          · rw [del_ne hba, upd_ne hbd, upd_ne hba, upd_ne hbd, upd_ne hba]
      rw [e]
      exact h F1 m1 σ _ (.ref C) (some dx) (r.ext (Ext.raw hd1)) (Same.refl _) (List.prefix_refl _) ⟨C, dx, [(g, w), (f, v)], rfl, by rw [← hX.mg]; exact hm, rfl, upd_same, .cons r2 (.cons r1 .nil)⟩
  | [], h => exact h.elim
  | [_], h => exact h.elim
  | _ :: _ :: _ :: _, h => exact h.elim
end
/-- x in t, texts -/
def inTx (j i : Str) : Bool := !(Builtin.Str.occurrences j i 0 j.length 1).isEmpty
def inSP : G2 := fun _ p q => match p, q with
  | .str i, .str j => some (.bl (inTx j i))
  | _, _ => none
theorem o_inS {X : Cx} : O2 X (compareOp .In) inSP := by
  refine ⟨_, op_in_str, fun lk F m S H x y p q res Q R rx ry h yl => ?_⟩
  unfold inSP at h
  split at h
  · cases h; cases rx; cases ry
    exact ⟨_, _, rfl, rfl, yl.here (.bl _)⟩
  · cases h
end Dn
end
section
set_option Elab.async false
set_option linter.all false
set_option maxRecDepth 100000
namespace Dn
noncomputable section
open PySem L2
def d_check_text_v3 : DF := dFun 1 0 (sIf (dOrT (dNotT (dTru (d1 (isiP "str") (dVar 0)))) (dOrT (dT (d2 gtP (dN lenP (aCons (dVar 0) aNil)) (dC (.int 300)))) (dT (d2 inSP (dC (.str "
")) (dVar 0))))) (sRaise "BadValue" "name" (dC (.str "text"))) sNext)
def d_number_at_v2 : DF := dFun 2 1 (sSeq (sSet 2 (dVar 1))
  (sSeq (whN (dAndT (dT (d2 ltP (dVar 2) (dN lenP (aCons (dVar 0) aNil)))) (dT (d2 inSP (d2 ixP (dVar 0) (dVar 2)) (dC (.str "0123456789"))))) (sSet 2 (d2 addP (dVar 2) (dC (.int 1)))))
  (sRet (dSl (dVar 0) (oSome (dVar 1)) (oSome (dVar 2))))))
def d_token_at_v2 : DF := dFun 2 1 (sSeq (sIf (dT (d2 eqP (d2 ixP (dVar 0) (dVar 1)) (dC (.str ";")))) (sRet (dTup (aCons (dC (.str "sign")) (aCons (d2 ixP (dVar 0) (dVar 1)) (aCons (d2 addP (dVar 1) (dC (.int 1))) aNil))))) sNext)
  (sSeq (sIf (dT (d2 inSP (d2 ixP (dVar 0) (dVar 1)) (dC (.str "abcd")))) (sRet (dTup (aCons (dC (.str "letter")) (aCons (d2 ixP (dVar 0) (dVar 1)) (aCons (d2 addP (dVar 1) (dC (.int 1))) aNil))))) sNext)
  (sSeq (sIf (dT (d2 eqP (dSl (dVar 0) (oSome (dVar 1)) (oSome (d2 addP (dVar 1) (dN lenP (aCons (dC (.str "start")) aNil))))) (dC (.str "start")))) (sRet (dTup (aCons (dC (.str "word")) (aCons (dC (.str "start")) (aCons (d2 addP (dVar 1) (dC (.int 1))) aNil))))) sNext)
  (sSeq (sSet 2 (dCall d_number_at_v2 (aCons (dVar 0) (aCons (dVar 1) aNil))))
  (sSeq (sIf (dT (d2 eqP (dVar 2) (dC (.str "")))) (sRaise2 "TextError" "column" "words" (aCons (d2 addP (dVar 1) (dC (.int 1))) (aCons (dC (.str "no token begins here")) aNil))) sNext)
  (sSeq (sIf (dT (d2 gtP (dN lenP (aCons (dVar 2) aNil)) (dC (.int 6)))) (sRaise2 "TextError" "column" "words" (aCons (d2 addP (dVar 1) (dC (.int 1))) (aCons (dC (.str "a number has at most 6 digits")) aNil))) sNext)
  (sRet (dTup (aCons (dC (.str "number")) (aCons (dVar 2) (aCons (d2 addP (dVar 1) (dC (.int 1))) aNil)))))))))))
def d_scan_v5 : DF := dFun 1 2 (sSeq (sExpr (dCall d_check_text_v3 (aCons (dVar 0) aNil)))
  (sSeq (sSet 1 (dNew (lDisp aNil)))
  (sSeq (sSet 2 (dC (.int 0)))
  (sSeq (whN (dT (d2 ltP (dVar 2) (dN lenP (aCons (dVar 0) aNil)))) (sIf (dT (d2 eqP (d2 ixP (dVar 0) (dVar 2)) (dC (.str " ")))) (sSet 2 (d2 addP (dVar 2) (dC (.int 1)))) (sSeq (sAppR (dVar 1) (dCall d_token_at_v2 (aCons (dVar 0) (aCons (dVar 2) aNil))))
  (sSet 2 (d2 addP (dVar 2) (dN lenP (aCons (d2 ixP (d2 ixP (dVar 1) (d1 negP (dC (.int 1)))) (dC (.int 1))) aNil)))))))
  (sSeq (sAppR (dVar 1) (dTup (aCons (dC (.str "end")) (aCons (dC (.str "")) (aCons (d2 addP (dN lenP (aCons (dVar 0) aNil)) (dC (.int 1))) aNil)))))
  (sRet (dVar 1)))))))
def d__law_laid_v3 : DF := dFun 2 5 (sSeq (sSet 2 (dC (.str "")))
  (sSeq (sSetO 3 (lDisp aNil))
  (sSeq (sFor (dItE2 (dVar 1)) (tgT [4, 5]) (sSeq (sSet 6 (dN intP (aCons (dAndV (d2 gtP (dVar 4) (dC (.int 0))) (dAndV (d2 inSP (dSl (d2 ixP (dVar 1) (d2 subP (dVar 4) (dC (.int 1)))) (oSome (d1 negP (dC (.int 1)))) oNo) (dC (.str "0123456789"))) (d2 inSP (dSl (dVar 5) oNo (oSome (dC (.int 1)))) (dC (.str "0123456789"))))) aNil)))
  (sSeq (sSet 2 (d2 addP (dVar 2) (d2 ixP (dLst (aCons (dC (.str "")) (aCons (dC (.str " ")) (aCons (dC (.str "  ")) (aCons (dC (.str "   ")) aNil))))) (dN max2P (aCons (dVar 6) (aCons (dCall d__law_next (aCons (dVar 0) (aCons (dC (.int 4)) aNil))) aNil))))))
  (sSeq (sApp 3 (d2 addP (dN lenP (aCons (dVar 2) aNil)) (dC (.int 1))))
  (sSet 2 (d2 addP (dVar 2) (dVar 5)))))))
  (sSeq (sSet 2 (d2 addP (dVar 2) (d2 ixP (dLst (aCons (dC (.str "")) (aCons (dC (.str " ")) (aCons (dC (.str "  ")) aNil)))) (dCall d__law_next (aCons (dVar 0) (aCons (dC (.int 3)) aNil))))))
  (sRet (dTup (aCons (dVar 2) (aCons (d2 addP (dVar 3) (dLst (aCons (d2 addP (dN lenP (aCons (dVar 2) aNil)) (dC (.int 1))) aNil))) aNil))))))))
def d__law_told_v23 : DF := dFun 1 1 (sTry2 [("BadValue", false), ("TextError", true)] 1 [("BadValue", true), ("TextError", false)] 1 (sRet (dCall d_scan_v5 (aCons (dVar 0) aNil))) (fun x => (sRet (dIf (Den.opt (([("BadValue", true), ("TextError", true)] : List (Str × Bool)).lookup x.cls)) (dTup (aCons (dXf x "column") (aCons (dXf x "words") aNil))) (dC .non)))) (fun x => (sRet (dXf x "name"))))
def d__law_kind_v2 : DF := dFun 1 0 (sSeq (sIf (dT (d2 inP (dVar 0) (dLst (aCons (dC (.str "start")) (aCons (dC (.str ";")) aNil))))) (sRet (dIf (dT (d2 eqP (dVar 0) (dC (.str "start")))) (dC (.str "word")) (dC (.str "sign")))) sNext)
  (sRet (dIf (dT (d2 inSP (dVar 0) (dC (.str "abcd")))) (dC (.str "letter")) (dC (.str "number")))))
end
end Dn
end
section
set_option Elab.async false
set_option linter.all false
set_option maxRecDepth 100000
namespace Dn
noncomputable section
open PySem L2
def d_law_k65_s0 : DS := (sSet 1 (dCall d__law_stream (aCons (dVar 0) aNil)))
def d_law_k65_s1 : DS := (sSetO 2 (lComp [13] (dItR (dCall d__law_next (aCons (dVar 1) (aCons (dC (.int 21)) aNil)))) (tgN 13) tTrue (dCall d__law_pick (aCons (dVar 1) (aCons (dLst (aCons (dC (.str "0")) (aCons (dC (.str "31")) (aCons (dC (.str "000345")) (aCons (dC (.str "999999")) (aCons (dC (.str ";")) (aCons (dC (.str "a")) (aCons (dC (.str "b")) (aCons (dC (.str "d")) (aCons (dC (.str "c")) (aCons (dC (.str "start")) (aCons (dC (.str ";")) aNil)))))))))))) aNil)))))
def d_law_k65_s2 : DS := (sSet 3 (dC .non))
def d_law_k65_s3 : DS := (sIf (dT (d2 eqP (dCall d__law_next (aCons (dVar 1) (aCons (dC (.int 2)) aNil))) (dC (.int 1)))) (sSeq (sSet 4 (dLs (lComp [14] (dItS (dLst (aCons (dC (.str "A")) (aCons (dC (.str "e")) (aCons (dC (.str "_")) (aCons (dC (.str ",")) (aCons (dC (.str "	")) (aCons (dC (.str "|")) (aCons (dC (.str ":")) (aCons (dC (.str "(")) (aCons (dC (.str "#")) (aCons (dC (.str "=")) (aCons (dC (.str "/")) (aCons (dC (.str "s ")) (aCons (dC (.str "t")) (aCons (dC (.str "Start")) (aCons (dC (.str "sta")) aNil))))))))))))))))) (tgN 14) tTrue (dTup (aCons (dVar 14) (aCons (dC (.str "no token begins here")) aNil))))))
  (sSeq (sSet 4 (d2 addP (dVar 4) (dLst (aCons (dTup (aCons (dC (.str "1000000")) (aCons (dC (.str "a number has at most 6 digits")) aNil))) (aCons (dTup (aCons (dC (.str "0000001")) (aCons (dC (.str "a number has at most 6 digits")) aNil))) aNil)))))
  (sSeq (sSet 5 (dCall d__law_next (aCons (dVar 1) (aCons (d2 addP (dLenO 2) (dC (.int 1))) aNil))))
  (sSeq (sSetT [6, 3] (dCall d__law_pick (aCons (dVar 1) (aCons (dVar 4) aNil))))
  (sSeq (sSetO 2 (lAdd (d2 addP (dSl (dVar 2) oNo (oSome (dVar 5))) (dLst (aCons (dVar 6) aNil))) (dSl (dVar 2) (oSome (dVar 5)) oNo)))
  (sIf (dT (d2 eqP (dCall d__law_next (aCons (dVar 1) (aCons (dC (.int 2)) aNil))) (dC (.int 1)))) (sApp 2 (d2 ixP (dCall d__law_pick (aCons (dVar 1) (aCons (dVar 4) aNil))) (dC (.int 0)))) sNext)))))) sNext)
def d_law_k65_s4 : DS := (sSetT [7, 8] (dCall d__law_laid_v3 (aCons (dVar 1) (aCons (dVar 2) aNil))))
def d_law_k65_s5 : DS := (sIf (dT (d2 notNonP (dVar 3) (dC .non))) (sRet (dCall d__law_equal (aCons (dCall d__law_told_v23 (aCons (dVar 7) aNil)) (aCons (dTup (aCons (d2 ixP (dVar 8) (dVar 5)) (aCons (dVar 3) aNil))) aNil)))) sNext)
def d_law_k65_s6 : DS := (sSet 9 (d2 addP (dLs (lComp [15, 6] (dItE2 (dVar 2)) (tgT [15, 6]) tTrue (dTup (aCons (dCall d__law_kind_v2 (aCons (dVar 6) aNil)) (aCons (dVar 6) (aCons (d2 ixP (dVar 8) (dVar 15)) aNil)))))) (dLst (aCons (dTup (aCons (dC (.str "end")) (aCons (dC (.str "")) (aCons (d2 ixP (dVar 8) (d1 negP (dC (.int 1)))) aNil)))) aNil))))
def d_law_k65_s7 : DS := (sSet 10 (dCall d__law_told_v23 (aCons (dVar 7) aNil)))
def d_law_k65_s8 : DS := (sIf (dNotT (dTru (dCall d__law_equal (aCons (dVar 10) (aCons (dVar 9) aNil))))) (sRet (dC (.bl false))) sNext)
def d_law_k65_s9 : DS := (sAppR (dVar 10) (dC .non))
def d_law_k65_s10 : DS := (sSet 11 (d2 strMulP (dC (.str " ")) (d2 subP (dC (.int 300)) (dN lenP (aCons (dVar 7) aNil)))))
def d_law_k65_s11 : DS := (sSet 12 (dCall d__law_pick (aCons (dVar 1) (aCons (dLst (aCons (dC .non) (aCons (dLst (aCons (dVar 7) aNil)) (aCons (d2 addP (dVar 7) (dC (.str "
"))) (aCons (dC (.str "
")) (aCons (d2 addP (d2 addP (dVar 11) (dVar 7)) (dC (.str " "))) (aCons (dC (.int 7)) aNil))))))) aNil))))
def d_law_k65_s12 : DS := (sRet (dAndV (dCall d__law_equal (aCons (dCall d__law_told_v23 (aCons (dVar 7) aNil)) (aCons (dVar 9) aNil))) (dAndV (d2 eqP (dCall d__law_told_v23 (aCons (dVar 12) aNil)) (dC (.str "text"))) (d1 (isiP "list") (dCall d__law_told_v23 (aCons (d2 addP (dVar 11) (dVar 7)) aNil))))))
def d_law_k65_b12 : DS := d_law_k65_s12
def d_law_k65_b11 : DS := sSeq d_law_k65_s11 d_law_k65_b12
def d_law_k65_b10 : DS := sSeq d_law_k65_s10 d_law_k65_b11
def d_law_k65_b9 : DS := sSeq d_law_k65_s9 d_law_k65_b10
def d_law_k65_b8 : DS := sSeq d_law_k65_s8 d_law_k65_b9
def d_law_k65_b7 : DS := sSeq d_law_k65_s7 d_law_k65_b8
def d_law_k65_b6 : DS := sSeq d_law_k65_s6 d_law_k65_b7
def d_law_k65_b5 : DS := sSeq d_law_k65_s5 d_law_k65_b6
def d_law_k65_b4 : DS := sSeq d_law_k65_s4 d_law_k65_b5
def d_law_k65_b3 : DS := sSeq d_law_k65_s3 d_law_k65_b4
def d_law_k65_b2 : DS := sSeq d_law_k65_s2 d_law_k65_b3
def d_law_k65_b1 : DS := sSeq d_law_k65_s1 d_law_k65_b2
def d_law_k65_b0 : DS := sSeq d_law_k65_s0 d_law_k65_b1
def d_law_k65 : DF := dFun 1 15 d_law_k65_b0
end
end Dn
end
section
set_option Elab.async false
set_option linter.all false
set_option maxRecDepth 100000
set_option maxHeartbeats 1000000
namespace Dn
open PySem L2
/-! ### pairs of lists -/
inductive F2 {α β : Type} (G : α → β → Prop) : List α → List β → Prop
  | nil : F2 G [] []
  | cons {a : α} {b : β} {as : List α} {bs : List β} : G a b → F2 G as bs → F2 G (a :: as) (b :: bs)
theorem F2.len {α β : Type} {G : α → β → Prop} : ∀ {as : List α} {bs : List β}, F2 G as bs → bs.length = as.length
  | _, _, .nil => rfl
  | _, _, .cons _ h => by rw [List.length_cons, List.length_cons, h.len]
theorem F2.map {α β : Type} {f : α → β} : ∀ {as : List α} {bs : List β}, F2 (fun a b => b = f a) as bs → bs = as.map f
  | _, _, .nil => rfl
  | _, _, .cons h1 h => by rw [List.map_cons, h1, h.map]
theorem F2.enc {α β γ : Type} {f : γ → β} {P : γ → Prop} : ∀ {as : List α} {bs : List β}, F2 (fun _ b => ∃ x, b = f x ∧ P x) as bs → ∃ xs : List γ, bs = xs.map f ∧ xs.length = as.length ∧ ∀ x ∈ xs, P x
  | _, _, .nil => ⟨[], rfl, rfl, fun x h => nomatch h⟩
  | _, _, .cons ⟨x, h1, h2⟩ h => by
    obtain ⟨xs, h3, h4, h5⟩ := h.enc
    exact ⟨x :: xs, by rw [List.map_cons, h1, h3], by rw [List.length_cons, List.length_cons, h4], fun y hy => by
      rcases List.mem_cons.mp hy with rfl | hy
      · exact h2
      · exact h5 y hy⟩
/-! ### comprehensions -/
/-- one name, no test, the slots but for it as they were -/
theorem lcL_draw {i : Nat} {de : DE} {e : DEnv} (I : Stor → Prop) (G : PV → PV → Prop) (hw : ∀ p, wipeE (e.set i (.v p)) [i] = e) : ∀ (ps acc : List PV) (S : Stor),
    (∀ p ∈ ps, ∀ S, I S → wp de (e.set i (.v p)) S fun o => ∃ v S', o = .ok v (e.set i (.v p)) S' ∧ G p v ∧ I S') → I S → acc.length + ps.length ≤ sizeLine →
    wp (lcL [i] (tgN i) tTrue de ps acc) e S fun o => ∃ vs S', o = .ok (acc ++ vs) e S' ∧ F2 G ps vs ∧ I S'
  | [], acc, S, _, hi, _ => ⟨[], S, by rw [List.append_nil]; rfl, .nil, hi⟩
  | p :: ps, acc, S, h, hi, hl => by
    rw [List.length_cons] at hl
    obtain ⟨v, S1, q, hg, hi1⟩ := h p (List.mem_cons_self ..) S hi
    have ih := lcL_draw I G hw ps (acc ++ [v]) S1 (fun p hp => h p (List.mem_cons_of_mem _ hp)) hi1 (by rw [List.length_append, List.length_singleton]; omega)
    obtain ⟨vs, S', q2, hf, hi'⟩ := ih
    refine ⟨v :: vs, S', ?_, .cons hg hf, hi'⟩
    unfold lcL
    dsimp only [tgN, tTrue, Den.pure]
    rw [q]
    dsimp only
    rw [if_pos (by omega), hw, show lcL [i] (tgN i) (Den.pure true) de ps (acc ++ [v]) e S1 = _ from q2, List.append_assoc]
    rfl
theorem wp_compD {i : Nat} {de : DE} {e : DEnv} {S : Stor} {Q : Out (List PV) → Prop} {ps : List PV} (I : Stor → Prop) (G : PV → PV → Prop) (hn : noOwn e [i] = true) (hr : restE e [i] (wipeE e [i]) = e) (hw : ∀ p, wipeE ((wipeE e [i]).set i (.v p)) [i] = wipeE e [i])
    (hi : I S) (hl : ps.length ≤ sizeLine) (h : ∀ p ∈ ps, ∀ S, I S → wp de ((wipeE e [i]).set i (.v p)) S fun o => ∃ v S', o = .ok v ((wipeE e [i]).set i (.v p)) S' ∧ G p v ∧ I S')
    (hq : ∀ vs S', F2 G ps vs → I S' → Q (.ok vs e S')) : wp (kComp [i] (tgN i) tTrue de ps) e S Q := by
  rw [wp_compv hn]
  refine wp_to _ (lcL_draw I G hw ps [] S h hi (by rw [List.length_nil]; omega)) ?_
  rintro o ⟨vs, S', rfl, hf, hi'⟩
  rw [List.nil_append]
  show Q (.ok vs (restE e [i] (wipeE e [i])) S')
  rw [hr]
  exact hq vs S' hf hi'
theorem rng_len (n : Int) : (rngPV n).length = n.toNat := by unfold rngPV; rw [List.length_map, List.length_range]
theorem mem_rng {n : Int} {p : PV} (h : p ∈ rngPV n) : ∃ i : Nat, p = .int i ∧ (i : Int) < n := by
  unfold rngPV at h
  obtain ⟨i, hi, rfl⟩ := List.mem_map.mp h
  exact ⟨i, rfl, by have := List.mem_range.mp hi; omega⟩
/-! ### the stream -/
/-- the stream is the first of the store -/
def SInv (R : Stor) (S : Stor) : Prop := ∃ (ns : List Int) (d i : Int), S = .lst [.lst (ns.map .int), .int d, .int i] :: R ∧ 0 ≤ d ∧ 0 ≤ i
theorem atI_ints {ns : List Int} {i : Int} (h0 : 0 ≤ i) (h : i < ns.length) : ∃ x, atI (ns.map PV.int) i = some (.int x) := by
  refine ⟨ns[i.toNat]'(by omega), ?_⟩
  rw [atI_in h0 (by rw [List.length_map]; exact h), List.getElem_map]
theorem mok1 (i : Int) : mulOk i 48271 = true := mulOk_r (by omega)
theorem mok2 (i : Int) : mulOk i 69621 = true := mulOk_r (by omega)
theorem mok3 (i : Int) : mulOk i 16807 = true := mulOk_r (by omega)
theorem mok4 (i : Int) : mulOk i 65537 = true := mulOk_r (by omega)
theorem wp_stream {ns : List Int} {Q : OutF → Prop} (hq : ∀ S', SInv [] S' → Q (.ok (.ref 0) S')) : wpF d__law_stream [.rol (ns.map .int)] [] Q := by
  unfold d__law_stream
  refine wpF_go rfl ?_
  simp only [List.map, List.replicate, List.cons_append, List.nil_append, List.length_cons, List.length_nil, Nat.reduceAdd, bq_ok, bq_ex, wp_pure, wp_fail, wp_getS, oQ_some, oQ_ite, bqS_ok, bqS_ex, wpS_seq, sqS_nx, sqS_rt, sqS_bk, sqS_ct, sqS_ex, wpS_next, wpS_break, wpS_cont, wpS_retN, wpS_setT, stQ_some, wp_C, wp_call, wp_callv, bqF_ok, bqF_ex, wp_new, wp_newv, fqS_nx, fqS_rt, fqS_ex, wpS_for, wp_comp, wp_dVar, vQ_v, vQ_o, List.getElem?_cons_zero, List.getElem?_cons_succ, List.set_cons_zero, List.set_cons_succ, wp_d1, wp_k1, wp_d2, wp_k2, wp_k2b, wp_dT, wp_kT, wp_dTru, wp_kTru, wp_dNotT, wp_kNot, wp_dAndT, wp_kAnd, wp_dOrT, wp_kOr, wp_dAndV, wp_kAndV, wp_kAndVb, wp_dOrV, wp_kOrV, wp_kOrVb, wp_dNotV, wp_kNotV, wp_kNotVb, wp_dIf, wp_kIf, wp_dChain, wp_kCh, wp_kCh2, wp_kCh3, wp_aNil, wp_aCons, wp_kCons, wp_kCons2, wp_dTup, wp_kTup, wp_dLst, wp_kLst, wp_dN, wp_kN, wp_dLs, wp_kLs, wp_lDisp, wp_kDisp, wp_lRng, wp_kRng, wp_dItR, wp_kItR, wp_dItS, wp_kItS, wp_tTrue, wp_oNo, wp_oSome, wp_kSome, wp_dSl, wp_kSl, wp_kSl1, wp_kSl2, ws_ret, ws_kRet, ws_expr, ws_kExpr, ws_if, ws_kIfS, ws_set, ws_kSet, ws_setO, ws_kSetO, ws_kSetT, ws_setR, ws_kSetR0, ws_kSetR1, ws_kSetR2, items_t, items_ft, items_l, items_r, setAll, Bool.not_true, Bool.not_false, if_true, ite_true, ite_false, ↓reduceIte, Bool.false_eq_true, Int.reduceLT, Int.reduceLE, Nat.reduceLT, Nat.reduceLeDiff, Nat.reducePow, Int.reducePow, Int.reduceToNat, Int.reduceNeg, Int.reduceSub, Int.reduceAdd, and_self, and_true, true_and, decide_eq_true_eq, decide_true, decide_false, List.length_map, ixN_31, ixN_32, ixN_30, wipeE, restE, lcQ, Option.getD_some, add_i, add_t, add_l, sub_i, mul_i, mul_t, mul_l, fdiv_i, mod_i, pow_18, neg_i, lt_i, le_i, gt_i, ge_i, eq_i, ne_i, eq_b, len_t, len_ft, len_l, len_r, abs_i, int_i, list_t, list_ft, list_l, list_r, tuple_t, tuple_ft, tuple_l, isi_i, isi_b, isi_s, isi_t, isi_ft, isi_l, isi_r, isi_n, tru_b, tru_i, tru_t, tru_ft, tru_l, tru_n, isN_n, isN_b, isN_i, isN_s, isN_t, isN_l, ix_t, ix_ft, ix_l, ix_r, ix_ref, setS_ref, atI_0, atI_1, atI_2, Option.map_some, Option.map_none, kb0, kb1, kb2, kb3, kb4, kb5, kb6, kb7, kb8, kb9, kb10, kb11, kb12, kb13, kb14, kb15, kb16, kb17, kb18, kb19, kb20, kb21, kb22, kb23, kb24, kb25, kb26, kb27, kb28, kb29, sz0, szl0, sz1, szl1, sz2, szl2, sz3, szl3, sz4, szl4, sz5, szl5, sz6, szl6, sz7, szl7, sz8, szl8, sz9, szl9, sz10, szl10, sz11, szl11, sz12, szl12, sz13, szl13, sz14, szl14, sz15, szl15, sz16, szl16, sz17, szl17, sz18, szl18, sz19, szl19, sz20, szl20, sz21, szl21, sz22, szl22, sz23, szl23, sz24, szl24, sz25, szl25, sz26, szl26, sz27, szl27, sz28, szl28, sz29, szl29, sz30, szl30, sz31, szl31, sz32, szl32, sz33, szl33, sz34, szl34, sz35, szl35, sz36, szl36, sz37, szl37, sz38, szl38, sz39, szl39, sz40, szl40]
  exact hq _ ⟨ns, 0, 0, rfl, by omega, by omega⟩
theorem wp_next {R S : Stor} {n : Int} {Q : OutF → Prop} (h : SInv R S) (h0 : 0 < n) (h1 : n < 1073741824) (hq : ∀ x S', 0 ≤ x → x < n → SInv R S' → Q (.ok (.int x) S')) : wpF d__law_next [.ref 0, .int n] S Q := by
  obtain ⟨ns, d, i, rfl, hd, hi⟩ := h
  unfold d__law_next
  refine wpF_go rfl ?_
  rw [wpS_seq]
  refine wpS_to (fun o => ∃ x y d' i', o = .nx [.v (.ref 0), .v (.int n), x, y, .un] (.lst [.lst (ns.map .int), .int d', .int i'] :: R) ∧ 0 ≤ d' ∧ 0 ≤ i') ?_ ?_
  · rw [ws_if]
    simp only [wp_dT, wp_d2, wp_dVar, wp_C, bq_ok, wp_k2, wp_k2b, wp_kT, List.map, List.replicate, List.cons_append, List.nil_append, List.getElem?_cons_zero, vQ_v, ix_ref, atI_1, oQ_some, eq_i, bqS_ok, ws_kIfS, decide_eq_true_eq, wpS_seq, wpS_next]
    by_cases hd0 : d = 0
    · rw [if_pos hd0]
      simp only [ws_set, wp_d2, wp_dVar, wp_C, bq_ok, wp_k2, wp_k2b, List.getElem?_cons_zero, List.getElem?_cons_succ, vQ_v, ix_ref, atI_2, oQ_some, bqS_ok, ws_kSet, sqS_nx, wpS_seq, List.set_cons_zero, List.set_cons_succ, add_i]
      refine wpS_to (fun o => ∃ y, o = .nx [.v (.ref 0), .v (.int n), .v (.int i), .v (.int y), .un] (.lst [.lst (ns.map .int), .int d, .int i] :: R) ∧ 0 ≤ y) ?_ ?_
      · simp only [List.map, List.replicate, List.cons_append, List.nil_append, List.length_cons, List.length_nil, Nat.reduceAdd, bq_ok, bq_ex, wp_pure, wp_fail, wp_getS, oQ_some, oQ_ite, bqS_ok, bqS_ex, wpS_seq, sqS_nx, sqS_rt, sqS_bk, sqS_ct, sqS_ex, wpS_next, wpS_break, wpS_cont, wpS_retN, wpS_setT, stQ_some, wp_C, wp_call, wp_callv, bqF_ok, bqF_ex, wp_new, wp_newv, fqS_nx, fqS_rt, fqS_ex, wpS_for, wp_comp, wp_dVar, vQ_v, vQ_o, List.getElem?_cons_zero, List.getElem?_cons_succ, List.set_cons_zero, List.set_cons_succ, wp_d1, wp_k1, wp_d2, wp_k2, wp_k2b, wp_dT, wp_kT, wp_dTru, wp_kTru, wp_dNotT, wp_kNot, wp_dAndT, wp_kAnd, wp_dOrT, wp_kOr, wp_dAndV, wp_kAndV, wp_kAndVb, wp_dOrV, wp_kOrV, wp_kOrVb, wp_dNotV, wp_kNotV, wp_kNotVb, wp_dIf, wp_kIf, wp_dChain, wp_kCh, wp_kCh2, wp_kCh3, wp_aNil, wp_aCons, wp_kCons, wp_kCons2, wp_dTup, wp_kTup, wp_dLst, wp_kLst, wp_dN, wp_kN, wp_dLs, wp_kLs, wp_lDisp, wp_kDisp, wp_lRng, wp_kRng, wp_dItR, wp_kItR, wp_dItS, wp_kItS, wp_tTrue, wp_oNo, wp_oSome, wp_kSome, wp_dSl, wp_kSl, wp_kSl1, wp_kSl2, ws_ret, ws_kRet, ws_expr, ws_kExpr, ws_if, ws_kIfS, ws_set, ws_kSet, ws_setO, ws_kSetO, ws_kSetT, ws_setR, ws_kSetR0, ws_kSetR1, ws_kSetR2, items_t, items_ft, items_l, items_r, setAll, Bool.not_true, Bool.not_false, if_true, ite_true, ite_false, ↓reduceIte, Bool.false_eq_true, Int.reduceLT, Int.reduceLE, Nat.reduceLT, Nat.reduceLeDiff, Nat.reducePow, Int.reducePow, Int.reduceToNat, Int.reduceNeg, Int.reduceSub, Int.reduceAdd, and_self, and_true, true_and, decide_eq_true_eq, decide_true, decide_false, List.length_map, ixN_31, ixN_32, ixN_30, wipeE, restE, lcQ, Option.getD_some, add_i, add_t, add_l, sub_i, mul_i, mul_t, mul_l, fdiv_i, mod_i, pow_18, neg_i, lt_i, le_i, gt_i, ge_i, eq_i, ne_i, eq_b, len_t, len_ft, len_l, len_r, abs_i, int_i, list_t, list_ft, list_l, list_r, tuple_t, tuple_ft, tuple_l, isi_i, isi_b, isi_s, isi_t, isi_ft, isi_l, isi_r, isi_n, tru_b, tru_i, tru_t, tru_ft, tru_l, tru_n, isN_n, isN_b, isN_i, isN_s, isN_t, isN_l, ix_t, ix_ft, ix_l, ix_r, ix_ref, setS_ref, atI_0, atI_1, atI_2, Option.map_some, Option.map_none, kb0, kb1, kb2, kb3, kb4, kb5, kb6, kb7, kb8, kb9, kb10, kb11, kb12, kb13, kb14, kb15, kb16, kb17, kb18, kb19, kb20, kb21, kb22, kb23, kb24, kb25, kb26, kb27, kb28, kb29, sz0, szl0, sz1, szl1, sz2, szl2, sz3, szl3, sz4, szl4, sz5, szl5, sz6, szl6, sz7, szl7, sz8, szl8, sz9, szl9, sz10, szl10, sz11, szl11, sz12, szl12, sz13, szl13, sz14, szl14, sz15, szl15, sz16, szl16, sz17, szl17, sz18, szl18, sz19, szl19, sz20, szl20, sz21, szl21, sz22, szl22, sz23, szl23, sz24, szl24, sz25, szl25, sz26, szl26, sz27, szl27, sz28, szl28, sz29, szl29, sz30, szl30, sz31, szl31, sz32, szl32, sz33, szl33, sz34, szl34, sz35, szl35, sz36, szl36, sz37, szl37, sz38, szl38, sz39, szl39, sz40, szl40]
        by_cases hl : i < ns.length
        · obtain ⟨x, hx⟩ := atI_ints hi hl
          simp only [List.map, List.replicate, List.cons_append, List.nil_append, List.length_cons, List.length_nil, Nat.reduceAdd, bq_ok, bq_ex, wp_pure, wp_fail, wp_getS, oQ_some, oQ_ite, bqS_ok, bqS_ex, wpS_seq, sqS_nx, sqS_rt, sqS_bk, sqS_ct, sqS_ex, wpS_next, wpS_break, wpS_cont, wpS_retN, wpS_setT, stQ_some, wp_C, wp_call, wp_callv, bqF_ok, bqF_ex, wp_new, wp_newv, fqS_nx, fqS_rt, fqS_ex, wpS_for, wp_comp, wp_dVar, vQ_v, vQ_o, List.getElem?_cons_zero, List.getElem?_cons_succ, List.set_cons_zero, List.set_cons_succ, wp_d1, wp_k1, wp_d2, wp_k2, wp_k2b, wp_dT, wp_kT, wp_dTru, wp_kTru, wp_dNotT, wp_kNot, wp_dAndT, wp_kAnd, wp_dOrT, wp_kOr, wp_dAndV, wp_kAndV, wp_kAndVb, wp_dOrV, wp_kOrV, wp_kOrVb, wp_dNotV, wp_kNotV, wp_kNotVb, wp_dIf, wp_kIf, wp_dChain, wp_kCh, wp_kCh2, wp_kCh3, wp_aNil, wp_aCons, wp_kCons, wp_kCons2, wp_dTup, wp_kTup, wp_dLst, wp_kLst, wp_dN, wp_kN, wp_dLs, wp_kLs, wp_lDisp, wp_kDisp, wp_lRng, wp_kRng, wp_dItR, wp_kItR, wp_dItS, wp_kItS, wp_tTrue, wp_oNo, wp_oSome, wp_kSome, wp_dSl, wp_kSl, wp_kSl1, wp_kSl2, ws_ret, ws_kRet, ws_expr, ws_kExpr, ws_if, ws_kIfS, ws_set, ws_kSet, ws_setO, ws_kSetO, ws_kSetT, ws_setR, ws_kSetR0, ws_kSetR1, ws_kSetR2, items_t, items_ft, items_l, items_r, setAll, Bool.not_true, Bool.not_false, if_true, ite_true, ite_false, ↓reduceIte, Bool.false_eq_true, Int.reduceLT, Int.reduceLE, Nat.reduceLT, Nat.reduceLeDiff, Nat.reducePow, Int.reducePow, Int.reduceToNat, Int.reduceNeg, Int.reduceSub, Int.reduceAdd, and_self, and_true, true_and, decide_eq_true_eq, decide_true, decide_false, List.length_map, ixN_31, ixN_32, ixN_30, wipeE, restE, lcQ, Option.getD_some, add_i, add_t, add_l, sub_i, mul_i, mul_t, mul_l, fdiv_i, mod_i, pow_18, neg_i, lt_i, le_i, gt_i, ge_i, eq_i, ne_i, eq_b, len_t, len_ft, len_l, len_r, abs_i, int_i, list_t, list_ft, list_l, list_r, tuple_t, tuple_ft, tuple_l, isi_i, isi_b, isi_s, isi_t, isi_ft, isi_l, isi_r, isi_n, tru_b, tru_i, tru_t, tru_ft, tru_l, tru_n, isN_n, isN_b, isN_i, isN_s, isN_t, isN_l, ix_t, ix_ft, ix_l, ix_r, ix_ref, setS_ref, atI_0, atI_1, atI_2, Option.map_some, Option.map_none, kb0, kb1, kb2, kb3, kb4, kb5, kb6, kb7, kb8, kb9, kb10, kb11, kb12, kb13, kb14, kb15, kb16, kb17, kb18, kb19, kb20, kb21, kb22, kb23, kb24, kb25, kb26, kb27, kb28, kb29, sz0, szl0, sz1, szl1, sz2, szl2, sz3, szl3, sz4, szl4, sz5, szl5, sz6, szl6, sz7, szl7, sz8, szl8, sz9, szl9, sz10, szl10, sz11, szl11, sz12, szl12, sz13, szl13, sz14, szl14, sz15, szl15, sz16, szl16, sz17, szl17, sz18, szl18, sz19, szl19, sz20, szl20, sz21, szl21, sz22, szl22, sz23, szl23, sz24, szl24, sz25, szl25, sz26, szl26, sz27, szl27, sz28, szl28, sz29, szl29, sz30, szl30, sz31, szl31, sz32, szl32, sz33, szl33, sz34, szl34, sz35, szl35, sz36, szl36, sz37, szl37, sz38, szl38, sz39, szl39, sz40, szl40, hl, hx]
          exact ⟨_, rfl, by split <;> omega⟩
        · simp only [List.map, List.replicate, List.cons_append, List.nil_append, List.length_cons, List.length_nil, Nat.reduceAdd, bq_ok, bq_ex, wp_pure, wp_fail, wp_getS, oQ_some, oQ_ite, bqS_ok, bqS_ex, wpS_seq, sqS_nx, sqS_rt, sqS_bk, sqS_ct, sqS_ex, wpS_next, wpS_break, wpS_cont, wpS_retN, wpS_setT, stQ_some, wp_C, wp_call, wp_callv, bqF_ok, bqF_ex, wp_new, wp_newv, fqS_nx, fqS_rt, fqS_ex, wpS_for, wp_comp, wp_dVar, vQ_v, vQ_o, List.getElem?_cons_zero, List.getElem?_cons_succ, List.set_cons_zero, List.set_cons_succ, wp_d1, wp_k1, wp_d2, wp_k2, wp_k2b, wp_dT, wp_kT, wp_dTru, wp_kTru, wp_dNotT, wp_kNot, wp_dAndT, wp_kAnd, wp_dOrT, wp_kOr, wp_dAndV, wp_kAndV, wp_kAndVb, wp_dOrV, wp_kOrV, wp_kOrVb, wp_dNotV, wp_kNotV, wp_kNotVb, wp_dIf, wp_kIf, wp_dChain, wp_kCh, wp_kCh2, wp_kCh3, wp_aNil, wp_aCons, wp_kCons, wp_kCons2, wp_dTup, wp_kTup, wp_dLst, wp_kLst, wp_dN, wp_kN, wp_dLs, wp_kLs, wp_lDisp, wp_kDisp, wp_lRng, wp_kRng, wp_dItR, wp_kItR, wp_dItS, wp_kItS, wp_tTrue, wp_oNo, wp_oSome, wp_kSome, wp_dSl, wp_kSl, wp_kSl1, wp_kSl2, ws_ret, ws_kRet, ws_expr, ws_kExpr, ws_if, ws_kIfS, ws_set, ws_kSet, ws_setO, ws_kSetO, ws_kSetT, ws_setR, ws_kSetR0, ws_kSetR1, ws_kSetR2, items_t, items_ft, items_l, items_r, setAll, Bool.not_true, Bool.not_false, if_true, ite_true, ite_false, ↓reduceIte, Bool.false_eq_true, Int.reduceLT, Int.reduceLE, Nat.reduceLT, Nat.reduceLeDiff, Nat.reducePow, Int.reducePow, Int.reduceToNat, Int.reduceNeg, Int.reduceSub, Int.reduceAdd, and_self, and_true, true_and, decide_eq_true_eq, decide_true, decide_false, List.length_map, ixN_31, ixN_32, ixN_30, wipeE, restE, lcQ, Option.getD_some, add_i, add_t, add_l, sub_i, mul_i, mul_t, mul_l, fdiv_i, mod_i, pow_18, neg_i, lt_i, le_i, gt_i, ge_i, eq_i, ne_i, eq_b, len_t, len_ft, len_l, len_r, abs_i, int_i, list_t, list_ft, list_l, list_r, tuple_t, tuple_ft, tuple_l, isi_i, isi_b, isi_s, isi_t, isi_ft, isi_l, isi_r, isi_n, tru_b, tru_i, tru_t, tru_ft, tru_l, tru_n, isN_n, isN_b, isN_i, isN_s, isN_t, isN_l, ix_t, ix_ft, ix_l, ix_r, ix_ref, setS_ref, atI_0, atI_1, atI_2, Option.map_some, Option.map_none, kb0, kb1, kb2, kb3, kb4, kb5, kb6, kb7, kb8, kb9, kb10, kb11, kb12, kb13, kb14, kb15, kb16, kb17, kb18, kb19, kb20, kb21, kb22, kb23, kb24, kb25, kb26, kb27, kb28, kb29, sz0, szl0, sz1, szl1, sz2, szl2, sz3, szl3, sz4, szl4, sz5, szl5, sz6, szl6, sz7, szl7, sz8, szl8, sz9, szl9, sz10, szl10, sz11, szl11, sz12, szl12, sz13, szl13, sz14, szl14, sz15, szl15, sz16, szl16, sz17, szl17, sz18, szl18, sz19, szl19, sz20, szl20, sz21, szl21, sz22, szl22, sz23, szl23, sz24, szl24, sz25, szl25, sz26, szl26, sz27, szl27, sz28, szl28, sz29, szl29, sz30, szl30, sz31, szl31, sz32, szl32, sz33, szl33, sz34, szl34, sz35, szl35, sz36, szl36, sz37, szl37, sz38, szl38, sz39, szl39, sz40, szl40, hl]
          exact ⟨_, rfl, by omega⟩
      · rintro o ⟨y, rfl, hy⟩
        rw [sqS_nx, wpS_seq]
        refine wpS_to (fun o => ∃ y, o = .nx [.v (.ref 0), .v (.int n), .v (.int i), .v (.int y), .un] (.lst [.lst (ns.map .int), .int d, .int i] :: R) ∧ 0 ≤ y) ?_ ?_
        · simp only [List.map, List.replicate, List.cons_append, List.nil_append, List.length_cons, List.length_nil, Nat.reduceAdd, bq_ok, bq_ex, wp_pure, wp_fail, wp_getS, oQ_some, oQ_ite, bqS_ok, bqS_ex, wpS_seq, sqS_nx, sqS_rt, sqS_bk, sqS_ct, sqS_ex, wpS_next, wpS_break, wpS_cont, wpS_retN, wpS_setT, stQ_some, wp_C, wp_call, wp_callv, bqF_ok, bqF_ex, wp_new, wp_newv, fqS_nx, fqS_rt, fqS_ex, wpS_for, wp_comp, wp_dVar, vQ_v, vQ_o, List.getElem?_cons_zero, List.getElem?_cons_succ, List.set_cons_zero, List.set_cons_succ, wp_d1, wp_k1, wp_d2, wp_k2, wp_k2b, wp_dT, wp_kT, wp_dTru, wp_kTru, wp_dNotT, wp_kNot, wp_dAndT, wp_kAnd, wp_dOrT, wp_kOr, wp_dAndV, wp_kAndV, wp_kAndVb, wp_dOrV, wp_kOrV, wp_kOrVb, wp_dNotV, wp_kNotV, wp_kNotVb, wp_dIf, wp_kIf, wp_dChain, wp_kCh, wp_kCh2, wp_kCh3, wp_aNil, wp_aCons, wp_kCons, wp_kCons2, wp_dTup, wp_kTup, wp_dLst, wp_kLst, wp_dN, wp_kN, wp_dLs, wp_kLs, wp_lDisp, wp_kDisp, wp_lRng, wp_kRng, wp_dItR, wp_kItR, wp_dItS, wp_kItS, wp_tTrue, wp_oNo, wp_oSome, wp_kSome, wp_dSl, wp_kSl, wp_kSl1, wp_kSl2, ws_ret, ws_kRet, ws_expr, ws_kExpr, ws_if, ws_kIfS, ws_set, ws_kSet, ws_setO, ws_kSetO, ws_kSetT, ws_setR, ws_kSetR0, ws_kSetR1, ws_kSetR2, items_t, items_ft, items_l, items_r, setAll, Bool.not_true, Bool.not_false, if_true, ite_true, ite_false, ↓reduceIte, Bool.false_eq_true, Int.reduceLT, Int.reduceLE, Nat.reduceLT, Nat.reduceLeDiff, Nat.reducePow, Int.reducePow, Int.reduceToNat, Int.reduceNeg, Int.reduceSub, Int.reduceAdd, and_self, and_true, true_and, decide_eq_true_eq, decide_true, decide_false, List.length_map, ixN_31, ixN_32, ixN_30, wipeE, restE, lcQ, Option.getD_some, add_i, add_t, add_l, sub_i, mul_i, mul_t, mul_l, fdiv_i, mod_i, pow_18, neg_i, lt_i, le_i, gt_i, ge_i, eq_i, ne_i, eq_b, len_t, len_ft, len_l, len_r, abs_i, int_i, list_t, list_ft, list_l, list_r, tuple_t, tuple_ft, tuple_l, isi_i, isi_b, isi_s, isi_t, isi_ft, isi_l, isi_r, isi_n, tru_b, tru_i, tru_t, tru_ft, tru_l, tru_n, isN_n, isN_b, isN_i, isN_s, isN_t, isN_l, ix_t, ix_ft, ix_l, ix_r, ix_ref, setS_ref, atI_0, atI_1, atI_2, Option.map_some, Option.map_none, kb0, kb1, kb2, kb3, kb4, kb5, kb6, kb7, kb8, kb9, kb10, kb11, kb12, kb13, kb14, kb15, kb16, kb17, kb18, kb19, kb20, kb21, kb22, kb23, kb24, kb25, kb26, kb27, kb28, kb29, sz0, szl0, sz1, szl1, sz2, szl2, sz3, szl3, sz4, szl4, sz5, szl5, sz6, szl6, sz7, szl7, sz8, szl8, sz9, szl9, sz10, szl10, sz11, szl11, sz12, szl12, sz13, szl13, sz14, szl14, sz15, szl15, sz16, szl16, sz17, szl17, sz18, szl18, sz19, szl19, sz20, szl20, sz21, szl21, sz22, szl22, sz23, szl23, sz24, szl24, sz25, szl25, sz26, szl26, sz27, szl27, sz28, szl28, sz29, szl29, sz30, szl30, sz31, szl31, sz32, szl32, sz33, szl33, sz34, szl34, sz35, szl35, sz36, szl36, sz37, szl37, sz38, szl38, sz39, szl39, sz40, szl40, mok1, mok2, mok3, mok4]
          split
          · exact ⟨_, rfl, by omega⟩
          · exact ⟨_, rfl, hy⟩
        · rintro o ⟨y, rfl, hy⟩
          simp only [List.map, List.replicate, List.cons_append, List.nil_append, List.length_cons, List.length_nil, Nat.reduceAdd, bq_ok, bq_ex, wp_pure, wp_fail, wp_getS, oQ_some, oQ_ite, bqS_ok, bqS_ex, wpS_seq, sqS_nx, sqS_rt, sqS_bk, sqS_ct, sqS_ex, wpS_next, wpS_break, wpS_cont, wpS_retN, wpS_setT, stQ_some, wp_C, wp_call, wp_callv, bqF_ok, bqF_ex, wp_new, wp_newv, fqS_nx, fqS_rt, fqS_ex, wpS_for, wp_comp, wp_dVar, vQ_v, vQ_o, List.getElem?_cons_zero, List.getElem?_cons_succ, List.set_cons_zero, List.set_cons_succ, wp_d1, wp_k1, wp_d2, wp_k2, wp_k2b, wp_dT, wp_kT, wp_dTru, wp_kTru, wp_dNotT, wp_kNot, wp_dAndT, wp_kAnd, wp_dOrT, wp_kOr, wp_dAndV, wp_kAndV, wp_kAndVb, wp_dOrV, wp_kOrV, wp_kOrVb, wp_dNotV, wp_kNotV, wp_kNotVb, wp_dIf, wp_kIf, wp_dChain, wp_kCh, wp_kCh2, wp_kCh3, wp_aNil, wp_aCons, wp_kCons, wp_kCons2, wp_dTup, wp_kTup, wp_dLst, wp_kLst, wp_dN, wp_kN, wp_dLs, wp_kLs, wp_lDisp, wp_kDisp, wp_lRng, wp_kRng, wp_dItR, wp_kItR, wp_dItS, wp_kItS, wp_tTrue, wp_oNo, wp_oSome, wp_kSome, wp_dSl, wp_kSl, wp_kSl1, wp_kSl2, ws_ret, ws_kRet, ws_expr, ws_kExpr, ws_if, ws_kIfS, ws_set, ws_kSet, ws_setO, ws_kSetO, ws_kSetT, ws_setR, ws_kSetR0, ws_kSetR1, ws_kSetR2, items_t, items_ft, items_l, items_r, setAll, Bool.not_true, Bool.not_false, if_true, ite_true, ite_false, ↓reduceIte, Bool.false_eq_true, Int.reduceLT, Int.reduceLE, Nat.reduceLT, Nat.reduceLeDiff, Nat.reducePow, Int.reducePow, Int.reduceToNat, Int.reduceNeg, Int.reduceSub, Int.reduceAdd, and_self, and_true, true_and, decide_eq_true_eq, decide_true, decide_false, List.length_map, ixN_31, ixN_32, ixN_30, wipeE, restE, lcQ, Option.getD_some, add_i, add_t, add_l, sub_i, mul_i, mul_t, mul_l, fdiv_i, mod_i, pow_18, neg_i, lt_i, le_i, gt_i, ge_i, eq_i, ne_i, eq_b, len_t, len_ft, len_l, len_r, abs_i, int_i, list_t, list_ft, list_l, list_r, tuple_t, tuple_ft, tuple_l, isi_i, isi_b, isi_s, isi_t, isi_ft, isi_l, isi_r, isi_n, tru_b, tru_i, tru_t, tru_ft, tru_l, tru_n, isN_n, isN_b, isN_i, isN_s, isN_t, isN_l, ix_t, ix_ft, ix_l, ix_r, ix_ref, setS_ref, atI_0, atI_1, atI_2, Option.map_some, Option.map_none, kb0, kb1, kb2, kb3, kb4, kb5, kb6, kb7, kb8, kb9, kb10, kb11, kb12, kb13, kb14, kb15, kb16, kb17, kb18, kb19, kb20, kb21, kb22, kb23, kb24, kb25, kb26, kb27, kb28, kb29, sz0, szl0, sz1, szl1, sz2, szl2, sz3, szl3, sz4, szl4, sz5, szl5, sz6, szl6, sz7, szl7, sz8, szl8, sz9, szl9, sz10, szl10, sz11, szl11, sz12, szl12, sz13, szl13, sz14, szl14, sz15, szl15, sz16, szl16, sz17, szl17, sz18, szl18, sz19, szl19, sz20, szl20, sz21, szl21, sz22, szl22, sz23, szl23, sz24, szl24, sz25, szl25, sz26, szl26, sz27, szl27, sz28, szl28, sz29, szl29, sz30, szl30, sz31, szl31, sz32, szl32, sz33, szl33, sz34, szl34, sz35, szl35, sz36, szl36, sz37, szl37, sz38, szl38, sz39, szl39, sz40, szl40]
          exact ⟨_, _, _, _, rfl, hy, by omega⟩
    · rw [if_neg hd0]
      exact ⟨_, _, d, i, rfl, hd, hi⟩
  · rintro o ⟨x, y, d', i', rfl, hd', hi'⟩
    simp only [List.map, List.replicate, List.cons_append, List.nil_append, List.length_cons, List.length_nil, Nat.reduceAdd, bq_ok, bq_ex, wp_pure, wp_fail, wp_getS, oQ_some, oQ_ite, bqS_ok, bqS_ex, wpS_seq, sqS_nx, sqS_rt, sqS_bk, sqS_ct, sqS_ex, wpS_next, wpS_break, wpS_cont, wpS_retN, wpS_setT, stQ_some, wp_C, wp_call, wp_callv, bqF_ok, bqF_ex, wp_new, wp_newv, fqS_nx, fqS_rt, fqS_ex, wpS_for, wp_comp, wp_dVar, vQ_v, vQ_o, List.getElem?_cons_zero, List.getElem?_cons_succ, List.set_cons_zero, List.set_cons_succ, wp_d1, wp_k1, wp_d2, wp_k2, wp_k2b, wp_dT, wp_kT, wp_dTru, wp_kTru, wp_dNotT, wp_kNot, wp_dAndT, wp_kAnd, wp_dOrT, wp_kOr, wp_dAndV, wp_kAndV, wp_kAndVb, wp_dOrV, wp_kOrV, wp_kOrVb, wp_dNotV, wp_kNotV, wp_kNotVb, wp_dIf, wp_kIf, wp_dChain, wp_kCh, wp_kCh2, wp_kCh3, wp_aNil, wp_aCons, wp_kCons, wp_kCons2, wp_dTup, wp_kTup, wp_dLst, wp_kLst, wp_dN, wp_kN, wp_dLs, wp_kLs, wp_lDisp, wp_kDisp, wp_lRng, wp_kRng, wp_dItR, wp_kItR, wp_dItS, wp_kItS, wp_tTrue, wp_oNo, wp_oSome, wp_kSome, wp_dSl, wp_kSl, wp_kSl1, wp_kSl2, ws_ret, ws_kRet, ws_expr, ws_kExpr, ws_if, ws_kIfS, ws_set, ws_kSet, ws_setO, ws_kSetO, ws_kSetT, ws_setR, ws_kSetR0, ws_kSetR1, ws_kSetR2, items_t, items_ft, items_l, items_r, setAll, Bool.not_true, Bool.not_false, if_true, ite_true, ite_false, ↓reduceIte, Bool.false_eq_true, Int.reduceLT, Int.reduceLE, Nat.reduceLT, Nat.reduceLeDiff, Nat.reducePow, Int.reducePow, Int.reduceToNat, Int.reduceNeg, Int.reduceSub, Int.reduceAdd, and_self, and_true, true_and, decide_eq_true_eq, decide_true, decide_false, List.length_map, ixN_31, ixN_32, ixN_30, wipeE, restE, lcQ, Option.getD_some, add_i, add_t, add_l, sub_i, mul_i, mul_t, mul_l, fdiv_i, mod_i, pow_18, neg_i, lt_i, le_i, gt_i, ge_i, eq_i, ne_i, eq_b, len_t, len_ft, len_l, len_r, abs_i, int_i, list_t, list_ft, list_l, list_r, tuple_t, tuple_ft, tuple_l, isi_i, isi_b, isi_s, isi_t, isi_ft, isi_l, isi_r, isi_n, tru_b, tru_i, tru_t, tru_ft, tru_l, tru_n, isN_n, isN_b, isN_i, isN_s, isN_t, isN_l, ix_t, ix_ft, ix_l, ix_r, ix_ref, setS_ref, atI_0, atI_1, atI_2, Option.map_some, Option.map_none, kb0, kb1, kb2, kb3, kb4, kb5, kb6, kb7, kb8, kb9, kb10, kb11, kb12, kb13, kb14, kb15, kb16, kb17, kb18, kb19, kb20, kb21, kb22, kb23, kb24, kb25, kb26, kb27, kb28, kb29, sz0, szl0, sz1, szl1, sz2, szl2, sz3, szl3, sz4, szl4, sz5, szl5, sz6, szl6, sz7, szl7, sz8, szl8, sz9, szl9, sz10, szl10, sz11, szl11, sz12, szl12, sz13, szl13, sz14, szl14, sz15, szl15, sz16, szl16, sz17, szl17, sz18, szl18, sz19, szl19, sz20, szl20, sz21, szl21, sz22, szl22, sz23, szl23, sz24, szl24, sz25, szl25, sz26, szl26, sz27, szl27, sz28, szl28, sz29, szl29, sz30, szl30, sz31, szl31, sz32, szl32, sz33, szl33, sz34, szl34, sz35, szl35, sz36, szl36, sz37, szl37, sz38, szl38, sz39, szl39, sz40, szl40, h0, h1]
    exact hq _ _ (Int.emod_nonneg _ (by omega)) (Int.emod_lt_of_pos _ h0) ⟨ns, d' / n, i', rfl, Int.ediv_nonneg hd' (by omega), hi'⟩
end Dn
end
section
set_option Elab.async false
set_option linter.all false
set_option maxRecDepth 100000
set_option maxHeartbeats 1000000
namespace Dn
open PySem L2
/-! ### systems -/
def encC (c : List Int) : PV := .tup (c.map .int)
def In (n x : Int) : Prop := 0 ≤ x ∧ x < n
structure GC (n : Int) (c : List Int) : Prop where
  len : (c.length : Int) = n
  mem : ∀ x ∈ c, In n x
structure GS (most mc : Int) (n s : Int) (cs : List (List Int)) : Prop where
  lo : 1 ≤ n
  hi : n ≤ most
  st : In n s
  len : (cs.length : Int) ≤ mc
  mem : ∀ c ∈ cs, GC n c
end Dn
end
section
set_option Elab.async false
set_option linter.all false
set_option maxRecDepth 100000
set_option maxHeartbeats 1000000
namespace Dn
open PySem L2
theorem wp_compP {i : Nat} {de : DE} {e : DEnv} {S : Stor} {Q : Out (List PV) → Prop} {ps : List PV} (f : PV → PV) (hn : noOwn e [i] = true) (hr : restE e [i] (wipeE e [i]) = e) (hw : ∀ p, wipeE ((wipeE e [i]).set i (.v p)) [i] = wipeE e [i])
    (hl : ps.length ≤ sizeLine) (h : ∀ p ∈ ps, wp de ((wipeE e [i]).set i (.v p)) S fun o => o = .ok (f p) ((wipeE e [i]).set i (.v p)) S)
    (hq : Q (.ok (ps.map f) e S)) : wp (kComp [i] (tgN i) tTrue de ps) e S Q := by
  refine wp_compD (fun S' => S' = S) (fun p v => v = f p) hn hr hw rfl hl (fun p hp S' hS => ?_) fun vs S' hf hS => ?_
  · subst hS
    exact ⟨_, _, h p hp, rfl, rfl⟩
  · subst hS
    rw [hf.map]
    exact hq
/-! ### data -/
mutual
def plP : PV → Bool
  | .non => true
  | .bl _ => true
  | .int _ => true
  | .str x => PySem.PyData.canLay0 (.str x)
  | .tup xs => plsP xs
  | .lst xs => plsP xs
  | _ => false
def plsP : List PV → Bool
  | [] => true
  | x :: xs => plP x && plsP xs
end
theorem plsP_mem : ∀ {xs : List PV}, plsP xs = true → ∀ x ∈ xs, plP x = true
  | [], _, x, h => nomatch h
  | y :: ys, h, x, hx => by
    unfold plsP at h
    rw [Bool.and_eq_true] at h
    rcases List.mem_cons.mp hx with rfl | hx
    · exact h.1
    · exact plsP_mem h.2 x hx
theorem bls_map {f : PV → Bool} : ∀ xs : List PV, blsP (xs.map fun p => .bl (f p)) = some (xs.map f)
  | [] => rfl
  | x :: xs => by rw [List.map_cons, List.map_cons]; unfold blsP; rw [bls_map xs]; rfl
theorem all_map {S : Stor} {f : PV → Bool} {xs : List PV} : allP S [.lst (xs.map fun p => .bl (f p))] = some (.bl (xs.all f)) := by
  unfold allP; dsimp only; rw [bls_map, Option.map_some, List.all_map]; rfl
/-! ### checks -/
end Dn
end
section
set_option Elab.async false
set_option linter.all false
set_option maxRecDepth 100000
set_option maxHeartbeats 1000000
namespace Dn
open PySem L2
/-! ### equality of data -/
mutual
def dpP : PV → Nat
  | .tup xs => dpsP xs + 1
  | .lst xs => dpsP xs + 1
  | _ => 0
def dpsP : List PV → Nat
  | [] => 0
  | x :: xs => max (dpP x) (dpsP xs)
end
mutual
def szP : PV → Bool
  | .tup xs => decide (xs.length ≤ 1000000) && szsP xs
  | .lst xs => decide (xs.length ≤ 1000000) && szsP xs
  | _ => true
def szsP : List PV → Bool
  | [] => true
  | x :: xs => szP x && szsP xs
end
mutual
def eqD : PV → PV → Bool
  | .non, .non => true
  | .bl a, .bl b => a == b
  | .int a, .int b => decide (a = b)
  | .str a, .str b => a == b
  | .tup xs, .tup ys => eqDs xs ys
  | .lst xs, .lst ys => eqDs xs ys
  | _, _ => false
def eqDs : List PV → List PV → Bool
  | [], [] => true
  | x :: xs, y :: ys => eqD x y && eqDs xs ys
  | _, _ => false
end
theorem eqDs_len : ∀ {xs ys : List PV}, xs.length ≠ ys.length → eqDs xs ys = false
  | [], [], h => absurd rfl h
  | [], _ :: _, _ => rfl
  | _ :: _, [], _ => rfl
  | x :: xs, y :: ys, h => by
    unfold eqDs
    rw [eqDs_len (xs := xs) (ys := ys) fun z => h (by rw [List.length_cons, List.length_cons, z]), Bool.and_false]
mutual
theorem eqD_refl : ∀ p : PV, plP p = true → eqD p p = true
  | .non, _ => rfl
  | .bl b, _ => by unfold eqD; simp
  | .int b, _ => by unfold eqD; simp
  | .str b, _ => by unfold eqD; simp
  | .tup xs, h => by unfold eqD; exact eqDs_refl xs (by unfold plP at h; exact h)
  | .lst xs, h => by unfold eqD; exact eqDs_refl xs (by unfold plP at h; exact h)
  | .dk _, h => by cases h
  | .dt _, h => by cases h
  | .ref _, h => by cases h
  | .rol _, h => by cases h
  | .ftp _, h => by cases h
theorem eqDs_refl : ∀ xs : List PV, plsP xs = true → eqDs xs xs = true
  | [], _ => rfl
  | x :: xs, h => by
    unfold plsP at h; rw [Bool.and_eq_true] at h
    unfold eqDs; rw [eqD_refl x h.1, eqDs_refl xs h.2]; rfl
end
theorem dps_mem : ∀ {xs : List PV} {x : PV}, x ∈ xs → dpP x ≤ dpsP xs
  | [], _, h => nomatch h
  | y :: ys, x, h => by
    unfold dpsP
    rcases List.mem_cons.mp h with rfl | h
    · exact Nat.le_max_left _ _
    · exact Nat.le_trans (dps_mem h) (Nat.le_max_right _ _)
theorem szs_mem : ∀ {xs : List PV} {x : PV}, szsP xs = true → x ∈ xs → szP x = true
  | [], _, _, h => nomatch h
  | y :: ys, x, hs, h => by
    unfold szsP at hs; rw [Bool.and_eq_true] at hs
    rcases List.mem_cons.mp h with rfl | h
    · exact hs.1
    · exact szs_mem hs.2 h
/-- by their places -/
def atE (xs ys : List PV) (p : PV) : Bool := match p with
  | .int i => eqD (xs.getD i.toNat .non) (ys.getD i.toNat .non)
  | _ => false
theorem all_atE : ∀ (xs ys : List PV), xs.length = ys.length → (rngPV ys.length).all (atE xs ys) = eqDs xs ys := by
  have key : ∀ (xs ys : List PV) (n : Nat), xs.length = n → ys.length = n → ((List.range n).all fun i => eqD (xs.getD i .non) (ys.getD i .non)) = eqDs xs ys := by
    intro xs
    induction xs with
    | nil => intro ys n h1 h2; subst h1; rw [List.eq_nil_of_length_eq_zero h2]; rfl
    | cons x xs ih =>
      intro ys n h1 h2
      cases ys with
      | nil => rw [← h2] at h1; cases h1
      | cons y ys =>
        cases n with
        | zero => cases h1
        | succ n =>
          rw [List.range_succ_eq_map, List.all_cons, List.all_map]
          unfold eqDs
          congr 1
          exact ih ys n (by simpa using h1) (by simpa using h2)
  intro xs ys h
  unfold rngPV
  rw [List.all_map, ← key xs ys ys.length h rfl]
  rfl
theorem eq_s {S : Stor} {x y : Str} (hx : PyData.canLay0 (.str x) = true) (hy : PyData.canLay0 (.str y) = true) : eqP S (.str x) (.str y) = some (.bl (x == y)) := by
  unfold eqP toD; dsimp only
  rw [if_pos ⟨by unfold SeqAt.shaped; rw [hx]; rfl, by unfold SeqAt.shaped; rw [hy]; rfl⟩]
  unfold PyData.eqv; rfl
theorem wp_is_integer {p : PV} {S : Stor} {Q : OutF → Prop} (h : plP p = true) (hq : Q (.ok (.bl (match p with | .int _ => true | _ => false)) S)) : wpF d__law_is_integer [p] S Q := by
  unfold d__law_is_integer
  refine wpF_go rfl ?_
  cases p with
  | dk _ => cases h
  | dt _ => cases h
  | ref _ => cases h
  | rol _ => cases h
  | ftp _ => cases h
  | _ => simp only [List.map, List.replicate, List.cons_append, List.nil_append, List.length_cons, List.length_nil, Nat.reduceAdd, bq_ok, bq_ex, wp_pure, wp_fail, wp_getS, oQ_some, oQ_ite, bqS_ok, bqS_ex, wpS_seq, sqS_nx, sqS_rt, sqS_bk, sqS_ct, sqS_ex, wpS_next, wpS_break, wpS_cont, wpS_retN, wpS_setT, stQ_some, wp_C, wp_call, wp_callv, bqF_ok, bqF_ex, wp_new, wp_newv, fqS_nx, fqS_rt, fqS_ex, wpS_for, wp_comp, wp_dVar, vQ_v, vQ_o, List.getElem?_cons_zero, List.getElem?_cons_succ, List.set_cons_zero, List.set_cons_succ, wp_d1, wp_k1, wp_d2, wp_k2, wp_k2b, wp_dT, wp_kT, wp_dTru, wp_kTru, wp_dNotT, wp_kNot, wp_dAndT, wp_kAnd, wp_dOrT, wp_kOr, wp_dAndV, wp_kAndV, wp_kAndVb, wp_dOrV, wp_kOrV, wp_kOrVb, wp_dNotV, wp_kNotV, wp_kNotVb, wp_dIf, wp_kIf, wp_dChain, wp_kCh, wp_kCh2, wp_kCh3, wp_aNil, wp_aCons, wp_kCons, wp_kCons2, wp_dTup, wp_kTup, wp_dLst, wp_kLst, wp_dN, wp_kN, wp_dLs, wp_kLs, wp_lDisp, wp_kDisp, wp_lRng, wp_kRng, wp_dItR, wp_kItR, wp_dItS, wp_kItS, wp_tTrue, wp_oNo, wp_oSome, wp_kSome, wp_dSl, wp_kSl, wp_kSl1, wp_kSl2, ws_ret, ws_kRet, ws_expr, ws_kExpr, ws_if, ws_kIfS, ws_set, ws_kSet, ws_setO, ws_kSetO, ws_kSetT, ws_setR, ws_kSetR0, ws_kSetR1, ws_kSetR2, items_t, items_ft, items_l, items_r, setAll, Bool.not_true, Bool.not_false, if_true, ite_true, ite_false, ↓reduceIte, Bool.false_eq_true, Int.reduceLT, Int.reduceLE, Nat.reduceLT, Nat.reduceLeDiff, Nat.reducePow, Int.reducePow, Int.reduceToNat, Int.reduceNeg, Int.reduceSub, Int.reduceAdd, and_self, and_true, true_and, decide_eq_true_eq, decide_true, decide_false, List.length_map, ixN_31, ixN_32, ixN_30, wipeE, restE, lcQ, Option.getD_some, add_i, add_t, add_l, sub_i, mul_i, mul_t, mul_l, fdiv_i, mod_i, pow_18, neg_i, lt_i, le_i, gt_i, ge_i, eq_i, ne_i, eq_b, len_t, len_ft, len_l, len_r, abs_i, int_i, list_t, list_ft, list_l, list_r, tuple_t, tuple_ft, tuple_l, isi_i, isi_b, isi_s, isi_t, isi_ft, isi_l, isi_r, isi_n, tru_b, tru_i, tru_t, tru_ft, tru_l, tru_n, isN_n, isN_b, isN_i, isN_s, isN_t, isN_l, ix_t, ix_ft, ix_l, ix_r, ix_ref, setS_ref, atI_0, atI_1, atI_2, Option.map_some, Option.map_none, kb0, kb1, kb2, kb3, kb4, kb5, kb6, kb7, kb8, kb9, kb10, kb11, kb12, kb13, kb14, kb15, kb16, kb17, kb18, kb19, kb20, kb21, kb22, kb23, kb24, kb25, kb26, kb27, kb28, kb29, sz0, szl0, sz1, szl1, sz2, szl2, sz3, szl3, sz4, szl4, sz5, szl5, sz6, szl6, sz7, szl7, sz8, szl8, sz9, szl9, sz10, szl10, sz11, szl11, sz12, szl12, sz13, szl13, sz14, szl14, sz15, szl15, sz16, szl16, sz17, szl17, sz18, szl18, sz19, szl19, sz20, szl20, sz21, szl21, sz22, szl22, sz23, szl23, sz24, szl24, sz25, szl25, sz26, szl26, sz27, szl27, sz28, szl28, sz29, szl29, sz30, szl30, sz31, szl31, sz32, szl32, sz33, szl33, sz34, szl34, sz35, szl35, sz36, szl36, sz37, szl37, sz38, szl38, sz39, szl39, sz40, szl40]; exact hq
theorem wp_equal_f {S : Stor} : ∀ (n : Nat) {a b : PV} {Q : OutF → Prop}, plP a = true → plP b = true → szP b = true → dpP b < n → Q (.ok (.bl (eqD a b)) S) → wpF (d__law_equal_f n) [a, b] S Q
  | 0, a, b, Q, _, _, _, h, _ => absurd h (Nat.not_lt_zero _)
  | n + 1, a, b, Q, ha, hb, hz, hd, hq => by
    have seq : ∀ (xs ys : List PV) (A B : PV), (A = .tup xs ∧ B = .tup ys) ∨ (A = .lst xs ∧ B = .lst ys) → (∀ x ∈ xs, plP x = true) → (∀ x ∈ ys, plP x = true) → (∀ x ∈ ys, szP x = true) → (∀ x ∈ ys, dpP x < n) → ys.length ≤ 1000000 → Q (.ok (.bl (eqDs xs ys)) S) → wpS (sSeq (sIf (dT (d2 neP (dN lenP (aCons (dVar 0) aNil)) (dN lenP (aCons (dVar 1) aNil)))) (sRet (dC (.bl false))) sNext)
  (sRet (dN allP (aCons (dLs (lComp [2] (dItR (dN lenP (aCons (dVar 1) aNil))) (tgN 2) tTrue (dCall (d__law_equal_f n) (aCons (d2 ixP (dVar 0) (dVar 2)) (aCons (d2 ixP (dVar 1) (dVar 2)) aNil))))) aNil)))) [.v A, .v B, .un] S (fqS Q) := by
      intro xs ys A B hAB hx hy hz hd hl hq
      have step : wpS (sSeq (sIf (dT (d2 neP (dN lenP (aCons (dVar 0) aNil)) (dN lenP (aCons (dVar 1) aNil)))) (sRet (dC (.bl false))) sNext)
  (sRet (dN allP (aCons (dLs (lComp [2] (dItR (dN lenP (aCons (dVar 1) aNil))) (tgN 2) tTrue (dCall (d__law_equal_f n) (aCons (d2 ixP (dVar 0) (dVar 2)) (aCons (d2 ixP (dVar 1) (dVar 2)) aNil))))) aNil)))) [.v A, .v B, .un] S (fqS Q) ↔ if (xs.length : Int) = ys.length then wp (kComp [2] (tgN 2) tTrue (dCall (d__law_equal_f n) (aCons (d2 ixP (dVar 0) (dVar 2)) (aCons (d2 ixP (dVar 1) (dVar 2)) aNil))) (rngPV ys.length)) [.v A, .v B, .un] S (bq kLs (bq (kCons aNil) (bq (kN allP) (bqS kRet (fqS Q))))) else Q (.ok (.bl false) S) := by
        have e1 : -1000000 ≤ (ys.length : Int) ∧ (ys.length : Int) ≤ 1000000 := by omega
        rcases hAB with ⟨rfl, rfl⟩ | ⟨rfl, rfl⟩ <;> by_cases hn : (xs.length : Int) = ys.length <;> simp only [List.map, List.replicate, List.cons_append, List.nil_append, List.length_cons, List.length_nil, Nat.reduceAdd, bq_ok, bq_ex, wp_pure, wp_fail, wp_getS, oQ_some, oQ_ite, bqS_ok, bqS_ex, wpS_seq, sqS_nx, sqS_rt, sqS_bk, sqS_ct, sqS_ex, wpS_next, wpS_break, wpS_cont, wpS_retN, wpS_setT, stQ_some, wp_C, wp_call, wp_callv, bqF_ok, bqF_ex, wp_new, wp_newv, fqS_nx, fqS_rt, fqS_ex, wpS_for, wp_comp, wp_dVar, vQ_v, vQ_o, List.getElem?_cons_zero, List.getElem?_cons_succ, List.set_cons_zero, List.set_cons_succ, wp_d1, wp_k1, wp_d2, wp_k2, wp_k2b, wp_dT, wp_kT, wp_dTru, wp_kTru, wp_dNotT, wp_kNot, wp_dAndT, wp_kAnd, wp_dOrT, wp_kOr, wp_dAndV, wp_kAndV, wp_kAndVb, wp_dOrV, wp_kOrV, wp_kOrVb, wp_dNotV, wp_kNotV, wp_kNotVb, wp_dIf, wp_kIf, wp_dChain, wp_kCh, wp_kCh2, wp_kCh3, wp_aNil, wp_aCons, wp_kCons, wp_kCons2, wp_dTup, wp_kTup, wp_dLst, wp_kLst, wp_dN, wp_kN, wp_dLs, wp_kLs, wp_lDisp, wp_kDisp, wp_lRng, wp_kRng, wp_dItR, wp_kItR, wp_dItS, wp_kItS, wp_tTrue, wp_oNo, wp_oSome, wp_kSome, wp_dSl, wp_kSl, wp_kSl1, wp_kSl2, ws_ret, ws_kRet, ws_expr, ws_kExpr, ws_if, ws_kIfS, ws_set, ws_kSet, ws_setO, ws_kSetO, ws_kSetT, ws_setR, ws_kSetR0, ws_kSetR1, ws_kSetR2, items_t, items_ft, items_l, items_r, setAll, Bool.not_true, Bool.not_false, if_true, ite_true, ite_false, ↓reduceIte, Bool.false_eq_true, Int.reduceLT, Int.reduceLE, Nat.reduceLT, Nat.reduceLeDiff, Nat.reducePow, Int.reducePow, Int.reduceToNat, Int.reduceNeg, Int.reduceSub, Int.reduceAdd, and_self, and_true, true_and, decide_eq_true_eq, decide_true, decide_false, List.length_map, ixN_31, ixN_32, ixN_30, wipeE, restE, lcQ, Option.getD_some, add_i, add_t, add_l, sub_i, mul_i, mul_t, mul_l, fdiv_i, mod_i, pow_18, neg_i, lt_i, le_i, gt_i, ge_i, eq_i, ne_i, eq_b, len_t, len_ft, len_l, len_r, abs_i, int_i, list_t, list_ft, list_l, list_r, tuple_t, tuple_ft, tuple_l, isi_i, isi_b, isi_s, isi_t, isi_ft, isi_l, isi_r, isi_n, tru_b, tru_i, tru_t, tru_ft, tru_l, tru_n, isN_n, isN_b, isN_i, isN_s, isN_t, isN_l, ix_t, ix_ft, ix_l, ix_r, ix_ref, setS_ref, atI_0, atI_1, atI_2, Option.map_some, Option.map_none, kb0, kb1, kb2, kb3, kb4, kb5, kb6, kb7, kb8, kb9, kb10, kb11, kb12, kb13, kb14, kb15, kb16, kb17, kb18, kb19, kb20, kb21, kb22, kb23, kb24, kb25, kb26, kb27, kb28, kb29, sz0, szl0, sz1, szl1, sz2, szl2, sz3, szl3, sz4, szl4, sz5, szl5, sz6, szl6, sz7, szl7, sz8, szl8, sz9, szl9, sz10, szl10, sz11, szl11, sz12, szl12, sz13, szl13, sz14, szl14, sz15, szl15, sz16, szl16, sz17, szl17, sz18, szl18, sz19, szl19, sz20, szl20, sz21, szl21, sz22, szl22, sz23, szl23, sz24, szl24, sz25, szl25, sz26, szl26, sz27, szl27, sz28, szl28, sz29, szl29, sz30, szl30, sz31, szl31, sz32, szl32, sz33, szl33, sz34, szl34, sz35, szl35, sz36, szl36, sz37, szl37, sz38, szl38, sz39, szl39, sz40, szl40, hn, e1]
      rw [step]
      split
      · rename_i hn
        have hn' : xs.length = ys.length := by omega
        refine wp_compP (fun p => .bl (atE xs ys p)) rfl rfl (fun _ => rfl) (by rw [rng_len]; unfold sizeLine; omega) ?_ ?_
        · intro p hp
          obtain ⟨i, rfl, hi⟩ := mem_rng hp
          have i1 : i < ys.length := by omega
          have i2 : i < xs.length := by omega
          have a1 : atI xs i = some xs[i] := by rw [atI_in (by omega) (by omega)]; rfl
          have a2 : atI ys i = some ys[i] := by rw [atI_in (by omega) (by omega)]; rfl
          have e2 : atE xs ys (.int i) = eqD xs[i] ys[i] := by
            unfold atE; dsimp only; rw [Int.toNat_natCast]; simp only [List.getD, List.getElem?_eq_getElem i2, List.getElem?_eq_getElem i1, Option.getD_some]
          have go : wpF (d__law_equal_f n) [xs[i], ys[i]] S (bqF [.v A, .v B, .v (.int i)] fun o => o = .ok (.bl (atE xs ys (.int i))) [.v A, .v B, .v (.int i)] S) :=
            wp_equal_f n (hx _ (List.getElem_mem i2)) (hy _ (List.getElem_mem i1)) (hz _ (List.getElem_mem i1)) (hd _ (List.getElem_mem i1)) (by rw [e2]; rfl)
          rcases hAB with ⟨rfl, rfl⟩ | ⟨rfl, rfl⟩ <;> (simp only [List.map, List.replicate, List.cons_append, List.nil_append, List.length_cons, List.length_nil, Nat.reduceAdd, bq_ok, bq_ex, wp_pure, wp_fail, wp_getS, oQ_some, oQ_ite, bqS_ok, bqS_ex, wpS_seq, sqS_nx, sqS_rt, sqS_bk, sqS_ct, sqS_ex, wpS_next, wpS_break, wpS_cont, wpS_retN, wpS_setT, stQ_some, wp_C, wp_call, wp_callv, bqF_ok, bqF_ex, wp_new, wp_newv, fqS_nx, fqS_rt, fqS_ex, wpS_for, wp_comp, wp_dVar, vQ_v, vQ_o, List.getElem?_cons_zero, List.getElem?_cons_succ, List.set_cons_zero, List.set_cons_succ, wp_d1, wp_k1, wp_d2, wp_k2, wp_k2b, wp_dT, wp_kT, wp_dTru, wp_kTru, wp_dNotT, wp_kNot, wp_dAndT, wp_kAnd, wp_dOrT, wp_kOr, wp_dAndV, wp_kAndV, wp_kAndVb, wp_dOrV, wp_kOrV, wp_kOrVb, wp_dNotV, wp_kNotV, wp_kNotVb, wp_dIf, wp_kIf, wp_dChain, wp_kCh, wp_kCh2, wp_kCh3, wp_aNil, wp_aCons, wp_kCons, wp_kCons2, wp_dTup, wp_kTup, wp_dLst, wp_kLst, wp_dN, wp_kN, wp_dLs, wp_kLs, wp_lDisp, wp_kDisp, wp_lRng, wp_kRng, wp_dItR, wp_kItR, wp_dItS, wp_kItS, wp_tTrue, wp_oNo, wp_oSome, wp_kSome, wp_dSl, wp_kSl, wp_kSl1, wp_kSl2, ws_ret, ws_kRet, ws_expr, ws_kExpr, ws_if, ws_kIfS, ws_set, ws_kSet, ws_setO, ws_kSetO, ws_kSetT, ws_setR, ws_kSetR0, ws_kSetR1, ws_kSetR2, items_t, items_ft, items_l, items_r, setAll, Bool.not_true, Bool.not_false, if_true, ite_true, ite_false, ↓reduceIte, Bool.false_eq_true, Int.reduceLT, Int.reduceLE, Nat.reduceLT, Nat.reduceLeDiff, Nat.reducePow, Int.reducePow, Int.reduceToNat, Int.reduceNeg, Int.reduceSub, Int.reduceAdd, and_self, and_true, true_and, decide_eq_true_eq, decide_true, decide_false, List.length_map, ixN_31, ixN_32, ixN_30, wipeE, restE, lcQ, Option.getD_some, add_i, add_t, add_l, sub_i, mul_i, mul_t, mul_l, fdiv_i, mod_i, pow_18, neg_i, lt_i, le_i, gt_i, ge_i, eq_i, ne_i, eq_b, len_t, len_ft, len_l, len_r, abs_i, int_i, list_t, list_ft, list_l, list_r, tuple_t, tuple_ft, tuple_l, isi_i, isi_b, isi_s, isi_t, isi_ft, isi_l, isi_r, isi_n, tru_b, tru_i, tru_t, tru_ft, tru_l, tru_n, isN_n, isN_b, isN_i, isN_s, isN_t, isN_l, ix_t, ix_ft, ix_l, ix_r, ix_ref, setS_ref, atI_0, atI_1, atI_2, Option.map_some, Option.map_none, kb0, kb1, kb2, kb3, kb4, kb5, kb6, kb7, kb8, kb9, kb10, kb11, kb12, kb13, kb14, kb15, kb16, kb17, kb18, kb19, kb20, kb21, kb22, kb23, kb24, kb25, kb26, kb27, kb28, kb29, sz0, szl0, sz1, szl1, sz2, szl2, sz3, szl3, sz4, szl4, sz5, szl5, sz6, szl6, sz7, szl7, sz8, szl8, sz9, szl9, sz10, szl10, sz11, szl11, sz12, szl12, sz13, szl13, sz14, szl14, sz15, szl15, sz16, szl16, sz17, szl17, sz18, szl18, sz19, szl19, sz20, szl20, sz21, szl21, sz22, szl22, sz23, szl23, sz24, szl24, sz25, szl25, sz26, szl26, sz27, szl27, sz28, szl28, sz29, szl29, sz30, szl30, sz31, szl31, sz32, szl32, sz33, szl33, sz34, szl34, sz35, szl35, sz36, szl36, sz37, szl37, sz38, szl38, sz39, szl39, sz40, szl40, a1, a2]; exact go)
        · simp only [List.map, List.replicate, List.cons_append, List.nil_append, List.length_cons, List.length_nil, Nat.reduceAdd, bq_ok, bq_ex, wp_pure, wp_fail, wp_getS, oQ_some, oQ_ite, bqS_ok, bqS_ex, wpS_seq, sqS_nx, sqS_rt, sqS_bk, sqS_ct, sqS_ex, wpS_next, wpS_break, wpS_cont, wpS_retN, wpS_setT, stQ_some, wp_C, wp_call, wp_callv, bqF_ok, bqF_ex, wp_new, wp_newv, fqS_nx, fqS_rt, fqS_ex, wpS_for, wp_comp, wp_dVar, vQ_v, vQ_o, List.getElem?_cons_zero, List.getElem?_cons_succ, List.set_cons_zero, List.set_cons_succ, wp_d1, wp_k1, wp_d2, wp_k2, wp_k2b, wp_dT, wp_kT, wp_dTru, wp_kTru, wp_dNotT, wp_kNot, wp_dAndT, wp_kAnd, wp_dOrT, wp_kOr, wp_dAndV, wp_kAndV, wp_kAndVb, wp_dOrV, wp_kOrV, wp_kOrVb, wp_dNotV, wp_kNotV, wp_kNotVb, wp_dIf, wp_kIf, wp_dChain, wp_kCh, wp_kCh2, wp_kCh3, wp_aNil, wp_aCons, wp_kCons, wp_kCons2, wp_dTup, wp_kTup, wp_dLst, wp_kLst, wp_dN, wp_kN, wp_dLs, wp_kLs, wp_lDisp, wp_kDisp, wp_lRng, wp_kRng, wp_dItR, wp_kItR, wp_dItS, wp_kItS, wp_tTrue, wp_oNo, wp_oSome, wp_kSome, wp_dSl, wp_kSl, wp_kSl1, wp_kSl2, ws_ret, ws_kRet, ws_expr, ws_kExpr, ws_if, ws_kIfS, ws_set, ws_kSet, ws_setO, ws_kSetO, ws_kSetT, ws_setR, ws_kSetR0, ws_kSetR1, ws_kSetR2, items_t, items_ft, items_l, items_r, setAll, Bool.not_true, Bool.not_false, if_true, ite_true, ite_false, ↓reduceIte, Bool.false_eq_true, Int.reduceLT, Int.reduceLE, Nat.reduceLT, Nat.reduceLeDiff, Nat.reducePow, Int.reducePow, Int.reduceToNat, Int.reduceNeg, Int.reduceSub, Int.reduceAdd, and_self, and_true, true_and, decide_eq_true_eq, decide_true, decide_false, List.length_map, ixN_31, ixN_32, ixN_30, wipeE, restE, lcQ, Option.getD_some, add_i, add_t, add_l, sub_i, mul_i, mul_t, mul_l, fdiv_i, mod_i, pow_18, neg_i, lt_i, le_i, gt_i, ge_i, eq_i, ne_i, eq_b, len_t, len_ft, len_l, len_r, abs_i, int_i, list_t, list_ft, list_l, list_r, tuple_t, tuple_ft, tuple_l, isi_i, isi_b, isi_s, isi_t, isi_ft, isi_l, isi_r, isi_n, tru_b, tru_i, tru_t, tru_ft, tru_l, tru_n, isN_n, isN_b, isN_i, isN_s, isN_t, isN_l, ix_t, ix_ft, ix_l, ix_r, ix_ref, setS_ref, atI_0, atI_1, atI_2, Option.map_some, Option.map_none, kb0, kb1, kb2, kb3, kb4, kb5, kb6, kb7, kb8, kb9, kb10, kb11, kb12, kb13, kb14, kb15, kb16, kb17, kb18, kb19, kb20, kb21, kb22, kb23, kb24, kb25, kb26, kb27, kb28, kb29, sz0, szl0, sz1, szl1, sz2, szl2, sz3, szl3, sz4, szl4, sz5, szl5, sz6, szl6, sz7, szl7, sz8, szl8, sz9, szl9, sz10, szl10, sz11, szl11, sz12, szl12, sz13, szl13, sz14, szl14, sz15, szl15, sz16, szl16, sz17, szl17, sz18, szl18, sz19, szl19, sz20, szl20, sz21, szl21, sz22, szl22, sz23, szl23, sz24, szl24, sz25, szl25, sz26, szl26, sz27, szl27, sz28, szl28, sz29, szl29, sz30, szl30, sz31, szl31, sz32, szl32, sz33, szl33, sz34, szl34, sz35, szl35, sz36, szl36, sz37, szl37, sz38, szl38, sz39, szl39, sz40, szl40, all_map]
          rw [all_atE xs ys hn']
          exact hq
      · rename_i hn
        rw [eqDs_len fun z => hn (by rw [z])] at hq
        exact hq
    unfold d__law_equal_f
    refine wpF_go rfl ?_
    have ah : ∀ xs, (a = .tup xs ∨ a = .lst xs) → ∀ x ∈ xs, plP x = true := by
      rintro xs (rfl | rfl) <;> (unfold plP at ha; exact plsP_mem ha)
    cases b with
    | dk _ => cases hb
    | dt _ => cases hb
    | ref _ => cases hb
    | rol _ => cases hb
    | ftp _ => cases hb
    | non =>
      cases a with
      | dk _ => cases ha
      | dt _ => cases ha
      | ref _ => cases ha
      | rol _ => cases ha
      | ftp _ => cases ha
      | _ => simp only [List.map, List.replicate, List.cons_append, List.nil_append, List.length_cons, List.length_nil, Nat.reduceAdd, bq_ok, bq_ex, wp_pure, wp_fail, wp_getS, oQ_some, oQ_ite, bqS_ok, bqS_ex, wpS_seq, sqS_nx, sqS_rt, sqS_bk, sqS_ct, sqS_ex, wpS_next, wpS_break, wpS_cont, wpS_retN, wpS_setT, stQ_some, wp_C, wp_call, wp_callv, bqF_ok, bqF_ex, wp_new, wp_newv, fqS_nx, fqS_rt, fqS_ex, wpS_for, wp_comp, wp_dVar, vQ_v, vQ_o, List.getElem?_cons_zero, List.getElem?_cons_succ, List.set_cons_zero, List.set_cons_succ, wp_d1, wp_k1, wp_d2, wp_k2, wp_k2b, wp_dT, wp_kT, wp_dTru, wp_kTru, wp_dNotT, wp_kNot, wp_dAndT, wp_kAnd, wp_dOrT, wp_kOr, wp_dAndV, wp_kAndV, wp_kAndVb, wp_dOrV, wp_kOrV, wp_kOrVb, wp_dNotV, wp_kNotV, wp_kNotVb, wp_dIf, wp_kIf, wp_dChain, wp_kCh, wp_kCh2, wp_kCh3, wp_aNil, wp_aCons, wp_kCons, wp_kCons2, wp_dTup, wp_kTup, wp_dLst, wp_kLst, wp_dN, wp_kN, wp_dLs, wp_kLs, wp_lDisp, wp_kDisp, wp_lRng, wp_kRng, wp_dItR, wp_kItR, wp_dItS, wp_kItS, wp_tTrue, wp_oNo, wp_oSome, wp_kSome, wp_dSl, wp_kSl, wp_kSl1, wp_kSl2, ws_ret, ws_kRet, ws_expr, ws_kExpr, ws_if, ws_kIfS, ws_set, ws_kSet, ws_setO, ws_kSetO, ws_kSetT, ws_setR, ws_kSetR0, ws_kSetR1, ws_kSetR2, items_t, items_ft, items_l, items_r, setAll, Bool.not_true, Bool.not_false, if_true, ite_true, ite_false, ↓reduceIte, Bool.false_eq_true, Int.reduceLT, Int.reduceLE, Nat.reduceLT, Nat.reduceLeDiff, Nat.reducePow, Int.reducePow, Int.reduceToNat, Int.reduceNeg, Int.reduceSub, Int.reduceAdd, and_self, and_true, true_and, decide_eq_true_eq, decide_true, decide_false, List.length_map, ixN_31, ixN_32, ixN_30, wipeE, restE, lcQ, Option.getD_some, add_i, add_t, add_l, sub_i, mul_i, mul_t, mul_l, fdiv_i, mod_i, pow_18, neg_i, lt_i, le_i, gt_i, ge_i, eq_i, ne_i, eq_b, len_t, len_ft, len_l, len_r, abs_i, int_i, list_t, list_ft, list_l, list_r, tuple_t, tuple_ft, tuple_l, isi_i, isi_b, isi_s, isi_t, isi_ft, isi_l, isi_r, isi_n, tru_b, tru_i, tru_t, tru_ft, tru_l, tru_n, isN_n, isN_b, isN_i, isN_s, isN_t, isN_l, ix_t, ix_ft, ix_l, ix_r, ix_ref, setS_ref, atI_0, atI_1, atI_2, Option.map_some, Option.map_none, kb0, kb1, kb2, kb3, kb4, kb5, kb6, kb7, kb8, kb9, kb10, kb11, kb12, kb13, kb14, kb15, kb16, kb17, kb18, kb19, kb20, kb21, kb22, kb23, kb24, kb25, kb26, kb27, kb28, kb29, sz0, szl0, sz1, szl1, sz2, szl2, sz3, szl3, sz4, szl4, sz5, szl5, sz6, szl6, sz7, szl7, sz8, szl8, sz9, szl9, sz10, szl10, sz11, szl11, sz12, szl12, sz13, szl13, sz14, szl14, sz15, szl15, sz16, szl16, sz17, szl17, sz18, szl18, sz19, szl19, sz20, szl20, sz21, szl21, sz22, szl22, sz23, szl23, sz24, szl24, sz25, szl25, sz26, szl26, sz27, szl27, sz28, szl28, sz29, szl29, sz30, szl30, sz31, szl31, sz32, szl32, sz33, szl33, sz34, szl34, sz35, szl35, sz36, szl36, sz37, szl37, sz38, szl38, sz39, szl39, sz40, szl40]; exact hq
    | bl y =>
      cases a with
      | dk _ => cases ha
      | dt _ => cases ha
      | ref _ => cases ha
      | rol _ => cases ha
      | ftp _ => cases ha
      | _ => simp only [List.map, List.replicate, List.cons_append, List.nil_append, List.length_cons, List.length_nil, Nat.reduceAdd, bq_ok, bq_ex, wp_pure, wp_fail, wp_getS, oQ_some, oQ_ite, bqS_ok, bqS_ex, wpS_seq, sqS_nx, sqS_rt, sqS_bk, sqS_ct, sqS_ex, wpS_next, wpS_break, wpS_cont, wpS_retN, wpS_setT, stQ_some, wp_C, wp_call, wp_callv, bqF_ok, bqF_ex, wp_new, wp_newv, fqS_nx, fqS_rt, fqS_ex, wpS_for, wp_comp, wp_dVar, vQ_v, vQ_o, List.getElem?_cons_zero, List.getElem?_cons_succ, List.set_cons_zero, List.set_cons_succ, wp_d1, wp_k1, wp_d2, wp_k2, wp_k2b, wp_dT, wp_kT, wp_dTru, wp_kTru, wp_dNotT, wp_kNot, wp_dAndT, wp_kAnd, wp_dOrT, wp_kOr, wp_dAndV, wp_kAndV, wp_kAndVb, wp_dOrV, wp_kOrV, wp_kOrVb, wp_dNotV, wp_kNotV, wp_kNotVb, wp_dIf, wp_kIf, wp_dChain, wp_kCh, wp_kCh2, wp_kCh3, wp_aNil, wp_aCons, wp_kCons, wp_kCons2, wp_dTup, wp_kTup, wp_dLst, wp_kLst, wp_dN, wp_kN, wp_dLs, wp_kLs, wp_lDisp, wp_kDisp, wp_lRng, wp_kRng, wp_dItR, wp_kItR, wp_dItS, wp_kItS, wp_tTrue, wp_oNo, wp_oSome, wp_kSome, wp_dSl, wp_kSl, wp_kSl1, wp_kSl2, ws_ret, ws_kRet, ws_expr, ws_kExpr, ws_if, ws_kIfS, ws_set, ws_kSet, ws_setO, ws_kSetO, ws_kSetT, ws_setR, ws_kSetR0, ws_kSetR1, ws_kSetR2, items_t, items_ft, items_l, items_r, setAll, Bool.not_true, Bool.not_false, if_true, ite_true, ite_false, ↓reduceIte, Bool.false_eq_true, Int.reduceLT, Int.reduceLE, Nat.reduceLT, Nat.reduceLeDiff, Nat.reducePow, Int.reducePow, Int.reduceToNat, Int.reduceNeg, Int.reduceSub, Int.reduceAdd, and_self, and_true, true_and, decide_eq_true_eq, decide_true, decide_false, List.length_map, ixN_31, ixN_32, ixN_30, wipeE, restE, lcQ, Option.getD_some, add_i, add_t, add_l, sub_i, mul_i, mul_t, mul_l, fdiv_i, mod_i, pow_18, neg_i, lt_i, le_i, gt_i, ge_i, eq_i, ne_i, eq_b, len_t, len_ft, len_l, len_r, abs_i, int_i, list_t, list_ft, list_l, list_r, tuple_t, tuple_ft, tuple_l, isi_i, isi_b, isi_s, isi_t, isi_ft, isi_l, isi_r, isi_n, tru_b, tru_i, tru_t, tru_ft, tru_l, tru_n, isN_n, isN_b, isN_i, isN_s, isN_t, isN_l, ix_t, ix_ft, ix_l, ix_r, ix_ref, setS_ref, atI_0, atI_1, atI_2, Option.map_some, Option.map_none, kb0, kb1, kb2, kb3, kb4, kb5, kb6, kb7, kb8, kb9, kb10, kb11, kb12, kb13, kb14, kb15, kb16, kb17, kb18, kb19, kb20, kb21, kb22, kb23, kb24, kb25, kb26, kb27, kb28, kb29, sz0, szl0, sz1, szl1, sz2, szl2, sz3, szl3, sz4, szl4, sz5, szl5, sz6, szl6, sz7, szl7, sz8, szl8, sz9, szl9, sz10, szl10, sz11, szl11, sz12, szl12, sz13, szl13, sz14, szl14, sz15, szl15, sz16, szl16, sz17, szl17, sz18, szl18, sz19, szl19, sz20, szl20, sz21, szl21, sz22, szl22, sz23, szl23, sz24, szl24, sz25, szl25, sz26, szl26, sz27, szl27, sz28, szl28, sz29, szl29, sz30, szl30, sz31, szl31, sz32, szl32, sz33, szl33, sz34, szl34, sz35, szl35, sz36, szl36, sz37, szl37, sz38, szl38, sz39, szl39, sz40, szl40]; exact hq
    | int y =>
      cases a with
      | dk _ => cases ha
      | dt _ => cases ha
      | ref _ => cases ha
      | rol _ => cases ha
      | ftp _ => cases ha
      | _ => simp only [List.map, List.replicate, List.cons_append, List.nil_append, List.length_cons, List.length_nil, Nat.reduceAdd, bq_ok, bq_ex, wp_pure, wp_fail, wp_getS, oQ_some, oQ_ite, bqS_ok, bqS_ex, wpS_seq, sqS_nx, sqS_rt, sqS_bk, sqS_ct, sqS_ex, wpS_next, wpS_break, wpS_cont, wpS_retN, wpS_setT, stQ_some, wp_C, wp_call, wp_callv, bqF_ok, bqF_ex, wp_new, wp_newv, fqS_nx, fqS_rt, fqS_ex, wpS_for, wp_comp, wp_dVar, vQ_v, vQ_o, List.getElem?_cons_zero, List.getElem?_cons_succ, List.set_cons_zero, List.set_cons_succ, wp_d1, wp_k1, wp_d2, wp_k2, wp_k2b, wp_dT, wp_kT, wp_dTru, wp_kTru, wp_dNotT, wp_kNot, wp_dAndT, wp_kAnd, wp_dOrT, wp_kOr, wp_dAndV, wp_kAndV, wp_kAndVb, wp_dOrV, wp_kOrV, wp_kOrVb, wp_dNotV, wp_kNotV, wp_kNotVb, wp_dIf, wp_kIf, wp_dChain, wp_kCh, wp_kCh2, wp_kCh3, wp_aNil, wp_aCons, wp_kCons, wp_kCons2, wp_dTup, wp_kTup, wp_dLst, wp_kLst, wp_dN, wp_kN, wp_dLs, wp_kLs, wp_lDisp, wp_kDisp, wp_lRng, wp_kRng, wp_dItR, wp_kItR, wp_dItS, wp_kItS, wp_tTrue, wp_oNo, wp_oSome, wp_kSome, wp_dSl, wp_kSl, wp_kSl1, wp_kSl2, ws_ret, ws_kRet, ws_expr, ws_kExpr, ws_if, ws_kIfS, ws_set, ws_kSet, ws_setO, ws_kSetO, ws_kSetT, ws_setR, ws_kSetR0, ws_kSetR1, ws_kSetR2, items_t, items_ft, items_l, items_r, setAll, Bool.not_true, Bool.not_false, if_true, ite_true, ite_false, ↓reduceIte, Bool.false_eq_true, Int.reduceLT, Int.reduceLE, Nat.reduceLT, Nat.reduceLeDiff, Nat.reducePow, Int.reducePow, Int.reduceToNat, Int.reduceNeg, Int.reduceSub, Int.reduceAdd, and_self, and_true, true_and, decide_eq_true_eq, decide_true, decide_false, List.length_map, ixN_31, ixN_32, ixN_30, wipeE, restE, lcQ, Option.getD_some, add_i, add_t, add_l, sub_i, mul_i, mul_t, mul_l, fdiv_i, mod_i, pow_18, neg_i, lt_i, le_i, gt_i, ge_i, eq_i, ne_i, eq_b, len_t, len_ft, len_l, len_r, abs_i, int_i, list_t, list_ft, list_l, list_r, tuple_t, tuple_ft, tuple_l, isi_i, isi_b, isi_s, isi_t, isi_ft, isi_l, isi_r, isi_n, tru_b, tru_i, tru_t, tru_ft, tru_l, tru_n, isN_n, isN_b, isN_i, isN_s, isN_t, isN_l, ix_t, ix_ft, ix_l, ix_r, ix_ref, setS_ref, atI_0, atI_1, atI_2, Option.map_some, Option.map_none, kb0, kb1, kb2, kb3, kb4, kb5, kb6, kb7, kb8, kb9, kb10, kb11, kb12, kb13, kb14, kb15, kb16, kb17, kb18, kb19, kb20, kb21, kb22, kb23, kb24, kb25, kb26, kb27, kb28, kb29, sz0, szl0, sz1, szl1, sz2, szl2, sz3, szl3, sz4, szl4, sz5, szl5, sz6, szl6, sz7, szl7, sz8, szl8, sz9, szl9, sz10, szl10, sz11, szl11, sz12, szl12, sz13, szl13, sz14, szl14, sz15, szl15, sz16, szl16, sz17, szl17, sz18, szl18, sz19, szl19, sz20, szl20, sz21, szl21, sz22, szl22, sz23, szl23, sz24, szl24, sz25, szl25, sz26, szl26, sz27, szl27, sz28, szl28, sz29, szl29, sz30, szl30, sz31, szl31, sz32, szl32, sz33, szl33, sz34, szl34, sz35, szl35, sz36, szl36, sz37, szl37, sz38, szl38, sz39, szl39, sz40, szl40]; exact wp_is_integer ha (by simp only [List.map, List.replicate, List.cons_append, List.nil_append, List.length_cons, List.length_nil, Nat.reduceAdd, bq_ok, bq_ex, wp_pure, wp_fail, wp_getS, oQ_some, oQ_ite, bqS_ok, bqS_ex, wpS_seq, sqS_nx, sqS_rt, sqS_bk, sqS_ct, sqS_ex, wpS_next, wpS_break, wpS_cont, wpS_retN, wpS_setT, stQ_some, wp_C, wp_call, wp_callv, bqF_ok, bqF_ex, wp_new, wp_newv, fqS_nx, fqS_rt, fqS_ex, wpS_for, wp_comp, wp_dVar, vQ_v, vQ_o, List.getElem?_cons_zero, List.getElem?_cons_succ, List.set_cons_zero, List.set_cons_succ, wp_d1, wp_k1, wp_d2, wp_k2, wp_k2b, wp_dT, wp_kT, wp_dTru, wp_kTru, wp_dNotT, wp_kNot, wp_dAndT, wp_kAnd, wp_dOrT, wp_kOr, wp_dAndV, wp_kAndV, wp_kAndVb, wp_dOrV, wp_kOrV, wp_kOrVb, wp_dNotV, wp_kNotV, wp_kNotVb, wp_dIf, wp_kIf, wp_dChain, wp_kCh, wp_kCh2, wp_kCh3, wp_aNil, wp_aCons, wp_kCons, wp_kCons2, wp_dTup, wp_kTup, wp_dLst, wp_kLst, wp_dN, wp_kN, wp_dLs, wp_kLs, wp_lDisp, wp_kDisp, wp_lRng, wp_kRng, wp_dItR, wp_kItR, wp_dItS, wp_kItS, wp_tTrue, wp_oNo, wp_oSome, wp_kSome, wp_dSl, wp_kSl, wp_kSl1, wp_kSl2, ws_ret, ws_kRet, ws_expr, ws_kExpr, ws_if, ws_kIfS, ws_set, ws_kSet, ws_setO, ws_kSetO, ws_kSetT, ws_setR, ws_kSetR0, ws_kSetR1, ws_kSetR2, items_t, items_ft, items_l, items_r, setAll, Bool.not_true, Bool.not_false, if_true, ite_true, ite_false, ↓reduceIte, Bool.false_eq_true, Int.reduceLT, Int.reduceLE, Nat.reduceLT, Nat.reduceLeDiff, Nat.reducePow, Int.reducePow, Int.reduceToNat, Int.reduceNeg, Int.reduceSub, Int.reduceAdd, and_self, and_true, true_and, decide_eq_true_eq, decide_true, decide_false, List.length_map, ixN_31, ixN_32, ixN_30, wipeE, restE, lcQ, Option.getD_some, add_i, add_t, add_l, sub_i, mul_i, mul_t, mul_l, fdiv_i, mod_i, pow_18, neg_i, lt_i, le_i, gt_i, ge_i, eq_i, ne_i, eq_b, len_t, len_ft, len_l, len_r, abs_i, int_i, list_t, list_ft, list_l, list_r, tuple_t, tuple_ft, tuple_l, isi_i, isi_b, isi_s, isi_t, isi_ft, isi_l, isi_r, isi_n, tru_b, tru_i, tru_t, tru_ft, tru_l, tru_n, isN_n, isN_b, isN_i, isN_s, isN_t, isN_l, ix_t, ix_ft, ix_l, ix_r, ix_ref, setS_ref, atI_0, atI_1, atI_2, Option.map_some, Option.map_none, kb0, kb1, kb2, kb3, kb4, kb5, kb6, kb7, kb8, kb9, kb10, kb11, kb12, kb13, kb14, kb15, kb16, kb17, kb18, kb19, kb20, kb21, kb22, kb23, kb24, kb25, kb26, kb27, kb28, kb29, sz0, szl0, sz1, szl1, sz2, szl2, sz3, szl3, sz4, szl4, sz5, szl5, sz6, szl6, sz7, szl7, sz8, szl8, sz9, szl9, sz10, szl10, sz11, szl11, sz12, szl12, sz13, szl13, sz14, szl14, sz15, szl15, sz16, szl16, sz17, szl17, sz18, szl18, sz19, szl19, sz20, szl20, sz21, szl21, sz22, szl22, sz23, szl23, sz24, szl24, sz25, szl25, sz26, szl26, sz27, szl27, sz28, szl28, sz29, szl29, sz30, szl30, sz31, szl31, sz32, szl32, sz33, szl33, sz34, szl34, sz35, szl35, sz36, szl36, sz37, szl37, sz38, szl38, sz39, szl39, sz40, szl40]; exact hq)
    | str y =>
      cases a with
      | dk _ => cases ha
      | dt _ => cases ha
      | ref _ => cases ha
      | rol _ => cases ha
      | ftp _ => cases ha
      | str x => simp only [List.map, List.replicate, List.cons_append, List.nil_append, List.length_cons, List.length_nil, Nat.reduceAdd, bq_ok, bq_ex, wp_pure, wp_fail, wp_getS, oQ_some, oQ_ite, bqS_ok, bqS_ex, wpS_seq, sqS_nx, sqS_rt, sqS_bk, sqS_ct, sqS_ex, wpS_next, wpS_break, wpS_cont, wpS_retN, wpS_setT, stQ_some, wp_C, wp_call, wp_callv, bqF_ok, bqF_ex, wp_new, wp_newv, fqS_nx, fqS_rt, fqS_ex, wpS_for, wp_comp, wp_dVar, vQ_v, vQ_o, List.getElem?_cons_zero, List.getElem?_cons_succ, List.set_cons_zero, List.set_cons_succ, wp_d1, wp_k1, wp_d2, wp_k2, wp_k2b, wp_dT, wp_kT, wp_dTru, wp_kTru, wp_dNotT, wp_kNot, wp_dAndT, wp_kAnd, wp_dOrT, wp_kOr, wp_dAndV, wp_kAndV, wp_kAndVb, wp_dOrV, wp_kOrV, wp_kOrVb, wp_dNotV, wp_kNotV, wp_kNotVb, wp_dIf, wp_kIf, wp_dChain, wp_kCh, wp_kCh2, wp_kCh3, wp_aNil, wp_aCons, wp_kCons, wp_kCons2, wp_dTup, wp_kTup, wp_dLst, wp_kLst, wp_dN, wp_kN, wp_dLs, wp_kLs, wp_lDisp, wp_kDisp, wp_lRng, wp_kRng, wp_dItR, wp_kItR, wp_dItS, wp_kItS, wp_tTrue, wp_oNo, wp_oSome, wp_kSome, wp_dSl, wp_kSl, wp_kSl1, wp_kSl2, ws_ret, ws_kRet, ws_expr, ws_kExpr, ws_if, ws_kIfS, ws_set, ws_kSet, ws_setO, ws_kSetO, ws_kSetT, ws_setR, ws_kSetR0, ws_kSetR1, ws_kSetR2, items_t, items_ft, items_l, items_r, setAll, Bool.not_true, Bool.not_false, if_true, ite_true, ite_false, ↓reduceIte, Bool.false_eq_true, Int.reduceLT, Int.reduceLE, Nat.reduceLT, Nat.reduceLeDiff, Nat.reducePow, Int.reducePow, Int.reduceToNat, Int.reduceNeg, Int.reduceSub, Int.reduceAdd, and_self, and_true, true_and, decide_eq_true_eq, decide_true, decide_false, List.length_map, ixN_31, ixN_32, ixN_30, wipeE, restE, lcQ, Option.getD_some, add_i, add_t, add_l, sub_i, mul_i, mul_t, mul_l, fdiv_i, mod_i, pow_18, neg_i, lt_i, le_i, gt_i, ge_i, eq_i, ne_i, eq_b, len_t, len_ft, len_l, len_r, abs_i, int_i, list_t, list_ft, list_l, list_r, tuple_t, tuple_ft, tuple_l, isi_i, isi_b, isi_s, isi_t, isi_ft, isi_l, isi_r, isi_n, tru_b, tru_i, tru_t, tru_ft, tru_l, tru_n, isN_n, isN_b, isN_i, isN_s, isN_t, isN_l, ix_t, ix_ft, ix_l, ix_r, ix_ref, setS_ref, atI_0, atI_1, atI_2, Option.map_some, Option.map_none, kb0, kb1, kb2, kb3, kb4, kb5, kb6, kb7, kb8, kb9, kb10, kb11, kb12, kb13, kb14, kb15, kb16, kb17, kb18, kb19, kb20, kb21, kb22, kb23, kb24, kb25, kb26, kb27, kb28, kb29, sz0, szl0, sz1, szl1, sz2, szl2, sz3, szl3, sz4, szl4, sz5, szl5, sz6, szl6, sz7, szl7, sz8, szl8, sz9, szl9, sz10, szl10, sz11, szl11, sz12, szl12, sz13, szl13, sz14, szl14, sz15, szl15, sz16, szl16, sz17, szl17, sz18, szl18, sz19, szl19, sz20, szl20, sz21, szl21, sz22, szl22, sz23, szl23, sz24, szl24, sz25, szl25, sz26, szl26, sz27, szl27, sz28, szl28, sz29, szl29, sz30, szl30, sz31, szl31, sz32, szl32, sz33, szl33, sz34, szl34, sz35, szl35, sz36, szl36, sz37, szl37, sz38, szl38, sz39, szl39, sz40, szl40, eq_s (show PyData.canLay0 (.str x) = true by unfold plP at ha; exact ha) (show PyData.canLay0 (.str y) = true by unfold plP at hb; exact hb)]; exact hq
      | _ => simp only [List.map, List.replicate, List.cons_append, List.nil_append, List.length_cons, List.length_nil, Nat.reduceAdd, bq_ok, bq_ex, wp_pure, wp_fail, wp_getS, oQ_some, oQ_ite, bqS_ok, bqS_ex, wpS_seq, sqS_nx, sqS_rt, sqS_bk, sqS_ct, sqS_ex, wpS_next, wpS_break, wpS_cont, wpS_retN, wpS_setT, stQ_some, wp_C, wp_call, wp_callv, bqF_ok, bqF_ex, wp_new, wp_newv, fqS_nx, fqS_rt, fqS_ex, wpS_for, wp_comp, wp_dVar, vQ_v, vQ_o, List.getElem?_cons_zero, List.getElem?_cons_succ, List.set_cons_zero, List.set_cons_succ, wp_d1, wp_k1, wp_d2, wp_k2, wp_k2b, wp_dT, wp_kT, wp_dTru, wp_kTru, wp_dNotT, wp_kNot, wp_dAndT, wp_kAnd, wp_dOrT, wp_kOr, wp_dAndV, wp_kAndV, wp_kAndVb, wp_dOrV, wp_kOrV, wp_kOrVb, wp_dNotV, wp_kNotV, wp_kNotVb, wp_dIf, wp_kIf, wp_dChain, wp_kCh, wp_kCh2, wp_kCh3, wp_aNil, wp_aCons, wp_kCons, wp_kCons2, wp_dTup, wp_kTup, wp_dLst, wp_kLst, wp_dN, wp_kN, wp_dLs, wp_kLs, wp_lDisp, wp_kDisp, wp_lRng, wp_kRng, wp_dItR, wp_kItR, wp_dItS, wp_kItS, wp_tTrue, wp_oNo, wp_oSome, wp_kSome, wp_dSl, wp_kSl, wp_kSl1, wp_kSl2, ws_ret, ws_kRet, ws_expr, ws_kExpr, ws_if, ws_kIfS, ws_set, ws_kSet, ws_setO, ws_kSetO, ws_kSetT, ws_setR, ws_kSetR0, ws_kSetR1, ws_kSetR2, items_t, items_ft, items_l, items_r, setAll, Bool.not_true, Bool.not_false, if_true, ite_true, ite_false, ↓reduceIte, Bool.false_eq_true, Int.reduceLT, Int.reduceLE, Nat.reduceLT, Nat.reduceLeDiff, Nat.reducePow, Int.reducePow, Int.reduceToNat, Int.reduceNeg, Int.reduceSub, Int.reduceAdd, and_self, and_true, true_and, decide_eq_true_eq, decide_true, decide_false, List.length_map, ixN_31, ixN_32, ixN_30, wipeE, restE, lcQ, Option.getD_some, add_i, add_t, add_l, sub_i, mul_i, mul_t, mul_l, fdiv_i, mod_i, pow_18, neg_i, lt_i, le_i, gt_i, ge_i, eq_i, ne_i, eq_b, len_t, len_ft, len_l, len_r, abs_i, int_i, list_t, list_ft, list_l, list_r, tuple_t, tuple_ft, tuple_l, isi_i, isi_b, isi_s, isi_t, isi_ft, isi_l, isi_r, isi_n, tru_b, tru_i, tru_t, tru_ft, tru_l, tru_n, isN_n, isN_b, isN_i, isN_s, isN_t, isN_l, ix_t, ix_ft, ix_l, ix_r, ix_ref, setS_ref, atI_0, atI_1, atI_2, Option.map_some, Option.map_none, kb0, kb1, kb2, kb3, kb4, kb5, kb6, kb7, kb8, kb9, kb10, kb11, kb12, kb13, kb14, kb15, kb16, kb17, kb18, kb19, kb20, kb21, kb22, kb23, kb24, kb25, kb26, kb27, kb28, kb29, sz0, szl0, sz1, szl1, sz2, szl2, sz3, szl3, sz4, szl4, sz5, szl5, sz6, szl6, sz7, szl7, sz8, szl8, sz9, szl9, sz10, szl10, sz11, szl11, sz12, szl12, sz13, szl13, sz14, szl14, sz15, szl15, sz16, szl16, sz17, szl17, sz18, szl18, sz19, szl19, sz20, szl20, sz21, szl21, sz22, szl22, sz23, szl23, sz24, szl24, sz25, szl25, sz26, szl26, sz27, szl27, sz28, szl28, sz29, szl29, sz30, szl30, sz31, szl31, sz32, szl32, sz33, szl33, sz34, szl34, sz35, szl35, sz36, szl36, sz37, szl37, sz38, szl38, sz39, szl39, sz40, szl40]; exact hq
    | tup ys =>
      unfold plP at hb
      unfold szP at hz
      rw [Bool.and_eq_true, decide_eq_true_eq] at hz
      unfold dpP at hd
      cases a with
      | dk _ => cases ha
      | dt _ => cases ha
      | ref _ => cases ha
      | rol _ => cases ha
      | ftp _ => cases ha
      | tup xs =>
        simp only [wpS_seq, ws_if, add_i, add_t, add_l, sub_i, mul_i, mul_t, mul_l, fdiv_i, mod_i, pow_18, neg_i, lt_i, le_i, gt_i, ge_i, eq_i, ne_i, eq_b, len_t, len_ft, len_l, len_r, abs_i, int_i, list_t, list_ft, list_l, list_r, tuple_t, tuple_ft, tuple_l, isi_i, isi_b, isi_s, isi_t, isi_ft, isi_l, isi_r, isi_n, tru_b, tru_i, tru_t, tru_ft, tru_l, tru_n, isN_n, isN_b, isN_i, isN_s, isN_t, isN_l, ix_t, ix_ft, ix_l, ix_r, ix_ref, setS_ref, atI_0, atI_1, atI_2, Option.map_some, Option.map_none, kb0, kb1, kb2, kb3, kb4, kb5, kb6, kb7, kb8, kb9, kb10, kb11, kb12, kb13, kb14, kb15, kb16, kb17, kb18, kb19, kb20, kb21, kb22, kb23, kb24, kb25, kb26, kb27, kb28, kb29, sz0, szl0, sz1, szl1, sz2, szl2, sz3, szl3, sz4, szl4, sz5, szl5, sz6, szl6, sz7, szl7, sz8, szl8, sz9, szl9, sz10, szl10, sz11, szl11, sz12, szl12, sz13, szl13, sz14, szl14, sz15, szl15, sz16, szl16, sz17, szl17, sz18, szl18, sz19, szl19, sz20, szl20, sz21, szl21, sz22, szl22, sz23, szl23, sz24, szl24, sz25, szl25, sz26, szl26, sz27, szl27, sz28, szl28, sz29, szl29, sz30, szl30, sz31, szl31, sz32, szl32, sz33, szl33, sz34, szl34, sz35, szl35, sz36, szl36, sz37, szl37, sz38, szl38, sz39, szl39, sz40, szl40, wp_dT, wp_d2, wp_d1, wp_dVar, wp_C, bq_ok, wp_k2, wp_k2b, wp_k1, wp_kT, wp_dTru, wp_kTru, wp_dAndT, wp_kAnd, wp_dNotT, wp_kNot, List.map, List.replicate, List.cons_append, List.nil_append, List.getElem?_cons_zero, List.getElem?_cons_succ, vQ_v, oQ_some, bqS_ok, ws_kIfS, wpS_next, sqS_nx, ↓reduceIte, Bool.false_eq_true, Bool.not_true, Bool.not_false]
        have z := seq xs ys _ _ (.inl ⟨rfl, rfl⟩) (ah xs (.inl rfl)) (plsP_mem hb) (fun x hx => szs_mem hz.2 hx) (fun x hx => by have := dps_mem hx; omega) hz.1 (by unfold eqD at hq; exact hq)
        simp only [wpS_seq, ws_if, wp_dT, wp_d2] at z
        exact z
      | _ => simp only [List.map, List.replicate, List.cons_append, List.nil_append, List.length_cons, List.length_nil, Nat.reduceAdd, bq_ok, bq_ex, wp_pure, wp_fail, wp_getS, oQ_some, oQ_ite, bqS_ok, bqS_ex, wpS_seq, sqS_nx, sqS_rt, sqS_bk, sqS_ct, sqS_ex, wpS_next, wpS_break, wpS_cont, wpS_retN, wpS_setT, stQ_some, wp_C, wp_call, wp_callv, bqF_ok, bqF_ex, wp_new, wp_newv, fqS_nx, fqS_rt, fqS_ex, wpS_for, wp_comp, wp_dVar, vQ_v, vQ_o, List.getElem?_cons_zero, List.getElem?_cons_succ, List.set_cons_zero, List.set_cons_succ, wp_d1, wp_k1, wp_d2, wp_k2, wp_k2b, wp_dT, wp_kT, wp_dTru, wp_kTru, wp_dNotT, wp_kNot, wp_dAndT, wp_kAnd, wp_dOrT, wp_kOr, wp_dAndV, wp_kAndV, wp_kAndVb, wp_dOrV, wp_kOrV, wp_kOrVb, wp_dNotV, wp_kNotV, wp_kNotVb, wp_dIf, wp_kIf, wp_dChain, wp_kCh, wp_kCh2, wp_kCh3, wp_aNil, wp_aCons, wp_kCons, wp_kCons2, wp_dTup, wp_kTup, wp_dLst, wp_kLst, wp_dN, wp_kN, wp_dLs, wp_kLs, wp_lDisp, wp_kDisp, wp_lRng, wp_kRng, wp_dItR, wp_kItR, wp_dItS, wp_kItS, wp_tTrue, wp_oNo, wp_oSome, wp_kSome, wp_dSl, wp_kSl, wp_kSl1, wp_kSl2, ws_ret, ws_kRet, ws_expr, ws_kExpr, ws_if, ws_kIfS, ws_set, ws_kSet, ws_setO, ws_kSetO, ws_kSetT, ws_setR, ws_kSetR0, ws_kSetR1, ws_kSetR2, items_t, items_ft, items_l, items_r, setAll, Bool.not_true, Bool.not_false, if_true, ite_true, ite_false, ↓reduceIte, Bool.false_eq_true, Int.reduceLT, Int.reduceLE, Nat.reduceLT, Nat.reduceLeDiff, Nat.reducePow, Int.reducePow, Int.reduceToNat, Int.reduceNeg, Int.reduceSub, Int.reduceAdd, and_self, and_true, true_and, decide_eq_true_eq, decide_true, decide_false, List.length_map, ixN_31, ixN_32, ixN_30, wipeE, restE, lcQ, Option.getD_some, add_i, add_t, add_l, sub_i, mul_i, mul_t, mul_l, fdiv_i, mod_i, pow_18, neg_i, lt_i, le_i, gt_i, ge_i, eq_i, ne_i, eq_b, len_t, len_ft, len_l, len_r, abs_i, int_i, list_t, list_ft, list_l, list_r, tuple_t, tuple_ft, tuple_l, isi_i, isi_b, isi_s, isi_t, isi_ft, isi_l, isi_r, isi_n, tru_b, tru_i, tru_t, tru_ft, tru_l, tru_n, isN_n, isN_b, isN_i, isN_s, isN_t, isN_l, ix_t, ix_ft, ix_l, ix_r, ix_ref, setS_ref, atI_0, atI_1, atI_2, Option.map_some, Option.map_none, kb0, kb1, kb2, kb3, kb4, kb5, kb6, kb7, kb8, kb9, kb10, kb11, kb12, kb13, kb14, kb15, kb16, kb17, kb18, kb19, kb20, kb21, kb22, kb23, kb24, kb25, kb26, kb27, kb28, kb29, sz0, szl0, sz1, szl1, sz2, szl2, sz3, szl3, sz4, szl4, sz5, szl5, sz6, szl6, sz7, szl7, sz8, szl8, sz9, szl9, sz10, szl10, sz11, szl11, sz12, szl12, sz13, szl13, sz14, szl14, sz15, szl15, sz16, szl16, sz17, szl17, sz18, szl18, sz19, szl19, sz20, szl20, sz21, szl21, sz22, szl22, sz23, szl23, sz24, szl24, sz25, szl25, sz26, szl26, sz27, szl27, sz28, szl28, sz29, szl29, sz30, szl30, sz31, szl31, sz32, szl32, sz33, szl33, sz34, szl34, sz35, szl35, sz36, szl36, sz37, szl37, sz38, szl38, sz39, szl39, sz40, szl40]; exact hq
    | lst ys =>
      unfold plP at hb
      unfold szP at hz
      rw [Bool.and_eq_true, decide_eq_true_eq] at hz
      unfold dpP at hd
      cases a with
      | dk _ => cases ha
      | dt _ => cases ha
      | ref _ => cases ha
      | rol _ => cases ha
      | ftp _ => cases ha
      | lst xs =>
        simp only [wpS_seq, ws_if, add_i, add_t, add_l, sub_i, mul_i, mul_t, mul_l, fdiv_i, mod_i, pow_18, neg_i, lt_i, le_i, gt_i, ge_i, eq_i, ne_i, eq_b, len_t, len_ft, len_l, len_r, abs_i, int_i, list_t, list_ft, list_l, list_r, tuple_t, tuple_ft, tuple_l, isi_i, isi_b, isi_s, isi_t, isi_ft, isi_l, isi_r, isi_n, tru_b, tru_i, tru_t, tru_ft, tru_l, tru_n, isN_n, isN_b, isN_i, isN_s, isN_t, isN_l, ix_t, ix_ft, ix_l, ix_r, ix_ref, setS_ref, atI_0, atI_1, atI_2, Option.map_some, Option.map_none, kb0, kb1, kb2, kb3, kb4, kb5, kb6, kb7, kb8, kb9, kb10, kb11, kb12, kb13, kb14, kb15, kb16, kb17, kb18, kb19, kb20, kb21, kb22, kb23, kb24, kb25, kb26, kb27, kb28, kb29, sz0, szl0, sz1, szl1, sz2, szl2, sz3, szl3, sz4, szl4, sz5, szl5, sz6, szl6, sz7, szl7, sz8, szl8, sz9, szl9, sz10, szl10, sz11, szl11, sz12, szl12, sz13, szl13, sz14, szl14, sz15, szl15, sz16, szl16, sz17, szl17, sz18, szl18, sz19, szl19, sz20, szl20, sz21, szl21, sz22, szl22, sz23, szl23, sz24, szl24, sz25, szl25, sz26, szl26, sz27, szl27, sz28, szl28, sz29, szl29, sz30, szl30, sz31, szl31, sz32, szl32, sz33, szl33, sz34, szl34, sz35, szl35, sz36, szl36, sz37, szl37, sz38, szl38, sz39, szl39, sz40, szl40, wp_dT, wp_d2, wp_d1, wp_dVar, wp_C, bq_ok, wp_k2, wp_k2b, wp_k1, wp_kT, wp_dTru, wp_kTru, wp_dAndT, wp_kAnd, wp_dNotT, wp_kNot, List.map, List.replicate, List.cons_append, List.nil_append, List.getElem?_cons_zero, List.getElem?_cons_succ, vQ_v, oQ_some, bqS_ok, ws_kIfS, wpS_next, sqS_nx, ↓reduceIte, Bool.false_eq_true, Bool.not_true, Bool.not_false]
        have z := seq xs ys _ _ (.inr ⟨rfl, rfl⟩) (ah xs (.inr rfl)) (plsP_mem hb) (fun x hx => szs_mem hz.2 hx) (fun x hx => by have := dps_mem hx; omega) hz.1 (by unfold eqD at hq; exact hq)
        simp only [wpS_seq, ws_if, wp_dT, wp_d2] at z
        exact z
      | _ => simp only [List.map, List.replicate, List.cons_append, List.nil_append, List.length_cons, List.length_nil, Nat.reduceAdd, bq_ok, bq_ex, wp_pure, wp_fail, wp_getS, oQ_some, oQ_ite, bqS_ok, bqS_ex, wpS_seq, sqS_nx, sqS_rt, sqS_bk, sqS_ct, sqS_ex, wpS_next, wpS_break, wpS_cont, wpS_retN, wpS_setT, stQ_some, wp_C, wp_call, wp_callv, bqF_ok, bqF_ex, wp_new, wp_newv, fqS_nx, fqS_rt, fqS_ex, wpS_for, wp_comp, wp_dVar, vQ_v, vQ_o, List.getElem?_cons_zero, List.getElem?_cons_succ, List.set_cons_zero, List.set_cons_succ, wp_d1, wp_k1, wp_d2, wp_k2, wp_k2b, wp_dT, wp_kT, wp_dTru, wp_kTru, wp_dNotT, wp_kNot, wp_dAndT, wp_kAnd, wp_dOrT, wp_kOr, wp_dAndV, wp_kAndV, wp_kAndVb, wp_dOrV, wp_kOrV, wp_kOrVb, wp_dNotV, wp_kNotV, wp_kNotVb, wp_dIf, wp_kIf, wp_dChain, wp_kCh, wp_kCh2, wp_kCh3, wp_aNil, wp_aCons, wp_kCons, wp_kCons2, wp_dTup, wp_kTup, wp_dLst, wp_kLst, wp_dN, wp_kN, wp_dLs, wp_kLs, wp_lDisp, wp_kDisp, wp_lRng, wp_kRng, wp_dItR, wp_kItR, wp_dItS, wp_kItS, wp_tTrue, wp_oNo, wp_oSome, wp_kSome, wp_dSl, wp_kSl, wp_kSl1, wp_kSl2, ws_ret, ws_kRet, ws_expr, ws_kExpr, ws_if, ws_kIfS, ws_set, ws_kSet, ws_setO, ws_kSetO, ws_kSetT, ws_setR, ws_kSetR0, ws_kSetR1, ws_kSetR2, items_t, items_ft, items_l, items_r, setAll, Bool.not_true, Bool.not_false, if_true, ite_true, ite_false, ↓reduceIte, Bool.false_eq_true, Int.reduceLT, Int.reduceLE, Nat.reduceLT, Nat.reduceLeDiff, Nat.reducePow, Int.reducePow, Int.reduceToNat, Int.reduceNeg, Int.reduceSub, Int.reduceAdd, and_self, and_true, true_and, decide_eq_true_eq, decide_true, decide_false, List.length_map, ixN_31, ixN_32, ixN_30, wipeE, restE, lcQ, Option.getD_some, add_i, add_t, add_l, sub_i, mul_i, mul_t, mul_l, fdiv_i, mod_i, pow_18, neg_i, lt_i, le_i, gt_i, ge_i, eq_i, ne_i, eq_b, len_t, len_ft, len_l, len_r, abs_i, int_i, list_t, list_ft, list_l, list_r, tuple_t, tuple_ft, tuple_l, isi_i, isi_b, isi_s, isi_t, isi_ft, isi_l, isi_r, isi_n, tru_b, tru_i, tru_t, tru_ft, tru_l, tru_n, isN_n, isN_b, isN_i, isN_s, isN_t, isN_l, ix_t, ix_ft, ix_l, ix_r, ix_ref, setS_ref, atI_0, atI_1, atI_2, Option.map_some, Option.map_none, kb0, kb1, kb2, kb3, kb4, kb5, kb6, kb7, kb8, kb9, kb10, kb11, kb12, kb13, kb14, kb15, kb16, kb17, kb18, kb19, kb20, kb21, kb22, kb23, kb24, kb25, kb26, kb27, kb28, kb29, sz0, szl0, sz1, szl1, sz2, szl2, sz3, szl3, sz4, szl4, sz5, szl5, sz6, szl6, sz7, szl7, sz8, szl8, sz9, szl9, sz10, szl10, sz11, szl11, sz12, szl12, sz13, szl13, sz14, szl14, sz15, szl15, sz16, szl16, sz17, szl17, sz18, szl18, sz19, szl19, sz20, szl20, sz21, szl21, sz22, szl22, sz23, szl23, sz24, szl24, sz25, szl25, sz26, szl26, sz27, szl27, sz28, szl28, sz29, szl29, sz30, szl30, sz31, szl31, sz32, szl32, sz33, szl33, sz34, szl34, sz35, szl35, sz36, szl36, sz37, szl37, sz38, szl38, sz39, szl39, sz40, szl40]; exact hq
theorem wp_equal {S : Stor} {a b : PV} {Q : OutF → Prop} (ha : plP a = true) (hb : plP b = true) (hz : szP b = true) (hd : dpP b ≤ 5) (hq : Q (.ok (.bl (eqD a b)) S)) : wpF d__law_equal [a, b] S Q := by
  unfold d__law_equal
  exact wp_equal_f 6 ha hb hz (by omega) hq
end Dn
end
section
set_option Elab.async false
set_option linter.all false
set_option maxRecDepth 100000
set_option maxHeartbeats 1000000
namespace Dn
open PySem L2
/-! ### encodings are data -/
/-! ### checks -/
section
variable {S : Stor} {Q : OutF → Prop} {a b p : PV} {cs : List PV}
end
/-! ### draws -/
structure GQ (k most : Int) (q : List Int) : Prop where
  len : (q.length : Int) ≤ most
  mem : ∀ x ∈ q, In k x
theorem wp_pick {R S : Stor} {xs : List PV} {Q : OutF → Prop} (h : SInv R S) (h0 : 0 < xs.length) (h1 : xs.length ≤ 1000000) (hq : ∀ x S', x ∈ xs → SInv R S' → Q (.ok x S')) : wpF d__law_pick [.ref 0, .lst xs] S Q := by
  unfold d__law_pick
  refine wpF_go rfl ?_
  simp only [List.map, List.replicate, List.cons_append, List.nil_append, List.length_cons, List.length_nil, Nat.reduceAdd, bq_ok, bq_ex, wp_pure, wp_fail, wp_getS, oQ_some, oQ_ite, bqS_ok, bqS_ex, wpS_seq, sqS_nx, sqS_rt, sqS_bk, sqS_ct, sqS_ex, wpS_next, wpS_break, wpS_cont, wpS_retN, wpS_setT, stQ_some, wp_C, wp_call, wp_callv, bqF_ok, bqF_ex, wp_new, wp_newv, fqS_nx, fqS_rt, fqS_ex, wpS_for, wp_comp, wp_dVar, vQ_v, vQ_o, List.getElem?_cons_zero, List.getElem?_cons_succ, List.set_cons_zero, List.set_cons_succ, wp_d1, wp_k1, wp_d2, wp_k2, wp_k2b, wp_dT, wp_kT, wp_dTru, wp_kTru, wp_dNotT, wp_kNot, wp_dAndT, wp_kAnd, wp_dOrT, wp_kOr, wp_dAndV, wp_kAndV, wp_kAndVb, wp_dOrV, wp_kOrV, wp_kOrVb, wp_dNotV, wp_kNotV, wp_kNotVb, wp_dIf, wp_kIf, wp_dChain, wp_kCh, wp_kCh2, wp_kCh3, wp_aNil, wp_aCons, wp_kCons, wp_kCons2, wp_dTup, wp_kTup, wp_dLst, wp_kLst, wp_dN, wp_kN, wp_dLs, wp_kLs, wp_lDisp, wp_kDisp, wp_lRng, wp_kRng, wp_dItR, wp_kItR, wp_dItS, wp_kItS, wp_tTrue, wp_oNo, wp_oSome, wp_kSome, wp_dSl, wp_kSl, wp_kSl1, wp_kSl2, ws_ret, ws_kRet, ws_expr, ws_kExpr, ws_if, ws_kIfS, ws_set, ws_kSet, ws_setO, ws_kSetO, ws_kSetT, ws_setR, ws_kSetR0, ws_kSetR1, ws_kSetR2, items_t, items_ft, items_l, items_r, setAll, Bool.not_true, Bool.not_false, if_true, ite_true, ite_false, ↓reduceIte, Bool.false_eq_true, Int.reduceLT, Int.reduceLE, Nat.reduceLT, Nat.reduceLeDiff, Nat.reducePow, Int.reducePow, Int.reduceToNat, Int.reduceNeg, Int.reduceSub, Int.reduceAdd, and_self, and_true, true_and, decide_eq_true_eq, decide_true, decide_false, List.length_map, ixN_31, ixN_32, ixN_30, wipeE, restE, lcQ, Option.getD_some, add_i, add_t, add_l, sub_i, mul_i, mul_t, mul_l, fdiv_i, mod_i, pow_18, neg_i, lt_i, le_i, gt_i, ge_i, eq_i, ne_i, eq_b, len_t, len_ft, len_l, len_r, abs_i, int_i, list_t, list_ft, list_l, list_r, tuple_t, tuple_ft, tuple_l, isi_i, isi_b, isi_s, isi_t, isi_ft, isi_l, isi_r, isi_n, tru_b, tru_i, tru_t, tru_ft, tru_l, tru_n, isN_n, isN_b, isN_i, isN_s, isN_t, isN_l, ix_t, ix_ft, ix_l, ix_r, ix_ref, setS_ref, atI_0, atI_1, atI_2, Option.map_some, Option.map_none, kb0, kb1, kb2, kb3, kb4, kb5, kb6, kb7, kb8, kb9, kb10, kb11, kb12, kb13, kb14, kb15, kb16, kb17, kb18, kb19, kb20, kb21, kb22, kb23, kb24, kb25, kb26, kb27, kb28, kb29, sz0, szl0, sz1, szl1, sz2, szl2, sz3, szl3, sz4, szl4, sz5, szl5, sz6, szl6, sz7, szl7, sz8, szl8, sz9, szl9, sz10, szl10, sz11, szl11, sz12, szl12, sz13, szl13, sz14, szl14, sz15, szl15, sz16, szl16, sz17, szl17, sz18, szl18, sz19, szl19, sz20, szl20, sz21, szl21, sz22, szl22, sz23, szl23, sz24, szl24, sz25, szl25, sz26, szl26, sz27, szl27, sz28, szl28, sz29, szl29, sz30, szl30, sz31, szl31, sz32, szl32, sz33, szl33, sz34, szl34, sz35, szl35, sz36, szl36, sz37, szl37, sz38, szl38, sz39, szl39, sz40, szl40]
  refine wp_next h (by omega) (by omega) fun x S1 hx0 hx1 h2 => ?_
  simp only [List.map, List.replicate, List.cons_append, List.nil_append, List.length_cons, List.length_nil, Nat.reduceAdd, bq_ok, bq_ex, wp_pure, wp_fail, wp_getS, oQ_some, oQ_ite, bqS_ok, bqS_ex, wpS_seq, sqS_nx, sqS_rt, sqS_bk, sqS_ct, sqS_ex, wpS_next, wpS_break, wpS_cont, wpS_retN, wpS_setT, stQ_some, wp_C, wp_call, wp_callv, bqF_ok, bqF_ex, wp_new, wp_newv, fqS_nx, fqS_rt, fqS_ex, wpS_for, wp_comp, wp_dVar, vQ_v, vQ_o, List.getElem?_cons_zero, List.getElem?_cons_succ, List.set_cons_zero, List.set_cons_succ, wp_d1, wp_k1, wp_d2, wp_k2, wp_k2b, wp_dT, wp_kT, wp_dTru, wp_kTru, wp_dNotT, wp_kNot, wp_dAndT, wp_kAnd, wp_dOrT, wp_kOr, wp_dAndV, wp_kAndV, wp_kAndVb, wp_dOrV, wp_kOrV, wp_kOrVb, wp_dNotV, wp_kNotV, wp_kNotVb, wp_dIf, wp_kIf, wp_dChain, wp_kCh, wp_kCh2, wp_kCh3, wp_aNil, wp_aCons, wp_kCons, wp_kCons2, wp_dTup, wp_kTup, wp_dLst, wp_kLst, wp_dN, wp_kN, wp_dLs, wp_kLs, wp_lDisp, wp_kDisp, wp_lRng, wp_kRng, wp_dItR, wp_kItR, wp_dItS, wp_kItS, wp_tTrue, wp_oNo, wp_oSome, wp_kSome, wp_dSl, wp_kSl, wp_kSl1, wp_kSl2, ws_ret, ws_kRet, ws_expr, ws_kExpr, ws_if, ws_kIfS, ws_set, ws_kSet, ws_setO, ws_kSetO, ws_kSetT, ws_setR, ws_kSetR0, ws_kSetR1, ws_kSetR2, items_t, items_ft, items_l, items_r, setAll, Bool.not_true, Bool.not_false, if_true, ite_true, ite_false, ↓reduceIte, Bool.false_eq_true, Int.reduceLT, Int.reduceLE, Nat.reduceLT, Nat.reduceLeDiff, Nat.reducePow, Int.reducePow, Int.reduceToNat, Int.reduceNeg, Int.reduceSub, Int.reduceAdd, and_self, and_true, true_and, decide_eq_true_eq, decide_true, decide_false, List.length_map, ixN_31, ixN_32, ixN_30, wipeE, restE, lcQ, Option.getD_some, add_i, add_t, add_l, sub_i, mul_i, mul_t, mul_l, fdiv_i, mod_i, pow_18, neg_i, lt_i, le_i, gt_i, ge_i, eq_i, ne_i, eq_b, len_t, len_ft, len_l, len_r, abs_i, int_i, list_t, list_ft, list_l, list_r, tuple_t, tuple_ft, tuple_l, isi_i, isi_b, isi_s, isi_t, isi_ft, isi_l, isi_r, isi_n, tru_b, tru_i, tru_t, tru_ft, tru_l, tru_n, isN_n, isN_b, isN_i, isN_s, isN_t, isN_l, ix_t, ix_ft, ix_l, ix_r, ix_ref, setS_ref, atI_0, atI_1, atI_2, Option.map_some, Option.map_none, kb0, kb1, kb2, kb3, kb4, kb5, kb6, kb7, kb8, kb9, kb10, kb11, kb12, kb13, kb14, kb15, kb16, kb17, kb18, kb19, kb20, kb21, kb22, kb23, kb24, kb25, kb26, kb27, kb28, kb29, sz0, szl0, sz1, szl1, sz2, szl2, sz3, szl3, sz4, szl4, sz5, szl5, sz6, szl6, sz7, szl7, sz8, szl8, sz9, szl9, sz10, szl10, sz11, szl11, sz12, szl12, sz13, szl13, sz14, szl14, sz15, szl15, sz16, szl16, sz17, szl17, sz18, szl18, sz19, szl19, sz20, szl20, sz21, szl21, sz22, szl22, sz23, szl23, sz24, szl24, sz25, szl25, sz26, szl26, sz27, szl27, sz28, szl28, sz29, szl29, sz30, szl30, sz31, szl31, sz32, szl32, sz33, szl33, sz34, szl34, sz35, szl35, sz36, szl36, sz37, szl37, sz38, szl38, sz39, szl39, sz40, szl40, atI_in hx0 hx1]
  exact hq _ S1 (List.getElem_mem _) h2
theorem sl_to {xs : List PV} {i : Int} (h0 : 0 ≤ i) : slP (.tup xs) none (some i) = some (.tup (xs.take i.toNat)) := by
  unfold slP; dsimp only
  have : HT.sIx xs.length 0 none = 0 := rfl
  rw [this]
  have : HT.sIx xs.length xs.length (some i) = min i.toNat xs.length := by show (if i < 0 then _ else _) = _; rw [if_neg (by omega)]
  rw [this, List.drop_zero, Nat.sub_zero]
  congr 2
  by_cases hl : i.toNat ≤ xs.length
  · rw [Nat.min_eq_left hl]
  · rw [Nat.min_eq_right (by omega), List.take_of_length_le (Nat.le_refl _), List.take_of_length_le (by omega)]
section
variable {S : Stor} {Q : OutF → Prop} {a b p : PV} {cs : List PV}
end
end Dn
end
section
set_option Elab.async false
set_option linter.all false
set_option maxRecDepth 100000
set_option maxHeartbeats 1000000
namespace Dn
open PySem L2
/-! ### steps -/
def stp (cs : List (List Int)) (s c : Int) : Int := (cs.getD c.toNat []).getD s.toNat 0
def ledP (cs : List (List Int)) (s : Int) (q : List Int) : Int := q.foldl (stp cs) s
theorem getD_mem {cs : List (List Int)} {i : Int} (h0 : 0 ≤ i) (h : i < cs.length) : cs.getD i.toNat [] ∈ cs := by
  have : i.toNat < cs.length := by omega
  simp only [List.getD, List.getElem?_eq_getElem this, Option.getD_some]
  exact List.getElem_mem this
theorem stp_in {n : Int} {cs : List (List Int)} (hm : ∀ c ∈ cs, GC n c) {s c : Int} (hs : In n s) (hc : In cs.length c) : In n (stp cs s c) := by
  have g := hm _ (getD_mem hc.1 hc.2)
  have hl := g.len
  have h1 := hs.1; have h2 := hs.2
  have : s.toNat < (cs.getD c.toNat []).length := by omega
  have gen : ∀ (l : List Int) (i : Nat), i < l.length → l.getD i 0 ∈ l := fun l i h => by
    simp only [List.getD, List.getElem?_eq_getElem h, Option.getD_some]; exact List.getElem_mem h
  exact g.mem _ (gen _ _ this)
section
variable {n s0 : Int} {cs : List (List Int)} {S : Stor} {Q : OutF → Prop}
theorem led_in (hm : ∀ c ∈ cs, GC n c) : ∀ (q : List Int) {s : Int}, In n s → (∀ x ∈ q, In cs.length x) → In n (ledP cs s q)
  | [], s, hs, _ => hs
  | c :: q, s, hs, hq => led_in hm q (stp_in hm hs (hq c (List.mem_cons_self ..))) fun x hx => hq x (List.mem_cons_of_mem _ hx)
end
end Dn
end
section
set_option Elab.async false
set_option linter.all false
set_option maxRecDepth 100000
set_option maxHeartbeats 1000000
namespace Dn
open PySem L2
section
variable {n s0 : Int} {cs : List (List Int)} {S : Stor} {Q : OutF → Prop}
theorem GQ.take {k m : Int} {q : List Int} (h : GQ k m q) (i : Nat) : GQ k m (q.take i) := ⟨by have := h.len; rw [List.length_take]; omega, fun x hx => h.mem x (List.mem_of_mem_take hx)⟩
theorem GQ.drop {k m : Int} {q : List Int} (h : GQ k m q) (i : Nat) : GQ k m (q.drop i) := ⟨by have := h.len; rw [List.length_drop]; omega, fun x hx => h.mem x (List.mem_of_mem_drop hx)⟩
end
end Dn
end
section
set_option Elab.async false
set_option linter.all false
set_option maxRecDepth 100000
set_option maxHeartbeats 1000000
namespace Dn
open PySem L2
/-! ### a name's own dict -/
section
variable {e : DEnv} {S : Stor} {Q : Out PV → Prop} {QS : OutS → Prop} {da dk : DE} {i : Nat} {neg : Bool} {q p : PV} {kvs : List (Key × PV)} {t : Int}
end
/-! ### breadth -/
abbrev Fd := List (Int × List Int)
def enF (f : Fd) : List (Key × PV) := f.map fun e => (.inl e.1, encC e.2)
def hasF (f : Fd) (s : Int) : Bool := f.any fun e => decide (e.1 = s)
def valF (f : Fd) (s : Int) : List Int := ((f.find? fun e => decide (e.1 = s)).map (·.2)).getD []
def exp1 (cs : List (List Int)) (here : Int) (x : Fd × List Int) (c : Nat) : Fd × List Int :=
  if hasF x.1 (stp cs here c) then x else (x.1 ++ [(stp cs here c, valF x.1 here ++ [(c : Int)])], x.2 ++ [stp cs here c])
theorem get_enF (f : Fd) (s : Int) : getKV (enF f) (.inl s) = (f.find? fun e => decide (e.1 = s)).map fun e => encC e.2 := by
  induction f with
  | nil => rfl
  | cons e f ih =>
    unfold getKV enF at *
    rw [List.map_cons, List.find?_cons, List.find?_cons]
    by_cases h : e.1 = s
    · rw [decide_eq_true (by rw [h]), decide_eq_true h]; rfl
    · rw [decide_eq_false (by intro z; cases z; exact h rfl), decide_eq_false h]; exact ih
theorem has_enF (f : Fd) (s : Int) : (getKV (enF f) (.inl s)).isSome = hasF f s := by
  rw [get_enF, Option.isSome_map]
  induction f with
  | nil => rfl
  | cons e f ih =>
    unfold hasF at *
    rw [List.find?_cons, List.any_cons]
    by_cases h : e.1 = s
    · rw [decide_eq_true h]; rfl
    · rw [decide_eq_false h]; exact ih
end Dn
end
section
set_option Elab.async false
set_option linter.all false
set_option maxRecDepth 100000
set_option maxHeartbeats 1000000
namespace Dn
open PySem L2
/-- distinct numbers below a bound are few -/
theorem nodup_few : ∀ (n : Nat) (l : List Int), l.Nodup → (∀ x ∈ l, In n x) → l.length ≤ n
  | 0, l, _, h => by
    cases l with
    | nil => exact Nat.le_refl _
    | cons x l => have := h x (List.mem_cons_self ..); unfold In at this; omega
  | n + 1, l, hn, h => by
    have h1 := nodup_few n (l.erase n) (hn.erase _) fun x hx => by
      have hm := List.mem_of_mem_erase hx
      have hne : x ≠ n := fun z => by
        subst z
        exact (List.Nodup.not_mem_erase hn) hx
      have := h x hm
      unfold In at this ⊢
      omega
    have := List.length_erase (a := (n : Int)) (l := l)
    split at this <;> omega
/-- what is found is in order: keys distinct, numbers of states, the queue is its end -/
structure FI (n : Int) (f : Fd) (q : List Int) : Prop where
  nd : (f.map (·.1)).Nodup
  mem : ∀ e ∈ f, In n e.1
  q : ∃ d, f.map (·.1) = d ++ q
  pl : ∀ e ∈ f, e.2.length < f.length
theorem FI.few {n : Int} {f : Fd} {q : List Int} (h : FI n f q) (hn : n ≤ 1000) : f.length ≤ 1000 := by
  have := nodup_few n.toNat (f.map (·.1)) h.nd fun x hx => by
    obtain ⟨e, he, rfl⟩ := List.mem_map.mp hx
    have := h.mem e he
    unfold In at this ⊢; omega
  rw [List.length_map] at this; omega
theorem hasF_iff {f : Fd} {s : Int} : hasF f s = true ↔ s ∈ f.map (·.1) := by
  unfold hasF
  rw [List.any_eq_true, List.mem_map]
  constructor
  · rintro ⟨e, he, h⟩; exact ⟨e, he, by simpa using h⟩
  · rintro ⟨e, he, h⟩; exact ⟨e, he, by simpa using h⟩
theorem valF_mem {f : Fd} {s : Int} (h : hasF f s = true) : (s, valF f s) ∈ f := by
  have := has_enF f s
  rw [h, get_enF, Option.isSome_map] at this
  unfold valF
  cases e : f.find? fun e => decide (e.1 = s) with
  | none => rw [e] at this; cases this
  | some x =>
    have h1 := List.mem_of_find?_eq_some e
    have h2 := List.find?_some e
    have h2 : x.1 = s := by simpa using h2
    rw [← h2]
    exact h1
theorem FI.exp1 {n : Int} {cs : List (List Int)} (hm : ∀ c ∈ cs, GC n c) {here : Int} (hs : In n here) {x : Fd × List Int} (h : FI n x.1 x.2) (hh0 : hasF x.1 here = true) {c : Nat} (hc : c < cs.length) : FI n (Dn.exp1 cs here x c).1 (Dn.exp1 cs here x c).2 := by
  unfold Dn.exp1
  split
  · exact h
  · rename_i hh
    have hh : hasF x.1 (stp cs here c) = false := by simpa using hh
    have hnm : stp cs here c ∉ x.1.map (·.1) := fun z => by rw [hasF_iff.mpr z] at hh; cases hh
    obtain ⟨d, e⟩ := h.q
    refine ⟨?_, fun e he => ?_, ⟨d, ?_⟩, fun e he => ?_⟩
    · rw [List.map_append, List.nodup_append]
      refine ⟨h.nd, by simp, fun a ha b hb => ?_⟩
      rw [List.map_cons, List.map_nil, List.mem_singleton] at hb
      rw [hb]
      intro z
      have z : a = stp cs here c := z
      exact hnm (by rw [← z]; exact ha)
    · rcases List.mem_append.mp he with he | he
      · exact h.mem e he
      · rw [List.mem_singleton.mp he]
        exact stp_in hm hs ⟨by omega, by omega⟩
    · rw [List.map_append, e, List.append_assoc]; rfl
    · rw [List.length_append, List.length_singleton]
      rcases List.mem_append.mp he with he | he
      · have := h.pl e he; omega
      · rw [List.mem_singleton.mp he]
        have := h.pl _ (valF_mem hh0)
        simp only [List.length_append, List.length_singleton] at this ⊢
        omega
theorem hasF_exp1 {cs : List (List Int)} {here : Int} {x : Fd × List Int} {c : Nat} {s : Int} (h : hasF x.1 s = true) : hasF (Dn.exp1 cs here x c).1 s = true := by
  unfold Dn.exp1
  split
  · exact h
  · rw [hasF_iff] at h ⊢
    rw [List.map_append]
    exact List.mem_append_left _ h
section
variable {n s0 : Int} {cs : List (List Int)} {S : Stor} {Q : OutS → Prop}
end
end Dn
end
section
set_option Elab.async false
set_option linter.all false
set_option maxRecDepth 100000
set_option maxHeartbeats 1000000
namespace Dn
open PySem L2
inductive Bfs (cs : List (List Int)) : Fd × List Int → Fd → Prop
  | done (f : Fd) : Bfs cs (f, []) f
  | step {f : Fd} {h : Int} {q : List Int} {f' : Fd} : Bfs cs ((List.range cs.length).foldl (exp1 cs h) (f, q)) f' → Bfs cs (f, h :: q) f'
theorem FI.foldl {n : Int} {cs : List (List Int)} (hm : ∀ c ∈ cs, GC n c) {here : Int} (hs : In n here) : ∀ (ks : List Nat) {x : Fd × List Int}, (∀ k ∈ ks, k < cs.length) → FI n x.1 x.2 → hasF x.1 here = true → FI n (ks.foldl (Dn.exp1 cs here) x).1 (ks.foldl (Dn.exp1 cs here) x).2
  | [], _, _, h, _ => h
  | k :: ks, x, hk, h, hh => FI.foldl hm hs ks (fun j hj => hk j (List.mem_cons_of_mem _ hj)) (h.exp1 hm hs hh (hk k (List.mem_cons_self ..))) (hasF_exp1 hh)
theorem whL_true {t : Den Bool} {b : DS} {N : Nat} {e e2 : DEnv} {S S2 : Stor} {Q : OutS → Prop} (h1 : t e S = .ok true e S) (h2 : b e S = .nx e2 S2) (h : wpS (whL t b N) e2 S2 Q) : wpS (whL t b (N + 1)) e S Q := by
  unfold wpS whL sE; rw [h1]; dsimp only; rw [if_pos rfl, h2]; exact h
theorem whL_false {t : Den Bool} {b : DS} {N : Nat} {e : DEnv} {S : Stor} {Q : OutS → Prop} (h1 : t e S = .ok false e S) (h : Q (.nx e S)) : wpS (whL t b (N + 1)) e S Q := by
  unfold wpS whL sE; rw [h1]; dsimp only; rw [if_neg Bool.false_ne_true]; exact h
section
variable {n s0 : Int} {cs : List (List Int)} {S : Stor}
end
end Dn
end
section
set_option Elab.async false
set_option linter.all false
set_option maxRecDepth 100000
set_option maxHeartbeats 1000000
namespace Dn
open PySem L2
section
variable {n s0 : Int} {cs : List (List Int)} {S : Stor}
theorem FI.one {st : Int} (hs : In n st) : FI n [(st, [])] [st] := ⟨by simp, fun e he => by rw [List.mem_singleton.mp he]; exact hs, ⟨[], rfl⟩, fun e he => by rw [List.mem_singleton.mp he]; exact Nat.zero_lt_one⟩
end
end Dn
end
section
set_option Elab.async false
set_option linter.all false
set_option maxRecDepth 100000
set_option maxHeartbeats 1000000
namespace Dn
open PySem L2
theorem exp1_app {cs : List (List Int)} {here : Int} {f : Fd} {a b : List Int} {k : Nat} : exp1 cs here (f, a ++ b) k = ((exp1 cs here (f, b) k).1, a ++ (exp1 cs here (f, b) k).2) := by
  unfold exp1
  dsimp only
  split
  · rfl
  · rw [List.append_assoc]
theorem foldl_app {cs : List (List Int)} {here : Int} : ∀ (ks : List Nat) (f : Fd) (a b : List Int), ks.foldl (exp1 cs here) (f, a ++ b) = ((ks.foldl (exp1 cs here) (f, b)).1, a ++ (ks.foldl (exp1 cs here) (f, b)).2)
  | [], _, _, _ => rfl
  | k :: ks, f, a, b => by
    rw [List.foldl_cons, List.foldl_cons, exp1_app]
    exact foldl_app ks _ _ _
/-- one level -/
def lvl (cs : List (List Int)) (x : Fd × List Int) (h : Int) : Fd × List Int := (List.range cs.length).foldl (exp1 cs h) x
theorem Bfs.lvl {cs : List (List Int)} {f' : Fd} : ∀ (rows : List Int) (f : Fd) (later : List Int), Bfs cs ((rows.foldl (Dn.lvl cs) (f, later)).1, (rows.foldl (Dn.lvl cs) (f, later)).2) f' → Bfs cs (f, rows ++ later) f'
  | [], _, _, h => h
  | r :: rows, f, later, h => by
    rw [List.cons_append]
    refine .step ?_
    rw [foldl_app]
    exact Bfs.lvl rows _ _ h
/-- turns of levels -/
def turns (cs : List (List Int)) : Nat → Fd × List Int → Fd × List Int
  | 0, x => x
  | m + 1, x => turns cs m (x.2.foldl (lvl cs) (x.1, []))
theorem Bfs.turns {cs : List (List Int)} {f' : Fd} : ∀ (m : Nat) (x : Fd × List Int), Bfs cs (Dn.turns cs m x) f' → Bfs cs x f'
  | 0, _, h => h
  | m + 1, (f, q), h => by
    have := Bfs.turns m _ h
    have := Bfs.lvl (cs := cs) q f [] this
    rw [List.append_nil] at this
    exact this
theorem FI.lvl {n : Int} {cs : List (List Int)} (hm : ∀ c ∈ cs, GC n c) : ∀ (rows : List Int) (f : Fd) (later : List Int), FI n f later → (∀ r ∈ rows, hasF f r = true) → FI n (rows.foldl (Dn.lvl cs) (f, later)).1 (rows.foldl (Dn.lvl cs) (f, later)).2
  | [], _, _, h, _ => h
  | r :: rows, f, later, h, hr => by
    have hh := hr r (List.mem_cons_self ..)
    have hs : In n r := by
      obtain ⟨e, he, h1⟩ := List.mem_map.mp (hasF_iff.mp hh)
      rw [← h1]; exact h.mem e he
    have hk : ∀ k ∈ List.range cs.length, k < cs.length := fun k hk => List.mem_range.mp hk
    refine FI.lvl hm rows _ _ (FI.foldl hm hs (List.range cs.length) hk h hh) fun r' hr' => ?_
    have gen : ∀ (ks : List Nat) (x : Fd × List Int), hasF x.1 r' = true → hasF (ks.foldl (Dn.exp1 cs r) x).1 r' = true := by
      intro ks
      induction ks with
      | nil => intro x h; exact h
      | cons k ks ih => intro x h; exact ih _ (hasF_exp1 h)
    exact gen _ _ (hr r' (List.mem_cons_of_mem _ hr'))
end Dn
end
section
set_option Elab.async false
set_option linter.all false
set_option maxRecDepth 100000
set_option maxHeartbeats 1000000
namespace Dn
open PySem L2
theorem FI.all {n : Int} {f : Fd} {q : List Int} (h : FI n f q) : FI n f [] ∧ ∀ r ∈ q, hasF f r = true := by
  obtain ⟨d, e⟩ := h.q
  refine ⟨⟨h.nd, h.mem, ⟨d ++ q, by rw [List.append_nil]; exact e⟩, h.pl⟩, fun r hr => hasF_iff.mpr (by rw [e]; exact List.mem_append_right _ hr)⟩
theorem FI.turn {n : Int} {cs : List (List Int)} (hm : ∀ c ∈ cs, GC n c) {x : Fd × List Int} (h : FI n x.1 x.2) : FI n (x.2.foldl (Dn.lvl cs) (x.1, [])).1 (x.2.foldl (Dn.lvl cs) (x.1, [])).2 :=
  FI.lvl hm x.2 x.1 [] h.all.1 h.all.2
theorem FI.turns {n : Int} {cs : List (List Int)} (hm : ∀ c ∈ cs, GC n c) : ∀ (m : Nat) (x : Fd × List Int), FI n x.1 x.2 → FI n (Dn.turns cs m x).1 (Dn.turns cs m x).2
  | 0, _, h => h
  | m + 1, x, h => FI.turns hm m _ (h.turn hm)
end Dn
end
section
set_option Elab.async false
set_option linter.all false
set_option maxRecDepth 100000
set_option maxHeartbeats 1000000
namespace Dn
open PySem L2
section
variable {n s0 : Int} {cs : List (List Int)} {S : Stor}
end
end Dn
end
section
set_option Elab.async false
set_option linter.all false
set_option maxRecDepth 100000
set_option maxHeartbeats 1000000
namespace Dn
open PySem L2
section
variable {n s0 : Int} {cs : List (List Int)} {S : Stor}
end
end Dn
end
section
set_option Elab.async false
set_option linter.all false
set_option maxRecDepth 100000
set_option maxHeartbeats 1000000
namespace Dn
open PySem L2
theorem ledP_snoc {cs : List (List Int)} {st c : Int} {q : List Int} : ledP cs st (q ++ [c]) = stp cs (ledP cs st q) c := by
  unfold ledP; rw [List.foldl_append]; rfl
/-- what holds of each entry: its path is of commands and leads to it; if it is not empty, it is an earlier entry's path and one command -/
structure FP (cs : List (List Int)) (st : Int) (f : Fd) : Prop where
  led : ∀ e ∈ f, ledP cs st e.2 = e.1
  cmd : ∀ e ∈ f, ∀ c ∈ e.2, In cs.length c
  par : ∀ e ∈ f, e.2 = [] ∨ ∃ e' ∈ f, ∃ c, e.2 = e'.2 ++ [c]
theorem FP.exp1 {cs : List (List Int)} {st here : Int} {x : Fd × List Int} (h : FP cs st x.1) (hh : hasF x.1 here = true) {k : Nat} (hk : k < cs.length) : FP cs st (Dn.exp1 cs here x k).1 := by
  unfold Dn.exp1
  split
  · exact h
  · have hv := valF_mem hh
    refine ⟨fun e he => ?_, fun e he => ?_, fun e he => ?_⟩
    · rcases List.mem_append.mp he with he | he
      · exact h.led e he
      · rw [List.mem_singleton.mp he]
        dsimp only
        rw [ledP_snoc, h.led _ hv]
    · rcases List.mem_append.mp he with he | he
      · exact h.cmd e he
      · rw [List.mem_singleton.mp he]
        intro c hc
        rcases List.mem_append.mp hc with hc | hc
        · exact h.cmd _ hv c hc
        · rw [List.mem_singleton.mp hc]; exact ⟨by omega, by omega⟩
    · rcases List.mem_append.mp he with he | he
      · rcases h.par e he with z | ⟨e', h1, c, h2⟩
        · exact .inl z
        · exact .inr ⟨e', List.mem_append_left _ h1, c, h2⟩
      · rw [List.mem_singleton.mp he]
        exact .inr ⟨_, List.mem_append_left _ hv, _, rfl⟩
theorem FP.foldl {cs : List (List Int)} {st here : Int} : ∀ (ks : List Nat) {x : Fd × List Int}, FP cs st x.1 → hasF x.1 here = true → (∀ k ∈ ks, k < cs.length) → FP cs st (ks.foldl (Dn.exp1 cs here) x).1
  | [], _, h, _, _ => h
  | k :: ks, x, h, hh, hk => FP.foldl ks (h.exp1 hh (hk k (List.mem_cons_self ..))) (hasF_exp1 hh) fun j hj => hk j (List.mem_cons_of_mem _ hj)
theorem FP.one {cs : List (List Int)} {st : Int} : FP cs st [(st, [])] :=
  ⟨fun e he => by rw [List.mem_singleton.mp he]; rfl, fun e he => by rw [List.mem_singleton.mp he]; exact fun c hc => (nomatch hc), fun e he => by rw [List.mem_singleton.mp he]; exact .inl rfl⟩
theorem FP.bfs {n : Int} {cs : List (List Int)} (hm : ∀ c ∈ cs, GC n c) {st : Int} {x : Fd × List Int} {f' : Fd} (hb : Bfs cs x f') : FP cs st x.1 → FI n x.1 x.2 → FP cs st f' := by
  induction hb with
  | done f => exact fun h _ => h
  | @step f p q f' hb ih =>
    intro h hf
    obtain ⟨d, ed⟩ := hf.q
    have hh : hasF f p = true := hasF_iff.mpr (by rw [ed]; simp)
    have hs : In n p := by
      obtain ⟨e, he, h1⟩ := List.mem_map.mp (hasF_iff.mp hh)
      rw [← h1]; exact hf.mem e he
    have hf1 : FI n f q := ⟨hf.nd, hf.mem, ⟨d ++ [p], by rw [ed, List.append_assoc]; rfl⟩, hf.pl⟩
    have hk : ∀ k ∈ List.range cs.length, k < cs.length := fun k hk => List.mem_range.mp hk
    exact ih (FP.foldl (x := (f, q)) _ h hh hk) (FI.foldl hm hs _ hk hf1 hh)
end Dn
end
section
set_option Elab.async false
set_option linter.all false
set_option maxRecDepth 100000
set_option maxHeartbeats 1000000
namespace Dn
open PySem L2
end Dn
end
section
set_option Elab.async false
set_option linter.all false
set_option maxRecDepth 100000
set_option maxHeartbeats 1000000
namespace Dn
open PySem L2
section
variable {e : DEnv} {S : Stor} {Q : Out PV → Prop} {da dk : DE} {kvs : List (Key × PV)} {t : Int}
end
theorem valF_of {f : Fd} (hn : (f.map (·.1)).Nodup) {e : Int × List Int} (he : e ∈ f) : valF f e.1 = e.2 := by
  have h : hasF f e.1 = true := hasF_iff.mpr (List.mem_map.mpr ⟨e, he, rfl⟩)
  have hm := valF_mem h
  clear h
  induction f with
  | nil => cases he
  | cons x f ih =>
    have key : ∀ (f : Fd), (f.map (·.1)).Nodup → ∀ a ∈ f, ∀ b ∈ f, a.1 = b.1 → a = b := by
      intro f
      induction f with
      | nil => intro _ a ha; cases ha
      | cons y f ih =>
        intro hn a ha b hb e
        rw [List.map_cons, List.nodup_cons] at hn
        rcases List.mem_cons.mp ha with h1 | h1
        · rcases List.mem_cons.mp hb with h2 | h2
          · rw [h1, h2]
          · exact absurd (show y.1 ∈ f.map (·.1) from List.mem_map.mpr ⟨b, h2, by rw [← e, h1]⟩) hn.1
        · rcases List.mem_cons.mp hb with h2 | h2
          · exact absurd (show y.1 ∈ f.map (·.1) from List.mem_map.mpr ⟨a, h1, by rw [e, h2]⟩) hn.1
          · exact ih hn.2 a h1 b h2 e
    have := key _ hn _ hm e he rfl
    exact congrArg Prod.snd this
section
variable {n s0 : Int} {cs : List (List Int)} {S : Stor} {Q : OutF → Prop}
end
end Dn
end
section
set_option Elab.async false
set_option linter.all false
set_option maxRecDepth 100000
set_option maxHeartbeats 1000000
namespace Dn
open PySem L2
section
variable {n s0 : Int} {cs : List (List Int)} {S : Stor} {Q : OutF → Prop}
end
end Dn
end
section
set_option Elab.async false
set_option linter.all false
set_option maxRecDepth 100000
set_option maxHeartbeats 1000000
namespace Dn
open PySem L2
theorem atI_last {xs : List PV} (h : 0 < xs.length) : atI xs (-1) = some (xs[xs.length - 1]'(by omega)) := by
  unfold atI ixN
  rw [if_neg (by omega), if_pos (by omega), Option.bind_some]
  have : ((-1 : Int) + xs.length).toNat = xs.length - 1 := by omega
  rw [this, List.getElem?_eq_getElem (by omega)]
/-- data is equal to itself -/
theorem wp_equal_self {S : Stor} {a : PV} {Q : OutF → Prop} (ha : plP a = true) (hz : szP a = true) (hd : dpP a ≤ 5) (hq : Q (.ok (.bl true) S)) : wpF d__law_equal [a, a] S Q := by
  apply wp_equal ha ha hz hd
  rw [eqD_refl a ha]; exact hq
end Dn
end
section
set_option Elab.async false
set_option linter.all false
set_option maxRecDepth 100000
set_option maxHeartbeats 1000000
namespace Dn
open PySem L2
/-! ### equality of data by == -/
section
variable {S : Stor} {p q : PV} {xs ys : List PV} {i j : Int} {b c : Bool} {x y : Str}
end
section
variable {e : DEnv} {S : Stor} {Q : Out (List PV) → Prop} {de : DE} {kvs : List (Key × PV)} {kts : List (List Key × PV)}
end
end Dn
end
section
set_option Elab.async false
set_option linter.all false
set_option maxRecDepth 100000
set_option maxHeartbeats 1000000
namespace Dn
open PySem L2
/-- a search from st, ended -/
structure FS (n : Int) (cs : List (List Int)) (st : Int) (f : Fd) : Prop where
  hb : Bfs cs ([(st, [])], [st]) f
  hf : FI n f []
  fp : FP cs st f
theorem FS.of {n : Int} {cs : List (List Int)} (hm : ∀ c ∈ cs, GC n c) {st : Int} {f : Fd} (hs : In n st) (hb : Bfs cs ([(st, [])], [st]) f) (hf : FI n f []) : FS n cs st f :=
  ⟨hb, hf, FP.bfs hm hb FP.one (FI.one hs)⟩
section
variable {n s0 st t : Int} {cs : List (List Int)} {f : Fd} {S : Stor} {Q : OutF → Prop}
theorem FS.par (h : FS n cs st f) (ht : hasF f t = true) : valF f t = [] ∨ ∃ t2, hasF f t2 = true ∧ valF f t2 = (valF f t).dropLast ∧ ledP cs st (valF f t).dropLast = t2 := by
  have hm := valF_mem ht
  rcases h.fp.par _ hm with z | ⟨e', he, c, hc⟩
  · exact .inl z
  · dsimp only at hc
    refine .inr ⟨e'.1, hasF_iff.mpr (List.mem_map.mpr ⟨e', he, rfl⟩), ?_, ?_⟩
    · rw [valF_of h.hf.nd he, hc, List.dropLast_concat]
    · rw [hc, List.dropLast_concat]; exact h.fp.led _ he
theorem FS.inn (h : FS n cs st f) (ht : hasF f t = true) : In n t := by
  obtain ⟨e, he, h1⟩ := List.mem_map.mp (hasF_iff.mp ht)
  rw [← h1]; exact h.hf.mem e he
end
end Dn
end
section
set_option Elab.async false
set_option linter.all false
set_option maxRecDepth 100000
set_option maxHeartbeats 1000000
namespace Dn
/-! ### breadth over any keys: st steps, m commands -/
section
variable {κ : Type} [DecidableEq κ]
abbrev Fg (κ : Type) := List (κ × List Int)
def hasG (f : Fg κ) (s : κ) : Bool := f.any fun e => decide (e.1 = s)
def valG (f : Fg κ) (s : κ) : List Int := ((f.find? fun e => decide (e.1 = s)).map (·.2)).getD []
def expG (st : κ → Nat → κ) (here : κ) (x : Fg κ × List κ) (c : Nat) : Fg κ × List κ :=
  if hasG x.1 (st here c) then x else (x.1 ++ [(st here c, valG x.1 here ++ [(c : Int)])], x.2 ++ [st here c])
def lvlG (st : κ → Nat → κ) (m : Nat) (x : Fg κ × List κ) (h : κ) : Fg κ × List κ := (List.range m).foldl (expG st h) x
theorem nodup_sub : ∀ {l U : List κ}, l.Nodup → (∀ x ∈ l, x ∈ U) → l.length ≤ U.length
  | [], _, _, _ => Nat.zero_le _
  | x :: l, U, hn, h => by
    rw [List.nodup_cons] at hn
    have hx := h x (List.mem_cons_self ..)
    have := nodup_sub (l := l) (U := U.erase x) hn.2 fun y hy => (List.mem_erase_of_ne (fun z => hn.1 (by rw [← z]; exact hy))).mpr (h y (List.mem_cons_of_mem _ hy))
    rw [List.length_erase_of_mem hx] at this
    have := List.length_pos_of_mem hx
    rw [List.length_cons]; omega
theorem hasG_iff {f : Fg κ} {s : κ} : hasG f s = true ↔ s ∈ f.map (·.1) := by
  unfold hasG
  rw [List.any_eq_true, List.mem_map]
  constructor
  · rintro ⟨e, he, h⟩; exact ⟨e, he, by simpa using h⟩
  · rintro ⟨e, he, h⟩; exact ⟨e, he, by simpa using h⟩
theorem findG {f : Fg κ} {s : κ} (h : hasG f s = true) : (f.find? fun e => decide (e.1 = s)) = some (s, valG f s) := by
  obtain ⟨e, he, h1⟩ := List.mem_map.mp (hasG_iff.mp h)
  unfold valG
  cases q : f.find? fun e => decide (e.1 = s) with
  | none => exact absurd (decide_eq_true h1) (List.find?_eq_none.mp q e he)
  | some x =>
    have h2 := List.find?_some q
    have h2 : x.1 = s := by simpa using h2
    rw [← h2]; rfl
theorem valG_mem {f : Fg κ} {s : κ} (h : hasG f s = true) : (s, valG f s) ∈ f := List.mem_of_find?_eq_some (findG h)
/-- what is found is in order -/
structure IG (U : List κ) (f : Fg κ) (q : List κ) : Prop where
  nd : (f.map (·.1)).Nodup
  mem : ∀ e ∈ f, e.1 ∈ U
  q : ∃ d, f.map (·.1) = d ++ q
  pl : ∀ e ∈ f, e.2.length < f.length
theorem IG.inn {U : List κ} {f : Fg κ} {q : List κ} (h : IG U f q) {s : κ} (hh : hasG f s = true) : s ∈ U := by
  obtain ⟨e, he, h1⟩ := List.mem_map.mp (hasG_iff.mp hh)
  rw [← h1]; exact h.mem e he
theorem IG.one {U : List κ} {s : κ} (hs : s ∈ U) : IG U [(s, [])] [s] := ⟨by simp, fun e he => by rw [List.mem_singleton.mp he]; exact hs, ⟨[], rfl⟩, fun e he => by rw [List.mem_singleton.mp he]; exact Nat.zero_lt_one⟩
theorem IG.all {U : List κ} {f : Fg κ} {q : List κ} (h : IG U f q) : IG U f [] ∧ ∀ r ∈ q, hasG f r = true := by
  obtain ⟨d, e⟩ := h.q
  refine ⟨⟨h.nd, h.mem, ⟨d ++ q, by rw [List.append_nil]; exact e⟩, h.pl⟩, fun r hr => hasG_iff.mpr (by rw [e]; exact List.mem_append_right _ hr)⟩
theorem IG.pop {U : List κ} {f : Fg κ} {p : κ} {q : List κ} (h : IG U f (p :: q)) : IG U f q := by
  obtain ⟨d, ed⟩ := h.q
  exact ⟨h.nd, h.mem, ⟨d ++ [p], by rw [ed, List.append_assoc]; rfl⟩, h.pl⟩
/-- steps stay in U -/
def Stays (U : List κ) (st : κ → Nat → κ) (m : Nat) : Prop := ∀ k ∈ U, ∀ c, c < m → st k c ∈ U
variable {U : List κ} {st : κ → Nat → κ} {m : Nat}
theorem hasG_exp {here : κ} {x : Fg κ × List κ} {c : Nat} {s : κ} (h : hasG x.1 s = true) : hasG (expG st here x c).1 s = true := by
  unfold expG
  split
  · exact h
  · rw [hasG_iff] at h ⊢
    rw [List.map_append]
    exact List.mem_append_left _ h
theorem IG.exp (hm : Stays U st m) {here : κ} (hs : here ∈ U) {x : Fg κ × List κ} (h : IG U x.1 x.2) (hh0 : hasG x.1 here = true) {c : Nat} (hc : c < m) : IG U (expG st here x c).1 (expG st here x c).2 := by
  unfold expG
  split
  · exact h
  · rename_i hh
    have hh : hasG x.1 (st here c) = false := by simpa using hh
    have hnm : st here c ∉ x.1.map (·.1) := fun z => by rw [hasG_iff.mpr z] at hh; cases hh
    obtain ⟨d, e⟩ := h.q
    refine ⟨?_, fun e he => ?_, ⟨d, ?_⟩, fun e he => ?_⟩
    · rw [List.map_append, List.nodup_append]
      refine ⟨h.nd, by simp, fun a ha b hb => ?_⟩
      rw [List.map_cons, List.map_nil, List.mem_singleton] at hb
      rw [hb]
      intro z
      have z : a = st here c := z
      exact hnm (by rw [← z]; exact ha)
    · rcases List.mem_append.mp he with he | he
      · exact h.mem e he
      · rw [List.mem_singleton.mp he]
        exact hm _ hs _ hc
    · rw [List.map_append, e, List.append_assoc]; rfl
    · rw [List.length_append, List.length_singleton]
      rcases List.mem_append.mp he with he | he
      · have := h.pl e he; omega
      · rw [List.mem_singleton.mp he]
        have := h.pl _ (valG_mem hh0)
        simp only [List.length_append, List.length_singleton] at this ⊢
        omega
theorem hasG_fold {here s : κ} : ∀ (ks : List Nat) (x : Fg κ × List κ), hasG x.1 s = true → hasG (ks.foldl (expG st here) x).1 s = true
  | [], _, h => h
  | k :: ks, x, h => hasG_fold ks _ (hasG_exp h)
theorem IG.fold (hm : Stays U st m) {here : κ} (hs : here ∈ U) : ∀ (ks : List Nat) {x : Fg κ × List κ}, (∀ k ∈ ks, k < m) → IG U x.1 x.2 → hasG x.1 here = true → IG U (ks.foldl (expG st here) x).1 (ks.foldl (expG st here) x).2
  | [], _, _, h, _ => h
  | k :: ks, x, hk, h, hh => IG.fold hm hs ks (fun j hj => hk j (List.mem_cons_of_mem _ hj)) (h.exp hm hs hh (hk k (List.mem_cons_self ..))) (hasG_exp hh)
theorem rng_lt {m : Nat} : ∀ k ∈ List.range m, k < m := fun _ hk => List.mem_range.mp hk
theorem exp_app {here : κ} {f : Fg κ} {a b : List κ} {k : Nat} : expG st here (f, a ++ b) k = ((expG st here (f, b) k).1, a ++ (expG st here (f, b) k).2) := by
  unfold expG
  dsimp only
  split
  · rfl
  · rw [List.append_assoc]
theorem fold_app {here : κ} : ∀ (ks : List Nat) (f : Fg κ) (a b : List κ), ks.foldl (expG st here) (f, a ++ b) = ((ks.foldl (expG st here) (f, b)).1, a ++ (ks.foldl (expG st here) (f, b)).2)
  | [], _, _, _ => rfl
  | k :: ks, f, a, b => by
    rw [List.foldl_cons, List.foldl_cons, exp_app]
    exact fold_app ks _ _ _
/-- a search by queue -/
inductive BG (st : κ → Nat → κ) (m : Nat) : Fg κ × List κ → Fg κ → Prop
  | done (f : Fg κ) : BG st m (f, []) f
  | step {f : Fg κ} {h : κ} {q : List κ} {f' : Fg κ} : BG st m (lvlG st m (f, q) h) f' → BG st m (f, h :: q) f'
theorem BG.lvl {f' : Fg κ} : ∀ (rows : List κ) (f : Fg κ) (later : List κ), BG st m (rows.foldl (lvlG st m) (f, later)) f' → BG st m (f, rows ++ later) f'
  | [], _, _, h => h
  | r :: rows, f, later, h => by
    rw [List.cons_append]
    refine .step ?_
    have := fold_app (st := st) (here := r) (List.range m) f rows later
    unfold lvlG
    rw [this]
    exact BG.lvl rows _ _ h
theorem IG.lvl1 (hm : Stays U st m) {r : κ} {x : Fg κ × List κ} (h : IG U x.1 x.2) (hr : hasG x.1 r = true) : IG U (lvlG st m x r).1 (lvlG st m x r).2 :=
  IG.fold hm (h.inn hr) (List.range m) rng_lt h hr
theorem hasG_lvl1 {r s : κ} {x : Fg κ × List κ} (h : hasG x.1 s = true) : hasG (lvlG st m x r).1 s = true := hasG_fold _ _ h
theorem IG.lvl (hm : Stays U st m) : ∀ (rows : List κ) (x : Fg κ × List κ), IG U x.1 x.2 → (∀ r ∈ rows, hasG x.1 r = true) → IG U (rows.foldl (lvlG st m) x).1 (rows.foldl (lvlG st m) x).2
  | [], _, h, _ => h
  | r :: rows, x, h, hr => IG.lvl hm rows _ (h.lvl1 hm (hr r (List.mem_cons_self ..))) fun r' hr' => hasG_lvl1 (hr r' (List.mem_cons_of_mem _ hr'))
/-- turns of levels -/
def turnG (st : κ → Nat → κ) (m : Nat) (x : Fg κ × List κ) : Fg κ × List κ := x.2.foldl (lvlG st m) (x.1, [])
theorem IG.turn (hm : Stays U st m) {x : Fg κ × List κ} (h : IG U x.1 x.2) : IG U (turnG st m x).1 (turnG st m x).2 :=
  IG.lvl hm x.2 (x.1, []) h.all.1 h.all.2
theorem BG.turn {f' : Fg κ} {x : Fg κ × List κ} (h : BG st m (turnG st m x) f') : BG st m x f' := by
  have := BG.lvl (st := st) (m := m) x.2 x.1 [] h
  rw [List.append_nil] at this
  exact this
/-! ### paths -/
def ledG (st : κ → Nat → κ) (s : κ) (q : List Int) : κ := q.foldl (fun s c => st s c.toNat) s
theorem ledG_snoc {s : κ} {c : Int} {q : List Int} : ledG st s (q ++ [c]) = st (ledG st s q) c.toNat := by
  unfold ledG; rw [List.foldl_append]; rfl
structure PaG (st : κ → Nat → κ) (m : Nat) (s : κ) (f : Fg κ) : Prop where
  led : ∀ e ∈ f, ledG st s e.2 = e.1
  cmd : ∀ e ∈ f, ∀ c ∈ e.2, In m c
  par : ∀ e ∈ f, e.2 = [] ∨ ∃ e' ∈ f, ∃ c, e.2 = e'.2 ++ [c]
theorem PaG.one {s : κ} : PaG st m s [(s, [])] :=
  ⟨fun e he => by rw [List.mem_singleton.mp he]; rfl, fun e he => by rw [List.mem_singleton.mp he]; exact fun c hc => (nomatch hc), fun e he => by rw [List.mem_singleton.mp he]; exact .inl rfl⟩
theorem PaG.exp {s here : κ} {x : Fg κ × List κ} (h : PaG st m s x.1) (hh : hasG x.1 here = true) {k : Nat} (hk : k < m) : PaG st m s (expG st here x k).1 := by
  unfold expG
  split
  · exact h
  · have hv := valG_mem hh
    refine ⟨fun e he => ?_, fun e he => ?_, fun e he => ?_⟩
    · rcases List.mem_append.mp he with he | he
      · exact h.led e he
      · rw [List.mem_singleton.mp he]
        dsimp only
        rw [ledG_snoc, h.led _ hv]; rfl
    · rcases List.mem_append.mp he with he | he
      · exact h.cmd e he
      · rw [List.mem_singleton.mp he]
        intro c hc
        rcases List.mem_append.mp hc with hc | hc
        · exact h.cmd _ hv c hc
        · rw [List.mem_singleton.mp hc]; exact ⟨by omega, by omega⟩
    · rcases List.mem_append.mp he with he | he
      · rcases h.par e he with z | ⟨e', h1, c, h2⟩
        · exact .inl z
        · exact .inr ⟨e', List.mem_append_left _ h1, c, h2⟩
      · rw [List.mem_singleton.mp he]
        exact .inr ⟨_, List.mem_append_left _ hv, _, rfl⟩
theorem PaG.fold {s here : κ} : ∀ (ks : List Nat) {x : Fg κ × List κ}, PaG st m s x.1 → hasG x.1 here = true → (∀ k ∈ ks, k < m) → PaG st m s (ks.foldl (expG st here) x).1
  | [], _, h, _, _ => h
  | k :: ks, x, h, hh, hk => PaG.fold ks (h.exp hh (hk k (List.mem_cons_self ..))) (hasG_exp hh) fun j hj => hk j (List.mem_cons_of_mem _ hj)
theorem PaG.bfs (hm : Stays U st m) {s : κ} {x : Fg κ × List κ} {f' : Fg κ} (hb : BG st m x f') : PaG st m s x.1 → IG U x.1 x.2 → PaG st m s f' := by
  induction hb with
  | done f => exact fun h _ => h
  | @step f p q f' hb ih =>
    intro h hf
    have hh : hasG f p = true := hf.all.2 p (List.mem_cons_self ..)
    exact ih (PaG.fold (x := (f, q)) _ h hh rng_lt) (IG.lvl1 hm hf.pop hh)
theorem IG.bfs (hm : Stays U st m) {x : Fg κ × List κ} {f' : Fg κ} (hb : BG st m x f') : IG U x.1 x.2 → IG U f' [] := by
  induction hb with
  | done f => exact fun h => h
  | @step f p q f' hb ih =>
    intro hf
    exact ih (IG.lvl1 hm hf.pop (hf.all.2 p (List.mem_cons_self ..)))
theorem exp_new {here : κ} {x : Fg κ × List κ} {k : Nat} : hasG (expG st here x k).1 (st here k) = true := by
  unfold expG
  split
  · assumption
  · rw [hasG_iff, List.map_append]
    exact List.mem_append_right _ (by simp)
theorem fold_new {here : κ} : ∀ (ks : List Nat) (x : Fg κ × List κ) (k : Nat), k ∈ ks → hasG (ks.foldl (expG st here) x).1 (st here k) = true
  | j :: ks, x, k, h => by
    rcases List.mem_cons.mp h with rfl | h
    · exact hasG_fold ks _ exp_new
    · exact fold_new ks _ k h
theorem exp_q {here s : κ} {x : Fg κ × List κ} {k : Nat} (h : hasG (expG st here x k).1 s = true) : hasG x.1 s = true ∨ s ∈ (expG st here x k).2 := by
  unfold expG at h ⊢
  split at h
  · exact .inl h
  · rename_i hx
    rw [if_neg hx]
    rw [hasG_iff, List.map_append] at h
    rcases List.mem_append.mp h with h | h
    · exact .inl (hasG_iff.mpr h)
    · have : s = st here k := by simpa using h
      exact .inr (by rw [this]; simp)
theorem exp_qm {here s : κ} {x : Fg κ × List κ} {k : Nat} (h : s ∈ x.2) : s ∈ (expG st here x k).2 := by
  unfold expG
  split
  · exact h
  · exact List.mem_append_left _ h
theorem fold_qm {here s : κ} : ∀ (ks : List Nat) (x : Fg κ × List κ), s ∈ x.2 → s ∈ (ks.foldl (expG st here) x).2
  | [], _, h => h
  | k :: ks, x, h => fold_qm ks _ (exp_qm h)
theorem fold_q {here s : κ} : ∀ (ks : List Nat) (x : Fg κ × List κ), hasG (ks.foldl (expG st here) x).1 s = true → hasG x.1 s = true ∨ s ∈ (ks.foldl (expG st here) x).2
  | [], _, h => .inl h
  | k :: ks, x, h => by
    rcases fold_q ks _ h with h | h
    · rcases exp_q h with h | h
      · exact .inl h
      · exact .inr (fold_qm ks _ h)
    · exact .inr h
theorem bg_closed {x : Fg κ × List κ} {f' : Fg κ} (hb : BG st m x f') : (∀ s, hasG x.1 s = true → s ∉ x.2 → ∀ k, k < m → hasG x.1 (st s k) = true) → ∀ s, hasG f' s = true → ∀ k, k < m → hasG f' (st s k) = true := by
  induction hb with
  | done f => exact fun h s hs k hk => h s hs (by simp) k hk
  | @step f p q f' hb ih =>
    intro h
    refine ih fun s hs hq k hk => ?_
    by_cases hp : s = p
    · rw [hp]; exact fold_new _ _ k (List.mem_range.mpr hk)
    · rcases fold_q _ _ hs with h1 | h1
      · refine hasG_fold _ _ (h s h1 (fun z => ?_) k hk)
        rcases List.mem_cons.mp z with z | z
        · exact hp z
        · exact hq (fold_qm _ _ z)
      · exact absurd h1 hq
theorem bg_keeps {x : Fg κ × List κ} {f' : Fg κ} (hb : BG st m x f') : ∀ s, hasG x.1 s = true → hasG f' s = true := by
  induction hb with
  | done f => exact fun s h => h
  | step hb ih => exact fun s h => ih s (hasG_fold _ _ h)
/-- a search from s, ended -/
structure SG (U : List κ) (st : κ → Nat → κ) (m : Nat) (s : κ) (f : Fg κ) : Prop where
  bg : BG st m ([(s, [])], [s]) f
  ig : IG U f []
  pg : PaG st m s f
  cl : ∀ s, hasG f s = true → ∀ k, k < m → hasG f (st s k) = true
  me : hasG f s = true
theorem SG.of (hm : Stays U st m) {s : κ} (hs : s ∈ U) {f : Fg κ} (hb : BG st m ([(s, [])], [s]) f) : SG U st m s f := by
  refine ⟨hb, IG.bfs hm hb (IG.one hs), PaG.bfs hm hb PaG.one (IG.one hs), bg_closed hb fun s' hs' hq => ?_, bg_keeps hb s (by unfold hasG; simp)⟩
  have : s' = s := by unfold hasG at hs'; have z : s = s' := (by simpa using hs'); exact z.symm
  exact absurd (by rw [this]; simp) hq
end
end Dn
end
section
set_option Elab.async false
set_option linter.all false
set_option maxRecDepth 100000
set_option maxHeartbeats 1000000
namespace Dn
open PySem L2
/-! ### loops by folds -/
/-! ### pairs -/
abbrev Pr := Int × Int
section
variable {e : DEnv} {S : Stor} {Q : Out PV → Prop} {neg : Bool} {kts : List (List Key × PV)} {p : Pr}
end
def UP (n k : Int) : List Pr := (List.range n.toNat).flatMap fun (a : Nat) => (List.range k.toNat).map fun (b : Nat) => ((a : Int), (b : Int))
theorem mem_UP {n k : Int} {p : Pr} : p ∈ UP n k ↔ In n p.1 ∧ In k p.2 := by
  unfold UP In
  rw [List.mem_flatMap]
  constructor
  · rintro ⟨a, ha, h⟩
    obtain ⟨b, hb, rfl⟩ := List.mem_map.mp h
    have := List.mem_range.mp ha; have := List.mem_range.mp hb
    dsimp only; omega
  · rintro ⟨⟨h1, h2⟩, h3, h4⟩
    refine ⟨p.1.toNat, List.mem_range.mpr (by omega), List.mem_map.mpr ⟨p.2.toNat, List.mem_range.mpr (by omega), ?_⟩⟩
    exact Prod.ext (by show ((p.1.toNat : Nat) : Int) = p.1; omega) (by show ((p.2.toNat : Nat) : Int) = p.2; omega)
theorem len_UP (n k : Int) : (UP n k).length = n.toNat * k.toNat := by
  unfold UP
  rw [List.length_flatMap]
  simp [List.map_const']
end Dn
end
section
set_option Elab.async false
set_option linter.all false
set_option maxRecDepth 100000
set_option maxHeartbeats 1000000
namespace Dn
open PySem L2
section
variable {n s0 : Int} {cs : List (List Int)} {S : Stor}
end
end Dn
end
section
set_option Elab.async false
set_option linter.all false
set_option maxRecDepth 100000
set_option maxHeartbeats 1000000
namespace Dn
open PySem L2
theorem wp_compF {β : Type} {own : List Nat} {g : PV → DEnv → Option DEnv} {dt : Den Bool} {de : DE} {e : DEnv} {S : Stor} {Q : Out (List PV) → Prop} (enc : β → PV) (t : β → Bool) (f : β → PV) {bs : List β}
    (hn : noOwn e own = true) (hr : restE e own (wipeE e own) = e) (hl : bs.length ≤ sizeLine)
    (h : ∀ b ∈ bs, ∃ e1, g (enc b) (wipeE e own) = some e1 ∧ wp dt e1 S (fun o => o = .ok (t b) e1 S) ∧ (t b = true → wp de e1 S fun o => o = .ok (f b) e1 S) ∧ wipeE e1 own = wipeE e own)
    (hq : Q (.ok ((bs.filter t).map f) e S)) : wp (kComp own g dt de (bs.map enc)) e S Q := by
  rw [wp_compv hn]
  refine lcL_inv (fun ps acc e' S' => ∃ rest : List β, ps = rest.map enc ∧ (∀ b ∈ rest, b ∈ bs) ∧ e' = wipeE e own ∧ S' = S ∧ acc ++ (rest.filter t).map f = (bs.filter t).map f ∧ acc.length + rest.length ≤ bs.length) ?_ ?_ _ _ _ _ ⟨bs, rfl, fun b hb => hb, rfl, rfl, rfl, by simp⟩
  · rintro p ps acc e' S' ⟨rest, hp, hm, rfl, rfl, he, hl2⟩
    cases rest with
    | nil => cases hp
    | cons b rest =>
      rw [List.map_cons] at hp
      obtain ⟨rfl, rfl⟩ := List.cons.inj hp
      rw [List.length_cons] at hl2
      obtain ⟨e1, h1, h2, h3, h4⟩ := h b (hm b (List.mem_cons_self ..))
      refine ⟨e1, h1, ?_⟩
      unfold wp at h2 ⊢
      rw [h2]
      cases ht : t b with
      | true =>
        have h3 := h3 ht
        unfold wp at h3
        dsimp only
        rw [h3]
        refine ⟨by omega, rest, rfl, fun b hb => hm b (List.mem_cons_of_mem _ hb), h4, rfl, ?_, by simp; omega⟩
        rw [← he, List.filter_cons, if_pos ht, List.map_cons, List.append_assoc]; rfl
      | false =>
        dsimp only
        refine ⟨rest, rfl, fun b hb => hm b (List.mem_cons_of_mem _ hb), h4, rfl, ?_, by omega⟩
        rw [← he, List.filter_cons, ht]; rfl
  · rintro acc e' S' ⟨rest, hp, hm, rfl, rfl, he, hl2⟩
    cases rest with
    | cons b rest => cases hp
    | nil =>
      have : acc = (bs.filter t).map f := by simpa using he
      show Q (.ok acc (restE e own (wipeE e own)) _)
      rw [this, hr]; exact hq
/-- a comprehension without test -/
theorem wp_compM {β : Type} {own : List Nat} {g : PV → DEnv → Option DEnv} {de : DE} {e : DEnv} {S : Stor} {Q : Out (List PV) → Prop} (enc : β → PV) (f : β → PV) {bs : List β}
    (hn : noOwn e own = true) (hr : restE e own (wipeE e own) = e) (hl : bs.length ≤ sizeLine)
    (h : ∀ b ∈ bs, ∃ e1, g (enc b) (wipeE e own) = some e1 ∧ (wp de e1 S fun o => o = .ok (f b) e1 S) ∧ wipeE e1 own = wipeE e own)
    (hq : Q (.ok (bs.map f) e S)) : wp (kComp own g tTrue de (bs.map enc)) e S Q := by
  refine wp_compF enc (fun _ => true) f hn hr hl (fun b hb => ?_) ?_
  · obtain ⟨e1, h1, h2, h3⟩ := h b hb
    exact ⟨e1, h1, rfl, fun _ => h2, h3⟩
  · rw [List.filter_eq_self.mpr (fun _ _ => rfl)]; exact hq
end Dn
end
section
set_option Elab.async false
set_option linter.all false
set_option maxRecDepth 100000
set_option maxHeartbeats 1000000
namespace Dn
open PySem L2
/-- the counterparts of a state, ascending -/
def cpL (f : Fg Pr) (s : Int) : List Int := ((sortPr (f.map (·.1))).filter fun p => decide (p.1 = s)).map (·.2)
section
variable {n s0 : Int} {cs : List (List Int)} {S : Stor} {Q : OutF → Prop}
end
end Dn
end
section
set_option Elab.async false
set_option linter.all false
set_option maxRecDepth 100000
set_option maxHeartbeats 1000000
namespace Dn
open PySem L2
/-- how many counterparts at most -/
def cpN (n : Int) (f : Fg Pr) : List Int := (List.range n.toNat).map fun (s : Nat) => ((cpL f s).length : Int)
def cpM (n : Int) (f : Fg Pr) : Int := maxI (cpN n f)
section
variable {n k s0 : Int} {cs ds : List (List Int)} {a b : Int} {f : Fg Pr}
theorem SG.inn {st : Pr → Nat → Pr} {m : Nat} {s p : Pr} (h : SG (UP n k) st m s f) (hp : hasG f p = true) : In n p.1 ∧ In k p.2 := mem_UP.mp (h.ig.inn hp)
end
section
variable {n s0 : Int} {cs : List (List Int)} {S : Stor} {Q : OutF → Prop}
end
end Dn
end
section
set_option Elab.async false
set_option linter.all false
set_option maxRecDepth 100000
set_option maxHeartbeats 1000000
namespace Dn
open PySem L2
section
variable {n s0 : Int} {cs : List (List Int)} {S : Stor} {Q : OutF → Prop} {st c : Int}
theorem GS.few (hg : GS 8 4 n s0 cs) : cs.length ≤ 1000 ∧ n ≤ 1000 ∧ (UP n n).length < 100000 ∧ 0 ≤ n ∧ (UP n n).length ≤ 64 := by
  have h1 := hg.len; have h2 := hg.hi; have h3 := hg.lo
  have h4 : (UP n n).length ≤ 64 := by
    rw [len_UP]
    have : n.toNat ≤ 8 := by omega
    exact Nat.mul_le_mul this this
  exact ⟨by omega, by omega, by omega, by omega, h4⟩
end
end Dn
end
section
set_option Elab.async false
set_option linter.all false
set_option maxRecDepth 100000
set_option maxHeartbeats 1000000
namespace Dn
open PySem L2
end Dn
end
section
set_option Elab.async false
set_option linter.all false
set_option maxRecDepth 100000
set_option maxHeartbeats 1000000
namespace Dn
open PySem L2
end Dn
end
section
set_option Elab.async false
set_option linter.all false
set_option maxRecDepth 100000
set_option maxHeartbeats 1000000
namespace Dn
open PySem L2
section
variable {S : Stor} {Q : OutF → Prop}
end
end Dn
end
section
set_option Elab.async false
set_option linter.all false
set_option maxRecDepth 100000
set_option maxHeartbeats 1000000
namespace Dn
open PySem L2
section
variable {n k s1 s2 : Int} {cs ds : List (List Int)} {S : Stor}
theorem IG.at {κ : Type} [DecidableEq κ] {U : List κ} {f : Fg κ} {p : κ} {q : List κ} {i : Nat} (h : IG U f (p :: q)) (hl : f.length = i + (p :: q).length) : (f.map (·.1))[i]? = some p := by
  obtain ⟨d, e⟩ := h.q
  have := congrArg List.length e
  rw [List.length_map, List.length_append] at this
  have hd : d.length = i := by omega
  rw [e, ← hd]; simp
end
end Dn
end
section
set_option Elab.async false
set_option linter.all false
set_option maxRecDepth 100000
set_option maxHeartbeats 1000000
namespace Dn
open PySem L2
/-! ### one state for each -/
theorem sl_toL {xs : List PV} {i : Int} (h0 : 0 ≤ i) : slP (.lst xs) none (some i) = some (.lst (xs.take i.toNat)) := by
  have := sl_to (xs := xs) h0
  unfold slP at this ⊢
  dsimp only at this ⊢
  injection this with this
  injection this with this
  rw [this]
section
variable {n k : Int} {S : Stor} {Q : OutF → Prop} {f : Fg Pr}
end
end Dn
end
section
set_option Elab.async false
set_option linter.all false
set_option maxRecDepth 100000
set_option maxHeartbeats 1000000
namespace Dn
open PySem L2
section
variable {e : DEnv} {S : Stor} {Q : OutS → Prop} {de : DE} {g : PV → DEnv → Option DEnv} {b : DS} {ps : List PV}
end
section
variable {n k : Int} {S : Stor} {Q : OutF → Prop} {f : Fg Pr}
end
end Dn
end
section
set_option Elab.async false
set_option linter.all false
set_option maxRecDepth 100000
set_option maxHeartbeats 1000000
namespace Dn
open PySem L2
theorem atI_rngm {n : Int} {g : Nat → PV} {i : Int} (h : In n i) : atI ((List.range n.toNat).map g) i = some (g i.toNat) := by
  have h1 := h.1; have h2 := h.2
  rw [atI_in h1 (by rw [List.length_map, List.length_range]; omega), List.getElem_map, List.getElem_range]
end Dn
end
section
set_option Elab.async false
set_option linter.all false
set_option maxRecDepth 100000
set_option maxHeartbeats 1000000
namespace Dn
open PySem L2
section
variable {R S : Stor} {Q : OutF → Prop}
end
end Dn
end
section
set_option Elab.async false
set_option linter.all false
set_option maxRecDepth 100000
set_option maxHeartbeats 1000000
namespace Dn
open PySem L2
section
variable {R S : Stor} {Q : OutF → Prop}
end
end Dn
end
section
set_option Elab.async false
set_option linter.all false
set_option maxRecDepth 100000
set_option maxHeartbeats 1000000
namespace Dn
open PySem L2
section
variable {n s0 : Int} {cs : List (List Int)} {S : Stor}
theorem IG.atE {κ : Type} [DecidableEq κ] {U : List κ} {f : Fg κ} {p : κ} {q : List κ} {i : Nat} (h : IG U f (p :: q)) (hl : f.length = i + (p :: q).length) : f[i]? = some (p, valG f p) := by
  have h1 := h.at hl
  rw [List.getElem?_map] at h1
  obtain ⟨e, he, h2⟩ := Option.map_eq_some_iff.mp h1
  have hm := List.mem_of_getElem? he
  have hh : hasG f p = true := hasG_iff.mpr (List.mem_map.mpr ⟨e, hm, h2⟩)
  have hv := valG_mem hh
  have : e = (p, valG f p) := by
    have nd := h.nd
    have key : ∀ (f : Fg κ), (f.map (·.1)).Nodup → ∀ a ∈ f, ∀ b ∈ f, a.1 = b.1 → a = b := by
      intro f
      induction f with
      | nil => intro _ a ha; cases ha
      | cons y f ih =>
        intro hn a ha b hb e
        rw [List.map_cons, List.nodup_cons] at hn
        rcases List.mem_cons.mp ha with h1 | h1
        · rcases List.mem_cons.mp hb with h2 | h2
          · rw [h1, h2]
          · exact absurd (show y.1 ∈ f.map (·.1) from List.mem_map.mpr ⟨b, h2, by rw [← e, h1]⟩) hn.1
        · rcases List.mem_cons.mp hb with h2 | h2
          · exact absurd (show y.1 ∈ f.map (·.1) from List.mem_map.mpr ⟨a, h1, by rw [e, h2]⟩) hn.1
          · exact ih hn.2 a h1 b h2 e
    exact key f nd e hm _ hv h2
  rw [he, this]
end
end Dn
end
section
set_option Elab.async false
set_option linter.all false
set_option maxRecDepth 100000
set_option maxHeartbeats 1000000
namespace Dn
open PySem L2
section
variable {S : Stor} {Q : OutF → Prop}
end
end Dn
end
section
set_option Elab.async false
set_option linter.all false
set_option maxRecDepth 100000
set_option maxHeartbeats 1000000
namespace Dn
open PySem L2
end Dn
end
section
set_option Elab.async false
set_option linter.all false
set_option maxRecDepth 100000
set_option maxHeartbeats 1000000
namespace Dn
open PySem L2
section
variable {S : Stor} {β : Type}
end
section
variable {e : DEnv} {S : Stor} {Q : Out PV → Prop} {da dk : DE} {g : PV → PV → Option PV} {p q : PV} {xs : List PV}
end
/-! ### fewer commands -/
/-! ### as many -/
end Dn
end
section
set_option Elab.async false
set_option linter.all false
set_option maxRecDepth 100000
set_option maxHeartbeats 1000000
namespace Dn
open PySem L2
/-! ### tables -/
end Dn
end
section
set_option Elab.async false
set_option linter.all false
set_option maxRecDepth 100000
set_option maxHeartbeats 1000000
namespace Dn
open PySem L2
section
variable {n s0 : Int} {cs : List (List Int)} {S : Stor} {Q : OutF → Prop}
end
end Dn
end
section
set_option Elab.async false
set_option linter.all false
set_option maxRecDepth 100000
set_option maxHeartbeats 1000000
namespace Dn
open PySem L2
section
variable {n s0 : Int} {cs : List (List Int)} {S : Stor} {Q : OutF → Prop}
end
end Dn
end
section
set_option Elab.async false
set_option linter.all false
set_option maxRecDepth 100000
set_option maxHeartbeats 1000000
namespace Dn
open PySem L2
section
variable {R S : Stor} {Q : OutF → Prop}
end
end Dn
end
section
set_option Elab.async false
set_option linter.all false
set_option maxRecDepth 100000
set_option maxHeartbeats 1000000
namespace Dn
open PySem L2
/-! ### the first two sequences that refute -/
end Dn
end
section
set_option Elab.async false
set_option linter.all false
set_option maxRecDepth 100000
set_option maxHeartbeats 1000000
namespace Dn
open PySem L2
section
variable {e : DEnv} {S : Stor} {Q : OutS → Prop} {de : DE} {g : PV → DEnv → Option DEnv} {b : DS} {kvs : List (List Key × PV)}
end
section
variable {n s0 : Int} {cs : List (List Int)} {S : Stor} {Q : OutF → Prop}
end
end Dn
end
section
set_option Elab.async false
set_option linter.all false
set_option maxRecDepth 100000
set_option maxHeartbeats 1000000
namespace Dn
open PySem L2
section
variable {n s0 : Int} {cs : List (List Int)} {S : Stor} {Q : OutF → Prop}
end
end Dn
end
section
set_option Elab.async false
set_option linter.all false
set_option maxRecDepth 100000
set_option maxHeartbeats 1000000
namespace Dn
open PySem L2
section
variable {n s0 : Int} {cs : List (List Int)} {S : Stor} {Q : OutF → Prop}
end
end Dn
end
section
set_option Elab.async false
set_option linter.all false
set_option maxRecDepth 100000
set_option maxHeartbeats 1000000
namespace Dn
open PySem L2
/-! ### the first pair of pairs with one first state and two second ones -/
section
variable {n k : Int} {S : Stor} {Q : OutF → Prop} {f : Fg Pr}
end
section
variable {n s0 : Int} {cs : List (List Int)} {S : Stor} {Q : OutF → Prop}
end
end Dn
end
section
set_option Elab.async false
set_option linter.all false
set_option maxRecDepth 100000
set_option maxHeartbeats 1000000
namespace Dn
open PySem L2
section
variable {R S : Stor} {Q : OutF → Prop}
end
end Dn
end
section
set_option Elab.async false
set_option linter.all false
set_option maxRecDepth 100000
set_option maxHeartbeats 1000000
namespace Dn
open PySem L2
section
variable {n s0 : Int} {cs : List (List Int)} {R S : Stor} {Q : OutF → Prop}
end
end Dn
end
section
set_option Elab.async false
set_option linter.all false
set_option maxRecDepth 100000
set_option maxHeartbeats 1000000
namespace Dn
open PySem L2
/-! ### any value as a pair of sequences -/
section
variable {n s0 : Int} {cs : List (List Int)} {S : Stor} {Q : OutF → Prop}
end
end Dn
end
section
set_option Elab.async false
set_option linter.all false
set_option maxRecDepth 100000
set_option maxHeartbeats 1000000
namespace Dn
open PySem L2
section
variable {n s0 : Int} {cs : List (List Int)} {R S : Stor} {Q : OutF → Prop}
end
end Dn
end
section
set_option Elab.async false
set_option linter.all false
set_option maxRecDepth 100000
set_option maxHeartbeats 1000000
namespace Dn
open PySem L2
section
variable {n s1 : Int} {cs : List (List Int)} {S : Stor}
end
end Dn
end
section
set_option Elab.async false
set_option linter.all false
set_option maxRecDepth 100000
set_option maxHeartbeats 1000000
namespace Dn
open PySem L2
/-! ### two systems -/
section
variable {n k s1 s2 : Int} {cs ds : List (List Int)} {S : Stor}
/-! ### told maps -/
end
end Dn
end
section
set_option Elab.async false
set_option linter.all false
set_option maxRecDepth 100000
set_option maxHeartbeats 1000000
namespace Dn
open PySem L2
/-! ### maps -/
section
variable {n k s1 s2 : Int} {cs ds : List (List Int)} {S : Stor} {Q : OutF → Prop}
theorem enPV_map {β : Type} (g : β → PV) (xs : List β) : enPV (xs.map g) = (xs.zipIdx).map fun x => .tup [.int (x.2 : Nat), g x.1] := by
  unfold enPV
  rw [List.zipIdx_map, List.map_map]; rfl
def kItE2 : PV → Den (List PV) := fun p => match p with
  | .lst xs => Den.pure (enPV xs)
  | .rol xs => Den.pure (enPV xs)
  | .tup xs => Den.pure (enPV xs)
  | .ftp xs => Den.pure (enPV xs)
  | _ => Den.fail
theorem wp_dItE2 {d : DE} {e : DEnv} {Q : Out (List PV) → Prop} : wp (dItE2 d) e S Q = wp d e S (bq kItE2 Q) := by
  have : dItE2 d = d.bind kItE2 := by
    unfold dItE2 kItE2
    congr 1
  rw [this]
  exact wp_bind
end
end Dn
end
section
set_option Elab.async false
set_option linter.all false
set_option maxRecDepth 100000
set_option maxHeartbeats 1000000
namespace Dn
open PySem L2
/-! ### dicts by comprehensions, keys ints -/
def ins (ks : List Int) (k : Int) : List Int := if k ∈ ks then ks else ks ++ [k]
section
variable {e : DEnv} {S : Stor} {own : List Nat} {di : Den (List PV)} {g : PV → DEnv → Option DEnv} {dt : Den Bool} {dk dv : DE}
end
/-! ### most counterparts -/
end Dn
end
section
set_option Elab.async false
set_option linter.all false
set_option maxRecDepth 100000
set_option maxHeartbeats 1000000
namespace Dn
open PySem L2
/-! ### told spreads -/
section
variable {n s0 : Int} {cs : List (List Int)} {S : Stor} {Q : OutF → Prop}
/-! ### spreads by whomever -/
end
end Dn
end
section
set_option Elab.async false
set_option linter.all false
set_option maxRecDepth 100000
set_option maxHeartbeats 1000000
namespace Dn
open PySem L2
section
variable {n s0 : Int} {cs : List (List Int)} {S : Stor} {Q : OutF → Prop}
end
end Dn
end
section
set_option Elab.async false
set_option linter.all false
set_option maxRecDepth 100000
set_option maxHeartbeats 1000000
namespace Dn
open PySem L2
/-! ### the search over one system's states -/
section
variable {n s0 : Int} {cs : List (List Int)} {S : Stor}
end
end Dn
end
section
set_option Elab.async false
set_option linter.all false
set_option maxRecDepth 100000
set_option maxHeartbeats 1000000
namespace Dn
open PySem L2
/-! ### regular systems -/
abbrev Wd (m : Nat) (u : List Int) : Prop := ∀ x ∈ u, In m x
theorem wd_app {m : Nat} {u v : List Int} (hu : Wd m u) (hv : Wd m v) : Wd m (u ++ v) := fun x hx => by
  rcases List.mem_append.mp hx with hx | hx
  · exact hu x hx
  · exact hv x hx
theorem wd_one {m : Nat} {c : Int} (hc : In m c) : Wd m [c] := fun x hx => by rw [List.mem_singleton.mp hx]; exact hc
theorem wd_nil {m : Nat} : Wd m [] := fun x hx => nomatch hx
theorem ledP_app (cs : List (List Int)) (s : Int) (u v : List Int) : ledP cs s (u ++ v) = ledP cs (ledP cs s u) v := by
  unfold ledP; rw [List.foldl_append]
theorem ledP_one (cs : List (List Int)) (s c : Int) : ledP cs s [c] = stp cs s c := rfl
def Rc (cs : List (List Int)) (s x : Int) : Prop := ∃ u : List Int, Wd cs.length u ∧ ledP cs s u = x
section
variable {n : Int} {cs : List (List Int)} {s x y a b : Int} {f : Fg Pr}
theorem Rc.in (hm : ∀ c ∈ cs, GC n c) (hs : In n s) (h : Rc cs s x) : In n x := by
  obtain ⟨u, hu, rfl⟩ := h
  exact led_in hm _ hs hu
theorem Rc.led (h : Rc cs s x) {u : List Int} (hu : Wd cs.length u) : Rc cs s (ledP cs x u) := by
  obtain ⟨v, hv, rfl⟩ := h
  exact ⟨v ++ u, wd_app hv hu, ledP_app ..⟩
theorem Rc.stp (h : Rc cs s x) {c : Int} (hc : In cs.length c) : Rc cs s (stp cs x c) := h.led (wd_one hc)
theorem Rc.me : Rc cs s s := ⟨[], wd_nil, rfl⟩
theorem Rc.trans (h : Rc cs s x) (h2 : Rc cs x y) : Rc cs s y := by
  obtain ⟨v, hv, rfl⟩ := h2
  exact h.led hv
end
end Dn
end
section
set_option Elab.async false
set_option linter.all false
set_option maxRecDepth 100000
set_option maxHeartbeats 1000000
namespace Dn
open PySem L2
/-! ### raise and try -/
def BV (s : Str) : Exc := ⟨"BadValue", [("name", .str s)]⟩
def tryR (i : Nat) (Q : OutS → Prop) : OutS → Prop
  | .nx e S => Q (.nx (e.set i .un) S)
  | .bk e S => Q (.bk (e.set i .un) S)
  | .ct e S => Q (.ct (e.set i .un) S)
  | .rt p e S => Q (.rt p e S)
  | _ => Q .st
section
variable {cs : List (Str × Bool)} {i : Nat} {b : DS} {su : Exc → DS} {e : DEnv} {S : Stor} {Q : OutS → Prop} {p : PV} {x : Exc}
theorem tryR_rt : tryR i Q (.rt p e S) = Q (.rt p e S) := id rfl
theorem wpS_raise {n f : Str} {de : DE} : wpS (sRaise n f de) e S Q = wp de e S (bqS (fun p e s => .ex ⟨n, [(f, p)]⟩ e s) Q) := wpS_sE
theorem wpS_exv {x : Exc} : wpS (fun e s => .ex x e s) e S Q = Q (.ex x e S) := id rfl
theorem wp_dXf {f : Str} {Q : Out PV → Prop} (h : x.fs.lookup f = some p) : wp (dXf x f) e S Q = Q (.ok p e S) := by
  unfold dXf; rw [h]; rfl
theorem lk1 {α : Type} {y : Str} {v : α} {l : List (Str × α)} : ((y, v) :: l).lookup y = some v := by
  unfold List.lookup; rw [beq_self_eq_true]
end
theorem bv_name {s : Str} {e : DEnv} {S : Stor} {Q : Out PV → Prop} : wp (dXf (BV s) "name") e S Q = Q (.ok (.str s) e S) := wp_dXf lk1
theorem wpF_is {f : DF} {ps : List PV} {S : Stor} {Q : OutF → Prop} {o : OutF} (h : wpF f ps S fun z => z = o) (hq : Q o) : wpF f ps S Q := by
  have h : f ps S = o := h
  unfold wpF
  rw [h]
  exact hq
/-! ### check_action -/
section
variable {n s0 : Int} {cs : List (List Int)} {S : Stor} {Q : OutF → Prop} {st c : Int} {a b d : PV}
end
end Dn
end
section
set_option Elab.async false
set_option linter.all false
set_option maxRecDepth 100000
set_option maxHeartbeats 1000000
namespace Dn
open PySem L2
/-! ### the functions of agreeing, with what is raised -/
section
variable {n s0 : Int} {cs : List (List Int)} {xs : List Int} {S : Stor} {Q : OutF → Prop} {st c c2 : Int} {p q : List Int}
end
end Dn
end
section
set_option Elab.async false
set_option linter.all false
set_option maxRecDepth 100000
set_option maxHeartbeats 1000000
namespace Dn
open PySem L2
/-! ### dicts by comprehensions, keys and values ints, the keys different -/
section
variable {e : DEnv} {S : Stor} {own : List Nat} {g : PV → DEnv → Option DEnv} {dk dv : DE}
end
/-! ### in a list, by == -/
section
variable {n s0 : Int} {cs : List (List Int)} {xs : List Int} {S : Stor} {Q : OutF → Prop} {st c c2 : Int}
/-! ### merged pairs by whomever -/
end
end Dn
end
section
set_option Elab.async false
set_option linter.all false
set_option maxRecDepth 100000
set_option maxHeartbeats 1000000
namespace Dn
open PySem L2
/-! ### the functions of groups -/
section
variable {n s : Int} {cs : List (List Int)} {S : Stor} {Q : OutF → Prop} {x y a b : Int} {f : Fg Pr}
end
end Dn
end
section
set_option Elab.async false
set_option linter.all false
set_option maxRecDepth 100000
set_option maxHeartbeats 1000000
namespace Dn
open PySem L2
/-! ### the law's side of groups -/
theorem idx_int : ∀ {l : List Int} {x : Int}, x ∈ l → idxF (.int x) (l.map .int) = some (l.idxOf x)
  | a :: l, x, h => by
    rw [List.map_cons]
    unfold idxF
    by_cases e : a = x
    · subst e
      rw [if_pos (show eqF (.int a) (.int a) = true from beq_self_eq_true a), List.idxOf_cons_self]
    · have he : eqF (.int a) (.int x) = false := by show (a == x) = false; exact beq_false_of_ne e
      rw [if_neg (by rw [he]; exact Bool.false_ne_true), idx_int (List.mem_of_ne_of_mem (fun z => e z.symm) h), List.idxOf_cons, beq_false_of_ne e]
      rfl
section
variable {n s : Int} {cs : List (List Int)} {S : Stor} {x y a b : Int}
end
section
variable {n s0 s : Int} {cs : List (List Int)} {S : Stor} {Q : OutF → Prop} {x y a b : Int}
end
end Dn
end
section
set_option Elab.async false
set_option linter.all false
set_option maxRecDepth 100000
set_option maxHeartbeats 1000000
namespace Dn
open PySem L2
/-! ### factors, with what is raised -/
section
variable {n s : Int} {cs : List (List Int)} {S : Stor} {Q : OutF → Prop} {x y a b c : Int} {p : List Int}
end
section
variable {R S : Stor} {Q : OutF → Prop}
end
end Dn
end
section
set_option Elab.async false
set_option linter.all false
set_option maxRecDepth 100000
set_option maxHeartbeats 1000000
namespace Dn
open PySem L2
/-! ### frozen tuples as tuples; _law_equal on them -/
end Dn
end
section
set_option Elab.async false
set_option linter.all false
set_option maxRecDepth 100000
set_option maxHeartbeats 1000000
namespace Dn
open PySem L2
/-! ### renamed, fewer commands, periods: plain facts -/
def nm (d : List Int) (x : Int) : Int := d.getD x.toNat 0
section
variable {n s : Int} {cs : List (List Int)} {d : List Int} {x y a b : Int}
/-! fewer commands -/
/-! periods -/
end
end Dn
end
section
set_option Elab.async false
set_option linter.all false
set_option maxRecDepth 100000
set_option maxHeartbeats 1000000
namespace Dn
open PySem L2
section
variable {n s : Int} {cs : List (List Int)} {S : Stor} {Q : OutF → Prop} {x y a b c : Int} {p : List Int}
/-! ### the law's number of turns -/
end
end Dn
end
section
set_option Elab.async false
set_option linter.all false
set_option maxRecDepth 100000
set_option maxHeartbeats 1000000
namespace Dn
open PySem L2
section
variable {n k s1 s2 : Int} {cs ds : List (List Int)} {R S : Stor} {Q : OutF → Prop}
/-! ### two drawn systems -/
end
end Dn
end
section
set_option Elab.async false
set_option linter.all false
set_option maxRecDepth 100000
set_option maxHeartbeats 1000000
namespace Dn
open PySem L2
section
variable {R S : Stor} {n k s1 s2 : Int} {cs ds : List (List Int)} {f : Fg Pr}
end
end Dn
end
section
set_option Elab.async false
set_option linter.all false
set_option maxRecDepth 100000
set_option maxHeartbeats 1000000
namespace Dn
open PySem L2
/-! ### rows with frozen rows; inverse refused; rows and columns have each state once -/
section
variable {n s : Int} {cs : List (List Int)} {S : Stor} {Q : OutF → Prop} {x y a b c : Int} {p : List Int}
end
end Dn
end
section
set_option Elab.async false
set_option linter.all false
set_option maxRecDepth 100000
set_option maxHeartbeats 1000000
namespace Dn
open PySem L2
/-! ### told rules -/
def mN (n : Int) (f : Fg Pr) : Nat := (cpM n f).toNat
def rowI (m : Nat) (xs : List Int) : List Int := xs ++ List.replicate (m - xs.length) 0
section
variable {n s0 : Int} {cs : List (List Int)} {S : Stor} {Q : OutF → Prop} {st c : Int} {f : Fg Pr}
theorem wp_kItE2F {xs : List PV} {e : DEnv} {Q : Out (List PV) → Prop} : wp (kItE2 (.lst xs)) e S Q = Q (.ok (enPV xs) e S) := id rfl
end
end Dn
end
section
set_option Elab.async false
set_option linter.all false
set_option maxRecDepth 100000
set_option maxHeartbeats 1000000
namespace Dn
open PySem L2
/-! ### rules at work -/
abbrev Tr := Int × Int × Int
structure RV (n : Int) (m nc : Nat) (i0 : Int) (r : Int → Int → Int) (t : Int → Int → Int → Int) (rs nxs : List PV) : Prop where
  rs : ∀ x, In n x → ∃ row, atI rs x = some row ∧ ∀ k, In m k → ∀ S, ixP S row (.int k) = some (.int (r x k))
  nx : ∀ x, In n x → ∃ row, atI nxs x = some row ∧ ∀ k, In m k → ∀ S, ixP S row (.int k) = some (.tup ((List.range nc).map fun j : Nat => .int (t x k j)))
  i0 : In m i0
  t : ∀ x k j, In n x → In m k → In nc j → In m (t x k j)
def tst (cs : List (List Int)) (t : Int → Int → Int → Int) (p : Tr) (j : Int) : Tr := (stp cs p.1 j, stp cs p.2.1 j, t p.1 p.2.2 j)
def tled (cs : List (List Int)) (t : Int → Int → Int → Int) (p : Tr) (u : List Int) : Tr := u.foldl (tst cs t) p
def UT (n : Int) (m : Nat) : List Tr := (UP n n).flatMap fun p => (List.range m).map fun k : Nat => (p.1, p.2, (k : Int))
def InT (n : Int) (m : Nat) (p : Tr) : Prop := In n p.1 ∧ In n p.2.1 ∧ In m p.2.2
theorem mem_UT {n : Int} {m : Nat} {p : Tr} (h : InT n m p) : p ∈ UT n m := by
  unfold UT
  refine List.mem_flatMap.mpr ⟨(p.1, p.2.1), mem_UP.mpr ⟨h.1, h.2.1⟩, List.mem_map.mpr ⟨p.2.2.toNat, List.mem_range.mpr ?_, ?_⟩⟩
  · have := h.2.2; unfold In at this; omega
  · have := h.2.2; unfold In at this
    rw [Int.toNat_of_nonneg this.1]
/-- finding one -/
abbrev KW := List Tr × List Tr
def push (cs : List (List Int)) (t : Int → Int → Int → Int) (p : Tr) (x : KW) (j : Nat) : KW := if tst cs t p j ∈ x.1 then x else (x.1 ++ [tst cs t p j], x.2 ++ [tst cs t p j])
structure KI (n : Int) (m : Nat) (cs : List (List Int)) (t : Int → Int → Int → Int) (p0 : Tr) (x : KW) : Prop where
  nd : x.1.Nodup
  inn : ∀ p ∈ x.1, InT n m p
  sub : ∀ p ∈ x.2, p ∈ x.1
  rch : ∀ p ∈ x.1, ∃ u, Wd cs.length u ∧ tled cs t p0 u = p
  me : p0 ∈ x.1
section
variable {n : Int} {m : Nat} {cs : List (List Int)} {t : Int → Int → Int → Int} {p p0 : Tr} {x : KW}
theorem tst_in (hm : ∀ c ∈ cs, GC n c) (ht : ∀ x k j, In n x → In m k → In cs.length j → In m (t x k j)) (hp : InT n m p) {j : Int} (hj : In cs.length j) : InT n m (tst cs t p j) :=
  ⟨stp_in hm hp.1 hj, stp_in hm hp.2.1 hj, ht _ _ _ hp.1 hp.2.2 hj⟩
theorem KI.push (hm : ∀ c ∈ cs, GC n c) (ht : ∀ x k j, In n x → In m k → In cs.length j → In m (t x k j)) (h : KI n m cs t p0 x) (hp : p ∈ x.1) {j : Nat} (hj : j < cs.length) : KI n m cs t p0 (Dn.push cs t p x j) := by
  have hjc : In cs.length (j : Int) := ⟨by omega, by omega⟩
  unfold Dn.push
  split
  · exact h
  · rename_i hn
    have hin := tst_in hm ht (h.inn p hp) hjc
    obtain ⟨u, hu, eu⟩ := h.rch p hp
    refine ⟨List.nodup_append.mpr ⟨h.nd, by simp, fun a ha b hb e => ?_⟩, fun q hq => ?_, fun q hq => ?_, fun q hq => ?_, List.mem_append_left _ h.me⟩
    · rw [List.mem_singleton.mp hb] at e
      exact hn (e ▸ ha)
    · rcases List.mem_append.mp hq with hq | hq
      · exact h.inn q hq
      · rw [List.mem_singleton.mp hq]; exact hin
    · rcases List.mem_append.mp hq with hq | hq
      · exact List.mem_append_left _ (h.sub q hq)
      · exact List.mem_append_right _ hq
    · rcases List.mem_append.mp hq with hq | hq
      · exact h.rch q hq
      · rw [List.mem_singleton.mp hq]
        refine ⟨u ++ [(j : Int)], wd_app hu (wd_one hjc), ?_⟩
        unfold tled at eu ⊢
        rw [List.foldl_append, eu]; rfl
theorem KI.few (h : KI n m cs t p0 x) : x.1.length ≤ (UT n m).length := nodup_sub h.nd fun p hp => mem_UT (h.inn p hp)
end
end Dn
end
section
set_option Elab.async false
set_option linter.all false
set_option maxRecDepth 100000
set_option maxHeartbeats 1000000
namespace Dn
open PySem L2
section
variable {n s0 : Int} {m : Nat} {cs : List (List Int)} {S : Stor} {st c i0 : Int} {r : Int → Int → Int} {t : Int → Int → Int → Int} {rs nxs : List PV} {p0 : Tr}
end
end Dn
end
section
set_option Elab.async false
set_option linter.all false
set_option maxRecDepth 100000
set_option maxHeartbeats 1000000
namespace Dn
open PySem L2
/-! ### values that are rules -/
structure RW (n : Int) (m nc : Nat) (i0 : Int) (rs nxs : List PV) : Prop where
  m1 : 1 ≤ m
  m8 : m ≤ 8
  i0 : In m i0
  rl : (rs.length : Int) = n
  rr : ∀ row ∈ rs, (∀ S, isiP "tuple" S row = some (.bl true)) ∧ (∀ S, lenP S [row] = some (.int (m : Int))) ∧ ∃ ns : List Int, itemsP row = some (ns.map .int) ∧ ns.length = m ∧ ∀ x ∈ ns, In n x
  nl : (nxs.length : Int) = n
  nr : ∀ row ∈ nxs, ∃ rr : List (List Int), row = .tup (rr.map encC) ∧ rr.length = m ∧ ∀ r ∈ rr, r.length = nc ∧ ∀ x ∈ r, In m x
section
variable {n s0 : Int} {m : Nat} {cs : List (List Int)} {S : Stor} {st c i0 : Int} {rs nxs : List PV} {Q : OutF → Prop}
end
end Dn
end
section
set_option Elab.async false
set_option linter.all false
set_option maxRecDepth 100000
set_option maxHeartbeats 1000000
namespace Dn
open PySem L2
/-! ### the told rule works -/
def rr (n : Int) (f : Fg Pr) (x k : Int) : Int := (rowI (mN n f) (cpL f x)).getD k.toNat 0
section
variable {n s0 : Int} {cs : List (List Int)} {S : Stor} {Q : OutF → Prop} {st c : Int} {f : Fg Pr} {a b : Int}
/-! ### the law's told rule -/
end
end Dn
end
section
set_option Elab.async false
set_option linter.all false
set_option maxRecDepth 100000
set_option maxHeartbeats 1000000
namespace Dn
open PySem L2
/-! ### the law's walk of a rule -/
section
variable {n s0 : Int} {m : Nat} {cs : List (List Int)} {S : Stor} {st c i0 : Int} {r : Int → Int → Int} {t : Int → Int → Int → Int} {rs nxs : List PV} {p0 : Tr}
/-! ### equal rules -/
end
end Dn
end
section
set_option Elab.async false
set_option linter.all false
set_option maxRecDepth 100000
set_option maxHeartbeats 1000000
namespace Dn
open PySem L2
/-! ### rules by functions -/
def nxV (t : Int → Int → Int → Int) (m nc : Nat) (x : Nat) : PV := .tup ((List.range m).map fun k : Nat => .tup ((List.range nc).map fun j : Nat => .int (t (x : Int) (k : Int) (j : Int))))
structure RowOK (row : PV) (m : Nat) (g : Int → Int) : Prop where
  isi : ∀ S, isiP "tuple" S row = some (.bl true)
  len : ∀ S, lenP S [row] = some (.int (m : Int))
  it : itemsP row = some ((List.range m).map fun k : Nat => .int (g (k : Int)))
  ix : ∀ k, In m k → ∀ S, ixP S row (.int k) = some (.int (g k))
structure RF (n : Int) (m nc : Nat) (i0 : Int) (r : Int → Int → Int) (t : Int → Int → Int → Int) (rsF : Nat → PV) : Prop where
  m1 : 1 ≤ m
  m8 : m ≤ 8
  i0 : In m i0
  row : ∀ x : Nat, (x : Int) < n → RowOK (rsF x) m (r (x : Int))
  rin : ∀ x k, In n x → In m k → In n (r x k)
  tin : ∀ x k j, In n x → In m k → In nc j → In m (t x k j)
def rsL (n : Int) (rsF : Nat → PV) : List PV := (List.range n.toNat).map rsF
def nxL (n : Int) (t : Int → Int → Int → Int) (m nc : Nat) : List PV := (List.range n.toNat).map (nxV t m nc)
section
variable {n : Int} {m nc : Nat} {i0 : Int} {r : Int → Int → Int} {t : Int → Int → Int → Int} {rsF : Nat → PV} {cs : List (List Int)}
theorem RF.rv (h0 : 0 ≤ n) (h : RF n m nc i0 r t rsF) : RV n m nc i0 r t (rsL n rsF) (nxL n t m nc) := by
  refine ⟨fun x hx => ?_, fun x hx => ?_, h.i0, h.tin⟩
  · refine ⟨_, atI_rngm hx, fun k hk S => ?_⟩
    have hx0 := hx.1; have hx1 := hx.2
    have := (h.row x.toNat (by omega)).ix k hk S
    rw [Int.toNat_of_nonneg hx0] at this
    exact this
  · refine ⟨_, atI_rngm hx, fun k hk S => ?_⟩
    have := atI_rngm (n := ((m : Nat) : Int)) (g := fun (k : Nat) => PV.tup ((List.range nc).map fun j : Nat => .int (t ((x.toNat : Nat) : Int) (k : Int) (j : Int)))) hk
    rw [Int.toNat_natCast, Int.toNat_of_nonneg hk.1, Int.toNat_of_nonneg hx.1] at this
    unfold nxV
    rw [Int.toNat_of_nonneg hx.1]
    exact this
theorem RF.rw (h0 : 0 ≤ n) (h : RF n m nc i0 r t rsF) : RW n m nc i0 (rsL n rsF) (nxL n t m nc) := by
  refine ⟨h.m1, h.m8, h.i0, by unfold rsL; rw [List.length_map, List.length_range]; omega, fun row hr => ?_, by unfold nxL; rw [List.length_map, List.length_range]; omega, fun row hr => ?_⟩
  · unfold rsL at hr
    obtain ⟨x, hx, rfl⟩ := List.mem_map.mp hr
    have hx := List.mem_range.mp hx
    have ok := h.row x (by omega)
    refine ⟨ok.isi, ok.len, (List.range m).map fun k : Nat => r (x : Int) (k : Int), by rw [ok.it, List.map_map]; rfl, by rw [List.length_map, List.length_range], fun y hy => ?_⟩
    obtain ⟨k, hk, rfl⟩ := List.mem_map.mp hy
    have hk := List.mem_range.mp hk
    exact h.rin _ _ ⟨by omega, by omega⟩ ⟨by omega, by omega⟩
  · unfold nxL at hr
    obtain ⟨x, hx, rfl⟩ := List.mem_map.mp hr
    have hx := List.mem_range.mp hx
    refine ⟨(List.range m).map fun k : Nat => (List.range nc).map fun j : Nat => t (x : Int) (k : Int) (j : Int), ?_, by rw [List.length_map, List.length_range], fun q hq => ?_⟩
    · unfold nxV
      rw [List.map_map]
      congr 1
      refine List.map_congr_left fun k _ => ?_
      unfold encC
      show _ = PV.tup (List.map PV.int _)
      rw [List.map_map]; rfl
    · obtain ⟨k, hk, rfl⟩ := List.mem_map.mp hq
      have hk := List.mem_range.mp hk
      refine ⟨by rw [List.length_map, List.length_range], fun y hy => ?_⟩
      obtain ⟨j, hj, rfl⟩ := List.mem_map.mp hy
      have hj := List.mem_range.mp hj
      exact h.tin _ _ _ ⟨by omega, by omega⟩ ⟨by omega, by omega⟩ ⟨by omega, by omega⟩
end
end Dn
end
section
set_option Elab.async false
set_option linter.all false
set_option maxRecDepth 100000
set_option maxHeartbeats 1000000
namespace Dn
open PySem L2
section
variable {n s0 : Int} {cs : List (List Int)} {S : Stor} {Q : OutF → Prop} {st c : Int} {f : Fg Pr} {m : Nat}
/-! ### the told rule by functions -/
/-! ### a drawn rule -/
end
end Dn
end
section
set_option Elab.async false
set_option linter.all false
set_option maxRecDepth 100000
set_option maxHeartbeats 1000000
namespace Dn
open PySem L2
/-! ### loops that return False at the first bad item -/
/-! ### rows of any kind -/
section
variable {n s : Int} {cs : List (List Int)} {S : Stor} {Q : OutF → Prop} {x y a b c : Int} {R : List Int}
end
end Dn
end
section
set_option Elab.async false
set_option linter.all false
set_option maxRecDepth 100000
set_option maxHeartbeats 1000000
namespace Dn
open PySem L2
/-! ### rows that show that a system is regular -/
section
variable {n s : Int} {cs : List (List Int)} {S : Stor} {Q : OutF → Prop} {x y a b c : Int}
end
end Dn
end
section
set_option Elab.async false
set_option linter.all false
set_option maxRecDepth 100000
set_option maxHeartbeats 1000000
namespace Dn
open PySem L2
section
variable {n s : Int} {cs : List (List Int)} {S : Stor} {Q : OutF → Prop} {x y a b c : Int} {R : List Int} {M : List (List Int)}
/-! ### rows that show it are the products of a regular system -/
/-! ### effects -/
def eff (cs : List (List Int)) (R : List Int) (u : List Int) : List Int := R.map fun x => ledP cs x u
structure EI (cs : List (List Int)) (R : List Int) (fl : List (List Int)) : Prop where
  nd : fl.Nodup
  wd : ∀ e ∈ fl, ∃ u, Wd cs.length u ∧ e = eff cs R u
  me : R ∈ fl
def mvE (cs : List (List Int)) (e : List Int) (c : Int) : List Int := e.map fun x => stp cs x c
theorem mvE_eff {u : List Int} {c : Int} : mvE cs (eff cs R u) c = eff cs R (u ++ [c]) := by
  unfold mvE eff
  rw [List.map_map]
  refine List.map_congr_left fun x _ => ?_
  show stp cs (ledP cs x u) c = _
  rw [ledP_app, ledP_one]
def pushE (cs : List (List Int)) (e : List Int) (fl : List (List Int)) (c : Nat) : List (List Int) := if mvE cs e (c : Int) ∈ fl then fl else fl ++ [mvE cs e (c : Int)]
theorem EI.push {fl : List (List Int)} (h : EI cs R fl) {e : List Int} (he : ∃ u, Wd cs.length u ∧ e = eff cs R u) {c : Nat} (hc : c < cs.length) : EI cs R (pushE cs e fl c) := by
  obtain ⟨u, hu, rfl⟩ := he
  unfold pushE
  split
  · exact h
  · rename_i hn
    refine ⟨List.nodup_append.mpr ⟨h.nd, by simp, fun a ha b hb z => ?_⟩, fun e he => ?_, List.mem_append_left _ h.me⟩
    · rw [List.mem_singleton.mp hb] at z; exact hn (z ▸ ha)
    · rcases List.mem_append.mp he with he | he
      · exact h.wd e he
      · rw [List.mem_singleton.mp he, mvE_eff]
        exact ⟨_, wd_app hu (wd_one ⟨by omega, by omega⟩), rfl⟩
end
end Dn
end
section
set_option Elab.async false
set_option linter.all false
set_option maxRecDepth 100000
set_option maxHeartbeats 1000000
namespace Dn
open PySem L2
section
variable {n s : Int} {cs : List (List Int)} {S : Stor} {Q : OutF → Prop} {R : List Int}
end
end Dn
end
section
set_option Elab.async false
set_option linter.all false
set_option maxRecDepth 100000
set_option maxHeartbeats 1000000
namespace Dn
open PySem L2 PyProof
/-! ### evidence about groups -/
section
variable {n s : Int} {cs : List (List Int)} {S : Stor} {Q : OutF → Prop} {x y a b c : Int}
end
end Dn
end
section
set_option Elab.async false
set_option linter.all false
set_option maxRecDepth 100000
set_option maxHeartbeats 1000000
namespace Dn
open PySem L2 PyProof
section
variable {n s : Int} {cs : List (List Int)} {S : Stor} {Q : OutF → Prop} {x y a b c : Int}
/-! ### the law's judgement of rows -/
end
end Dn
end
section
set_option Elab.async false
set_option linter.all false
set_option maxRecDepth 100000
set_option maxHeartbeats 1000000
namespace Dn
open PySem L2 PyProof
section
variable {n s : Int} {cs : List (List Int)} {S : Stor} {Q : OutF → Prop} {x y a b c : Int}
end
section
variable {n s0 : Int} {cs : List (List Int)} {S : Stor} {Q : OutF → Prop} {x y a b c : Int}
end
end Dn
end
section
set_option Elab.async false
set_option linter.all false
set_option maxRecDepth 100000
set_option maxHeartbeats 1000000
namespace Dn
open PySem L2 PyProof
section
variable {n s : Int} {cs : List (List Int)} {S : Stor} {Q : OutF → Prop} {x y a b c : Int}
end
end Dn
end
section
set_option Elab.async false
set_option linter.all false
set_option maxRecDepth 100000
set_option maxHeartbeats 1000000
namespace Dn
open PySem L2 PyProof
/-! ### plain values of few items -/
def PS (v : PV) : Prop := plP v = true ∧ szP v = true
section
variable {n s : Int} {cs : List (List Int)} {S : Stor} {Q : OutF → Prop} {R : List Int} {M : List (List Int)}
end
end Dn
end
section
set_option Elab.async false
set_option linter.all false
set_option maxRecDepth 100000
set_option maxHeartbeats 1000000
namespace Dn
open PySem L2 PyProof
/-! ### two fors in one comprehension -/
section
variable {own vs1 : List Nat} {di : Den (List PV)} {g g1 : PV → DEnv → Option DEnv} {dt dt1 : Den Bool} {d1 de : DE} {e : DEnv} {S : Stor} {Q : Out (List PV) → Prop}
end
/-! ### ascending rows -/
end Dn
end
section
set_option Elab.async false
set_option linter.all false
set_option maxRecDepth 100000
set_option maxHeartbeats 1000000
namespace Dn
open PySem L2 PyProof
section
variable {n s st tg : Int} {cs : List (List Int)} {S : Stor} {Q : OutF → Prop}
/-! ### the program's judgement -/
end
section
variable {n s st tg : Int} {cs : List (List Int)} {S : Stor} {Q : OutF → Prop}
end
end Dn
end
section
set_option Elab.async false
set_option linter.all false
set_option maxRecDepth 100000
set_option maxHeartbeats 1000000
namespace Dn
open PySem L2 PyProof
section
variable {n s st tg : Int} {cs : List (List Int)} {S : Stor} {Q : OutF → Prop}
end
end Dn
end
section
set_option Elab.async false
set_option linter.all false
set_option maxRecDepth 100000
set_option maxHeartbeats 1000000
namespace Dn
open PySem L2
/-! ### texts -/
section
variable {n s0 : Int} {cs : List (List Int)} {xs : List Int} {S : Stor} {Q : OutF → Prop} {st c : Int} {a b d e : PV} {s : Str} {q : List Int}
/-! ### checks that refuse -/
/-! ### right arguments -/
/-! ### told -/
end
end Dn
end
section
set_option Elab.async false
set_option linter.all false
set_option maxRecDepth 100000
namespace Dn
noncomputable section
open PySem L2
end
end Dn
end
section
set_option Elab.async false
set_option linter.all false
set_option maxRecDepth 100000
set_option maxHeartbeats 1000000
namespace Dn
open PySem L2 PyProof
/-! ### two named clauses -/
def tryQ2 (cs : List (Str × Bool)) (i : Nat) (ct : List (Str × Bool)) (j : Nat) (su sv : Exc → DS) (Q : OutS → Prop) : OutS → Prop
  | .ex x e S => match cs.lookup x.cls with
    | some true => wpS (su x) (e.set i .un) S (tryR i Q)
    | some false => match ct.lookup x.cls with
      | some true => wpS (sv x) (e.set j .un) S (tryR j Q)
      | some false => Q (.ex x e S)
      | none => Q .st
    | none => Q .st
  | o => Q o
section
variable {cs ct : List (Str × Bool)} {i j : Nat} {b : DS} {su sv : Exc → DS} {e : DEnv} {S : Stor} {Q : OutS → Prop} {p : PV} {x : Exc}
theorem wpS_try2 : wpS (sTry2 cs i ct j b su sv) e S Q = wpS b e S (tryQ2 cs i ct j su sv Q) := by
  unfold wpS sTry2
  cases b e S with
  | ex x e1 S1 =>
    unfold tryQ2
    dsimp only
    cases cs.lookup x.cls with
    | none => rfl
    | some bb =>
      cases bb with
      | false =>
        dsimp only
        cases ct.lookup x.cls with
        | none => rfl
        | some b2 =>
          cases b2 with
          | false => rfl
          | true =>
            dsimp only
            unfold wpS tryR sHd
            cases sv x (e1.set j .un) S1 <;> rfl
      | true =>
        dsimp only
        unfold wpS tryR sHd
        cases su x (e1.set i .un) S1 <;> rfl
  | _ => rfl
theorem tryQ2_rt : tryQ2 cs i ct j su sv Q (.rt p e S) = Q (.rt p e S) := id rfl
theorem tryQ2_yes (h : cs.lookup x.cls = some true) : tryQ2 cs i ct j su sv Q (.ex x e S) = wpS (su x) (e.set i .un) S (tryR i Q) := by
  unfold tryQ2; dsimp only; rw [h]
theorem tryQ2_two (h : cs.lookup x.cls = some false) (h2 : ct.lookup x.cls = some true) : tryQ2 cs i ct j su sv Q (.ex x e S) = wpS (sv x) (e.set j .un) S (tryR j Q) := by
  unfold tryQ2; dsimp only; rw [h]; dsimp only; rw [h2]
end
section
variable {n s : Int} {cs : List (List Int)} {S : Stor} {Q : OutF → Prop} {x y a b c : Int} {p : List Int} {u v w : PV}
/-! ### drawn wrong systems -/
/-! products -/
/-! inverses -/
/-! factors -/
/-! the few -/
/-! told -/
end
/-! ### the two systems -/
end Dn
end
section
set_option Elab.async false
set_option linter.all false
set_option maxRecDepth 100000
set_option maxHeartbeats 1000000
namespace Dn
open PySem L2
/-! ### texts as lists of characters -/
def tx (l : List Nat) : Str := ⟨l.toArray⟩
theorem tx_cps {l : List Nat} : (tx l).cps.toList = l := by simp [tx]
theorem tx_len {l : List Nat} : (tx l).length = l.length := by simp [tx, Str.length]
theorem tx_app {a b : List Nat} : tx a ++ tx b = tx (a ++ b) := by
  show Str.append _ _ = _
  unfold Str.append tx
  simp
theorem tx_inj {a b : List Nat} (h : tx a = tx b) : a = b := by
  have := congrArg (fun s : Str => s.cps.toList) h
  simpa [tx] using this
theorem len_tx {S : Stor} {l : List Nat} (h : l.length ≤ sizeLine) : lenP S [.str (tx l)] = some (.int l.length) := by
  show (if (tx l).length ≤ sizeLine then some (PV.int (tx l).length) else none) = _
  rw [tx_len, if_pos h]
theorem add_tx {S : Stor} {a b : List Nat} (h : a.length + b.length ≤ sizeLine) : addP S (.str (tx a)) (.str (tx b)) = some (.str (tx (a ++ b))) := by
  show (if (tx a).length + (tx b).length ≤ sizeLine then some (PV.str (tx a ++ tx b)) else none) = _
  rw [tx_len, tx_len, if_pos h, tx_app]
theorem ix_tx {S : Stor} {a : List Nat} {c : Nat} {b : List Nat} {i : Int} (hi : i = a.length) (h : (a ++ c :: b).length ≤ sizeLine) : ixP S (.str (tx (a ++ c :: b))) (.int i) = some (.str (tx [c])) := by
  show (if (tx (a ++ c :: b)).length ≤ sizeLine then (atI (tx (a ++ c :: b)).cps.toList i).map fun c => PV.str ⟨#[c]⟩ else none) = _
  rw [tx_len, if_pos h, tx_cps, hi]
  have : atI (a ++ c :: b) (a.length : Int) = some c := by
    unfold atI
    have : ixN (a ++ c :: b).length (a.length : Int) = some a.length := by
      unfold ixN; simp; omega
    rw [this]
    simp
  rw [this]; rfl
/-- t[i:i+k] -/
theorem cut_tx {a r : List Nat} {lo hi : Int} {k : Nat} (hl : lo = a.length) (hh : hi = (a.length + k : Nat)) : cutS (tx (a ++ r)) (some lo) (some hi) = tx (r.take k) := by
  subst hl hh
  unfold cutS
  rw [tx_cps, tx_len, HT.sIx_nat, HT.sIx_nat]
  have h1 : min a.length (a ++ r).length = a.length := by simp
  rw [h1, List.drop_left]
  unfold tx
  congr 2
  rw [List.take_eq_take_iff]
  simp
theorem sl_tx {a r : List Nat} {lo hi : Int} {k : Nat} (hl : lo = a.length) (hh : hi = (a.length + k : Nat)) (h : (a ++ r).length ≤ sizeLine) : slP (.str (tx (a ++ r))) (some lo) (some hi) = some (.str (tx (r.take k))) := by
  show (if (tx (a ++ r)).length ≤ sizeLine then some (PV.str (cutS (tx (a ++ r)) (some lo) (some hi))) else none) = _
  rw [tx_len, if_pos h, cut_tx hl hh]
theorem subAt_one {l : List Nat} {c i : Nat} : Builtin.Str.subAt (tx l) (tx [c]) i = decide (l[i]? = some c) := by
  unfold Builtin.Str.subAt
  rw [tx_len]
  have e : (tx l).cps.extract i (i + [c].length) = ((l.drop i).take 1).toArray := by
    unfold tx
    simp
  rw [e]
  have e2 : (l.drop i).take 1 = (l[i]?).toList := by
    cases h : l[i]? with
    | none => rw [List.drop_eq_nil_of_le (List.getElem?_eq_none_iff.mp h)]; rfl
    | some d =>
      obtain ⟨hi, rfl⟩ := List.getElem?_eq_some_iff.mp h
      rw [List.drop_eq_getElem_cons hi]; rfl
  rw [e2]
  cases l[i]? with
  | none => unfold tx; simp
  | some d => unfold tx; simp; rfl
theorem in_tx {l : List Nat} {c : Nat} : inTx (tx l) (tx [c]) = decide (c ∈ l) := by
  unfold inTx
  rcases StrLaws.occ_head (tx l) (tx [c]) 1 (Nat.le_refl _) with ⟨h0, hn⟩ | ⟨i, r, h0, ha, _⟩
  · rw [h0]
    have : ¬ c ∈ l := fun hm => by
      obtain ⟨i, hi, e⟩ := List.getElem_of_mem hm
      refine hn i ⟨by rw [tx_len, tx_len]; exact hi, ?_⟩
      rw [subAt_one, List.getElem?_eq_getElem hi, e]; simp
    simp [this]
  · rw [h0]
    have h1 := ha.2
    rw [subAt_one] at h1
    have : c ∈ l := List.mem_of_getElem? (of_decide_eq_true h1)
    simp [this]
end Dn
end
section
set_option Elab.async false
set_option linter.all false
set_option maxRecDepth 100000
set_option maxHeartbeats 1000000
namespace Dn
open PySem L2
/-! ### tokens -/
def digB (c : Nat) : Bool := inTx "0123456789" (tx [c])
def letB (c : Nat) : Bool := inTx "abcd" (tx [c])
theorem tx_nil : ("" : Str) = tx [] := by kernel_rfl
theorem in_dig {S : Stor} {c : Nat} : inSP S (.str (tx [c])) (.str "0123456789") = some (.bl (digB c)) := id rfl
theorem in_let {S : Stor} {c : Nat} : inSP S (.str (tx [c])) (.str "abcd") = some (.bl (letB c)) := id rfl
/-- what stands behind a number -/
def NoDig (r : List Nat) : Prop := ∀ c r', r = c :: r' → digB c = false
section
variable {S : Stor}
def naT : Den Bool := dAndT (dT (d2 ltP (dVar 2) (dN lenP (aCons (dVar 0) aNil)))) (dT (d2 inSP (d2 ixP (dVar 0) (dVar 2)) (dC (.str "0123456789"))))
def naB : DS := sSet 2 (d2 addP (dVar 2) (dC (.int 1)))
theorem na_eq : d_number_at_v2 = dFun 2 1 (sSeq (sSet 2 (dVar 1))
  (sSeq (whN naT naB)
  (sRet (dSl (dVar 0) (oSome (dVar 1)) (oSome (dVar 2)))))) := id rfl
theorem na_walk {t : List Nat} {j : Int} (hl : t.length ≤ 1000) {Q : OutS → Prop} : ∀ (N : Nat) (d a r : List Nat), t = a ++ (d ++ r) → (∀ c ∈ d, digB c = true) → NoDig r → d.length < N → Q (.nx [.v (.str (tx t)), .v (.int j), .v (.int (a.length + d.length : Nat))] S) →
    wpS (whL naT naB N) [.v (.str (tx t)), .v (.int j), .v (.int a.length)] S Q
  | 0, d, a, r, _, _, _, hN, _ => by omega
  | N + 1, [], a, r, ht, hd, hr, hN, h => by
    have hs : t.length ≤ sizeLine := by rw [sizeLine_eq]; omega
    refine whL_false ?_ (by simpa using h)
    show wp _ _ _ fun o => o = _
    unfold naT
    cases r with
    | nil =>
      have e3 : ¬ ((a.length : Int) < (t.length : Int)) := by rw [ht]; simp
      simp only [List.replicate, List.cons_append, List.nil_append, List.length_cons, List.length_nil, Nat.reduceAdd, bq_ok, bq_ex, wp_pure, wp_fail, wp_getS, oQ_some, oQ_ite, bqS_ok, bqS_ex, wpS_seq, sqS_nx, sqS_rt, sqS_bk, sqS_ct, sqS_ex, wpS_next, wpS_break, wpS_cont, wpS_retN, wpS_setT, stQ_some, wp_C, wp_call, wp_callv, bqF_ok, bqF_ex, wp_new, wp_newv, fqS_nx, fqS_rt, fqS_ex, wpS_for, wp_comp, wp_dVar, vQ_v, vQ_o, List.getElem?_cons_zero, List.getElem?_cons_succ, List.set_cons_zero, List.set_cons_succ, wp_d1, wp_k1, wp_d2, wp_k2, wp_k2b, wp_dT, wp_kT, wp_dTru, wp_kTru, wp_dNotT, wp_kNot, wp_dAndT, wp_kAnd, wp_dOrT, wp_kOr, wp_dAndV, wp_kAndV, wp_kAndVb, wp_dOrV, wp_kOrV, wp_kOrVb, wp_dNotV, wp_kNotV, wp_kNotVb, wp_dIf, wp_kIf, wp_dChain, wp_kCh, wp_kCh2, wp_kCh3, wp_aNil, wp_aCons, wp_kCons, wp_kCons2, wp_dTup, wp_kTup, wp_dLst, wp_kLst, wp_dN, wp_kN, wp_dLs, wp_kLs, wp_lDisp, wp_kDisp, wp_lRng, wp_kRng, wp_dItR, wp_kItR, wp_dItS, wp_kItS, wp_tTrue, wp_oNo, wp_oSome, wp_kSome, wp_dSl, wp_kSl, wp_kSl1, wp_kSl2, ws_ret, ws_kRet, ws_expr, ws_kExpr, ws_if, ws_kIfS, ws_set, ws_kSet, ws_setO, ws_kSetO, ws_kSetT, ws_setR, ws_kSetR0, ws_kSetR1, ws_kSetR2, items_t, items_ft, items_l, items_r, setAll, Bool.not_true, Bool.not_false, if_true, ite_true, ite_false, ↓reduceIte, Bool.false_eq_true, Int.reduceLT, Int.reduceLE, Nat.reduceLT, Nat.reduceLeDiff, Nat.reducePow, Int.reducePow, Int.reduceToNat, Int.reduceNeg, Int.reduceSub, Int.reduceAdd, and_self, and_true, true_and, decide_eq_true_eq, decide_true, decide_false, List.length_map, ixN_31, ixN_32, ixN_30, wipeE, restE, lcQ, Option.getD_some, add_i, add_t, add_l, sub_i, mul_i, mul_t, mul_l, fdiv_i, mod_i, pow_18, neg_i, lt_i, le_i, gt_i, ge_i, eq_i, ne_i, eq_b, len_t, len_ft, len_l, len_r, abs_i, int_i, list_t, list_ft, list_l, list_r, tuple_t, tuple_ft, tuple_l, isi_i, isi_b, isi_s, isi_t, isi_ft, isi_l, isi_r, isi_n, tru_b, tru_i, tru_t, tru_ft, tru_l, tru_n, isN_n, isN_b, isN_i, isN_s, isN_t, isN_l, ix_t, ix_ft, ix_l, ix_r, ix_ref, setS_ref, atI_0, atI_1, atI_2, Option.map_some, Option.map_none, kb0, kb1, kb2, kb3, kb4, kb5, kb6, kb7, kb8, kb9, kb10, kb11, kb12, kb13, kb14, kb15, kb16, kb17, kb18, kb19, kb20, kb21, kb22, kb23, kb24, kb25, kb26, kb27, kb28, kb29, sz0, szl0, sz1, szl1, sz2, szl2, sz3, szl3, sz4, szl4, sz5, szl5, sz6, szl6, sz7, szl7, sz8, szl8, sz9, szl9, sz10, szl10, sz11, szl11, sz12, szl12, sz13, szl13, sz14, szl14, sz15, szl15, sz16, szl16, sz17, szl17, sz18, szl18, sz19, szl19, sz20, szl20, sz21, szl21, sz22, szl22, sz23, szl23, sz24, szl24, sz25, szl25, sz26, szl26, sz27, szl27, sz28, szl28, sz29, szl29, sz30, szl30, sz31, szl31, sz32, szl32, sz33, szl33, sz34, szl34, sz35, szl35, sz36, szl36, sz37, szl37, sz38, szl38, sz39, szl39, sz40, szl40, len_tx hs, e3]
    | cons c r' =>
      have e3 : ((a.length : Int) < (t.length : Int)) := by rw [ht]; simp; omega
      have e4 : ixP S (.str (tx t)) (.int a.length) = some (.str (tx [c])) := by
        have := ix_tx (S := S) (a := a) (c := c) (b := r') rfl (by rw [ht] at hs; simpa using hs)
        rw [ht]; simpa using this
      simp only [List.replicate, List.cons_append, List.nil_append, List.length_cons, List.length_nil, Nat.reduceAdd, bq_ok, bq_ex, wp_pure, wp_fail, wp_getS, oQ_some, oQ_ite, bqS_ok, bqS_ex, wpS_seq, sqS_nx, sqS_rt, sqS_bk, sqS_ct, sqS_ex, wpS_next, wpS_break, wpS_cont, wpS_retN, wpS_setT, stQ_some, wp_C, wp_call, wp_callv, bqF_ok, bqF_ex, wp_new, wp_newv, fqS_nx, fqS_rt, fqS_ex, wpS_for, wp_comp, wp_dVar, vQ_v, vQ_o, List.getElem?_cons_zero, List.getElem?_cons_succ, List.set_cons_zero, List.set_cons_succ, wp_d1, wp_k1, wp_d2, wp_k2, wp_k2b, wp_dT, wp_kT, wp_dTru, wp_kTru, wp_dNotT, wp_kNot, wp_dAndT, wp_kAnd, wp_dOrT, wp_kOr, wp_dAndV, wp_kAndV, wp_kAndVb, wp_dOrV, wp_kOrV, wp_kOrVb, wp_dNotV, wp_kNotV, wp_kNotVb, wp_dIf, wp_kIf, wp_dChain, wp_kCh, wp_kCh2, wp_kCh3, wp_aNil, wp_aCons, wp_kCons, wp_kCons2, wp_dTup, wp_kTup, wp_dLst, wp_kLst, wp_dN, wp_kN, wp_dLs, wp_kLs, wp_lDisp, wp_kDisp, wp_lRng, wp_kRng, wp_dItR, wp_kItR, wp_dItS, wp_kItS, wp_tTrue, wp_oNo, wp_oSome, wp_kSome, wp_dSl, wp_kSl, wp_kSl1, wp_kSl2, ws_ret, ws_kRet, ws_expr, ws_kExpr, ws_if, ws_kIfS, ws_set, ws_kSet, ws_setO, ws_kSetO, ws_kSetT, ws_setR, ws_kSetR0, ws_kSetR1, ws_kSetR2, items_t, items_ft, items_l, items_r, setAll, Bool.not_true, Bool.not_false, if_true, ite_true, ite_false, ↓reduceIte, Bool.false_eq_true, Int.reduceLT, Int.reduceLE, Nat.reduceLT, Nat.reduceLeDiff, Nat.reducePow, Int.reducePow, Int.reduceToNat, Int.reduceNeg, Int.reduceSub, Int.reduceAdd, and_self, and_true, true_and, decide_eq_true_eq, decide_true, decide_false, List.length_map, ixN_31, ixN_32, ixN_30, wipeE, restE, lcQ, Option.getD_some, add_i, add_t, add_l, sub_i, mul_i, mul_t, mul_l, fdiv_i, mod_i, pow_18, neg_i, lt_i, le_i, gt_i, ge_i, eq_i, ne_i, eq_b, len_t, len_ft, len_l, len_r, abs_i, int_i, list_t, list_ft, list_l, list_r, tuple_t, tuple_ft, tuple_l, isi_i, isi_b, isi_s, isi_t, isi_ft, isi_l, isi_r, isi_n, tru_b, tru_i, tru_t, tru_ft, tru_l, tru_n, isN_n, isN_b, isN_i, isN_s, isN_t, isN_l, ix_t, ix_ft, ix_l, ix_r, ix_ref, setS_ref, atI_0, atI_1, atI_2, Option.map_some, Option.map_none, kb0, kb1, kb2, kb3, kb4, kb5, kb6, kb7, kb8, kb9, kb10, kb11, kb12, kb13, kb14, kb15, kb16, kb17, kb18, kb19, kb20, kb21, kb22, kb23, kb24, kb25, kb26, kb27, kb28, kb29, sz0, szl0, sz1, szl1, sz2, szl2, sz3, szl3, sz4, szl4, sz5, szl5, sz6, szl6, sz7, szl7, sz8, szl8, sz9, szl9, sz10, szl10, sz11, szl11, sz12, szl12, sz13, szl13, sz14, szl14, sz15, szl15, sz16, szl16, sz17, szl17, sz18, szl18, sz19, szl19, sz20, szl20, sz21, szl21, sz22, szl22, sz23, szl23, sz24, szl24, sz25, szl25, sz26, szl26, sz27, szl27, sz28, szl28, sz29, szl29, sz30, szl30, sz31, szl31, sz32, szl32, sz33, szl33, sz34, szl34, sz35, szl35, sz36, szl36, sz37, szl37, sz38, szl38, sz39, szl39, sz40, szl40, len_tx hs, e3, e4, in_dig, hr c r' rfl]
  | N + 1, c :: d, a, r, ht, hd, hr, hN, h => by
    have hs : t.length ≤ sizeLine := by rw [sizeLine_eq]; omega
    have e3 : ((a.length : Int) < (t.length : Int)) := by rw [ht]; simp; omega
    have e4 : ixP S (.str (tx t)) (.int a.length) = some (.str (tx [c])) := by
      have := ix_tx (S := S) (a := a) (c := c) (b := d ++ r) rfl (by rw [ht] at hs; simpa using hs)
      rw [ht]; simpa using this
    have tr : naT [.v (.str (tx t)), .v (.int j), .v (.int a.length)] S = .ok true [.v (.str (tx t)), .v (.int j), .v (.int a.length)] S := by
      show wp _ _ _ fun o => o = _
      unfold naT
      simp only [List.replicate, List.cons_append, List.nil_append, List.length_cons, List.length_nil, Nat.reduceAdd, bq_ok, bq_ex, wp_pure, wp_fail, wp_getS, oQ_some, oQ_ite, bqS_ok, bqS_ex, wpS_seq, sqS_nx, sqS_rt, sqS_bk, sqS_ct, sqS_ex, wpS_next, wpS_break, wpS_cont, wpS_retN, wpS_setT, stQ_some, wp_C, wp_call, wp_callv, bqF_ok, bqF_ex, wp_new, wp_newv, fqS_nx, fqS_rt, fqS_ex, wpS_for, wp_comp, wp_dVar, vQ_v, vQ_o, List.getElem?_cons_zero, List.getElem?_cons_succ, List.set_cons_zero, List.set_cons_succ, wp_d1, wp_k1, wp_d2, wp_k2, wp_k2b, wp_dT, wp_kT, wp_dTru, wp_kTru, wp_dNotT, wp_kNot, wp_dAndT, wp_kAnd, wp_dOrT, wp_kOr, wp_dAndV, wp_kAndV, wp_kAndVb, wp_dOrV, wp_kOrV, wp_kOrVb, wp_dNotV, wp_kNotV, wp_kNotVb, wp_dIf, wp_kIf, wp_dChain, wp_kCh, wp_kCh2, wp_kCh3, wp_aNil, wp_aCons, wp_kCons, wp_kCons2, wp_dTup, wp_kTup, wp_dLst, wp_kLst, wp_dN, wp_kN, wp_dLs, wp_kLs, wp_lDisp, wp_kDisp, wp_lRng, wp_kRng, wp_dItR, wp_kItR, wp_dItS, wp_kItS, wp_tTrue, wp_oNo, wp_oSome, wp_kSome, wp_dSl, wp_kSl, wp_kSl1, wp_kSl2, ws_ret, ws_kRet, ws_expr, ws_kExpr, ws_if, ws_kIfS, ws_set, ws_kSet, ws_setO, ws_kSetO, ws_kSetT, ws_setR, ws_kSetR0, ws_kSetR1, ws_kSetR2, items_t, items_ft, items_l, items_r, setAll, Bool.not_true, Bool.not_false, if_true, ite_true, ite_false, ↓reduceIte, Bool.false_eq_true, Int.reduceLT, Int.reduceLE, Nat.reduceLT, Nat.reduceLeDiff, Nat.reducePow, Int.reducePow, Int.reduceToNat, Int.reduceNeg, Int.reduceSub, Int.reduceAdd, and_self, and_true, true_and, decide_eq_true_eq, decide_true, decide_false, List.length_map, ixN_31, ixN_32, ixN_30, wipeE, restE, lcQ, Option.getD_some, add_i, add_t, add_l, sub_i, mul_i, mul_t, mul_l, fdiv_i, mod_i, pow_18, neg_i, lt_i, le_i, gt_i, ge_i, eq_i, ne_i, eq_b, len_t, len_ft, len_l, len_r, abs_i, int_i, list_t, list_ft, list_l, list_r, tuple_t, tuple_ft, tuple_l, isi_i, isi_b, isi_s, isi_t, isi_ft, isi_l, isi_r, isi_n, tru_b, tru_i, tru_t, tru_ft, tru_l, tru_n, isN_n, isN_b, isN_i, isN_s, isN_t, isN_l, ix_t, ix_ft, ix_l, ix_r, ix_ref, setS_ref, atI_0, atI_1, atI_2, Option.map_some, Option.map_none, kb0, kb1, kb2, kb3, kb4, kb5, kb6, kb7, kb8, kb9, kb10, kb11, kb12, kb13, kb14, kb15, kb16, kb17, kb18, kb19, kb20, kb21, kb22, kb23, kb24, kb25, kb26, kb27, kb28, kb29, sz0, szl0, sz1, szl1, sz2, szl2, sz3, szl3, sz4, szl4, sz5, szl5, sz6, szl6, sz7, szl7, sz8, szl8, sz9, szl9, sz10, szl10, sz11, szl11, sz12, szl12, sz13, szl13, sz14, szl14, sz15, szl15, sz16, szl16, sz17, szl17, sz18, szl18, sz19, szl19, sz20, szl20, sz21, szl21, sz22, szl22, sz23, szl23, sz24, szl24, sz25, szl25, sz26, szl26, sz27, szl27, sz28, szl28, sz29, szl29, sz30, szl30, sz31, szl31, sz32, szl32, sz33, szl33, sz34, szl34, sz35, szl35, sz36, szl36, sz37, szl37, sz38, szl38, sz39, szl39, sz40, szl40, len_tx hs, e3, e4, in_dig, hd c (List.mem_cons_self ..)]
    have turn : naB [.v (.str (tx t)), .v (.int j), .v (.int a.length)] S = .nx [.v (.str (tx t)), .v (.int j), .v (.int (a ++ [c]).length)] S := by
      show wpS _ _ _ fun o => o = _
      unfold naB
      simp only [List.replicate, List.cons_append, List.nil_append, List.length_cons, List.length_nil, Nat.reduceAdd, bq_ok, bq_ex, wp_pure, wp_fail, wp_getS, oQ_some, oQ_ite, bqS_ok, bqS_ex, wpS_seq, sqS_nx, sqS_rt, sqS_bk, sqS_ct, sqS_ex, wpS_next, wpS_break, wpS_cont, wpS_retN, wpS_setT, stQ_some, wp_C, wp_call, wp_callv, bqF_ok, bqF_ex, wp_new, wp_newv, fqS_nx, fqS_rt, fqS_ex, wpS_for, wp_comp, wp_dVar, vQ_v, vQ_o, List.getElem?_cons_zero, List.getElem?_cons_succ, List.set_cons_zero, List.set_cons_succ, wp_d1, wp_k1, wp_d2, wp_k2, wp_k2b, wp_dT, wp_kT, wp_dTru, wp_kTru, wp_dNotT, wp_kNot, wp_dAndT, wp_kAnd, wp_dOrT, wp_kOr, wp_dAndV, wp_kAndV, wp_kAndVb, wp_dOrV, wp_kOrV, wp_kOrVb, wp_dNotV, wp_kNotV, wp_kNotVb, wp_dIf, wp_kIf, wp_dChain, wp_kCh, wp_kCh2, wp_kCh3, wp_aNil, wp_aCons, wp_kCons, wp_kCons2, wp_dTup, wp_kTup, wp_dLst, wp_kLst, wp_dN, wp_kN, wp_dLs, wp_kLs, wp_lDisp, wp_kDisp, wp_lRng, wp_kRng, wp_dItR, wp_kItR, wp_dItS, wp_kItS, wp_tTrue, wp_oNo, wp_oSome, wp_kSome, wp_dSl, wp_kSl, wp_kSl1, wp_kSl2, ws_ret, ws_kRet, ws_expr, ws_kExpr, ws_if, ws_kIfS, ws_set, ws_kSet, ws_setO, ws_kSetO, ws_kSetT, ws_setR, ws_kSetR0, ws_kSetR1, ws_kSetR2, items_t, items_ft, items_l, items_r, setAll, Bool.not_true, Bool.not_false, if_true, ite_true, ite_false, ↓reduceIte, Bool.false_eq_true, Int.reduceLT, Int.reduceLE, Nat.reduceLT, Nat.reduceLeDiff, Nat.reducePow, Int.reducePow, Int.reduceToNat, Int.reduceNeg, Int.reduceSub, Int.reduceAdd, and_self, and_true, true_and, decide_eq_true_eq, decide_true, decide_false, List.length_map, ixN_31, ixN_32, ixN_30, wipeE, restE, lcQ, Option.getD_some, add_i, add_t, add_l, sub_i, mul_i, mul_t, mul_l, fdiv_i, mod_i, pow_18, neg_i, lt_i, le_i, gt_i, ge_i, eq_i, ne_i, eq_b, len_t, len_ft, len_l, len_r, abs_i, int_i, list_t, list_ft, list_l, list_r, tuple_t, tuple_ft, tuple_l, isi_i, isi_b, isi_s, isi_t, isi_ft, isi_l, isi_r, isi_n, tru_b, tru_i, tru_t, tru_ft, tru_l, tru_n, isN_n, isN_b, isN_i, isN_s, isN_t, isN_l, ix_t, ix_ft, ix_l, ix_r, ix_ref, setS_ref, atI_0, atI_1, atI_2, Option.map_some, Option.map_none, kb0, kb1, kb2, kb3, kb4, kb5, kb6, kb7, kb8, kb9, kb10, kb11, kb12, kb13, kb14, kb15, kb16, kb17, kb18, kb19, kb20, kb21, kb22, kb23, kb24, kb25, kb26, kb27, kb28, kb29, sz0, szl0, sz1, szl1, sz2, szl2, sz3, szl3, sz4, szl4, sz5, szl5, sz6, szl6, sz7, szl7, sz8, szl8, sz9, szl9, sz10, szl10, sz11, szl11, sz12, szl12, sz13, szl13, sz14, szl14, sz15, szl15, sz16, szl16, sz17, szl17, sz18, szl18, sz19, szl19, sz20, szl20, sz21, szl21, sz22, szl22, sz23, szl23, sz24, szl24, sz25, szl25, sz26, szl26, sz27, szl27, sz28, szl28, sz29, szl29, sz30, szl30, sz31, szl31, sz32, szl32, sz33, szl33, sz34, szl34, sz35, szl35, sz36, szl36, sz37, szl37, sz38, szl38, sz39, szl39, sz40, szl40, List.length_append]
      rfl
    refine whL_true tr turn ?_
    refine na_walk hl N d (a ++ [c]) r (by rw [ht]; simp) (fun c' hc => hd c' (List.mem_cons_of_mem _ hc)) hr (by simp only [List.length_cons] at hN; omega) ?_
    have e : (a ++ [c]).length + d.length = a.length + (c :: d).length := by simp; omega
    rw [e]; exact h
theorem wp_number_at {a d r : List Nat} {Q : OutF → Prop} (hl : (a ++ (d ++ r)).length ≤ 1000) (hd : ∀ c ∈ d, digB c = true) (hr : NoDig r) (h : Q (.ok (.str (tx d)) S)) : wpF d_number_at_v2 [.str (tx (a ++ (d ++ r))), .int a.length] S Q := by
  have hs : (a ++ (d ++ r)).length ≤ sizeLine := by rw [sizeLine_eq]; omega
  rw [na_eq]
  refine wpF_go rfl ?_
  rw [wpS_seq]
  simp only [List.map, List.replicate, List.cons_append, List.nil_append, List.length_cons, List.length_nil, Nat.reduceAdd, bq_ok, bq_ex, wp_pure, wp_fail, wp_getS, oQ_some, oQ_ite, bqS_ok, bqS_ex, sqS_nx, sqS_rt, sqS_bk, sqS_ct, sqS_ex, wpS_next, wpS_break, wpS_cont, wpS_retN, wpS_setT, stQ_some, wp_C, wp_call, wp_callv, bqF_ok, bqF_ex, wp_new, wp_newv, fqS_nx, fqS_rt, fqS_ex, wpS_for, wp_comp, wp_dVar, vQ_v, vQ_o, List.getElem?_cons_zero, List.getElem?_cons_succ, List.set_cons_zero, List.set_cons_succ, wp_d1, wp_k1, wp_d2, wp_k2, wp_k2b, wp_dT, wp_kT, wp_dTru, wp_kTru, wp_dNotT, wp_kNot, wp_dAndT, wp_kAnd, wp_dOrT, wp_kOr, wp_dAndV, wp_kAndV, wp_kAndVb, wp_dOrV, wp_kOrV, wp_kOrVb, wp_dNotV, wp_kNotV, wp_kNotVb, wp_dIf, wp_kIf, wp_dChain, wp_kCh, wp_kCh2, wp_kCh3, wp_aNil, wp_aCons, wp_kCons, wp_kCons2, wp_dTup, wp_kTup, wp_dLst, wp_kLst, wp_dN, wp_kN, wp_dLs, wp_kLs, wp_lDisp, wp_kDisp, wp_lRng, wp_kRng, wp_dItR, wp_kItR, wp_dItS, wp_kItS, wp_tTrue, wp_oNo, wp_oSome, wp_kSome, wp_dSl, wp_kSl, wp_kSl1, wp_kSl2, ws_ret, ws_kRet, ws_expr, ws_kExpr, ws_if, ws_kIfS, ws_set, ws_kSet, ws_setO, ws_kSetO, ws_kSetT, ws_setR, ws_kSetR0, ws_kSetR1, ws_kSetR2, items_t, items_ft, items_l, items_r, setAll, Bool.not_true, Bool.not_false, if_true, ite_true, ite_false, ↓reduceIte, Bool.false_eq_true, Int.reduceLT, Int.reduceLE, Nat.reduceLT, Nat.reduceLeDiff, Nat.reducePow, Int.reducePow, Int.reduceToNat, Int.reduceNeg, Int.reduceSub, Int.reduceAdd, and_self, and_true, true_and, decide_eq_true_eq, decide_true, decide_false, List.length_map, ixN_31, ixN_32, ixN_30, wipeE, restE, lcQ, Option.getD_some, add_i, add_t, add_l, sub_i, mul_i, mul_t, mul_l, fdiv_i, mod_i, pow_18, neg_i, lt_i, le_i, gt_i, ge_i, eq_i, ne_i, eq_b, len_t, len_ft, len_l, len_r, abs_i, int_i, list_t, list_ft, list_l, list_r, tuple_t, tuple_ft, tuple_l, isi_i, isi_b, isi_s, isi_t, isi_ft, isi_l, isi_r, isi_n, tru_b, tru_i, tru_t, tru_ft, tru_l, tru_n, isN_n, isN_b, isN_i, isN_s, isN_t, isN_l, ix_t, ix_ft, ix_l, ix_r, ix_ref, setS_ref, atI_0, atI_1, atI_2, Option.map_some, Option.map_none, kb0, kb1, kb2, kb3, kb4, kb5, kb6, kb7, kb8, kb9, kb10, kb11, kb12, kb13, kb14, kb15, kb16, kb17, kb18, kb19, kb20, kb21, kb22, kb23, kb24, kb25, kb26, kb27, kb28, kb29, sz0, szl0, sz1, szl1, sz2, szl2, sz3, szl3, sz4, szl4, sz5, szl5, sz6, szl6, sz7, szl7, sz8, szl8, sz9, szl9, sz10, szl10, sz11, szl11, sz12, szl12, sz13, szl13, sz14, szl14, sz15, szl15, sz16, szl16, sz17, szl17, sz18, szl18, sz19, szl19, sz20, szl20, sz21, szl21, sz22, szl22, sz23, szl23, sz24, szl24, sz25, szl25, sz26, szl26, sz27, szl27, sz28, szl28, sz29, szl29, sz30, szl30, sz31, szl31, sz32, szl32, sz33, szl33, sz34, szl34, sz35, szl35, sz36, szl36, sz37, szl37, sz38, szl38, sz39, szl39, sz40, szl40]
  rw [wpS_seq]
  unfold whN
  refine na_walk hl 1000000000 d a r rfl hd hr (by simp at hl; omega) ?_
  have e : slP (.str (tx (a ++ (d ++ r)))) (some (a.length : Int)) (some ((a.length + d.length : Nat) : Int)) = some (.str (tx d)) := by
    rw [sl_tx rfl rfl hs]; simp
  simp only [List.map, List.replicate, List.cons_append, List.nil_append, List.length_cons, List.length_nil, Nat.reduceAdd, bq_ok, bq_ex, wp_pure, wp_fail, wp_getS, oQ_some, oQ_ite, bqS_ok, bqS_ex, sqS_nx, sqS_rt, sqS_bk, sqS_ct, sqS_ex, wpS_next, wpS_break, wpS_cont, wpS_retN, wpS_setT, stQ_some, wp_C, wp_call, wp_callv, bqF_ok, bqF_ex, wp_new, wp_newv, fqS_nx, fqS_rt, fqS_ex, wpS_for, wp_comp, wp_dVar, vQ_v, vQ_o, List.getElem?_cons_zero, List.getElem?_cons_succ, List.set_cons_zero, List.set_cons_succ, wp_d1, wp_k1, wp_d2, wp_k2, wp_k2b, wp_dT, wp_kT, wp_dTru, wp_kTru, wp_dNotT, wp_kNot, wp_dAndT, wp_kAnd, wp_dOrT, wp_kOr, wp_dAndV, wp_kAndV, wp_kAndVb, wp_dOrV, wp_kOrV, wp_kOrVb, wp_dNotV, wp_kNotV, wp_kNotVb, wp_dIf, wp_kIf, wp_dChain, wp_kCh, wp_kCh2, wp_kCh3, wp_aNil, wp_aCons, wp_kCons, wp_kCons2, wp_dTup, wp_kTup, wp_dLst, wp_kLst, wp_dN, wp_kN, wp_dLs, wp_kLs, wp_lDisp, wp_kDisp, wp_lRng, wp_kRng, wp_dItR, wp_kItR, wp_dItS, wp_kItS, wp_tTrue, wp_oNo, wp_oSome, wp_kSome, wp_dSl, wp_kSl, wp_kSl1, wp_kSl2, ws_ret, ws_kRet, ws_expr, ws_kExpr, ws_if, ws_kIfS, ws_set, ws_kSet, ws_setO, ws_kSetO, ws_kSetT, ws_setR, ws_kSetR0, ws_kSetR1, ws_kSetR2, items_t, items_ft, items_l, items_r, setAll, Bool.not_true, Bool.not_false, if_true, ite_true, ite_false, ↓reduceIte, Bool.false_eq_true, Int.reduceLT, Int.reduceLE, Nat.reduceLT, Nat.reduceLeDiff, Nat.reducePow, Int.reducePow, Int.reduceToNat, Int.reduceNeg, Int.reduceSub, Int.reduceAdd, and_self, and_true, true_and, decide_eq_true_eq, decide_true, decide_false, List.length_map, ixN_31, ixN_32, ixN_30, wipeE, restE, lcQ, Option.getD_some, add_i, add_t, add_l, sub_i, mul_i, mul_t, mul_l, fdiv_i, mod_i, pow_18, neg_i, lt_i, le_i, gt_i, ge_i, eq_i, ne_i, eq_b, len_t, len_ft, len_l, len_r, abs_i, int_i, list_t, list_ft, list_l, list_r, tuple_t, tuple_ft, tuple_l, isi_i, isi_b, isi_s, isi_t, isi_ft, isi_l, isi_r, isi_n, tru_b, tru_i, tru_t, tru_ft, tru_l, tru_n, isN_n, isN_b, isN_i, isN_s, isN_t, isN_l, ix_t, ix_ft, ix_l, ix_r, ix_ref, setS_ref, atI_0, atI_1, atI_2, Option.map_some, Option.map_none, kb0, kb1, kb2, kb3, kb4, kb5, kb6, kb7, kb8, kb9, kb10, kb11, kb12, kb13, kb14, kb15, kb16, kb17, kb18, kb19, kb20, kb21, kb22, kb23, kb24, kb25, kb26, kb27, kb28, kb29, sz0, szl0, sz1, szl1, sz2, szl2, sz3, szl3, sz4, szl4, sz5, szl5, sz6, szl6, sz7, szl7, sz8, szl8, sz9, szl9, sz10, szl10, sz11, szl11, sz12, szl12, sz13, szl13, sz14, szl14, sz15, szl15, sz16, szl16, sz17, szl17, sz18, szl18, sz19, szl19, sz20, szl20, sz21, szl21, sz22, szl22, sz23, szl23, sz24, szl24, sz25, szl25, sz26, szl26, sz27, szl27, sz28, szl28, sz29, szl29, sz30, szl30, sz31, szl31, sz32, szl32, sz33, szl33, sz34, szl34, sz35, szl35, sz36, szl36, sz37, szl37, sz38, szl38, sz39, szl39, sz40, szl40]
  rw [e]
  simp only [List.map, List.replicate, List.cons_append, List.nil_append, List.length_cons, List.length_nil, Nat.reduceAdd, bq_ok, bq_ex, wp_pure, wp_fail, wp_getS, oQ_some, oQ_ite, bqS_ok, bqS_ex, sqS_nx, sqS_rt, sqS_bk, sqS_ct, sqS_ex, wpS_next, wpS_break, wpS_cont, wpS_retN, wpS_setT, stQ_some, wp_C, wp_call, wp_callv, bqF_ok, bqF_ex, wp_new, wp_newv, fqS_nx, fqS_rt, fqS_ex, wpS_for, wp_comp, wp_dVar, vQ_v, vQ_o, List.getElem?_cons_zero, List.getElem?_cons_succ, List.set_cons_zero, List.set_cons_succ, wp_d1, wp_k1, wp_d2, wp_k2, wp_k2b, wp_dT, wp_kT, wp_dTru, wp_kTru, wp_dNotT, wp_kNot, wp_dAndT, wp_kAnd, wp_dOrT, wp_kOr, wp_dAndV, wp_kAndV, wp_kAndVb, wp_dOrV, wp_kOrV, wp_kOrVb, wp_dNotV, wp_kNotV, wp_kNotVb, wp_dIf, wp_kIf, wp_dChain, wp_kCh, wp_kCh2, wp_kCh3, wp_aNil, wp_aCons, wp_kCons, wp_kCons2, wp_dTup, wp_kTup, wp_dLst, wp_kLst, wp_dN, wp_kN, wp_dLs, wp_kLs, wp_lDisp, wp_kDisp, wp_lRng, wp_kRng, wp_dItR, wp_kItR, wp_dItS, wp_kItS, wp_tTrue, wp_oNo, wp_oSome, wp_kSome, wp_dSl, wp_kSl, wp_kSl1, wp_kSl2, ws_ret, ws_kRet, ws_expr, ws_kExpr, ws_if, ws_kIfS, ws_set, ws_kSet, ws_setO, ws_kSetO, ws_kSetT, ws_setR, ws_kSetR0, ws_kSetR1, ws_kSetR2, items_t, items_ft, items_l, items_r, setAll, Bool.not_true, Bool.not_false, if_true, ite_true, ite_false, ↓reduceIte, Bool.false_eq_true, Int.reduceLT, Int.reduceLE, Nat.reduceLT, Nat.reduceLeDiff, Nat.reducePow, Int.reducePow, Int.reduceToNat, Int.reduceNeg, Int.reduceSub, Int.reduceAdd, and_self, and_true, true_and, decide_eq_true_eq, decide_true, decide_false, List.length_map, ixN_31, ixN_32, ixN_30, wipeE, restE, lcQ, Option.getD_some, add_i, add_t, add_l, sub_i, mul_i, mul_t, mul_l, fdiv_i, mod_i, pow_18, neg_i, lt_i, le_i, gt_i, ge_i, eq_i, ne_i, eq_b, len_t, len_ft, len_l, len_r, abs_i, int_i, list_t, list_ft, list_l, list_r, tuple_t, tuple_ft, tuple_l, isi_i, isi_b, isi_s, isi_t, isi_ft, isi_l, isi_r, isi_n, tru_b, tru_i, tru_t, tru_ft, tru_l, tru_n, isN_n, isN_b, isN_i, isN_s, isN_t, isN_l, ix_t, ix_ft, ix_l, ix_r, ix_ref, setS_ref, atI_0, atI_1, atI_2, Option.map_some, Option.map_none, kb0, kb1, kb2, kb3, kb4, kb5, kb6, kb7, kb8, kb9, kb10, kb11, kb12, kb13, kb14, kb15, kb16, kb17, kb18, kb19, kb20, kb21, kb22, kb23, kb24, kb25, kb26, kb27, kb28, kb29, sz0, szl0, sz1, szl1, sz2, szl2, sz3, szl3, sz4, szl4, sz5, szl5, sz6, szl6, sz7, szl7, sz8, szl8, sz9, szl9, sz10, szl10, sz11, szl11, sz12, szl12, sz13, szl13, sz14, szl14, sz15, szl15, sz16, szl16, sz17, szl17, sz18, szl18, sz19, szl19, sz20, szl20, sz21, szl21, sz22, szl22, sz23, szl23, sz24, szl24, sz25, szl25, sz26, szl26, sz27, szl27, sz28, szl28, sz29, szl29, sz30, szl30, sz31, szl31, sz32, szl32, sz33, szl33, sz34, szl34, sz35, szl35, sz36, szl36, sz37, szl37, sz38, szl38, sz39, szl39, sz40, szl40]
  exact h
end
end Dn
end
section
set_option Elab.async false
set_option linter.all false
set_option maxRecDepth 100000
set_option maxHeartbeats 1000000
namespace Dn
open PySem L2
section
variable {S : Stor}
theorem wpS_raise2 {n f g : Str} {d : Den (List PV)} {e : DEnv} {Q : OutS → Prop} : wpS (sRaise2 n f g d) e S Q = wp d e S (bqS (kRaise2 n f g) Q) := wpS_sE
theorem wpS_kRaise2 {n f g : Str} {e : DEnv} {Q : OutS → Prop} {p q : PV} : wpS (kRaise2 n f g [p, q]) e S Q = Q (.ex ⟨n, [(g, q), (f, p)]⟩ e S) := id rfl
def TE (i : Int) (w : Str) : Exc := ⟨"TextError", [("words", .str w), ("column", .int i)]⟩
def stL : List Nat := [115, 116, 97, 114, 116]
theorem st_tx : ("start" : Str) = tx stL := by kernel_rfl
theorem sg_tx : (";" : Str) = tx [59] := by kernel_rfl
def Low (l : List Nat) : Prop := ∀ c ∈ l, c < 128
theorem low_ok {l : List Nat} (h : Low l) : PyData.canLay0 (.str (tx l)) = true := by
  show PyData.strOk (tx l) = true
  unfold PyData.strOk tx
  simp
  intro c hc
  have := h c hc
  omega
theorem beq_tx {a b : List Nat} : (tx a == tx b) = (a == b) := by
  rw [Bool.eq_iff_iff]
  simp only [beq_iff_eq]
  exact ⟨tx_inj, fun h => by rw [h]⟩
theorem eq_tx {a b : List Nat} (ha : Low a) (hb : Low b) : eqP S (.str (tx a)) (.str (tx b)) = some (.bl (a == b)) := by
  rw [eq_s (low_ok ha) (low_ok hb), beq_tx]
/-- what token_at answers where c begins; d the digits from there -/
def tokQ (i : Nat) (c : Nat) (r d : List Nat) (S : Stor) (Q : OutF → Prop) : Prop :=
  if c = 59 then Q (.ok (.tup [.str "sign", .str (tx [c]), .int (i + 1)]) S)
  else if letB c = true then Q (.ok (.tup [.str "letter", .str (tx [c]), .int (i + 1)]) S)
  else if (c :: r).take 5 = stL then Q (.ok (.tup [.str "word", .str "start", .int (i + 1)]) S)
  else if d = [] then Q (.ex (TE (i + 1) "no token begins here") S)
  else if 6 < d.length then Q (.ex (TE (i + 1) "a number has at most 6 digits") S)
  else Q (.ok (.tup [.str "number", .str (tx d), .int (i + 1)]) S)
theorem wp_token_at {a : List Nat} {c : Nat} {r d r' : List Nat} {Q : OutF → Prop} (hl : (a ++ c :: r).length ≤ 1000) (hlow : Low (a ++ c :: r)) (hcr : c :: r = d ++ r') (hd : ∀ x ∈ d, digB x = true) (hr : NoDig r') (h : tokQ a.length c r d S Q) :
    wpF d_token_at_v2 [.str (tx (a ++ c :: r)), .int a.length] S Q := by
  have hs : (a ++ c :: r).length ≤ sizeLine := by rw [sizeLine_eq]; omega
  have e4 : ixP S (.str (tx (a ++ c :: r))) (.int a.length) = some (.str (tx [c])) := ix_tx rfl hs
  have lc : Low [c] := fun x hx => hlow x (by rw [List.mem_singleton.mp hx]; simp)
  have l5 : Low ((c :: r).take 5) := fun x hx => hlow x (List.mem_append_right _ (List.mem_of_mem_take hx))
  have ld : Low d := fun x hx => hlow x (List.mem_append_right _ (by rw [hcr]; exact List.mem_append_left _ hx))
  have e5 : slP (.str (tx (a ++ c :: r))) (some (a.length : Int)) (some ((a.length : Int) + 5)) = some (.str (tx ((c :: r).take 5))) := sl_tx rfl (by simp) hs
  have esg : eqP S (.str (tx [c])) (.str ";") = some (.bl ([c] == [59])) := by rw [sg_tx]; exact eq_tx lc (fun x hx => by rw [List.mem_singleton.mp hx]; decide)
  have est : eqP S (.str (tx ((c :: r).take 5))) (.str "start") = some (.bl ((c :: r).take 5 == stL)) := by rw [st_tx]; exact eq_tx l5 (by unfold Low stL; decide)
  have enil : eqP S (.str (tx d)) (.str "") = some (.bl (d == [])) := by rw [tx_nil]; exact eq_tx ld (fun x hx => nomatch hx)
  have elen : lenP S [.str "start"] = some (.int 5) := by rw [st_tx, len_tx (by rw [sizeLine_eq]; decide)]; rfl
  have hdl : d.length ≤ (c :: r).length := by rw [hcr]; simp
  have eld : lenP S [.str (tx d)] = some (.int d.length) := len_tx (by rw [sizeLine_eq]; simp at hl hdl; omega)
  unfold tokQ at h
  unfold d_token_at_v2
  refine wpF_go rfl ?_
  simp only [List.map, List.replicate, List.cons_append, List.nil_append, List.length_cons, List.length_nil, Nat.reduceAdd, bq_ok, bq_ex, wp_pure, wp_fail, wp_getS, oQ_some, oQ_ite, bqS_ok, bqS_ex, wpS_seq, sqS_nx, sqS_rt, sqS_bk, sqS_ct, sqS_ex, wpS_next, wpS_break, wpS_cont, wpS_retN, wpS_setT, stQ_some, wp_C, wp_call, wp_callv, bqF_ok, bqF_ex, wp_new, wp_newv, fqS_nx, fqS_rt, fqS_ex, wpS_for, wp_comp, wp_dVar, vQ_v, vQ_o, List.getElem?_cons_zero, List.getElem?_cons_succ, List.set_cons_zero, List.set_cons_succ, wp_d1, wp_k1, wp_d2, wp_k2, wp_k2b, wp_dT, wp_kT, wp_dTru, wp_kTru, wp_dNotT, wp_kNot, wp_dAndT, wp_kAnd, wp_dOrT, wp_kOr, wp_dAndV, wp_kAndV, wp_kAndVb, wp_dOrV, wp_kOrV, wp_kOrVb, wp_dNotV, wp_kNotV, wp_kNotVb, wp_dIf, wp_kIf, wp_dChain, wp_kCh, wp_kCh2, wp_kCh3, wp_aNil, wp_aCons, wp_kCons, wp_kCons2, wp_dTup, wp_kTup, wp_dLst, wp_kLst, wp_dN, wp_kN, wp_dLs, wp_kLs, wp_lDisp, wp_kDisp, wp_lRng, wp_kRng, wp_dItR, wp_kItR, wp_dItS, wp_kItS, wp_tTrue, wp_oNo, wp_oSome, wp_kSome, wp_dSl, wp_kSl, wp_kSl1, wp_kSl2, ws_ret, ws_kRet, ws_expr, ws_kExpr, ws_if, ws_kIfS, ws_set, ws_kSet, ws_setO, ws_kSetO, ws_kSetT, ws_setR, ws_kSetR0, ws_kSetR1, ws_kSetR2, items_t, items_ft, items_l, items_r, setAll, Bool.not_true, Bool.not_false, if_true, ite_true, ite_false, ↓reduceIte, Bool.false_eq_true, Int.reduceLT, Int.reduceLE, Nat.reduceLT, Nat.reduceLeDiff, Nat.reducePow, Int.reducePow, Int.reduceToNat, Int.reduceNeg, Int.reduceSub, Int.reduceAdd, and_self, and_true, true_and, decide_eq_true_eq, decide_true, decide_false, List.length_map, ixN_31, ixN_32, ixN_30, wipeE, restE, lcQ, Option.getD_some, add_i, add_t, add_l, sub_i, mul_i, mul_t, mul_l, fdiv_i, mod_i, pow_18, neg_i, lt_i, le_i, gt_i, ge_i, eq_i, ne_i, eq_b, len_t, len_ft, len_l, len_r, abs_i, int_i, list_t, list_ft, list_l, list_r, tuple_t, tuple_ft, tuple_l, isi_i, isi_b, isi_s, isi_t, isi_ft, isi_l, isi_r, isi_n, tru_b, tru_i, tru_t, tru_ft, tru_l, tru_n, isN_n, isN_b, isN_i, isN_s, isN_t, isN_l, ix_t, ix_ft, ix_l, ix_r, ix_ref, setS_ref, atI_0, atI_1, atI_2, Option.map_some, Option.map_none, kb0, kb1, kb2, kb3, kb4, kb5, kb6, kb7, kb8, kb9, kb10, kb11, kb12, kb13, kb14, kb15, kb16, kb17, kb18, kb19, kb20, kb21, kb22, kb23, kb24, kb25, kb26, kb27, kb28, kb29, sz0, szl0, sz1, szl1, sz2, szl2, sz3, szl3, sz4, szl4, sz5, szl5, sz6, szl6, sz7, szl7, sz8, szl8, sz9, szl9, sz10, szl10, sz11, szl11, sz12, szl12, sz13, szl13, sz14, szl14, sz15, szl15, sz16, szl16, sz17, szl17, sz18, szl18, sz19, szl19, sz20, szl20, sz21, szl21, sz22, szl22, sz23, szl23, sz24, szl24, sz25, szl25, sz26, szl26, sz27, szl27, sz28, szl28, sz29, szl29, sz30, szl30, sz31, szl31, sz32, szl32, sz33, szl33, sz34, szl34, sz35, szl35, sz36, szl36, sz37, szl37, sz38, szl38, sz39, szl39, sz40, szl40, e4, esg, in_let]
  by_cases h1 : c = 59
  · rw [if_pos h1] at h
    have : ([c] == [59]) = true := by rw [h1]; rfl
    simp only [List.map, List.replicate, List.cons_append, List.nil_append, List.length_cons, List.length_nil, Nat.reduceAdd, bq_ok, bq_ex, wp_pure, wp_fail, wp_getS, oQ_some, oQ_ite, bqS_ok, bqS_ex, wpS_seq, sqS_nx, sqS_rt, sqS_bk, sqS_ct, sqS_ex, wpS_next, wpS_break, wpS_cont, wpS_retN, wpS_setT, stQ_some, wp_C, wp_call, wp_callv, bqF_ok, bqF_ex, wp_new, wp_newv, fqS_nx, fqS_rt, fqS_ex, wpS_for, wp_comp, wp_dVar, vQ_v, vQ_o, List.getElem?_cons_zero, List.getElem?_cons_succ, List.set_cons_zero, List.set_cons_succ, wp_d1, wp_k1, wp_d2, wp_k2, wp_k2b, wp_dT, wp_kT, wp_dTru, wp_kTru, wp_dNotT, wp_kNot, wp_dAndT, wp_kAnd, wp_dOrT, wp_kOr, wp_dAndV, wp_kAndV, wp_kAndVb, wp_dOrV, wp_kOrV, wp_kOrVb, wp_dNotV, wp_kNotV, wp_kNotVb, wp_dIf, wp_kIf, wp_dChain, wp_kCh, wp_kCh2, wp_kCh3, wp_aNil, wp_aCons, wp_kCons, wp_kCons2, wp_dTup, wp_kTup, wp_dLst, wp_kLst, wp_dN, wp_kN, wp_dLs, wp_kLs, wp_lDisp, wp_kDisp, wp_lRng, wp_kRng, wp_dItR, wp_kItR, wp_dItS, wp_kItS, wp_tTrue, wp_oNo, wp_oSome, wp_kSome, wp_dSl, wp_kSl, wp_kSl1, wp_kSl2, ws_ret, ws_kRet, ws_expr, ws_kExpr, ws_if, ws_kIfS, ws_set, ws_kSet, ws_setO, ws_kSetO, ws_kSetT, ws_setR, ws_kSetR0, ws_kSetR1, ws_kSetR2, items_t, items_ft, items_l, items_r, setAll, Bool.not_true, Bool.not_false, if_true, ite_true, ite_false, ↓reduceIte, Bool.false_eq_true, Int.reduceLT, Int.reduceLE, Nat.reduceLT, Nat.reduceLeDiff, Nat.reducePow, Int.reducePow, Int.reduceToNat, Int.reduceNeg, Int.reduceSub, Int.reduceAdd, and_self, and_true, true_and, decide_eq_true_eq, decide_true, decide_false, List.length_map, ixN_31, ixN_32, ixN_30, wipeE, restE, lcQ, Option.getD_some, add_i, add_t, add_l, sub_i, mul_i, mul_t, mul_l, fdiv_i, mod_i, pow_18, neg_i, lt_i, le_i, gt_i, ge_i, eq_i, ne_i, eq_b, len_t, len_ft, len_l, len_r, abs_i, int_i, list_t, list_ft, list_l, list_r, tuple_t, tuple_ft, tuple_l, isi_i, isi_b, isi_s, isi_t, isi_ft, isi_l, isi_r, isi_n, tru_b, tru_i, tru_t, tru_ft, tru_l, tru_n, isN_n, isN_b, isN_i, isN_s, isN_t, isN_l, ix_t, ix_ft, ix_l, ix_r, ix_ref, setS_ref, atI_0, atI_1, atI_2, Option.map_some, Option.map_none, kb0, kb1, kb2, kb3, kb4, kb5, kb6, kb7, kb8, kb9, kb10, kb11, kb12, kb13, kb14, kb15, kb16, kb17, kb18, kb19, kb20, kb21, kb22, kb23, kb24, kb25, kb26, kb27, kb28, kb29, sz0, szl0, sz1, szl1, sz2, szl2, sz3, szl3, sz4, szl4, sz5, szl5, sz6, szl6, sz7, szl7, sz8, szl8, sz9, szl9, sz10, szl10, sz11, szl11, sz12, szl12, sz13, szl13, sz14, szl14, sz15, szl15, sz16, szl16, sz17, szl17, sz18, szl18, sz19, szl19, sz20, szl20, sz21, szl21, sz22, szl22, sz23, szl23, sz24, szl24, sz25, szl25, sz26, szl26, sz27, szl27, sz28, szl28, sz29, szl29, sz30, szl30, sz31, szl31, sz32, szl32, sz33, szl33, sz34, szl34, sz35, szl35, sz36, szl36, sz37, szl37, sz38, szl38, sz39, szl39, sz40, szl40, this, e4]
    exact h
  rw [if_neg h1] at h
  have k1 : ([c] == [59]) = false := by simp [h1]
  simp only [List.map, List.replicate, List.cons_append, List.nil_append, List.length_cons, List.length_nil, Nat.reduceAdd, bq_ok, bq_ex, wp_pure, wp_fail, wp_getS, oQ_some, oQ_ite, bqS_ok, bqS_ex, wpS_seq, sqS_nx, sqS_rt, sqS_bk, sqS_ct, sqS_ex, wpS_next, wpS_break, wpS_cont, wpS_retN, wpS_setT, stQ_some, wp_C, wp_call, wp_callv, bqF_ok, bqF_ex, wp_new, wp_newv, fqS_nx, fqS_rt, fqS_ex, wpS_for, wp_comp, wp_dVar, vQ_v, vQ_o, List.getElem?_cons_zero, List.getElem?_cons_succ, List.set_cons_zero, List.set_cons_succ, wp_d1, wp_k1, wp_d2, wp_k2, wp_k2b, wp_dT, wp_kT, wp_dTru, wp_kTru, wp_dNotT, wp_kNot, wp_dAndT, wp_kAnd, wp_dOrT, wp_kOr, wp_dAndV, wp_kAndV, wp_kAndVb, wp_dOrV, wp_kOrV, wp_kOrVb, wp_dNotV, wp_kNotV, wp_kNotVb, wp_dIf, wp_kIf, wp_dChain, wp_kCh, wp_kCh2, wp_kCh3, wp_aNil, wp_aCons, wp_kCons, wp_kCons2, wp_dTup, wp_kTup, wp_dLst, wp_kLst, wp_dN, wp_kN, wp_dLs, wp_kLs, wp_lDisp, wp_kDisp, wp_lRng, wp_kRng, wp_dItR, wp_kItR, wp_dItS, wp_kItS, wp_tTrue, wp_oNo, wp_oSome, wp_kSome, wp_dSl, wp_kSl, wp_kSl1, wp_kSl2, ws_ret, ws_kRet, ws_expr, ws_kExpr, ws_if, ws_kIfS, ws_set, ws_kSet, ws_setO, ws_kSetO, ws_kSetT, ws_setR, ws_kSetR0, ws_kSetR1, ws_kSetR2, items_t, items_ft, items_l, items_r, setAll, Bool.not_true, Bool.not_false, if_true, ite_true, ite_false, ↓reduceIte, Bool.false_eq_true, Int.reduceLT, Int.reduceLE, Nat.reduceLT, Nat.reduceLeDiff, Nat.reducePow, Int.reducePow, Int.reduceToNat, Int.reduceNeg, Int.reduceSub, Int.reduceAdd, and_self, and_true, true_and, decide_eq_true_eq, decide_true, decide_false, List.length_map, ixN_31, ixN_32, ixN_30, wipeE, restE, lcQ, Option.getD_some, add_i, add_t, add_l, sub_i, mul_i, mul_t, mul_l, fdiv_i, mod_i, pow_18, neg_i, lt_i, le_i, gt_i, ge_i, eq_i, ne_i, eq_b, len_t, len_ft, len_l, len_r, abs_i, int_i, list_t, list_ft, list_l, list_r, tuple_t, tuple_ft, tuple_l, isi_i, isi_b, isi_s, isi_t, isi_ft, isi_l, isi_r, isi_n, tru_b, tru_i, tru_t, tru_ft, tru_l, tru_n, isN_n, isN_b, isN_i, isN_s, isN_t, isN_l, ix_t, ix_ft, ix_l, ix_r, ix_ref, setS_ref, atI_0, atI_1, atI_2, Option.map_some, Option.map_none, kb0, kb1, kb2, kb3, kb4, kb5, kb6, kb7, kb8, kb9, kb10, kb11, kb12, kb13, kb14, kb15, kb16, kb17, kb18, kb19, kb20, kb21, kb22, kb23, kb24, kb25, kb26, kb27, kb28, kb29, sz0, szl0, sz1, szl1, sz2, szl2, sz3, szl3, sz4, szl4, sz5, szl5, sz6, szl6, sz7, szl7, sz8, szl8, sz9, szl9, sz10, szl10, sz11, szl11, sz12, szl12, sz13, szl13, sz14, szl14, sz15, szl15, sz16, szl16, sz17, szl17, sz18, szl18, sz19, szl19, sz20, szl20, sz21, szl21, sz22, szl22, sz23, szl23, sz24, szl24, sz25, szl25, sz26, szl26, sz27, szl27, sz28, szl28, sz29, szl29, sz30, szl30, sz31, szl31, sz32, szl32, sz33, szl33, sz34, szl34, sz35, szl35, sz36, szl36, sz37, szl37, sz38, szl38, sz39, szl39, sz40, szl40, k1, e4, in_let]
  by_cases h2 : letB c = true
  · rw [if_pos h2] at h
    simp only [List.map, List.replicate, List.cons_append, List.nil_append, List.length_cons, List.length_nil, Nat.reduceAdd, bq_ok, bq_ex, wp_pure, wp_fail, wp_getS, oQ_some, oQ_ite, bqS_ok, bqS_ex, wpS_seq, sqS_nx, sqS_rt, sqS_bk, sqS_ct, sqS_ex, wpS_next, wpS_break, wpS_cont, wpS_retN, wpS_setT, stQ_some, wp_C, wp_call, wp_callv, bqF_ok, bqF_ex, wp_new, wp_newv, fqS_nx, fqS_rt, fqS_ex, wpS_for, wp_comp, wp_dVar, vQ_v, vQ_o, List.getElem?_cons_zero, List.getElem?_cons_succ, List.set_cons_zero, List.set_cons_succ, wp_d1, wp_k1, wp_d2, wp_k2, wp_k2b, wp_dT, wp_kT, wp_dTru, wp_kTru, wp_dNotT, wp_kNot, wp_dAndT, wp_kAnd, wp_dOrT, wp_kOr, wp_dAndV, wp_kAndV, wp_kAndVb, wp_dOrV, wp_kOrV, wp_kOrVb, wp_dNotV, wp_kNotV, wp_kNotVb, wp_dIf, wp_kIf, wp_dChain, wp_kCh, wp_kCh2, wp_kCh3, wp_aNil, wp_aCons, wp_kCons, wp_kCons2, wp_dTup, wp_kTup, wp_dLst, wp_kLst, wp_dN, wp_kN, wp_dLs, wp_kLs, wp_lDisp, wp_kDisp, wp_lRng, wp_kRng, wp_dItR, wp_kItR, wp_dItS, wp_kItS, wp_tTrue, wp_oNo, wp_oSome, wp_kSome, wp_dSl, wp_kSl, wp_kSl1, wp_kSl2, ws_ret, ws_kRet, ws_expr, ws_kExpr, ws_if, ws_kIfS, ws_set, ws_kSet, ws_setO, ws_kSetO, ws_kSetT, ws_setR, ws_kSetR0, ws_kSetR1, ws_kSetR2, items_t, items_ft, items_l, items_r, setAll, Bool.not_true, Bool.not_false, if_true, ite_true, ite_false, ↓reduceIte, Bool.false_eq_true, Int.reduceLT, Int.reduceLE, Nat.reduceLT, Nat.reduceLeDiff, Nat.reducePow, Int.reducePow, Int.reduceToNat, Int.reduceNeg, Int.reduceSub, Int.reduceAdd, and_self, and_true, true_and, decide_eq_true_eq, decide_true, decide_false, List.length_map, ixN_31, ixN_32, ixN_30, wipeE, restE, lcQ, Option.getD_some, add_i, add_t, add_l, sub_i, mul_i, mul_t, mul_l, fdiv_i, mod_i, pow_18, neg_i, lt_i, le_i, gt_i, ge_i, eq_i, ne_i, eq_b, len_t, len_ft, len_l, len_r, abs_i, int_i, list_t, list_ft, list_l, list_r, tuple_t, tuple_ft, tuple_l, isi_i, isi_b, isi_s, isi_t, isi_ft, isi_l, isi_r, isi_n, tru_b, tru_i, tru_t, tru_ft, tru_l, tru_n, isN_n, isN_b, isN_i, isN_s, isN_t, isN_l, ix_t, ix_ft, ix_l, ix_r, ix_ref, setS_ref, atI_0, atI_1, atI_2, Option.map_some, Option.map_none, kb0, kb1, kb2, kb3, kb4, kb5, kb6, kb7, kb8, kb9, kb10, kb11, kb12, kb13, kb14, kb15, kb16, kb17, kb18, kb19, kb20, kb21, kb22, kb23, kb24, kb25, kb26, kb27, kb28, kb29, sz0, szl0, sz1, szl1, sz2, szl2, sz3, szl3, sz4, szl4, sz5, szl5, sz6, szl6, sz7, szl7, sz8, szl8, sz9, szl9, sz10, szl10, sz11, szl11, sz12, szl12, sz13, szl13, sz14, szl14, sz15, szl15, sz16, szl16, sz17, szl17, sz18, szl18, sz19, szl19, sz20, szl20, sz21, szl21, sz22, szl22, sz23, szl23, sz24, szl24, sz25, szl25, sz26, szl26, sz27, szl27, sz28, szl28, sz29, szl29, sz30, szl30, sz31, szl31, sz32, szl32, sz33, szl33, sz34, szl34, sz35, szl35, sz36, szl36, sz37, szl37, sz38, szl38, sz39, szl39, sz40, szl40, h2, e4]
    exact h
  rw [if_neg h2] at h
  have k2 : letB c = false := by simpa using h2
  simp only [List.map, List.replicate, List.cons_append, List.nil_append, List.length_cons, List.length_nil, Nat.reduceAdd, bq_ok, bq_ex, wp_pure, wp_fail, wp_getS, oQ_some, oQ_ite, bqS_ok, bqS_ex, wpS_seq, sqS_nx, sqS_rt, sqS_bk, sqS_ct, sqS_ex, wpS_next, wpS_break, wpS_cont, wpS_retN, wpS_setT, stQ_some, wp_C, wp_call, wp_callv, bqF_ok, bqF_ex, wp_new, wp_newv, fqS_nx, fqS_rt, fqS_ex, wpS_for, wp_comp, wp_dVar, vQ_v, vQ_o, List.getElem?_cons_zero, List.getElem?_cons_succ, List.set_cons_zero, List.set_cons_succ, wp_d1, wp_k1, wp_d2, wp_k2, wp_k2b, wp_dT, wp_kT, wp_dTru, wp_kTru, wp_dNotT, wp_kNot, wp_dAndT, wp_kAnd, wp_dOrT, wp_kOr, wp_dAndV, wp_kAndV, wp_kAndVb, wp_dOrV, wp_kOrV, wp_kOrVb, wp_dNotV, wp_kNotV, wp_kNotVb, wp_dIf, wp_kIf, wp_dChain, wp_kCh, wp_kCh2, wp_kCh3, wp_aNil, wp_aCons, wp_kCons, wp_kCons2, wp_dTup, wp_kTup, wp_dLst, wp_kLst, wp_dN, wp_kN, wp_dLs, wp_kLs, wp_lDisp, wp_kDisp, wp_lRng, wp_kRng, wp_dItR, wp_kItR, wp_dItS, wp_kItS, wp_tTrue, wp_oNo, wp_oSome, wp_kSome, wp_dSl, wp_kSl, wp_kSl1, wp_kSl2, ws_ret, ws_kRet, ws_expr, ws_kExpr, ws_if, ws_kIfS, ws_set, ws_kSet, ws_setO, ws_kSetO, ws_kSetT, ws_setR, ws_kSetR0, ws_kSetR1, ws_kSetR2, items_t, items_ft, items_l, items_r, setAll, Bool.not_true, Bool.not_false, if_true, ite_true, ite_false, ↓reduceIte, Bool.false_eq_true, Int.reduceLT, Int.reduceLE, Nat.reduceLT, Nat.reduceLeDiff, Nat.reducePow, Int.reducePow, Int.reduceToNat, Int.reduceNeg, Int.reduceSub, Int.reduceAdd, and_self, and_true, true_and, decide_eq_true_eq, decide_true, decide_false, List.length_map, ixN_31, ixN_32, ixN_30, wipeE, restE, lcQ, Option.getD_some, add_i, add_t, add_l, sub_i, mul_i, mul_t, mul_l, fdiv_i, mod_i, pow_18, neg_i, lt_i, le_i, gt_i, ge_i, eq_i, ne_i, eq_b, len_t, len_ft, len_l, len_r, abs_i, int_i, list_t, list_ft, list_l, list_r, tuple_t, tuple_ft, tuple_l, isi_i, isi_b, isi_s, isi_t, isi_ft, isi_l, isi_r, isi_n, tru_b, tru_i, tru_t, tru_ft, tru_l, tru_n, isN_n, isN_b, isN_i, isN_s, isN_t, isN_l, ix_t, ix_ft, ix_l, ix_r, ix_ref, setS_ref, atI_0, atI_1, atI_2, Option.map_some, Option.map_none, kb0, kb1, kb2, kb3, kb4, kb5, kb6, kb7, kb8, kb9, kb10, kb11, kb12, kb13, kb14, kb15, kb16, kb17, kb18, kb19, kb20, kb21, kb22, kb23, kb24, kb25, kb26, kb27, kb28, kb29, sz0, szl0, sz1, szl1, sz2, szl2, sz3, szl3, sz4, szl4, sz5, szl5, sz6, szl6, sz7, szl7, sz8, szl8, sz9, szl9, sz10, szl10, sz11, szl11, sz12, szl12, sz13, szl13, sz14, szl14, sz15, szl15, sz16, szl16, sz17, szl17, sz18, szl18, sz19, szl19, sz20, szl20, sz21, szl21, sz22, szl22, sz23, szl23, sz24, szl24, sz25, szl25, sz26, szl26, sz27, szl27, sz28, szl28, sz29, szl29, sz30, szl30, sz31, szl31, sz32, szl32, sz33, szl33, sz34, szl34, sz35, szl35, sz36, szl36, sz37, szl37, sz38, szl38, sz39, szl39, sz40, szl40, k2, elen, e5, est]
  by_cases h3 : (c :: r).take 5 = stL
  · rw [if_pos h3] at h
    have k3 : ((c :: r).take 5 == stL) = true := by rw [h3]; exact beq_self_eq_true _
    simp only [List.map, List.replicate, List.cons_append, List.nil_append, List.length_cons, List.length_nil, Nat.reduceAdd, bq_ok, bq_ex, wp_pure, wp_fail, wp_getS, oQ_some, oQ_ite, bqS_ok, bqS_ex, wpS_seq, sqS_nx, sqS_rt, sqS_bk, sqS_ct, sqS_ex, wpS_next, wpS_break, wpS_cont, wpS_retN, wpS_setT, stQ_some, wp_C, wp_call, wp_callv, bqF_ok, bqF_ex, wp_new, wp_newv, fqS_nx, fqS_rt, fqS_ex, wpS_for, wp_comp, wp_dVar, vQ_v, vQ_o, List.getElem?_cons_zero, List.getElem?_cons_succ, List.set_cons_zero, List.set_cons_succ, wp_d1, wp_k1, wp_d2, wp_k2, wp_k2b, wp_dT, wp_kT, wp_dTru, wp_kTru, wp_dNotT, wp_kNot, wp_dAndT, wp_kAnd, wp_dOrT, wp_kOr, wp_dAndV, wp_kAndV, wp_kAndVb, wp_dOrV, wp_kOrV, wp_kOrVb, wp_dNotV, wp_kNotV, wp_kNotVb, wp_dIf, wp_kIf, wp_dChain, wp_kCh, wp_kCh2, wp_kCh3, wp_aNil, wp_aCons, wp_kCons, wp_kCons2, wp_dTup, wp_kTup, wp_dLst, wp_kLst, wp_dN, wp_kN, wp_dLs, wp_kLs, wp_lDisp, wp_kDisp, wp_lRng, wp_kRng, wp_dItR, wp_kItR, wp_dItS, wp_kItS, wp_tTrue, wp_oNo, wp_oSome, wp_kSome, wp_dSl, wp_kSl, wp_kSl1, wp_kSl2, ws_ret, ws_kRet, ws_expr, ws_kExpr, ws_if, ws_kIfS, ws_set, ws_kSet, ws_setO, ws_kSetO, ws_kSetT, ws_setR, ws_kSetR0, ws_kSetR1, ws_kSetR2, items_t, items_ft, items_l, items_r, setAll, Bool.not_true, Bool.not_false, if_true, ite_true, ite_false, ↓reduceIte, Bool.false_eq_true, Int.reduceLT, Int.reduceLE, Nat.reduceLT, Nat.reduceLeDiff, Nat.reducePow, Int.reducePow, Int.reduceToNat, Int.reduceNeg, Int.reduceSub, Int.reduceAdd, and_self, and_true, true_and, decide_eq_true_eq, decide_true, decide_false, List.length_map, ixN_31, ixN_32, ixN_30, wipeE, restE, lcQ, Option.getD_some, add_i, add_t, add_l, sub_i, mul_i, mul_t, mul_l, fdiv_i, mod_i, pow_18, neg_i, lt_i, le_i, gt_i, ge_i, eq_i, ne_i, eq_b, len_t, len_ft, len_l, len_r, abs_i, int_i, list_t, list_ft, list_l, list_r, tuple_t, tuple_ft, tuple_l, isi_i, isi_b, isi_s, isi_t, isi_ft, isi_l, isi_r, isi_n, tru_b, tru_i, tru_t, tru_ft, tru_l, tru_n, isN_n, isN_b, isN_i, isN_s, isN_t, isN_l, ix_t, ix_ft, ix_l, ix_r, ix_ref, setS_ref, atI_0, atI_1, atI_2, Option.map_some, Option.map_none, kb0, kb1, kb2, kb3, kb4, kb5, kb6, kb7, kb8, kb9, kb10, kb11, kb12, kb13, kb14, kb15, kb16, kb17, kb18, kb19, kb20, kb21, kb22, kb23, kb24, kb25, kb26, kb27, kb28, kb29, sz0, szl0, sz1, szl1, sz2, szl2, sz3, szl3, sz4, szl4, sz5, szl5, sz6, szl6, sz7, szl7, sz8, szl8, sz9, szl9, sz10, szl10, sz11, szl11, sz12, szl12, sz13, szl13, sz14, szl14, sz15, szl15, sz16, szl16, sz17, szl17, sz18, szl18, sz19, szl19, sz20, szl20, sz21, szl21, sz22, szl22, sz23, szl23, sz24, szl24, sz25, szl25, sz26, szl26, sz27, szl27, sz28, szl28, sz29, szl29, sz30, szl30, sz31, szl31, sz32, szl32, sz33, szl33, sz34, szl34, sz35, szl35, sz36, szl36, sz37, szl37, sz38, szl38, sz39, szl39, sz40, szl40, k3]
    exact h
  rw [if_neg h3] at h
  have k3 : ((c :: r).take 5 == stL) = false := by simpa using h3
  simp only [List.map, List.replicate, List.cons_append, List.nil_append, List.length_cons, List.length_nil, Nat.reduceAdd, bq_ok, bq_ex, wp_pure, wp_fail, wp_getS, oQ_some, oQ_ite, bqS_ok, bqS_ex, wpS_seq, sqS_nx, sqS_rt, sqS_bk, sqS_ct, sqS_ex, wpS_next, wpS_break, wpS_cont, wpS_retN, wpS_setT, stQ_some, wp_C, wp_call, wp_callv, bqF_ok, bqF_ex, wp_new, wp_newv, fqS_nx, fqS_rt, fqS_ex, wpS_for, wp_comp, wp_dVar, vQ_v, vQ_o, List.getElem?_cons_zero, List.getElem?_cons_succ, List.set_cons_zero, List.set_cons_succ, wp_d1, wp_k1, wp_d2, wp_k2, wp_k2b, wp_dT, wp_kT, wp_dTru, wp_kTru, wp_dNotT, wp_kNot, wp_dAndT, wp_kAnd, wp_dOrT, wp_kOr, wp_dAndV, wp_kAndV, wp_kAndVb, wp_dOrV, wp_kOrV, wp_kOrVb, wp_dNotV, wp_kNotV, wp_kNotVb, wp_dIf, wp_kIf, wp_dChain, wp_kCh, wp_kCh2, wp_kCh3, wp_aNil, wp_aCons, wp_kCons, wp_kCons2, wp_dTup, wp_kTup, wp_dLst, wp_kLst, wp_dN, wp_kN, wp_dLs, wp_kLs, wp_lDisp, wp_kDisp, wp_lRng, wp_kRng, wp_dItR, wp_kItR, wp_dItS, wp_kItS, wp_tTrue, wp_oNo, wp_oSome, wp_kSome, wp_dSl, wp_kSl, wp_kSl1, wp_kSl2, ws_ret, ws_kRet, ws_expr, ws_kExpr, ws_if, ws_kIfS, ws_set, ws_kSet, ws_setO, ws_kSetO, ws_kSetT, ws_setR, ws_kSetR0, ws_kSetR1, ws_kSetR2, items_t, items_ft, items_l, items_r, setAll, Bool.not_true, Bool.not_false, if_true, ite_true, ite_false, ↓reduceIte, Bool.false_eq_true, Int.reduceLT, Int.reduceLE, Nat.reduceLT, Nat.reduceLeDiff, Nat.reducePow, Int.reducePow, Int.reduceToNat, Int.reduceNeg, Int.reduceSub, Int.reduceAdd, and_self, and_true, true_and, decide_eq_true_eq, decide_true, decide_false, List.length_map, ixN_31, ixN_32, ixN_30, wipeE, restE, lcQ, Option.getD_some, add_i, add_t, add_l, sub_i, mul_i, mul_t, mul_l, fdiv_i, mod_i, pow_18, neg_i, lt_i, le_i, gt_i, ge_i, eq_i, ne_i, eq_b, len_t, len_ft, len_l, len_r, abs_i, int_i, list_t, list_ft, list_l, list_r, tuple_t, tuple_ft, tuple_l, isi_i, isi_b, isi_s, isi_t, isi_ft, isi_l, isi_r, isi_n, tru_b, tru_i, tru_t, tru_ft, tru_l, tru_n, isN_n, isN_b, isN_i, isN_s, isN_t, isN_l, ix_t, ix_ft, ix_l, ix_r, ix_ref, setS_ref, atI_0, atI_1, atI_2, Option.map_some, Option.map_none, kb0, kb1, kb2, kb3, kb4, kb5, kb6, kb7, kb8, kb9, kb10, kb11, kb12, kb13, kb14, kb15, kb16, kb17, kb18, kb19, kb20, kb21, kb22, kb23, kb24, kb25, kb26, kb27, kb28, kb29, sz0, szl0, sz1, szl1, sz2, szl2, sz3, szl3, sz4, szl4, sz5, szl5, sz6, szl6, sz7, szl7, sz8, szl8, sz9, szl9, sz10, szl10, sz11, szl11, sz12, szl12, sz13, szl13, sz14, szl14, sz15, szl15, sz16, szl16, sz17, szl17, sz18, szl18, sz19, szl19, sz20, szl20, sz21, szl21, sz22, szl22, sz23, szl23, sz24, szl24, sz25, szl25, sz26, szl26, sz27, szl27, sz28, szl28, sz29, szl29, sz30, szl30, sz31, szl31, sz32, szl32, sz33, szl33, sz34, szl34, sz35, szl35, sz36, szl36, sz37, szl37, sz38, szl38, sz39, szl39, sz40, szl40, k3]
  have en : ∀ {Q : OutF → Prop}, Q (.ok (.str (tx d)) S) → wpF d_number_at_v2 [.str (tx (a ++ c :: r)), .int a.length] S Q := fun hq => by
    rw [hcr] at hl ⊢
    exact wp_number_at hl hd hr hq
  refine en ?_
  simp only [List.map, List.replicate, List.cons_append, List.nil_append, List.length_cons, List.length_nil, Nat.reduceAdd, bq_ok, bq_ex, wp_pure, wp_fail, wp_getS, oQ_some, oQ_ite, bqS_ok, bqS_ex, wpS_seq, sqS_nx, sqS_rt, sqS_bk, sqS_ct, sqS_ex, wpS_next, wpS_break, wpS_cont, wpS_retN, wpS_setT, stQ_some, wp_C, wp_call, wp_callv, bqF_ok, bqF_ex, wp_new, wp_newv, fqS_nx, fqS_rt, fqS_ex, wpS_for, wp_comp, wp_dVar, vQ_v, vQ_o, List.getElem?_cons_zero, List.getElem?_cons_succ, List.set_cons_zero, List.set_cons_succ, wp_d1, wp_k1, wp_d2, wp_k2, wp_k2b, wp_dT, wp_kT, wp_dTru, wp_kTru, wp_dNotT, wp_kNot, wp_dAndT, wp_kAnd, wp_dOrT, wp_kOr, wp_dAndV, wp_kAndV, wp_kAndVb, wp_dOrV, wp_kOrV, wp_kOrVb, wp_dNotV, wp_kNotV, wp_kNotVb, wp_dIf, wp_kIf, wp_dChain, wp_kCh, wp_kCh2, wp_kCh3, wp_aNil, wp_aCons, wp_kCons, wp_kCons2, wp_dTup, wp_kTup, wp_dLst, wp_kLst, wp_dN, wp_kN, wp_dLs, wp_kLs, wp_lDisp, wp_kDisp, wp_lRng, wp_kRng, wp_dItR, wp_kItR, wp_dItS, wp_kItS, wp_tTrue, wp_oNo, wp_oSome, wp_kSome, wp_dSl, wp_kSl, wp_kSl1, wp_kSl2, ws_ret, ws_kRet, ws_expr, ws_kExpr, ws_if, ws_kIfS, ws_set, ws_kSet, ws_setO, ws_kSetO, ws_kSetT, ws_setR, ws_kSetR0, ws_kSetR1, ws_kSetR2, items_t, items_ft, items_l, items_r, setAll, Bool.not_true, Bool.not_false, if_true, ite_true, ite_false, ↓reduceIte, Bool.false_eq_true, Int.reduceLT, Int.reduceLE, Nat.reduceLT, Nat.reduceLeDiff, Nat.reducePow, Int.reducePow, Int.reduceToNat, Int.reduceNeg, Int.reduceSub, Int.reduceAdd, and_self, and_true, true_and, decide_eq_true_eq, decide_true, decide_false, List.length_map, ixN_31, ixN_32, ixN_30, wipeE, restE, lcQ, Option.getD_some, add_i, add_t, add_l, sub_i, mul_i, mul_t, mul_l, fdiv_i, mod_i, pow_18, neg_i, lt_i, le_i, gt_i, ge_i, eq_i, ne_i, eq_b, len_t, len_ft, len_l, len_r, abs_i, int_i, list_t, list_ft, list_l, list_r, tuple_t, tuple_ft, tuple_l, isi_i, isi_b, isi_s, isi_t, isi_ft, isi_l, isi_r, isi_n, tru_b, tru_i, tru_t, tru_ft, tru_l, tru_n, isN_n, isN_b, isN_i, isN_s, isN_t, isN_l, ix_t, ix_ft, ix_l, ix_r, ix_ref, setS_ref, atI_0, atI_1, atI_2, Option.map_some, Option.map_none, kb0, kb1, kb2, kb3, kb4, kb5, kb6, kb7, kb8, kb9, kb10, kb11, kb12, kb13, kb14, kb15, kb16, kb17, kb18, kb19, kb20, kb21, kb22, kb23, kb24, kb25, kb26, kb27, kb28, kb29, sz0, szl0, sz1, szl1, sz2, szl2, sz3, szl3, sz4, szl4, sz5, szl5, sz6, szl6, sz7, szl7, sz8, szl8, sz9, szl9, sz10, szl10, sz11, szl11, sz12, szl12, sz13, szl13, sz14, szl14, sz15, szl15, sz16, szl16, sz17, szl17, sz18, szl18, sz19, szl19, sz20, szl20, sz21, szl21, sz22, szl22, sz23, szl23, sz24, szl24, sz25, szl25, sz26, szl26, sz27, szl27, sz28, szl28, sz29, szl29, sz30, szl30, sz31, szl31, sz32, szl32, sz33, szl33, sz34, szl34, sz35, szl35, sz36, szl36, sz37, szl37, sz38, szl38, sz39, szl39, sz40, szl40, enil]
  by_cases h4 : d = []
  · rw [if_pos h4] at h
    have k4 : (d == []) = true := by rw [h4]; rfl
    simp only [List.map, List.replicate, List.cons_append, List.nil_append, List.length_cons, List.length_nil, Nat.reduceAdd, bq_ok, bq_ex, wp_pure, wp_fail, wp_getS, oQ_some, oQ_ite, bqS_ok, bqS_ex, wpS_seq, sqS_nx, sqS_rt, sqS_bk, sqS_ct, sqS_ex, wpS_next, wpS_break, wpS_cont, wpS_retN, wpS_setT, stQ_some, wp_C, wp_call, wp_callv, bqF_ok, bqF_ex, wp_new, wp_newv, fqS_nx, fqS_rt, fqS_ex, wpS_for, wp_comp, wp_dVar, vQ_v, vQ_o, List.getElem?_cons_zero, List.getElem?_cons_succ, List.set_cons_zero, List.set_cons_succ, wp_d1, wp_k1, wp_d2, wp_k2, wp_k2b, wp_dT, wp_kT, wp_dTru, wp_kTru, wp_dNotT, wp_kNot, wp_dAndT, wp_kAnd, wp_dOrT, wp_kOr, wp_dAndV, wp_kAndV, wp_kAndVb, wp_dOrV, wp_kOrV, wp_kOrVb, wp_dNotV, wp_kNotV, wp_kNotVb, wp_dIf, wp_kIf, wp_dChain, wp_kCh, wp_kCh2, wp_kCh3, wp_aNil, wp_aCons, wp_kCons, wp_kCons2, wp_dTup, wp_kTup, wp_dLst, wp_kLst, wp_dN, wp_kN, wp_dLs, wp_kLs, wp_lDisp, wp_kDisp, wp_lRng, wp_kRng, wp_dItR, wp_kItR, wp_dItS, wp_kItS, wp_tTrue, wp_oNo, wp_oSome, wp_kSome, wp_dSl, wp_kSl, wp_kSl1, wp_kSl2, ws_ret, ws_kRet, ws_expr, ws_kExpr, ws_if, ws_kIfS, ws_set, ws_kSet, ws_setO, ws_kSetO, ws_kSetT, ws_setR, ws_kSetR0, ws_kSetR1, ws_kSetR2, items_t, items_ft, items_l, items_r, setAll, Bool.not_true, Bool.not_false, if_true, ite_true, ite_false, ↓reduceIte, Bool.false_eq_true, Int.reduceLT, Int.reduceLE, Nat.reduceLT, Nat.reduceLeDiff, Nat.reducePow, Int.reducePow, Int.reduceToNat, Int.reduceNeg, Int.reduceSub, Int.reduceAdd, and_self, and_true, true_and, decide_eq_true_eq, decide_true, decide_false, List.length_map, ixN_31, ixN_32, ixN_30, wipeE, restE, lcQ, Option.getD_some, add_i, add_t, add_l, sub_i, mul_i, mul_t, mul_l, fdiv_i, mod_i, pow_18, neg_i, lt_i, le_i, gt_i, ge_i, eq_i, ne_i, eq_b, len_t, len_ft, len_l, len_r, abs_i, int_i, list_t, list_ft, list_l, list_r, tuple_t, tuple_ft, tuple_l, isi_i, isi_b, isi_s, isi_t, isi_ft, isi_l, isi_r, isi_n, tru_b, tru_i, tru_t, tru_ft, tru_l, tru_n, isN_n, isN_b, isN_i, isN_s, isN_t, isN_l, ix_t, ix_ft, ix_l, ix_r, ix_ref, setS_ref, atI_0, atI_1, atI_2, Option.map_some, Option.map_none, kb0, kb1, kb2, kb3, kb4, kb5, kb6, kb7, kb8, kb9, kb10, kb11, kb12, kb13, kb14, kb15, kb16, kb17, kb18, kb19, kb20, kb21, kb22, kb23, kb24, kb25, kb26, kb27, kb28, kb29, sz0, szl0, sz1, szl1, sz2, szl2, sz3, szl3, sz4, szl4, sz5, szl5, sz6, szl6, sz7, szl7, sz8, szl8, sz9, szl9, sz10, szl10, sz11, szl11, sz12, szl12, sz13, szl13, sz14, szl14, sz15, szl15, sz16, szl16, sz17, szl17, sz18, szl18, sz19, szl19, sz20, szl20, sz21, szl21, sz22, szl22, sz23, szl23, sz24, szl24, sz25, szl25, sz26, szl26, sz27, szl27, sz28, szl28, sz29, szl29, sz30, szl30, sz31, szl31, sz32, szl32, sz33, szl33, sz34, szl34, sz35, szl35, sz36, szl36, sz37, szl37, sz38, szl38, sz39, szl39, sz40, szl40, k4, wpS_raise2, wpS_kRaise2]
    exact h
  rw [if_neg h4] at h
  have k4 : (d == []) = false := by simpa using h4
  simp only [List.map, List.replicate, List.cons_append, List.nil_append, List.length_cons, List.length_nil, Nat.reduceAdd, bq_ok, bq_ex, wp_pure, wp_fail, wp_getS, oQ_some, oQ_ite, bqS_ok, bqS_ex, wpS_seq, sqS_nx, sqS_rt, sqS_bk, sqS_ct, sqS_ex, wpS_next, wpS_break, wpS_cont, wpS_retN, wpS_setT, stQ_some, wp_C, wp_call, wp_callv, bqF_ok, bqF_ex, wp_new, wp_newv, fqS_nx, fqS_rt, fqS_ex, wpS_for, wp_comp, wp_dVar, vQ_v, vQ_o, List.getElem?_cons_zero, List.getElem?_cons_succ, List.set_cons_zero, List.set_cons_succ, wp_d1, wp_k1, wp_d2, wp_k2, wp_k2b, wp_dT, wp_kT, wp_dTru, wp_kTru, wp_dNotT, wp_kNot, wp_dAndT, wp_kAnd, wp_dOrT, wp_kOr, wp_dAndV, wp_kAndV, wp_kAndVb, wp_dOrV, wp_kOrV, wp_kOrVb, wp_dNotV, wp_kNotV, wp_kNotVb, wp_dIf, wp_kIf, wp_dChain, wp_kCh, wp_kCh2, wp_kCh3, wp_aNil, wp_aCons, wp_kCons, wp_kCons2, wp_dTup, wp_kTup, wp_dLst, wp_kLst, wp_dN, wp_kN, wp_dLs, wp_kLs, wp_lDisp, wp_kDisp, wp_lRng, wp_kRng, wp_dItR, wp_kItR, wp_dItS, wp_kItS, wp_tTrue, wp_oNo, wp_oSome, wp_kSome, wp_dSl, wp_kSl, wp_kSl1, wp_kSl2, ws_ret, ws_kRet, ws_expr, ws_kExpr, ws_if, ws_kIfS, ws_set, ws_kSet, ws_setO, ws_kSetO, ws_kSetT, ws_setR, ws_kSetR0, ws_kSetR1, ws_kSetR2, items_t, items_ft, items_l, items_r, setAll, Bool.not_true, Bool.not_false, if_true, ite_true, ite_false, ↓reduceIte, Bool.false_eq_true, Int.reduceLT, Int.reduceLE, Nat.reduceLT, Nat.reduceLeDiff, Nat.reducePow, Int.reducePow, Int.reduceToNat, Int.reduceNeg, Int.reduceSub, Int.reduceAdd, and_self, and_true, true_and, decide_eq_true_eq, decide_true, decide_false, List.length_map, ixN_31, ixN_32, ixN_30, wipeE, restE, lcQ, Option.getD_some, add_i, add_t, add_l, sub_i, mul_i, mul_t, mul_l, fdiv_i, mod_i, pow_18, neg_i, lt_i, le_i, gt_i, ge_i, eq_i, ne_i, eq_b, len_t, len_ft, len_l, len_r, abs_i, int_i, list_t, list_ft, list_l, list_r, tuple_t, tuple_ft, tuple_l, isi_i, isi_b, isi_s, isi_t, isi_ft, isi_l, isi_r, isi_n, tru_b, tru_i, tru_t, tru_ft, tru_l, tru_n, isN_n, isN_b, isN_i, isN_s, isN_t, isN_l, ix_t, ix_ft, ix_l, ix_r, ix_ref, setS_ref, atI_0, atI_1, atI_2, Option.map_some, Option.map_none, kb0, kb1, kb2, kb3, kb4, kb5, kb6, kb7, kb8, kb9, kb10, kb11, kb12, kb13, kb14, kb15, kb16, kb17, kb18, kb19, kb20, kb21, kb22, kb23, kb24, kb25, kb26, kb27, kb28, kb29, sz0, szl0, sz1, szl1, sz2, szl2, sz3, szl3, sz4, szl4, sz5, szl5, sz6, szl6, sz7, szl7, sz8, szl8, sz9, szl9, sz10, szl10, sz11, szl11, sz12, szl12, sz13, szl13, sz14, szl14, sz15, szl15, sz16, szl16, sz17, szl17, sz18, szl18, sz19, szl19, sz20, szl20, sz21, szl21, sz22, szl22, sz23, szl23, sz24, szl24, sz25, szl25, sz26, szl26, sz27, szl27, sz28, szl28, sz29, szl29, sz30, szl30, sz31, szl31, sz32, szl32, sz33, szl33, sz34, szl34, sz35, szl35, sz36, szl36, sz37, szl37, sz38, szl38, sz39, szl39, sz40, szl40, k4, eld]
  by_cases h5 : 6 < d.length
  · rw [if_pos h5] at h
    have k5 : (6 : Int) < d.length := by omega
    simp only [List.map, List.replicate, List.cons_append, List.nil_append, List.length_cons, List.length_nil, Nat.reduceAdd, bq_ok, bq_ex, wp_pure, wp_fail, wp_getS, oQ_some, oQ_ite, bqS_ok, bqS_ex, wpS_seq, sqS_nx, sqS_rt, sqS_bk, sqS_ct, sqS_ex, wpS_next, wpS_break, wpS_cont, wpS_retN, wpS_setT, stQ_some, wp_C, wp_call, wp_callv, bqF_ok, bqF_ex, wp_new, wp_newv, fqS_nx, fqS_rt, fqS_ex, wpS_for, wp_comp, wp_dVar, vQ_v, vQ_o, List.getElem?_cons_zero, List.getElem?_cons_succ, List.set_cons_zero, List.set_cons_succ, wp_d1, wp_k1, wp_d2, wp_k2, wp_k2b, wp_dT, wp_kT, wp_dTru, wp_kTru, wp_dNotT, wp_kNot, wp_dAndT, wp_kAnd, wp_dOrT, wp_kOr, wp_dAndV, wp_kAndV, wp_kAndVb, wp_dOrV, wp_kOrV, wp_kOrVb, wp_dNotV, wp_kNotV, wp_kNotVb, wp_dIf, wp_kIf, wp_dChain, wp_kCh, wp_kCh2, wp_kCh3, wp_aNil, wp_aCons, wp_kCons, wp_kCons2, wp_dTup, wp_kTup, wp_dLst, wp_kLst, wp_dN, wp_kN, wp_dLs, wp_kLs, wp_lDisp, wp_kDisp, wp_lRng, wp_kRng, wp_dItR, wp_kItR, wp_dItS, wp_kItS, wp_tTrue, wp_oNo, wp_oSome, wp_kSome, wp_dSl, wp_kSl, wp_kSl1, wp_kSl2, ws_ret, ws_kRet, ws_expr, ws_kExpr, ws_if, ws_kIfS, ws_set, ws_kSet, ws_setO, ws_kSetO, ws_kSetT, ws_setR, ws_kSetR0, ws_kSetR1, ws_kSetR2, items_t, items_ft, items_l, items_r, setAll, Bool.not_true, Bool.not_false, if_true, ite_true, ite_false, ↓reduceIte, Bool.false_eq_true, Int.reduceLT, Int.reduceLE, Nat.reduceLT, Nat.reduceLeDiff, Nat.reducePow, Int.reducePow, Int.reduceToNat, Int.reduceNeg, Int.reduceSub, Int.reduceAdd, and_self, and_true, true_and, decide_eq_true_eq, decide_true, decide_false, List.length_map, ixN_31, ixN_32, ixN_30, wipeE, restE, lcQ, Option.getD_some, add_i, add_t, add_l, sub_i, mul_i, mul_t, mul_l, fdiv_i, mod_i, pow_18, neg_i, lt_i, le_i, gt_i, ge_i, eq_i, ne_i, eq_b, len_t, len_ft, len_l, len_r, abs_i, int_i, list_t, list_ft, list_l, list_r, tuple_t, tuple_ft, tuple_l, isi_i, isi_b, isi_s, isi_t, isi_ft, isi_l, isi_r, isi_n, tru_b, tru_i, tru_t, tru_ft, tru_l, tru_n, isN_n, isN_b, isN_i, isN_s, isN_t, isN_l, ix_t, ix_ft, ix_l, ix_r, ix_ref, setS_ref, atI_0, atI_1, atI_2, Option.map_some, Option.map_none, kb0, kb1, kb2, kb3, kb4, kb5, kb6, kb7, kb8, kb9, kb10, kb11, kb12, kb13, kb14, kb15, kb16, kb17, kb18, kb19, kb20, kb21, kb22, kb23, kb24, kb25, kb26, kb27, kb28, kb29, sz0, szl0, sz1, szl1, sz2, szl2, sz3, szl3, sz4, szl4, sz5, szl5, sz6, szl6, sz7, szl7, sz8, szl8, sz9, szl9, sz10, szl10, sz11, szl11, sz12, szl12, sz13, szl13, sz14, szl14, sz15, szl15, sz16, szl16, sz17, szl17, sz18, szl18, sz19, szl19, sz20, szl20, sz21, szl21, sz22, szl22, sz23, szl23, sz24, szl24, sz25, szl25, sz26, szl26, sz27, szl27, sz28, szl28, sz29, szl29, sz30, szl30, sz31, szl31, sz32, szl32, sz33, szl33, sz34, szl34, sz35, szl35, sz36, szl36, sz37, szl37, sz38, szl38, sz39, szl39, sz40, szl40, k5, wpS_raise2, wpS_kRaise2]
    exact h
  rw [if_neg h5] at h
  have k5 : ¬ (6 : Int) < d.length := by omega
  simp only [List.map, List.replicate, List.cons_append, List.nil_append, List.length_cons, List.length_nil, Nat.reduceAdd, bq_ok, bq_ex, wp_pure, wp_fail, wp_getS, oQ_some, oQ_ite, bqS_ok, bqS_ex, wpS_seq, sqS_nx, sqS_rt, sqS_bk, sqS_ct, sqS_ex, wpS_next, wpS_break, wpS_cont, wpS_retN, wpS_setT, stQ_some, wp_C, wp_call, wp_callv, bqF_ok, bqF_ex, wp_new, wp_newv, fqS_nx, fqS_rt, fqS_ex, wpS_for, wp_comp, wp_dVar, vQ_v, vQ_o, List.getElem?_cons_zero, List.getElem?_cons_succ, List.set_cons_zero, List.set_cons_succ, wp_d1, wp_k1, wp_d2, wp_k2, wp_k2b, wp_dT, wp_kT, wp_dTru, wp_kTru, wp_dNotT, wp_kNot, wp_dAndT, wp_kAnd, wp_dOrT, wp_kOr, wp_dAndV, wp_kAndV, wp_kAndVb, wp_dOrV, wp_kOrV, wp_kOrVb, wp_dNotV, wp_kNotV, wp_kNotVb, wp_dIf, wp_kIf, wp_dChain, wp_kCh, wp_kCh2, wp_kCh3, wp_aNil, wp_aCons, wp_kCons, wp_kCons2, wp_dTup, wp_kTup, wp_dLst, wp_kLst, wp_dN, wp_kN, wp_dLs, wp_kLs, wp_lDisp, wp_kDisp, wp_lRng, wp_kRng, wp_dItR, wp_kItR, wp_dItS, wp_kItS, wp_tTrue, wp_oNo, wp_oSome, wp_kSome, wp_dSl, wp_kSl, wp_kSl1, wp_kSl2, ws_ret, ws_kRet, ws_expr, ws_kExpr, ws_if, ws_kIfS, ws_set, ws_kSet, ws_setO, ws_kSetO, ws_kSetT, ws_setR, ws_kSetR0, ws_kSetR1, ws_kSetR2, items_t, items_ft, items_l, items_r, setAll, Bool.not_true, Bool.not_false, if_true, ite_true, ite_false, ↓reduceIte, Bool.false_eq_true, Int.reduceLT, Int.reduceLE, Nat.reduceLT, Nat.reduceLeDiff, Nat.reducePow, Int.reducePow, Int.reduceToNat, Int.reduceNeg, Int.reduceSub, Int.reduceAdd, and_self, and_true, true_and, decide_eq_true_eq, decide_true, decide_false, List.length_map, ixN_31, ixN_32, ixN_30, wipeE, restE, lcQ, Option.getD_some, add_i, add_t, add_l, sub_i, mul_i, mul_t, mul_l, fdiv_i, mod_i, pow_18, neg_i, lt_i, le_i, gt_i, ge_i, eq_i, ne_i, eq_b, len_t, len_ft, len_l, len_r, abs_i, int_i, list_t, list_ft, list_l, list_r, tuple_t, tuple_ft, tuple_l, isi_i, isi_b, isi_s, isi_t, isi_ft, isi_l, isi_r, isi_n, tru_b, tru_i, tru_t, tru_ft, tru_l, tru_n, isN_n, isN_b, isN_i, isN_s, isN_t, isN_l, ix_t, ix_ft, ix_l, ix_r, ix_ref, setS_ref, atI_0, atI_1, atI_2, Option.map_some, Option.map_none, kb0, kb1, kb2, kb3, kb4, kb5, kb6, kb7, kb8, kb9, kb10, kb11, kb12, kb13, kb14, kb15, kb16, kb17, kb18, kb19, kb20, kb21, kb22, kb23, kb24, kb25, kb26, kb27, kb28, kb29, sz0, szl0, sz1, szl1, sz2, szl2, sz3, szl3, sz4, szl4, sz5, szl5, sz6, szl6, sz7, szl7, sz8, szl8, sz9, szl9, sz10, szl10, sz11, szl11, sz12, szl12, sz13, szl13, sz14, szl14, sz15, szl15, sz16, szl16, sz17, szl17, sz18, szl18, sz19, szl19, sz20, szl20, sz21, szl21, sz22, szl22, sz23, szl23, sz24, szl24, sz25, szl25, sz26, szl26, sz27, szl27, sz28, szl28, sz29, szl29, sz30, szl30, sz31, szl31, sz32, szl32, sz33, szl33, sz34, szl34, sz35, szl35, sz36, szl36, sz37, szl37, sz38, szl38, sz39, szl39, sz40, szl40, k5]
  exact h
end
end Dn
end
section
set_option Elab.async false
set_option linter.all false
set_option maxRecDepth 100000
set_option maxHeartbeats 1000000
namespace Dn
open PySem L2
section
variable {S : Stor}
theorem bl_tx : (" " : Str) = tx [32] := by kernel_rfl
def scT : Den Bool := dT (d2 ltP (dVar 2) (dN lenP (aCons (dVar 0) aNil)))
def scK : DS := (sSeq (sAppR (dVar 1) (dCall d_token_at_v2 (aCons (dVar 0) (aCons (dVar 2) aNil))))
  (sSet 2 (d2 addP (dVar 2) (dN lenP (aCons (d2 ixP (d2 ixP (dVar 1) (d1 negP (dC (.int 1)))) (dC (.int 1))) aNil)))))
def scB : DS := (sIf (dT (d2 eqP (d2 ixP (dVar 0) (dVar 2)) (dC (.str " ")))) (sSet 2 (d2 addP (dVar 2) (dC (.int 1)))) scK)
theorem scan_eq : d_scan_v5 = dFun 1 2 (sSeq (sExpr (dCall d_check_text_v3 (aCons (dVar 0) aNil)))
  (sSeq (sSet 1 (dNew (lDisp aNil)))
  (sSeq (sSet 2 (dC (.int 0)))
  (sSeq (whN scT scB)
  (sSeq (sAppR (dVar 1) (dTup (aCons (dC (.str "end")) (aCons (dC (.str "")) (aCons (d2 addP (dN lenP (aCons (dVar 0) aNil)) (dC (.int 1))) aNil)))))
  (sRet (dVar 1))))))) := id rfl
abbrev scE (t : List Nat) (r i : Nat) : DEnv := [.v (.str (tx t)), .v (.ref r), .v (.int i)]
/-- the store with the list of the tokens behind it -/
def sT (S : Stor) (ts : List PV) : Stor := S ++ [.lst ts]
theorem sT_at {ts : List PV} : (sT S ts)[S.length]? = some (.lst ts) := by unfold sT; simp
theorem sT_set {ts us : List PV} : (sT S ts).set S.length (.lst us) = sT S us := by unfold sT; simp
theorem ix_sT {ts : List PV} {i : Int} : ixP (sT S ts) (.ref S.length) (.int i) = atI ts i := by
  show (match (sT S ts)[S.length]? with | some (.lst xs) => atI xs i | _ => none) = _
  rw [sT_at]
theorem sc_test {a r : List Nat} {n : Nat} (hl : (a ++ r).length ≤ 1000) : scT (scE (a ++ r) n a.length) S = .ok (!r.isEmpty) (scE (a ++ r) n a.length) S := by
  have hs : (a ++ r).length ≤ sizeLine := by rw [sizeLine_eq]; omega
  show wp _ _ _ fun o => o = _
  unfold scT scE
  cases r with
  | nil =>
    have e3 : ¬ ((a.length : Int) < ((a ++ []).length : Int)) := by simp
    simp only [List.replicate, List.cons_append, List.nil_append, List.length_cons, List.length_nil, Nat.reduceAdd, bq_ok, bq_ex, wp_pure, wp_fail, wp_getS, oQ_some, oQ_ite, bqS_ok, bqS_ex, wpS_seq, sqS_nx, sqS_rt, sqS_bk, sqS_ct, sqS_ex, wpS_next, wpS_break, wpS_cont, wpS_retN, wpS_setT, stQ_some, wp_C, wp_call, wp_callv, bqF_ok, bqF_ex, wp_new, wp_newv, fqS_nx, fqS_rt, fqS_ex, wpS_for, wp_comp, wp_dVar, vQ_v, vQ_o, List.getElem?_cons_zero, List.getElem?_cons_succ, List.set_cons_zero, List.set_cons_succ, wp_d1, wp_k1, wp_d2, wp_k2, wp_k2b, wp_dT, wp_kT, wp_dTru, wp_kTru, wp_dNotT, wp_kNot, wp_dAndT, wp_kAnd, wp_dOrT, wp_kOr, wp_dAndV, wp_kAndV, wp_kAndVb, wp_dOrV, wp_kOrV, wp_kOrVb, wp_dNotV, wp_kNotV, wp_kNotVb, wp_dIf, wp_kIf, wp_dChain, wp_kCh, wp_kCh2, wp_kCh3, wp_aNil, wp_aCons, wp_kCons, wp_kCons2, wp_dTup, wp_kTup, wp_dLst, wp_kLst, wp_dN, wp_kN, wp_dLs, wp_kLs, wp_lDisp, wp_kDisp, wp_lRng, wp_kRng, wp_dItR, wp_kItR, wp_dItS, wp_kItS, wp_tTrue, wp_oNo, wp_oSome, wp_kSome, wp_dSl, wp_kSl, wp_kSl1, wp_kSl2, ws_ret, ws_kRet, ws_expr, ws_kExpr, ws_if, ws_kIfS, ws_set, ws_kSet, ws_setO, ws_kSetO, ws_kSetT, ws_setR, ws_kSetR0, ws_kSetR1, ws_kSetR2, items_t, items_ft, items_l, items_r, setAll, Bool.not_true, Bool.not_false, if_true, ite_true, ite_false, ↓reduceIte, Bool.false_eq_true, Int.reduceLT, Int.reduceLE, Nat.reduceLT, Nat.reduceLeDiff, Nat.reducePow, Int.reducePow, Int.reduceToNat, Int.reduceNeg, Int.reduceSub, Int.reduceAdd, and_self, and_true, true_and, decide_eq_true_eq, decide_true, decide_false, List.length_map, ixN_31, ixN_32, ixN_30, wipeE, restE, lcQ, Option.getD_some, add_i, add_t, add_l, sub_i, mul_i, mul_t, mul_l, fdiv_i, mod_i, pow_18, neg_i, lt_i, le_i, gt_i, ge_i, eq_i, ne_i, eq_b, len_t, len_ft, len_l, len_r, abs_i, int_i, list_t, list_ft, list_l, list_r, tuple_t, tuple_ft, tuple_l, isi_i, isi_b, isi_s, isi_t, isi_ft, isi_l, isi_r, isi_n, tru_b, tru_i, tru_t, tru_ft, tru_l, tru_n, isN_n, isN_b, isN_i, isN_s, isN_t, isN_l, ix_t, ix_ft, ix_l, ix_r, ix_ref, setS_ref, atI_0, atI_1, atI_2, Option.map_some, Option.map_none, kb0, kb1, kb2, kb3, kb4, kb5, kb6, kb7, kb8, kb9, kb10, kb11, kb12, kb13, kb14, kb15, kb16, kb17, kb18, kb19, kb20, kb21, kb22, kb23, kb24, kb25, kb26, kb27, kb28, kb29, sz0, szl0, sz1, szl1, sz2, szl2, sz3, szl3, sz4, szl4, sz5, szl5, sz6, szl6, sz7, szl7, sz8, szl8, sz9, szl9, sz10, szl10, sz11, szl11, sz12, szl12, sz13, szl13, sz14, szl14, sz15, szl15, sz16, szl16, sz17, szl17, sz18, szl18, sz19, szl19, sz20, szl20, sz21, szl21, sz22, szl22, sz23, szl23, sz24, szl24, sz25, szl25, sz26, szl26, sz27, szl27, sz28, szl28, sz29, szl29, sz30, szl30, sz31, szl31, sz32, szl32, sz33, szl33, sz34, szl34, sz35, szl35, sz36, szl36, sz37, szl37, sz38, szl38, sz39, szl39, sz40, szl40, len_tx hs, e3]
    rfl
  | cons c r =>
    have e3 : ((a.length : Int) < ((a ++ c :: r).length : Int)) := by simp; omega
    simp only [List.replicate, List.cons_append, List.nil_append, List.length_cons, List.length_nil, Nat.reduceAdd, bq_ok, bq_ex, wp_pure, wp_fail, wp_getS, oQ_some, oQ_ite, bqS_ok, bqS_ex, wpS_seq, sqS_nx, sqS_rt, sqS_bk, sqS_ct, sqS_ex, wpS_next, wpS_break, wpS_cont, wpS_retN, wpS_setT, stQ_some, wp_C, wp_call, wp_callv, bqF_ok, bqF_ex, wp_new, wp_newv, fqS_nx, fqS_rt, fqS_ex, wpS_for, wp_comp, wp_dVar, vQ_v, vQ_o, List.getElem?_cons_zero, List.getElem?_cons_succ, List.set_cons_zero, List.set_cons_succ, wp_d1, wp_k1, wp_d2, wp_k2, wp_k2b, wp_dT, wp_kT, wp_dTru, wp_kTru, wp_dNotT, wp_kNot, wp_dAndT, wp_kAnd, wp_dOrT, wp_kOr, wp_dAndV, wp_kAndV, wp_kAndVb, wp_dOrV, wp_kOrV, wp_kOrVb, wp_dNotV, wp_kNotV, wp_kNotVb, wp_dIf, wp_kIf, wp_dChain, wp_kCh, wp_kCh2, wp_kCh3, wp_aNil, wp_aCons, wp_kCons, wp_kCons2, wp_dTup, wp_kTup, wp_dLst, wp_kLst, wp_dN, wp_kN, wp_dLs, wp_kLs, wp_lDisp, wp_kDisp, wp_lRng, wp_kRng, wp_dItR, wp_kItR, wp_dItS, wp_kItS, wp_tTrue, wp_oNo, wp_oSome, wp_kSome, wp_dSl, wp_kSl, wp_kSl1, wp_kSl2, ws_ret, ws_kRet, ws_expr, ws_kExpr, ws_if, ws_kIfS, ws_set, ws_kSet, ws_setO, ws_kSetO, ws_kSetT, ws_setR, ws_kSetR0, ws_kSetR1, ws_kSetR2, items_t, items_ft, items_l, items_r, setAll, Bool.not_true, Bool.not_false, if_true, ite_true, ite_false, ↓reduceIte, Bool.false_eq_true, Int.reduceLT, Int.reduceLE, Nat.reduceLT, Nat.reduceLeDiff, Nat.reducePow, Int.reducePow, Int.reduceToNat, Int.reduceNeg, Int.reduceSub, Int.reduceAdd, and_self, and_true, true_and, decide_eq_true_eq, decide_true, decide_false, List.length_map, ixN_31, ixN_32, ixN_30, wipeE, restE, lcQ, Option.getD_some, add_i, add_t, add_l, sub_i, mul_i, mul_t, mul_l, fdiv_i, mod_i, pow_18, neg_i, lt_i, le_i, gt_i, ge_i, eq_i, ne_i, eq_b, len_t, len_ft, len_l, len_r, abs_i, int_i, list_t, list_ft, list_l, list_r, tuple_t, tuple_ft, tuple_l, isi_i, isi_b, isi_s, isi_t, isi_ft, isi_l, isi_r, isi_n, tru_b, tru_i, tru_t, tru_ft, tru_l, tru_n, isN_n, isN_b, isN_i, isN_s, isN_t, isN_l, ix_t, ix_ft, ix_l, ix_r, ix_ref, setS_ref, atI_0, atI_1, atI_2, Option.map_some, Option.map_none, kb0, kb1, kb2, kb3, kb4, kb5, kb6, kb7, kb8, kb9, kb10, kb11, kb12, kb13, kb14, kb15, kb16, kb17, kb18, kb19, kb20, kb21, kb22, kb23, kb24, kb25, kb26, kb27, kb28, kb29, sz0, szl0, sz1, szl1, sz2, szl2, sz3, szl3, sz4, szl4, sz5, szl5, sz6, szl6, sz7, szl7, sz8, szl8, sz9, szl9, sz10, szl10, sz11, szl11, sz12, szl12, sz13, szl13, sz14, szl14, sz15, szl15, sz16, szl16, sz17, szl17, sz18, szl18, sz19, szl19, sz20, szl20, sz21, szl21, sz22, szl22, sz23, szl23, sz24, szl24, sz25, szl25, sz26, szl26, sz27, szl27, sz28, szl28, sz29, szl29, sz30, szl30, sz31, szl31, sz32, szl32, sz33, szl33, sz34, szl34, sz35, szl35, sz36, szl36, sz37, szl37, sz38, szl38, sz39, szl39, sz40, szl40, len_tx hs, e3]
    rfl
theorem sc_blank {a r : List Nat} {n : Nat} (hl : (a ++ 32 :: r).length ≤ 1000) : scB (scE (a ++ 32 :: r) n a.length) S = .nx (scE (a ++ 32 :: r) n (a ++ [32]).length) S := by
  have hs : (a ++ 32 :: r).length ≤ sizeLine := by rw [sizeLine_eq]; omega
  have e4 : ixP S (.str (tx (a ++ 32 :: r))) (.int a.length) = some (.str (tx [32])) := ix_tx rfl hs
  have l32 : Low [32] := by unfold Low; decide
  have e5 : eqP S (.str (tx [32])) (.str " ") = some (.bl ([32] == [32])) := by rw [bl_tx]; exact eq_tx l32 l32
  have e6 : (([32] : List Nat) == [32]) = true := rfl
  show wpS _ _ _ fun o => o = _
  unfold scB scE
  simp only [List.replicate, List.cons_append, List.nil_append, List.length_cons, List.length_nil, Nat.reduceAdd, bq_ok, bq_ex, wp_pure, wp_fail, wp_getS, oQ_some, oQ_ite, bqS_ok, bqS_ex, wpS_seq, sqS_nx, sqS_rt, sqS_bk, sqS_ct, sqS_ex, wpS_next, wpS_break, wpS_cont, wpS_retN, wpS_setT, stQ_some, wp_C, wp_call, wp_callv, bqF_ok, bqF_ex, wp_new, wp_newv, fqS_nx, fqS_rt, fqS_ex, wpS_for, wp_comp, wp_dVar, vQ_v, vQ_o, List.getElem?_cons_zero, List.getElem?_cons_succ, List.set_cons_zero, List.set_cons_succ, wp_d1, wp_k1, wp_d2, wp_k2, wp_k2b, wp_dT, wp_kT, wp_dTru, wp_kTru, wp_dNotT, wp_kNot, wp_dAndT, wp_kAnd, wp_dOrT, wp_kOr, wp_dAndV, wp_kAndV, wp_kAndVb, wp_dOrV, wp_kOrV, wp_kOrVb, wp_dNotV, wp_kNotV, wp_kNotVb, wp_dIf, wp_kIf, wp_dChain, wp_kCh, wp_kCh2, wp_kCh3, wp_aNil, wp_aCons, wp_kCons, wp_kCons2, wp_dTup, wp_kTup, wp_dLst, wp_kLst, wp_dN, wp_kN, wp_dLs, wp_kLs, wp_lDisp, wp_kDisp, wp_lRng, wp_kRng, wp_dItR, wp_kItR, wp_dItS, wp_kItS, wp_tTrue, wp_oNo, wp_oSome, wp_kSome, wp_dSl, wp_kSl, wp_kSl1, wp_kSl2, ws_ret, ws_kRet, ws_expr, ws_kExpr, ws_if, ws_kIfS, ws_set, ws_kSet, ws_setO, ws_kSetO, ws_kSetT, ws_setR, ws_kSetR0, ws_kSetR1, ws_kSetR2, items_t, items_ft, items_l, items_r, setAll, Bool.not_true, Bool.not_false, if_true, ite_true, ite_false, ↓reduceIte, Bool.false_eq_true, Int.reduceLT, Int.reduceLE, Nat.reduceLT, Nat.reduceLeDiff, Nat.reducePow, Int.reducePow, Int.reduceToNat, Int.reduceNeg, Int.reduceSub, Int.reduceAdd, and_self, and_true, true_and, decide_eq_true_eq, decide_true, decide_false, List.length_map, ixN_31, ixN_32, ixN_30, wipeE, restE, lcQ, Option.getD_some, add_i, add_t, add_l, sub_i, mul_i, mul_t, mul_l, fdiv_i, mod_i, pow_18, neg_i, lt_i, le_i, gt_i, ge_i, eq_i, ne_i, eq_b, len_t, len_ft, len_l, len_r, abs_i, int_i, list_t, list_ft, list_l, list_r, tuple_t, tuple_ft, tuple_l, isi_i, isi_b, isi_s, isi_t, isi_ft, isi_l, isi_r, isi_n, tru_b, tru_i, tru_t, tru_ft, tru_l, tru_n, isN_n, isN_b, isN_i, isN_s, isN_t, isN_l, ix_t, ix_ft, ix_l, ix_r, ix_ref, setS_ref, atI_0, atI_1, atI_2, Option.map_some, Option.map_none, kb0, kb1, kb2, kb3, kb4, kb5, kb6, kb7, kb8, kb9, kb10, kb11, kb12, kb13, kb14, kb15, kb16, kb17, kb18, kb19, kb20, kb21, kb22, kb23, kb24, kb25, kb26, kb27, kb28, kb29, sz0, szl0, sz1, szl1, sz2, szl2, sz3, szl3, sz4, szl4, sz5, szl5, sz6, szl6, sz7, szl7, sz8, szl8, sz9, szl9, sz10, szl10, sz11, szl11, sz12, szl12, sz13, szl13, sz14, szl14, sz15, szl15, sz16, szl16, sz17, szl17, sz18, szl18, sz19, szl19, sz20, szl20, sz21, szl21, sz22, szl22, sz23, szl23, sz24, szl24, sz25, szl25, sz26, szl26, sz27, szl27, sz28, szl28, sz29, szl29, sz30, szl30, sz31, szl31, sz32, szl32, sz33, szl33, sz34, szl34, sz35, szl35, sz36, szl36, sz37, szl37, sz38, szl38, sz39, szl39, sz40, szl40, e4, e5, e6, List.length_append]
  rfl
theorem sc_tok {a r w : List Nat} {c : Nat} {ts : List PV} {Q : OutS → Prop} {k : Str} (h32 : c ≠ 32) (hc : c < 128) (hw : w.length ≤ 1000) (hl : (a ++ c :: r).length ≤ 1000) (hk : ts.length ≤ 1000)
    (ht : wpF d_token_at_v2 [.str (tx (a ++ c :: r)), .int a.length] (sT S ts) fun o => o = .ok (.tup [.str k, .str (tx w), .int (a.length + 1)]) (sT S ts)) (h : Q (.nx (scE (a ++ c :: r) S.length (a ++ w).length) (sT S (ts ++ [.tup [.str k, .str (tx w), .int (a.length + 1)]])))) : wpS scB (scE (a ++ c :: r) S.length a.length) (sT S ts) Q := by
  have hs : (a ++ c :: r).length ≤ sizeLine := by rw [sizeLine_eq]; omega
  have e4 : ixP (sT S ts) (.str (tx (a ++ c :: r))) (.int a.length) = some (.str (tx [c])) := ix_tx rfl hs
  have lc : Low [c] := fun x hx => by rw [List.mem_singleton.mp hx]; exact hc
  have l32 : Low [32] := by unfold Low; decide
  have e5 : eqP (sT S ts) (.str (tx [c])) (.str " ") = some (.bl ([c] == [32])) := by rw [bl_tx]; exact eq_tx lc l32
  have e6 : ([c] == [32]) = false := by simp [h32]
  unfold scB
  simp only [List.replicate, List.cons_append, List.nil_append, List.length_cons, List.length_nil, Nat.reduceAdd, bq_ok, bq_ex, wp_pure, wp_fail, wp_getS, oQ_some, oQ_ite, bqS_ok, bqS_ex, sqS_nx, sqS_rt, sqS_bk, sqS_ct, sqS_ex, wpS_next, wpS_break, wpS_cont, wpS_retN, wpS_setT, stQ_some, wp_C, wp_call, wp_callv, bqF_ok, bqF_ex, wp_new, wp_newv, fqS_nx, fqS_rt, fqS_ex, wpS_for, wp_comp, wp_dVar, vQ_v, vQ_o, List.getElem?_cons_zero, List.getElem?_cons_succ, List.set_cons_zero, List.set_cons_succ, wp_d1, wp_k1, wp_d2, wp_k2, wp_k2b, wp_dT, wp_kT, wp_dTru, wp_kTru, wp_dNotT, wp_kNot, wp_dAndT, wp_kAnd, wp_dOrT, wp_kOr, wp_dAndV, wp_kAndV, wp_kAndVb, wp_dOrV, wp_kOrV, wp_kOrVb, wp_dNotV, wp_kNotV, wp_kNotVb, wp_dIf, wp_kIf, wp_dChain, wp_kCh, wp_kCh2, wp_kCh3, wp_aNil, wp_aCons, wp_kCons, wp_kCons2, wp_dTup, wp_kTup, wp_dLst, wp_kLst, wp_dN, wp_kN, wp_dLs, wp_kLs, wp_lDisp, wp_kDisp, wp_lRng, wp_kRng, wp_dItR, wp_kItR, wp_dItS, wp_kItS, wp_tTrue, wp_oNo, wp_oSome, wp_kSome, wp_dSl, wp_kSl, wp_kSl1, wp_kSl2, ws_ret, ws_kRet, ws_expr, ws_kExpr, ws_if, ws_kIfS, ws_set, ws_kSet, ws_setO, ws_kSetO, ws_kSetT, ws_setR, ws_kSetR0, ws_kSetR1, ws_kSetR2, items_t, items_ft, items_l, items_r, setAll, Bool.not_true, Bool.not_false, if_true, ite_true, ite_false, ↓reduceIte, Bool.false_eq_true, Int.reduceLT, Int.reduceLE, Nat.reduceLT, Nat.reduceLeDiff, Nat.reducePow, Int.reducePow, Int.reduceToNat, Int.reduceNeg, Int.reduceSub, Int.reduceAdd, and_self, and_true, true_and, decide_eq_true_eq, decide_true, decide_false, List.length_map, ixN_31, ixN_32, ixN_30, wipeE, restE, lcQ, Option.getD_some, add_i, add_t, add_l, sub_i, mul_i, mul_t, mul_l, fdiv_i, mod_i, pow_18, neg_i, lt_i, le_i, gt_i, ge_i, eq_i, ne_i, eq_b, len_t, len_ft, len_l, len_r, abs_i, int_i, list_t, list_ft, list_l, list_r, tuple_t, tuple_ft, tuple_l, isi_i, isi_b, isi_s, isi_t, isi_ft, isi_l, isi_r, isi_n, tru_b, tru_i, tru_t, tru_ft, tru_l, tru_n, isN_n, isN_b, isN_i, isN_s, isN_t, isN_l, ix_t, ix_ft, ix_l, ix_r, setS_ref, atI_0, atI_1, atI_2, Option.map_some, Option.map_none, kb0, kb1, kb2, kb3, kb4, kb5, kb6, kb7, kb8, kb9, kb10, kb11, kb12, kb13, kb14, kb15, kb16, kb17, kb18, kb19, kb20, kb21, kb22, kb23, kb24, kb25, kb26, kb27, kb28, kb29, sz0, szl0, sz1, szl1, sz2, szl2, sz3, szl3, sz4, szl4, sz5, szl5, sz6, szl6, sz7, szl7, sz8, szl8, sz9, szl9, sz10, szl10, sz11, szl11, sz12, szl12, sz13, szl13, sz14, szl14, sz15, szl15, sz16, szl16, sz17, szl17, sz18, szl18, sz19, szl19, sz20, szl20, sz21, szl21, sz22, szl22, sz23, szl23, sz24, szl24, sz25, szl25, sz26, szl26, sz27, szl27, sz28, szl28, sz29, szl29, sz30, szl30, sz31, szl31, sz32, szl32, sz33, szl33, sz34, szl34, sz35, szl35, sz36, szl36, sz37, szl37, sz38, szl38, sz39, szl39, sz40, szl40, e4, e5, e6]
  unfold scK
  rw [wpS_seq, ws_appR]
  simp only [List.replicate, List.cons_append, List.nil_append, List.length_cons, List.length_nil, Nat.reduceAdd, bq_ok, bq_ex, wp_pure, wp_fail, wp_getS, oQ_some, oQ_ite, bqS_ok, bqS_ex, sqS_nx, sqS_rt, sqS_bk, sqS_ct, sqS_ex, wpS_next, wpS_break, wpS_cont, wpS_retN, wpS_setT, stQ_some, wp_C, wp_call, wp_callv, bqF_ok, bqF_ex, wp_new, wp_newv, fqS_nx, fqS_rt, fqS_ex, wpS_for, wp_comp, wp_dVar, vQ_v, vQ_o, List.getElem?_cons_zero, List.getElem?_cons_succ, List.set_cons_zero, List.set_cons_succ, wp_d1, wp_k1, wp_d2, wp_k2, wp_k2b, wp_dT, wp_kT, wp_dTru, wp_kTru, wp_dNotT, wp_kNot, wp_dAndT, wp_kAnd, wp_dOrT, wp_kOr, wp_dAndV, wp_kAndV, wp_kAndVb, wp_dOrV, wp_kOrV, wp_kOrVb, wp_dNotV, wp_kNotV, wp_kNotVb, wp_dIf, wp_kIf, wp_dChain, wp_kCh, wp_kCh2, wp_kCh3, wp_aNil, wp_aCons, wp_kCons, wp_kCons2, wp_dTup, wp_kTup, wp_dLst, wp_kLst, wp_dN, wp_kN, wp_dLs, wp_kLs, wp_lDisp, wp_kDisp, wp_lRng, wp_kRng, wp_dItR, wp_kItR, wp_dItS, wp_kItS, wp_tTrue, wp_oNo, wp_oSome, wp_kSome, wp_dSl, wp_kSl, wp_kSl1, wp_kSl2, ws_ret, ws_kRet, ws_expr, ws_kExpr, ws_if, ws_kIfS, ws_set, ws_kSet, ws_setO, ws_kSetO, ws_kSetT, ws_setR, ws_kSetR0, ws_kSetR1, ws_kSetR2, items_t, items_ft, items_l, items_r, setAll, Bool.not_true, Bool.not_false, if_true, ite_true, ite_false, ↓reduceIte, Bool.false_eq_true, Int.reduceLT, Int.reduceLE, Nat.reduceLT, Nat.reduceLeDiff, Nat.reducePow, Int.reducePow, Int.reduceToNat, Int.reduceNeg, Int.reduceSub, Int.reduceAdd, and_self, and_true, true_and, decide_eq_true_eq, decide_true, decide_false, List.length_map, ixN_31, ixN_32, ixN_30, wipeE, restE, lcQ, Option.getD_some, add_i, add_t, add_l, sub_i, mul_i, mul_t, mul_l, fdiv_i, mod_i, pow_18, neg_i, lt_i, le_i, gt_i, ge_i, eq_i, ne_i, eq_b, len_t, len_ft, len_l, len_r, abs_i, int_i, list_t, list_ft, list_l, list_r, tuple_t, tuple_ft, tuple_l, isi_i, isi_b, isi_s, isi_t, isi_ft, isi_l, isi_r, isi_n, tru_b, tru_i, tru_t, tru_ft, tru_l, tru_n, isN_n, isN_b, isN_i, isN_s, isN_t, isN_l, ix_t, ix_ft, ix_l, ix_r, setS_ref, atI_0, atI_1, atI_2, Option.map_some, Option.map_none, kb0, kb1, kb2, kb3, kb4, kb5, kb6, kb7, kb8, kb9, kb10, kb11, kb12, kb13, kb14, kb15, kb16, kb17, kb18, kb19, kb20, kb21, kb22, kb23, kb24, kb25, kb26, kb27, kb28, kb29, sz0, szl0, sz1, szl1, sz2, szl2, sz3, szl3, sz4, szl4, sz5, szl5, sz6, szl6, sz7, szl7, sz8, szl8, sz9, szl9, sz10, szl10, sz11, szl11, sz12, szl12, sz13, szl13, sz14, szl14, sz15, szl15, sz16, szl16, sz17, szl17, sz18, szl18, sz19, szl19, sz20, szl20, sz21, szl21, sz22, szl22, sz23, szl23, sz24, szl24, sz25, szl25, sz26, szl26, sz27, szl27, sz28, szl28, sz29, szl29, sz30, szl30, sz31, szl31, sz32, szl32, sz33, szl33, sz34, szl34, sz35, szl35, sz36, szl36, sz37, szl37, sz38, szl38, sz39, szl39, sz40, szl40]
  rw [ws_kAppR0 sT_at]
  simp only [List.replicate, List.cons_append, List.nil_append, List.length_cons, List.length_nil, Nat.reduceAdd, bq_ok, bq_ex, wp_pure, wp_fail, wp_getS, oQ_some, oQ_ite, bqS_ok, bqS_ex, sqS_nx, sqS_rt, sqS_bk, sqS_ct, sqS_ex, wpS_next, wpS_break, wpS_cont, wpS_retN, wpS_setT, stQ_some, wp_C, wp_call, wp_callv, bqF_ok, bqF_ex, wp_new, wp_newv, fqS_nx, fqS_rt, fqS_ex, wpS_for, wp_comp, wp_dVar, vQ_v, vQ_o, List.getElem?_cons_zero, List.getElem?_cons_succ, List.set_cons_zero, List.set_cons_succ, wp_d1, wp_k1, wp_d2, wp_k2, wp_k2b, wp_dT, wp_kT, wp_dTru, wp_kTru, wp_dNotT, wp_kNot, wp_dAndT, wp_kAnd, wp_dOrT, wp_kOr, wp_dAndV, wp_kAndV, wp_kAndVb, wp_dOrV, wp_kOrV, wp_kOrVb, wp_dNotV, wp_kNotV, wp_kNotVb, wp_dIf, wp_kIf, wp_dChain, wp_kCh, wp_kCh2, wp_kCh3, wp_aNil, wp_aCons, wp_kCons, wp_kCons2, wp_dTup, wp_kTup, wp_dLst, wp_kLst, wp_dN, wp_kN, wp_dLs, wp_kLs, wp_lDisp, wp_kDisp, wp_lRng, wp_kRng, wp_dItR, wp_kItR, wp_dItS, wp_kItS, wp_tTrue, wp_oNo, wp_oSome, wp_kSome, wp_dSl, wp_kSl, wp_kSl1, wp_kSl2, ws_ret, ws_kRet, ws_expr, ws_kExpr, ws_if, ws_kIfS, ws_set, ws_kSet, ws_setO, ws_kSetO, ws_kSetT, ws_setR, ws_kSetR0, ws_kSetR1, ws_kSetR2, items_t, items_ft, items_l, items_r, setAll, Bool.not_true, Bool.not_false, if_true, ite_true, ite_false, ↓reduceIte, Bool.false_eq_true, Int.reduceLT, Int.reduceLE, Nat.reduceLT, Nat.reduceLeDiff, Nat.reducePow, Int.reducePow, Int.reduceToNat, Int.reduceNeg, Int.reduceSub, Int.reduceAdd, and_self, and_true, true_and, decide_eq_true_eq, decide_true, decide_false, List.length_map, ixN_31, ixN_32, ixN_30, wipeE, restE, lcQ, Option.getD_some, add_i, add_t, add_l, sub_i, mul_i, mul_t, mul_l, fdiv_i, mod_i, pow_18, neg_i, lt_i, le_i, gt_i, ge_i, eq_i, ne_i, eq_b, len_t, len_ft, len_l, len_r, abs_i, int_i, list_t, list_ft, list_l, list_r, tuple_t, tuple_ft, tuple_l, isi_i, isi_b, isi_s, isi_t, isi_ft, isi_l, isi_r, isi_n, tru_b, tru_i, tru_t, tru_ft, tru_l, tru_n, isN_n, isN_b, isN_i, isN_s, isN_t, isN_l, ix_t, ix_ft, ix_l, ix_r, setS_ref, atI_0, atI_1, atI_2, Option.map_some, Option.map_none, kb0, kb1, kb2, kb3, kb4, kb5, kb6, kb7, kb8, kb9, kb10, kb11, kb12, kb13, kb14, kb15, kb16, kb17, kb18, kb19, kb20, kb21, kb22, kb23, kb24, kb25, kb26, kb27, kb28, kb29, sz0, szl0, sz1, szl1, sz2, szl2, sz3, szl3, sz4, szl4, sz5, szl5, sz6, szl6, sz7, szl7, sz8, szl8, sz9, szl9, sz10, szl10, sz11, szl11, sz12, szl12, sz13, szl13, sz14, szl14, sz15, szl15, sz16, szl16, sz17, szl17, sz18, szl18, sz19, szl19, sz20, szl20, sz21, szl21, sz22, szl22, sz23, szl23, sz24, szl24, sz25, szl25, sz26, szl26, sz27, szl27, sz28, szl28, sz29, szl29, sz30, szl30, sz31, szl31, sz32, szl32, sz33, szl33, sz34, szl34, sz35, szl35, sz36, szl36, sz37, szl37, sz38, szl38, sz39, szl39, sz40, szl40]
  refine wpF_is ht ?_
  simp only [List.replicate, List.cons_append, List.nil_append, List.length_cons, List.length_nil, Nat.reduceAdd, bq_ok, bq_ex, wp_pure, wp_fail, wp_getS, oQ_some, oQ_ite, bqS_ok, bqS_ex, sqS_nx, sqS_rt, sqS_bk, sqS_ct, sqS_ex, wpS_next, wpS_break, wpS_cont, wpS_retN, wpS_setT, stQ_some, wp_C, wp_call, wp_callv, bqF_ok, bqF_ex, wp_new, wp_newv, fqS_nx, fqS_rt, fqS_ex, wpS_for, wp_comp, wp_dVar, vQ_v, vQ_o, List.getElem?_cons_zero, List.getElem?_cons_succ, List.set_cons_zero, List.set_cons_succ, wp_d1, wp_k1, wp_d2, wp_k2, wp_k2b, wp_dT, wp_kT, wp_dTru, wp_kTru, wp_dNotT, wp_kNot, wp_dAndT, wp_kAnd, wp_dOrT, wp_kOr, wp_dAndV, wp_kAndV, wp_kAndVb, wp_dOrV, wp_kOrV, wp_kOrVb, wp_dNotV, wp_kNotV, wp_kNotVb, wp_dIf, wp_kIf, wp_dChain, wp_kCh, wp_kCh2, wp_kCh3, wp_aNil, wp_aCons, wp_kCons, wp_kCons2, wp_dTup, wp_kTup, wp_dLst, wp_kLst, wp_dN, wp_kN, wp_dLs, wp_kLs, wp_lDisp, wp_kDisp, wp_lRng, wp_kRng, wp_dItR, wp_kItR, wp_dItS, wp_kItS, wp_tTrue, wp_oNo, wp_oSome, wp_kSome, wp_dSl, wp_kSl, wp_kSl1, wp_kSl2, ws_ret, ws_kRet, ws_expr, ws_kExpr, ws_if, ws_kIfS, ws_set, ws_kSet, ws_setO, ws_kSetO, ws_kSetT, ws_setR, ws_kSetR0, ws_kSetR1, ws_kSetR2, items_t, items_ft, items_l, items_r, setAll, Bool.not_true, Bool.not_false, if_true, ite_true, ite_false, ↓reduceIte, Bool.false_eq_true, Int.reduceLT, Int.reduceLE, Nat.reduceLT, Nat.reduceLeDiff, Nat.reducePow, Int.reducePow, Int.reduceToNat, Int.reduceNeg, Int.reduceSub, Int.reduceAdd, and_self, and_true, true_and, decide_eq_true_eq, decide_true, decide_false, List.length_map, ixN_31, ixN_32, ixN_30, wipeE, restE, lcQ, Option.getD_some, add_i, add_t, add_l, sub_i, mul_i, mul_t, mul_l, fdiv_i, mod_i, pow_18, neg_i, lt_i, le_i, gt_i, ge_i, eq_i, ne_i, eq_b, len_t, len_ft, len_l, len_r, abs_i, int_i, list_t, list_ft, list_l, list_r, tuple_t, tuple_ft, tuple_l, isi_i, isi_b, isi_s, isi_t, isi_ft, isi_l, isi_r, isi_n, tru_b, tru_i, tru_t, tru_ft, tru_l, tru_n, isN_n, isN_b, isN_i, isN_s, isN_t, isN_l, ix_t, ix_ft, ix_l, ix_r, setS_ref, atI_0, atI_1, atI_2, Option.map_some, Option.map_none, kb0, kb1, kb2, kb3, kb4, kb5, kb6, kb7, kb8, kb9, kb10, kb11, kb12, kb13, kb14, kb15, kb16, kb17, kb18, kb19, kb20, kb21, kb22, kb23, kb24, kb25, kb26, kb27, kb28, kb29, sz0, szl0, sz1, szl1, sz2, szl2, sz3, szl3, sz4, szl4, sz5, szl5, sz6, szl6, sz7, szl7, sz8, szl8, sz9, szl9, sz10, szl10, sz11, szl11, sz12, szl12, sz13, szl13, sz14, szl14, sz15, szl15, sz16, szl16, sz17, szl17, sz18, szl18, sz19, szl19, sz20, szl20, sz21, szl21, sz22, szl22, sz23, szl23, sz24, szl24, sz25, szl25, sz26, szl26, sz27, szl27, sz28, szl28, sz29, szl29, sz30, szl30, sz31, szl31, sz32, szl32, sz33, szl33, sz34, szl34, sz35, szl35, sz36, szl36, sz37, szl37, sz38, szl38, sz39, szl39, sz40, szl40]
  rw [ws_kAppR1, appS_at sT_at (by rw [sizeLine_eq]; omega), sT_set]
  have eg : ixP (sT S (ts ++ [.tup [.str k, .str (tx w), .int (a.length + 1)]])) (.ref S.length) (.int (-1)) = some (.tup [.str k, .str (tx w), .int (a.length + 1)]) := by
    rw [ix_sT, atI_last (by simp)]
    simp
  have ew : lenP (sT S (ts ++ [.tup [.str k, .str (tx w), .int (a.length + 1)]])) [.str (tx w)] = some (.int w.length) := len_tx (by rw [sizeLine_eq]; omega)
  simp only [List.replicate, List.cons_append, List.nil_append, List.length_cons, List.length_nil, Nat.reduceAdd, bq_ok, bq_ex, wp_pure, wp_fail, wp_getS, oQ_some, oQ_ite, bqS_ok, bqS_ex, sqS_nx, sqS_rt, sqS_bk, sqS_ct, sqS_ex, wpS_next, wpS_break, wpS_cont, wpS_retN, wpS_setT, stQ_some, wp_C, wp_call, wp_callv, bqF_ok, bqF_ex, wp_new, wp_newv, fqS_nx, fqS_rt, fqS_ex, wpS_for, wp_comp, wp_dVar, vQ_v, vQ_o, List.getElem?_cons_zero, List.getElem?_cons_succ, List.set_cons_zero, List.set_cons_succ, wp_d1, wp_k1, wp_d2, wp_k2, wp_k2b, wp_dT, wp_kT, wp_dTru, wp_kTru, wp_dNotT, wp_kNot, wp_dAndT, wp_kAnd, wp_dOrT, wp_kOr, wp_dAndV, wp_kAndV, wp_kAndVb, wp_dOrV, wp_kOrV, wp_kOrVb, wp_dNotV, wp_kNotV, wp_kNotVb, wp_dIf, wp_kIf, wp_dChain, wp_kCh, wp_kCh2, wp_kCh3, wp_aNil, wp_aCons, wp_kCons, wp_kCons2, wp_dTup, wp_kTup, wp_dLst, wp_kLst, wp_dN, wp_kN, wp_dLs, wp_kLs, wp_lDisp, wp_kDisp, wp_lRng, wp_kRng, wp_dItR, wp_kItR, wp_dItS, wp_kItS, wp_tTrue, wp_oNo, wp_oSome, wp_kSome, wp_dSl, wp_kSl, wp_kSl1, wp_kSl2, ws_ret, ws_kRet, ws_expr, ws_kExpr, ws_if, ws_kIfS, ws_set, ws_kSet, ws_setO, ws_kSetO, ws_kSetT, ws_setR, ws_kSetR0, ws_kSetR1, ws_kSetR2, items_t, items_ft, items_l, items_r, setAll, Bool.not_true, Bool.not_false, if_true, ite_true, ite_false, ↓reduceIte, Bool.false_eq_true, Int.reduceLT, Int.reduceLE, Nat.reduceLT, Nat.reduceLeDiff, Nat.reducePow, Int.reducePow, Int.reduceToNat, Int.reduceNeg, Int.reduceSub, Int.reduceAdd, and_self, and_true, true_and, decide_eq_true_eq, decide_true, decide_false, List.length_map, ixN_31, ixN_32, ixN_30, wipeE, restE, lcQ, Option.getD_some, add_i, add_t, add_l, sub_i, mul_i, mul_t, mul_l, fdiv_i, mod_i, pow_18, neg_i, lt_i, le_i, gt_i, ge_i, eq_i, ne_i, eq_b, len_t, len_ft, len_l, len_r, abs_i, int_i, list_t, list_ft, list_l, list_r, tuple_t, tuple_ft, tuple_l, isi_i, isi_b, isi_s, isi_t, isi_ft, isi_l, isi_r, isi_n, tru_b, tru_i, tru_t, tru_ft, tru_l, tru_n, isN_n, isN_b, isN_i, isN_s, isN_t, isN_l, ix_t, ix_ft, ix_l, ix_r, setS_ref, atI_0, atI_1, atI_2, Option.map_some, Option.map_none, kb0, kb1, kb2, kb3, kb4, kb5, kb6, kb7, kb8, kb9, kb10, kb11, kb12, kb13, kb14, kb15, kb16, kb17, kb18, kb19, kb20, kb21, kb22, kb23, kb24, kb25, kb26, kb27, kb28, kb29, sz0, szl0, sz1, szl1, sz2, szl2, sz3, szl3, sz4, szl4, sz5, szl5, sz6, szl6, sz7, szl7, sz8, szl8, sz9, szl9, sz10, szl10, sz11, szl11, sz12, szl12, sz13, szl13, sz14, szl14, sz15, szl15, sz16, szl16, sz17, szl17, sz18, szl18, sz19, szl19, sz20, szl20, sz21, szl21, sz22, szl22, sz23, szl23, sz24, szl24, sz25, szl25, sz26, szl26, sz27, szl27, sz28, szl28, sz29, szl29, sz30, szl30, sz31, szl31, sz32, szl32, sz33, szl33, sz34, szl34, sz35, szl35, sz36, szl36, sz37, szl37, sz38, szl38, sz39, szl39, sz40, szl40, eg, ew]
  rw [List.length_append] at h
  exact h
/-- words with the blanks ahead of them -/
def lay (L : List (Nat × List Nat)) : List Nat := L.flatMap fun p => List.replicate p.1 32 ++ p.2
/-- the tokens of laid words -/
def toks (kd : List Nat → Str) : Nat → List (Nat × List Nat) → List PV
  | _, [] => []
  | i, (b, w) :: L => .tup [.str (kd w), .str (tx w), .int ((i + b + 1 : Nat) : Int)] :: toks kd (i + b + w.length) L
theorem sc_blanks {r : List Nat} {n : Nat} {Q : OutS → Prop} : ∀ (k N : Nat) (a : List Nat), (a ++ (List.replicate k 32 ++ r)).length ≤ 1000 → wpS (whL scT scB N) (scE (a ++ (List.replicate k 32 ++ r)) n (a ++ List.replicate k 32).length) S Q →
    wpS (whL scT scB (N + k)) (scE (a ++ (List.replicate k 32 ++ r)) n a.length) S Q
  | 0, N, a, hl, h => by simpa using h
  | k + 1, N, a, hl, h => by
    have e : a ++ (List.replicate (k + 1) 32 ++ r) = a ++ 32 :: (List.replicate k 32 ++ r) := by rw [List.replicate_succ, List.cons_append]
    rw [e] at h hl ⊢
    have e2 : N + (k + 1) = (N + k) + 1 := by omega
    rw [e2]
    refine whL_true (sc_test hl) (sc_blank hl) ?_
    have e3 : a ++ 32 :: (List.replicate k 32 ++ r) = (a ++ [32]) ++ (List.replicate k 32 ++ r) := by simp
    rw [e3] at h hl ⊢
    refine sc_blanks k N (a ++ [32]) hl ?_
    have e4 : (a ++ List.replicate (k + 1) 32).length = ((a ++ [32]) ++ List.replicate k 32).length := by simp
    rw [← e4]
    exact h
def TokOk (kd : List Nat → Str) (w rest : List Nat) : Prop := ∃ c w', w = c :: w' ∧ c ≠ 32 ∧ ∀ (S : Stor) (a : List Nat), (a ++ (w ++ rest)).length ≤ 1000 → Low (a ++ (w ++ rest)) →
  wpF d_token_at_v2 [.str (tx (a ++ (w ++ rest))), .int a.length] S fun o => o = .ok (.tup [.str (kd w), .str (tx w), .int (a.length + 1)]) S
def LayOk (kd : List Nat → Str) (tail : List Nat) : List (Nat × List Nat) → Prop
  | [] => True
  | (_, w) :: L => TokOk kd w (lay L ++ tail) ∧ LayOk kd tail L
def fuel : List (Nat × List Nat) → Nat
  | [] => 0
  | (b, _) :: L => fuel L + 1 + b
theorem sc_words {kd : List Nat → Str} {tail : List Nat} {Q : OutS → Prop} : ∀ (L : List (Nat × List Nat)) (N : Nat) (a : List Nat) (ts : List PV), LayOk kd tail L → (a ++ (lay L ++ tail)).length ≤ 1000 → Low (a ++ (lay L ++ tail)) → ts.length + L.length ≤ 1000 →
    wpS (whL scT scB N) (scE (a ++ (lay L ++ tail)) S.length (a ++ lay L).length) (sT S (ts ++ toks kd a.length L)) Q → wpS (whL scT scB (N + fuel L)) (scE (a ++ (lay L ++ tail)) S.length a.length) (sT S ts) Q
  | [], N, a, ts, _, _, _, _, h => by simpa [lay, toks, fuel] using h
  | (b, w) :: L, N, a, ts, ho, hl, hlow, hk, h => by
    obtain ⟨⟨c, w', rfl, h32, ht⟩, ho⟩ := ho
    have e : a ++ (lay ((b, c :: w') :: L) ++ tail) = a ++ (List.replicate b 32 ++ (c :: w' ++ (lay L ++ tail))) := by simp [lay]
    rw [e] at h hl hlow ⊢
    show wpS (whL scT scB (N + (fuel L + 1 + b))) _ (sT S ts) Q
    have e2 : N + (fuel L + 1 + b) = (N + fuel L + 1) + b := by omega
    rw [e2]
    refine sc_blanks b _ a hl ?_
    have e3 : a ++ (List.replicate b 32 ++ (c :: w' ++ (lay L ++ tail))) = (a ++ List.replicate b 32) ++ c :: (w' ++ (lay L ++ tail)) := by simp
    rw [e3] at h hl hlow ⊢
    generalize ha : a ++ List.replicate b 32 = a' at *
    have hal : a'.length = a.length + b := by rw [← ha]; simp
    have hwl : (c :: w').length ≤ 1000 := by simp at hl ⊢; omega
    have hc : c < 128 := hlow c (by simp)
    have ht := ht (sT S ts) a' (by simpa using hl) (by simpa using hlow)
    have turn := sc_tok (S := S) (ts := ts) (w := c :: w') (k := kd (c :: w')) (Q := fun o => o = .nx (scE (a' ++ c :: (w' ++ (lay L ++ tail))) S.length (a' ++ c :: w').length) (sT S (ts ++ [.tup [.str (kd (c :: w')), .str (tx (c :: w')), .int (a'.length + 1)]]))) h32 hc hwl hl (by simp only [List.length_cons] at hk; omega) (by simpa using ht) rfl
    refine whL_true (sc_test hl) turn ?_
    have e4 : a' ++ c :: (w' ++ (lay L ++ tail)) = (a' ++ c :: w') ++ (lay L ++ tail) := by simp
    rw [e4] at h hl hlow ⊢
    refine sc_words L N (a' ++ c :: w') _ ho hl hlow (by simp only [List.length_cons, List.length_append, List.length_nil] at hk ⊢; omega) ?_
    have e5 : ts ++ toks kd a.length ((b, c :: w') :: L) = ts ++ [.tup [.str (kd (c :: w')), .str (tx (c :: w')), .int (a'.length + 1)]] ++ toks kd (a' ++ c :: w').length L := by
      have e7 : toks kd a.length ((b, c :: w') :: L) = .tup [.str (kd (c :: w')), .str (tx (c :: w')), .int ((a.length + b + 1 : Nat) : Int)] :: toks kd (a.length + b + (c :: w').length) L := id rfl
      rw [e7, List.append_assoc, List.length_append, hal, Int.natCast_add (a.length + b) 1]
      rfl
    have e6 : (a ++ lay ((b, c :: w') :: L)).length = (a' ++ c :: w' ++ lay L).length := by
      rw [← ha]; simp [lay]
    rw [← e5, ← e6]
    exact h
end
end Dn
end
section
set_option Elab.async false
set_option linter.all false
set_option maxRecDepth 100000
set_option maxHeartbeats 1000000
namespace Dn
open PySem L2
section
variable {S : Stor}
theorem nl_tx : ("\n" : Str) = tx [10] := by kernel_rfl
theorem in_nl {t : List Nat} : inSP S (.str "\n") (.str (tx t)) = some (.bl (decide (10 ∈ t))) := by
  show some (PV.bl (inTx (tx t) "\n")) = _
  rw [nl_tx, in_tx]
theorem wp_check_text {t : List Nat} {Q : OutF → Prop} (hl : t.length ≤ 1000) (h : if 300 < t.length ∨ 10 ∈ t then Q (.ex (BV "text") S) else Q (.ok .non S)) : wpF d_check_text_v3 [.str (tx t)] S Q := by
  have hs : t.length ≤ sizeLine := by rw [sizeLine_eq]; omega
  unfold d_check_text_v3
  refine wpF_go rfl ?_
  simp only [List.map, List.replicate, List.cons_append, List.nil_append, List.length_cons, List.length_nil, Nat.reduceAdd, bq_ok, bq_ex, wp_pure, wp_fail, wp_getS, oQ_some, oQ_ite, bqS_ok, bqS_ex, wpS_seq, sqS_nx, sqS_rt, sqS_bk, sqS_ct, sqS_ex, wpS_next, wpS_break, wpS_cont, wpS_retN, wpS_setT, stQ_some, wp_C, wp_call, wp_callv, bqF_ok, bqF_ex, wp_new, wp_newv, fqS_nx, fqS_rt, fqS_ex, wpS_for, wp_comp, wp_dVar, vQ_v, vQ_o, List.getElem?_cons_zero, List.getElem?_cons_succ, List.set_cons_zero, List.set_cons_succ, wp_d1, wp_k1, wp_d2, wp_k2, wp_k2b, wp_dT, wp_kT, wp_dTru, wp_kTru, wp_dNotT, wp_kNot, wp_dAndT, wp_kAnd, wp_dOrT, wp_kOr, wp_dAndV, wp_kAndV, wp_kAndVb, wp_dOrV, wp_kOrV, wp_kOrVb, wp_dNotV, wp_kNotV, wp_kNotVb, wp_dIf, wp_kIf, wp_dChain, wp_kCh, wp_kCh2, wp_kCh3, wp_aNil, wp_aCons, wp_kCons, wp_kCons2, wp_dTup, wp_kTup, wp_dLst, wp_kLst, wp_dN, wp_kN, wp_dLs, wp_kLs, wp_lDisp, wp_kDisp, wp_lRng, wp_kRng, wp_dItR, wp_kItR, wp_dItS, wp_kItS, wp_tTrue, wp_oNo, wp_oSome, wp_kSome, wp_dSl, wp_kSl, wp_kSl1, wp_kSl2, ws_ret, ws_kRet, ws_expr, ws_kExpr, ws_if, ws_kIfS, ws_set, ws_kSet, ws_setO, ws_kSetO, ws_kSetT, ws_setR, ws_kSetR0, ws_kSetR1, ws_kSetR2, items_t, items_ft, items_l, items_r, setAll, Bool.not_true, Bool.not_false, if_true, ite_true, ite_false, ↓reduceIte, Bool.false_eq_true, Int.reduceLT, Int.reduceLE, Nat.reduceLT, Nat.reduceLeDiff, Nat.reducePow, Int.reducePow, Int.reduceToNat, Int.reduceNeg, Int.reduceSub, Int.reduceAdd, and_self, and_true, true_and, decide_eq_true_eq, decide_true, decide_false, List.length_map, ixN_31, ixN_32, ixN_30, wipeE, restE, lcQ, Option.getD_some, add_i, add_t, add_l, sub_i, mul_i, mul_t, mul_l, fdiv_i, mod_i, pow_18, neg_i, lt_i, le_i, gt_i, ge_i, eq_i, ne_i, eq_b, len_t, len_ft, len_l, len_r, abs_i, int_i, list_t, list_ft, list_l, list_r, tuple_t, tuple_ft, tuple_l, isi_i, isi_b, isi_s, isi_t, isi_ft, isi_l, isi_r, isi_n, tru_b, tru_i, tru_t, tru_ft, tru_l, tru_n, isN_n, isN_b, isN_i, isN_s, isN_t, isN_l, ix_t, ix_ft, ix_l, ix_r, ix_ref, setS_ref, atI_0, atI_1, atI_2, Option.map_some, Option.map_none, kb0, kb1, kb2, kb3, kb4, kb5, kb6, kb7, kb8, kb9, kb10, kb11, kb12, kb13, kb14, kb15, kb16, kb17, kb18, kb19, kb20, kb21, kb22, kb23, kb24, kb25, kb26, kb27, kb28, kb29, sz0, szl0, sz1, szl1, sz2, szl2, sz3, szl3, sz4, szl4, sz5, szl5, sz6, szl6, sz7, szl7, sz8, szl8, sz9, szl9, sz10, szl10, sz11, szl11, sz12, szl12, sz13, szl13, sz14, szl14, sz15, szl15, sz16, szl16, sz17, szl17, sz18, szl18, sz19, szl19, sz20, szl20, sz21, szl21, sz22, szl22, sz23, szl23, sz24, szl24, sz25, szl25, sz26, szl26, sz27, szl27, sz28, szl28, sz29, szl29, sz30, szl30, sz31, szl31, sz32, szl32, sz33, szl33, sz34, szl34, sz35, szl35, sz36, szl36, sz37, szl37, sz38, szl38, sz39, szl39, sz40, szl40, len_tx hs, in_nl]
  by_cases h1 : 300 < t.length
  · rw [if_pos (.inl h1)] at h
    have k1 : (300 : Int) < t.length := by omega
    simp only [List.map, List.replicate, List.cons_append, List.nil_append, List.length_cons, List.length_nil, Nat.reduceAdd, bq_ok, bq_ex, wp_pure, wp_fail, wp_getS, oQ_some, oQ_ite, bqS_ok, bqS_ex, wpS_seq, sqS_nx, sqS_rt, sqS_bk, sqS_ct, sqS_ex, wpS_next, wpS_break, wpS_cont, wpS_retN, wpS_setT, stQ_some, wp_C, wp_call, wp_callv, bqF_ok, bqF_ex, wp_new, wp_newv, fqS_nx, fqS_rt, fqS_ex, wpS_for, wp_comp, wp_dVar, vQ_v, vQ_o, List.getElem?_cons_zero, List.getElem?_cons_succ, List.set_cons_zero, List.set_cons_succ, wp_d1, wp_k1, wp_d2, wp_k2, wp_k2b, wp_dT, wp_kT, wp_dTru, wp_kTru, wp_dNotT, wp_kNot, wp_dAndT, wp_kAnd, wp_dOrT, wp_kOr, wp_dAndV, wp_kAndV, wp_kAndVb, wp_dOrV, wp_kOrV, wp_kOrVb, wp_dNotV, wp_kNotV, wp_kNotVb, wp_dIf, wp_kIf, wp_dChain, wp_kCh, wp_kCh2, wp_kCh3, wp_aNil, wp_aCons, wp_kCons, wp_kCons2, wp_dTup, wp_kTup, wp_dLst, wp_kLst, wp_dN, wp_kN, wp_dLs, wp_kLs, wp_lDisp, wp_kDisp, wp_lRng, wp_kRng, wp_dItR, wp_kItR, wp_dItS, wp_kItS, wp_tTrue, wp_oNo, wp_oSome, wp_kSome, wp_dSl, wp_kSl, wp_kSl1, wp_kSl2, ws_ret, ws_kRet, ws_expr, ws_kExpr, ws_if, ws_kIfS, ws_set, ws_kSet, ws_setO, ws_kSetO, ws_kSetT, ws_setR, ws_kSetR0, ws_kSetR1, ws_kSetR2, items_t, items_ft, items_l, items_r, setAll, Bool.not_true, Bool.not_false, if_true, ite_true, ite_false, ↓reduceIte, Bool.false_eq_true, Int.reduceLT, Int.reduceLE, Nat.reduceLT, Nat.reduceLeDiff, Nat.reducePow, Int.reducePow, Int.reduceToNat, Int.reduceNeg, Int.reduceSub, Int.reduceAdd, and_self, and_true, true_and, decide_eq_true_eq, decide_true, decide_false, List.length_map, ixN_31, ixN_32, ixN_30, wipeE, restE, lcQ, Option.getD_some, add_i, add_t, add_l, sub_i, mul_i, mul_t, mul_l, fdiv_i, mod_i, pow_18, neg_i, lt_i, le_i, gt_i, ge_i, eq_i, ne_i, eq_b, len_t, len_ft, len_l, len_r, abs_i, int_i, list_t, list_ft, list_l, list_r, tuple_t, tuple_ft, tuple_l, isi_i, isi_b, isi_s, isi_t, isi_ft, isi_l, isi_r, isi_n, tru_b, tru_i, tru_t, tru_ft, tru_l, tru_n, isN_n, isN_b, isN_i, isN_s, isN_t, isN_l, ix_t, ix_ft, ix_l, ix_r, ix_ref, setS_ref, atI_0, atI_1, atI_2, Option.map_some, Option.map_none, kb0, kb1, kb2, kb3, kb4, kb5, kb6, kb7, kb8, kb9, kb10, kb11, kb12, kb13, kb14, kb15, kb16, kb17, kb18, kb19, kb20, kb21, kb22, kb23, kb24, kb25, kb26, kb27, kb28, kb29, sz0, szl0, sz1, szl1, sz2, szl2, sz3, szl3, sz4, szl4, sz5, szl5, sz6, szl6, sz7, szl7, sz8, szl8, sz9, szl9, sz10, szl10, sz11, szl11, sz12, szl12, sz13, szl13, sz14, szl14, sz15, szl15, sz16, szl16, sz17, szl17, sz18, szl18, sz19, szl19, sz20, szl20, sz21, szl21, sz22, szl22, sz23, szl23, sz24, szl24, sz25, szl25, sz26, szl26, sz27, szl27, sz28, szl28, sz29, szl29, sz30, szl30, sz31, szl31, sz32, szl32, sz33, szl33, sz34, szl34, sz35, szl35, sz36, szl36, sz37, szl37, sz38, szl38, sz39, szl39, sz40, szl40, k1, wpS_raise, wpS_exv]
    exact h
  have k1 : ¬ (300 : Int) < t.length := by omega
  by_cases h2 : 10 ∈ t
  · rw [if_pos (.inr h2)] at h
    simp only [List.map, List.replicate, List.cons_append, List.nil_append, List.length_cons, List.length_nil, Nat.reduceAdd, bq_ok, bq_ex, wp_pure, wp_fail, wp_getS, oQ_some, oQ_ite, bqS_ok, bqS_ex, wpS_seq, sqS_nx, sqS_rt, sqS_bk, sqS_ct, sqS_ex, wpS_next, wpS_break, wpS_cont, wpS_retN, wpS_setT, stQ_some, wp_C, wp_call, wp_callv, bqF_ok, bqF_ex, wp_new, wp_newv, fqS_nx, fqS_rt, fqS_ex, wpS_for, wp_comp, wp_dVar, vQ_v, vQ_o, List.getElem?_cons_zero, List.getElem?_cons_succ, List.set_cons_zero, List.set_cons_succ, wp_d1, wp_k1, wp_d2, wp_k2, wp_k2b, wp_dT, wp_kT, wp_dTru, wp_kTru, wp_dNotT, wp_kNot, wp_dAndT, wp_kAnd, wp_dOrT, wp_kOr, wp_dAndV, wp_kAndV, wp_kAndVb, wp_dOrV, wp_kOrV, wp_kOrVb, wp_dNotV, wp_kNotV, wp_kNotVb, wp_dIf, wp_kIf, wp_dChain, wp_kCh, wp_kCh2, wp_kCh3, wp_aNil, wp_aCons, wp_kCons, wp_kCons2, wp_dTup, wp_kTup, wp_dLst, wp_kLst, wp_dN, wp_kN, wp_dLs, wp_kLs, wp_lDisp, wp_kDisp, wp_lRng, wp_kRng, wp_dItR, wp_kItR, wp_dItS, wp_kItS, wp_tTrue, wp_oNo, wp_oSome, wp_kSome, wp_dSl, wp_kSl, wp_kSl1, wp_kSl2, ws_ret, ws_kRet, ws_expr, ws_kExpr, ws_if, ws_kIfS, ws_set, ws_kSet, ws_setO, ws_kSetO, ws_kSetT, ws_setR, ws_kSetR0, ws_kSetR1, ws_kSetR2, items_t, items_ft, items_l, items_r, setAll, Bool.not_true, Bool.not_false, if_true, ite_true, ite_false, ↓reduceIte, Bool.false_eq_true, Int.reduceLT, Int.reduceLE, Nat.reduceLT, Nat.reduceLeDiff, Nat.reducePow, Int.reducePow, Int.reduceToNat, Int.reduceNeg, Int.reduceSub, Int.reduceAdd, and_self, and_true, true_and, decide_eq_true_eq, decide_true, decide_false, List.length_map, ixN_31, ixN_32, ixN_30, wipeE, restE, lcQ, Option.getD_some, add_i, add_t, add_l, sub_i, mul_i, mul_t, mul_l, fdiv_i, mod_i, pow_18, neg_i, lt_i, le_i, gt_i, ge_i, eq_i, ne_i, eq_b, len_t, len_ft, len_l, len_r, abs_i, int_i, list_t, list_ft, list_l, list_r, tuple_t, tuple_ft, tuple_l, isi_i, isi_b, isi_s, isi_t, isi_ft, isi_l, isi_r, isi_n, tru_b, tru_i, tru_t, tru_ft, tru_l, tru_n, isN_n, isN_b, isN_i, isN_s, isN_t, isN_l, ix_t, ix_ft, ix_l, ix_r, ix_ref, setS_ref, atI_0, atI_1, atI_2, Option.map_some, Option.map_none, kb0, kb1, kb2, kb3, kb4, kb5, kb6, kb7, kb8, kb9, kb10, kb11, kb12, kb13, kb14, kb15, kb16, kb17, kb18, kb19, kb20, kb21, kb22, kb23, kb24, kb25, kb26, kb27, kb28, kb29, sz0, szl0, sz1, szl1, sz2, szl2, sz3, szl3, sz4, szl4, sz5, szl5, sz6, szl6, sz7, szl7, sz8, szl8, sz9, szl9, sz10, szl10, sz11, szl11, sz12, szl12, sz13, szl13, sz14, szl14, sz15, szl15, sz16, szl16, sz17, szl17, sz18, szl18, sz19, szl19, sz20, szl20, sz21, szl21, sz22, szl22, sz23, szl23, sz24, szl24, sz25, szl25, sz26, szl26, sz27, szl27, sz28, szl28, sz29, szl29, sz30, szl30, sz31, szl31, sz32, szl32, sz33, szl33, sz34, szl34, sz35, szl35, sz36, szl36, sz37, szl37, sz38, szl38, sz39, szl39, sz40, szl40, k1, h2, wpS_raise, wpS_exv]
    exact h
  · rw [if_neg (fun z => z.elim h1 h2)] at h
    simp only [List.map, List.replicate, List.cons_append, List.nil_append, List.length_cons, List.length_nil, Nat.reduceAdd, bq_ok, bq_ex, wp_pure, wp_fail, wp_getS, oQ_some, oQ_ite, bqS_ok, bqS_ex, wpS_seq, sqS_nx, sqS_rt, sqS_bk, sqS_ct, sqS_ex, wpS_next, wpS_break, wpS_cont, wpS_retN, wpS_setT, stQ_some, wp_C, wp_call, wp_callv, bqF_ok, bqF_ex, wp_new, wp_newv, fqS_nx, fqS_rt, fqS_ex, wpS_for, wp_comp, wp_dVar, vQ_v, vQ_o, List.getElem?_cons_zero, List.getElem?_cons_succ, List.set_cons_zero, List.set_cons_succ, wp_d1, wp_k1, wp_d2, wp_k2, wp_k2b, wp_dT, wp_kT, wp_dTru, wp_kTru, wp_dNotT, wp_kNot, wp_dAndT, wp_kAnd, wp_dOrT, wp_kOr, wp_dAndV, wp_kAndV, wp_kAndVb, wp_dOrV, wp_kOrV, wp_kOrVb, wp_dNotV, wp_kNotV, wp_kNotVb, wp_dIf, wp_kIf, wp_dChain, wp_kCh, wp_kCh2, wp_kCh3, wp_aNil, wp_aCons, wp_kCons, wp_kCons2, wp_dTup, wp_kTup, wp_dLst, wp_kLst, wp_dN, wp_kN, wp_dLs, wp_kLs, wp_lDisp, wp_kDisp, wp_lRng, wp_kRng, wp_dItR, wp_kItR, wp_dItS, wp_kItS, wp_tTrue, wp_oNo, wp_oSome, wp_kSome, wp_dSl, wp_kSl, wp_kSl1, wp_kSl2, ws_ret, ws_kRet, ws_expr, ws_kExpr, ws_if, ws_kIfS, ws_set, ws_kSet, ws_setO, ws_kSetO, ws_kSetT, ws_setR, ws_kSetR0, ws_kSetR1, ws_kSetR2, items_t, items_ft, items_l, items_r, setAll, Bool.not_true, Bool.not_false, if_true, ite_true, ite_false, ↓reduceIte, Bool.false_eq_true, Int.reduceLT, Int.reduceLE, Nat.reduceLT, Nat.reduceLeDiff, Nat.reducePow, Int.reducePow, Int.reduceToNat, Int.reduceNeg, Int.reduceSub, Int.reduceAdd, and_self, and_true, true_and, decide_eq_true_eq, decide_true, decide_false, List.length_map, ixN_31, ixN_32, ixN_30, wipeE, restE, lcQ, Option.getD_some, add_i, add_t, add_l, sub_i, mul_i, mul_t, mul_l, fdiv_i, mod_i, pow_18, neg_i, lt_i, le_i, gt_i, ge_i, eq_i, ne_i, eq_b, len_t, len_ft, len_l, len_r, abs_i, int_i, list_t, list_ft, list_l, list_r, tuple_t, tuple_ft, tuple_l, isi_i, isi_b, isi_s, isi_t, isi_ft, isi_l, isi_r, isi_n, tru_b, tru_i, tru_t, tru_ft, tru_l, tru_n, isN_n, isN_b, isN_i, isN_s, isN_t, isN_l, ix_t, ix_ft, ix_l, ix_r, ix_ref, setS_ref, atI_0, atI_1, atI_2, Option.map_some, Option.map_none, kb0, kb1, kb2, kb3, kb4, kb5, kb6, kb7, kb8, kb9, kb10, kb11, kb12, kb13, kb14, kb15, kb16, kb17, kb18, kb19, kb20, kb21, kb22, kb23, kb24, kb25, kb26, kb27, kb28, kb29, sz0, szl0, sz1, szl1, sz2, szl2, sz3, szl3, sz4, szl4, sz5, szl5, sz6, szl6, sz7, szl7, sz8, szl8, sz9, szl9, sz10, szl10, sz11, szl11, sz12, szl12, sz13, szl13, sz14, szl14, sz15, szl15, sz16, szl16, sz17, szl17, sz18, szl18, sz19, szl19, sz20, szl20, sz21, szl21, sz22, szl22, sz23, szl23, sz24, szl24, sz25, szl25, sz26, szl26, sz27, szl27, sz28, szl28, sz29, szl29, sz30, szl30, sz31, szl31, sz32, szl32, sz33, szl33, sz34, szl34, sz35, szl35, sz36, szl36, sz37, szl37, sz38, szl38, sz39, szl39, sz40, szl40, k1, h2, wpS_raise, wpS_exv]
    exact h
/-- what is no text -/
theorem wp_check_no {p : PV} {Q : OutF → Prop} (hp : isiP "str" S p = some (.bl false)) (h : Q (.ex (BV "text") S)) : wpF d_check_text_v3 [p] S Q := by
  unfold d_check_text_v3
  refine wpF_go rfl ?_
  simp only [List.map, List.replicate, List.cons_append, List.nil_append, List.length_cons, List.length_nil, Nat.reduceAdd, bq_ok, bq_ex, wp_pure, wp_fail, wp_getS, oQ_some, oQ_ite, bqS_ok, bqS_ex, wpS_seq, sqS_nx, sqS_rt, sqS_bk, sqS_ct, sqS_ex, wpS_next, wpS_break, wpS_cont, wpS_retN, wpS_setT, stQ_some, wp_C, wp_call, wp_callv, bqF_ok, bqF_ex, wp_new, wp_newv, fqS_nx, fqS_rt, fqS_ex, wpS_for, wp_comp, wp_dVar, vQ_v, vQ_o, List.getElem?_cons_zero, List.getElem?_cons_succ, List.set_cons_zero, List.set_cons_succ, wp_d1, wp_k1, wp_d2, wp_k2, wp_k2b, wp_dT, wp_kT, wp_dTru, wp_kTru, wp_dNotT, wp_kNot, wp_dAndT, wp_kAnd, wp_dOrT, wp_kOr, wp_dAndV, wp_kAndV, wp_kAndVb, wp_dOrV, wp_kOrV, wp_kOrVb, wp_dNotV, wp_kNotV, wp_kNotVb, wp_dIf, wp_kIf, wp_dChain, wp_kCh, wp_kCh2, wp_kCh3, wp_aNil, wp_aCons, wp_kCons, wp_kCons2, wp_dTup, wp_kTup, wp_dLst, wp_kLst, wp_dN, wp_kN, wp_dLs, wp_kLs, wp_lDisp, wp_kDisp, wp_lRng, wp_kRng, wp_dItR, wp_kItR, wp_dItS, wp_kItS, wp_tTrue, wp_oNo, wp_oSome, wp_kSome, wp_dSl, wp_kSl, wp_kSl1, wp_kSl2, ws_ret, ws_kRet, ws_expr, ws_kExpr, ws_if, ws_kIfS, ws_set, ws_kSet, ws_setO, ws_kSetO, ws_kSetT, ws_setR, ws_kSetR0, ws_kSetR1, ws_kSetR2, items_t, items_ft, items_l, items_r, setAll, Bool.not_true, Bool.not_false, if_true, ite_true, ite_false, ↓reduceIte, Bool.false_eq_true, Int.reduceLT, Int.reduceLE, Nat.reduceLT, Nat.reduceLeDiff, Nat.reducePow, Int.reducePow, Int.reduceToNat, Int.reduceNeg, Int.reduceSub, Int.reduceAdd, and_self, and_true, true_and, decide_eq_true_eq, decide_true, decide_false, List.length_map, ixN_31, ixN_32, ixN_30, wipeE, restE, lcQ, Option.getD_some, add_i, add_t, add_l, sub_i, mul_i, mul_t, mul_l, fdiv_i, mod_i, pow_18, neg_i, lt_i, le_i, gt_i, ge_i, eq_i, ne_i, eq_b, len_t, len_ft, len_l, len_r, abs_i, int_i, list_t, list_ft, list_l, list_r, tuple_t, tuple_ft, tuple_l, isi_i, isi_b, isi_s, isi_t, isi_ft, isi_l, isi_r, isi_n, tru_b, tru_i, tru_t, tru_ft, tru_l, tru_n, isN_n, isN_b, isN_i, isN_s, isN_t, isN_l, ix_t, ix_ft, ix_l, ix_r, ix_ref, setS_ref, atI_0, atI_1, atI_2, Option.map_some, Option.map_none, kb0, kb1, kb2, kb3, kb4, kb5, kb6, kb7, kb8, kb9, kb10, kb11, kb12, kb13, kb14, kb15, kb16, kb17, kb18, kb19, kb20, kb21, kb22, kb23, kb24, kb25, kb26, kb27, kb28, kb29, sz0, szl0, sz1, szl1, sz2, szl2, sz3, szl3, sz4, szl4, sz5, szl5, sz6, szl6, sz7, szl7, sz8, szl8, sz9, szl9, sz10, szl10, sz11, szl11, sz12, szl12, sz13, szl13, sz14, szl14, sz15, szl15, sz16, szl16, sz17, szl17, sz18, szl18, sz19, szl19, sz20, szl20, sz21, szl21, sz22, szl22, sz23, szl23, sz24, szl24, sz25, szl25, sz26, szl26, sz27, szl27, sz28, szl28, sz29, szl29, sz30, szl30, sz31, szl31, sz32, szl32, sz33, szl33, sz34, szl34, sz35, szl35, sz36, szl36, sz37, szl37, sz38, szl38, sz39, szl39, sz40, szl40, hp, wpS_raise, wpS_exv]
  exact h
theorem wp_scan_ok {kd : List Nat → Str} {L : List (Nat × List Nat)} {k : Nat} {Q : OutF → Prop} (ho : LayOk kd (List.replicate k 32) L) (hl : (lay L ++ List.replicate k 32).length ≤ 300) (hlow : Low (lay L ++ List.replicate k 32)) (h10 : ¬ 10 ∈ lay L ++ List.replicate k 32) (hL : L.length ≤ 500) (hf : fuel L + k < 1000000)
    (h : Q (.ok (.ref S.length) (sT S (toks kd 0 L ++ [.tup [.str "end", .str "", .int ((lay L ++ List.replicate k 32).length + 1)]])))) : wpF d_scan_v5 [.str (tx (lay L ++ List.replicate k 32))] S Q := by
  have hs : (lay L ++ List.replicate k 32).length ≤ sizeLine := by rw [sizeLine_eq]; omega
  rw [scan_eq]
  refine wpF_go rfl ?_
  rw [wpS_seq]
  simp only [List.map, List.replicate, List.cons_append, List.nil_append, List.length_cons, List.length_nil, Nat.reduceAdd, bq_ok, bq_ex, wp_pure, wp_fail, wp_getS, oQ_some, oQ_ite, bqS_ok, bqS_ex, sqS_nx, sqS_rt, sqS_bk, sqS_ct, sqS_ex, wpS_next, wpS_break, wpS_cont, wpS_retN, wpS_setT, stQ_some, wp_C, wp_call, wp_callv, bqF_ok, bqF_ex, wp_new, wp_newv, fqS_nx, fqS_rt, fqS_ex, wpS_for, wp_comp, wp_dVar, vQ_v, vQ_o, List.getElem?_cons_zero, List.getElem?_cons_succ, List.set_cons_zero, List.set_cons_succ, wp_d1, wp_k1, wp_d2, wp_k2, wp_k2b, wp_dT, wp_kT, wp_dTru, wp_kTru, wp_dNotT, wp_kNot, wp_dAndT, wp_kAnd, wp_dOrT, wp_kOr, wp_dAndV, wp_kAndV, wp_kAndVb, wp_dOrV, wp_kOrV, wp_kOrVb, wp_dNotV, wp_kNotV, wp_kNotVb, wp_dIf, wp_kIf, wp_dChain, wp_kCh, wp_kCh2, wp_kCh3, wp_aNil, wp_aCons, wp_kCons, wp_kCons2, wp_dTup, wp_kTup, wp_dLst, wp_kLst, wp_dN, wp_kN, wp_dLs, wp_kLs, wp_lDisp, wp_kDisp, wp_lRng, wp_kRng, wp_dItR, wp_kItR, wp_dItS, wp_kItS, wp_tTrue, wp_oNo, wp_oSome, wp_kSome, wp_dSl, wp_kSl, wp_kSl1, wp_kSl2, ws_ret, ws_kRet, ws_expr, ws_kExpr, ws_if, ws_kIfS, ws_set, ws_kSet, ws_setO, ws_kSetO, ws_kSetT, ws_setR, ws_kSetR0, ws_kSetR1, ws_kSetR2, items_t, items_ft, items_l, items_r, setAll, Bool.not_true, Bool.not_false, if_true, ite_true, ite_false, ↓reduceIte, Bool.false_eq_true, Int.reduceLT, Int.reduceLE, Nat.reduceLT, Nat.reduceLeDiff, Nat.reducePow, Int.reducePow, Int.reduceToNat, Int.reduceNeg, Int.reduceSub, Int.reduceAdd, and_self, and_true, true_and, decide_eq_true_eq, decide_true, decide_false, List.length_map, ixN_31, ixN_32, ixN_30, wipeE, restE, lcQ, Option.getD_some, add_i, add_t, add_l, sub_i, mul_i, mul_t, mul_l, fdiv_i, mod_i, pow_18, neg_i, lt_i, le_i, gt_i, ge_i, eq_i, ne_i, eq_b, len_t, len_ft, len_l, len_r, abs_i, int_i, list_t, list_ft, list_l, list_r, tuple_t, tuple_ft, tuple_l, isi_i, isi_b, isi_s, isi_t, isi_ft, isi_l, isi_r, isi_n, tru_b, tru_i, tru_t, tru_ft, tru_l, tru_n, isN_n, isN_b, isN_i, isN_s, isN_t, isN_l, ix_t, ix_ft, ix_l, ix_r, ix_ref, setS_ref, atI_0, atI_1, atI_2, Option.map_some, Option.map_none, kb0, kb1, kb2, kb3, kb4, kb5, kb6, kb7, kb8, kb9, kb10, kb11, kb12, kb13, kb14, kb15, kb16, kb17, kb18, kb19, kb20, kb21, kb22, kb23, kb24, kb25, kb26, kb27, kb28, kb29, sz0, szl0, sz1, szl1, sz2, szl2, sz3, szl3, sz4, szl4, sz5, szl5, sz6, szl6, sz7, szl7, sz8, szl8, sz9, szl9, sz10, szl10, sz11, szl11, sz12, szl12, sz13, szl13, sz14, szl14, sz15, szl15, sz16, szl16, sz17, szl17, sz18, szl18, sz19, szl19, sz20, szl20, sz21, szl21, sz22, szl22, sz23, szl23, sz24, szl24, sz25, szl25, sz26, szl26, sz27, szl27, sz28, szl28, sz29, szl29, sz30, szl30, sz31, szl31, sz32, szl32, sz33, szl33, sz34, szl34, sz35, szl35, sz36, szl36, sz37, szl37, sz38, szl38, sz39, szl39, sz40, szl40]
  refine wp_check_text (t := lay L ++ List.replicate k 32) (by omega) ?_
  rw [if_neg (fun z => z.elim (by omega) h10)]
  simp only [List.map, List.replicate, List.cons_append, List.nil_append, List.length_cons, List.length_nil, Nat.reduceAdd, bq_ok, bq_ex, wp_pure, wp_fail, wp_getS, oQ_some, oQ_ite, bqS_ok, bqS_ex, sqS_nx, sqS_rt, sqS_bk, sqS_ct, sqS_ex, wpS_next, wpS_break, wpS_cont, wpS_retN, wpS_setT, stQ_some, wp_C, wp_call, wp_callv, bqF_ok, bqF_ex, wp_new, wp_newv, fqS_nx, fqS_rt, fqS_ex, wpS_for, wp_comp, wp_dVar, vQ_v, vQ_o, List.getElem?_cons_zero, List.getElem?_cons_succ, List.set_cons_zero, List.set_cons_succ, wp_d1, wp_k1, wp_d2, wp_k2, wp_k2b, wp_dT, wp_kT, wp_dTru, wp_kTru, wp_dNotT, wp_kNot, wp_dAndT, wp_kAnd, wp_dOrT, wp_kOr, wp_dAndV, wp_kAndV, wp_kAndVb, wp_dOrV, wp_kOrV, wp_kOrVb, wp_dNotV, wp_kNotV, wp_kNotVb, wp_dIf, wp_kIf, wp_dChain, wp_kCh, wp_kCh2, wp_kCh3, wp_aNil, wp_aCons, wp_kCons, wp_kCons2, wp_dTup, wp_kTup, wp_dLst, wp_kLst, wp_dN, wp_kN, wp_dLs, wp_kLs, wp_lDisp, wp_kDisp, wp_lRng, wp_kRng, wp_dItR, wp_kItR, wp_dItS, wp_kItS, wp_tTrue, wp_oNo, wp_oSome, wp_kSome, wp_dSl, wp_kSl, wp_kSl1, wp_kSl2, ws_ret, ws_kRet, ws_expr, ws_kExpr, ws_if, ws_kIfS, ws_set, ws_kSet, ws_setO, ws_kSetO, ws_kSetT, ws_setR, ws_kSetR0, ws_kSetR1, ws_kSetR2, items_t, items_ft, items_l, items_r, setAll, Bool.not_true, Bool.not_false, if_true, ite_true, ite_false, ↓reduceIte, Bool.false_eq_true, Int.reduceLT, Int.reduceLE, Nat.reduceLT, Nat.reduceLeDiff, Nat.reducePow, Int.reducePow, Int.reduceToNat, Int.reduceNeg, Int.reduceSub, Int.reduceAdd, and_self, and_true, true_and, decide_eq_true_eq, decide_true, decide_false, List.length_map, ixN_31, ixN_32, ixN_30, wipeE, restE, lcQ, Option.getD_some, add_i, add_t, add_l, sub_i, mul_i, mul_t, mul_l, fdiv_i, mod_i, pow_18, neg_i, lt_i, le_i, gt_i, ge_i, eq_i, ne_i, eq_b, len_t, len_ft, len_l, len_r, abs_i, int_i, list_t, list_ft, list_l, list_r, tuple_t, tuple_ft, tuple_l, isi_i, isi_b, isi_s, isi_t, isi_ft, isi_l, isi_r, isi_n, tru_b, tru_i, tru_t, tru_ft, tru_l, tru_n, isN_n, isN_b, isN_i, isN_s, isN_t, isN_l, ix_t, ix_ft, ix_l, ix_r, ix_ref, setS_ref, atI_0, atI_1, atI_2, Option.map_some, Option.map_none, kb0, kb1, kb2, kb3, kb4, kb5, kb6, kb7, kb8, kb9, kb10, kb11, kb12, kb13, kb14, kb15, kb16, kb17, kb18, kb19, kb20, kb21, kb22, kb23, kb24, kb25, kb26, kb27, kb28, kb29, sz0, szl0, sz1, szl1, sz2, szl2, sz3, szl3, sz4, szl4, sz5, szl5, sz6, szl6, sz7, szl7, sz8, szl8, sz9, szl9, sz10, szl10, sz11, szl11, sz12, szl12, sz13, szl13, sz14, szl14, sz15, szl15, sz16, szl16, sz17, szl17, sz18, szl18, sz19, szl19, sz20, szl20, sz21, szl21, sz22, szl22, sz23, szl23, sz24, szl24, sz25, szl25, sz26, szl26, sz27, szl27, sz28, szl28, sz29, szl29, sz30, szl30, sz31, szl31, sz32, szl32, sz33, szl33, sz34, szl34, sz35, szl35, sz36, szl36, sz37, szl37, sz38, szl38, sz39, szl39, sz40, szl40]
  rw [wpS_seq]
  simp only [List.map, List.replicate, List.cons_append, List.nil_append, List.length_cons, List.length_nil, Nat.reduceAdd, bq_ok, bq_ex, wp_pure, wp_fail, wp_getS, oQ_some, oQ_ite, bqS_ok, bqS_ex, sqS_nx, sqS_rt, sqS_bk, sqS_ct, sqS_ex, wpS_next, wpS_break, wpS_cont, wpS_retN, wpS_setT, stQ_some, wp_C, wp_call, wp_callv, bqF_ok, bqF_ex, wp_new, wp_newv, fqS_nx, fqS_rt, fqS_ex, wpS_for, wp_comp, wp_dVar, vQ_v, vQ_o, List.getElem?_cons_zero, List.getElem?_cons_succ, List.set_cons_zero, List.set_cons_succ, wp_d1, wp_k1, wp_d2, wp_k2, wp_k2b, wp_dT, wp_kT, wp_dTru, wp_kTru, wp_dNotT, wp_kNot, wp_dAndT, wp_kAnd, wp_dOrT, wp_kOr, wp_dAndV, wp_kAndV, wp_kAndVb, wp_dOrV, wp_kOrV, wp_kOrVb, wp_dNotV, wp_kNotV, wp_kNotVb, wp_dIf, wp_kIf, wp_dChain, wp_kCh, wp_kCh2, wp_kCh3, wp_aNil, wp_aCons, wp_kCons, wp_kCons2, wp_dTup, wp_kTup, wp_dLst, wp_kLst, wp_dN, wp_kN, wp_dLs, wp_kLs, wp_lDisp, wp_kDisp, wp_lRng, wp_kRng, wp_dItR, wp_kItR, wp_dItS, wp_kItS, wp_tTrue, wp_oNo, wp_oSome, wp_kSome, wp_dSl, wp_kSl, wp_kSl1, wp_kSl2, ws_ret, ws_kRet, ws_expr, ws_kExpr, ws_if, ws_kIfS, ws_set, ws_kSet, ws_setO, ws_kSetO, ws_kSetT, ws_setR, ws_kSetR0, ws_kSetR1, ws_kSetR2, items_t, items_ft, items_l, items_r, setAll, Bool.not_true, Bool.not_false, if_true, ite_true, ite_false, ↓reduceIte, Bool.false_eq_true, Int.reduceLT, Int.reduceLE, Nat.reduceLT, Nat.reduceLeDiff, Nat.reducePow, Int.reducePow, Int.reduceToNat, Int.reduceNeg, Int.reduceSub, Int.reduceAdd, and_self, and_true, true_and, decide_eq_true_eq, decide_true, decide_false, List.length_map, ixN_31, ixN_32, ixN_30, wipeE, restE, lcQ, Option.getD_some, add_i, add_t, add_l, sub_i, mul_i, mul_t, mul_l, fdiv_i, mod_i, pow_18, neg_i, lt_i, le_i, gt_i, ge_i, eq_i, ne_i, eq_b, len_t, len_ft, len_l, len_r, abs_i, int_i, list_t, list_ft, list_l, list_r, tuple_t, tuple_ft, tuple_l, isi_i, isi_b, isi_s, isi_t, isi_ft, isi_l, isi_r, isi_n, tru_b, tru_i, tru_t, tru_ft, tru_l, tru_n, isN_n, isN_b, isN_i, isN_s, isN_t, isN_l, ix_t, ix_ft, ix_l, ix_r, setS_ref, atI_0, atI_1, atI_2, Option.map_some, Option.map_none, kb0, kb1, kb2, kb3, kb4, kb5, kb6, kb7, kb8, kb9, kb10, kb11, kb12, kb13, kb14, kb15, kb16, kb17, kb18, kb19, kb20, kb21, kb22, kb23, kb24, kb25, kb26, kb27, kb28, kb29, sz0, szl0, sz1, szl1, sz2, szl2, sz3, szl3, sz4, szl4, sz5, szl5, sz6, szl6, sz7, szl7, sz8, szl8, sz9, szl9, sz10, szl10, sz11, szl11, sz12, szl12, sz13, szl13, sz14, szl14, sz15, szl15, sz16, szl16, sz17, szl17, sz18, szl18, sz19, szl19, sz20, szl20, sz21, szl21, sz22, szl22, sz23, szl23, sz24, szl24, sz25, szl25, sz26, szl26, sz27, szl27, sz28, szl28, sz29, szl29, sz30, szl30, sz31, szl31, sz32, szl32, sz33, szl33, sz34, szl34, sz35, szl35, sz36, szl36, sz37, szl37, sz38, szl38, sz39, szl39, sz40, szl40, wp_new, wp_newv]
  rw [wpS_seq]
  simp only [List.map, List.replicate, List.cons_append, List.nil_append, List.length_cons, List.length_nil, Nat.reduceAdd, bq_ok, bq_ex, wp_pure, wp_fail, wp_getS, oQ_some, oQ_ite, bqS_ok, bqS_ex, sqS_nx, sqS_rt, sqS_bk, sqS_ct, sqS_ex, wpS_next, wpS_break, wpS_cont, wpS_retN, wpS_setT, stQ_some, wp_C, wp_call, wp_callv, bqF_ok, bqF_ex, wp_new, wp_newv, fqS_nx, fqS_rt, fqS_ex, wpS_for, wp_comp, wp_dVar, vQ_v, vQ_o, List.getElem?_cons_zero, List.getElem?_cons_succ, List.set_cons_zero, List.set_cons_succ, wp_d1, wp_k1, wp_d2, wp_k2, wp_k2b, wp_dT, wp_kT, wp_dTru, wp_kTru, wp_dNotT, wp_kNot, wp_dAndT, wp_kAnd, wp_dOrT, wp_kOr, wp_dAndV, wp_kAndV, wp_kAndVb, wp_dOrV, wp_kOrV, wp_kOrVb, wp_dNotV, wp_kNotV, wp_kNotVb, wp_dIf, wp_kIf, wp_dChain, wp_kCh, wp_kCh2, wp_kCh3, wp_aNil, wp_aCons, wp_kCons, wp_kCons2, wp_dTup, wp_kTup, wp_dLst, wp_kLst, wp_dN, wp_kN, wp_dLs, wp_kLs, wp_lDisp, wp_kDisp, wp_lRng, wp_kRng, wp_dItR, wp_kItR, wp_dItS, wp_kItS, wp_tTrue, wp_oNo, wp_oSome, wp_kSome, wp_dSl, wp_kSl, wp_kSl1, wp_kSl2, ws_ret, ws_kRet, ws_expr, ws_kExpr, ws_if, ws_kIfS, ws_set, ws_kSet, ws_setO, ws_kSetO, ws_kSetT, ws_setR, ws_kSetR0, ws_kSetR1, ws_kSetR2, items_t, items_ft, items_l, items_r, setAll, Bool.not_true, Bool.not_false, if_true, ite_true, ite_false, ↓reduceIte, Bool.false_eq_true, Int.reduceLT, Int.reduceLE, Nat.reduceLT, Nat.reduceLeDiff, Nat.reducePow, Int.reducePow, Int.reduceToNat, Int.reduceNeg, Int.reduceSub, Int.reduceAdd, and_self, and_true, true_and, decide_eq_true_eq, decide_true, decide_false, List.length_map, ixN_31, ixN_32, ixN_30, wipeE, restE, lcQ, Option.getD_some, add_i, add_t, add_l, sub_i, mul_i, mul_t, mul_l, fdiv_i, mod_i, pow_18, neg_i, lt_i, le_i, gt_i, ge_i, eq_i, ne_i, eq_b, len_t, len_ft, len_l, len_r, abs_i, int_i, list_t, list_ft, list_l, list_r, tuple_t, tuple_ft, tuple_l, isi_i, isi_b, isi_s, isi_t, isi_ft, isi_l, isi_r, isi_n, tru_b, tru_i, tru_t, tru_ft, tru_l, tru_n, isN_n, isN_b, isN_i, isN_s, isN_t, isN_l, ix_t, ix_ft, ix_l, ix_r, setS_ref, atI_0, atI_1, atI_2, Option.map_some, Option.map_none, kb0, kb1, kb2, kb3, kb4, kb5, kb6, kb7, kb8, kb9, kb10, kb11, kb12, kb13, kb14, kb15, kb16, kb17, kb18, kb19, kb20, kb21, kb22, kb23, kb24, kb25, kb26, kb27, kb28, kb29, sz0, szl0, sz1, szl1, sz2, szl2, sz3, szl3, sz4, szl4, sz5, szl5, sz6, szl6, sz7, szl7, sz8, szl8, sz9, szl9, sz10, szl10, sz11, szl11, sz12, szl12, sz13, szl13, sz14, szl14, sz15, szl15, sz16, szl16, sz17, szl17, sz18, szl18, sz19, szl19, sz20, szl20, sz21, szl21, sz22, szl22, sz23, szl23, sz24, szl24, sz25, szl25, sz26, szl26, sz27, szl27, sz28, szl28, sz29, szl29, sz30, szl30, sz31, szl31, sz32, szl32, sz33, szl33, sz34, szl34, sz35, szl35, sz36, szl36, sz37, szl37, sz38, szl38, sz39, szl39, sz40, szl40]
  rw [wpS_seq]
  unfold whN
  obtain ⟨N, hN⟩ : ∃ N, 1000000000 = N + 1 + k + fuel L := ⟨1000000000 - (1 + fuel L + k), by omega⟩
  rw [hN]
  refine sc_words L (N + 1 + k) [] [] ho (by simp only [List.nil_append]; omega) hlow (by simp only [List.length_nil]; omega) ?_
  have e1 : ([] : List Nat) ++ (lay L ++ List.replicate k 32) = lay L ++ (List.replicate k 32 ++ []) := by simp
  have e2 : ([] : List PV) ++ toks kd ([] : List Nat).length L = toks kd 0 L := rfl
  have e3 : ([] : List Nat) ++ lay L = lay L := rfl
  rw [e1, e2, e3]
  refine sc_blanks k (N + 1) (lay L) (by rw [List.append_nil]; omega) ?_
  have e4 : lay L ++ (List.replicate k 32 ++ []) = (lay L ++ List.replicate k 32) ++ [] := by simp
  rw [e4]
  have e5 := sc_test (S := sT S (toks kd 0 L)) (a := lay L ++ List.replicate k 32) (r := []) (n := S.length) (by rw [List.append_nil]; omega)
  refine whL_false e5 ?_
  have tl : ∀ (L : List (Nat × List Nat)) (i : Nat), (toks kd i L).length = L.length := fun L => by
    induction L with
    | nil => intro i; rfl
    | cons p L ih => intro i; obtain ⟨b, w⟩ := p; show (toks kd _ L).length + 1 = _; rw [ih]; rfl
  rw [List.append_nil]
  unfold scE
  simp only [List.map, List.replicate, List.cons_append, List.nil_append, List.length_cons, List.length_nil, Nat.reduceAdd, bq_ok, bq_ex, wp_pure, wp_fail, wp_getS, oQ_some, oQ_ite, bqS_ok, bqS_ex, sqS_nx, sqS_rt, sqS_bk, sqS_ct, sqS_ex, wpS_next, wpS_break, wpS_cont, wpS_retN, wpS_setT, stQ_some, wp_C, wp_call, wp_callv, bqF_ok, bqF_ex, wp_new, wp_newv, fqS_nx, fqS_rt, fqS_ex, wpS_for, wp_comp, wp_dVar, vQ_v, vQ_o, List.getElem?_cons_zero, List.getElem?_cons_succ, List.set_cons_zero, List.set_cons_succ, wp_d1, wp_k1, wp_d2, wp_k2, wp_k2b, wp_dT, wp_kT, wp_dTru, wp_kTru, wp_dNotT, wp_kNot, wp_dAndT, wp_kAnd, wp_dOrT, wp_kOr, wp_dAndV, wp_kAndV, wp_kAndVb, wp_dOrV, wp_kOrV, wp_kOrVb, wp_dNotV, wp_kNotV, wp_kNotVb, wp_dIf, wp_kIf, wp_dChain, wp_kCh, wp_kCh2, wp_kCh3, wp_aNil, wp_aCons, wp_kCons, wp_kCons2, wp_dTup, wp_kTup, wp_dLst, wp_kLst, wp_dN, wp_kN, wp_dLs, wp_kLs, wp_lDisp, wp_kDisp, wp_lRng, wp_kRng, wp_dItR, wp_kItR, wp_dItS, wp_kItS, wp_tTrue, wp_oNo, wp_oSome, wp_kSome, wp_dSl, wp_kSl, wp_kSl1, wp_kSl2, ws_ret, ws_kRet, ws_expr, ws_kExpr, ws_if, ws_kIfS, ws_set, ws_kSet, ws_setO, ws_kSetO, ws_kSetT, ws_setR, ws_kSetR0, ws_kSetR1, ws_kSetR2, items_t, items_ft, items_l, items_r, setAll, Bool.not_true, Bool.not_false, if_true, ite_true, ite_false, ↓reduceIte, Bool.false_eq_true, Int.reduceLT, Int.reduceLE, Nat.reduceLT, Nat.reduceLeDiff, Nat.reducePow, Int.reducePow, Int.reduceToNat, Int.reduceNeg, Int.reduceSub, Int.reduceAdd, and_self, and_true, true_and, decide_eq_true_eq, decide_true, decide_false, List.length_map, ixN_31, ixN_32, ixN_30, wipeE, restE, lcQ, Option.getD_some, add_i, add_t, add_l, sub_i, mul_i, mul_t, mul_l, fdiv_i, mod_i, pow_18, neg_i, lt_i, le_i, gt_i, ge_i, eq_i, ne_i, eq_b, len_t, len_ft, len_l, len_r, abs_i, int_i, list_t, list_ft, list_l, list_r, tuple_t, tuple_ft, tuple_l, isi_i, isi_b, isi_s, isi_t, isi_ft, isi_l, isi_r, isi_n, tru_b, tru_i, tru_t, tru_ft, tru_l, tru_n, isN_n, isN_b, isN_i, isN_s, isN_t, isN_l, ix_t, ix_ft, ix_l, ix_r, setS_ref, atI_0, atI_1, atI_2, Option.map_some, Option.map_none, kb0, kb1, kb2, kb3, kb4, kb5, kb6, kb7, kb8, kb9, kb10, kb11, kb12, kb13, kb14, kb15, kb16, kb17, kb18, kb19, kb20, kb21, kb22, kb23, kb24, kb25, kb26, kb27, kb28, kb29, sz0, szl0, sz1, szl1, sz2, szl2, sz3, szl3, sz4, szl4, sz5, szl5, sz6, szl6, sz7, szl7, sz8, szl8, sz9, szl9, sz10, szl10, sz11, szl11, sz12, szl12, sz13, szl13, sz14, szl14, sz15, szl15, sz16, szl16, sz17, szl17, sz18, szl18, sz19, szl19, sz20, szl20, sz21, szl21, sz22, szl22, sz23, szl23, sz24, szl24, sz25, szl25, sz26, szl26, sz27, szl27, sz28, szl28, sz29, szl29, sz30, szl30, sz31, szl31, sz32, szl32, sz33, szl33, sz34, szl34, sz35, szl35, sz36, szl36, sz37, szl37, sz38, szl38, sz39, szl39, sz40, szl40]
  rw [wpS_seq, ws_appR]
  simp only [List.map, List.replicate, List.cons_append, List.nil_append, List.length_cons, List.length_nil, Nat.reduceAdd, bq_ok, bq_ex, wp_pure, wp_fail, wp_getS, oQ_some, oQ_ite, bqS_ok, bqS_ex, sqS_nx, sqS_rt, sqS_bk, sqS_ct, sqS_ex, wpS_next, wpS_break, wpS_cont, wpS_retN, wpS_setT, stQ_some, wp_C, wp_call, wp_callv, bqF_ok, bqF_ex, wp_new, wp_newv, fqS_nx, fqS_rt, fqS_ex, wpS_for, wp_comp, wp_dVar, vQ_v, vQ_o, List.getElem?_cons_zero, List.getElem?_cons_succ, List.set_cons_zero, List.set_cons_succ, wp_d1, wp_k1, wp_d2, wp_k2, wp_k2b, wp_dT, wp_kT, wp_dTru, wp_kTru, wp_dNotT, wp_kNot, wp_dAndT, wp_kAnd, wp_dOrT, wp_kOr, wp_dAndV, wp_kAndV, wp_kAndVb, wp_dOrV, wp_kOrV, wp_kOrVb, wp_dNotV, wp_kNotV, wp_kNotVb, wp_dIf, wp_kIf, wp_dChain, wp_kCh, wp_kCh2, wp_kCh3, wp_aNil, wp_aCons, wp_kCons, wp_kCons2, wp_dTup, wp_kTup, wp_dLst, wp_kLst, wp_dN, wp_kN, wp_dLs, wp_kLs, wp_lDisp, wp_kDisp, wp_lRng, wp_kRng, wp_dItR, wp_kItR, wp_dItS, wp_kItS, wp_tTrue, wp_oNo, wp_oSome, wp_kSome, wp_dSl, wp_kSl, wp_kSl1, wp_kSl2, ws_ret, ws_kRet, ws_expr, ws_kExpr, ws_if, ws_kIfS, ws_set, ws_kSet, ws_setO, ws_kSetO, ws_kSetT, ws_setR, ws_kSetR0, ws_kSetR1, ws_kSetR2, items_t, items_ft, items_l, items_r, setAll, Bool.not_true, Bool.not_false, if_true, ite_true, ite_false, ↓reduceIte, Bool.false_eq_true, Int.reduceLT, Int.reduceLE, Nat.reduceLT, Nat.reduceLeDiff, Nat.reducePow, Int.reducePow, Int.reduceToNat, Int.reduceNeg, Int.reduceSub, Int.reduceAdd, and_self, and_true, true_and, decide_eq_true_eq, decide_true, decide_false, List.length_map, ixN_31, ixN_32, ixN_30, wipeE, restE, lcQ, Option.getD_some, add_i, add_t, add_l, sub_i, mul_i, mul_t, mul_l, fdiv_i, mod_i, pow_18, neg_i, lt_i, le_i, gt_i, ge_i, eq_i, ne_i, eq_b, len_t, len_ft, len_l, len_r, abs_i, int_i, list_t, list_ft, list_l, list_r, tuple_t, tuple_ft, tuple_l, isi_i, isi_b, isi_s, isi_t, isi_ft, isi_l, isi_r, isi_n, tru_b, tru_i, tru_t, tru_ft, tru_l, tru_n, isN_n, isN_b, isN_i, isN_s, isN_t, isN_l, ix_t, ix_ft, ix_l, ix_r, setS_ref, atI_0, atI_1, atI_2, Option.map_some, Option.map_none, kb0, kb1, kb2, kb3, kb4, kb5, kb6, kb7, kb8, kb9, kb10, kb11, kb12, kb13, kb14, kb15, kb16, kb17, kb18, kb19, kb20, kb21, kb22, kb23, kb24, kb25, kb26, kb27, kb28, kb29, sz0, szl0, sz1, szl1, sz2, szl2, sz3, szl3, sz4, szl4, sz5, szl5, sz6, szl6, sz7, szl7, sz8, szl8, sz9, szl9, sz10, szl10, sz11, szl11, sz12, szl12, sz13, szl13, sz14, szl14, sz15, szl15, sz16, szl16, sz17, szl17, sz18, szl18, sz19, szl19, sz20, szl20, sz21, szl21, sz22, szl22, sz23, szl23, sz24, szl24, sz25, szl25, sz26, szl26, sz27, szl27, sz28, szl28, sz29, szl29, sz30, szl30, sz31, szl31, sz32, szl32, sz33, szl33, sz34, szl34, sz35, szl35, sz36, szl36, sz37, szl37, sz38, szl38, sz39, szl39, sz40, szl40]
  rw [ws_kAppR0 sT_at]
  simp only [List.map, List.replicate, List.cons_append, List.nil_append, List.length_cons, List.length_nil, Nat.reduceAdd, bq_ok, bq_ex, wp_pure, wp_fail, wp_getS, oQ_some, oQ_ite, bqS_ok, bqS_ex, sqS_nx, sqS_rt, sqS_bk, sqS_ct, sqS_ex, wpS_next, wpS_break, wpS_cont, wpS_retN, wpS_setT, stQ_some, wp_C, wp_call, wp_callv, bqF_ok, bqF_ex, wp_new, wp_newv, fqS_nx, fqS_rt, fqS_ex, wpS_for, wp_comp, wp_dVar, vQ_v, vQ_o, List.getElem?_cons_zero, List.getElem?_cons_succ, List.set_cons_zero, List.set_cons_succ, wp_d1, wp_k1, wp_d2, wp_k2, wp_k2b, wp_dT, wp_kT, wp_dTru, wp_kTru, wp_dNotT, wp_kNot, wp_dAndT, wp_kAnd, wp_dOrT, wp_kOr, wp_dAndV, wp_kAndV, wp_kAndVb, wp_dOrV, wp_kOrV, wp_kOrVb, wp_dNotV, wp_kNotV, wp_kNotVb, wp_dIf, wp_kIf, wp_dChain, wp_kCh, wp_kCh2, wp_kCh3, wp_aNil, wp_aCons, wp_kCons, wp_kCons2, wp_dTup, wp_kTup, wp_dLst, wp_kLst, wp_dN, wp_kN, wp_dLs, wp_kLs, wp_lDisp, wp_kDisp, wp_lRng, wp_kRng, wp_dItR, wp_kItR, wp_dItS, wp_kItS, wp_tTrue, wp_oNo, wp_oSome, wp_kSome, wp_dSl, wp_kSl, wp_kSl1, wp_kSl2, ws_ret, ws_kRet, ws_expr, ws_kExpr, ws_if, ws_kIfS, ws_set, ws_kSet, ws_setO, ws_kSetO, ws_kSetT, ws_setR, ws_kSetR0, ws_kSetR1, ws_kSetR2, items_t, items_ft, items_l, items_r, setAll, Bool.not_true, Bool.not_false, if_true, ite_true, ite_false, ↓reduceIte, Bool.false_eq_true, Int.reduceLT, Int.reduceLE, Nat.reduceLT, Nat.reduceLeDiff, Nat.reducePow, Int.reducePow, Int.reduceToNat, Int.reduceNeg, Int.reduceSub, Int.reduceAdd, and_self, and_true, true_and, decide_eq_true_eq, decide_true, decide_false, List.length_map, ixN_31, ixN_32, ixN_30, wipeE, restE, lcQ, Option.getD_some, add_i, add_t, add_l, sub_i, mul_i, mul_t, mul_l, fdiv_i, mod_i, pow_18, neg_i, lt_i, le_i, gt_i, ge_i, eq_i, ne_i, eq_b, len_t, len_ft, len_l, len_r, abs_i, int_i, list_t, list_ft, list_l, list_r, tuple_t, tuple_ft, tuple_l, isi_i, isi_b, isi_s, isi_t, isi_ft, isi_l, isi_r, isi_n, tru_b, tru_i, tru_t, tru_ft, tru_l, tru_n, isN_n, isN_b, isN_i, isN_s, isN_t, isN_l, ix_t, ix_ft, ix_l, ix_r, setS_ref, atI_0, atI_1, atI_2, Option.map_some, Option.map_none, kb0, kb1, kb2, kb3, kb4, kb5, kb6, kb7, kb8, kb9, kb10, kb11, kb12, kb13, kb14, kb15, kb16, kb17, kb18, kb19, kb20, kb21, kb22, kb23, kb24, kb25, kb26, kb27, kb28, kb29, sz0, szl0, sz1, szl1, sz2, szl2, sz3, szl3, sz4, szl4, sz5, szl5, sz6, szl6, sz7, szl7, sz8, szl8, sz9, szl9, sz10, szl10, sz11, szl11, sz12, szl12, sz13, szl13, sz14, szl14, sz15, szl15, sz16, szl16, sz17, szl17, sz18, szl18, sz19, szl19, sz20, szl20, sz21, szl21, sz22, szl22, sz23, szl23, sz24, szl24, sz25, szl25, sz26, szl26, sz27, szl27, sz28, szl28, sz29, szl29, sz30, szl30, sz31, szl31, sz32, szl32, sz33, szl33, sz34, szl34, sz35, szl35, sz36, szl36, sz37, szl37, sz38, szl38, sz39, szl39, sz40, szl40, len_tx hs]
  rw [ws_kAppR1, appS_at sT_at (by rw [tl, sizeLine_eq]; omega), sT_set]
  simp only [List.map, List.replicate, List.cons_append, List.nil_append, List.length_cons, List.length_nil, Nat.reduceAdd, bq_ok, bq_ex, wp_pure, wp_fail, wp_getS, oQ_some, oQ_ite, bqS_ok, bqS_ex, sqS_nx, sqS_rt, sqS_bk, sqS_ct, sqS_ex, wpS_next, wpS_break, wpS_cont, wpS_retN, wpS_setT, stQ_some, wp_C, wp_call, wp_callv, bqF_ok, bqF_ex, wp_new, wp_newv, fqS_nx, fqS_rt, fqS_ex, wpS_for, wp_comp, wp_dVar, vQ_v, vQ_o, List.getElem?_cons_zero, List.getElem?_cons_succ, List.set_cons_zero, List.set_cons_succ, wp_d1, wp_k1, wp_d2, wp_k2, wp_k2b, wp_dT, wp_kT, wp_dTru, wp_kTru, wp_dNotT, wp_kNot, wp_dAndT, wp_kAnd, wp_dOrT, wp_kOr, wp_dAndV, wp_kAndV, wp_kAndVb, wp_dOrV, wp_kOrV, wp_kOrVb, wp_dNotV, wp_kNotV, wp_kNotVb, wp_dIf, wp_kIf, wp_dChain, wp_kCh, wp_kCh2, wp_kCh3, wp_aNil, wp_aCons, wp_kCons, wp_kCons2, wp_dTup, wp_kTup, wp_dLst, wp_kLst, wp_dN, wp_kN, wp_dLs, wp_kLs, wp_lDisp, wp_kDisp, wp_lRng, wp_kRng, wp_dItR, wp_kItR, wp_dItS, wp_kItS, wp_tTrue, wp_oNo, wp_oSome, wp_kSome, wp_dSl, wp_kSl, wp_kSl1, wp_kSl2, ws_ret, ws_kRet, ws_expr, ws_kExpr, ws_if, ws_kIfS, ws_set, ws_kSet, ws_setO, ws_kSetO, ws_kSetT, ws_setR, ws_kSetR0, ws_kSetR1, ws_kSetR2, items_t, items_ft, items_l, items_r, setAll, Bool.not_true, Bool.not_false, if_true, ite_true, ite_false, ↓reduceIte, Bool.false_eq_true, Int.reduceLT, Int.reduceLE, Nat.reduceLT, Nat.reduceLeDiff, Nat.reducePow, Int.reducePow, Int.reduceToNat, Int.reduceNeg, Int.reduceSub, Int.reduceAdd, and_self, and_true, true_and, decide_eq_true_eq, decide_true, decide_false, List.length_map, ixN_31, ixN_32, ixN_30, wipeE, restE, lcQ, Option.getD_some, add_i, add_t, add_l, sub_i, mul_i, mul_t, mul_l, fdiv_i, mod_i, pow_18, neg_i, lt_i, le_i, gt_i, ge_i, eq_i, ne_i, eq_b, len_t, len_ft, len_l, len_r, abs_i, int_i, list_t, list_ft, list_l, list_r, tuple_t, tuple_ft, tuple_l, isi_i, isi_b, isi_s, isi_t, isi_ft, isi_l, isi_r, isi_n, tru_b, tru_i, tru_t, tru_ft, tru_l, tru_n, isN_n, isN_b, isN_i, isN_s, isN_t, isN_l, ix_t, ix_ft, ix_l, ix_r, setS_ref, atI_0, atI_1, atI_2, Option.map_some, Option.map_none, kb0, kb1, kb2, kb3, kb4, kb5, kb6, kb7, kb8, kb9, kb10, kb11, kb12, kb13, kb14, kb15, kb16, kb17, kb18, kb19, kb20, kb21, kb22, kb23, kb24, kb25, kb26, kb27, kb28, kb29, sz0, szl0, sz1, szl1, sz2, szl2, sz3, szl3, sz4, szl4, sz5, szl5, sz6, szl6, sz7, szl7, sz8, szl8, sz9, szl9, sz10, szl10, sz11, szl11, sz12, szl12, sz13, szl13, sz14, szl14, sz15, szl15, sz16, szl16, sz17, szl17, sz18, szl18, sz19, szl19, sz20, szl20, sz21, szl21, sz22, szl22, sz23, szl23, sz24, szl24, sz25, szl25, sz26, szl26, sz27, szl27, sz28, szl28, sz29, szl29, sz30, szl30, sz31, szl31, sz32, szl32, sz33, szl33, sz34, szl34, sz35, szl35, sz36, szl36, sz37, szl37, sz38, szl38, sz39, szl39, sz40, szl40]
  exact h
/-- what is no text is refused ahead of all -/
theorem wp_scan_no {p : PV} {Q : OutF → Prop} (hc : wpF d_check_text_v3 [p] S fun o => o = .ex (BV "text") S) (h : Q (.ex (BV "text") S)) : wpF d_scan_v5 [p] S Q := by
  rw [scan_eq]
  refine wpF_go rfl ?_
  rw [wpS_seq]
  simp only [List.map, List.replicate, List.cons_append, List.nil_append, List.length_cons, List.length_nil, Nat.reduceAdd, bq_ok, bq_ex, wp_pure, wp_fail, wp_getS, oQ_some, oQ_ite, bqS_ok, bqS_ex, sqS_nx, sqS_rt, sqS_bk, sqS_ct, sqS_ex, wpS_next, wpS_break, wpS_cont, wpS_retN, wpS_setT, stQ_some, wp_C, wp_call, wp_callv, bqF_ok, bqF_ex, wp_new, wp_newv, fqS_nx, fqS_rt, fqS_ex, wpS_for, wp_comp, wp_dVar, vQ_v, vQ_o, List.getElem?_cons_zero, List.getElem?_cons_succ, List.set_cons_zero, List.set_cons_succ, wp_d1, wp_k1, wp_d2, wp_k2, wp_k2b, wp_dT, wp_kT, wp_dTru, wp_kTru, wp_dNotT, wp_kNot, wp_dAndT, wp_kAnd, wp_dOrT, wp_kOr, wp_dAndV, wp_kAndV, wp_kAndVb, wp_dOrV, wp_kOrV, wp_kOrVb, wp_dNotV, wp_kNotV, wp_kNotVb, wp_dIf, wp_kIf, wp_dChain, wp_kCh, wp_kCh2, wp_kCh3, wp_aNil, wp_aCons, wp_kCons, wp_kCons2, wp_dTup, wp_kTup, wp_dLst, wp_kLst, wp_dN, wp_kN, wp_dLs, wp_kLs, wp_lDisp, wp_kDisp, wp_lRng, wp_kRng, wp_dItR, wp_kItR, wp_dItS, wp_kItS, wp_tTrue, wp_oNo, wp_oSome, wp_kSome, wp_dSl, wp_kSl, wp_kSl1, wp_kSl2, ws_ret, ws_kRet, ws_expr, ws_kExpr, ws_if, ws_kIfS, ws_set, ws_kSet, ws_setO, ws_kSetO, ws_kSetT, ws_setR, ws_kSetR0, ws_kSetR1, ws_kSetR2, items_t, items_ft, items_l, items_r, setAll, Bool.not_true, Bool.not_false, if_true, ite_true, ite_false, ↓reduceIte, Bool.false_eq_true, Int.reduceLT, Int.reduceLE, Nat.reduceLT, Nat.reduceLeDiff, Nat.reducePow, Int.reducePow, Int.reduceToNat, Int.reduceNeg, Int.reduceSub, Int.reduceAdd, and_self, and_true, true_and, decide_eq_true_eq, decide_true, decide_false, List.length_map, ixN_31, ixN_32, ixN_30, wipeE, restE, lcQ, Option.getD_some, add_i, add_t, add_l, sub_i, mul_i, mul_t, mul_l, fdiv_i, mod_i, pow_18, neg_i, lt_i, le_i, gt_i, ge_i, eq_i, ne_i, eq_b, len_t, len_ft, len_l, len_r, abs_i, int_i, list_t, list_ft, list_l, list_r, tuple_t, tuple_ft, tuple_l, isi_i, isi_b, isi_s, isi_t, isi_ft, isi_l, isi_r, isi_n, tru_b, tru_i, tru_t, tru_ft, tru_l, tru_n, isN_n, isN_b, isN_i, isN_s, isN_t, isN_l, ix_t, ix_ft, ix_l, ix_r, ix_ref, setS_ref, atI_0, atI_1, atI_2, Option.map_some, Option.map_none, kb0, kb1, kb2, kb3, kb4, kb5, kb6, kb7, kb8, kb9, kb10, kb11, kb12, kb13, kb14, kb15, kb16, kb17, kb18, kb19, kb20, kb21, kb22, kb23, kb24, kb25, kb26, kb27, kb28, kb29, sz0, szl0, sz1, szl1, sz2, szl2, sz3, szl3, sz4, szl4, sz5, szl5, sz6, szl6, sz7, szl7, sz8, szl8, sz9, szl9, sz10, szl10, sz11, szl11, sz12, szl12, sz13, szl13, sz14, szl14, sz15, szl15, sz16, szl16, sz17, szl17, sz18, szl18, sz19, szl19, sz20, szl20, sz21, szl21, sz22, szl22, sz23, szl23, sz24, szl24, sz25, szl25, sz26, szl26, sz27, szl27, sz28, szl28, sz29, szl29, sz30, szl30, sz31, szl31, sz32, szl32, sz33, szl33, sz34, szl34, sz35, szl35, sz36, szl36, sz37, szl37, sz38, szl38, sz39, szl39, sz40, szl40]
  refine wpF_is hc ?_
  simp only [List.map, List.replicate, List.cons_append, List.nil_append, List.length_cons, List.length_nil, Nat.reduceAdd, bq_ok, bq_ex, wp_pure, wp_fail, wp_getS, oQ_some, oQ_ite, bqS_ok, bqS_ex, sqS_nx, sqS_rt, sqS_bk, sqS_ct, sqS_ex, wpS_next, wpS_break, wpS_cont, wpS_retN, wpS_setT, stQ_some, wp_C, wp_call, wp_callv, bqF_ok, bqF_ex, wp_new, wp_newv, fqS_nx, fqS_rt, fqS_ex, wpS_for, wp_comp, wp_dVar, vQ_v, vQ_o, List.getElem?_cons_zero, List.getElem?_cons_succ, List.set_cons_zero, List.set_cons_succ, wp_d1, wp_k1, wp_d2, wp_k2, wp_k2b, wp_dT, wp_kT, wp_dTru, wp_kTru, wp_dNotT, wp_kNot, wp_dAndT, wp_kAnd, wp_dOrT, wp_kOr, wp_dAndV, wp_kAndV, wp_kAndVb, wp_dOrV, wp_kOrV, wp_kOrVb, wp_dNotV, wp_kNotV, wp_kNotVb, wp_dIf, wp_kIf, wp_dChain, wp_kCh, wp_kCh2, wp_kCh3, wp_aNil, wp_aCons, wp_kCons, wp_kCons2, wp_dTup, wp_kTup, wp_dLst, wp_kLst, wp_dN, wp_kN, wp_dLs, wp_kLs, wp_lDisp, wp_kDisp, wp_lRng, wp_kRng, wp_dItR, wp_kItR, wp_dItS, wp_kItS, wp_tTrue, wp_oNo, wp_oSome, wp_kSome, wp_dSl, wp_kSl, wp_kSl1, wp_kSl2, ws_ret, ws_kRet, ws_expr, ws_kExpr, ws_if, ws_kIfS, ws_set, ws_kSet, ws_setO, ws_kSetO, ws_kSetT, ws_setR, ws_kSetR0, ws_kSetR1, ws_kSetR2, items_t, items_ft, items_l, items_r, setAll, Bool.not_true, Bool.not_false, if_true, ite_true, ite_false, ↓reduceIte, Bool.false_eq_true, Int.reduceLT, Int.reduceLE, Nat.reduceLT, Nat.reduceLeDiff, Nat.reducePow, Int.reducePow, Int.reduceToNat, Int.reduceNeg, Int.reduceSub, Int.reduceAdd, and_self, and_true, true_and, decide_eq_true_eq, decide_true, decide_false, List.length_map, ixN_31, ixN_32, ixN_30, wipeE, restE, lcQ, Option.getD_some, add_i, add_t, add_l, sub_i, mul_i, mul_t, mul_l, fdiv_i, mod_i, pow_18, neg_i, lt_i, le_i, gt_i, ge_i, eq_i, ne_i, eq_b, len_t, len_ft, len_l, len_r, abs_i, int_i, list_t, list_ft, list_l, list_r, tuple_t, tuple_ft, tuple_l, isi_i, isi_b, isi_s, isi_t, isi_ft, isi_l, isi_r, isi_n, tru_b, tru_i, tru_t, tru_ft, tru_l, tru_n, isN_n, isN_b, isN_i, isN_s, isN_t, isN_l, ix_t, ix_ft, ix_l, ix_r, ix_ref, setS_ref, atI_0, atI_1, atI_2, Option.map_some, Option.map_none, kb0, kb1, kb2, kb3, kb4, kb5, kb6, kb7, kb8, kb9, kb10, kb11, kb12, kb13, kb14, kb15, kb16, kb17, kb18, kb19, kb20, kb21, kb22, kb23, kb24, kb25, kb26, kb27, kb28, kb29, sz0, szl0, sz1, szl1, sz2, szl2, sz3, szl3, sz4, szl4, sz5, szl5, sz6, szl6, sz7, szl7, sz8, szl8, sz9, szl9, sz10, szl10, sz11, szl11, sz12, szl12, sz13, szl13, sz14, szl14, sz15, szl15, sz16, szl16, sz17, szl17, sz18, szl18, sz19, szl19, sz20, szl20, sz21, szl21, sz22, szl22, sz23, szl23, sz24, szl24, sz25, szl25, sz26, szl26, sz27, szl27, sz28, szl28, sz29, szl29, sz30, szl30, sz31, szl31, sz32, szl32, sz33, szl33, sz34, szl34, sz35, szl35, sz36, szl36, sz37, szl37, sz38, szl38, sz39, szl39, sz40, szl40]
  exact h
end
end Dn
end
section
set_option Elab.async false
set_option linter.all false
set_option maxRecDepth 100000
set_option maxHeartbeats 1000000
namespace Dn
open PySem L2
section
variable {S : Stor}
def StrOk (m : Str) (w rest : List Nat) : Prop := ∃ c w', w = c :: w' ∧ c ≠ 32 ∧ ∀ (S : Stor) (a : List Nat), (a ++ (w ++ rest)).length ≤ 1000 → Low (a ++ (w ++ rest)) →
  wpF d_token_at_v2 [.str (tx (a ++ (w ++ rest))), .int a.length] S fun o => o = .ex (TE (a.length + 1) m) S
theorem sc_bad {a r : List Nat} {c : Nat} {ts : List PV} {Q : OutS → Prop} {x : Exc} (h32 : c ≠ 32) (hc : c < 128) (hl : (a ++ c :: r).length ≤ 1000)
    (ht : wpF d_token_at_v2 [.str (tx (a ++ c :: r)), .int a.length] (sT S ts) fun o => o = .ex x (sT S ts)) (h : Q (.ex x (scE (a ++ c :: r) S.length a.length) (sT S ts))) : wpS scB (scE (a ++ c :: r) S.length a.length) (sT S ts) Q := by
  have hs : (a ++ c :: r).length ≤ sizeLine := by rw [sizeLine_eq]; omega
  have e4 : ixP (sT S ts) (.str (tx (a ++ c :: r))) (.int a.length) = some (.str (tx [c])) := ix_tx rfl hs
  have lc : Low [c] := fun x hx => by rw [List.mem_singleton.mp hx]; exact hc
  have l32 : Low [32] := by unfold Low; decide
  have e5 : eqP (sT S ts) (.str (tx [c])) (.str " ") = some (.bl ([c] == [32])) := by rw [bl_tx]; exact eq_tx lc l32
  have e6 : ([c] == [32]) = false := by simp [h32]
  unfold scB
  simp only [List.replicate, List.cons_append, List.nil_append, List.length_cons, List.length_nil, Nat.reduceAdd, bq_ok, bq_ex, wp_pure, wp_fail, wp_getS, oQ_some, oQ_ite, bqS_ok, bqS_ex, sqS_nx, sqS_rt, sqS_bk, sqS_ct, sqS_ex, wpS_next, wpS_break, wpS_cont, wpS_retN, wpS_setT, stQ_some, wp_C, wp_call, wp_callv, bqF_ok, bqF_ex, wp_new, wp_newv, fqS_nx, fqS_rt, fqS_ex, wpS_for, wp_comp, wp_dVar, vQ_v, vQ_o, List.getElem?_cons_zero, List.getElem?_cons_succ, List.set_cons_zero, List.set_cons_succ, wp_d1, wp_k1, wp_d2, wp_k2, wp_k2b, wp_dT, wp_kT, wp_dTru, wp_kTru, wp_dNotT, wp_kNot, wp_dAndT, wp_kAnd, wp_dOrT, wp_kOr, wp_dAndV, wp_kAndV, wp_kAndVb, wp_dOrV, wp_kOrV, wp_kOrVb, wp_dNotV, wp_kNotV, wp_kNotVb, wp_dIf, wp_kIf, wp_dChain, wp_kCh, wp_kCh2, wp_kCh3, wp_aNil, wp_aCons, wp_kCons, wp_kCons2, wp_dTup, wp_kTup, wp_dLst, wp_kLst, wp_dN, wp_kN, wp_dLs, wp_kLs, wp_lDisp, wp_kDisp, wp_lRng, wp_kRng, wp_dItR, wp_kItR, wp_dItS, wp_kItS, wp_tTrue, wp_oNo, wp_oSome, wp_kSome, wp_dSl, wp_kSl, wp_kSl1, wp_kSl2, ws_ret, ws_kRet, ws_expr, ws_kExpr, ws_if, ws_kIfS, ws_set, ws_kSet, ws_setO, ws_kSetO, ws_kSetT, ws_setR, ws_kSetR0, ws_kSetR1, ws_kSetR2, items_t, items_ft, items_l, items_r, setAll, Bool.not_true, Bool.not_false, if_true, ite_true, ite_false, ↓reduceIte, Bool.false_eq_true, Int.reduceLT, Int.reduceLE, Nat.reduceLT, Nat.reduceLeDiff, Nat.reducePow, Int.reducePow, Int.reduceToNat, Int.reduceNeg, Int.reduceSub, Int.reduceAdd, and_self, and_true, true_and, decide_eq_true_eq, decide_true, decide_false, List.length_map, ixN_31, ixN_32, ixN_30, wipeE, restE, lcQ, Option.getD_some, add_i, add_t, add_l, sub_i, mul_i, mul_t, mul_l, fdiv_i, mod_i, pow_18, neg_i, lt_i, le_i, gt_i, ge_i, eq_i, ne_i, eq_b, len_t, len_ft, len_l, len_r, abs_i, int_i, list_t, list_ft, list_l, list_r, tuple_t, tuple_ft, tuple_l, isi_i, isi_b, isi_s, isi_t, isi_ft, isi_l, isi_r, isi_n, tru_b, tru_i, tru_t, tru_ft, tru_l, tru_n, isN_n, isN_b, isN_i, isN_s, isN_t, isN_l, ix_t, ix_ft, ix_l, ix_r, ix_ref, setS_ref, atI_0, atI_1, atI_2, Option.map_some, Option.map_none, kb0, kb1, kb2, kb3, kb4, kb5, kb6, kb7, kb8, kb9, kb10, kb11, kb12, kb13, kb14, kb15, kb16, kb17, kb18, kb19, kb20, kb21, kb22, kb23, kb24, kb25, kb26, kb27, kb28, kb29, sz0, szl0, sz1, szl1, sz2, szl2, sz3, szl3, sz4, szl4, sz5, szl5, sz6, szl6, sz7, szl7, sz8, szl8, sz9, szl9, sz10, szl10, sz11, szl11, sz12, szl12, sz13, szl13, sz14, szl14, sz15, szl15, sz16, szl16, sz17, szl17, sz18, szl18, sz19, szl19, sz20, szl20, sz21, szl21, sz22, szl22, sz23, szl23, sz24, szl24, sz25, szl25, sz26, szl26, sz27, szl27, sz28, szl28, sz29, szl29, sz30, szl30, sz31, szl31, sz32, szl32, sz33, szl33, sz34, szl34, sz35, szl35, sz36, szl36, sz37, szl37, sz38, szl38, sz39, szl39, sz40, szl40, e4, e5, e6]
  unfold scK
  rw [wpS_seq, ws_appR]
  simp only [List.replicate, List.cons_append, List.nil_append, List.length_cons, List.length_nil, Nat.reduceAdd, bq_ok, bq_ex, wp_pure, wp_fail, wp_getS, oQ_some, oQ_ite, bqS_ok, bqS_ex, sqS_nx, sqS_rt, sqS_bk, sqS_ct, sqS_ex, wpS_next, wpS_break, wpS_cont, wpS_retN, wpS_setT, stQ_some, wp_C, wp_call, wp_callv, bqF_ok, bqF_ex, wp_new, wp_newv, fqS_nx, fqS_rt, fqS_ex, wpS_for, wp_comp, wp_dVar, vQ_v, vQ_o, List.getElem?_cons_zero, List.getElem?_cons_succ, List.set_cons_zero, List.set_cons_succ, wp_d1, wp_k1, wp_d2, wp_k2, wp_k2b, wp_dT, wp_kT, wp_dTru, wp_kTru, wp_dNotT, wp_kNot, wp_dAndT, wp_kAnd, wp_dOrT, wp_kOr, wp_dAndV, wp_kAndV, wp_kAndVb, wp_dOrV, wp_kOrV, wp_kOrVb, wp_dNotV, wp_kNotV, wp_kNotVb, wp_dIf, wp_kIf, wp_dChain, wp_kCh, wp_kCh2, wp_kCh3, wp_aNil, wp_aCons, wp_kCons, wp_kCons2, wp_dTup, wp_kTup, wp_dLst, wp_kLst, wp_dN, wp_kN, wp_dLs, wp_kLs, wp_lDisp, wp_kDisp, wp_lRng, wp_kRng, wp_dItR, wp_kItR, wp_dItS, wp_kItS, wp_tTrue, wp_oNo, wp_oSome, wp_kSome, wp_dSl, wp_kSl, wp_kSl1, wp_kSl2, ws_ret, ws_kRet, ws_expr, ws_kExpr, ws_if, ws_kIfS, ws_set, ws_kSet, ws_setO, ws_kSetO, ws_kSetT, ws_setR, ws_kSetR0, ws_kSetR1, ws_kSetR2, items_t, items_ft, items_l, items_r, setAll, Bool.not_true, Bool.not_false, if_true, ite_true, ite_false, ↓reduceIte, Bool.false_eq_true, Int.reduceLT, Int.reduceLE, Nat.reduceLT, Nat.reduceLeDiff, Nat.reducePow, Int.reducePow, Int.reduceToNat, Int.reduceNeg, Int.reduceSub, Int.reduceAdd, and_self, and_true, true_and, decide_eq_true_eq, decide_true, decide_false, List.length_map, ixN_31, ixN_32, ixN_30, wipeE, restE, lcQ, Option.getD_some, add_i, add_t, add_l, sub_i, mul_i, mul_t, mul_l, fdiv_i, mod_i, pow_18, neg_i, lt_i, le_i, gt_i, ge_i, eq_i, ne_i, eq_b, len_t, len_ft, len_l, len_r, abs_i, int_i, list_t, list_ft, list_l, list_r, tuple_t, tuple_ft, tuple_l, isi_i, isi_b, isi_s, isi_t, isi_ft, isi_l, isi_r, isi_n, tru_b, tru_i, tru_t, tru_ft, tru_l, tru_n, isN_n, isN_b, isN_i, isN_s, isN_t, isN_l, ix_t, ix_ft, ix_l, ix_r, setS_ref, atI_0, atI_1, atI_2, Option.map_some, Option.map_none, kb0, kb1, kb2, kb3, kb4, kb5, kb6, kb7, kb8, kb9, kb10, kb11, kb12, kb13, kb14, kb15, kb16, kb17, kb18, kb19, kb20, kb21, kb22, kb23, kb24, kb25, kb26, kb27, kb28, kb29, sz0, szl0, sz1, szl1, sz2, szl2, sz3, szl3, sz4, szl4, sz5, szl5, sz6, szl6, sz7, szl7, sz8, szl8, sz9, szl9, sz10, szl10, sz11, szl11, sz12, szl12, sz13, szl13, sz14, szl14, sz15, szl15, sz16, szl16, sz17, szl17, sz18, szl18, sz19, szl19, sz20, szl20, sz21, szl21, sz22, szl22, sz23, szl23, sz24, szl24, sz25, szl25, sz26, szl26, sz27, szl27, sz28, szl28, sz29, szl29, sz30, szl30, sz31, szl31, sz32, szl32, sz33, szl33, sz34, szl34, sz35, szl35, sz36, szl36, sz37, szl37, sz38, szl38, sz39, szl39, sz40, szl40]
  rw [ws_kAppR0 sT_at]
  simp only [List.replicate, List.cons_append, List.nil_append, List.length_cons, List.length_nil, Nat.reduceAdd, bq_ok, bq_ex, wp_pure, wp_fail, wp_getS, oQ_some, oQ_ite, bqS_ok, bqS_ex, sqS_nx, sqS_rt, sqS_bk, sqS_ct, sqS_ex, wpS_next, wpS_break, wpS_cont, wpS_retN, wpS_setT, stQ_some, wp_C, wp_call, wp_callv, bqF_ok, bqF_ex, wp_new, wp_newv, fqS_nx, fqS_rt, fqS_ex, wpS_for, wp_comp, wp_dVar, vQ_v, vQ_o, List.getElem?_cons_zero, List.getElem?_cons_succ, List.set_cons_zero, List.set_cons_succ, wp_d1, wp_k1, wp_d2, wp_k2, wp_k2b, wp_dT, wp_kT, wp_dTru, wp_kTru, wp_dNotT, wp_kNot, wp_dAndT, wp_kAnd, wp_dOrT, wp_kOr, wp_dAndV, wp_kAndV, wp_kAndVb, wp_dOrV, wp_kOrV, wp_kOrVb, wp_dNotV, wp_kNotV, wp_kNotVb, wp_dIf, wp_kIf, wp_dChain, wp_kCh, wp_kCh2, wp_kCh3, wp_aNil, wp_aCons, wp_kCons, wp_kCons2, wp_dTup, wp_kTup, wp_dLst, wp_kLst, wp_dN, wp_kN, wp_dLs, wp_kLs, wp_lDisp, wp_kDisp, wp_lRng, wp_kRng, wp_dItR, wp_kItR, wp_dItS, wp_kItS, wp_tTrue, wp_oNo, wp_oSome, wp_kSome, wp_dSl, wp_kSl, wp_kSl1, wp_kSl2, ws_ret, ws_kRet, ws_expr, ws_kExpr, ws_if, ws_kIfS, ws_set, ws_kSet, ws_setO, ws_kSetO, ws_kSetT, ws_setR, ws_kSetR0, ws_kSetR1, ws_kSetR2, items_t, items_ft, items_l, items_r, setAll, Bool.not_true, Bool.not_false, if_true, ite_true, ite_false, ↓reduceIte, Bool.false_eq_true, Int.reduceLT, Int.reduceLE, Nat.reduceLT, Nat.reduceLeDiff, Nat.reducePow, Int.reducePow, Int.reduceToNat, Int.reduceNeg, Int.reduceSub, Int.reduceAdd, and_self, and_true, true_and, decide_eq_true_eq, decide_true, decide_false, List.length_map, ixN_31, ixN_32, ixN_30, wipeE, restE, lcQ, Option.getD_some, add_i, add_t, add_l, sub_i, mul_i, mul_t, mul_l, fdiv_i, mod_i, pow_18, neg_i, lt_i, le_i, gt_i, ge_i, eq_i, ne_i, eq_b, len_t, len_ft, len_l, len_r, abs_i, int_i, list_t, list_ft, list_l, list_r, tuple_t, tuple_ft, tuple_l, isi_i, isi_b, isi_s, isi_t, isi_ft, isi_l, isi_r, isi_n, tru_b, tru_i, tru_t, tru_ft, tru_l, tru_n, isN_n, isN_b, isN_i, isN_s, isN_t, isN_l, ix_t, ix_ft, ix_l, ix_r, setS_ref, atI_0, atI_1, atI_2, Option.map_some, Option.map_none, kb0, kb1, kb2, kb3, kb4, kb5, kb6, kb7, kb8, kb9, kb10, kb11, kb12, kb13, kb14, kb15, kb16, kb17, kb18, kb19, kb20, kb21, kb22, kb23, kb24, kb25, kb26, kb27, kb28, kb29, sz0, szl0, sz1, szl1, sz2, szl2, sz3, szl3, sz4, szl4, sz5, szl5, sz6, szl6, sz7, szl7, sz8, szl8, sz9, szl9, sz10, szl10, sz11, szl11, sz12, szl12, sz13, szl13, sz14, szl14, sz15, szl15, sz16, szl16, sz17, szl17, sz18, szl18, sz19, szl19, sz20, szl20, sz21, szl21, sz22, szl22, sz23, szl23, sz24, szl24, sz25, szl25, sz26, szl26, sz27, szl27, sz28, szl28, sz29, szl29, sz30, szl30, sz31, szl31, sz32, szl32, sz33, szl33, sz34, szl34, sz35, szl35, sz36, szl36, sz37, szl37, sz38, szl38, sz39, szl39, sz40, szl40]
  refine wpF_is ht ?_
  simp only [List.replicate, List.cons_append, List.nil_append, List.length_cons, List.length_nil, Nat.reduceAdd, bq_ok, bq_ex, wp_pure, wp_fail, wp_getS, oQ_some, oQ_ite, bqS_ok, bqS_ex, sqS_nx, sqS_rt, sqS_bk, sqS_ct, sqS_ex, wpS_next, wpS_break, wpS_cont, wpS_retN, wpS_setT, stQ_some, wp_C, wp_call, wp_callv, bqF_ok, bqF_ex, wp_new, wp_newv, fqS_nx, fqS_rt, fqS_ex, wpS_for, wp_comp, wp_dVar, vQ_v, vQ_o, List.getElem?_cons_zero, List.getElem?_cons_succ, List.set_cons_zero, List.set_cons_succ, wp_d1, wp_k1, wp_d2, wp_k2, wp_k2b, wp_dT, wp_kT, wp_dTru, wp_kTru, wp_dNotT, wp_kNot, wp_dAndT, wp_kAnd, wp_dOrT, wp_kOr, wp_dAndV, wp_kAndV, wp_kAndVb, wp_dOrV, wp_kOrV, wp_kOrVb, wp_dNotV, wp_kNotV, wp_kNotVb, wp_dIf, wp_kIf, wp_dChain, wp_kCh, wp_kCh2, wp_kCh3, wp_aNil, wp_aCons, wp_kCons, wp_kCons2, wp_dTup, wp_kTup, wp_dLst, wp_kLst, wp_dN, wp_kN, wp_dLs, wp_kLs, wp_lDisp, wp_kDisp, wp_lRng, wp_kRng, wp_dItR, wp_kItR, wp_dItS, wp_kItS, wp_tTrue, wp_oNo, wp_oSome, wp_kSome, wp_dSl, wp_kSl, wp_kSl1, wp_kSl2, ws_ret, ws_kRet, ws_expr, ws_kExpr, ws_if, ws_kIfS, ws_set, ws_kSet, ws_setO, ws_kSetO, ws_kSetT, ws_setR, ws_kSetR0, ws_kSetR1, ws_kSetR2, items_t, items_ft, items_l, items_r, setAll, Bool.not_true, Bool.not_false, if_true, ite_true, ite_false, ↓reduceIte, Bool.false_eq_true, Int.reduceLT, Int.reduceLE, Nat.reduceLT, Nat.reduceLeDiff, Nat.reducePow, Int.reducePow, Int.reduceToNat, Int.reduceNeg, Int.reduceSub, Int.reduceAdd, and_self, and_true, true_and, decide_eq_true_eq, decide_true, decide_false, List.length_map, ixN_31, ixN_32, ixN_30, wipeE, restE, lcQ, Option.getD_some, add_i, add_t, add_l, sub_i, mul_i, mul_t, mul_l, fdiv_i, mod_i, pow_18, neg_i, lt_i, le_i, gt_i, ge_i, eq_i, ne_i, eq_b, len_t, len_ft, len_l, len_r, abs_i, int_i, list_t, list_ft, list_l, list_r, tuple_t, tuple_ft, tuple_l, isi_i, isi_b, isi_s, isi_t, isi_ft, isi_l, isi_r, isi_n, tru_b, tru_i, tru_t, tru_ft, tru_l, tru_n, isN_n, isN_b, isN_i, isN_s, isN_t, isN_l, ix_t, ix_ft, ix_l, ix_r, ix_ref, setS_ref, atI_0, atI_1, atI_2, Option.map_some, Option.map_none, kb0, kb1, kb2, kb3, kb4, kb5, kb6, kb7, kb8, kb9, kb10, kb11, kb12, kb13, kb14, kb15, kb16, kb17, kb18, kb19, kb20, kb21, kb22, kb23, kb24, kb25, kb26, kb27, kb28, kb29, sz0, szl0, sz1, szl1, sz2, szl2, sz3, szl3, sz4, szl4, sz5, szl5, sz6, szl6, sz7, szl7, sz8, szl8, sz9, szl9, sz10, szl10, sz11, szl11, sz12, szl12, sz13, szl13, sz14, szl14, sz15, szl15, sz16, szl16, sz17, szl17, sz18, szl18, sz19, szl19, sz20, szl20, sz21, szl21, sz22, szl22, sz23, szl23, sz24, szl24, sz25, szl25, sz26, szl26, sz27, szl27, sz28, szl28, sz29, szl29, sz30, szl30, sz31, szl31, sz32, szl32, sz33, szl33, sz34, szl34, sz35, szl35, sz36, szl36, sz37, szl37, sz38, szl38, sz39, szl39, sz40, szl40]
  exact h
theorem whL_exc {t : Den Bool} {b : DS} {N : Nat} {e e2 : DEnv} {S S2 : Stor} {x : Exc} {Q : OutS → Prop} (h1 : t e S = .ok true e S) (h2 : b e S = .ex x e2 S2) (h : Q (.ex x e2 S2)) : wpS (whL t b (N + 1)) e S Q := by
  unfold wpS whL sE; rw [h1]; dsimp only; rw [if_pos rfl, h2]; exact h
theorem wp_scan_bad {kd : List Nat → Str} {L : List (Nat × List Nat)} {b : Nat} {w rest : List Nat} {m : Str} {Q : OutF → Prop} (ho : LayOk kd (List.replicate b 32 ++ (w ++ rest)) L) (hb : StrOk m w rest) (hl : (lay L ++ (List.replicate b 32 ++ (w ++ rest))).length ≤ 300) (hlow : Low (lay L ++ (List.replicate b 32 ++ (w ++ rest)))) (h10 : ¬ 10 ∈ lay L ++ (List.replicate b 32 ++ (w ++ rest))) (hL : L.length ≤ 500) (hf : fuel L + b < 1000000)
    (h : Q (.ex (TE ((lay L).length + b + 1 : Nat) m) (sT S (toks kd 0 L)))) : wpF d_scan_v5 [.str (tx (lay L ++ (List.replicate b 32 ++ (w ++ rest))))] S Q := by
  obtain ⟨c, w', rfl, h32, ht⟩ := hb
  generalize htl : List.replicate b 32 ++ (c :: w' ++ rest) = tl at *
  have hs : (lay L ++ tl).length ≤ sizeLine := by rw [sizeLine_eq]; omega
  rw [scan_eq]
  refine wpF_go rfl ?_
  rw [wpS_seq]
  simp only [List.map, List.replicate, List.cons_append, List.nil_append, List.length_cons, List.length_nil, Nat.reduceAdd, bq_ok, bq_ex, wp_pure, wp_fail, wp_getS, oQ_some, oQ_ite, bqS_ok, bqS_ex, sqS_nx, sqS_rt, sqS_bk, sqS_ct, sqS_ex, wpS_next, wpS_break, wpS_cont, wpS_retN, wpS_setT, stQ_some, wp_C, wp_call, wp_callv, bqF_ok, bqF_ex, wp_new, wp_newv, fqS_nx, fqS_rt, fqS_ex, wpS_for, wp_comp, wp_dVar, vQ_v, vQ_o, List.getElem?_cons_zero, List.getElem?_cons_succ, List.set_cons_zero, List.set_cons_succ, wp_d1, wp_k1, wp_d2, wp_k2, wp_k2b, wp_dT, wp_kT, wp_dTru, wp_kTru, wp_dNotT, wp_kNot, wp_dAndT, wp_kAnd, wp_dOrT, wp_kOr, wp_dAndV, wp_kAndV, wp_kAndVb, wp_dOrV, wp_kOrV, wp_kOrVb, wp_dNotV, wp_kNotV, wp_kNotVb, wp_dIf, wp_kIf, wp_dChain, wp_kCh, wp_kCh2, wp_kCh3, wp_aNil, wp_aCons, wp_kCons, wp_kCons2, wp_dTup, wp_kTup, wp_dLst, wp_kLst, wp_dN, wp_kN, wp_dLs, wp_kLs, wp_lDisp, wp_kDisp, wp_lRng, wp_kRng, wp_dItR, wp_kItR, wp_dItS, wp_kItS, wp_tTrue, wp_oNo, wp_oSome, wp_kSome, wp_dSl, wp_kSl, wp_kSl1, wp_kSl2, ws_ret, ws_kRet, ws_expr, ws_kExpr, ws_if, ws_kIfS, ws_set, ws_kSet, ws_setO, ws_kSetO, ws_kSetT, ws_setR, ws_kSetR0, ws_kSetR1, ws_kSetR2, items_t, items_ft, items_l, items_r, setAll, Bool.not_true, Bool.not_false, if_true, ite_true, ite_false, ↓reduceIte, Bool.false_eq_true, Int.reduceLT, Int.reduceLE, Nat.reduceLT, Nat.reduceLeDiff, Nat.reducePow, Int.reducePow, Int.reduceToNat, Int.reduceNeg, Int.reduceSub, Int.reduceAdd, and_self, and_true, true_and, decide_eq_true_eq, decide_true, decide_false, List.length_map, ixN_31, ixN_32, ixN_30, wipeE, restE, lcQ, Option.getD_some, add_i, add_t, add_l, sub_i, mul_i, mul_t, mul_l, fdiv_i, mod_i, pow_18, neg_i, lt_i, le_i, gt_i, ge_i, eq_i, ne_i, eq_b, len_t, len_ft, len_l, len_r, abs_i, int_i, list_t, list_ft, list_l, list_r, tuple_t, tuple_ft, tuple_l, isi_i, isi_b, isi_s, isi_t, isi_ft, isi_l, isi_r, isi_n, tru_b, tru_i, tru_t, tru_ft, tru_l, tru_n, isN_n, isN_b, isN_i, isN_s, isN_t, isN_l, ix_t, ix_ft, ix_l, ix_r, ix_ref, setS_ref, atI_0, atI_1, atI_2, Option.map_some, Option.map_none, kb0, kb1, kb2, kb3, kb4, kb5, kb6, kb7, kb8, kb9, kb10, kb11, kb12, kb13, kb14, kb15, kb16, kb17, kb18, kb19, kb20, kb21, kb22, kb23, kb24, kb25, kb26, kb27, kb28, kb29, sz0, szl0, sz1, szl1, sz2, szl2, sz3, szl3, sz4, szl4, sz5, szl5, sz6, szl6, sz7, szl7, sz8, szl8, sz9, szl9, sz10, szl10, sz11, szl11, sz12, szl12, sz13, szl13, sz14, szl14, sz15, szl15, sz16, szl16, sz17, szl17, sz18, szl18, sz19, szl19, sz20, szl20, sz21, szl21, sz22, szl22, sz23, szl23, sz24, szl24, sz25, szl25, sz26, szl26, sz27, szl27, sz28, szl28, sz29, szl29, sz30, szl30, sz31, szl31, sz32, szl32, sz33, szl33, sz34, szl34, sz35, szl35, sz36, szl36, sz37, szl37, sz38, szl38, sz39, szl39, sz40, szl40]
  refine wp_check_text (t := lay L ++ tl) (by omega) ?_
  rw [if_neg (fun z => z.elim (by omega) h10)]
  simp only [List.map, List.replicate, List.cons_append, List.nil_append, List.length_cons, List.length_nil, Nat.reduceAdd, bq_ok, bq_ex, wp_pure, wp_fail, wp_getS, oQ_some, oQ_ite, bqS_ok, bqS_ex, sqS_nx, sqS_rt, sqS_bk, sqS_ct, sqS_ex, wpS_next, wpS_break, wpS_cont, wpS_retN, wpS_setT, stQ_some, wp_C, wp_call, wp_callv, bqF_ok, bqF_ex, wp_new, wp_newv, fqS_nx, fqS_rt, fqS_ex, wpS_for, wp_comp, wp_dVar, vQ_v, vQ_o, List.getElem?_cons_zero, List.getElem?_cons_succ, List.set_cons_zero, List.set_cons_succ, wp_d1, wp_k1, wp_d2, wp_k2, wp_k2b, wp_dT, wp_kT, wp_dTru, wp_kTru, wp_dNotT, wp_kNot, wp_dAndT, wp_kAnd, wp_dOrT, wp_kOr, wp_dAndV, wp_kAndV, wp_kAndVb, wp_dOrV, wp_kOrV, wp_kOrVb, wp_dNotV, wp_kNotV, wp_kNotVb, wp_dIf, wp_kIf, wp_dChain, wp_kCh, wp_kCh2, wp_kCh3, wp_aNil, wp_aCons, wp_kCons, wp_kCons2, wp_dTup, wp_kTup, wp_dLst, wp_kLst, wp_dN, wp_kN, wp_dLs, wp_kLs, wp_lDisp, wp_kDisp, wp_lRng, wp_kRng, wp_dItR, wp_kItR, wp_dItS, wp_kItS, wp_tTrue, wp_oNo, wp_oSome, wp_kSome, wp_dSl, wp_kSl, wp_kSl1, wp_kSl2, ws_ret, ws_kRet, ws_expr, ws_kExpr, ws_if, ws_kIfS, ws_set, ws_kSet, ws_setO, ws_kSetO, ws_kSetT, ws_setR, ws_kSetR0, ws_kSetR1, ws_kSetR2, items_t, items_ft, items_l, items_r, setAll, Bool.not_true, Bool.not_false, if_true, ite_true, ite_false, ↓reduceIte, Bool.false_eq_true, Int.reduceLT, Int.reduceLE, Nat.reduceLT, Nat.reduceLeDiff, Nat.reducePow, Int.reducePow, Int.reduceToNat, Int.reduceNeg, Int.reduceSub, Int.reduceAdd, and_self, and_true, true_and, decide_eq_true_eq, decide_true, decide_false, List.length_map, ixN_31, ixN_32, ixN_30, wipeE, restE, lcQ, Option.getD_some, add_i, add_t, add_l, sub_i, mul_i, mul_t, mul_l, fdiv_i, mod_i, pow_18, neg_i, lt_i, le_i, gt_i, ge_i, eq_i, ne_i, eq_b, len_t, len_ft, len_l, len_r, abs_i, int_i, list_t, list_ft, list_l, list_r, tuple_t, tuple_ft, tuple_l, isi_i, isi_b, isi_s, isi_t, isi_ft, isi_l, isi_r, isi_n, tru_b, tru_i, tru_t, tru_ft, tru_l, tru_n, isN_n, isN_b, isN_i, isN_s, isN_t, isN_l, ix_t, ix_ft, ix_l, ix_r, ix_ref, setS_ref, atI_0, atI_1, atI_2, Option.map_some, Option.map_none, kb0, kb1, kb2, kb3, kb4, kb5, kb6, kb7, kb8, kb9, kb10, kb11, kb12, kb13, kb14, kb15, kb16, kb17, kb18, kb19, kb20, kb21, kb22, kb23, kb24, kb25, kb26, kb27, kb28, kb29, sz0, szl0, sz1, szl1, sz2, szl2, sz3, szl3, sz4, szl4, sz5, szl5, sz6, szl6, sz7, szl7, sz8, szl8, sz9, szl9, sz10, szl10, sz11, szl11, sz12, szl12, sz13, szl13, sz14, szl14, sz15, szl15, sz16, szl16, sz17, szl17, sz18, szl18, sz19, szl19, sz20, szl20, sz21, szl21, sz22, szl22, sz23, szl23, sz24, szl24, sz25, szl25, sz26, szl26, sz27, szl27, sz28, szl28, sz29, szl29, sz30, szl30, sz31, szl31, sz32, szl32, sz33, szl33, sz34, szl34, sz35, szl35, sz36, szl36, sz37, szl37, sz38, szl38, sz39, szl39, sz40, szl40]
  rw [wpS_seq]
  simp only [List.map, List.replicate, List.cons_append, List.nil_append, List.length_cons, List.length_nil, Nat.reduceAdd, bq_ok, bq_ex, wp_pure, wp_fail, wp_getS, oQ_some, oQ_ite, bqS_ok, bqS_ex, sqS_nx, sqS_rt, sqS_bk, sqS_ct, sqS_ex, wpS_next, wpS_break, wpS_cont, wpS_retN, wpS_setT, stQ_some, wp_C, wp_call, wp_callv, bqF_ok, bqF_ex, wp_new, wp_newv, fqS_nx, fqS_rt, fqS_ex, wpS_for, wp_comp, wp_dVar, vQ_v, vQ_o, List.getElem?_cons_zero, List.getElem?_cons_succ, List.set_cons_zero, List.set_cons_succ, wp_d1, wp_k1, wp_d2, wp_k2, wp_k2b, wp_dT, wp_kT, wp_dTru, wp_kTru, wp_dNotT, wp_kNot, wp_dAndT, wp_kAnd, wp_dOrT, wp_kOr, wp_dAndV, wp_kAndV, wp_kAndVb, wp_dOrV, wp_kOrV, wp_kOrVb, wp_dNotV, wp_kNotV, wp_kNotVb, wp_dIf, wp_kIf, wp_dChain, wp_kCh, wp_kCh2, wp_kCh3, wp_aNil, wp_aCons, wp_kCons, wp_kCons2, wp_dTup, wp_kTup, wp_dLst, wp_kLst, wp_dN, wp_kN, wp_dLs, wp_kLs, wp_lDisp, wp_kDisp, wp_lRng, wp_kRng, wp_dItR, wp_kItR, wp_dItS, wp_kItS, wp_tTrue, wp_oNo, wp_oSome, wp_kSome, wp_dSl, wp_kSl, wp_kSl1, wp_kSl2, ws_ret, ws_kRet, ws_expr, ws_kExpr, ws_if, ws_kIfS, ws_set, ws_kSet, ws_setO, ws_kSetO, ws_kSetT, ws_setR, ws_kSetR0, ws_kSetR1, ws_kSetR2, items_t, items_ft, items_l, items_r, setAll, Bool.not_true, Bool.not_false, if_true, ite_true, ite_false, ↓reduceIte, Bool.false_eq_true, Int.reduceLT, Int.reduceLE, Nat.reduceLT, Nat.reduceLeDiff, Nat.reducePow, Int.reducePow, Int.reduceToNat, Int.reduceNeg, Int.reduceSub, Int.reduceAdd, and_self, and_true, true_and, decide_eq_true_eq, decide_true, decide_false, List.length_map, ixN_31, ixN_32, ixN_30, wipeE, restE, lcQ, Option.getD_some, add_i, add_t, add_l, sub_i, mul_i, mul_t, mul_l, fdiv_i, mod_i, pow_18, neg_i, lt_i, le_i, gt_i, ge_i, eq_i, ne_i, eq_b, len_t, len_ft, len_l, len_r, abs_i, int_i, list_t, list_ft, list_l, list_r, tuple_t, tuple_ft, tuple_l, isi_i, isi_b, isi_s, isi_t, isi_ft, isi_l, isi_r, isi_n, tru_b, tru_i, tru_t, tru_ft, tru_l, tru_n, isN_n, isN_b, isN_i, isN_s, isN_t, isN_l, ix_t, ix_ft, ix_l, ix_r, setS_ref, atI_0, atI_1, atI_2, Option.map_some, Option.map_none, kb0, kb1, kb2, kb3, kb4, kb5, kb6, kb7, kb8, kb9, kb10, kb11, kb12, kb13, kb14, kb15, kb16, kb17, kb18, kb19, kb20, kb21, kb22, kb23, kb24, kb25, kb26, kb27, kb28, kb29, sz0, szl0, sz1, szl1, sz2, szl2, sz3, szl3, sz4, szl4, sz5, szl5, sz6, szl6, sz7, szl7, sz8, szl8, sz9, szl9, sz10, szl10, sz11, szl11, sz12, szl12, sz13, szl13, sz14, szl14, sz15, szl15, sz16, szl16, sz17, szl17, sz18, szl18, sz19, szl19, sz20, szl20, sz21, szl21, sz22, szl22, sz23, szl23, sz24, szl24, sz25, szl25, sz26, szl26, sz27, szl27, sz28, szl28, sz29, szl29, sz30, szl30, sz31, szl31, sz32, szl32, sz33, szl33, sz34, szl34, sz35, szl35, sz36, szl36, sz37, szl37, sz38, szl38, sz39, szl39, sz40, szl40, wp_new, wp_newv]
  rw [wpS_seq]
  simp only [List.map, List.replicate, List.cons_append, List.nil_append, List.length_cons, List.length_nil, Nat.reduceAdd, bq_ok, bq_ex, wp_pure, wp_fail, wp_getS, oQ_some, oQ_ite, bqS_ok, bqS_ex, sqS_nx, sqS_rt, sqS_bk, sqS_ct, sqS_ex, wpS_next, wpS_break, wpS_cont, wpS_retN, wpS_setT, stQ_some, wp_C, wp_call, wp_callv, bqF_ok, bqF_ex, wp_new, wp_newv, fqS_nx, fqS_rt, fqS_ex, wpS_for, wp_comp, wp_dVar, vQ_v, vQ_o, List.getElem?_cons_zero, List.getElem?_cons_succ, List.set_cons_zero, List.set_cons_succ, wp_d1, wp_k1, wp_d2, wp_k2, wp_k2b, wp_dT, wp_kT, wp_dTru, wp_kTru, wp_dNotT, wp_kNot, wp_dAndT, wp_kAnd, wp_dOrT, wp_kOr, wp_dAndV, wp_kAndV, wp_kAndVb, wp_dOrV, wp_kOrV, wp_kOrVb, wp_dNotV, wp_kNotV, wp_kNotVb, wp_dIf, wp_kIf, wp_dChain, wp_kCh, wp_kCh2, wp_kCh3, wp_aNil, wp_aCons, wp_kCons, wp_kCons2, wp_dTup, wp_kTup, wp_dLst, wp_kLst, wp_dN, wp_kN, wp_dLs, wp_kLs, wp_lDisp, wp_kDisp, wp_lRng, wp_kRng, wp_dItR, wp_kItR, wp_dItS, wp_kItS, wp_tTrue, wp_oNo, wp_oSome, wp_kSome, wp_dSl, wp_kSl, wp_kSl1, wp_kSl2, ws_ret, ws_kRet, ws_expr, ws_kExpr, ws_if, ws_kIfS, ws_set, ws_kSet, ws_setO, ws_kSetO, ws_kSetT, ws_setR, ws_kSetR0, ws_kSetR1, ws_kSetR2, items_t, items_ft, items_l, items_r, setAll, Bool.not_true, Bool.not_false, if_true, ite_true, ite_false, ↓reduceIte, Bool.false_eq_true, Int.reduceLT, Int.reduceLE, Nat.reduceLT, Nat.reduceLeDiff, Nat.reducePow, Int.reducePow, Int.reduceToNat, Int.reduceNeg, Int.reduceSub, Int.reduceAdd, and_self, and_true, true_and, decide_eq_true_eq, decide_true, decide_false, List.length_map, ixN_31, ixN_32, ixN_30, wipeE, restE, lcQ, Option.getD_some, add_i, add_t, add_l, sub_i, mul_i, mul_t, mul_l, fdiv_i, mod_i, pow_18, neg_i, lt_i, le_i, gt_i, ge_i, eq_i, ne_i, eq_b, len_t, len_ft, len_l, len_r, abs_i, int_i, list_t, list_ft, list_l, list_r, tuple_t, tuple_ft, tuple_l, isi_i, isi_b, isi_s, isi_t, isi_ft, isi_l, isi_r, isi_n, tru_b, tru_i, tru_t, tru_ft, tru_l, tru_n, isN_n, isN_b, isN_i, isN_s, isN_t, isN_l, ix_t, ix_ft, ix_l, ix_r, setS_ref, atI_0, atI_1, atI_2, Option.map_some, Option.map_none, kb0, kb1, kb2, kb3, kb4, kb5, kb6, kb7, kb8, kb9, kb10, kb11, kb12, kb13, kb14, kb15, kb16, kb17, kb18, kb19, kb20, kb21, kb22, kb23, kb24, kb25, kb26, kb27, kb28, kb29, sz0, szl0, sz1, szl1, sz2, szl2, sz3, szl3, sz4, szl4, sz5, szl5, sz6, szl6, sz7, szl7, sz8, szl8, sz9, szl9, sz10, szl10, sz11, szl11, sz12, szl12, sz13, szl13, sz14, szl14, sz15, szl15, sz16, szl16, sz17, szl17, sz18, szl18, sz19, szl19, sz20, szl20, sz21, szl21, sz22, szl22, sz23, szl23, sz24, szl24, sz25, szl25, sz26, szl26, sz27, szl27, sz28, szl28, sz29, szl29, sz30, szl30, sz31, szl31, sz32, szl32, sz33, szl33, sz34, szl34, sz35, szl35, sz36, szl36, sz37, szl37, sz38, szl38, sz39, szl39, sz40, szl40]
  rw [wpS_seq]
  unfold whN
  obtain ⟨N, hN⟩ : ∃ N, 1000000000 = N + 1 + b + fuel L := ⟨1000000000 - (1 + fuel L + b), by omega⟩
  rw [hN]
  refine sc_words L (N + 1 + b) [] [] ho (by simp only [List.nil_append]; omega) hlow (by simp only [List.length_nil]; omega) ?_
  have e1 : ([] : List Nat) ++ (lay L ++ tl) = lay L ++ (List.replicate b 32 ++ (c :: w' ++ rest)) := by rw [htl]; rfl
  have e3 : ([] : List Nat) ++ lay L = lay L := rfl
  rw [e1, e3]
  rw [← htl] at hl hlow
  refine sc_blanks b (N + 1) (lay L) (by omega) ?_
  have e4 : lay L ++ (List.replicate b 32 ++ (c :: w' ++ rest)) = (lay L ++ List.replicate b 32) ++ c :: (w' ++ rest) := by simp
  rw [e4] at hl hlow ⊢
  have hc : c < 128 := hlow c (by simp)
  have ht := ht (sT S ([] ++ toks kd ([] : List Nat).length L)) (lay L ++ List.replicate b 32) (by rw [List.cons_append]; omega) (by rw [List.cons_append]; exact hlow)
  rw [List.cons_append] at ht
  have turn := sc_bad (S := S) (ts := [] ++ toks kd ([] : List Nat).length L) (Q := fun o => o = .ex (TE ((lay L ++ List.replicate b 32).length + 1) m) (scE ((lay L ++ List.replicate b 32) ++ c :: (w' ++ rest)) S.length (lay L ++ List.replicate b 32).length) (sT S ([] ++ toks kd ([] : List Nat).length L))) h32 hc (by omega) ht rfl
  refine whL_exc (sc_test (by omega)) turn ?_
  have e6 : ((lay L ++ List.replicate b 32).length : Int) + 1 = ((lay L).length + b + 1 : Nat) := by simp
  rw [e6]
  simp only [List.map, List.replicate, List.cons_append, List.nil_append, List.length_cons, List.length_nil, Nat.reduceAdd, bq_ok, bq_ex, wp_pure, wp_fail, wp_getS, oQ_some, oQ_ite, bqS_ok, bqS_ex, sqS_nx, sqS_rt, sqS_bk, sqS_ct, sqS_ex, wpS_next, wpS_break, wpS_cont, wpS_retN, wpS_setT, stQ_some, wp_C, wp_call, wp_callv, bqF_ok, bqF_ex, wp_new, wp_newv, fqS_nx, fqS_rt, fqS_ex, wpS_for, wp_comp, wp_dVar, vQ_v, vQ_o, List.getElem?_cons_zero, List.getElem?_cons_succ, List.set_cons_zero, List.set_cons_succ, wp_d1, wp_k1, wp_d2, wp_k2, wp_k2b, wp_dT, wp_kT, wp_dTru, wp_kTru, wp_dNotT, wp_kNot, wp_dAndT, wp_kAnd, wp_dOrT, wp_kOr, wp_dAndV, wp_kAndV, wp_kAndVb, wp_dOrV, wp_kOrV, wp_kOrVb, wp_dNotV, wp_kNotV, wp_kNotVb, wp_dIf, wp_kIf, wp_dChain, wp_kCh, wp_kCh2, wp_kCh3, wp_aNil, wp_aCons, wp_kCons, wp_kCons2, wp_dTup, wp_kTup, wp_dLst, wp_kLst, wp_dN, wp_kN, wp_dLs, wp_kLs, wp_lDisp, wp_kDisp, wp_lRng, wp_kRng, wp_dItR, wp_kItR, wp_dItS, wp_kItS, wp_tTrue, wp_oNo, wp_oSome, wp_kSome, wp_dSl, wp_kSl, wp_kSl1, wp_kSl2, ws_ret, ws_kRet, ws_expr, ws_kExpr, ws_if, ws_kIfS, ws_set, ws_kSet, ws_setO, ws_kSetO, ws_kSetT, ws_setR, ws_kSetR0, ws_kSetR1, ws_kSetR2, items_t, items_ft, items_l, items_r, setAll, Bool.not_true, Bool.not_false, if_true, ite_true, ite_false, ↓reduceIte, Bool.false_eq_true, Int.reduceLT, Int.reduceLE, Nat.reduceLT, Nat.reduceLeDiff, Nat.reducePow, Int.reducePow, Int.reduceToNat, Int.reduceNeg, Int.reduceSub, Int.reduceAdd, and_self, and_true, true_and, decide_eq_true_eq, decide_true, decide_false, List.length_map, ixN_31, ixN_32, ixN_30, wipeE, restE, lcQ, Option.getD_some, add_i, add_t, add_l, sub_i, mul_i, mul_t, mul_l, fdiv_i, mod_i, pow_18, neg_i, lt_i, le_i, gt_i, ge_i, eq_i, ne_i, eq_b, len_t, len_ft, len_l, len_r, abs_i, int_i, list_t, list_ft, list_l, list_r, tuple_t, tuple_ft, tuple_l, isi_i, isi_b, isi_s, isi_t, isi_ft, isi_l, isi_r, isi_n, tru_b, tru_i, tru_t, tru_ft, tru_l, tru_n, isN_n, isN_b, isN_i, isN_s, isN_t, isN_l, ix_t, ix_ft, ix_l, ix_r, ix_ref, setS_ref, atI_0, atI_1, atI_2, Option.map_some, Option.map_none, kb0, kb1, kb2, kb3, kb4, kb5, kb6, kb7, kb8, kb9, kb10, kb11, kb12, kb13, kb14, kb15, kb16, kb17, kb18, kb19, kb20, kb21, kb22, kb23, kb24, kb25, kb26, kb27, kb28, kb29, sz0, szl0, sz1, szl1, sz2, szl2, sz3, szl3, sz4, szl4, sz5, szl5, sz6, szl6, sz7, szl7, sz8, szl8, sz9, szl9, sz10, szl10, sz11, szl11, sz12, szl12, sz13, szl13, sz14, szl14, sz15, szl15, sz16, szl16, sz17, szl17, sz18, szl18, sz19, szl19, sz20, szl20, sz21, szl21, sz22, szl22, sz23, szl23, sz24, szl24, sz25, szl25, sz26, szl26, sz27, szl27, sz28, szl28, sz29, szl29, sz30, szl30, sz31, szl31, sz32, szl32, sz33, szl33, sz34, szl34, sz35, szl35, sz36, szl36, sz37, szl37, sz38, szl38, sz39, szl39, sz40, szl40]
  exact h
end
end Dn
end
section
set_option Elab.async false
set_option linter.all false
set_option maxRecDepth 100000
set_option maxHeartbeats 1000000
namespace Dn
open PySem L2
section
variable {S : Stor}
theorem dg_tx : ("0123456789" : Str) = tx [48, 49, 50, 51, 52, 53, 54, 55, 56, 57] := by kernel_rfl
theorem lt_tx : ("abcd" : Str) = tx [97, 98, 99, 100] := by kernel_rfl
theorem digB_eq {c : Nat} : digB c = decide (c ∈ [48, 49, 50, 51, 52, 53, 54, 55, 56, 57]) := by
  unfold digB; rw [dg_tx, in_tx]
theorem letB_eq {c : Nat} : letB c = decide (c ∈ [97, 98, 99, 100]) := by
  unfold letB; rw [lt_tx, in_tx]
theorem nodig_dw : ∀ (l : List Nat), NoDig (l.dropWhile digB)
  | [] => fun _ _ h => nomatch h
  | c :: l => by
    intro x r' h
    cases e : digB c with
    | true => rw [List.dropWhile_cons_of_pos e] at h; exact nodig_dw l x r' h
    | false =>
      rw [List.dropWhile_cons_of_neg (by rw [e]; simp)] at h
      cases h; exact e
theorem dig_tw : ∀ (l : List Nat), ∀ x ∈ l.takeWhile digB, digB x = true
  | [], _, h => nomatch h
  | c :: l, x, h => by
    cases e : digB c with
    | true =>
      rw [List.takeWhile_cons_of_pos e] at h
      rcases List.mem_cons.mp h with rfl | h
      · exact e
      · exact dig_tw l x h
    | false =>
      rw [List.takeWhile_cons_of_neg (by rw [e]; simp)] at h
      cases h
theorem wp_token_tw {a : List Nat} {c : Nat} {r : List Nat} {Q : OutF → Prop} (hl : (a ++ c :: r).length ≤ 1000) (hlow : Low (a ++ c :: r)) (h : tokQ a.length c r ((c :: r).takeWhile digB) S Q) :
    wpF d_token_at_v2 [.str (tx (a ++ c :: r)), .int a.length] S Q :=
  wp_token_at hl hlow (List.takeWhile_append_dropWhile (p := digB) (l := c :: r)).symm (dig_tw _) (nodig_dw _) h
/-- the kind of a word -/
def kdW (w : List Nat) : Str := if w = stL then "word" else if w = [59] then "sign" else if letB (w.headD 0) = true then "letter" else "number"
theorem tok_sign {rest : List Nat} : TokOk kdW [59] rest := by
  refine ⟨59, [], rfl, by decide, fun S a hl hlow => wp_token_tw hl hlow ?_⟩
  unfold tokQ
  rw [if_pos rfl]
  have : kdW [59] = "sign" := by unfold kdW; rw [if_neg (by decide), if_pos rfl]
  rw [this]
theorem tok_letter {c : Nat} {rest : List Nat} (hc : letB c = true) : TokOk kdW [c] rest := by
  have h : c ∈ [97, 98, 99, 100] := by rw [letB_eq] at hc; exact of_decide_eq_true hc
  have h59 : c ≠ 59 := fun z => by rw [z] at h; revert h; decide
  refine ⟨c, [], rfl, fun z => by rw [z] at h; revert h; decide, fun S a hl hlow => wp_token_tw hl hlow ?_⟩
  unfold tokQ
  rw [if_neg h59, if_pos hc]
  have : kdW [c] = "letter" := by unfold kdW; rw [if_neg (by simp [stL]), if_neg (by simp [h59]), if_pos (show letB ([c].headD 0) = true from hc)]
  rw [this]
theorem tok_word {rest : List Nat} : TokOk kdW stL rest := by
  refine ⟨115, [116, 97, 114, 116], rfl, by decide, fun S a hl hlow => wp_token_tw hl hlow ?_⟩
  unfold tokQ
  rw [if_neg (by decide), if_neg (by rw [letB_eq]; decide), if_pos (show List.take 5 (115 :: [116, 97, 114, 116].append rest) = stL from rfl)]
  have : kdW stL = "word" := by unfold kdW; rw [if_pos rfl]
  rw [this, st_tx]
theorem tok_num {d rest : List Nat} (h0 : d ≠ []) (hd : ∀ x ∈ d, digB x = true) (h6 : d.length ≤ 6) (hr : NoDig rest) : TokOk kdW d rest := by
  obtain ⟨c, w', rfl⟩ := List.exists_cons_of_ne_nil h0
  have h : c ∈ [48, 49, 50, 51, 52, 53, 54, 55, 56, 57] := by have := hd c (List.mem_cons_self ..); rw [digB_eq] at this; exact of_decide_eq_true this
  have h59 : c ≠ 59 := fun z => by rw [z] at h; revert h; decide
  have hl4 : ¬ letB c = true := fun z => by
    rw [letB_eq] at z
    have z := of_decide_eq_true z
    simp at h z
    omega
  have h115 : c ≠ 115 := fun z => by rw [z] at h; revert h; decide
  refine ⟨c, w', rfl, fun z => by rw [z] at h; revert h; decide, fun S a hl hlow => wp_token_at (d := c :: w') (r' := rest) hl hlow rfl hd hr ?_⟩
  unfold tokQ
  rw [if_neg h59, if_neg hl4, if_neg (by simp [stL, h115]), if_neg (by simp), if_neg (by omega)]
  have : kdW (c :: w') = "number" := by unfold kdW; rw [if_neg (by simp [stL, h115]), if_neg (by simp [h59]), if_neg (by simpa using hl4)]
  rw [this]
/-- strange ones -/
theorem str_none {c : Nat} {w' rest : List Nat} (h32 : c ≠ 32) (h59 : c ≠ 59) (hl4 : letB c = false) (hdg : digB c = false) (h5 : (c :: (w' ++ rest)).take 5 ≠ stL) : StrOk "no token begins here" (c :: w') rest := by
  refine ⟨c, w', rfl, h32, fun S a hl hlow => wp_token_tw hl hlow ?_⟩
  unfold tokQ
  have e : List.takeWhile digB (c :: (w'.append rest)) = [] := List.takeWhile_cons_of_neg (by rw [hdg]; simp)
  rw [if_neg h59, if_neg (by rw [hl4]; simp), if_neg (show ¬ List.take 5 (c :: (w'.append rest)) = stL from h5), if_pos e]
theorem str_long {d rest : List Nat} (h0 : d ≠ []) (hd : ∀ x ∈ d, digB x = true) (h6 : 6 < d.length) (hr : NoDig rest) : StrOk "a number has at most 6 digits" d rest := by
  obtain ⟨c, w', rfl⟩ := List.exists_cons_of_ne_nil h0
  have h : c ∈ [48, 49, 50, 51, 52, 53, 54, 55, 56, 57] := by have := hd c (List.mem_cons_self ..); rw [digB_eq] at this; exact of_decide_eq_true this
  have h59 : c ≠ 59 := fun z => by rw [z] at h; revert h; decide
  have hl4 : ¬ letB c = true := fun z => by
    rw [letB_eq] at z
    have z := of_decide_eq_true z
    simp at h z
    omega
  have h115 : c ≠ 115 := fun z => by rw [z] at h; revert h; decide
  refine ⟨c, w', rfl, fun z => by rw [z] at h; revert h; decide, fun S a hl hlow => wp_token_at (d := c :: w') (r' := rest) hl hlow rfl hd hr ?_⟩
  unfold tokQ
  rw [if_neg h59, if_neg hl4, if_neg (by simp [stL, h115]), if_neg (by simp), if_pos h6]
end
end Dn
end
section
set_option Elab.async false
set_option linter.all false
set_option maxRecDepth 100000
set_option maxHeartbeats 1000000
namespace Dn
open PySem L2
section
variable {S : Stor}
/-- the words that the law draws -/
def wordsG : List (List Nat) := [[48], [51, 49], [48, 48, 48, 51, 52, 53], [57, 57, 57, 57, 57, 57], [59], [97], [98], [100], [99], stL, [59]]
theorem wp_law_kind {w : List Nat} {Q : OutF → Prop} (hw : w ∈ wordsG) (h : Q (.ok (.str (kdW w)) S)) : wpF d__law_kind_v2 [.str (tx w)] S Q := by
  have key : ∀ w ∈ wordsG, d__law_kind_v2 [.str (tx w)] S = .ok (.str (kdW w)) S := by
    intro w hw
    unfold wordsG at hw
    simp only [List.mem_cons, List.not_mem_nil, or_false] at hw
    rcases hw with rfl | rfl | rfl | rfl | rfl | rfl | rfl | rfl | rfl | rfl | rfl <;> kernel_rfl
  unfold wpF
  rw [key w hw]
  exact h
end
end Dn
end
section
set_option Elab.async false
set_option linter.all false
set_option maxRecDepth 100000
set_option maxHeartbeats 1000000
namespace Dn
open PySem L2
section
variable {S : Stor}
theorem wp_told_tx {S' : Stor} {p v : PV} {Q : OutF → Prop} (ht : wpF d_scan_v5 [p] S fun o => o = .ok v S') (h : Q (.ok v S')) : wpF d__law_told_v23 [p] S Q := by
  unfold d__law_told_v23
  refine wpF_go rfl ?_
  rw [wpS_try2]
  simp only [List.map, List.replicate, List.cons_append, List.nil_append, List.length_cons, List.length_nil, Nat.reduceAdd, bq_ok, bq_ex, wp_pure, wp_fail, wp_getS, oQ_some, oQ_ite, bqS_ok, bqS_ex, wpS_seq, sqS_nx, sqS_rt, sqS_bk, sqS_ct, sqS_ex, wpS_next, wpS_break, wpS_cont, wpS_retN, wpS_setT, stQ_some, wp_C, wp_call, wp_callv, bqF_ok, bqF_ex, wp_new, wp_newv, fqS_nx, fqS_rt, fqS_ex, wpS_for, wp_comp, wp_dVar, vQ_v, vQ_o, List.getElem?_cons_zero, List.getElem?_cons_succ, List.set_cons_zero, List.set_cons_succ, wp_d1, wp_k1, wp_d2, wp_k2, wp_k2b, wp_dT, wp_kT, wp_dTru, wp_kTru, wp_dNotT, wp_kNot, wp_dAndT, wp_kAnd, wp_dOrT, wp_kOr, wp_dAndV, wp_kAndV, wp_kAndVb, wp_dOrV, wp_kOrV, wp_kOrVb, wp_dNotV, wp_kNotV, wp_kNotVb, wp_dIf, wp_kIf, wp_dChain, wp_kCh, wp_kCh2, wp_kCh3, wp_aNil, wp_aCons, wp_kCons, wp_kCons2, wp_dTup, wp_kTup, wp_dLst, wp_kLst, wp_dN, wp_kN, wp_dLs, wp_kLs, wp_lDisp, wp_kDisp, wp_lRng, wp_kRng, wp_dItR, wp_kItR, wp_dItS, wp_kItS, wp_tTrue, wp_oNo, wp_oSome, wp_kSome, wp_dSl, wp_kSl, wp_kSl1, wp_kSl2, ws_ret, ws_kRet, ws_expr, ws_kExpr, ws_if, ws_kIfS, ws_set, ws_kSet, ws_setO, ws_kSetO, ws_kSetT, ws_setR, ws_kSetR0, ws_kSetR1, ws_kSetR2, items_t, items_ft, items_l, items_r, setAll, Bool.not_true, Bool.not_false, if_true, ite_true, ite_false, ↓reduceIte, Bool.false_eq_true, Int.reduceLT, Int.reduceLE, Nat.reduceLT, Nat.reduceLeDiff, Nat.reducePow, Int.reducePow, Int.reduceToNat, Int.reduceNeg, Int.reduceSub, Int.reduceAdd, and_self, and_true, true_and, decide_eq_true_eq, decide_true, decide_false, List.length_map, ixN_31, ixN_32, ixN_30, wipeE, restE, lcQ, Option.getD_some, add_i, add_t, add_l, sub_i, mul_i, mul_t, mul_l, fdiv_i, mod_i, pow_18, neg_i, lt_i, le_i, gt_i, ge_i, eq_i, ne_i, eq_b, len_t, len_ft, len_l, len_r, abs_i, int_i, list_t, list_ft, list_l, list_r, tuple_t, tuple_ft, tuple_l, isi_i, isi_b, isi_s, isi_t, isi_ft, isi_l, isi_r, isi_n, tru_b, tru_i, tru_t, tru_ft, tru_l, tru_n, isN_n, isN_b, isN_i, isN_s, isN_t, isN_l, ix_t, ix_ft, ix_l, ix_r, ix_ref, setS_ref, atI_0, atI_1, atI_2, Option.map_some, Option.map_none, kb0, kb1, kb2, kb3, kb4, kb5, kb6, kb7, kb8, kb9, kb10, kb11, kb12, kb13, kb14, kb15, kb16, kb17, kb18, kb19, kb20, kb21, kb22, kb23, kb24, kb25, kb26, kb27, kb28, kb29, sz0, szl0, sz1, szl1, sz2, szl2, sz3, szl3, sz4, szl4, sz5, szl5, sz6, szl6, sz7, szl7, sz8, szl8, sz9, szl9, sz10, szl10, sz11, szl11, sz12, szl12, sz13, szl13, sz14, szl14, sz15, szl15, sz16, szl16, sz17, szl17, sz18, szl18, sz19, szl19, sz20, szl20, sz21, szl21, sz22, szl22, sz23, szl23, sz24, szl24, sz25, szl25, sz26, szl26, sz27, szl27, sz28, szl28, sz29, szl29, sz30, szl30, sz31, szl31, sz32, szl32, sz33, szl33, sz34, szl34, sz35, szl35, sz36, szl36, sz37, szl37, sz38, szl38, sz39, szl39, sz40, szl40]
  refine wpF_is ht ?_
  simp only [List.map, List.replicate, List.cons_append, List.nil_append, List.length_cons, List.length_nil, Nat.reduceAdd, bq_ok, bq_ex, wp_pure, wp_fail, wp_getS, oQ_some, oQ_ite, bqS_ok, bqS_ex, wpS_seq, sqS_nx, sqS_rt, sqS_bk, sqS_ct, sqS_ex, wpS_next, wpS_break, wpS_cont, wpS_retN, wpS_setT, stQ_some, wp_C, wp_call, wp_callv, bqF_ok, bqF_ex, wp_new, wp_newv, fqS_nx, fqS_rt, fqS_ex, wpS_for, wp_comp, wp_dVar, vQ_v, vQ_o, List.getElem?_cons_zero, List.getElem?_cons_succ, List.set_cons_zero, List.set_cons_succ, wp_d1, wp_k1, wp_d2, wp_k2, wp_k2b, wp_dT, wp_kT, wp_dTru, wp_kTru, wp_dNotT, wp_kNot, wp_dAndT, wp_kAnd, wp_dOrT, wp_kOr, wp_dAndV, wp_kAndV, wp_kAndVb, wp_dOrV, wp_kOrV, wp_kOrVb, wp_dNotV, wp_kNotV, wp_kNotVb, wp_dIf, wp_kIf, wp_dChain, wp_kCh, wp_kCh2, wp_kCh3, wp_aNil, wp_aCons, wp_kCons, wp_kCons2, wp_dTup, wp_kTup, wp_dLst, wp_kLst, wp_dN, wp_kN, wp_dLs, wp_kLs, wp_lDisp, wp_kDisp, wp_lRng, wp_kRng, wp_dItR, wp_kItR, wp_dItS, wp_kItS, wp_tTrue, wp_oNo, wp_oSome, wp_kSome, wp_dSl, wp_kSl, wp_kSl1, wp_kSl2, ws_ret, ws_kRet, ws_expr, ws_kExpr, ws_if, ws_kIfS, ws_set, ws_kSet, ws_setO, ws_kSetO, ws_kSetT, ws_setR, ws_kSetR0, ws_kSetR1, ws_kSetR2, items_t, items_ft, items_l, items_r, setAll, Bool.not_true, Bool.not_false, if_true, ite_true, ite_false, ↓reduceIte, Bool.false_eq_true, Int.reduceLT, Int.reduceLE, Nat.reduceLT, Nat.reduceLeDiff, Nat.reducePow, Int.reducePow, Int.reduceToNat, Int.reduceNeg, Int.reduceSub, Int.reduceAdd, and_self, and_true, true_and, decide_eq_true_eq, decide_true, decide_false, List.length_map, ixN_31, ixN_32, ixN_30, wipeE, restE, lcQ, Option.getD_some, add_i, add_t, add_l, sub_i, mul_i, mul_t, mul_l, fdiv_i, mod_i, pow_18, neg_i, lt_i, le_i, gt_i, ge_i, eq_i, ne_i, eq_b, len_t, len_ft, len_l, len_r, abs_i, int_i, list_t, list_ft, list_l, list_r, tuple_t, tuple_ft, tuple_l, isi_i, isi_b, isi_s, isi_t, isi_ft, isi_l, isi_r, isi_n, tru_b, tru_i, tru_t, tru_ft, tru_l, tru_n, isN_n, isN_b, isN_i, isN_s, isN_t, isN_l, ix_t, ix_ft, ix_l, ix_r, ix_ref, setS_ref, atI_0, atI_1, atI_2, Option.map_some, Option.map_none, kb0, kb1, kb2, kb3, kb4, kb5, kb6, kb7, kb8, kb9, kb10, kb11, kb12, kb13, kb14, kb15, kb16, kb17, kb18, kb19, kb20, kb21, kb22, kb23, kb24, kb25, kb26, kb27, kb28, kb29, sz0, szl0, sz1, szl1, sz2, szl2, sz3, szl3, sz4, szl4, sz5, szl5, sz6, szl6, sz7, szl7, sz8, szl8, sz9, szl9, sz10, szl10, sz11, szl11, sz12, szl12, sz13, szl13, sz14, szl14, sz15, szl15, sz16, szl16, sz17, szl17, sz18, szl18, sz19, szl19, sz20, szl20, sz21, szl21, sz22, szl22, sz23, szl23, sz24, szl24, sz25, szl25, sz26, szl26, sz27, szl27, sz28, szl28, sz29, szl29, sz30, szl30, sz31, szl31, sz32, szl32, sz33, szl33, sz34, szl34, sz35, szl35, sz36, szl36, sz37, szl37, sz38, szl38, sz39, szl39, sz40, szl40, tryQ2_rt]
  exact h
theorem wp_told_te {S' : Stor} {p : PV} {i : Int} {m : Str} {Q : OutF → Prop} (ht : wpF d_scan_v5 [p] S fun o => o = .ex (TE i m) S') (h : Q (.ok (.tup [.int i, .str m]) S')) : wpF d__law_told_v23 [p] S Q := by
  unfold d__law_told_v23
  refine wpF_go rfl ?_
  rw [wpS_try2]
  simp only [List.map, List.replicate, List.cons_append, List.nil_append, List.length_cons, List.length_nil, Nat.reduceAdd, bq_ok, bq_ex, wp_pure, wp_fail, wp_getS, oQ_some, oQ_ite, bqS_ok, bqS_ex, wpS_seq, sqS_nx, sqS_rt, sqS_bk, sqS_ct, sqS_ex, wpS_next, wpS_break, wpS_cont, wpS_retN, wpS_setT, stQ_some, wp_C, wp_call, wp_callv, bqF_ok, bqF_ex, wp_new, wp_newv, fqS_nx, fqS_rt, fqS_ex, wpS_for, wp_comp, wp_dVar, vQ_v, vQ_o, List.getElem?_cons_zero, List.getElem?_cons_succ, List.set_cons_zero, List.set_cons_succ, wp_d1, wp_k1, wp_d2, wp_k2, wp_k2b, wp_dT, wp_kT, wp_dTru, wp_kTru, wp_dNotT, wp_kNot, wp_dAndT, wp_kAnd, wp_dOrT, wp_kOr, wp_dAndV, wp_kAndV, wp_kAndVb, wp_dOrV, wp_kOrV, wp_kOrVb, wp_dNotV, wp_kNotV, wp_kNotVb, wp_dIf, wp_kIf, wp_dChain, wp_kCh, wp_kCh2, wp_kCh3, wp_aNil, wp_aCons, wp_kCons, wp_kCons2, wp_dTup, wp_kTup, wp_dLst, wp_kLst, wp_dN, wp_kN, wp_dLs, wp_kLs, wp_lDisp, wp_kDisp, wp_lRng, wp_kRng, wp_dItR, wp_kItR, wp_dItS, wp_kItS, wp_tTrue, wp_oNo, wp_oSome, wp_kSome, wp_dSl, wp_kSl, wp_kSl1, wp_kSl2, ws_ret, ws_kRet, ws_expr, ws_kExpr, ws_if, ws_kIfS, ws_set, ws_kSet, ws_setO, ws_kSetO, ws_kSetT, ws_setR, ws_kSetR0, ws_kSetR1, ws_kSetR2, items_t, items_ft, items_l, items_r, setAll, Bool.not_true, Bool.not_false, if_true, ite_true, ite_false, ↓reduceIte, Bool.false_eq_true, Int.reduceLT, Int.reduceLE, Nat.reduceLT, Nat.reduceLeDiff, Nat.reducePow, Int.reducePow, Int.reduceToNat, Int.reduceNeg, Int.reduceSub, Int.reduceAdd, and_self, and_true, true_and, decide_eq_true_eq, decide_true, decide_false, List.length_map, ixN_31, ixN_32, ixN_30, wipeE, restE, lcQ, Option.getD_some, add_i, add_t, add_l, sub_i, mul_i, mul_t, mul_l, fdiv_i, mod_i, pow_18, neg_i, lt_i, le_i, gt_i, ge_i, eq_i, ne_i, eq_b, len_t, len_ft, len_l, len_r, abs_i, int_i, list_t, list_ft, list_l, list_r, tuple_t, tuple_ft, tuple_l, isi_i, isi_b, isi_s, isi_t, isi_ft, isi_l, isi_r, isi_n, tru_b, tru_i, tru_t, tru_ft, tru_l, tru_n, isN_n, isN_b, isN_i, isN_s, isN_t, isN_l, ix_t, ix_ft, ix_l, ix_r, ix_ref, setS_ref, atI_0, atI_1, atI_2, Option.map_some, Option.map_none, kb0, kb1, kb2, kb3, kb4, kb5, kb6, kb7, kb8, kb9, kb10, kb11, kb12, kb13, kb14, kb15, kb16, kb17, kb18, kb19, kb20, kb21, kb22, kb23, kb24, kb25, kb26, kb27, kb28, kb29, sz0, szl0, sz1, szl1, sz2, szl2, sz3, szl3, sz4, szl4, sz5, szl5, sz6, szl6, sz7, szl7, sz8, szl8, sz9, szl9, sz10, szl10, sz11, szl11, sz12, szl12, sz13, szl13, sz14, szl14, sz15, szl15, sz16, szl16, sz17, szl17, sz18, szl18, sz19, szl19, sz20, szl20, sz21, szl21, sz22, szl22, sz23, szl23, sz24, szl24, sz25, szl25, sz26, szl26, sz27, szl27, sz28, szl28, sz29, szl29, sz30, szl30, sz31, szl31, sz32, szl32, sz33, szl33, sz34, szl34, sz35, szl35, sz36, szl36, sz37, szl37, sz38, szl38, sz39, szl39, sz40, szl40]
  refine wpF_is ht ?_
  simp only [List.map, List.replicate, List.cons_append, List.nil_append, List.length_cons, List.length_nil, Nat.reduceAdd, bq_ok, bq_ex, wp_pure, wp_fail, wp_getS, oQ_some, oQ_ite, bqS_ok, bqS_ex, wpS_seq, sqS_nx, sqS_rt, sqS_bk, sqS_ct, sqS_ex, wpS_next, wpS_break, wpS_cont, wpS_retN, wpS_setT, stQ_some, wp_C, wp_call, wp_callv, bqF_ok, bqF_ex, wp_new, wp_newv, fqS_nx, fqS_rt, fqS_ex, wpS_for, wp_comp, wp_dVar, vQ_v, vQ_o, List.getElem?_cons_zero, List.getElem?_cons_succ, List.set_cons_zero, List.set_cons_succ, wp_d1, wp_k1, wp_d2, wp_k2, wp_k2b, wp_dT, wp_kT, wp_dTru, wp_kTru, wp_dNotT, wp_kNot, wp_dAndT, wp_kAnd, wp_dOrT, wp_kOr, wp_dAndV, wp_kAndV, wp_kAndVb, wp_dOrV, wp_kOrV, wp_kOrVb, wp_dNotV, wp_kNotV, wp_kNotVb, wp_dIf, wp_kIf, wp_dChain, wp_kCh, wp_kCh2, wp_kCh3, wp_aNil, wp_aCons, wp_kCons, wp_kCons2, wp_dTup, wp_kTup, wp_dLst, wp_kLst, wp_dN, wp_kN, wp_dLs, wp_kLs, wp_lDisp, wp_kDisp, wp_lRng, wp_kRng, wp_dItR, wp_kItR, wp_dItS, wp_kItS, wp_tTrue, wp_oNo, wp_oSome, wp_kSome, wp_dSl, wp_kSl, wp_kSl1, wp_kSl2, ws_ret, ws_kRet, ws_expr, ws_kExpr, ws_if, ws_kIfS, ws_set, ws_kSet, ws_setO, ws_kSetO, ws_kSetT, ws_setR, ws_kSetR0, ws_kSetR1, ws_kSetR2, items_t, items_ft, items_l, items_r, setAll, Bool.not_true, Bool.not_false, if_true, ite_true, ite_false, ↓reduceIte, Bool.false_eq_true, Int.reduceLT, Int.reduceLE, Nat.reduceLT, Nat.reduceLeDiff, Nat.reducePow, Int.reducePow, Int.reduceToNat, Int.reduceNeg, Int.reduceSub, Int.reduceAdd, and_self, and_true, true_and, decide_eq_true_eq, decide_true, decide_false, List.length_map, ixN_31, ixN_32, ixN_30, wipeE, restE, lcQ, Option.getD_some, add_i, add_t, add_l, sub_i, mul_i, mul_t, mul_l, fdiv_i, mod_i, pow_18, neg_i, lt_i, le_i, gt_i, ge_i, eq_i, ne_i, eq_b, len_t, len_ft, len_l, len_r, abs_i, int_i, list_t, list_ft, list_l, list_r, tuple_t, tuple_ft, tuple_l, isi_i, isi_b, isi_s, isi_t, isi_ft, isi_l, isi_r, isi_n, tru_b, tru_i, tru_t, tru_ft, tru_l, tru_n, isN_n, isN_b, isN_i, isN_s, isN_t, isN_l, ix_t, ix_ft, ix_l, ix_r, ix_ref, setS_ref, atI_0, atI_1, atI_2, Option.map_some, Option.map_none, kb0, kb1, kb2, kb3, kb4, kb5, kb6, kb7, kb8, kb9, kb10, kb11, kb12, kb13, kb14, kb15, kb16, kb17, kb18, kb19, kb20, kb21, kb22, kb23, kb24, kb25, kb26, kb27, kb28, kb29, sz0, szl0, sz1, szl1, sz2, szl2, sz3, szl3, sz4, szl4, sz5, szl5, sz6, szl6, sz7, szl7, sz8, szl8, sz9, szl9, sz10, szl10, sz11, szl11, sz12, szl12, sz13, szl13, sz14, szl14, sz15, szl15, sz16, szl16, sz17, szl17, sz18, szl18, sz19, szl19, sz20, szl20, sz21, szl21, sz22, szl22, sz23, szl23, sz24, szl24, sz25, szl25, sz26, szl26, sz27, szl27, sz28, szl28, sz29, szl29, sz30, szl30, sz31, szl31, sz32, szl32, sz33, szl33, sz34, szl34, sz35, szl35, sz36, szl36, sz37, szl37, sz38, szl38, sz39, szl39, sz40, szl40]
  rw [tryQ2_yes (by kernel_rfl)]
  simp only [List.map, List.replicate, List.cons_append, List.nil_append, List.length_cons, List.length_nil, Nat.reduceAdd, bq_ok, bq_ex, wp_pure, wp_fail, wp_getS, oQ_some, oQ_ite, bqS_ok, bqS_ex, wpS_seq, sqS_nx, sqS_rt, sqS_bk, sqS_ct, sqS_ex, wpS_next, wpS_break, wpS_cont, wpS_retN, wpS_setT, stQ_some, wp_C, wp_call, wp_callv, bqF_ok, bqF_ex, wp_new, wp_newv, fqS_nx, fqS_rt, fqS_ex, wpS_for, wp_comp, wp_dVar, vQ_v, vQ_o, List.getElem?_cons_zero, List.getElem?_cons_succ, List.set_cons_zero, List.set_cons_succ, wp_d1, wp_k1, wp_d2, wp_k2, wp_k2b, wp_dT, wp_kT, wp_dTru, wp_kTru, wp_dNotT, wp_kNot, wp_dAndT, wp_kAnd, wp_dOrT, wp_kOr, wp_dAndV, wp_kAndV, wp_kAndVb, wp_dOrV, wp_kOrV, wp_kOrVb, wp_dNotV, wp_kNotV, wp_kNotVb, wp_dIf, wp_kIf, wp_dChain, wp_kCh, wp_kCh2, wp_kCh3, wp_aNil, wp_aCons, wp_kCons, wp_kCons2, wp_dTup, wp_kTup, wp_dLst, wp_kLst, wp_dN, wp_kN, wp_dLs, wp_kLs, wp_lDisp, wp_kDisp, wp_lRng, wp_kRng, wp_dItR, wp_kItR, wp_dItS, wp_kItS, wp_tTrue, wp_oNo, wp_oSome, wp_kSome, wp_dSl, wp_kSl, wp_kSl1, wp_kSl2, ws_ret, ws_kRet, ws_expr, ws_kExpr, ws_if, ws_kIfS, ws_set, ws_kSet, ws_setO, ws_kSetO, ws_kSetT, ws_setR, ws_kSetR0, ws_kSetR1, ws_kSetR2, items_t, items_ft, items_l, items_r, setAll, Bool.not_true, Bool.not_false, if_true, ite_true, ite_false, ↓reduceIte, Bool.false_eq_true, Int.reduceLT, Int.reduceLE, Nat.reduceLT, Nat.reduceLeDiff, Nat.reducePow, Int.reducePow, Int.reduceToNat, Int.reduceNeg, Int.reduceSub, Int.reduceAdd, and_self, and_true, true_and, decide_eq_true_eq, decide_true, decide_false, List.length_map, ixN_31, ixN_32, ixN_30, wipeE, restE, lcQ, Option.getD_some, add_i, add_t, add_l, sub_i, mul_i, mul_t, mul_l, fdiv_i, mod_i, pow_18, neg_i, lt_i, le_i, gt_i, ge_i, eq_i, ne_i, eq_b, len_t, len_ft, len_l, len_r, abs_i, int_i, list_t, list_ft, list_l, list_r, tuple_t, tuple_ft, tuple_l, isi_i, isi_b, isi_s, isi_t, isi_ft, isi_l, isi_r, isi_n, tru_b, tru_i, tru_t, tru_ft, tru_l, tru_n, isN_n, isN_b, isN_i, isN_s, isN_t, isN_l, ix_t, ix_ft, ix_l, ix_r, ix_ref, setS_ref, atI_0, atI_1, atI_2, Option.map_some, Option.map_none, kb0, kb1, kb2, kb3, kb4, kb5, kb6, kb7, kb8, kb9, kb10, kb11, kb12, kb13, kb14, kb15, kb16, kb17, kb18, kb19, kb20, kb21, kb22, kb23, kb24, kb25, kb26, kb27, kb28, kb29, sz0, szl0, sz1, szl1, sz2, szl2, sz3, szl3, sz4, szl4, sz5, szl5, sz6, szl6, sz7, szl7, sz8, szl8, sz9, szl9, sz10, szl10, sz11, szl11, sz12, szl12, sz13, szl13, sz14, szl14, sz15, szl15, sz16, szl16, sz17, szl17, sz18, szl18, sz19, szl19, sz20, szl20, sz21, szl21, sz22, szl22, sz23, szl23, sz24, szl24, sz25, szl25, sz26, szl26, sz27, szl27, sz28, szl28, sz29, szl29, sz30, szl30, sz31, szl31, sz32, szl32, sz33, szl33, sz34, szl34, sz35, szl35, sz36, szl36, sz37, szl37, sz38, szl38, sz39, szl39, sz40, szl40]
  have e : List.lookup (TE i m).cls [(Str.ofString "BadValue", true), (Str.ofString "TextError", true)] = some true := by kernel_rfl
  have e1 : ∀ (en : DEnv) (S : Stor) (Q : Out PV → Prop), wp (dXf (TE i m) (Str.ofString "column")) en S Q = Q (.ok (.int i) en S) := fun _ _ _ => wp_dXf (by kernel_rfl)
  have e2 : ∀ (en : DEnv) (S : Stor) (Q : Out PV → Prop), wp (dXf (TE i m) (Str.ofString "words")) en S Q = Q (.ok (.str m) en S) := fun _ _ _ => wp_dXf (by kernel_rfl)
  rw [e, wp_opt]
  simp only [List.map, List.replicate, List.cons_append, List.nil_append, List.length_cons, List.length_nil, Nat.reduceAdd, bq_ok, bq_ex, wp_pure, wp_fail, wp_getS, oQ_some, oQ_ite, bqS_ok, bqS_ex, wpS_seq, sqS_nx, sqS_rt, sqS_bk, sqS_ct, sqS_ex, wpS_next, wpS_break, wpS_cont, wpS_retN, wpS_setT, stQ_some, wp_C, wp_call, wp_callv, bqF_ok, bqF_ex, wp_new, wp_newv, fqS_nx, fqS_rt, fqS_ex, wpS_for, wp_comp, wp_dVar, vQ_v, vQ_o, List.getElem?_cons_zero, List.getElem?_cons_succ, List.set_cons_zero, List.set_cons_succ, wp_d1, wp_k1, wp_d2, wp_k2, wp_k2b, wp_dT, wp_kT, wp_dTru, wp_kTru, wp_dNotT, wp_kNot, wp_dAndT, wp_kAnd, wp_dOrT, wp_kOr, wp_dAndV, wp_kAndV, wp_kAndVb, wp_dOrV, wp_kOrV, wp_kOrVb, wp_dNotV, wp_kNotV, wp_kNotVb, wp_dIf, wp_kIf, wp_dChain, wp_kCh, wp_kCh2, wp_kCh3, wp_aNil, wp_aCons, wp_kCons, wp_kCons2, wp_dTup, wp_kTup, wp_dLst, wp_kLst, wp_dN, wp_kN, wp_dLs, wp_kLs, wp_lDisp, wp_kDisp, wp_lRng, wp_kRng, wp_dItR, wp_kItR, wp_dItS, wp_kItS, wp_tTrue, wp_oNo, wp_oSome, wp_kSome, wp_dSl, wp_kSl, wp_kSl1, wp_kSl2, ws_ret, ws_kRet, ws_expr, ws_kExpr, ws_if, ws_kIfS, ws_set, ws_kSet, ws_setO, ws_kSetO, ws_kSetT, ws_setR, ws_kSetR0, ws_kSetR1, ws_kSetR2, items_t, items_ft, items_l, items_r, setAll, Bool.not_true, Bool.not_false, if_true, ite_true, ite_false, ↓reduceIte, Bool.false_eq_true, Int.reduceLT, Int.reduceLE, Nat.reduceLT, Nat.reduceLeDiff, Nat.reducePow, Int.reducePow, Int.reduceToNat, Int.reduceNeg, Int.reduceSub, Int.reduceAdd, and_self, and_true, true_and, decide_eq_true_eq, decide_true, decide_false, List.length_map, ixN_31, ixN_32, ixN_30, wipeE, restE, lcQ, Option.getD_some, add_i, add_t, add_l, sub_i, mul_i, mul_t, mul_l, fdiv_i, mod_i, pow_18, neg_i, lt_i, le_i, gt_i, ge_i, eq_i, ne_i, eq_b, len_t, len_ft, len_l, len_r, abs_i, int_i, list_t, list_ft, list_l, list_r, tuple_t, tuple_ft, tuple_l, isi_i, isi_b, isi_s, isi_t, isi_ft, isi_l, isi_r, isi_n, tru_b, tru_i, tru_t, tru_ft, tru_l, tru_n, isN_n, isN_b, isN_i, isN_s, isN_t, isN_l, ix_t, ix_ft, ix_l, ix_r, ix_ref, setS_ref, atI_0, atI_1, atI_2, Option.map_some, Option.map_none, kb0, kb1, kb2, kb3, kb4, kb5, kb6, kb7, kb8, kb9, kb10, kb11, kb12, kb13, kb14, kb15, kb16, kb17, kb18, kb19, kb20, kb21, kb22, kb23, kb24, kb25, kb26, kb27, kb28, kb29, sz0, szl0, sz1, szl1, sz2, szl2, sz3, szl3, sz4, szl4, sz5, szl5, sz6, szl6, sz7, szl7, sz8, szl8, sz9, szl9, sz10, szl10, sz11, szl11, sz12, szl12, sz13, szl13, sz14, szl14, sz15, szl15, sz16, szl16, sz17, szl17, sz18, szl18, sz19, szl19, sz20, szl20, sz21, szl21, sz22, szl22, sz23, szl23, sz24, szl24, sz25, szl25, sz26, szl26, sz27, szl27, sz28, szl28, sz29, szl29, sz30, szl30, sz31, szl31, sz32, szl32, sz33, szl33, sz34, szl34, sz35, szl35, sz36, szl36, sz37, szl37, sz38, szl38, sz39, szl39, sz40, szl40, e1, e2, tryR_rt]
  exact h
theorem wp_told_bv {p : PV} {Q : OutF → Prop} (ht : wpF d_scan_v5 [p] S fun o => o = .ex (BV "text") S) (h : Q (.ok (.str "text") S)) : wpF d__law_told_v23 [p] S Q := by
  unfold d__law_told_v23
  refine wpF_go rfl ?_
  rw [wpS_try2]
  simp only [List.map, List.replicate, List.cons_append, List.nil_append, List.length_cons, List.length_nil, Nat.reduceAdd, bq_ok, bq_ex, wp_pure, wp_fail, wp_getS, oQ_some, oQ_ite, bqS_ok, bqS_ex, wpS_seq, sqS_nx, sqS_rt, sqS_bk, sqS_ct, sqS_ex, wpS_next, wpS_break, wpS_cont, wpS_retN, wpS_setT, stQ_some, wp_C, wp_call, wp_callv, bqF_ok, bqF_ex, wp_new, wp_newv, fqS_nx, fqS_rt, fqS_ex, wpS_for, wp_comp, wp_dVar, vQ_v, vQ_o, List.getElem?_cons_zero, List.getElem?_cons_succ, List.set_cons_zero, List.set_cons_succ, wp_d1, wp_k1, wp_d2, wp_k2, wp_k2b, wp_dT, wp_kT, wp_dTru, wp_kTru, wp_dNotT, wp_kNot, wp_dAndT, wp_kAnd, wp_dOrT, wp_kOr, wp_dAndV, wp_kAndV, wp_kAndVb, wp_dOrV, wp_kOrV, wp_kOrVb, wp_dNotV, wp_kNotV, wp_kNotVb, wp_dIf, wp_kIf, wp_dChain, wp_kCh, wp_kCh2, wp_kCh3, wp_aNil, wp_aCons, wp_kCons, wp_kCons2, wp_dTup, wp_kTup, wp_dLst, wp_kLst, wp_dN, wp_kN, wp_dLs, wp_kLs, wp_lDisp, wp_kDisp, wp_lRng, wp_kRng, wp_dItR, wp_kItR, wp_dItS, wp_kItS, wp_tTrue, wp_oNo, wp_oSome, wp_kSome, wp_dSl, wp_kSl, wp_kSl1, wp_kSl2, ws_ret, ws_kRet, ws_expr, ws_kExpr, ws_if, ws_kIfS, ws_set, ws_kSet, ws_setO, ws_kSetO, ws_kSetT, ws_setR, ws_kSetR0, ws_kSetR1, ws_kSetR2, items_t, items_ft, items_l, items_r, setAll, Bool.not_true, Bool.not_false, if_true, ite_true, ite_false, ↓reduceIte, Bool.false_eq_true, Int.reduceLT, Int.reduceLE, Nat.reduceLT, Nat.reduceLeDiff, Nat.reducePow, Int.reducePow, Int.reduceToNat, Int.reduceNeg, Int.reduceSub, Int.reduceAdd, and_self, and_true, true_and, decide_eq_true_eq, decide_true, decide_false, List.length_map, ixN_31, ixN_32, ixN_30, wipeE, restE, lcQ, Option.getD_some, add_i, add_t, add_l, sub_i, mul_i, mul_t, mul_l, fdiv_i, mod_i, pow_18, neg_i, lt_i, le_i, gt_i, ge_i, eq_i, ne_i, eq_b, len_t, len_ft, len_l, len_r, abs_i, int_i, list_t, list_ft, list_l, list_r, tuple_t, tuple_ft, tuple_l, isi_i, isi_b, isi_s, isi_t, isi_ft, isi_l, isi_r, isi_n, tru_b, tru_i, tru_t, tru_ft, tru_l, tru_n, isN_n, isN_b, isN_i, isN_s, isN_t, isN_l, ix_t, ix_ft, ix_l, ix_r, ix_ref, setS_ref, atI_0, atI_1, atI_2, Option.map_some, Option.map_none, kb0, kb1, kb2, kb3, kb4, kb5, kb6, kb7, kb8, kb9, kb10, kb11, kb12, kb13, kb14, kb15, kb16, kb17, kb18, kb19, kb20, kb21, kb22, kb23, kb24, kb25, kb26, kb27, kb28, kb29, sz0, szl0, sz1, szl1, sz2, szl2, sz3, szl3, sz4, szl4, sz5, szl5, sz6, szl6, sz7, szl7, sz8, szl8, sz9, szl9, sz10, szl10, sz11, szl11, sz12, szl12, sz13, szl13, sz14, szl14, sz15, szl15, sz16, szl16, sz17, szl17, sz18, szl18, sz19, szl19, sz20, szl20, sz21, szl21, sz22, szl22, sz23, szl23, sz24, szl24, sz25, szl25, sz26, szl26, sz27, szl27, sz28, szl28, sz29, szl29, sz30, szl30, sz31, szl31, sz32, szl32, sz33, szl33, sz34, szl34, sz35, szl35, sz36, szl36, sz37, szl37, sz38, szl38, sz39, szl39, sz40, szl40]
  refine wpF_is ht ?_
  simp only [List.map, List.replicate, List.cons_append, List.nil_append, List.length_cons, List.length_nil, Nat.reduceAdd, bq_ok, bq_ex, wp_pure, wp_fail, wp_getS, oQ_some, oQ_ite, bqS_ok, bqS_ex, wpS_seq, sqS_nx, sqS_rt, sqS_bk, sqS_ct, sqS_ex, wpS_next, wpS_break, wpS_cont, wpS_retN, wpS_setT, stQ_some, wp_C, wp_call, wp_callv, bqF_ok, bqF_ex, wp_new, wp_newv, fqS_nx, fqS_rt, fqS_ex, wpS_for, wp_comp, wp_dVar, vQ_v, vQ_o, List.getElem?_cons_zero, List.getElem?_cons_succ, List.set_cons_zero, List.set_cons_succ, wp_d1, wp_k1, wp_d2, wp_k2, wp_k2b, wp_dT, wp_kT, wp_dTru, wp_kTru, wp_dNotT, wp_kNot, wp_dAndT, wp_kAnd, wp_dOrT, wp_kOr, wp_dAndV, wp_kAndV, wp_kAndVb, wp_dOrV, wp_kOrV, wp_kOrVb, wp_dNotV, wp_kNotV, wp_kNotVb, wp_dIf, wp_kIf, wp_dChain, wp_kCh, wp_kCh2, wp_kCh3, wp_aNil, wp_aCons, wp_kCons, wp_kCons2, wp_dTup, wp_kTup, wp_dLst, wp_kLst, wp_dN, wp_kN, wp_dLs, wp_kLs, wp_lDisp, wp_kDisp, wp_lRng, wp_kRng, wp_dItR, wp_kItR, wp_dItS, wp_kItS, wp_tTrue, wp_oNo, wp_oSome, wp_kSome, wp_dSl, wp_kSl, wp_kSl1, wp_kSl2, ws_ret, ws_kRet, ws_expr, ws_kExpr, ws_if, ws_kIfS, ws_set, ws_kSet, ws_setO, ws_kSetO, ws_kSetT, ws_setR, ws_kSetR0, ws_kSetR1, ws_kSetR2, items_t, items_ft, items_l, items_r, setAll, Bool.not_true, Bool.not_false, if_true, ite_true, ite_false, ↓reduceIte, Bool.false_eq_true, Int.reduceLT, Int.reduceLE, Nat.reduceLT, Nat.reduceLeDiff, Nat.reducePow, Int.reducePow, Int.reduceToNat, Int.reduceNeg, Int.reduceSub, Int.reduceAdd, and_self, and_true, true_and, decide_eq_true_eq, decide_true, decide_false, List.length_map, ixN_31, ixN_32, ixN_30, wipeE, restE, lcQ, Option.getD_some, add_i, add_t, add_l, sub_i, mul_i, mul_t, mul_l, fdiv_i, mod_i, pow_18, neg_i, lt_i, le_i, gt_i, ge_i, eq_i, ne_i, eq_b, len_t, len_ft, len_l, len_r, abs_i, int_i, list_t, list_ft, list_l, list_r, tuple_t, tuple_ft, tuple_l, isi_i, isi_b, isi_s, isi_t, isi_ft, isi_l, isi_r, isi_n, tru_b, tru_i, tru_t, tru_ft, tru_l, tru_n, isN_n, isN_b, isN_i, isN_s, isN_t, isN_l, ix_t, ix_ft, ix_l, ix_r, ix_ref, setS_ref, atI_0, atI_1, atI_2, Option.map_some, Option.map_none, kb0, kb1, kb2, kb3, kb4, kb5, kb6, kb7, kb8, kb9, kb10, kb11, kb12, kb13, kb14, kb15, kb16, kb17, kb18, kb19, kb20, kb21, kb22, kb23, kb24, kb25, kb26, kb27, kb28, kb29, sz0, szl0, sz1, szl1, sz2, szl2, sz3, szl3, sz4, szl4, sz5, szl5, sz6, szl6, sz7, szl7, sz8, szl8, sz9, szl9, sz10, szl10, sz11, szl11, sz12, szl12, sz13, szl13, sz14, szl14, sz15, szl15, sz16, szl16, sz17, szl17, sz18, szl18, sz19, szl19, sz20, szl20, sz21, szl21, sz22, szl22, sz23, szl23, sz24, szl24, sz25, szl25, sz26, szl26, sz27, szl27, sz28, szl28, sz29, szl29, sz30, szl30, sz31, szl31, sz32, szl32, sz33, szl33, sz34, szl34, sz35, szl35, sz36, szl36, sz37, szl37, sz38, szl38, sz39, szl39, sz40, szl40]
  rw [tryQ2_two (by kernel_rfl) (by kernel_rfl)]
  simp only [List.map, List.replicate, List.cons_append, List.nil_append, List.length_cons, List.length_nil, Nat.reduceAdd, bq_ok, bq_ex, wp_pure, wp_fail, wp_getS, oQ_some, oQ_ite, bqS_ok, bqS_ex, wpS_seq, sqS_nx, sqS_rt, sqS_bk, sqS_ct, sqS_ex, wpS_next, wpS_break, wpS_cont, wpS_retN, wpS_setT, stQ_some, wp_C, wp_call, wp_callv, bqF_ok, bqF_ex, wp_new, wp_newv, fqS_nx, fqS_rt, fqS_ex, wpS_for, wp_comp, wp_dVar, vQ_v, vQ_o, List.getElem?_cons_zero, List.getElem?_cons_succ, List.set_cons_zero, List.set_cons_succ, wp_d1, wp_k1, wp_d2, wp_k2, wp_k2b, wp_dT, wp_kT, wp_dTru, wp_kTru, wp_dNotT, wp_kNot, wp_dAndT, wp_kAnd, wp_dOrT, wp_kOr, wp_dAndV, wp_kAndV, wp_kAndVb, wp_dOrV, wp_kOrV, wp_kOrVb, wp_dNotV, wp_kNotV, wp_kNotVb, wp_dIf, wp_kIf, wp_dChain, wp_kCh, wp_kCh2, wp_kCh3, wp_aNil, wp_aCons, wp_kCons, wp_kCons2, wp_dTup, wp_kTup, wp_dLst, wp_kLst, wp_dN, wp_kN, wp_dLs, wp_kLs, wp_lDisp, wp_kDisp, wp_lRng, wp_kRng, wp_dItR, wp_kItR, wp_dItS, wp_kItS, wp_tTrue, wp_oNo, wp_oSome, wp_kSome, wp_dSl, wp_kSl, wp_kSl1, wp_kSl2, ws_ret, ws_kRet, ws_expr, ws_kExpr, ws_if, ws_kIfS, ws_set, ws_kSet, ws_setO, ws_kSetO, ws_kSetT, ws_setR, ws_kSetR0, ws_kSetR1, ws_kSetR2, items_t, items_ft, items_l, items_r, setAll, Bool.not_true, Bool.not_false, if_true, ite_true, ite_false, ↓reduceIte, Bool.false_eq_true, Int.reduceLT, Int.reduceLE, Nat.reduceLT, Nat.reduceLeDiff, Nat.reducePow, Int.reducePow, Int.reduceToNat, Int.reduceNeg, Int.reduceSub, Int.reduceAdd, and_self, and_true, true_and, decide_eq_true_eq, decide_true, decide_false, List.length_map, ixN_31, ixN_32, ixN_30, wipeE, restE, lcQ, Option.getD_some, add_i, add_t, add_l, sub_i, mul_i, mul_t, mul_l, fdiv_i, mod_i, pow_18, neg_i, lt_i, le_i, gt_i, ge_i, eq_i, ne_i, eq_b, len_t, len_ft, len_l, len_r, abs_i, int_i, list_t, list_ft, list_l, list_r, tuple_t, tuple_ft, tuple_l, isi_i, isi_b, isi_s, isi_t, isi_ft, isi_l, isi_r, isi_n, tru_b, tru_i, tru_t, tru_ft, tru_l, tru_n, isN_n, isN_b, isN_i, isN_s, isN_t, isN_l, ix_t, ix_ft, ix_l, ix_r, ix_ref, setS_ref, atI_0, atI_1, atI_2, Option.map_some, Option.map_none, kb0, kb1, kb2, kb3, kb4, kb5, kb6, kb7, kb8, kb9, kb10, kb11, kb12, kb13, kb14, kb15, kb16, kb17, kb18, kb19, kb20, kb21, kb22, kb23, kb24, kb25, kb26, kb27, kb28, kb29, sz0, szl0, sz1, szl1, sz2, szl2, sz3, szl3, sz4, szl4, sz5, szl5, sz6, szl6, sz7, szl7, sz8, szl8, sz9, szl9, sz10, szl10, sz11, szl11, sz12, szl12, sz13, szl13, sz14, szl14, sz15, szl15, sz16, szl16, sz17, szl17, sz18, szl18, sz19, szl19, sz20, szl20, sz21, szl21, sz22, szl22, sz23, szl23, sz24, szl24, sz25, szl25, sz26, szl26, sz27, szl27, sz28, szl28, sz29, szl29, sz30, szl30, sz31, szl31, sz32, szl32, sz33, szl33, sz34, szl34, sz35, szl35, sz36, szl36, sz37, szl37, sz38, szl38, sz39, szl39, sz40, szl40, bv_name, tryR_rt]
  exact h
end
end Dn
end
section
set_option Elab.async false
set_option linter.all false
set_option maxRecDepth 100000
set_option maxHeartbeats 1000000
namespace Dn
open PySem L2
section
variable {S : Stor}
/-! ### a list of the store is what it is due -/
theorem wp_equal_ref {n : Nat} {xs : List PV} {Q : OutF → Prop} (hs : S[n]? = some (.lst xs)) (hx : ∀ x ∈ xs, plP x = true) (hz : ∀ x ∈ xs, szP x = true) (hd : ∀ x ∈ xs, dpP x < 5) (hl : xs.length ≤ 1000000) (hq : Q (.ok (.bl true) S)) : wpF d__law_equal [.ref n, .lst xs] S Q := by
  have el : lenP S [.ref n] = some (.int xs.length) := by
    show (match S[n]? with | some (.lst xs) => some (PV.int xs.length) | _ => none) = _
    rw [hs]
  have ei : isiP "list" S (.ref n) = some (.bl true) := by
    show (match S[n]? with | some (.lst _) => some (PV.bl _) | _ => _) = _
    rw [hs]
  have ex : ∀ i : Int, ixP S (.ref n) (.int i) = atI xs i := fun i => by rw [ix_ref, hs]
  show wpF (d__law_equal_f (5 + 1)) _ _ _
  unfold d__law_equal_f
  refine wpF_go rfl ?_
  have e1 : -1000000 ≤ (xs.length : Int) ∧ (xs.length : Int) ≤ 1000000 := by omega
  simp only [List.map, List.replicate, List.cons_append, List.nil_append, List.length_cons, List.length_nil, Nat.reduceAdd, bq_ok, bq_ex, wp_pure, wp_fail, wp_getS, oQ_some, oQ_ite, bqS_ok, bqS_ex, wpS_seq, sqS_nx, sqS_rt, sqS_bk, sqS_ct, sqS_ex, wpS_next, wpS_break, wpS_cont, wpS_retN, wpS_setT, stQ_some, wp_C, wp_call, wp_callv, bqF_ok, bqF_ex, wp_new, wp_newv, fqS_nx, fqS_rt, fqS_ex, wpS_for, wp_comp, wp_dVar, vQ_v, vQ_o, List.getElem?_cons_zero, List.getElem?_cons_succ, List.set_cons_zero, List.set_cons_succ, wp_d1, wp_k1, wp_d2, wp_k2, wp_k2b, wp_dT, wp_kT, wp_dTru, wp_kTru, wp_dNotT, wp_kNot, wp_dAndT, wp_kAnd, wp_dOrT, wp_kOr, wp_dAndV, wp_kAndV, wp_kAndVb, wp_dOrV, wp_kOrV, wp_kOrVb, wp_dNotV, wp_kNotV, wp_kNotVb, wp_dIf, wp_kIf, wp_dChain, wp_kCh, wp_kCh2, wp_kCh3, wp_aNil, wp_aCons, wp_kCons, wp_kCons2, wp_dTup, wp_kTup, wp_dLst, wp_kLst, wp_dN, wp_kN, wp_dLs, wp_kLs, wp_lDisp, wp_kDisp, wp_lRng, wp_kRng, wp_dItR, wp_kItR, wp_dItS, wp_kItS, wp_tTrue, wp_oNo, wp_oSome, wp_kSome, wp_dSl, wp_kSl, wp_kSl1, wp_kSl2, ws_ret, ws_kRet, ws_expr, ws_kExpr, ws_if, ws_kIfS, ws_set, ws_kSet, ws_setO, ws_kSetO, ws_kSetT, ws_setR, ws_kSetR0, ws_kSetR1, ws_kSetR2, items_t, items_ft, items_l, items_r, setAll, Bool.not_true, Bool.not_false, if_true, ite_true, ite_false, ↓reduceIte, Bool.false_eq_true, Int.reduceLT, Int.reduceLE, Nat.reduceLT, Nat.reduceLeDiff, Nat.reducePow, Int.reducePow, Int.reduceToNat, Int.reduceNeg, Int.reduceSub, Int.reduceAdd, and_self, and_true, true_and, decide_eq_true_eq, decide_true, decide_false, List.length_map, ixN_31, ixN_32, ixN_30, wipeE, restE, lcQ, Option.getD_some, add_i, add_t, add_l, sub_i, mul_i, mul_t, mul_l, fdiv_i, mod_i, pow_18, neg_i, lt_i, le_i, gt_i, ge_i, eq_i, ne_i, eq_b, len_t, len_ft, len_l, len_r, abs_i, int_i, list_t, list_ft, list_l, list_r, tuple_t, tuple_ft, tuple_l, isi_i, isi_b, isi_s, isi_t, isi_ft, isi_l, isi_r, isi_n, tru_b, tru_i, tru_t, tru_ft, tru_l, tru_n, isN_n, isN_b, isN_i, isN_s, isN_t, isN_l, ix_t, ix_ft, ix_l, ix_r, setS_ref, atI_0, atI_1, atI_2, Option.map_some, Option.map_none, kb0, kb1, kb2, kb3, kb4, kb5, kb6, kb7, kb8, kb9, kb10, kb11, kb12, kb13, kb14, kb15, kb16, kb17, kb18, kb19, kb20, kb21, kb22, kb23, kb24, kb25, kb26, kb27, kb28, kb29, sz0, szl0, sz1, szl1, sz2, szl2, sz3, szl3, sz4, szl4, sz5, szl5, sz6, szl6, sz7, szl7, sz8, szl8, sz9, szl9, sz10, szl10, sz11, szl11, sz12, szl12, sz13, szl13, sz14, szl14, sz15, szl15, sz16, szl16, sz17, szl17, sz18, szl18, sz19, szl19, sz20, szl20, sz21, szl21, sz22, szl22, sz23, szl23, sz24, szl24, sz25, szl25, sz26, szl26, sz27, szl27, sz28, szl28, sz29, szl29, sz30, szl30, sz31, szl31, sz32, szl32, sz33, szl33, sz34, szl34, sz35, szl35, sz36, szl36, sz37, szl37, sz38, szl38, sz39, szl39, sz40, szl40, el, ei, e1]
  refine wp_compP (fun p => .bl (atE xs xs p)) rfl rfl (fun _ => rfl) (by rw [rng_len]; unfold sizeLine; omega) ?_ ?_
  · intro p hp
    obtain ⟨i, rfl, hi⟩ := mem_rng hp
    have i1 : i < xs.length := by omega
    have a1 : atI xs i = some xs[i] := by rw [atI_in (by omega) (by omega)]; rfl
    have e2 : atE xs xs (.int i) = eqD xs[i] xs[i] := by
      unfold atE; dsimp only; rw [Int.toNat_natCast]; simp only [List.getD, List.getElem?_eq_getElem i1, Option.getD_some]
    simp only [List.map, List.replicate, List.cons_append, List.nil_append, List.length_cons, List.length_nil, Nat.reduceAdd, bq_ok, bq_ex, wp_pure, wp_fail, wp_getS, oQ_some, oQ_ite, bqS_ok, bqS_ex, wpS_seq, sqS_nx, sqS_rt, sqS_bk, sqS_ct, sqS_ex, wpS_next, wpS_break, wpS_cont, wpS_retN, wpS_setT, stQ_some, wp_C, wp_call, wp_callv, bqF_ok, bqF_ex, wp_new, wp_newv, fqS_nx, fqS_rt, fqS_ex, wpS_for, wp_comp, wp_dVar, vQ_v, vQ_o, List.getElem?_cons_zero, List.getElem?_cons_succ, List.set_cons_zero, List.set_cons_succ, wp_d1, wp_k1, wp_d2, wp_k2, wp_k2b, wp_dT, wp_kT, wp_dTru, wp_kTru, wp_dNotT, wp_kNot, wp_dAndT, wp_kAnd, wp_dOrT, wp_kOr, wp_dAndV, wp_kAndV, wp_kAndVb, wp_dOrV, wp_kOrV, wp_kOrVb, wp_dNotV, wp_kNotV, wp_kNotVb, wp_dIf, wp_kIf, wp_dChain, wp_kCh, wp_kCh2, wp_kCh3, wp_aNil, wp_aCons, wp_kCons, wp_kCons2, wp_dTup, wp_kTup, wp_dLst, wp_kLst, wp_dN, wp_kN, wp_dLs, wp_kLs, wp_lDisp, wp_kDisp, wp_lRng, wp_kRng, wp_dItR, wp_kItR, wp_dItS, wp_kItS, wp_tTrue, wp_oNo, wp_oSome, wp_kSome, wp_dSl, wp_kSl, wp_kSl1, wp_kSl2, ws_ret, ws_kRet, ws_expr, ws_kExpr, ws_if, ws_kIfS, ws_set, ws_kSet, ws_setO, ws_kSetO, ws_kSetT, ws_setR, ws_kSetR0, ws_kSetR1, ws_kSetR2, items_t, items_ft, items_l, items_r, setAll, Bool.not_true, Bool.not_false, if_true, ite_true, ite_false, ↓reduceIte, Bool.false_eq_true, Int.reduceLT, Int.reduceLE, Nat.reduceLT, Nat.reduceLeDiff, Nat.reducePow, Int.reducePow, Int.reduceToNat, Int.reduceNeg, Int.reduceSub, Int.reduceAdd, and_self, and_true, true_and, decide_eq_true_eq, decide_true, decide_false, List.length_map, ixN_31, ixN_32, ixN_30, wipeE, restE, lcQ, Option.getD_some, add_i, add_t, add_l, sub_i, mul_i, mul_t, mul_l, fdiv_i, mod_i, pow_18, neg_i, lt_i, le_i, gt_i, ge_i, eq_i, ne_i, eq_b, len_t, len_ft, len_l, len_r, abs_i, int_i, list_t, list_ft, list_l, list_r, tuple_t, tuple_ft, tuple_l, isi_i, isi_b, isi_s, isi_t, isi_ft, isi_l, isi_r, isi_n, tru_b, tru_i, tru_t, tru_ft, tru_l, tru_n, isN_n, isN_b, isN_i, isN_s, isN_t, isN_l, ix_t, ix_ft, ix_l, ix_r, setS_ref, atI_0, atI_1, atI_2, Option.map_some, Option.map_none, kb0, kb1, kb2, kb3, kb4, kb5, kb6, kb7, kb8, kb9, kb10, kb11, kb12, kb13, kb14, kb15, kb16, kb17, kb18, kb19, kb20, kb21, kb22, kb23, kb24, kb25, kb26, kb27, kb28, kb29, sz0, szl0, sz1, szl1, sz2, szl2, sz3, szl3, sz4, szl4, sz5, szl5, sz6, szl6, sz7, szl7, sz8, szl8, sz9, szl9, sz10, szl10, sz11, szl11, sz12, szl12, sz13, szl13, sz14, szl14, sz15, szl15, sz16, szl16, sz17, szl17, sz18, szl18, sz19, szl19, sz20, szl20, sz21, szl21, sz22, szl22, sz23, szl23, sz24, szl24, sz25, szl25, sz26, szl26, sz27, szl27, sz28, szl28, sz29, szl29, sz30, szl30, sz31, szl31, sz32, szl32, sz33, szl33, sz34, szl34, sz35, szl35, sz36, szl36, sz37, szl37, sz38, szl38, sz39, szl39, sz40, szl40, ex, a1]
    exact wp_equal_f 5 (hx _ (List.getElem_mem i1)) (hx _ (List.getElem_mem i1)) (hz _ (List.getElem_mem i1)) (hd _ (List.getElem_mem i1)) (by rw [e2]; rfl)
  · simp only [List.map, List.replicate, List.cons_append, List.nil_append, List.length_cons, List.length_nil, Nat.reduceAdd, bq_ok, bq_ex, wp_pure, wp_fail, wp_getS, oQ_some, oQ_ite, bqS_ok, bqS_ex, wpS_seq, sqS_nx, sqS_rt, sqS_bk, sqS_ct, sqS_ex, wpS_next, wpS_break, wpS_cont, wpS_retN, wpS_setT, stQ_some, wp_C, wp_call, wp_callv, bqF_ok, bqF_ex, wp_new, wp_newv, fqS_nx, fqS_rt, fqS_ex, wpS_for, wp_comp, wp_dVar, vQ_v, vQ_o, List.getElem?_cons_zero, List.getElem?_cons_succ, List.set_cons_zero, List.set_cons_succ, wp_d1, wp_k1, wp_d2, wp_k2, wp_k2b, wp_dT, wp_kT, wp_dTru, wp_kTru, wp_dNotT, wp_kNot, wp_dAndT, wp_kAnd, wp_dOrT, wp_kOr, wp_dAndV, wp_kAndV, wp_kAndVb, wp_dOrV, wp_kOrV, wp_kOrVb, wp_dNotV, wp_kNotV, wp_kNotVb, wp_dIf, wp_kIf, wp_dChain, wp_kCh, wp_kCh2, wp_kCh3, wp_aNil, wp_aCons, wp_kCons, wp_kCons2, wp_dTup, wp_kTup, wp_dLst, wp_kLst, wp_dN, wp_kN, wp_dLs, wp_kLs, wp_lDisp, wp_kDisp, wp_lRng, wp_kRng, wp_dItR, wp_kItR, wp_dItS, wp_kItS, wp_tTrue, wp_oNo, wp_oSome, wp_kSome, wp_dSl, wp_kSl, wp_kSl1, wp_kSl2, ws_ret, ws_kRet, ws_expr, ws_kExpr, ws_if, ws_kIfS, ws_set, ws_kSet, ws_setO, ws_kSetO, ws_kSetT, ws_setR, ws_kSetR0, ws_kSetR1, ws_kSetR2, items_t, items_ft, items_l, items_r, setAll, Bool.not_true, Bool.not_false, if_true, ite_true, ite_false, ↓reduceIte, Bool.false_eq_true, Int.reduceLT, Int.reduceLE, Nat.reduceLT, Nat.reduceLeDiff, Nat.reducePow, Int.reducePow, Int.reduceToNat, Int.reduceNeg, Int.reduceSub, Int.reduceAdd, and_self, and_true, true_and, decide_eq_true_eq, decide_true, decide_false, List.length_map, ixN_31, ixN_32, ixN_30, wipeE, restE, lcQ, Option.getD_some, add_i, add_t, add_l, sub_i, mul_i, mul_t, mul_l, fdiv_i, mod_i, pow_18, neg_i, lt_i, le_i, gt_i, ge_i, eq_i, ne_i, eq_b, len_t, len_ft, len_l, len_r, abs_i, int_i, list_t, list_ft, list_l, list_r, tuple_t, tuple_ft, tuple_l, isi_i, isi_b, isi_s, isi_t, isi_ft, isi_l, isi_r, isi_n, tru_b, tru_i, tru_t, tru_ft, tru_l, tru_n, isN_n, isN_b, isN_i, isN_s, isN_t, isN_l, ix_t, ix_ft, ix_l, ix_r, setS_ref, atI_0, atI_1, atI_2, Option.map_some, Option.map_none, kb0, kb1, kb2, kb3, kb4, kb5, kb6, kb7, kb8, kb9, kb10, kb11, kb12, kb13, kb14, kb15, kb16, kb17, kb18, kb19, kb20, kb21, kb22, kb23, kb24, kb25, kb26, kb27, kb28, kb29, sz0, szl0, sz1, szl1, sz2, szl2, sz3, szl3, sz4, szl4, sz5, szl5, sz6, szl6, sz7, szl7, sz8, szl8, sz9, szl9, sz10, szl10, sz11, szl11, sz12, szl12, sz13, szl13, sz14, szl14, sz15, szl15, sz16, szl16, sz17, szl17, sz18, szl18, sz19, szl19, sz20, szl20, sz21, szl21, sz22, szl22, sz23, szl23, sz24, szl24, sz25, szl25, sz26, szl26, sz27, szl27, sz28, szl28, sz29, szl29, sz30, szl30, sz31, szl31, sz32, szl32, sz33, szl33, sz34, szl34, sz35, szl35, sz36, szl36, sz37, szl37, sz38, szl38, sz39, szl39, sz40, szl40, all_map]
    have : (rngPV xs.length).all (atE xs xs) = true := by
      rw [all_atE xs xs rfl]
      exact eqDs_refl xs (by
        have : ∀ l : List PV, (∀ x ∈ l, plP x = true) → plsP l = true := fun l => by
          induction l with
          | nil => intro _; rfl
          | cons y l ih => intro h; unfold plsP; rw [h y (List.mem_cons_self ..), ih fun x hx => h x (List.mem_cons_of_mem _ hx)]; rfl
        exact this xs hx)
    rw [this]
    exact hq
/-! ### strange words -/
def strgW : List (List Nat) := [[65], [101], [95], [44], [9], [124], [58], [40], [35], [61], [47], [115, 32], [116], [83, 116, 97, 114, 116], [115, 116, 97]]
def strgD : List (List Nat) := [[49, 48, 48, 48, 48, 48, 48], [48, 48, 48, 48, 48, 48, 49]]
def wordsA : List (List Nat) := wordsG ++ strgW ++ strgD
def eD (w : List Nat) : Bool := digB (w.getLastD 0)
def sD (w : List Nat) : Bool := digB (w.headD 0)
theorem A_G {w : List Nat} (h : w ∈ wordsG) : w ∈ wordsA := List.mem_append_left _ (List.mem_append_left _ h)
theorem A_W {w : List Nat} (h : w ∈ strgW) : w ∈ wordsA := List.mem_append_left _ (List.mem_append_right _ h)
theorem A_D {w : List Nat} (h : w ∈ strgD) : w ∈ wordsA := List.mem_append_right _ h
theorem A_low : ∀ w ∈ wordsA, w.all (fun c => decide (c < 128 ∧ c ≠ 10)) = true := by decide
theorem A_len : ∀ w ∈ wordsA, w.length ≤ 7 := by decide
theorem A_ne : ∀ w ∈ wordsA, w ≠ [] := by decide
theorem A_r : ∀ w ∈ wordsA, w.headD 0 ≠ 114 := by decide
theorem sl_lst {w : List Nat} (h : w ∈ wordsA) : slP (.str (tx w)) (some (-1)) none = some (.str (tx [w.getLastD 0])) := by
  revert w
  have : ∀ w ∈ wordsA, (match slP (.str (tx w)) (some (-1)) none with | some (.str s) => s == tx [w.getLastD 0] | _ => false) = true := by decide +kernel
  intro w h
  have := this w h
  split at this
  · rename_i s e; rw [e, eq_of_beq this]
  · cases this
theorem sl_fst {w : List Nat} (h : w ∈ wordsA) : slP (.str (tx w)) none (some 1) = some (.str (tx [w.headD 0])) := by
  revert w
  have : ∀ w ∈ wordsA, (match slP (.str (tx w)) none (some 1) with | some (.str s) => s == tx [w.headD 0] | _ => false) = true := by decide +kernel
  intro w h
  have := this w h
  split at this
  · rename_i s e; rw [e, eq_of_beq this]
  · cases this
/-! ### words laid out -/
/-- a blank between two digits -/
def Gap : List (Nat × List Nat) → Prop
  | [] => True
  | [_] => True
  | x :: y :: L => (eD x.2 = true → sD y.2 = true → 1 ≤ y.1) ∧ Gap (y :: L)
theorem gap_snoc {z : Nat × List Nat} : ∀ {P : List (Nat × List Nat)}, Gap P → (∀ x, P.getLast? = some x → eD x.2 = true → sD z.2 = true → 1 ≤ z.1) → Gap (P ++ [z])
  | [], _, _ => trivial
  | [x], _, h => ⟨fun h1 h2 => h x rfl h1 h2, trivial⟩
  | x :: y :: P, g, h => ⟨g.1, gap_snoc (P := y :: P) g.2 fun u hu => h u (by rw [List.getLast?_cons_cons]; exact hu)⟩
theorem gap_tail {x : Nat × List Nat} : ∀ {P : List (Nat × List Nat)}, Gap (x :: P) → Gap P
  | [], _ => trivial
  | _ :: _, g => g.2
/-- the places of the words -/
def plc : Nat → List (Nat × List Nat) → List PV
  | _, [] => []
  | i, (b, w) :: L => .int ((i + b + 1 : Nat) : Int) :: plc (i + b + w.length) L
theorem lay_snoc {P : List (Nat × List Nat)} {b : Nat} {w : List Nat} : lay (P ++ [(b, w)]) = lay P ++ List.replicate b 32 ++ w := by simp [lay]
theorem lay_cons {P : List (Nat × List Nat)} {b : Nat} {w : List Nat} : lay ((b, w) :: P) = List.replicate b 32 ++ (w ++ lay P) := by simp [lay]
theorem plc_app : ∀ (P P' : List (Nat × List Nat)) (i : Nat), plc i (P ++ P') = plc i P ++ plc (i + (lay P).length) P'
  | [], P', i => by simp [plc, lay]
  | (b, w) :: P, P', i => by
    rw [List.cons_append, lay_cons]
    show _ :: plc (i + b + w.length) (P ++ P') = _ :: plc (i + b + w.length) P ++ _
    rw [plc_app P P' (i + b + w.length), List.cons_append]
    have : i + b + w.length + (lay P).length = i + (List.replicate b 32 ++ (w ++ lay P)).length := by simp; omega
    rw [this]
theorem plc_len : ∀ (P : List (Nat × List Nat)) (i : Nat), (plc i P).length = P.length
  | [], _ => rfl
  | (b, w) :: P, i => by show (plc _ P).length + 1 = _; rw [plc_len P]; rfl
theorem lay_len : ∀ {P : List (Nat × List Nat)}, (∀ x ∈ P, x.1 ≤ 3 ∧ x.2 ∈ wordsA) → (lay P).length ≤ 10 * P.length
  | [], _ => Nat.le_refl _
  | (b, w) :: P, h => by
    have h1 := h (b, w) (List.mem_cons_self ..)
    have h2 := lay_len (P := P) fun x hx => h x (List.mem_cons_of_mem _ hx)
    have h3 := A_len _ h1.2
    have h4 := h1.1
    dsimp only at h3 h4
    rw [lay_cons, List.length_append, List.length_append, List.length_replicate, List.length_cons]
    omega
theorem bl4 {b : Nat} (h : b < 4) : atI [PV.str "", .str " ", .str "  ", .str "   "] (b : Int) = some (.str (tx (List.replicate b 32))) := by
  have e1 : (" " : Str) = tx (List.replicate 1 32) := by kernel_rfl
  have e2 : ("  " : Str) = tx (List.replicate 2 32) := by kernel_rfl
  have e3 : ("   " : Str) = tx (List.replicate 3 32) := by kernel_rfl
  have e0 : ("" : Str) = tx (List.replicate 0 32) := by kernel_rfl
  rw [e0, e1, e2, e3]
  rcases b with _ | _ | _ | _ | b
  · rfl
  · rfl
  · rfl
  · rfl
  · omega
theorem bl3 {b : Nat} (h : b < 3) : atI [PV.str "", .str " ", .str "  "] (b : Int) = some (.str (tx (List.replicate b 32))) := by
  have e1 : (" " : Str) = tx (List.replicate 1 32) := by kernel_rfl
  have e2 : ("  " : Str) = tx (List.replicate 2 32) := by kernel_rfl
  have e0 : ("" : Str) = tx (List.replicate 0 32) := by kernel_rfl
  rw [e0, e1, e2]
  rcases b with _ | _ | _ | b
  · rfl
  · rfl
  · rfl
  · omega
end
end Dn
end
section
set_option Elab.async false
set_option linter.all false
set_option maxRecDepth 100000
set_option maxHeartbeats 1000000
namespace Dn
open PySem L2
section
variable {S : Stor}
theorem ws_of {d : DS} {e : DEnv} {o : OutS} {Q : OutS → Prop} (h : wpS d e S fun o' => o' = o) (hq : Q o) : wpS d e S Q := by
  have : d e S = o := h
  show Q _
  rw [this]; exact hq
def wV (w : List Nat) : PV := .str (tx w)
theorem ix_lw {ws : List (List Nat)} {i : Nat} {w : List Nat} (h : ws[i]? = some w) : ixP S (.lst (ws.map wV)) (.int i) = some (wV w) := by
  obtain ⟨hi, rfl⟩ := List.getElem?_eq_some_iff.mp h
  show atI _ _ = _
  rw [atI_in (by omega) (by rw [List.length_map]; omega)]
  simp
def ldN : DS := (sSet 6 (dN intP (aCons (dAndV (d2 gtP (dVar 4) (dC (.int 0))) (dAndV (d2 inSP (dSl (d2 ixP (dVar 1) (d2 subP (dVar 4) (dC (.int 1)))) (oSome (d1 negP (dC (.int 1)))) oNo) (dC (.str "0123456789"))) (d2 inSP (dSl (dVar 5) oNo (oSome (dC (.int 1)))) (dC (.str "0123456789"))))) aNil)))
def ldB : DS := (sSeq ldN
  (sSeq (sSet 2 (d2 addP (dVar 2) (d2 ixP (dLst (aCons (dC (.str "")) (aCons (dC (.str " ")) (aCons (dC (.str "  ")) (aCons (dC (.str "   ")) aNil))))) (dN max2P (aCons (dVar 6) (aCons (dCall d__law_next (aCons (dVar 0) (aCons (dC (.int 4)) aNil))) aNil))))))
  (sSeq (sApp 3 (d2 addP (dN lenP (aCons (dVar 2) aNil)) (dC (.int 1))))
  (sSet 2 (d2 addP (dVar 2) (dVar 5))))))
theorem ld_eq : d__law_laid_v3 = dFun 2 5 (sSeq (sSet 2 (dC (.str "")))
  (sSeq (sSetO 3 (lDisp aNil))
  (sSeq (sFor (dItE2 (dVar 1)) (tgT [4, 5]) ldB)
  (sSeq (sSet 2 (d2 addP (dVar 2) (d2 ixP (dLst (aCons (dC (.str "")) (aCons (dC (.str " ")) (aCons (dC (.str "  ")) aNil)))) (dCall d__law_next (aCons (dVar 0) (aCons (dC (.int 3)) aNil))))))
  (sRet (dTup (aCons (dVar 2) (aCons (d2 addP (dVar 3) (dLst (aCons (d2 addP (dN lenP (aCons (dVar 2) aNil)) (dC (.int 1))) aNil))) aNil)))))))) := id rfl
/-- is a blank needed ahead of the word w -/
def nrB (P : List (Nat × List Nat)) (w : List Nat) : Bool := match P.getLast? with
  | some x => eD x.2 && sD w
  | none => false
abbrev ldE (W : List (List Nat)) (P : List (Nat × List Nat)) (x4 x5 x6 : Slot) : DEnv := [.v (.ref 0), .v (.lst (W.map wV)), .v (.str (tx (lay P))), .ol (plc 0 P), x4, x5, x6]
theorem ld_near {W R : List (List Nat)} {P : List (Nat × List Nat)} {w : List Nat} {x6 : Slot} (hW : W = P.map Prod.snd ++ w :: R) (hP : ∀ x ∈ P, x.1 ≤ 3 ∧ x.2 ∈ wordsA) (hw : w ∈ wordsA) :
    wpS ldN (ldE W P (.v (.int P.length)) (.v (wV w)) x6) S fun o => o = .nx (ldE W P (.v (.int P.length)) (.v (wV w)) (.v (.int (if nrB P w then 1 else 0)))) S := by
  unfold ldN ldE
  rcases List.eq_nil_or_concat P with rfl | ⟨P', x, rfl⟩
  · simp only [List.replicate, List.cons_append, List.nil_append, List.length_nil, Nat.reduceAdd, bq_ok, bq_ex, wp_pure, wp_fail, wp_getS, oQ_some, oQ_ite, bqS_ok, bqS_ex, wpS_seq, sqS_nx, sqS_rt, sqS_bk, sqS_ct, sqS_ex, wpS_next, wpS_break, wpS_cont, wpS_retN, wpS_setT, stQ_some, wp_C, wp_call, wp_callv, bqF_ok, bqF_ex, wp_new, wp_newv, fqS_nx, fqS_rt, fqS_ex, wpS_for, wp_comp, wp_dVar, vQ_v, vQ_o, List.getElem?_cons_zero, List.getElem?_cons_succ, List.set_cons_zero, List.set_cons_succ, wp_d1, wp_k1, wp_d2, wp_k2, wp_k2b, wp_dT, wp_kT, wp_dTru, wp_kTru, wp_dNotT, wp_kNot, wp_dAndT, wp_kAnd, wp_dOrT, wp_kOr, wp_dAndV, wp_kAndV, wp_kAndVb, wp_dOrV, wp_kOrV, wp_kOrVb, wp_dNotV, wp_kNotV, wp_kNotVb, wp_dIf, wp_kIf, wp_dChain, wp_kCh, wp_kCh2, wp_kCh3, wp_aNil, wp_aCons, wp_kCons, wp_kCons2, wp_dTup, wp_kTup, wp_dLst, wp_kLst, wp_dN, wp_kN, wp_dLs, wp_kLs, wp_lDisp, wp_kDisp, wp_lRng, wp_kRng, wp_dItR, wp_kItR, wp_dItS, wp_kItS, wp_tTrue, wp_oNo, wp_oSome, wp_kSome, wp_dSl, wp_kSl, wp_kSl1, wp_kSl2, ws_ret, ws_kRet, ws_expr, ws_kExpr, ws_if, ws_kIfS, ws_set, ws_kSet, ws_setO, ws_kSetO, ws_kSetT, ws_setR, ws_kSetR0, ws_kSetR1, ws_kSetR2, items_t, items_ft, items_l, items_r, setAll, Bool.not_true, Bool.not_false, if_true, ite_true, ite_false, ↓reduceIte, Bool.false_eq_true, Int.reduceLT, Int.reduceLE, Nat.reduceLT, Nat.reduceLeDiff, Nat.reducePow, Int.reducePow, Int.reduceToNat, Int.reduceNeg, Int.reduceSub, Int.reduceAdd, and_self, and_true, true_and, decide_eq_true_eq, decide_true, decide_false, List.length_map, ixN_31, ixN_32, ixN_30, wipeE, restE, lcQ, Option.getD_some, add_i, add_t, add_l, sub_i, mul_i, mul_t, mul_l, fdiv_i, mod_i, pow_18, neg_i, lt_i, le_i, gt_i, ge_i, eq_i, ne_i, eq_b, len_t, len_ft, len_l, len_r, abs_i, int_i, list_t, list_ft, list_l, list_r, tuple_t, tuple_ft, tuple_l, isi_i, isi_b, isi_s, isi_t, isi_ft, isi_l, isi_r, isi_n, tru_b, tru_i, tru_t, tru_ft, tru_l, tru_n, isN_n, isN_b, isN_i, isN_s, isN_t, isN_l, ix_t, ix_ft, ix_l, ix_r, ix_ref, setS_ref, atI_0, atI_1, atI_2, Option.map_some, Option.map_none, kb0, kb1, kb2, kb3, kb4, kb5, kb6, kb7, kb8, kb9, kb10, kb11, kb12, kb13, kb14, kb15, kb16, kb17, kb18, kb19, kb20, kb21, kb22, kb23, kb24, kb25, kb26, kb27, kb28, kb29, sz0, szl0, sz1, szl1, sz2, szl2, sz3, szl3, sz4, szl4, sz5, szl5, sz6, szl6, sz7, szl7, sz8, szl8, sz9, szl9, sz10, szl10, sz11, szl11, sz12, szl12, sz13, szl13, sz14, szl14, sz15, szl15, sz16, szl16, sz17, szl17, sz18, szl18, sz19, szl19, sz20, szl20, sz21, szl21, sz22, szl22, sz23, szl23, sz24, szl24, sz25, szl25, sz26, szl26, sz27, szl27, sz28, szl28, sz29, szl29, sz30, szl30, sz31, szl31, sz32, szl32, sz33, szl33, sz34, szl34, sz35, szl35, sz36, szl36, sz37, szl37, sz38, szl38, sz39, szl39, sz40, szl40]
    rfl
  · rw [List.concat_eq_append] at *
    have hx := (hP x (by simp)).2
    have hi : W[P'.length]? = some x.2 := by rw [hW]; simp
    have ek : ((P' ++ [x]).length : Int) - 1 = (P'.length : Int) := by simp
    have ix := ix_lw (S := S) hi
    have kpos : (0 : Int) < ((P' ++ [x]).length : Int) := by simp
    have kpos' : (((P' ++ [x]).length : Int) > 0) := kpos
    have e1 : slP (wV x.2) (some (-1)) none = some (.str (tx [x.2.getLastD 0])) := sl_lst hx
    have e2 : slP (wV w) none (some 1) = some (.str (tx [w.headD 0])) := sl_fst hw
    have en : nrB (P' ++ [x]) w = (digB (x.2.getLastD 0) && digB (w.headD 0)) := by
      have el : (P' ++ [x]).getLast? = some x := by simp
      unfold nrB; rw [el]; rfl
    rw [en]
    cases h1 : digB (x.2.getLastD 0) <;> cases h2 : digB (w.headD 0) <;>
      simp only [List.replicate, List.cons_append, List.nil_append, List.length_nil, Nat.reduceAdd, bq_ok, bq_ex, wp_pure, wp_fail, wp_getS, oQ_some, oQ_ite, bqS_ok, bqS_ex, wpS_seq, sqS_nx, sqS_rt, sqS_bk, sqS_ct, sqS_ex, wpS_next, wpS_break, wpS_cont, wpS_retN, wpS_setT, stQ_some, wp_C, wp_call, wp_callv, bqF_ok, bqF_ex, wp_new, wp_newv, fqS_nx, fqS_rt, fqS_ex, wpS_for, wp_comp, wp_dVar, vQ_v, vQ_o, List.getElem?_cons_zero, List.getElem?_cons_succ, List.set_cons_zero, List.set_cons_succ, wp_d1, wp_k1, wp_d2, wp_k2, wp_k2b, wp_dT, wp_kT, wp_dTru, wp_kTru, wp_dNotT, wp_kNot, wp_dAndT, wp_kAnd, wp_dOrT, wp_kOr, wp_dAndV, wp_kAndV, wp_kAndVb, wp_dOrV, wp_kOrV, wp_kOrVb, wp_dNotV, wp_kNotV, wp_kNotVb, wp_dIf, wp_kIf, wp_dChain, wp_kCh, wp_kCh2, wp_kCh3, wp_aNil, wp_aCons, wp_kCons, wp_kCons2, wp_dTup, wp_kTup, wp_dLst, wp_kLst, wp_dN, wp_kN, wp_dLs, wp_kLs, wp_lDisp, wp_kDisp, wp_lRng, wp_kRng, wp_dItR, wp_kItR, wp_dItS, wp_kItS, wp_tTrue, wp_oNo, wp_oSome, wp_kSome, wp_dSl, wp_kSl, wp_kSl1, wp_kSl2, ws_ret, ws_kRet, ws_expr, ws_kExpr, ws_if, ws_kIfS, ws_set, ws_kSet, ws_setO, ws_kSetO, ws_kSetT, ws_setR, ws_kSetR0, ws_kSetR1, ws_kSetR2, items_t, items_ft, items_l, items_r, setAll, Bool.not_true, Bool.not_false, if_true, ite_true, ite_false, ↓reduceIte, Bool.false_eq_true, Int.reduceLT, Int.reduceLE, Nat.reduceLT, Nat.reduceLeDiff, Nat.reducePow, Int.reducePow, Int.reduceToNat, Int.reduceNeg, Int.reduceSub, Int.reduceAdd, and_self, and_true, true_and, decide_eq_true_eq, decide_true, decide_false, List.length_map, ixN_31, ixN_32, ixN_30, wipeE, restE, lcQ, Option.getD_some, add_i, add_t, add_l, sub_i, mul_i, mul_t, mul_l, fdiv_i, mod_i, pow_18, neg_i, lt_i, le_i, gt_i, ge_i, eq_i, ne_i, eq_b, len_t, len_ft, len_l, len_r, abs_i, int_i, list_t, list_ft, list_l, list_r, tuple_t, tuple_ft, tuple_l, isi_i, isi_b, isi_s, isi_t, isi_ft, isi_l, isi_r, isi_n, tru_b, tru_i, tru_t, tru_ft, tru_l, tru_n, isN_n, isN_b, isN_i, isN_s, isN_t, isN_l, ix_t, ix_ft, ix_l, ix_r, ix_ref, setS_ref, atI_0, atI_1, atI_2, Option.map_some, Option.map_none, kb0, kb1, kb2, kb3, kb4, kb5, kb6, kb7, kb8, kb9, kb10, kb11, kb12, kb13, kb14, kb15, kb16, kb17, kb18, kb19, kb20, kb21, kb22, kb23, kb24, kb25, kb26, kb27, kb28, kb29, sz0, szl0, sz1, szl1, sz2, szl2, sz3, szl3, sz4, szl4, sz5, szl5, sz6, szl6, sz7, szl7, sz8, szl8, sz9, szl9, sz10, szl10, sz11, szl11, sz12, szl12, sz13, szl13, sz14, szl14, sz15, szl15, sz16, szl16, sz17, szl17, sz18, szl18, sz19, szl19, sz20, szl20, sz21, szl21, sz22, szl22, sz23, szl23, sz24, szl24, sz25, szl25, sz26, szl26, sz27, szl27, sz28, szl28, sz29, szl29, sz30, szl30, sz31, szl31, sz32, szl32, sz33, szl33, sz34, szl34, sz35, szl35, sz36, szl36, sz37, szl37, sz38, szl38, sz39, szl39, sz40, szl40, ek, ix, kpos, kpos', e1, e2, in_dig, h1, h2] <;> rfl
theorem max_ii {a b : Int} : max2P S [.int a, .int b] = some (.int (if b > a then b else a)) := id rfl
theorem ld_turn {R : Stor} {W T : List (List Nat)} {P : List (Nat × List Nat)} {w : List Nat} {x6 : Slot} (h : SInv R S) (hW : W = P.map Prod.snd ++ w :: T) (hP : ∀ x ∈ P, x.1 ≤ 3 ∧ x.2 ∈ wordsA) (hw : w ∈ wordsA) (hl : P.length ≤ 100) (hg : Gap P) :
    wpS ldB (ldE W P (.v (.int P.length)) (.v (wV w)) x6) S fun o => ∃ b x6' S', o = .nx (ldE W (P ++ [(b, w)]) (.v (.int P.length)) (.v (wV w)) x6') S' ∧ SInv R S' ∧ b ≤ 3 ∧ Gap (P ++ [(b, w)]) := by
  unfold ldB
  rw [wpS_seq]
  refine ws_of (ld_near hW hP hw) ?_
  unfold ldE
  simp only [List.replicate, List.cons_append, List.nil_append, List.length_cons, List.length_nil, Nat.reduceAdd, bq_ok, bq_ex, wp_pure, wp_fail, wp_getS, oQ_some, oQ_ite, bqS_ok, bqS_ex, sqS_nx, sqS_rt, sqS_bk, sqS_ct, sqS_ex, wpS_next, wpS_break, wpS_cont, wpS_retN, wpS_setT, stQ_some, wp_C, wp_call, wp_callv, bqF_ok, bqF_ex, wp_new, wp_newv, fqS_nx, fqS_rt, fqS_ex, wpS_for, wp_comp, wp_dVar, vQ_v, vQ_o, List.getElem?_cons_zero, List.getElem?_cons_succ, List.set_cons_zero, List.set_cons_succ, wp_d1, wp_k1, wp_d2, wp_k2, wp_k2b, wp_dT, wp_kT, wp_dTru, wp_kTru, wp_dNotT, wp_kNot, wp_dAndT, wp_kAnd, wp_dOrT, wp_kOr, wp_dAndV, wp_kAndV, wp_kAndVb, wp_dOrV, wp_kOrV, wp_kOrVb, wp_dNotV, wp_kNotV, wp_kNotVb, wp_dIf, wp_kIf, wp_dChain, wp_kCh, wp_kCh2, wp_kCh3, wp_aNil, wp_aCons, wp_kCons, wp_kCons2, wp_dTup, wp_kTup, wp_dLst, wp_kLst, wp_dN, wp_kN, wp_dLs, wp_kLs, wp_lDisp, wp_kDisp, wp_lRng, wp_kRng, wp_dItR, wp_kItR, wp_dItS, wp_kItS, wp_tTrue, wp_oNo, wp_oSome, wp_kSome, wp_dSl, wp_kSl, wp_kSl1, wp_kSl2, ws_ret, ws_kRet, ws_expr, ws_kExpr, ws_if, ws_kIfS, ws_set, ws_kSet, ws_setO, ws_kSetO, ws_kSetT, ws_setR, ws_kSetR0, ws_kSetR1, ws_kSetR2, items_t, items_ft, items_l, items_r, setAll, Bool.not_true, Bool.not_false, if_true, ite_true, ite_false, ↓reduceIte, Bool.false_eq_true, Int.reduceLT, Int.reduceLE, Nat.reduceLT, Nat.reduceLeDiff, Nat.reducePow, Int.reducePow, Int.reduceToNat, Int.reduceNeg, Int.reduceSub, Int.reduceAdd, and_self, and_true, true_and, decide_eq_true_eq, decide_true, decide_false, List.length_map, ixN_31, ixN_32, ixN_30, wipeE, restE, lcQ, Option.getD_some, add_i, add_t, add_l, sub_i, mul_i, mul_t, mul_l, fdiv_i, mod_i, pow_18, neg_i, lt_i, le_i, gt_i, ge_i, eq_i, ne_i, eq_b, len_t, len_ft, len_l, len_r, abs_i, int_i, list_t, list_ft, list_l, list_r, tuple_t, tuple_ft, tuple_l, isi_i, isi_b, isi_s, isi_t, isi_ft, isi_l, isi_r, isi_n, tru_b, tru_i, tru_t, tru_ft, tru_l, tru_n, isN_n, isN_b, isN_i, isN_s, isN_t, isN_l, ix_t, ix_ft, ix_l, ix_r, ix_ref, setS_ref, atI_0, atI_1, atI_2, Option.map_some, Option.map_none, kb0, kb1, kb2, kb3, kb4, kb5, kb6, kb7, kb8, kb9, kb10, kb11, kb12, kb13, kb14, kb15, kb16, kb17, kb18, kb19, kb20, kb21, kb22, kb23, kb24, kb25, kb26, kb27, kb28, kb29, sz0, szl0, sz1, szl1, sz2, szl2, sz3, szl3, sz4, szl4, sz5, szl5, sz6, szl6, sz7, szl7, sz8, szl8, sz9, szl9, sz10, szl10, sz11, szl11, sz12, szl12, sz13, szl13, sz14, szl14, sz15, szl15, sz16, szl16, sz17, szl17, sz18, szl18, sz19, szl19, sz20, szl20, sz21, szl21, sz22, szl22, sz23, szl23, sz24, szl24, sz25, szl25, sz26, szl26, sz27, szl27, sz28, szl28, sz29, szl29, sz30, szl30, sz31, szl31, sz32, szl32, sz33, szl33, sz34, szl34, sz35, szl35, sz36, szl36, sz37, szl37, sz38, szl38, sz39, szl39, sz40, szl40]
  rw [wpS_seq]
  simp only [List.replicate, List.cons_append, List.nil_append, List.length_cons, List.length_nil, Nat.reduceAdd, bq_ok, bq_ex, wp_pure, wp_fail, wp_getS, oQ_some, oQ_ite, bqS_ok, bqS_ex, sqS_nx, sqS_rt, sqS_bk, sqS_ct, sqS_ex, wpS_next, wpS_break, wpS_cont, wpS_retN, wpS_setT, stQ_some, wp_C, wp_call, wp_callv, bqF_ok, bqF_ex, wp_new, wp_newv, fqS_nx, fqS_rt, fqS_ex, wpS_for, wp_comp, wp_dVar, vQ_v, vQ_o, List.getElem?_cons_zero, List.getElem?_cons_succ, List.set_cons_zero, List.set_cons_succ, wp_d1, wp_k1, wp_d2, wp_k2, wp_k2b, wp_dT, wp_kT, wp_dTru, wp_kTru, wp_dNotT, wp_kNot, wp_dAndT, wp_kAnd, wp_dOrT, wp_kOr, wp_dAndV, wp_kAndV, wp_kAndVb, wp_dOrV, wp_kOrV, wp_kOrVb, wp_dNotV, wp_kNotV, wp_kNotVb, wp_dIf, wp_kIf, wp_dChain, wp_kCh, wp_kCh2, wp_kCh3, wp_aNil, wp_aCons, wp_kCons, wp_kCons2, wp_dTup, wp_kTup, wp_dLst, wp_kLst, wp_dN, wp_kN, wp_dLs, wp_kLs, wp_lDisp, wp_kDisp, wp_lRng, wp_kRng, wp_dItR, wp_kItR, wp_dItS, wp_kItS, wp_tTrue, wp_oNo, wp_oSome, wp_kSome, wp_dSl, wp_kSl, wp_kSl1, wp_kSl2, ws_ret, ws_kRet, ws_expr, ws_kExpr, ws_if, ws_kIfS, ws_set, ws_kSet, ws_setO, ws_kSetO, ws_kSetT, ws_setR, ws_kSetR0, ws_kSetR1, ws_kSetR2, items_t, items_ft, items_l, items_r, setAll, Bool.not_true, Bool.not_false, if_true, ite_true, ite_false, ↓reduceIte, Bool.false_eq_true, Int.reduceLT, Int.reduceLE, Nat.reduceLT, Nat.reduceLeDiff, Nat.reducePow, Int.reducePow, Int.reduceToNat, Int.reduceNeg, Int.reduceSub, Int.reduceAdd, and_self, and_true, true_and, decide_eq_true_eq, decide_true, decide_false, List.length_map, ixN_31, ixN_32, ixN_30, wipeE, restE, lcQ, Option.getD_some, add_i, add_t, add_l, sub_i, mul_i, mul_t, mul_l, fdiv_i, mod_i, pow_18, neg_i, lt_i, le_i, gt_i, ge_i, eq_i, ne_i, eq_b, len_t, len_ft, len_l, len_r, abs_i, int_i, list_t, list_ft, list_l, list_r, tuple_t, tuple_ft, tuple_l, isi_i, isi_b, isi_s, isi_t, isi_ft, isi_l, isi_r, isi_n, tru_b, tru_i, tru_t, tru_ft, tru_l, tru_n, isN_n, isN_b, isN_i, isN_s, isN_t, isN_l, ix_t, ix_ft, ix_l, ix_r, ix_ref, setS_ref, atI_0, atI_1, atI_2, Option.map_some, Option.map_none, kb0, kb1, kb2, kb3, kb4, kb5, kb6, kb7, kb8, kb9, kb10, kb11, kb12, kb13, kb14, kb15, kb16, kb17, kb18, kb19, kb20, kb21, kb22, kb23, kb24, kb25, kb26, kb27, kb28, kb29, sz0, szl0, sz1, szl1, sz2, szl2, sz3, szl3, sz4, szl4, sz5, szl5, sz6, szl6, sz7, szl7, sz8, szl8, sz9, szl9, sz10, szl10, sz11, szl11, sz12, szl12, sz13, szl13, sz14, szl14, sz15, szl15, sz16, szl16, sz17, szl17, sz18, szl18, sz19, szl19, sz20, szl20, sz21, szl21, sz22, szl22, sz23, szl23, sz24, szl24, sz25, szl25, sz26, szl26, sz27, szl27, sz28, szl28, sz29, szl29, sz30, szl30, sz31, szl31, sz32, szl32, sz33, szl33, sz34, szl34, sz35, szl35, sz36, szl36, sz37, szl37, sz38, szl38, sz39, szl39, sz40, szl40]
  refine wp_next h (by omega) (by omega) fun x S1 hx0 hx1 h2 => ?_
  simp only [List.replicate, List.cons_append, List.nil_append, List.length_cons, List.length_nil, Nat.reduceAdd, bq_ok, bq_ex, wp_pure, wp_fail, wp_getS, oQ_some, oQ_ite, bqS_ok, bqS_ex, sqS_nx, sqS_rt, sqS_bk, sqS_ct, sqS_ex, wpS_next, wpS_break, wpS_cont, wpS_retN, wpS_setT, stQ_some, wp_C, wp_call, wp_callv, bqF_ok, bqF_ex, wp_new, wp_newv, fqS_nx, fqS_rt, fqS_ex, wpS_for, wp_comp, wp_dVar, vQ_v, vQ_o, List.getElem?_cons_zero, List.getElem?_cons_succ, List.set_cons_zero, List.set_cons_succ, wp_d1, wp_k1, wp_d2, wp_k2, wp_k2b, wp_dT, wp_kT, wp_dTru, wp_kTru, wp_dNotT, wp_kNot, wp_dAndT, wp_kAnd, wp_dOrT, wp_kOr, wp_dAndV, wp_kAndV, wp_kAndVb, wp_dOrV, wp_kOrV, wp_kOrVb, wp_dNotV, wp_kNotV, wp_kNotVb, wp_dIf, wp_kIf, wp_dChain, wp_kCh, wp_kCh2, wp_kCh3, wp_aNil, wp_aCons, wp_kCons, wp_kCons2, wp_dTup, wp_kTup, wp_dLst, wp_kLst, wp_dN, wp_kN, wp_dLs, wp_kLs, wp_lDisp, wp_kDisp, wp_lRng, wp_kRng, wp_dItR, wp_kItR, wp_dItS, wp_kItS, wp_tTrue, wp_oNo, wp_oSome, wp_kSome, wp_dSl, wp_kSl, wp_kSl1, wp_kSl2, ws_ret, ws_kRet, ws_expr, ws_kExpr, ws_if, ws_kIfS, ws_set, ws_kSet, ws_setO, ws_kSetO, ws_kSetT, ws_setR, ws_kSetR0, ws_kSetR1, ws_kSetR2, items_t, items_ft, items_l, items_r, setAll, Bool.not_true, Bool.not_false, if_true, ite_true, ite_false, ↓reduceIte, Bool.false_eq_true, Int.reduceLT, Int.reduceLE, Nat.reduceLT, Nat.reduceLeDiff, Nat.reducePow, Int.reducePow, Int.reduceToNat, Int.reduceNeg, Int.reduceSub, Int.reduceAdd, and_self, and_true, true_and, decide_eq_true_eq, decide_true, decide_false, List.length_map, ixN_31, ixN_32, ixN_30, wipeE, restE, lcQ, Option.getD_some, add_i, add_t, add_l, sub_i, mul_i, mul_t, mul_l, fdiv_i, mod_i, pow_18, neg_i, lt_i, le_i, gt_i, ge_i, eq_i, ne_i, eq_b, len_t, len_ft, len_l, len_r, abs_i, int_i, list_t, list_ft, list_l, list_r, tuple_t, tuple_ft, tuple_l, isi_i, isi_b, isi_s, isi_t, isi_ft, isi_l, isi_r, isi_n, tru_b, tru_i, tru_t, tru_ft, tru_l, tru_n, isN_n, isN_b, isN_i, isN_s, isN_t, isN_l, ix_t, ix_ft, ix_l, ix_r, ix_ref, setS_ref, atI_0, atI_1, atI_2, Option.map_some, Option.map_none, kb0, kb1, kb2, kb3, kb4, kb5, kb6, kb7, kb8, kb9, kb10, kb11, kb12, kb13, kb14, kb15, kb16, kb17, kb18, kb19, kb20, kb21, kb22, kb23, kb24, kb25, kb26, kb27, kb28, kb29, sz0, szl0, sz1, szl1, sz2, szl2, sz3, szl3, sz4, szl4, sz5, szl5, sz6, szl6, sz7, szl7, sz8, szl8, sz9, szl9, sz10, szl10, sz11, szl11, sz12, szl12, sz13, szl13, sz14, szl14, sz15, szl15, sz16, szl16, sz17, szl17, sz18, szl18, sz19, szl19, sz20, szl20, sz21, szl21, sz22, szl22, sz23, szl23, sz24, szl24, sz25, szl25, sz26, szl26, sz27, szl27, sz28, szl28, sz29, szl29, sz30, szl30, sz31, szl31, sz32, szl32, sz33, szl33, sz34, szl34, sz35, szl35, sz36, szl36, sz37, szl37, sz38, szl38, sz39, szl39, sz40, szl40, max_ii]
  obtain ⟨b, hb, hb4, hbn⟩ : ∃ b : Nat, (if x > (if nrB P w = true then (1 : Int) else 0) then x else (if nrB P w = true then 1 else 0)) = (b : Int) ∧ b < 4 ∧ (nrB P w = true → 1 ≤ b) := by
    cases nrB P w
    · refine ⟨x.toNat, ?_, by omega, fun z => nomatch z⟩
      simp only [Bool.false_eq_true, ↓reduceIte]
      split <;> omega
    · simp only [↓reduceIte]
      by_cases h1 : x > 1
      · refine ⟨x.toNat, ?_, by omega, fun _ => by omega⟩
        rw [if_pos h1]; omega
      · refine ⟨1, ?_, by omega, fun _ => by omega⟩
        rw [if_neg h1]; rfl
  have ll := lay_len hP
  have lw := A_len w hw
  have a1 : addP S1 (.str (tx (lay P))) (.str (tx (List.replicate b 32))) = some (.str (tx (lay P ++ List.replicate b 32))) := add_tx (by rw [List.length_replicate, sizeLine_eq]; omega)
  have a2 : lenP S1 [.str (tx (lay P ++ List.replicate b 32))] = some (.int ((lay P ++ List.replicate b 32).length : Nat)) := len_tx (by rw [List.length_append, List.length_replicate, sizeLine_eq]; omega)
  have a3 : addP S1 (.str (tx (lay P ++ List.replicate b 32))) (wV w) = some (.str (tx (lay P ++ List.replicate b 32 ++ w))) := add_tx (by rw [List.length_append, List.length_replicate, sizeLine_eq]; omega)
  simp only [hb, bl4 hb4, List.cons_append, List.nil_append, List.length_cons, List.length_nil, Nat.reduceAdd, bq_ok, bq_ex, wp_pure, wp_fail, wp_getS, oQ_some, oQ_ite, bqS_ok, bqS_ex, sqS_nx, sqS_rt, sqS_bk, sqS_ct, sqS_ex, wpS_next, wpS_break, wpS_cont, wpS_retN, wpS_setT, stQ_some, wp_C, wp_call, wp_callv, bqF_ok, bqF_ex, wp_new, wp_newv, fqS_nx, fqS_rt, fqS_ex, wpS_for, wp_comp, wp_dVar, vQ_v, vQ_o, List.getElem?_cons_zero, List.getElem?_cons_succ, List.set_cons_zero, List.set_cons_succ, wp_d1, wp_k1, wp_d2, wp_k2, wp_k2b, wp_dT, wp_kT, wp_dTru, wp_kTru, wp_dNotT, wp_kNot, wp_dAndT, wp_kAnd, wp_dOrT, wp_kOr, wp_dAndV, wp_kAndV, wp_kAndVb, wp_dOrV, wp_kOrV, wp_kOrVb, wp_dNotV, wp_kNotV, wp_kNotVb, wp_dIf, wp_kIf, wp_dChain, wp_kCh, wp_kCh2, wp_kCh3, wp_aNil, wp_aCons, wp_kCons, wp_kCons2, wp_dTup, wp_kTup, wp_dLst, wp_kLst, wp_dN, wp_kN, wp_dLs, wp_kLs, wp_lDisp, wp_kDisp, wp_lRng, wp_kRng, wp_dItR, wp_kItR, wp_dItS, wp_kItS, wp_tTrue, wp_oNo, wp_oSome, wp_kSome, wp_dSl, wp_kSl, wp_kSl1, wp_kSl2, ws_ret, ws_kRet, ws_expr, ws_kExpr, ws_if, ws_kIfS, ws_set, ws_kSet, ws_setO, ws_kSetO, ws_kSetT, ws_setR, ws_kSetR0, ws_kSetR1, ws_kSetR2, items_t, items_ft, items_l, items_r, setAll, Bool.not_true, Bool.not_false, if_true, ite_true, ite_false, ↓reduceIte, Bool.false_eq_true, Int.reduceLT, Int.reduceLE, Nat.reduceLT, Nat.reduceLeDiff, Nat.reducePow, Int.reducePow, Int.reduceToNat, Int.reduceNeg, Int.reduceSub, Int.reduceAdd, and_self, and_true, true_and, decide_eq_true_eq, decide_true, decide_false, List.length_map, ixN_31, ixN_32, ixN_30, wipeE, restE, lcQ, Option.getD_some, add_i, add_t, add_l, sub_i, mul_i, mul_t, mul_l, fdiv_i, mod_i, pow_18, neg_i, lt_i, le_i, gt_i, ge_i, eq_i, ne_i, eq_b, len_t, len_ft, len_l, len_r, abs_i, int_i, list_t, list_ft, list_l, list_r, tuple_t, tuple_ft, tuple_l, isi_i, isi_b, isi_s, isi_t, isi_ft, isi_l, isi_r, isi_n, tru_b, tru_i, tru_t, tru_ft, tru_l, tru_n, isN_n, isN_b, isN_i, isN_s, isN_t, isN_l, ix_t, ix_ft, ix_l, ix_r, ix_ref, setS_ref, atI_0, atI_1, atI_2, Option.map_some, Option.map_none, kb0, kb1, kb2, kb3, kb4, kb5, kb6, kb7, kb8, kb9, kb10, kb11, kb12, kb13, kb14, kb15, kb16, kb17, kb18, kb19, kb20, kb21, kb22, kb23, kb24, kb25, kb26, kb27, kb28, kb29, sz0, szl0, sz1, szl1, sz2, szl2, sz3, szl3, sz4, szl4, sz5, szl5, sz6, szl6, sz7, szl7, sz8, szl8, sz9, szl9, sz10, szl10, sz11, szl11, sz12, szl12, sz13, szl13, sz14, szl14, sz15, szl15, sz16, szl16, sz17, szl17, sz18, szl18, sz19, szl19, sz20, szl20, sz21, szl21, sz22, szl22, sz23, szl23, sz24, szl24, sz25, szl25, sz26, szl26, sz27, szl27, sz28, szl28, sz29, szl29, sz30, szl30, sz31, szl31, sz32, szl32, sz33, szl33, sz34, szl34, sz35, szl35, sz36, szl36, sz37, szl37, sz38, szl38, sz39, szl39, sz40, szl40, a1]
  rw [wpS_seq, wpS_app rfl]
  simp only [List.cons_append, List.nil_append, List.length_cons, List.length_nil, Nat.reduceAdd, bq_ok, bq_ex, wp_pure, wp_fail, wp_getS, oQ_some, oQ_ite, bqS_ok, bqS_ex, sqS_nx, sqS_rt, sqS_bk, sqS_ct, sqS_ex, wpS_next, wpS_break, wpS_cont, wpS_retN, wpS_setT, stQ_some, wp_C, wp_call, wp_callv, bqF_ok, bqF_ex, wp_new, wp_newv, fqS_nx, fqS_rt, fqS_ex, wpS_for, wp_comp, wp_dVar, vQ_v, vQ_o, List.getElem?_cons_zero, List.getElem?_cons_succ, List.set_cons_zero, List.set_cons_succ, wp_d1, wp_k1, wp_d2, wp_k2, wp_k2b, wp_dT, wp_kT, wp_dTru, wp_kTru, wp_dNotT, wp_kNot, wp_dAndT, wp_kAnd, wp_dOrT, wp_kOr, wp_dAndV, wp_kAndV, wp_kAndVb, wp_dOrV, wp_kOrV, wp_kOrVb, wp_dNotV, wp_kNotV, wp_kNotVb, wp_dIf, wp_kIf, wp_dChain, wp_kCh, wp_kCh2, wp_kCh3, wp_aNil, wp_aCons, wp_kCons, wp_kCons2, wp_dTup, wp_kTup, wp_dLst, wp_kLst, wp_dN, wp_kN, wp_dLs, wp_kLs, wp_lDisp, wp_kDisp, wp_lRng, wp_kRng, wp_dItR, wp_kItR, wp_dItS, wp_kItS, wp_tTrue, wp_oNo, wp_oSome, wp_kSome, wp_dSl, wp_kSl, wp_kSl1, wp_kSl2, ws_ret, ws_kRet, ws_expr, ws_kExpr, ws_if, ws_kIfS, ws_set, ws_kSet, ws_setO, ws_kSetO, ws_kSetT, ws_setR, ws_kSetR0, ws_kSetR1, ws_kSetR2, items_t, items_ft, items_l, items_r, setAll, Bool.not_true, Bool.not_false, if_true, ite_true, ite_false, ↓reduceIte, Bool.false_eq_true, Int.reduceLT, Int.reduceLE, Nat.reduceLT, Nat.reduceLeDiff, Nat.reducePow, Int.reducePow, Int.reduceToNat, Int.reduceNeg, Int.reduceSub, Int.reduceAdd, and_self, and_true, true_and, decide_eq_true_eq, decide_true, decide_false, List.length_map, ixN_31, ixN_32, ixN_30, wipeE, restE, lcQ, Option.getD_some, add_i, add_t, add_l, sub_i, mul_i, mul_t, mul_l, fdiv_i, mod_i, pow_18, neg_i, lt_i, le_i, gt_i, ge_i, eq_i, ne_i, eq_b, len_t, len_ft, len_l, len_r, abs_i, int_i, list_t, list_ft, list_l, list_r, tuple_t, tuple_ft, tuple_l, isi_i, isi_b, isi_s, isi_t, isi_ft, isi_l, isi_r, isi_n, tru_b, tru_i, tru_t, tru_ft, tru_l, tru_n, isN_n, isN_b, isN_i, isN_s, isN_t, isN_l, ix_t, ix_ft, ix_l, ix_r, ix_ref, setS_ref, atI_0, atI_1, atI_2, Option.map_some, Option.map_none, kb0, kb1, kb2, kb3, kb4, kb5, kb6, kb7, kb8, kb9, kb10, kb11, kb12, kb13, kb14, kb15, kb16, kb17, kb18, kb19, kb20, kb21, kb22, kb23, kb24, kb25, kb26, kb27, kb28, kb29, sz0, szl0, sz1, szl1, sz2, szl2, sz3, szl3, sz4, szl4, sz5, szl5, sz6, szl6, sz7, szl7, sz8, szl8, sz9, szl9, sz10, szl10, sz11, szl11, sz12, szl12, sz13, szl13, sz14, szl14, sz15, szl15, sz16, szl16, sz17, szl17, sz18, szl18, sz19, szl19, sz20, szl20, sz21, szl21, sz22, szl22, sz23, szl23, sz24, szl24, sz25, szl25, sz26, szl26, sz27, szl27, sz28, szl28, sz29, szl29, sz30, szl30, sz31, szl31, sz32, szl32, sz33, szl33, sz34, szl34, sz35, szl35, sz36, szl36, sz37, szl37, sz38, szl38, sz39, szl39, sz40, szl40, a2]
  rw [wpS_appv rfl (by rw [plc_len, sizeLine_eq]; omega)]
  simp only [List.cons_append, List.nil_append, List.length_cons, List.length_nil, Nat.reduceAdd, bq_ok, bq_ex, wp_pure, wp_fail, wp_getS, oQ_some, oQ_ite, bqS_ok, bqS_ex, sqS_nx, sqS_rt, sqS_bk, sqS_ct, sqS_ex, wpS_next, wpS_break, wpS_cont, wpS_retN, wpS_setT, stQ_some, wp_C, wp_call, wp_callv, bqF_ok, bqF_ex, wp_new, wp_newv, fqS_nx, fqS_rt, fqS_ex, wpS_for, wp_comp, wp_dVar, vQ_v, vQ_o, List.getElem?_cons_zero, List.getElem?_cons_succ, List.set_cons_zero, List.set_cons_succ, wp_d1, wp_k1, wp_d2, wp_k2, wp_k2b, wp_dT, wp_kT, wp_dTru, wp_kTru, wp_dNotT, wp_kNot, wp_dAndT, wp_kAnd, wp_dOrT, wp_kOr, wp_dAndV, wp_kAndV, wp_kAndVb, wp_dOrV, wp_kOrV, wp_kOrVb, wp_dNotV, wp_kNotV, wp_kNotVb, wp_dIf, wp_kIf, wp_dChain, wp_kCh, wp_kCh2, wp_kCh3, wp_aNil, wp_aCons, wp_kCons, wp_kCons2, wp_dTup, wp_kTup, wp_dLst, wp_kLst, wp_dN, wp_kN, wp_dLs, wp_kLs, wp_lDisp, wp_kDisp, wp_lRng, wp_kRng, wp_dItR, wp_kItR, wp_dItS, wp_kItS, wp_tTrue, wp_oNo, wp_oSome, wp_kSome, wp_dSl, wp_kSl, wp_kSl1, wp_kSl2, ws_ret, ws_kRet, ws_expr, ws_kExpr, ws_if, ws_kIfS, ws_set, ws_kSet, ws_setO, ws_kSetO, ws_kSetT, ws_setR, ws_kSetR0, ws_kSetR1, ws_kSetR2, items_t, items_ft, items_l, items_r, setAll, Bool.not_true, Bool.not_false, if_true, ite_true, ite_false, ↓reduceIte, Bool.false_eq_true, Int.reduceLT, Int.reduceLE, Nat.reduceLT, Nat.reduceLeDiff, Nat.reducePow, Int.reducePow, Int.reduceToNat, Int.reduceNeg, Int.reduceSub, Int.reduceAdd, and_self, and_true, true_and, decide_eq_true_eq, decide_true, decide_false, List.length_map, ixN_31, ixN_32, ixN_30, wipeE, restE, lcQ, Option.getD_some, add_i, add_t, add_l, sub_i, mul_i, mul_t, mul_l, fdiv_i, mod_i, pow_18, neg_i, lt_i, le_i, gt_i, ge_i, eq_i, ne_i, eq_b, len_t, len_ft, len_l, len_r, abs_i, int_i, list_t, list_ft, list_l, list_r, tuple_t, tuple_ft, tuple_l, isi_i, isi_b, isi_s, isi_t, isi_ft, isi_l, isi_r, isi_n, tru_b, tru_i, tru_t, tru_ft, tru_l, tru_n, isN_n, isN_b, isN_i, isN_s, isN_t, isN_l, ix_t, ix_ft, ix_l, ix_r, ix_ref, setS_ref, atI_0, atI_1, atI_2, Option.map_some, Option.map_none, kb0, kb1, kb2, kb3, kb4, kb5, kb6, kb7, kb8, kb9, kb10, kb11, kb12, kb13, kb14, kb15, kb16, kb17, kb18, kb19, kb20, kb21, kb22, kb23, kb24, kb25, kb26, kb27, kb28, kb29, sz0, szl0, sz1, szl1, sz2, szl2, sz3, szl3, sz4, szl4, sz5, szl5, sz6, szl6, sz7, szl7, sz8, szl8, sz9, szl9, sz10, szl10, sz11, szl11, sz12, szl12, sz13, szl13, sz14, szl14, sz15, szl15, sz16, szl16, sz17, szl17, sz18, szl18, sz19, szl19, sz20, szl20, sz21, szl21, sz22, szl22, sz23, szl23, sz24, szl24, sz25, szl25, sz26, szl26, sz27, szl27, sz28, szl28, sz29, szl29, sz30, szl30, sz31, szl31, sz32, szl32, sz33, szl33, sz34, szl34, sz35, szl35, sz36, szl36, sz37, szl37, sz38, szl38, sz39, szl39, sz40, szl40, a3]
  refine ⟨b, .v (.int (if nrB P w = true then 1 else 0)), S1, ?_, h2, by omega, gap_snoc hg fun y hy g1 g2 => hbn ?_⟩
  · have e1 : plc 0 (P ++ [(b, w)]) = plc 0 P ++ [.int (((lay P ++ List.replicate b 32).length : Nat) + 1)] := by
      rw [plc_app]
      show _ ++ [PV.int ((0 + (lay P).length + b + 1 : Nat) : Int)] = _
      rw [List.length_append, List.length_replicate, Nat.zero_add]
      push_cast
      rfl
    rw [e1, lay_snoc]
  · unfold nrB
    rw [hy]
    dsimp only
    rw [g1, g2]; rfl
end
end Dn
end
section
set_option Elab.async false
set_option linter.all false
set_option maxRecDepth 100000
set_option maxHeartbeats 1000000
namespace Dn
open PySem L2
section
variable {S : Stor}
theorem en_drop {xs : List PV} {k : Nat} (h : k < xs.length) : (enPV xs).drop k = .tup [.int (k : Nat), xs[k]] :: (enPV xs).drop (k + 1) := by
  unfold enPV
  rw [List.drop_eq_getElem_cons (by simpa using h)]
  simp
theorem wp_laid {R : Stor} {W : List (List Nat)} {Q : OutF → Prop} (h : SInv R S) (hw : ∀ w ∈ W, w ∈ wordsA) (hl : W.length ≤ 100)
    (hq : ∀ P k S', P.map Prod.snd = W → Gap P → (∀ x ∈ P, x.1 ≤ 3 ∧ x.2 ∈ wordsA) → k ≤ 2 → SInv R S' → Q (.ok (.tup [.str (tx (lay P ++ List.replicate k 32)), .lst (plc 0 P ++ [.int ((lay P ++ List.replicate k 32).length + 1)])]) S')) :
    wpF d__law_laid_v3 [.ref 0, .lst (W.map wV)] S Q := by
  rw [ld_eq]
  refine wpF_go rfl ?_
  rw [wpS_seq]
  simp only [List.map, List.replicate, List.cons_append, List.nil_append, List.length_cons, List.length_nil, Nat.reduceAdd, bq_ok, bq_ex, wp_pure, wp_fail, wp_getS, oQ_some, oQ_ite, bqS_ok, bqS_ex, sqS_nx, sqS_rt, sqS_bk, sqS_ct, sqS_ex, wpS_next, wpS_break, wpS_cont, wpS_retN, wpS_setT, stQ_some, wp_C, wp_call, wp_callv, bqF_ok, bqF_ex, wp_new, wp_newv, fqS_nx, fqS_rt, fqS_ex, wpS_for, wp_comp, wp_dVar, vQ_v, vQ_o, List.getElem?_cons_zero, List.getElem?_cons_succ, List.set_cons_zero, List.set_cons_succ, wp_d1, wp_k1, wp_d2, wp_k2, wp_k2b, wp_dT, wp_kT, wp_dTru, wp_kTru, wp_dNotT, wp_kNot, wp_dAndT, wp_kAnd, wp_dOrT, wp_kOr, wp_dAndV, wp_kAndV, wp_kAndVb, wp_dOrV, wp_kOrV, wp_kOrVb, wp_dNotV, wp_kNotV, wp_kNotVb, wp_dIf, wp_kIf, wp_dChain, wp_kCh, wp_kCh2, wp_kCh3, wp_aNil, wp_aCons, wp_kCons, wp_kCons2, wp_dTup, wp_kTup, wp_dLst, wp_kLst, wp_dN, wp_kN, wp_dLs, wp_kLs, wp_lDisp, wp_kDisp, wp_lRng, wp_kRng, wp_dItR, wp_kItR, wp_dItS, wp_kItS, wp_tTrue, wp_oNo, wp_oSome, wp_kSome, wp_dSl, wp_kSl, wp_kSl1, wp_kSl2, ws_ret, ws_kRet, ws_expr, ws_kExpr, ws_if, ws_kIfS, ws_set, ws_kSet, ws_setO, ws_kSetO, ws_kSetT, ws_setR, ws_kSetR0, ws_kSetR1, ws_kSetR2, items_t, items_ft, items_l, items_r, setAll, Bool.not_true, Bool.not_false, if_true, ite_true, ite_false, ↓reduceIte, Bool.false_eq_true, Int.reduceLT, Int.reduceLE, Nat.reduceLT, Nat.reduceLeDiff, Nat.reducePow, Int.reducePow, Int.reduceToNat, Int.reduceNeg, Int.reduceSub, Int.reduceAdd, and_self, and_true, true_and, decide_eq_true_eq, decide_true, decide_false, List.length_map, ixN_31, ixN_32, ixN_30, wipeE, restE, lcQ, Option.getD_some, add_i, add_t, add_l, sub_i, mul_i, mul_t, mul_l, fdiv_i, mod_i, pow_18, neg_i, lt_i, le_i, gt_i, ge_i, eq_i, ne_i, eq_b, len_t, len_ft, len_l, len_r, abs_i, int_i, list_t, list_ft, list_l, list_r, tuple_t, tuple_ft, tuple_l, isi_i, isi_b, isi_s, isi_t, isi_ft, isi_l, isi_r, isi_n, tru_b, tru_i, tru_t, tru_ft, tru_l, tru_n, isN_n, isN_b, isN_i, isN_s, isN_t, isN_l, ix_t, ix_ft, ix_l, ix_r, ix_ref, setS_ref, atI_0, atI_1, atI_2, Option.map_some, Option.map_none, kb0, kb1, kb2, kb3, kb4, kb5, kb6, kb7, kb8, kb9, kb10, kb11, kb12, kb13, kb14, kb15, kb16, kb17, kb18, kb19, kb20, kb21, kb22, kb23, kb24, kb25, kb26, kb27, kb28, kb29, sz0, szl0, sz1, szl1, sz2, szl2, sz3, szl3, sz4, szl4, sz5, szl5, sz6, szl6, sz7, szl7, sz8, szl8, sz9, szl9, sz10, szl10, sz11, szl11, sz12, szl12, sz13, szl13, sz14, szl14, sz15, szl15, sz16, szl16, sz17, szl17, sz18, szl18, sz19, szl19, sz20, szl20, sz21, szl21, sz22, szl22, sz23, szl23, sz24, szl24, sz25, szl25, sz26, szl26, sz27, szl27, sz28, szl28, sz29, szl29, sz30, szl30, sz31, szl31, sz32, szl32, sz33, szl33, sz34, szl34, sz35, szl35, sz36, szl36, sz37, szl37, sz38, szl38, sz39, szl39, sz40, szl40]
  rw [wpS_seq]
  simp only [List.map, List.replicate, List.cons_append, List.nil_append, List.length_cons, List.length_nil, Nat.reduceAdd, bq_ok, bq_ex, wp_pure, wp_fail, wp_getS, oQ_some, oQ_ite, bqS_ok, bqS_ex, sqS_nx, sqS_rt, sqS_bk, sqS_ct, sqS_ex, wpS_next, wpS_break, wpS_cont, wpS_retN, wpS_setT, stQ_some, wp_C, wp_call, wp_callv, bqF_ok, bqF_ex, wp_new, wp_newv, fqS_nx, fqS_rt, fqS_ex, wpS_for, wp_comp, wp_dVar, vQ_v, vQ_o, List.getElem?_cons_zero, List.getElem?_cons_succ, List.set_cons_zero, List.set_cons_succ, wp_d1, wp_k1, wp_d2, wp_k2, wp_k2b, wp_dT, wp_kT, wp_dTru, wp_kTru, wp_dNotT, wp_kNot, wp_dAndT, wp_kAnd, wp_dOrT, wp_kOr, wp_dAndV, wp_kAndV, wp_kAndVb, wp_dOrV, wp_kOrV, wp_kOrVb, wp_dNotV, wp_kNotV, wp_kNotVb, wp_dIf, wp_kIf, wp_dChain, wp_kCh, wp_kCh2, wp_kCh3, wp_aNil, wp_aCons, wp_kCons, wp_kCons2, wp_dTup, wp_kTup, wp_dLst, wp_kLst, wp_dN, wp_kN, wp_dLs, wp_kLs, wp_lDisp, wp_kDisp, wp_lRng, wp_kRng, wp_dItR, wp_kItR, wp_dItS, wp_kItS, wp_tTrue, wp_oNo, wp_oSome, wp_kSome, wp_dSl, wp_kSl, wp_kSl1, wp_kSl2, ws_ret, ws_kRet, ws_expr, ws_kExpr, ws_if, ws_kIfS, ws_set, ws_kSet, ws_setO, ws_kSetO, ws_kSetT, ws_setR, ws_kSetR0, ws_kSetR1, ws_kSetR2, items_t, items_ft, items_l, items_r, setAll, Bool.not_true, Bool.not_false, if_true, ite_true, ite_false, ↓reduceIte, Bool.false_eq_true, Int.reduceLT, Int.reduceLE, Nat.reduceLT, Nat.reduceLeDiff, Nat.reducePow, Int.reducePow, Int.reduceToNat, Int.reduceNeg, Int.reduceSub, Int.reduceAdd, and_self, and_true, true_and, decide_eq_true_eq, decide_true, decide_false, List.length_map, ixN_31, ixN_32, ixN_30, wipeE, restE, lcQ, Option.getD_some, add_i, add_t, add_l, sub_i, mul_i, mul_t, mul_l, fdiv_i, mod_i, pow_18, neg_i, lt_i, le_i, gt_i, ge_i, eq_i, ne_i, eq_b, len_t, len_ft, len_l, len_r, abs_i, int_i, list_t, list_ft, list_l, list_r, tuple_t, tuple_ft, tuple_l, isi_i, isi_b, isi_s, isi_t, isi_ft, isi_l, isi_r, isi_n, tru_b, tru_i, tru_t, tru_ft, tru_l, tru_n, isN_n, isN_b, isN_i, isN_s, isN_t, isN_l, ix_t, ix_ft, ix_l, ix_r, ix_ref, setS_ref, atI_0, atI_1, atI_2, Option.map_some, Option.map_none, kb0, kb1, kb2, kb3, kb4, kb5, kb6, kb7, kb8, kb9, kb10, kb11, kb12, kb13, kb14, kb15, kb16, kb17, kb18, kb19, kb20, kb21, kb22, kb23, kb24, kb25, kb26, kb27, kb28, kb29, sz0, szl0, sz1, szl1, sz2, szl2, sz3, szl3, sz4, szl4, sz5, szl5, sz6, szl6, sz7, szl7, sz8, szl8, sz9, szl9, sz10, szl10, sz11, szl11, sz12, szl12, sz13, szl13, sz14, szl14, sz15, szl15, sz16, szl16, sz17, szl17, sz18, szl18, sz19, szl19, sz20, szl20, sz21, szl21, sz22, szl22, sz23, szl23, sz24, szl24, sz25, szl25, sz26, szl26, sz27, szl27, sz28, szl28, sz29, szl29, sz30, szl30, sz31, szl31, sz32, szl32, sz33, szl33, sz34, szl34, sz35, szl35, sz36, szl36, sz37, szl37, sz38, szl38, sz39, szl39, sz40, szl40]
  rw [wpS_seq, wpS_for]
  simp only [List.map, List.replicate, List.cons_append, List.nil_append, List.length_cons, List.length_nil, Nat.reduceAdd, bq_ok, bq_ex, wp_pure, wp_fail, wp_getS, oQ_some, oQ_ite, bqS_ok, bqS_ex, sqS_nx, sqS_rt, sqS_bk, sqS_ct, sqS_ex, wpS_next, wpS_break, wpS_cont, wpS_retN, wpS_setT, stQ_some, wp_C, wp_call, wp_callv, bqF_ok, bqF_ex, wp_new, wp_newv, fqS_nx, fqS_rt, fqS_ex, wp_comp, wp_dVar, vQ_v, vQ_o, List.getElem?_cons_zero, List.getElem?_cons_succ, List.set_cons_zero, List.set_cons_succ, wp_d1, wp_k1, wp_d2, wp_k2, wp_k2b, wp_dT, wp_kT, wp_dTru, wp_kTru, wp_dNotT, wp_kNot, wp_dAndT, wp_kAnd, wp_dOrT, wp_kOr, wp_dAndV, wp_kAndV, wp_kAndVb, wp_dOrV, wp_kOrV, wp_kOrVb, wp_dNotV, wp_kNotV, wp_kNotVb, wp_dIf, wp_kIf, wp_dChain, wp_kCh, wp_kCh2, wp_kCh3, wp_aNil, wp_aCons, wp_kCons, wp_kCons2, wp_dTup, wp_kTup, wp_dLst, wp_kLst, wp_dN, wp_kN, wp_dLs, wp_kLs, wp_lDisp, wp_kDisp, wp_lRng, wp_kRng, wp_dItR, wp_kItR, wp_dItS, wp_kItS, wp_tTrue, wp_oNo, wp_oSome, wp_kSome, wp_dSl, wp_kSl, wp_kSl1, wp_kSl2, ws_ret, ws_kRet, ws_expr, ws_kExpr, ws_if, ws_kIfS, ws_set, ws_kSet, ws_setO, ws_kSetO, ws_kSetT, ws_setR, ws_kSetR0, ws_kSetR1, ws_kSetR2, items_t, items_ft, items_l, items_r, setAll, Bool.not_true, Bool.not_false, if_true, ite_true, ite_false, ↓reduceIte, Bool.false_eq_true, Int.reduceLT, Int.reduceLE, Nat.reduceLT, Nat.reduceLeDiff, Nat.reducePow, Int.reducePow, Int.reduceToNat, Int.reduceNeg, Int.reduceSub, Int.reduceAdd, and_self, and_true, true_and, decide_eq_true_eq, decide_true, decide_false, List.length_map, ixN_31, ixN_32, ixN_30, wipeE, restE, lcQ, Option.getD_some, add_i, add_t, add_l, sub_i, mul_i, mul_t, mul_l, fdiv_i, mod_i, pow_18, neg_i, lt_i, le_i, gt_i, ge_i, eq_i, ne_i, eq_b, len_t, len_ft, len_l, len_r, abs_i, int_i, list_t, list_ft, list_l, list_r, tuple_t, tuple_ft, tuple_l, isi_i, isi_b, isi_s, isi_t, isi_ft, isi_l, isi_r, isi_n, tru_b, tru_i, tru_t, tru_ft, tru_l, tru_n, isN_n, isN_b, isN_i, isN_s, isN_t, isN_l, ix_t, ix_ft, ix_l, ix_r, ix_ref, setS_ref, atI_0, atI_1, atI_2, Option.map_some, Option.map_none, kb0, kb1, kb2, kb3, kb4, kb5, kb6, kb7, kb8, kb9, kb10, kb11, kb12, kb13, kb14, kb15, kb16, kb17, kb18, kb19, kb20, kb21, kb22, kb23, kb24, kb25, kb26, kb27, kb28, kb29, sz0, szl0, sz1, szl1, sz2, szl2, sz3, szl3, sz4, szl4, sz5, szl5, sz6, szl6, sz7, szl7, sz8, szl8, sz9, szl9, sz10, szl10, sz11, szl11, sz12, szl12, sz13, szl13, sz14, szl14, sz15, szl15, sz16, szl16, sz17, szl17, sz18, szl18, sz19, szl19, sz20, szl20, sz21, szl21, sz22, szl22, sz23, szl23, sz24, szl24, sz25, szl25, sz26, szl26, sz27, szl27, sz28, szl28, sz29, szl29, sz30, szl30, sz31, szl31, sz32, szl32, sz33, szl33, sz34, szl34, sz35, szl35, sz36, szl36, sz37, szl37, sz38, szl38, sz39, szl39, sz40, szl40, wp_dItE2, wp_kItE2F]
  refine forL_inv (fun ps e S' => ∃ (P : List (Nat × List Nat)) (T : List (List Nat)) (x4 x5 x6 : Slot), e = ldE W P x4 x5 x6 ∧ W = P.map Prod.snd ++ T ∧ ps = (enPV (W.map wV)).drop P.length ∧ Gap P ∧ (∀ x ∈ P, x.1 ≤ 3 ∧ x.2 ∈ wordsA) ∧ SInv R S') ?_ ?_ _ _ _ ⟨[], W, .un, .un, .un, congrArg (fun z => [Slot.v (.ref 0), .v (.lst (W.map wV)), .v (.str z), .ol [], .un, .un, .un]) tx_nil, rfl, rfl, trivial, fun x hx => (nomatch hx), h⟩
  · rintro p ps e S1 ⟨P, T, x4, x5, x6, rfl, hW, hps, hg, hP, hs⟩
    cases T with
    | nil =>
      have : P.length = W.length := by rw [hW]; simp
      have e0 := congrArg List.length hps
      unfold enPV at e0
      simp [this] at e0
    | cons w T =>
      have hlW : W.length = P.length + (T.length + 1) := by rw [hW]; simp
      have hlt : P.length < (W.map wV).length := by rw [List.length_map]; omega
      have hwi : (W.map wV)[P.length] = wV w := by simp [hW]
      rw [en_drop hlt, hwi, List.cons.injEq] at hps
      obtain ⟨rfl, rfl⟩ := hps
      refine ⟨ldE W P (.v (.int P.length)) (.v (wV w)) x6, rfl, ?_⟩
      refine wpS_to _ (ld_turn hs hW hP (hw w (by rw [hW]; simp)) (by omega) hg) ?_
      rintro o ⟨b, x6', S', rfl, h2, hb, hg'⟩
      refine ⟨P ++ [(b, w)], T, _, _, _, rfl, by rw [hW]; simp, by rw [List.length_append]; rfl, hg', fun x hx => ?_, h2⟩
      rcases List.mem_append.mp hx with hx | hx
      · exact hP x hx
      · rw [List.mem_singleton.mp hx]; exact ⟨hb, hw w (by rw [hW]; simp)⟩
  · rintro e S1 ⟨P, T, x4, x5, x6, rfl, hW, hps, hg, hP, hs⟩
    have hT : T = [] := by
      have e0 := congrArg List.length hps
      unfold enPV at e0
      have hlW : W.length = P.length + T.length := by rw [hW]; simp
      simp [hlW] at e0
      exact List.eq_nil_of_length_eq_zero e0.symm
    subst hT
    rw [List.append_nil] at hW
    unfold ldE
    simp only [List.map, List.replicate, List.cons_append, List.nil_append, List.length_cons, List.length_nil, Nat.reduceAdd, bq_ok, bq_ex, wp_pure, wp_fail, wp_getS, oQ_some, oQ_ite, bqS_ok, bqS_ex, sqS_nx, sqS_rt, sqS_bk, sqS_ct, sqS_ex, wpS_next, wpS_break, wpS_cont, wpS_retN, wpS_setT, stQ_some, wp_C, wp_call, wp_callv, bqF_ok, bqF_ex, wp_new, wp_newv, fqS_nx, fqS_rt, fqS_ex, wpS_for, wp_comp, wp_dVar, vQ_v, vQ_o, List.getElem?_cons_zero, List.getElem?_cons_succ, List.set_cons_zero, List.set_cons_succ, wp_d1, wp_k1, wp_d2, wp_k2, wp_k2b, wp_dT, wp_kT, wp_dTru, wp_kTru, wp_dNotT, wp_kNot, wp_dAndT, wp_kAnd, wp_dOrT, wp_kOr, wp_dAndV, wp_kAndV, wp_kAndVb, wp_dOrV, wp_kOrV, wp_kOrVb, wp_dNotV, wp_kNotV, wp_kNotVb, wp_dIf, wp_kIf, wp_dChain, wp_kCh, wp_kCh2, wp_kCh3, wp_aNil, wp_aCons, wp_kCons, wp_kCons2, wp_dTup, wp_kTup, wp_dLst, wp_kLst, wp_dN, wp_kN, wp_dLs, wp_kLs, wp_lDisp, wp_kDisp, wp_lRng, wp_kRng, wp_dItR, wp_kItR, wp_dItS, wp_kItS, wp_tTrue, wp_oNo, wp_oSome, wp_kSome, wp_dSl, wp_kSl, wp_kSl1, wp_kSl2, ws_ret, ws_kRet, ws_expr, ws_kExpr, ws_if, ws_kIfS, ws_set, ws_kSet, ws_setO, ws_kSetO, ws_kSetT, ws_setR, ws_kSetR0, ws_kSetR1, ws_kSetR2, items_t, items_ft, items_l, items_r, setAll, Bool.not_true, Bool.not_false, if_true, ite_true, ite_false, ↓reduceIte, Bool.false_eq_true, Int.reduceLT, Int.reduceLE, Nat.reduceLT, Nat.reduceLeDiff, Nat.reducePow, Int.reducePow, Int.reduceToNat, Int.reduceNeg, Int.reduceSub, Int.reduceAdd, and_self, and_true, true_and, decide_eq_true_eq, decide_true, decide_false, List.length_map, ixN_31, ixN_32, ixN_30, wipeE, restE, lcQ, Option.getD_some, add_i, add_t, add_l, sub_i, mul_i, mul_t, mul_l, fdiv_i, mod_i, pow_18, neg_i, lt_i, le_i, gt_i, ge_i, eq_i, ne_i, eq_b, len_t, len_ft, len_l, len_r, abs_i, int_i, list_t, list_ft, list_l, list_r, tuple_t, tuple_ft, tuple_l, isi_i, isi_b, isi_s, isi_t, isi_ft, isi_l, isi_r, isi_n, tru_b, tru_i, tru_t, tru_ft, tru_l, tru_n, isN_n, isN_b, isN_i, isN_s, isN_t, isN_l, ix_t, ix_ft, ix_l, ix_r, ix_ref, setS_ref, atI_0, atI_1, atI_2, Option.map_some, Option.map_none, kb0, kb1, kb2, kb3, kb4, kb5, kb6, kb7, kb8, kb9, kb10, kb11, kb12, kb13, kb14, kb15, kb16, kb17, kb18, kb19, kb20, kb21, kb22, kb23, kb24, kb25, kb26, kb27, kb28, kb29, sz0, szl0, sz1, szl1, sz2, szl2, sz3, szl3, sz4, szl4, sz5, szl5, sz6, szl6, sz7, szl7, sz8, szl8, sz9, szl9, sz10, szl10, sz11, szl11, sz12, szl12, sz13, szl13, sz14, szl14, sz15, szl15, sz16, szl16, sz17, szl17, sz18, szl18, sz19, szl19, sz20, szl20, sz21, szl21, sz22, szl22, sz23, szl23, sz24, szl24, sz25, szl25, sz26, szl26, sz27, szl27, sz28, szl28, sz29, szl29, sz30, szl30, sz31, szl31, sz32, szl32, sz33, szl33, sz34, szl34, sz35, szl35, sz36, szl36, sz37, szl37, sz38, szl38, sz39, szl39, sz40, szl40]
    rw [wpS_seq]
    simp only [List.map, List.replicate, List.cons_append, List.nil_append, List.length_cons, List.length_nil, Nat.reduceAdd, bq_ok, bq_ex, wp_pure, wp_fail, wp_getS, oQ_some, oQ_ite, bqS_ok, bqS_ex, sqS_nx, sqS_rt, sqS_bk, sqS_ct, sqS_ex, wpS_next, wpS_break, wpS_cont, wpS_retN, wpS_setT, stQ_some, wp_C, wp_call, wp_callv, bqF_ok, bqF_ex, wp_new, wp_newv, fqS_nx, fqS_rt, fqS_ex, wpS_for, wp_comp, wp_dVar, vQ_v, vQ_o, List.getElem?_cons_zero, List.getElem?_cons_succ, List.set_cons_zero, List.set_cons_succ, wp_d1, wp_k1, wp_d2, wp_k2, wp_k2b, wp_dT, wp_kT, wp_dTru, wp_kTru, wp_dNotT, wp_kNot, wp_dAndT, wp_kAnd, wp_dOrT, wp_kOr, wp_dAndV, wp_kAndV, wp_kAndVb, wp_dOrV, wp_kOrV, wp_kOrVb, wp_dNotV, wp_kNotV, wp_kNotVb, wp_dIf, wp_kIf, wp_dChain, wp_kCh, wp_kCh2, wp_kCh3, wp_aNil, wp_aCons, wp_kCons, wp_kCons2, wp_dTup, wp_kTup, wp_dLst, wp_kLst, wp_dN, wp_kN, wp_dLs, wp_kLs, wp_lDisp, wp_kDisp, wp_lRng, wp_kRng, wp_dItR, wp_kItR, wp_dItS, wp_kItS, wp_tTrue, wp_oNo, wp_oSome, wp_kSome, wp_dSl, wp_kSl, wp_kSl1, wp_kSl2, ws_ret, ws_kRet, ws_expr, ws_kExpr, ws_if, ws_kIfS, ws_set, ws_kSet, ws_setO, ws_kSetO, ws_kSetT, ws_setR, ws_kSetR0, ws_kSetR1, ws_kSetR2, items_t, items_ft, items_l, items_r, setAll, Bool.not_true, Bool.not_false, if_true, ite_true, ite_false, ↓reduceIte, Bool.false_eq_true, Int.reduceLT, Int.reduceLE, Nat.reduceLT, Nat.reduceLeDiff, Nat.reducePow, Int.reducePow, Int.reduceToNat, Int.reduceNeg, Int.reduceSub, Int.reduceAdd, and_self, and_true, true_and, decide_eq_true_eq, decide_true, decide_false, List.length_map, ixN_31, ixN_32, ixN_30, wipeE, restE, lcQ, Option.getD_some, add_i, add_t, add_l, sub_i, mul_i, mul_t, mul_l, fdiv_i, mod_i, pow_18, neg_i, lt_i, le_i, gt_i, ge_i, eq_i, ne_i, eq_b, len_t, len_ft, len_l, len_r, abs_i, int_i, list_t, list_ft, list_l, list_r, tuple_t, tuple_ft, tuple_l, isi_i, isi_b, isi_s, isi_t, isi_ft, isi_l, isi_r, isi_n, tru_b, tru_i, tru_t, tru_ft, tru_l, tru_n, isN_n, isN_b, isN_i, isN_s, isN_t, isN_l, ix_t, ix_ft, ix_l, ix_r, ix_ref, setS_ref, atI_0, atI_1, atI_2, Option.map_some, Option.map_none, kb0, kb1, kb2, kb3, kb4, kb5, kb6, kb7, kb8, kb9, kb10, kb11, kb12, kb13, kb14, kb15, kb16, kb17, kb18, kb19, kb20, kb21, kb22, kb23, kb24, kb25, kb26, kb27, kb28, kb29, sz0, szl0, sz1, szl1, sz2, szl2, sz3, szl3, sz4, szl4, sz5, szl5, sz6, szl6, sz7, szl7, sz8, szl8, sz9, szl9, sz10, szl10, sz11, szl11, sz12, szl12, sz13, szl13, sz14, szl14, sz15, szl15, sz16, szl16, sz17, szl17, sz18, szl18, sz19, szl19, sz20, szl20, sz21, szl21, sz22, szl22, sz23, szl23, sz24, szl24, sz25, szl25, sz26, szl26, sz27, szl27, sz28, szl28, sz29, szl29, sz30, szl30, sz31, szl31, sz32, szl32, sz33, szl33, sz34, szl34, sz35, szl35, sz36, szl36, sz37, szl37, sz38, szl38, sz39, szl39, sz40, szl40]
    refine wp_next hs (by omega) (by omega) fun x S2 hx0 hx1 h2 => ?_
    obtain ⟨k, rfl⟩ : ∃ k : Nat, x = (k : Int) := ⟨x.toNat, by omega⟩
    have hk : k < 3 := by omega
    have hPl : P.length = W.length := by rw [hW]; simp
    have ll := lay_len hP
    have a1 : addP S2 (.str (tx (lay P))) (.str (tx (List.replicate k 32))) = some (.str (tx (lay P ++ List.replicate k 32))) := add_tx (by rw [List.length_replicate, sizeLine_eq]; omega)
    have a2 : lenP S2 [.str (tx (lay P ++ List.replicate k 32))] = some (.int ((lay P ++ List.replicate k 32).length : Nat)) := len_tx (by rw [List.length_append, List.length_replicate, sizeLine_eq]; omega)
    have a4 : (plc 0 P).length + 1 ≤ sizeLine := by rw [plc_len, sizeLine_eq]; omega
    simp only [bl3 hk, List.cons_append, List.nil_append, List.length_cons, List.length_nil, Nat.reduceAdd, bq_ok, bq_ex, wp_pure, wp_fail, wp_getS, oQ_some, oQ_ite, bqS_ok, bqS_ex, sqS_nx, sqS_rt, sqS_bk, sqS_ct, sqS_ex, wpS_next, wpS_break, wpS_cont, wpS_retN, wpS_setT, stQ_some, wp_C, wp_call, wp_callv, bqF_ok, bqF_ex, wp_new, wp_newv, fqS_nx, fqS_rt, fqS_ex, wpS_for, wp_comp, wp_dVar, vQ_v, vQ_o, List.getElem?_cons_zero, List.getElem?_cons_succ, List.set_cons_zero, List.set_cons_succ, wp_d1, wp_k1, wp_d2, wp_k2, wp_k2b, wp_dT, wp_kT, wp_dTru, wp_kTru, wp_dNotT, wp_kNot, wp_dAndT, wp_kAnd, wp_dOrT, wp_kOr, wp_dAndV, wp_kAndV, wp_kAndVb, wp_dOrV, wp_kOrV, wp_kOrVb, wp_dNotV, wp_kNotV, wp_kNotVb, wp_dIf, wp_kIf, wp_dChain, wp_kCh, wp_kCh2, wp_kCh3, wp_aNil, wp_aCons, wp_kCons, wp_kCons2, wp_dTup, wp_kTup, wp_dLst, wp_kLst, wp_dN, wp_kN, wp_dLs, wp_kLs, wp_lDisp, wp_kDisp, wp_lRng, wp_kRng, wp_dItR, wp_kItR, wp_dItS, wp_kItS, wp_tTrue, wp_oNo, wp_oSome, wp_kSome, wp_dSl, wp_kSl, wp_kSl1, wp_kSl2, ws_ret, ws_kRet, ws_expr, ws_kExpr, ws_if, ws_kIfS, ws_set, ws_kSet, ws_setO, ws_kSetO, ws_kSetT, ws_setR, ws_kSetR0, ws_kSetR1, ws_kSetR2, items_t, items_ft, items_l, items_r, setAll, Bool.not_true, Bool.not_false, if_true, ite_true, ite_false, ↓reduceIte, Bool.false_eq_true, Int.reduceLT, Int.reduceLE, Nat.reduceLT, Nat.reduceLeDiff, Nat.reducePow, Int.reducePow, Int.reduceToNat, Int.reduceNeg, Int.reduceSub, Int.reduceAdd, and_self, and_true, true_and, decide_eq_true_eq, decide_true, decide_false, List.length_map, ixN_31, ixN_32, ixN_30, wipeE, restE, lcQ, Option.getD_some, add_i, add_t, add_l, sub_i, mul_i, mul_t, mul_l, fdiv_i, mod_i, pow_18, neg_i, lt_i, le_i, gt_i, ge_i, eq_i, ne_i, eq_b, len_t, len_ft, len_l, len_r, abs_i, int_i, list_t, list_ft, list_l, list_r, tuple_t, tuple_ft, tuple_l, isi_i, isi_b, isi_s, isi_t, isi_ft, isi_l, isi_r, isi_n, tru_b, tru_i, tru_t, tru_ft, tru_l, tru_n, isN_n, isN_b, isN_i, isN_s, isN_t, isN_l, ix_t, ix_ft, ix_l, ix_r, ix_ref, setS_ref, atI_0, atI_1, atI_2, Option.map_some, Option.map_none, kb0, kb1, kb2, kb3, kb4, kb5, kb6, kb7, kb8, kb9, kb10, kb11, kb12, kb13, kb14, kb15, kb16, kb17, kb18, kb19, kb20, kb21, kb22, kb23, kb24, kb25, kb26, kb27, kb28, kb29, sz0, szl0, sz1, szl1, sz2, szl2, sz3, szl3, sz4, szl4, sz5, szl5, sz6, szl6, sz7, szl7, sz8, szl8, sz9, szl9, sz10, szl10, sz11, szl11, sz12, szl12, sz13, szl13, sz14, szl14, sz15, szl15, sz16, szl16, sz17, szl17, sz18, szl18, sz19, szl19, sz20, szl20, sz21, szl21, sz22, szl22, sz23, szl23, sz24, szl24, sz25, szl25, sz26, szl26, sz27, szl27, sz28, szl28, sz29, szl29, sz30, szl30, sz31, szl31, sz32, szl32, sz33, szl33, sz34, szl34, sz35, szl35, sz36, szl36, sz37, szl37, sz38, szl38, sz39, szl39, sz40, szl40, a1, a2, a4]
    exact hq P k S2 hW.symm hg hP (by omega) h2
/-! ### what the words laid out are to scan -/
theorem dig32 : digB 32 = false := by decide +kernel
theorem nd_rep {k : Nat} {r : List Nat} (h : k = 0 → NoDig r) : NoDig (List.replicate k 32 ++ r) := by
  cases k with
  | zero => exact h rfl
  | succ k =>
    intro c r' e
    rw [List.replicate_succ, List.cons_append] at e
    rw [← (List.cons.inj e).1]
    exact dig32
theorem nd_rep0 {k : Nat} : NoDig (List.replicate k 32) := by
  have := nd_rep (k := k) (r := []) fun _ c r' e => (nomatch e)
  rwa [List.append_nil] at this
theorem nd_word {w r : List Nat} (hw : w ∈ wordsA) (h : sD w = false) : NoDig (w ++ r) := by
  intro c r' e
  cases w with
  | nil => exact absurd rfl (A_ne _ hw)
  | cons d w =>
    rw [List.cons_append] at e
    rw [← (List.cons.inj e).1]
    exact h
theorem nd_lay {x : Nat × List Nat} {L : List (Nat × List Nat)} {tail : List Nat} (g : Gap (x :: L)) (hA : ∀ y ∈ L, y.2 ∈ wordsA) (ht : L = [] → NoDig tail) (he : eD x.2 = true) : NoDig (lay L ++ tail) := by
  cases L with
  | nil => exact ht rfl
  | cons y L =>
    obtain ⟨b, w⟩ := y
    rw [lay_cons, List.append_assoc]
    refine nd_rep fun hb => ?_
    rw [List.append_assoc]
    refine nd_word (hA _ (List.mem_cons_self ..)) ?_
    cases hs : sD w with
    | false => rfl
    | true =>
      have := g.1 he hs
      dsimp only at this
      omega
theorem gap_mid {z : Nat × List Nat} {L2 : List (Nat × List Nat)} : ∀ {L1 : List (Nat × List Nat)}, Gap (L1 ++ z :: L2) → Gap L1 ∧ (∀ x, L1.getLast? = some x → eD x.2 = true → sD z.2 = true → 1 ≤ z.1) ∧ Gap (z :: L2)
  | [], g => ⟨trivial, fun x hx => (nomatch hx), g⟩
  | [y], g => ⟨trivial, fun x hx => by cases hx; exact g.1, g.2⟩
  | x :: y :: L1, g => by
    obtain ⟨h1, h2, h3⟩ := gap_mid (L1 := y :: L1) g.2
    exact ⟨⟨g.1, h1⟩, fun u hu => h2 u (by rw [List.getLast?_cons_cons] at hu; exact hu), h3⟩
theorem tok_G {w rest : List Nat} (hw : w ∈ wordsG) (hr : eD w = true → NoDig rest) : TokOk kdW w rest := by
  unfold wordsG at hw
  simp only [List.mem_cons, List.not_mem_nil, or_false] at hw
  rcases hw with rfl | rfl | rfl | rfl | rfl | rfl | rfl | rfl | rfl | rfl | rfl
  · exact tok_num (by decide) (by decide +kernel) (by decide) (hr (by decide +kernel))
  · exact tok_num (by decide) (by decide +kernel) (by decide) (hr (by decide +kernel))
  · exact tok_num (by decide) (by decide +kernel) (by decide) (hr (by decide +kernel))
  · exact tok_num (by decide) (by decide +kernel) (by decide) (hr (by decide +kernel))
  · exact tok_sign
  · exact tok_letter (by decide +kernel)
  · exact tok_letter (by decide +kernel)
  · exact tok_letter (by decide +kernel)
  · exact tok_letter (by decide +kernel)
  · exact tok_word
  · exact tok_sign
theorem lay_ok {tail : List Nat} : ∀ {L : List (Nat × List Nat)}, Gap L → (∀ x ∈ L, x.2 ∈ wordsG) → (∀ x, L.getLast? = some x → eD x.2 = true → NoDig tail) → LayOk kdW tail L
  | [], _, _, _ => trivial
  | (b, w) :: L, g, hG, ht => by
    refine ⟨tok_G (hG _ (List.mem_cons_self ..)) fun he => nd_lay g (fun y hy => A_G (hG y (List.mem_cons_of_mem _ hy))) (fun e => ?_) he, lay_ok (gap_tail g) (fun x hx => hG x (List.mem_cons_of_mem _ hx)) fun x hx => ?_⟩
    · subst e; exact ht _ rfl he
    · cases L with
      | nil => exact fun _ => nomatch hx
      | cons y L => exact ht x (by rw [List.getLast?_cons_cons]; exact hx)
theorem fuel_le : ∀ {L : List (Nat × List Nat)}, (∀ x ∈ L, x.1 ≤ 300) → fuel L ≤ 301 * L.length
  | [], _ => Nat.le_refl _
  | (b, w) :: L, h => by
    have h1 := h (b, w) (List.mem_cons_self ..)
    have h2 := fuel_le (L := L) fun x hx => h x (List.mem_cons_of_mem _ hx)
    show fuel L + 1 + b ≤ _
    rw [List.length_cons]
    dsimp only at h1
    omega
theorem lay_low {L : List (Nat × List Nat)} (h : ∀ x ∈ L, x.2 ∈ wordsA) : ∀ c ∈ lay L, c < 128 ∧ c ≠ 10 := by
  intro c hc
  unfold lay at hc
  obtain ⟨x, hx, hc⟩ := List.mem_flatMap.mp hc
  rcases List.mem_append.mp hc with hc | hc
  · rw [(List.mem_replicate.mp hc).2]; decide
  · have := List.all_eq_true.mp (A_low _ (h x hx)) c hc
    exact of_decide_eq_true this
theorem str_W {w rest : List Nat} (hw : w ∈ strgW) (hr : ∀ c r', rest = c :: r' → c ≠ 114) : StrOk "no token begins here" w rest := by
  unfold strgW at hw
  simp only [List.mem_cons, List.not_mem_nil, or_false] at hw
  rcases hw with rfl | rfl | rfl | rfl | rfl | rfl | rfl | rfl | rfl | rfl | rfl | rfl | rfl | rfl | rfl
  iterate 14
    · exact str_none (by decide) (by decide) (by decide +kernel) (by decide +kernel) (by unfold stL; simp)
  · refine str_none (by decide) (by decide) (by decide +kernel) (by decide +kernel) ?_
    unfold stL
    cases rest with
    | nil => simp
    | cons c r => have := hr c r rfl; simp [this]
theorem str_D {w rest : List Nat} (hw : w ∈ strgD) (hr : NoDig rest) : StrOk "a number has at most 6 digits" w rest := by
  unfold strgD at hw
  simp only [List.mem_cons, List.not_mem_nil, or_false] at hw
  rcases hw with rfl | rfl
  · exact str_long (by decide) (by decide +kernel) (by decide) hr
  · exact str_long (by decide) (by decide +kernel) (by decide) hr
def StrM (w : List Nat) (m : Str) : Prop := (w ∈ strgW ∧ m = "no token begins here") ∨ (w ∈ strgD ∧ m = "a number has at most 6 digits")
theorem StrM.A {w : List Nat} {m : Str} (h : StrM w m) : w ∈ wordsA := by
  rcases h with ⟨h, _⟩ | ⟨h, _⟩
  · exact A_W h
  · exact A_D h
theorem StrM.ok {w rest : List Nat} {m : Str} (h : StrM w m) (h1 : ∀ c r', rest = c :: r' → c ≠ 114) (h2 : eD w = true → NoDig rest) : StrOk m w rest := by
  rcases h with ⟨h, rfl⟩ | ⟨h, rfl⟩
  · exact str_W h h1
  · refine str_D h (h2 ?_)
    have : ∀ w ∈ strgD, eD w = true := by decide +kernel
    exact this w h
theorem not_r {L : List (Nat × List Nat)} {k : Nat} (h : ∀ x ∈ L, x.2 ∈ wordsA) : ∀ c r', lay L ++ List.replicate k 32 = c :: r' → c ≠ 114 := by
  have rep : ∀ (k : Nat) (r : List Nat), (∀ c r', r = c :: r' → c ≠ 114) → ∀ c r', List.replicate k 32 ++ r = c :: r' → c ≠ 114 := by
    intro k r hr
    cases k with
    | zero => exact hr
    | succ k =>
      intro c r' e
      rw [List.replicate_succ, List.cons_append] at e
      rw [← (List.cons.inj e).1]
      decide
  cases L with
  | nil =>
    have := rep k [] fun c r' e => (nomatch e)
    rwa [List.append_nil] at this
  | cons x L =>
    obtain ⟨b, w⟩ := x
    rw [lay_cons, List.append_assoc]
    refine rep b _ fun c r' e => ?_
    have hw := h (b, w) (List.mem_cons_self ..)
    dsimp only at hw
    cases w with
    | nil => exact absurd rfl (A_ne _ hw)
    | cons d w =>
      rw [List.cons_append, List.cons_append] at e
      rw [← (List.cons.inj e).1]
      exact A_r _ hw
/-- scan at words all of which are right -/
theorem told_good {L : List (Nat × List Nat)} {k : Nat} {Q : OutF → Prop} (g : Gap L) (hG : ∀ x ∈ L, x.1 ≤ 300 ∧ x.2 ∈ wordsG) (hl : (lay L ++ List.replicate k 32).length ≤ 300) (hL : L.length ≤ 100)
    (h : Q (.ok (.ref S.length) (sT S (toks kdW 0 L ++ [.tup [.str "end", .str "", .int ((lay L ++ List.replicate k 32).length + 1)]])))) : wpF d__law_told_v23 [.str (tx (lay L ++ List.replicate k 32))] S Q := by
  have hA : ∀ x ∈ L, x.2 ∈ wordsA := fun x hx => A_G (hG x hx).2
  have hlow : ∀ c ∈ lay L ++ List.replicate k 32, c < 128 ∧ c ≠ 10 := fun c hc => by
    rcases List.mem_append.mp hc with hc | hc
    · exact lay_low hA c hc
    · rw [(List.mem_replicate.mp hc).2]; decide
  have hf := fuel_le (L := L) fun x hx => (hG x hx).1
  have hk : k ≤ 300 := by rw [List.length_append, List.length_replicate] at hl; omega
  refine wp_told_tx (S' := sT S (toks kdW 0 L ++ [.tup [.str "end", .str "", .int ((lay L ++ List.replicate k 32).length + 1)]])) (v := .ref S.length) ?_ h
  exact wp_scan_ok (lay_ok g (fun x hx => (hG x hx).2) fun _ _ _ => nd_rep0) hl (fun c hc => (hlow c hc).1) (fun hc => (hlow 10 hc).2 rfl) (by omega) (by omega) rfl
/-- scan where a strange word stands behind right ones -/
theorem told_bad {L1 L2 : List (Nat × List Nat)} {b k : Nat} {w : List Nat} {m : Str} {Q : OutF → Prop} (g : Gap (L1 ++ (b, w) :: L2)) (hA : ∀ x ∈ L1 ++ (b, w) :: L2, x.1 ≤ 3 ∧ x.2 ∈ wordsA) (hG : ∀ x ∈ L1, x.2 ∈ wordsG) (hs : StrM w m) (hL : (L1 ++ (b, w) :: L2).length ≤ 25) (hk : k ≤ 2)
    (h : ∀ S', Q (.ok (.tup [.int ((lay L1).length + b + 1 : Nat), .str m]) S')) : wpF d__law_told_v23 [.str (tx (lay (L1 ++ (b, w) :: L2) ++ List.replicate k 32))] S Q := by
  have hl := lay_len hA
  have hlow : ∀ c ∈ lay (L1 ++ (b, w) :: L2) ++ List.replicate k 32, c < 128 ∧ c ≠ 10 := fun c hc => by
    rcases List.mem_append.mp hc with hc | hc
    · exact lay_low (fun x hx => (hA x hx).2) c hc
    · rw [(List.mem_replicate.mp hc).2]; decide
  have hL1 : L1.length ≤ 25 := by rw [List.length_append] at hL; omega
  have hf := fuel_le (L := L1) fun x hx => by have := (hA x (List.mem_append_left _ hx)).1; omega
  have hb := (hA (b, w) (by simp)).1
  dsimp only at hb
  have hA2 : ∀ x ∈ L2, x.2 ∈ wordsA := fun x hx => (hA x (by simp [hx])).2
  obtain ⟨g1, g2, g3⟩ := gap_mid g
  have e : lay (L1 ++ (b, w) :: L2) ++ List.replicate k 32 = lay L1 ++ (List.replicate b 32 ++ (w ++ (lay L2 ++ List.replicate k 32))) := by simp [lay]
  have hlen : (lay (L1 ++ (b, w) :: L2) ++ List.replicate k 32).length ≤ 300 := by rw [List.length_append, List.length_replicate]; omega
  rw [e] at hlow hlen ⊢
  refine wp_told_te (S' := sT S (toks kdW 0 L1)) (i := ((lay L1).length + b + 1 : Nat)) (m := m) ?_ (h _)
  refine wp_scan_bad (kd := kdW) (lay_ok g1 hG fun x hx he => ?_) (hs.ok (not_r hA2) fun he => nd_lay g3 hA2 (fun _ => nd_rep0) he) hlen (fun c hc => (hlow c hc).1) (fun hc => (hlow 10 hc).2 rfl) (by omega) (by omega) rfl
  refine nd_rep fun hb0 => ?_
  refine nd_word hs.A ?_
  cases hd : sD w with
  | false => rfl
  | true =>
    have := g2 x hx he hd
    dsimp only at this
    omega
end
end Dn
end
section
set_option Elab.async false
set_option linter.all false
set_option maxRecDepth 100000
set_option maxHeartbeats 1000000
namespace Dn
open PySem L2 PyProof
def QT65 : OutF → Prop := fun o => ∃ S', o = .ok (.bl true) S'
def kLA65 (ps : List PV) : Den (List PV) := Den.opt (match ps with
  | [.lst xs, .lst ys] => if xs.length + ys.length ≤ sizeLine then some (xs ++ ys) else none
  | _ => none)
theorem wp_lA65 {da db : DE} {e : DEnv} {S : Stor} {Q : Out (List PV) → Prop} : wp (lAdd da db) e S Q = wp (aCons da (aCons db aNil)) e S (bq kLA65 Q) := wp_bind
theorem wp_kLA65 {xs ys : List PV} {e : DEnv} {S : Stor} {Q : Out (List PV) → Prop} (h : xs.length + ys.length ≤ sizeLine) : wp (kLA65 [.lst xs, .lst ys]) e S Q = Q (.ok (xs ++ ys) e S) := by
  unfold kLA65
  dsimp only
  rw [if_pos h]; rfl
theorem sinv_nw {R S : Stor} {x : SO} (h : SInv R S) : SInv (R ++ [x]) (S ++ [x]) := by
  obtain ⟨ns, d, i, rfl, h1, h2⟩ := h
  exact ⟨ns, d, i, rfl, h1, h2⟩
abbrev E65 (A : PV) (x2 x3 x4 x5 x6 x7 x8 x9 x10 x11 x12 : Slot) : DEnv := [.v A, .v (.ref 0), x2, x3, x4, x5, x6, x7, x8, x9, x10, x11, x12, .un, .un, .un]
section
variable {A : PV} {R S : Stor}
/-! ### the words drawn -/
theorem wordsG_V : ([.str "0", .str "31", .str "000345", .str "999999", .str ";", .str "a", .str "b", .str "d", .str "c", .str "start", .str ";"] : List PV) = wordsG.map wV := by kernel_rfl
theorem f2_words {ps vs : List PV} (h : F2 (fun _ v => ∃ w ∈ wordsG, v = wV w) ps vs) : ∃ W : List (List Nat), vs = W.map wV ∧ W.length = ps.length ∧ ∀ w ∈ W, w ∈ wordsG := by
  induction h with
  | nil => exact ⟨[], rfl, rfl, fun w hw => nomatch hw⟩
  | cons h _ ih =>
    obtain ⟨w, hw, rfl⟩ := h
    obtain ⟨W, rfl, hl, hW⟩ := ih
    refine ⟨w :: W, rfl, by rw [List.length_cons, List.length_cons, hl], fun x hx => ?_⟩
    rcases List.mem_cons.mp hx with rfl | hx
    · exact hw
    · exact hW x hx
theorem k65_s1 (h : SInv R S) : wpS d_law_k65_s1 (E65 A .un .un .un .un .un .un .un .un .un .un .un) S fun o => ∃ (W : List (List Nat)) (S' : Stor), o = .nx (E65 A (.ol (W.map wV)) .un .un .un .un .un .un .un .un .un .un) S' ∧ (∀ w ∈ W, w ∈ wordsG) ∧ W.length ≤ 20 ∧ SInv R S' := by
  unfold d_law_k65_s1
  simp only [List.map, List.replicate, List.cons_append, List.nil_append, List.length_cons, List.length_nil, Nat.reduceAdd, bq_ok, bq_ex, wp_pure, wp_fail, wp_getS, oQ_some, oQ_ite, bqS_ok, bqS_ex, wpS_seq, sqS_nx, sqS_rt, sqS_bk, sqS_ct, sqS_ex, wpS_next, wpS_break, wpS_cont, wpS_retN, wpS_setT, stQ_some, wp_C, wp_call, wp_callv, bqF_ok, bqF_ex, wp_new, wp_newv, fqS_nx, fqS_rt, fqS_ex, wpS_for, wp_comp, wp_dVar, vQ_v, vQ_o, List.getElem?_cons_zero, List.getElem?_cons_succ, List.set_cons_zero, List.set_cons_succ, wp_d1, wp_k1, wp_d2, wp_k2, wp_k2b, wp_dT, wp_kT, wp_dTru, wp_kTru, wp_dNotT, wp_kNot, wp_dAndT, wp_kAnd, wp_dOrT, wp_kOr, wp_dAndV, wp_kAndV, wp_kAndVb, wp_dOrV, wp_kOrV, wp_kOrVb, wp_dNotV, wp_kNotV, wp_kNotVb, wp_dIf, wp_kIf, wp_dChain, wp_kCh, wp_kCh2, wp_kCh3, wp_aNil, wp_aCons, wp_kCons, wp_kCons2, wp_dTup, wp_kTup, wp_dLst, wp_kLst, wp_dN, wp_kN, wp_dLs, wp_kLs, wp_lDisp, wp_kDisp, wp_lRng, wp_kRng, wp_dItR, wp_kItR, wp_dItS, wp_kItS, wp_tTrue, wp_oNo, wp_oSome, wp_kSome, wp_dSl, wp_kSl, wp_kSl1, wp_kSl2, ws_ret, ws_kRet, ws_expr, ws_kExpr, ws_if, ws_kIfS, ws_set, ws_kSet, ws_setO, ws_kSetO, ws_kSetT, ws_setR, ws_kSetR0, ws_kSetR1, ws_kSetR2, items_t, items_ft, items_l, items_r, setAll, Bool.not_true, Bool.not_false, if_true, ite_true, ite_false, ↓reduceIte, Bool.false_eq_true, Int.reduceLT, Int.reduceLE, Nat.reduceLT, Nat.reduceLeDiff, Nat.reducePow, Int.reducePow, Int.reduceToNat, Int.reduceNeg, Int.reduceSub, Int.reduceAdd, and_self, and_true, true_and, decide_eq_true_eq, decide_true, decide_false, List.length_map, ixN_31, ixN_32, ixN_30, wipeE, restE, lcQ, Option.getD_some, add_i, add_t, add_l, sub_i, mul_i, mul_t, mul_l, fdiv_i, mod_i, pow_18, neg_i, lt_i, le_i, gt_i, ge_i, eq_i, ne_i, eq_b, len_t, len_ft, len_l, len_r, abs_i, int_i, list_t, list_ft, list_l, list_r, tuple_t, tuple_ft, tuple_l, isi_i, isi_b, isi_s, isi_t, isi_ft, isi_l, isi_r, isi_n, tru_b, tru_i, tru_t, tru_ft, tru_l, tru_n, isN_n, isN_b, isN_i, isN_s, isN_t, isN_l, ix_t, ix_ft, ix_l, ix_r, ix_ref, setS_ref, atI_0, atI_1, atI_2, Option.map_some, Option.map_none, kb0, kb1, kb2, kb3, kb4, kb5, kb6, kb7, kb8, kb9, kb10, kb11, kb12, kb13, kb14, kb15, kb16, kb17, kb18, kb19, kb20, kb21, kb22, kb23, kb24, kb25, kb26, kb27, kb28, kb29, sz0, szl0, sz1, szl1, sz2, szl2, sz3, szl3, sz4, szl4, sz5, szl5, sz6, szl6, sz7, szl7, sz8, szl8, sz9, szl9, sz10, szl10, sz11, szl11, sz12, szl12, sz13, szl13, sz14, szl14, sz15, szl15, sz16, szl16, sz17, szl17, sz18, szl18, sz19, szl19, sz20, szl20, sz21, szl21, sz22, szl22, sz23, szl23, sz24, szl24, sz25, szl25, sz26, szl26, sz27, szl27, sz28, szl28, sz29, szl29, sz30, szl30, sz31, szl31, sz32, szl32, sz33, szl33, sz34, szl34, sz35, szl35, sz36, szl36, sz37, szl37, sz38, szl38, sz39, szl39, sz40, szl40]
  refine wp_next h (by omega) (by omega) fun x S1 hx0 hx1 h2 => ?_
  have e1 : -1000000 ≤ x ∧ x ≤ 1000000 := by omega
  simp only [List.map, List.replicate, List.cons_append, List.nil_append, List.length_cons, List.length_nil, Nat.reduceAdd, bq_ok, bq_ex, wp_pure, wp_fail, wp_getS, oQ_some, oQ_ite, bqS_ok, bqS_ex, wpS_seq, sqS_nx, sqS_rt, sqS_bk, sqS_ct, sqS_ex, wpS_next, wpS_break, wpS_cont, wpS_retN, wpS_setT, stQ_some, wp_C, wp_call, wp_callv, bqF_ok, bqF_ex, wp_new, wp_newv, fqS_nx, fqS_rt, fqS_ex, wpS_for, wp_comp, wp_dVar, vQ_v, vQ_o, List.getElem?_cons_zero, List.getElem?_cons_succ, List.set_cons_zero, List.set_cons_succ, wp_d1, wp_k1, wp_d2, wp_k2, wp_k2b, wp_dT, wp_kT, wp_dTru, wp_kTru, wp_dNotT, wp_kNot, wp_dAndT, wp_kAnd, wp_dOrT, wp_kOr, wp_dAndV, wp_kAndV, wp_kAndVb, wp_dOrV, wp_kOrV, wp_kOrVb, wp_dNotV, wp_kNotV, wp_kNotVb, wp_dIf, wp_kIf, wp_dChain, wp_kCh, wp_kCh2, wp_kCh3, wp_aNil, wp_aCons, wp_kCons, wp_kCons2, wp_dTup, wp_kTup, wp_dLst, wp_kLst, wp_dN, wp_kN, wp_dLs, wp_kLs, wp_lDisp, wp_kDisp, wp_lRng, wp_kRng, wp_dItR, wp_kItR, wp_dItS, wp_kItS, wp_tTrue, wp_oNo, wp_oSome, wp_kSome, wp_dSl, wp_kSl, wp_kSl1, wp_kSl2, ws_ret, ws_kRet, ws_expr, ws_kExpr, ws_if, ws_kIfS, ws_set, ws_kSet, ws_setO, ws_kSetO, ws_kSetT, ws_setR, ws_kSetR0, ws_kSetR1, ws_kSetR2, items_t, items_ft, items_l, items_r, setAll, Bool.not_true, Bool.not_false, if_true, ite_true, ite_false, ↓reduceIte, Bool.false_eq_true, Int.reduceLT, Int.reduceLE, Nat.reduceLT, Nat.reduceLeDiff, Nat.reducePow, Int.reducePow, Int.reduceToNat, Int.reduceNeg, Int.reduceSub, Int.reduceAdd, and_self, and_true, true_and, decide_eq_true_eq, decide_true, decide_false, List.length_map, ixN_31, ixN_32, ixN_30, wipeE, restE, lcQ, Option.getD_some, add_i, add_t, add_l, sub_i, mul_i, mul_t, mul_l, fdiv_i, mod_i, pow_18, neg_i, lt_i, le_i, gt_i, ge_i, eq_i, ne_i, eq_b, len_t, len_ft, len_l, len_r, abs_i, int_i, list_t, list_ft, list_l, list_r, tuple_t, tuple_ft, tuple_l, isi_i, isi_b, isi_s, isi_t, isi_ft, isi_l, isi_r, isi_n, tru_b, tru_i, tru_t, tru_ft, tru_l, tru_n, isN_n, isN_b, isN_i, isN_s, isN_t, isN_l, ix_t, ix_ft, ix_l, ix_r, ix_ref, setS_ref, atI_0, atI_1, atI_2, Option.map_some, Option.map_none, kb0, kb1, kb2, kb3, kb4, kb5, kb6, kb7, kb8, kb9, kb10, kb11, kb12, kb13, kb14, kb15, kb16, kb17, kb18, kb19, kb20, kb21, kb22, kb23, kb24, kb25, kb26, kb27, kb28, kb29, sz0, szl0, sz1, szl1, sz2, szl2, sz3, szl3, sz4, szl4, sz5, szl5, sz6, szl6, sz7, szl7, sz8, szl8, sz9, szl9, sz10, szl10, sz11, szl11, sz12, szl12, sz13, szl13, sz14, szl14, sz15, szl15, sz16, szl16, sz17, szl17, sz18, szl18, sz19, szl19, sz20, szl20, sz21, szl21, sz22, szl22, sz23, szl23, sz24, szl24, sz25, szl25, sz26, szl26, sz27, szl27, sz28, szl28, sz29, szl29, sz30, szl30, sz31, szl31, sz32, szl32, sz33, szl33, sz34, szl34, sz35, szl35, sz36, szl36, sz37, szl37, sz38, szl38, sz39, szl39, sz40, szl40, e1]
  refine wp_compD (SInv R) (fun _ v => ∃ w ∈ wordsG, v = wV w) rfl rfl (fun _ => rfl) h2 (by rw [rng_len]; unfold sizeLine; omega) ?_ ?_
  · intro p hp S3 hs
    simp only [List.map, List.replicate, List.cons_append, List.nil_append, List.length_cons, List.length_nil, Nat.reduceAdd, bq_ok, bq_ex, wp_pure, wp_fail, wp_getS, oQ_some, oQ_ite, bqS_ok, bqS_ex, wpS_seq, sqS_nx, sqS_rt, sqS_bk, sqS_ct, sqS_ex, wpS_next, wpS_break, wpS_cont, wpS_retN, wpS_setT, stQ_some, wp_C, wp_call, wp_callv, bqF_ok, bqF_ex, wp_new, wp_newv, fqS_nx, fqS_rt, fqS_ex, wpS_for, wp_comp, wp_dVar, vQ_v, vQ_o, List.getElem?_cons_zero, List.getElem?_cons_succ, List.set_cons_zero, List.set_cons_succ, wp_d1, wp_k1, wp_d2, wp_k2, wp_k2b, wp_dT, wp_kT, wp_dTru, wp_kTru, wp_dNotT, wp_kNot, wp_dAndT, wp_kAnd, wp_dOrT, wp_kOr, wp_dAndV, wp_kAndV, wp_kAndVb, wp_dOrV, wp_kOrV, wp_kOrVb, wp_dNotV, wp_kNotV, wp_kNotVb, wp_dIf, wp_kIf, wp_dChain, wp_kCh, wp_kCh2, wp_kCh3, wp_aNil, wp_aCons, wp_kCons, wp_kCons2, wp_dTup, wp_kTup, wp_dLst, wp_kLst, wp_dN, wp_kN, wp_dLs, wp_kLs, wp_lDisp, wp_kDisp, wp_lRng, wp_kRng, wp_dItR, wp_kItR, wp_dItS, wp_kItS, wp_tTrue, wp_oNo, wp_oSome, wp_kSome, wp_dSl, wp_kSl, wp_kSl1, wp_kSl2, ws_ret, ws_kRet, ws_expr, ws_kExpr, ws_if, ws_kIfS, ws_set, ws_kSet, ws_setO, ws_kSetO, ws_kSetT, ws_setR, ws_kSetR0, ws_kSetR1, ws_kSetR2, items_t, items_ft, items_l, items_r, setAll, Bool.not_true, Bool.not_false, if_true, ite_true, ite_false, ↓reduceIte, Bool.false_eq_true, Int.reduceLT, Int.reduceLE, Nat.reduceLT, Nat.reduceLeDiff, Nat.reducePow, Int.reducePow, Int.reduceToNat, Int.reduceNeg, Int.reduceSub, Int.reduceAdd, and_self, and_true, true_and, decide_eq_true_eq, decide_true, decide_false, List.length_map, ixN_31, ixN_32, ixN_30, wipeE, restE, lcQ, Option.getD_some, add_i, add_t, add_l, sub_i, mul_i, mul_t, mul_l, fdiv_i, mod_i, pow_18, neg_i, lt_i, le_i, gt_i, ge_i, eq_i, ne_i, eq_b, len_t, len_ft, len_l, len_r, abs_i, int_i, list_t, list_ft, list_l, list_r, tuple_t, tuple_ft, tuple_l, isi_i, isi_b, isi_s, isi_t, isi_ft, isi_l, isi_r, isi_n, tru_b, tru_i, tru_t, tru_ft, tru_l, tru_n, isN_n, isN_b, isN_i, isN_s, isN_t, isN_l, ix_t, ix_ft, ix_l, ix_r, ix_ref, setS_ref, atI_0, atI_1, atI_2, Option.map_some, Option.map_none, kb0, kb1, kb2, kb3, kb4, kb5, kb6, kb7, kb8, kb9, kb10, kb11, kb12, kb13, kb14, kb15, kb16, kb17, kb18, kb19, kb20, kb21, kb22, kb23, kb24, kb25, kb26, kb27, kb28, kb29, sz0, szl0, sz1, szl1, sz2, szl2, sz3, szl3, sz4, szl4, sz5, szl5, sz6, szl6, sz7, szl7, sz8, szl8, sz9, szl9, sz10, szl10, sz11, szl11, sz12, szl12, sz13, szl13, sz14, szl14, sz15, szl15, sz16, szl16, sz17, szl17, sz18, szl18, sz19, szl19, sz20, szl20, sz21, szl21, sz22, szl22, sz23, szl23, sz24, szl24, sz25, szl25, sz26, szl26, sz27, szl27, sz28, szl28, sz29, szl29, sz30, szl30, sz31, szl31, sz32, szl32, sz33, szl33, sz34, szl34, sz35, szl35, sz36, szl36, sz37, szl37, sz38, szl38, sz39, szl39, sz40, szl40]
    rw [wordsG_V]
    refine wp_pick hs (by decide) (by decide) fun v S4 hv hs2 => ?_
    obtain ⟨w, hw, rfl⟩ := List.mem_map.mp hv
    exact ⟨_, _, rfl, ⟨w, hw, rfl⟩, hs2⟩
  · intro vs S3 hf hs
    obtain ⟨W, rfl, hl, hW⟩ := f2_words hf
    rw [rng_len] at hl
    simp only [List.map, List.replicate, List.cons_append, List.nil_append, List.length_cons, List.length_nil, Nat.reduceAdd, bq_ok, bq_ex, wp_pure, wp_fail, wp_getS, oQ_some, oQ_ite, bqS_ok, bqS_ex, wpS_seq, sqS_nx, sqS_rt, sqS_bk, sqS_ct, sqS_ex, wpS_next, wpS_break, wpS_cont, wpS_retN, wpS_setT, stQ_some, wp_C, wp_call, wp_callv, bqF_ok, bqF_ex, wp_new, wp_newv, fqS_nx, fqS_rt, fqS_ex, wpS_for, wp_comp, wp_dVar, vQ_v, vQ_o, List.getElem?_cons_zero, List.getElem?_cons_succ, List.set_cons_zero, List.set_cons_succ, wp_d1, wp_k1, wp_d2, wp_k2, wp_k2b, wp_dT, wp_kT, wp_dTru, wp_kTru, wp_dNotT, wp_kNot, wp_dAndT, wp_kAnd, wp_dOrT, wp_kOr, wp_dAndV, wp_kAndV, wp_kAndVb, wp_dOrV, wp_kOrV, wp_kOrVb, wp_dNotV, wp_kNotV, wp_kNotVb, wp_dIf, wp_kIf, wp_dChain, wp_kCh, wp_kCh2, wp_kCh3, wp_aNil, wp_aCons, wp_kCons, wp_kCons2, wp_dTup, wp_kTup, wp_dLst, wp_kLst, wp_dN, wp_kN, wp_dLs, wp_kLs, wp_lDisp, wp_kDisp, wp_lRng, wp_kRng, wp_dItR, wp_kItR, wp_dItS, wp_kItS, wp_tTrue, wp_oNo, wp_oSome, wp_kSome, wp_dSl, wp_kSl, wp_kSl1, wp_kSl2, ws_ret, ws_kRet, ws_expr, ws_kExpr, ws_if, ws_kIfS, ws_set, ws_kSet, ws_setO, ws_kSetO, ws_kSetT, ws_setR, ws_kSetR0, ws_kSetR1, ws_kSetR2, items_t, items_ft, items_l, items_r, setAll, Bool.not_true, Bool.not_false, if_true, ite_true, ite_false, ↓reduceIte, Bool.false_eq_true, Int.reduceLT, Int.reduceLE, Nat.reduceLT, Nat.reduceLeDiff, Nat.reducePow, Int.reducePow, Int.reduceToNat, Int.reduceNeg, Int.reduceSub, Int.reduceAdd, and_self, and_true, true_and, decide_eq_true_eq, decide_true, decide_false, List.length_map, ixN_31, ixN_32, ixN_30, wipeE, restE, lcQ, Option.getD_some, add_i, add_t, add_l, sub_i, mul_i, mul_t, mul_l, fdiv_i, mod_i, pow_18, neg_i, lt_i, le_i, gt_i, ge_i, eq_i, ne_i, eq_b, len_t, len_ft, len_l, len_r, abs_i, int_i, list_t, list_ft, list_l, list_r, tuple_t, tuple_ft, tuple_l, isi_i, isi_b, isi_s, isi_t, isi_ft, isi_l, isi_r, isi_n, tru_b, tru_i, tru_t, tru_ft, tru_l, tru_n, isN_n, isN_b, isN_i, isN_s, isN_t, isN_l, ix_t, ix_ft, ix_l, ix_r, ix_ref, setS_ref, atI_0, atI_1, atI_2, Option.map_some, Option.map_none, kb0, kb1, kb2, kb3, kb4, kb5, kb6, kb7, kb8, kb9, kb10, kb11, kb12, kb13, kb14, kb15, kb16, kb17, kb18, kb19, kb20, kb21, kb22, kb23, kb24, kb25, kb26, kb27, kb28, kb29, sz0, szl0, sz1, szl1, sz2, szl2, sz3, szl3, sz4, szl4, sz5, szl5, sz6, szl6, sz7, szl7, sz8, szl8, sz9, szl9, sz10, szl10, sz11, szl11, sz12, szl12, sz13, szl13, sz14, szl14, sz15, szl15, sz16, szl16, sz17, szl17, sz18, szl18, sz19, szl19, sz20, szl20, sz21, szl21, sz22, szl22, sz23, szl23, sz24, szl24, sz25, szl25, sz26, szl26, sz27, szl27, sz28, szl28, sz29, szl29, sz30, szl30, sz31, szl31, sz32, szl32, sz33, szl33, sz34, szl34, sz35, szl35, sz36, szl36, sz37, szl37, sz38, szl38, sz39, szl39, sz40, szl40]
    exact ⟨W, S3, rfl, hW, by omega, hs⟩
def strV : List PV := (strgW.map fun w => .tup [wV w, .str "no token begins here"]) ++ strgD.map fun w => .tup [wV w, .str "a number has at most 6 digits"]
theorem strV_mem {p : PV} (h : p ∈ strV) : ∃ w m, p = .tup [wV w, .str m] ∧ StrM w m := by
  rcases List.mem_append.mp h with h | h
  · obtain ⟨w, hw, rfl⟩ := List.mem_map.mp h
    exact ⟨w, _, rfl, .inl ⟨hw, rfl⟩⟩
  · obtain ⟨w, hw, rfl⟩ := List.mem_map.mp h
    exact ⟨w, _, rfl, .inr ⟨hw, rfl⟩⟩
theorem strV_len : strV.length = 17 := by kernel_rfl
/-- what the law holds behind the strange ones -/
def After (A : PV) (R : Stor) (W0 : List (List Nat)) (o : OutS) : Prop :=
  (∃ S', o = .nx (E65 A (.ol (W0.map wV)) (.v .non) .un .un .un .un .un .un .un .un .un) S' ∧ SInv R S') ∨
  ∃ (G1 T : List (List Nat)) (w : List Nat) (m : Str) (S' : Stor), o = .nx (E65 A (.ol ((G1 ++ w :: T).map wV)) (.v (.str m)) (.v (.lst strV)) (.v (.int G1.length)) (.v (wV w)) .un .un .un .un .un .un) S' ∧ (∀ g ∈ G1, g ∈ wordsG) ∧ StrM w m ∧ (∀ t ∈ T, t ∈ wordsA) ∧ (G1 ++ w :: T).length ≤ 22 ∧ SInv R S'
def t3a : DS := (sSet 4 (dLs (lComp [14] (dItS (dLst (aCons (dC (.str "A")) (aCons (dC (.str "e")) (aCons (dC (.str "_")) (aCons (dC (.str ",")) (aCons (dC (.str "	")) (aCons (dC (.str "|")) (aCons (dC (.str ":")) (aCons (dC (.str "(")) (aCons (dC (.str "#")) (aCons (dC (.str "=")) (aCons (dC (.str "/")) (aCons (dC (.str "s ")) (aCons (dC (.str "t")) (aCons (dC (.str "Start")) (aCons (dC (.str "sta")) aNil))))))))))))))))) (tgN 14) tTrue (dTup (aCons (dVar 14) (aCons (dC (.str "no token begins here")) aNil))))))
def t3b : DS := (sSet 4 (d2 addP (dVar 4) (dLst (aCons (dTup (aCons (dC (.str "1000000")) (aCons (dC (.str "a number has at most 6 digits")) aNil))) (aCons (dTup (aCons (dC (.str "0000001")) (aCons (dC (.str "a number has at most 6 digits")) aNil))) aNil)))))
def t3c : DS := (sSet 5 (dCall d__law_next (aCons (dVar 1) (aCons (d2 addP (dLenO 2) (dC (.int 1))) aNil))))
def t3d : DS := (sSetT [6, 3] (dCall d__law_pick (aCons (dVar 1) (aCons (dVar 4) aNil))))
def t3e : DS := (sSetO 2 (lAdd (d2 addP (dSl (dVar 2) oNo (oSome (dVar 5))) (dLst (aCons (dVar 6) aNil))) (dSl (dVar 2) (oSome (dVar 5)) oNo)))
def t3f : DS := (sIf (dT (d2 eqP (dCall d__law_next (aCons (dVar 1) (aCons (dC (.int 2)) aNil))) (dC (.int 1)))) (sApp 2 (d2 ixP (dCall d__law_pick (aCons (dVar 1) (aCons (dVar 4) aNil))) (dC (.int 0)))) sNext)
theorem s3_eq : d_law_k65_s3 = (sIf (dT (d2 eqP (dCall d__law_next (aCons (dVar 1) (aCons (dC (.int 2)) aNil))) (dC (.int 1)))) (sSeq t3a (sSeq t3b (sSeq t3c (sSeq t3d (sSeq t3e t3f))))) sNext) := id rfl
def strV1 : List PV := strgW.map fun w => .tup [wV w, .str "no token begins here"]
theorem t3a_run {l : List PV} : t3a (E65 A (.ol l) (.v .non) .un .un .un .un .un .un .un .un .un) S = .nx (E65 A (.ol l) (.v .non) (.v (.lst strV1)) .un .un .un .un .un .un .un .un) S := by kernel_rfl
theorem t3b_run {l : List PV} : t3b (E65 A (.ol l) (.v .non) (.v (.lst strV1)) .un .un .un .un .un .un .un .un) S = .nx (E65 A (.ol l) (.v .non) (.v (.lst strV)) .un .un .un .un .un .un .un .un) S := by kernel_rfl
theorem ws_at {d : DS} {e : DEnv} {o : OutS} {Q : OutS → Prop} (h : d e S = o) : wpS d e S Q = Q o := by
  show Q _ = _
  rw [h]
theorem sl_fromL65 {xs : List PV} {i : Int} (h0 : 0 ≤ i) : slP (.lst xs) (some i) none = some (.lst (xs.drop i.toNat)) := by
  obtain ⟨n, rfl⟩ : ∃ n : Nat, i = (n : Int) := ⟨i.toNat, by omega⟩
  unfold slP; dsimp only
  have e0 : HT.sIx xs.length xs.length none = xs.length := rfl
  rw [e0, HT.sIx_nat, Int.toNat_natCast]
  by_cases h : n ≤ xs.length
  · rw [Nat.min_eq_left h, List.take_of_length_le (by rw [List.length_drop]; exact Nat.le_refl _)]
  · rw [Nat.min_eq_right (by omega), List.drop_of_length_le (Nat.le_refl _), List.drop_of_length_le (by omega), List.take_nil]
theorem k65_s3 {W : List (List Nat)} (h : SInv R S) (hW : ∀ w ∈ W, w ∈ wordsG) (hl : W.length ≤ 20) : wpS d_law_k65_s3 (E65 A (.ol (W.map wV)) (.v .non) .un .un .un .un .un .un .un .un .un) S (After A R W) := by
  rw [s3_eq]
  simp only [List.map, List.replicate, List.cons_append, List.nil_append, List.length_cons, List.length_nil, Nat.reduceAdd, bq_ok, bq_ex, wp_pure, wp_fail, wp_getS, oQ_some, oQ_ite, bqS_ok, bqS_ex, sqS_nx, sqS_rt, sqS_bk, sqS_ct, sqS_ex, wpS_next, wpS_break, wpS_cont, wpS_retN, wpS_setT, stQ_some, wp_C, wp_call, wp_callv, bqF_ok, bqF_ex, wp_new, wp_newv, fqS_nx, fqS_rt, fqS_ex, wpS_for, wp_comp, wp_dVar, vQ_v, vQ_o, List.getElem?_cons_zero, List.getElem?_cons_succ, List.set_cons_zero, List.set_cons_succ, wp_d1, wp_k1, wp_d2, wp_k2, wp_k2b, wp_dT, wp_kT, wp_dTru, wp_kTru, wp_dNotT, wp_kNot, wp_dAndT, wp_kAnd, wp_dOrT, wp_kOr, wp_dAndV, wp_kAndV, wp_kAndVb, wp_dOrV, wp_kOrV, wp_kOrVb, wp_dNotV, wp_kNotV, wp_kNotVb, wp_dIf, wp_kIf, wp_dChain, wp_kCh, wp_kCh2, wp_kCh3, wp_aNil, wp_aCons, wp_kCons, wp_kCons2, wp_dTup, wp_kTup, wp_dLst, wp_kLst, wp_dN, wp_kN, wp_dLs, wp_kLs, wp_lDisp, wp_kDisp, wp_lRng, wp_kRng, wp_dItR, wp_kItR, wp_dItS, wp_kItS, wp_tTrue, wp_oNo, wp_oSome, wp_kSome, wp_dSl, wp_kSl, wp_kSl1, wp_kSl2, ws_ret, ws_kRet, ws_expr, ws_kExpr, ws_if, ws_kIfS, ws_set, ws_kSet, ws_setO, ws_kSetO, ws_kSetT, ws_setR, ws_kSetR0, ws_kSetR1, ws_kSetR2, items_t, items_ft, items_l, items_r, setAll, Bool.not_true, Bool.not_false, if_true, ite_true, ite_false, ↓reduceIte, Bool.false_eq_true, Int.reduceLT, Int.reduceLE, Nat.reduceLT, Nat.reduceLeDiff, Nat.reducePow, Int.reducePow, Int.reduceToNat, Int.reduceNeg, Int.reduceSub, Int.reduceAdd, and_self, and_true, true_and, decide_eq_true_eq, decide_true, decide_false, List.length_map, ixN_31, ixN_32, ixN_30, wipeE, restE, lcQ, Option.getD_some, add_i, add_t, add_l, sub_i, mul_i, mul_t, mul_l, fdiv_i, mod_i, pow_18, neg_i, lt_i, le_i, gt_i, ge_i, eq_i, ne_i, eq_b, len_t, len_ft, len_l, len_r, abs_i, int_i, list_t, list_ft, list_l, list_r, tuple_t, tuple_ft, tuple_l, isi_i, isi_b, isi_s, isi_t, isi_ft, isi_l, isi_r, isi_n, tru_b, tru_i, tru_t, tru_ft, tru_l, tru_n, isN_n, isN_b, isN_i, isN_s, isN_t, isN_l, ix_t, ix_ft, ix_l, ix_r, ix_ref, setS_ref, atI_0, atI_1, atI_2, Option.map_some, Option.map_none, kb0, kb1, kb2, kb3, kb4, kb5, kb6, kb7, kb8, kb9, kb10, kb11, kb12, kb13, kb14, kb15, kb16, kb17, kb18, kb19, kb20, kb21, kb22, kb23, kb24, kb25, kb26, kb27, kb28, kb29, sz0, szl0, sz1, szl1, sz2, szl2, sz3, szl3, sz4, szl4, sz5, szl5, sz6, szl6, sz7, szl7, sz8, szl8, sz9, szl9, sz10, szl10, sz11, szl11, sz12, szl12, sz13, szl13, sz14, szl14, sz15, szl15, sz16, szl16, sz17, szl17, sz18, szl18, sz19, szl19, sz20, szl20, sz21, szl21, sz22, szl22, sz23, szl23, sz24, szl24, sz25, szl25, sz26, szl26, sz27, szl27, sz28, szl28, sz29, szl29, sz30, szl30, sz31, szl31, sz32, szl32, sz33, szl33, sz34, szl34, sz35, szl35, sz36, szl36, sz37, szl37, sz38, szl38, sz39, szl39, sz40, szl40]
  refine wp_next h (by omega) (by omega) fun x S1 hx0 hx1 h2 => ?_
  by_cases hx : x = 1
  · simp only [List.map, List.replicate, List.cons_append, List.nil_append, List.length_cons, List.length_nil, Nat.reduceAdd, bq_ok, bq_ex, wp_pure, wp_fail, wp_getS, oQ_some, oQ_ite, bqS_ok, bqS_ex, sqS_nx, sqS_rt, sqS_bk, sqS_ct, sqS_ex, wpS_next, wpS_break, wpS_cont, wpS_retN, wpS_setT, stQ_some, wp_C, wp_call, wp_callv, bqF_ok, bqF_ex, wp_new, wp_newv, fqS_nx, fqS_rt, fqS_ex, wpS_for, wp_comp, wp_dVar, vQ_v, vQ_o, List.getElem?_cons_zero, List.getElem?_cons_succ, List.set_cons_zero, List.set_cons_succ, wp_d1, wp_k1, wp_d2, wp_k2, wp_k2b, wp_dT, wp_kT, wp_dTru, wp_kTru, wp_dNotT, wp_kNot, wp_dAndT, wp_kAnd, wp_dOrT, wp_kOr, wp_dAndV, wp_kAndV, wp_kAndVb, wp_dOrV, wp_kOrV, wp_kOrVb, wp_dNotV, wp_kNotV, wp_kNotVb, wp_dIf, wp_kIf, wp_dChain, wp_kCh, wp_kCh2, wp_kCh3, wp_aNil, wp_aCons, wp_kCons, wp_kCons2, wp_dTup, wp_kTup, wp_dLst, wp_kLst, wp_dN, wp_kN, wp_dLs, wp_kLs, wp_lDisp, wp_kDisp, wp_lRng, wp_kRng, wp_dItR, wp_kItR, wp_dItS, wp_kItS, wp_tTrue, wp_oNo, wp_oSome, wp_kSome, wp_dSl, wp_kSl, wp_kSl1, wp_kSl2, ws_ret, ws_kRet, ws_expr, ws_kExpr, ws_if, ws_kIfS, ws_set, ws_kSet, ws_setO, ws_kSetO, ws_kSetT, ws_setR, ws_kSetR0, ws_kSetR1, ws_kSetR2, items_t, items_ft, items_l, items_r, setAll, Bool.not_true, Bool.not_false, if_true, ite_true, ite_false, ↓reduceIte, Bool.false_eq_true, Int.reduceLT, Int.reduceLE, Nat.reduceLT, Nat.reduceLeDiff, Nat.reducePow, Int.reducePow, Int.reduceToNat, Int.reduceNeg, Int.reduceSub, Int.reduceAdd, and_self, and_true, true_and, decide_eq_true_eq, decide_true, decide_false, List.length_map, ixN_31, ixN_32, ixN_30, wipeE, restE, lcQ, Option.getD_some, add_i, add_t, add_l, sub_i, mul_i, mul_t, mul_l, fdiv_i, mod_i, pow_18, neg_i, lt_i, le_i, gt_i, ge_i, eq_i, ne_i, eq_b, len_t, len_ft, len_l, len_r, abs_i, int_i, list_t, list_ft, list_l, list_r, tuple_t, tuple_ft, tuple_l, isi_i, isi_b, isi_s, isi_t, isi_ft, isi_l, isi_r, isi_n, tru_b, tru_i, tru_t, tru_ft, tru_l, tru_n, isN_n, isN_b, isN_i, isN_s, isN_t, isN_l, ix_t, ix_ft, ix_l, ix_r, ix_ref, setS_ref, atI_0, atI_1, atI_2, Option.map_some, Option.map_none, kb0, kb1, kb2, kb3, kb4, kb5, kb6, kb7, kb8, kb9, kb10, kb11, kb12, kb13, kb14, kb15, kb16, kb17, kb18, kb19, kb20, kb21, kb22, kb23, kb24, kb25, kb26, kb27, kb28, kb29, sz0, szl0, sz1, szl1, sz2, szl2, sz3, szl3, sz4, szl4, sz5, szl5, sz6, szl6, sz7, szl7, sz8, szl8, sz9, szl9, sz10, szl10, sz11, szl11, sz12, szl12, sz13, szl13, sz14, szl14, sz15, szl15, sz16, szl16, sz17, szl17, sz18, szl18, sz19, szl19, sz20, szl20, sz21, szl21, sz22, szl22, sz23, szl23, sz24, szl24, sz25, szl25, sz26, szl26, sz27, szl27, sz28, szl28, sz29, szl29, sz30, szl30, sz31, szl31, sz32, szl32, sz33, szl33, sz34, szl34, sz35, szl35, sz36, szl36, sz37, szl37, sz38, szl38, sz39, szl39, sz40, szl40, hx]
    rw [wpS_seq]
    rw [ws_at t3a_run]
    rw [sqS_nx, wpS_seq]
    rw [ws_at t3b_run]
    rw [sqS_nx, wpS_seq]
    unfold t3c E65
    simp only [List.map, List.replicate, List.cons_append, List.nil_append, List.length_cons, List.length_nil, Nat.reduceAdd, bq_ok, bq_ex, wp_pure, wp_fail, wp_getS, oQ_some, oQ_ite, bqS_ok, bqS_ex, sqS_nx, sqS_rt, sqS_bk, sqS_ct, sqS_ex, wpS_next, wpS_break, wpS_cont, wpS_retN, wpS_setT, stQ_some, wp_C, wp_call, wp_callv, bqF_ok, bqF_ex, wp_new, wp_newv, fqS_nx, fqS_rt, fqS_ex, wpS_for, wp_comp, wp_dVar, vQ_v, vQ_o, List.getElem?_cons_zero, List.getElem?_cons_succ, List.set_cons_zero, List.set_cons_succ, wp_d1, wp_k1, wp_d2, wp_k2, wp_k2b, wp_dT, wp_kT, wp_dTru, wp_kTru, wp_dNotT, wp_kNot, wp_dAndT, wp_kAnd, wp_dOrT, wp_kOr, wp_dAndV, wp_kAndV, wp_kAndVb, wp_dOrV, wp_kOrV, wp_kOrVb, wp_dNotV, wp_kNotV, wp_kNotVb, wp_dIf, wp_kIf, wp_dChain, wp_kCh, wp_kCh2, wp_kCh3, wp_aNil, wp_aCons, wp_kCons, wp_kCons2, wp_dTup, wp_kTup, wp_dLst, wp_kLst, wp_dN, wp_kN, wp_dLs, wp_kLs, wp_lDisp, wp_kDisp, wp_lRng, wp_kRng, wp_dItR, wp_kItR, wp_dItS, wp_kItS, wp_tTrue, wp_oNo, wp_oSome, wp_kSome, wp_dSl, wp_kSl, wp_kSl1, wp_kSl2, ws_ret, ws_kRet, ws_expr, ws_kExpr, ws_if, ws_kIfS, ws_set, ws_kSet, ws_setO, ws_kSetO, ws_kSetT, ws_setR, ws_kSetR0, ws_kSetR1, ws_kSetR2, items_t, items_ft, items_l, items_r, setAll, Bool.not_true, Bool.not_false, if_true, ite_true, ite_false, ↓reduceIte, Bool.false_eq_true, Int.reduceLT, Int.reduceLE, Nat.reduceLT, Nat.reduceLeDiff, Nat.reducePow, Int.reducePow, Int.reduceToNat, Int.reduceNeg, Int.reduceSub, Int.reduceAdd, and_self, and_true, true_and, decide_eq_true_eq, decide_true, decide_false, List.length_map, ixN_31, ixN_32, ixN_30, wipeE, restE, lcQ, Option.getD_some, add_i, add_t, add_l, sub_i, mul_i, mul_t, mul_l, fdiv_i, mod_i, pow_18, neg_i, lt_i, le_i, gt_i, ge_i, eq_i, ne_i, eq_b, len_t, len_ft, len_l, len_r, abs_i, int_i, list_t, list_ft, list_l, list_r, tuple_t, tuple_ft, tuple_l, isi_i, isi_b, isi_s, isi_t, isi_ft, isi_l, isi_r, isi_n, tru_b, tru_i, tru_t, tru_ft, tru_l, tru_n, isN_n, isN_b, isN_i, isN_s, isN_t, isN_l, ix_t, ix_ft, ix_l, ix_r, ix_ref, setS_ref, atI_0, atI_1, atI_2, Option.map_some, Option.map_none, kb0, kb1, kb2, kb3, kb4, kb5, kb6, kb7, kb8, kb9, kb10, kb11, kb12, kb13, kb14, kb15, kb16, kb17, kb18, kb19, kb20, kb21, kb22, kb23, kb24, kb25, kb26, kb27, kb28, kb29, sz0, szl0, sz1, szl1, sz2, szl2, sz3, szl3, sz4, szl4, sz5, szl5, sz6, szl6, sz7, szl7, sz8, szl8, sz9, szl9, sz10, szl10, sz11, szl11, sz12, szl12, sz13, szl13, sz14, szl14, sz15, szl15, sz16, szl16, sz17, szl17, sz18, szl18, sz19, szl19, sz20, szl20, sz21, szl21, sz22, szl22, sz23, szl23, sz24, szl24, sz25, szl25, sz26, szl26, sz27, szl27, sz28, szl28, sz29, szl29, sz30, szl30, sz31, szl31, sz32, szl32, sz33, szl33, sz34, szl34, sz35, szl35, sz36, szl36, sz37, szl37, sz38, szl38, sz39, szl39, sz40, szl40]
    rw [wp_lenO rfl]
    simp only [List.map, List.replicate, List.cons_append, List.nil_append, List.length_cons, List.length_nil, Nat.reduceAdd, bq_ok, bq_ex, wp_pure, wp_fail, wp_getS, oQ_some, oQ_ite, bqS_ok, bqS_ex, sqS_nx, sqS_rt, sqS_bk, sqS_ct, sqS_ex, wpS_next, wpS_break, wpS_cont, wpS_retN, wpS_setT, stQ_some, wp_C, wp_call, wp_callv, bqF_ok, bqF_ex, wp_new, wp_newv, fqS_nx, fqS_rt, fqS_ex, wpS_for, wp_comp, wp_dVar, vQ_v, vQ_o, List.getElem?_cons_zero, List.getElem?_cons_succ, List.set_cons_zero, List.set_cons_succ, wp_d1, wp_k1, wp_d2, wp_k2, wp_k2b, wp_dT, wp_kT, wp_dTru, wp_kTru, wp_dNotT, wp_kNot, wp_dAndT, wp_kAnd, wp_dOrT, wp_kOr, wp_dAndV, wp_kAndV, wp_kAndVb, wp_dOrV, wp_kOrV, wp_kOrVb, wp_dNotV, wp_kNotV, wp_kNotVb, wp_dIf, wp_kIf, wp_dChain, wp_kCh, wp_kCh2, wp_kCh3, wp_aNil, wp_aCons, wp_kCons, wp_kCons2, wp_dTup, wp_kTup, wp_dLst, wp_kLst, wp_dN, wp_kN, wp_dLs, wp_kLs, wp_lDisp, wp_kDisp, wp_lRng, wp_kRng, wp_dItR, wp_kItR, wp_dItS, wp_kItS, wp_tTrue, wp_oNo, wp_oSome, wp_kSome, wp_dSl, wp_kSl, wp_kSl1, wp_kSl2, ws_ret, ws_kRet, ws_expr, ws_kExpr, ws_if, ws_kIfS, ws_set, ws_kSet, ws_setO, ws_kSetO, ws_kSetT, ws_setR, ws_kSetR0, ws_kSetR1, ws_kSetR2, items_t, items_ft, items_l, items_r, setAll, Bool.not_true, Bool.not_false, if_true, ite_true, ite_false, ↓reduceIte, Bool.false_eq_true, Int.reduceLT, Int.reduceLE, Nat.reduceLT, Nat.reduceLeDiff, Nat.reducePow, Int.reducePow, Int.reduceToNat, Int.reduceNeg, Int.reduceSub, Int.reduceAdd, and_self, and_true, true_and, decide_eq_true_eq, decide_true, decide_false, List.length_map, ixN_31, ixN_32, ixN_30, wipeE, restE, lcQ, Option.getD_some, add_i, add_t, add_l, sub_i, mul_i, mul_t, mul_l, fdiv_i, mod_i, pow_18, neg_i, lt_i, le_i, gt_i, ge_i, eq_i, ne_i, eq_b, len_t, len_ft, len_l, len_r, abs_i, int_i, list_t, list_ft, list_l, list_r, tuple_t, tuple_ft, tuple_l, isi_i, isi_b, isi_s, isi_t, isi_ft, isi_l, isi_r, isi_n, tru_b, tru_i, tru_t, tru_ft, tru_l, tru_n, isN_n, isN_b, isN_i, isN_s, isN_t, isN_l, ix_t, ix_ft, ix_l, ix_r, ix_ref, setS_ref, atI_0, atI_1, atI_2, Option.map_some, Option.map_none, kb0, kb1, kb2, kb3, kb4, kb5, kb6, kb7, kb8, kb9, kb10, kb11, kb12, kb13, kb14, kb15, kb16, kb17, kb18, kb19, kb20, kb21, kb22, kb23, kb24, kb25, kb26, kb27, kb28, kb29, sz0, szl0, sz1, szl1, sz2, szl2, sz3, szl3, sz4, szl4, sz5, szl5, sz6, szl6, sz7, szl7, sz8, szl8, sz9, szl9, sz10, szl10, sz11, szl11, sz12, szl12, sz13, szl13, sz14, szl14, sz15, szl15, sz16, szl16, sz17, szl17, sz18, szl18, sz19, szl19, sz20, szl20, sz21, szl21, sz22, szl22, sz23, szl23, sz24, szl24, sz25, szl25, sz26, szl26, sz27, szl27, sz28, szl28, sz29, szl29, sz30, szl30, sz31, szl31, sz32, szl32, sz33, szl33, sz34, szl34, sz35, szl35, sz36, szl36, sz37, szl37, sz38, szl38, sz39, szl39, sz40, szl40, List.length_map]
    refine wp_next h2 (by omega) (by omega) fun a S2 ha0 ha1 h3 => ?_
    obtain ⟨a, rfl⟩ : ∃ k : Nat, a = (k : Int) := ⟨a.toNat, by omega⟩
    have ha : a ≤ W.length := by omega
    simp only [List.map, List.replicate, List.cons_append, List.nil_append, List.length_cons, List.length_nil, Nat.reduceAdd, bq_ok, bq_ex, wp_pure, wp_fail, wp_getS, oQ_some, oQ_ite, bqS_ok, bqS_ex, sqS_nx, sqS_rt, sqS_bk, sqS_ct, sqS_ex, wpS_next, wpS_break, wpS_cont, wpS_retN, wpS_setT, stQ_some, wp_C, wp_call, wp_callv, bqF_ok, bqF_ex, wp_new, wp_newv, fqS_nx, fqS_rt, fqS_ex, wpS_for, wp_comp, wp_dVar, vQ_v, vQ_o, List.getElem?_cons_zero, List.getElem?_cons_succ, List.set_cons_zero, List.set_cons_succ, wp_d1, wp_k1, wp_d2, wp_k2, wp_k2b, wp_dT, wp_kT, wp_dTru, wp_kTru, wp_dNotT, wp_kNot, wp_dAndT, wp_kAnd, wp_dOrT, wp_kOr, wp_dAndV, wp_kAndV, wp_kAndVb, wp_dOrV, wp_kOrV, wp_kOrVb, wp_dNotV, wp_kNotV, wp_kNotVb, wp_dIf, wp_kIf, wp_dChain, wp_kCh, wp_kCh2, wp_kCh3, wp_aNil, wp_aCons, wp_kCons, wp_kCons2, wp_dTup, wp_kTup, wp_dLst, wp_kLst, wp_dN, wp_kN, wp_dLs, wp_kLs, wp_lDisp, wp_kDisp, wp_lRng, wp_kRng, wp_dItR, wp_kItR, wp_dItS, wp_kItS, wp_tTrue, wp_oNo, wp_oSome, wp_kSome, wp_dSl, wp_kSl, wp_kSl1, wp_kSl2, ws_ret, ws_kRet, ws_expr, ws_kExpr, ws_if, ws_kIfS, ws_set, ws_kSet, ws_setO, ws_kSetO, ws_kSetT, ws_setR, ws_kSetR0, ws_kSetR1, ws_kSetR2, items_t, items_ft, items_l, items_r, setAll, Bool.not_true, Bool.not_false, if_true, ite_true, ite_false, ↓reduceIte, Bool.false_eq_true, Int.reduceLT, Int.reduceLE, Nat.reduceLT, Nat.reduceLeDiff, Nat.reducePow, Int.reducePow, Int.reduceToNat, Int.reduceNeg, Int.reduceSub, Int.reduceAdd, and_self, and_true, true_and, decide_eq_true_eq, decide_true, decide_false, List.length_map, ixN_31, ixN_32, ixN_30, wipeE, restE, lcQ, Option.getD_some, add_i, add_t, add_l, sub_i, mul_i, mul_t, mul_l, fdiv_i, mod_i, pow_18, neg_i, lt_i, le_i, gt_i, ge_i, eq_i, ne_i, eq_b, len_t, len_ft, len_l, len_r, abs_i, int_i, list_t, list_ft, list_l, list_r, tuple_t, tuple_ft, tuple_l, isi_i, isi_b, isi_s, isi_t, isi_ft, isi_l, isi_r, isi_n, tru_b, tru_i, tru_t, tru_ft, tru_l, tru_n, isN_n, isN_b, isN_i, isN_s, isN_t, isN_l, ix_t, ix_ft, ix_l, ix_r, ix_ref, setS_ref, atI_0, atI_1, atI_2, Option.map_some, Option.map_none, kb0, kb1, kb2, kb3, kb4, kb5, kb6, kb7, kb8, kb9, kb10, kb11, kb12, kb13, kb14, kb15, kb16, kb17, kb18, kb19, kb20, kb21, kb22, kb23, kb24, kb25, kb26, kb27, kb28, kb29, sz0, szl0, sz1, szl1, sz2, szl2, sz3, szl3, sz4, szl4, sz5, szl5, sz6, szl6, sz7, szl7, sz8, szl8, sz9, szl9, sz10, szl10, sz11, szl11, sz12, szl12, sz13, szl13, sz14, szl14, sz15, szl15, sz16, szl16, sz17, szl17, sz18, szl18, sz19, szl19, sz20, szl20, sz21, szl21, sz22, szl22, sz23, szl23, sz24, szl24, sz25, szl25, sz26, szl26, sz27, szl27, sz28, szl28, sz29, szl29, sz30, szl30, sz31, szl31, sz32, szl32, sz33, szl33, sz34, szl34, sz35, szl35, sz36, szl36, sz37, szl37, sz38, szl38, sz39, szl39, sz40, szl40]
    rw [wpS_seq]
    unfold t3d
    simp only [List.map, List.replicate, List.cons_append, List.nil_append, List.length_cons, List.length_nil, Nat.reduceAdd, bq_ok, bq_ex, wp_pure, wp_fail, wp_getS, oQ_some, oQ_ite, bqS_ok, bqS_ex, sqS_nx, sqS_rt, sqS_bk, sqS_ct, sqS_ex, wpS_next, wpS_break, wpS_cont, wpS_retN, wpS_setT, stQ_some, wp_C, wp_call, wp_callv, bqF_ok, bqF_ex, wp_new, wp_newv, fqS_nx, fqS_rt, fqS_ex, wpS_for, wp_comp, wp_dVar, vQ_v, vQ_o, List.getElem?_cons_zero, List.getElem?_cons_succ, List.set_cons_zero, List.set_cons_succ, wp_d1, wp_k1, wp_d2, wp_k2, wp_k2b, wp_dT, wp_kT, wp_dTru, wp_kTru, wp_dNotT, wp_kNot, wp_dAndT, wp_kAnd, wp_dOrT, wp_kOr, wp_dAndV, wp_kAndV, wp_kAndVb, wp_dOrV, wp_kOrV, wp_kOrVb, wp_dNotV, wp_kNotV, wp_kNotVb, wp_dIf, wp_kIf, wp_dChain, wp_kCh, wp_kCh2, wp_kCh3, wp_aNil, wp_aCons, wp_kCons, wp_kCons2, wp_dTup, wp_kTup, wp_dLst, wp_kLst, wp_dN, wp_kN, wp_dLs, wp_kLs, wp_lDisp, wp_kDisp, wp_lRng, wp_kRng, wp_dItR, wp_kItR, wp_dItS, wp_kItS, wp_tTrue, wp_oNo, wp_oSome, wp_kSome, wp_dSl, wp_kSl, wp_kSl1, wp_kSl2, ws_ret, ws_kRet, ws_expr, ws_kExpr, ws_if, ws_kIfS, ws_set, ws_kSet, ws_setO, ws_kSetO, ws_kSetT, ws_setR, ws_kSetR0, ws_kSetR1, ws_kSetR2, items_t, items_ft, items_l, items_r, setAll, Bool.not_true, Bool.not_false, if_true, ite_true, ite_false, ↓reduceIte, Bool.false_eq_true, Int.reduceLT, Int.reduceLE, Nat.reduceLT, Nat.reduceLeDiff, Nat.reducePow, Int.reducePow, Int.reduceToNat, Int.reduceNeg, Int.reduceSub, Int.reduceAdd, and_self, and_true, true_and, decide_eq_true_eq, decide_true, decide_false, List.length_map, ixN_31, ixN_32, ixN_30, wipeE, restE, lcQ, Option.getD_some, add_i, add_t, add_l, sub_i, mul_i, mul_t, mul_l, fdiv_i, mod_i, pow_18, neg_i, lt_i, le_i, gt_i, ge_i, eq_i, ne_i, eq_b, len_t, len_ft, len_l, len_r, abs_i, int_i, list_t, list_ft, list_l, list_r, tuple_t, tuple_ft, tuple_l, isi_i, isi_b, isi_s, isi_t, isi_ft, isi_l, isi_r, isi_n, tru_b, tru_i, tru_t, tru_ft, tru_l, tru_n, isN_n, isN_b, isN_i, isN_s, isN_t, isN_l, ix_t, ix_ft, ix_l, ix_r, ix_ref, setS_ref, atI_0, atI_1, atI_2, Option.map_some, Option.map_none, kb0, kb1, kb2, kb3, kb4, kb5, kb6, kb7, kb8, kb9, kb10, kb11, kb12, kb13, kb14, kb15, kb16, kb17, kb18, kb19, kb20, kb21, kb22, kb23, kb24, kb25, kb26, kb27, kb28, kb29, sz0, szl0, sz1, szl1, sz2, szl2, sz3, szl3, sz4, szl4, sz5, szl5, sz6, szl6, sz7, szl7, sz8, szl8, sz9, szl9, sz10, szl10, sz11, szl11, sz12, szl12, sz13, szl13, sz14, szl14, sz15, szl15, sz16, szl16, sz17, szl17, sz18, szl18, sz19, szl19, sz20, szl20, sz21, szl21, sz22, szl22, sz23, szl23, sz24, szl24, sz25, szl25, sz26, szl26, sz27, szl27, sz28, szl28, sz29, szl29, sz30, szl30, sz31, szl31, sz32, szl32, sz33, szl33, sz34, szl34, sz35, szl35, sz36, szl36, sz37, szl37, sz38, szl38, sz39, szl39, sz40, szl40]
    refine wp_pick h3 (by rw [strV_len]; decide) (by rw [strV_len]; decide) fun p S3 hp h4 => ?_
    obtain ⟨w, m, rfl, hm⟩ := strV_mem hp
    have l1 : slP (.lst (W.map wV)) none (some (a : Int)) = some (.lst ((W.take a).map wV)) := by rw [sl_toL (by omega), Int.toNat_natCast, List.map_take]
    have l2 : slP (.lst (W.map wV)) (some (a : Int)) none = some (.lst ((W.drop a).map wV)) := by rw [sl_fromL65 (by omega), Int.toNat_natCast, List.map_drop]
    have l3 : ((W.take a).map wV).length ≤ 20 := by rw [List.length_map, List.length_take]; omega
    have l4 : ((W.drop a).map wV).length ≤ 20 := by rw [List.length_map, List.length_drop]; omega
    have l6 : (W.take a).length + 1 ≤ sizeLine := by rw [List.length_take, sizeLine_eq]; omega
    have l7 : ((W.take a).map wV ++ [wV w]).length + ((W.drop a).map wV).length ≤ sizeLine := by rw [List.length_append, List.length_singleton, sizeLine_eq]; omega
    have l8 : (W.take a).map wV ++ [wV w] ++ (W.drop a).map wV = (W.take a ++ w :: W.drop a).map wV := by simp
    have l9 : (W.take a).length = a := by rw [List.length_take]; omega
    have l10 : (W.take a ++ w :: W.drop a).length ≤ 21 := by rw [List.length_append, List.length_cons, List.length_take, List.length_drop]; omega
    simp only [List.map, List.replicate, List.cons_append, List.nil_append, List.length_cons, List.length_nil, Nat.reduceAdd, bq_ok, bq_ex, wp_pure, wp_fail, wp_getS, oQ_some, oQ_ite, bqS_ok, bqS_ex, sqS_nx, sqS_rt, sqS_bk, sqS_ct, sqS_ex, wpS_next, wpS_break, wpS_cont, wpS_retN, wpS_setT, stQ_some, wp_C, wp_call, wp_callv, bqF_ok, bqF_ex, wp_new, wp_newv, fqS_nx, fqS_rt, fqS_ex, wpS_for, wp_comp, wp_dVar, vQ_v, vQ_o, List.getElem?_cons_zero, List.getElem?_cons_succ, List.set_cons_zero, List.set_cons_succ, wp_d1, wp_k1, wp_d2, wp_k2, wp_k2b, wp_dT, wp_kT, wp_dTru, wp_kTru, wp_dNotT, wp_kNot, wp_dAndT, wp_kAnd, wp_dOrT, wp_kOr, wp_dAndV, wp_kAndV, wp_kAndVb, wp_dOrV, wp_kOrV, wp_kOrVb, wp_dNotV, wp_kNotV, wp_kNotVb, wp_dIf, wp_kIf, wp_dChain, wp_kCh, wp_kCh2, wp_kCh3, wp_aNil, wp_aCons, wp_kCons, wp_kCons2, wp_dTup, wp_kTup, wp_dLst, wp_kLst, wp_dN, wp_kN, wp_dLs, wp_kLs, wp_lDisp, wp_kDisp, wp_lRng, wp_kRng, wp_dItR, wp_kItR, wp_dItS, wp_kItS, wp_tTrue, wp_oNo, wp_oSome, wp_kSome, wp_dSl, wp_kSl, wp_kSl1, wp_kSl2, ws_ret, ws_kRet, ws_expr, ws_kExpr, ws_if, ws_kIfS, ws_set, ws_kSet, ws_setO, ws_kSetO, ws_kSetT, ws_setR, ws_kSetR0, ws_kSetR1, ws_kSetR2, items_t, items_ft, items_l, items_r, setAll, Bool.not_true, Bool.not_false, if_true, ite_true, ite_false, ↓reduceIte, Bool.false_eq_true, Int.reduceLT, Int.reduceLE, Nat.reduceLT, Nat.reduceLeDiff, Nat.reducePow, Int.reducePow, Int.reduceToNat, Int.reduceNeg, Int.reduceSub, Int.reduceAdd, and_self, and_true, true_and, decide_eq_true_eq, decide_true, decide_false, List.length_map, ixN_31, ixN_32, ixN_30, wipeE, restE, lcQ, Option.getD_some, add_i, add_t, add_l, sub_i, mul_i, mul_t, mul_l, fdiv_i, mod_i, pow_18, neg_i, lt_i, le_i, gt_i, ge_i, eq_i, ne_i, eq_b, len_t, len_ft, len_l, len_r, abs_i, int_i, list_t, list_ft, list_l, list_r, tuple_t, tuple_ft, tuple_l, isi_i, isi_b, isi_s, isi_t, isi_ft, isi_l, isi_r, isi_n, tru_b, tru_i, tru_t, tru_ft, tru_l, tru_n, isN_n, isN_b, isN_i, isN_s, isN_t, isN_l, ix_t, ix_ft, ix_l, ix_r, ix_ref, setS_ref, atI_0, atI_1, atI_2, Option.map_some, Option.map_none, kb0, kb1, kb2, kb3, kb4, kb5, kb6, kb7, kb8, kb9, kb10, kb11, kb12, kb13, kb14, kb15, kb16, kb17, kb18, kb19, kb20, kb21, kb22, kb23, kb24, kb25, kb26, kb27, kb28, kb29, sz0, szl0, sz1, szl1, sz2, szl2, sz3, szl3, sz4, szl4, sz5, szl5, sz6, szl6, sz7, szl7, sz8, szl8, sz9, szl9, sz10, szl10, sz11, szl11, sz12, szl12, sz13, szl13, sz14, szl14, sz15, szl15, sz16, szl16, sz17, szl17, sz18, szl18, sz19, szl19, sz20, szl20, sz21, szl21, sz22, szl22, sz23, szl23, sz24, szl24, sz25, szl25, sz26, szl26, sz27, szl27, sz28, szl28, sz29, szl29, sz30, szl30, sz31, szl31, sz32, szl32, sz33, szl33, sz34, szl34, sz35, szl35, sz36, szl36, sz37, szl37, sz38, szl38, sz39, szl39, sz40, szl40]
    rw [wpS_seq]
    unfold t3e
    simp only [List.map, List.replicate, List.cons_append, List.nil_append, List.length_cons, List.length_nil, Nat.reduceAdd, bq_ok, bq_ex, wp_pure, wp_fail, wp_getS, oQ_some, oQ_ite, bqS_ok, bqS_ex, sqS_nx, sqS_rt, sqS_bk, sqS_ct, sqS_ex, wpS_next, wpS_break, wpS_cont, wpS_retN, wpS_setT, stQ_some, wp_C, wp_call, wp_callv, bqF_ok, bqF_ex, wp_new, wp_newv, fqS_nx, fqS_rt, fqS_ex, wpS_for, wp_comp, wp_dVar, vQ_v, vQ_o, List.getElem?_cons_zero, List.getElem?_cons_succ, List.set_cons_zero, List.set_cons_succ, wp_d1, wp_k1, wp_d2, wp_k2, wp_k2b, wp_dT, wp_kT, wp_dTru, wp_kTru, wp_dNotT, wp_kNot, wp_dAndT, wp_kAnd, wp_dOrT, wp_kOr, wp_dAndV, wp_kAndV, wp_kAndVb, wp_dOrV, wp_kOrV, wp_kOrVb, wp_dNotV, wp_kNotV, wp_kNotVb, wp_dIf, wp_kIf, wp_dChain, wp_kCh, wp_kCh2, wp_kCh3, wp_aNil, wp_aCons, wp_kCons, wp_kCons2, wp_dTup, wp_kTup, wp_dLst, wp_kLst, wp_dN, wp_kN, wp_dLs, wp_kLs, wp_lDisp, wp_kDisp, wp_lRng, wp_kRng, wp_dItR, wp_kItR, wp_dItS, wp_kItS, wp_tTrue, wp_oNo, wp_oSome, wp_kSome, wp_dSl, wp_kSl, wp_kSl1, wp_kSl2, ws_ret, ws_kRet, ws_expr, ws_kExpr, ws_if, ws_kIfS, ws_set, ws_kSet, ws_setO, ws_kSetO, ws_kSetT, ws_setR, ws_kSetR0, ws_kSetR1, ws_kSetR2, items_t, items_ft, items_l, items_r, setAll, Bool.not_true, Bool.not_false, if_true, ite_true, ite_false, ↓reduceIte, Bool.false_eq_true, Int.reduceLT, Int.reduceLE, Nat.reduceLT, Nat.reduceLeDiff, Nat.reducePow, Int.reducePow, Int.reduceToNat, Int.reduceNeg, Int.reduceSub, Int.reduceAdd, and_self, and_true, true_and, decide_eq_true_eq, decide_true, decide_false, List.length_map, ixN_31, ixN_32, ixN_30, wipeE, restE, lcQ, Option.getD_some, add_i, add_t, add_l, sub_i, mul_i, mul_t, mul_l, fdiv_i, mod_i, pow_18, neg_i, lt_i, le_i, gt_i, ge_i, eq_i, ne_i, eq_b, len_t, len_ft, len_l, len_r, abs_i, int_i, list_t, list_ft, list_l, list_r, tuple_t, tuple_ft, tuple_l, isi_i, isi_b, isi_s, isi_t, isi_ft, isi_l, isi_r, isi_n, tru_b, tru_i, tru_t, tru_ft, tru_l, tru_n, isN_n, isN_b, isN_i, isN_s, isN_t, isN_l, ix_t, ix_ft, ix_l, ix_r, ix_ref, setS_ref, atI_0, atI_1, atI_2, Option.map_some, Option.map_none, kb0, kb1, kb2, kb3, kb4, kb5, kb6, kb7, kb8, kb9, kb10, kb11, kb12, kb13, kb14, kb15, kb16, kb17, kb18, kb19, kb20, kb21, kb22, kb23, kb24, kb25, kb26, kb27, kb28, kb29, sz0, szl0, sz1, szl1, sz2, szl2, sz3, szl3, sz4, szl4, sz5, szl5, sz6, szl6, sz7, szl7, sz8, szl8, sz9, szl9, sz10, szl10, sz11, szl11, sz12, szl12, sz13, szl13, sz14, szl14, sz15, szl15, sz16, szl16, sz17, szl17, sz18, szl18, sz19, szl19, sz20, szl20, sz21, szl21, sz22, szl22, sz23, szl23, sz24, szl24, sz25, szl25, sz26, szl26, sz27, szl27, sz28, szl28, sz29, szl29, sz30, szl30, sz31, szl31, sz32, szl32, sz33, szl33, sz34, szl34, sz35, szl35, sz36, szl36, sz37, szl37, sz38, szl38, sz39, szl39, sz40, szl40, wp_lA65, l1, l2, l6]
    rw [wp_kLA65 l7, l8]
    simp only [List.map, List.replicate, List.cons_append, List.nil_append, List.length_cons, List.length_nil, Nat.reduceAdd, bq_ok, bq_ex, wp_pure, wp_fail, wp_getS, oQ_some, oQ_ite, bqS_ok, bqS_ex, sqS_nx, sqS_rt, sqS_bk, sqS_ct, sqS_ex, wpS_next, wpS_break, wpS_cont, wpS_retN, wpS_setT, stQ_some, wp_C, wp_call, wp_callv, bqF_ok, bqF_ex, wp_new, wp_newv, fqS_nx, fqS_rt, fqS_ex, wpS_for, wp_comp, wp_dVar, vQ_v, vQ_o, List.getElem?_cons_zero, List.getElem?_cons_succ, List.set_cons_zero, List.set_cons_succ, wp_d1, wp_k1, wp_d2, wp_k2, wp_k2b, wp_dT, wp_kT, wp_dTru, wp_kTru, wp_dNotT, wp_kNot, wp_dAndT, wp_kAnd, wp_dOrT, wp_kOr, wp_dAndV, wp_kAndV, wp_kAndVb, wp_dOrV, wp_kOrV, wp_kOrVb, wp_dNotV, wp_kNotV, wp_kNotVb, wp_dIf, wp_kIf, wp_dChain, wp_kCh, wp_kCh2, wp_kCh3, wp_aNil, wp_aCons, wp_kCons, wp_kCons2, wp_dTup, wp_kTup, wp_dLst, wp_kLst, wp_dN, wp_kN, wp_dLs, wp_kLs, wp_lDisp, wp_kDisp, wp_lRng, wp_kRng, wp_dItR, wp_kItR, wp_dItS, wp_kItS, wp_tTrue, wp_oNo, wp_oSome, wp_kSome, wp_dSl, wp_kSl, wp_kSl1, wp_kSl2, ws_ret, ws_kRet, ws_expr, ws_kExpr, ws_if, ws_kIfS, ws_set, ws_kSet, ws_setO, ws_kSetO, ws_kSetT, ws_setR, ws_kSetR0, ws_kSetR1, ws_kSetR2, items_t, items_ft, items_l, items_r, setAll, Bool.not_true, Bool.not_false, if_true, ite_true, ite_false, ↓reduceIte, Bool.false_eq_true, Int.reduceLT, Int.reduceLE, Nat.reduceLT, Nat.reduceLeDiff, Nat.reducePow, Int.reducePow, Int.reduceToNat, Int.reduceNeg, Int.reduceSub, Int.reduceAdd, and_self, and_true, true_and, decide_eq_true_eq, decide_true, decide_false, List.length_map, ixN_31, ixN_32, ixN_30, wipeE, restE, lcQ, Option.getD_some, add_i, add_t, add_l, sub_i, mul_i, mul_t, mul_l, fdiv_i, mod_i, pow_18, neg_i, lt_i, le_i, gt_i, ge_i, eq_i, ne_i, eq_b, len_t, len_ft, len_l, len_r, abs_i, int_i, list_t, list_ft, list_l, list_r, tuple_t, tuple_ft, tuple_l, isi_i, isi_b, isi_s, isi_t, isi_ft, isi_l, isi_r, isi_n, tru_b, tru_i, tru_t, tru_ft, tru_l, tru_n, isN_n, isN_b, isN_i, isN_s, isN_t, isN_l, ix_t, ix_ft, ix_l, ix_r, ix_ref, setS_ref, atI_0, atI_1, atI_2, Option.map_some, Option.map_none, kb0, kb1, kb2, kb3, kb4, kb5, kb6, kb7, kb8, kb9, kb10, kb11, kb12, kb13, kb14, kb15, kb16, kb17, kb18, kb19, kb20, kb21, kb22, kb23, kb24, kb25, kb26, kb27, kb28, kb29, sz0, szl0, sz1, szl1, sz2, szl2, sz3, szl3, sz4, szl4, sz5, szl5, sz6, szl6, sz7, szl7, sz8, szl8, sz9, szl9, sz10, szl10, sz11, szl11, sz12, szl12, sz13, szl13, sz14, szl14, sz15, szl15, sz16, szl16, sz17, szl17, sz18, szl18, sz19, szl19, sz20, szl20, sz21, szl21, sz22, szl22, sz23, szl23, sz24, szl24, sz25, szl25, sz26, szl26, sz27, szl27, sz28, szl28, sz29, szl29, sz30, szl30, sz31, szl31, sz32, szl32, sz33, szl33, sz34, szl34, sz35, szl35, sz36, szl36, sz37, szl37, sz38, szl38, sz39, szl39, sz40, szl40]
    unfold t3f
    simp only [List.map, List.replicate, List.cons_append, List.nil_append, List.length_cons, List.length_nil, Nat.reduceAdd, bq_ok, bq_ex, wp_pure, wp_fail, wp_getS, oQ_some, oQ_ite, bqS_ok, bqS_ex, sqS_nx, sqS_rt, sqS_bk, sqS_ct, sqS_ex, wpS_next, wpS_break, wpS_cont, wpS_retN, wpS_setT, stQ_some, wp_C, wp_call, wp_callv, bqF_ok, bqF_ex, wp_new, wp_newv, fqS_nx, fqS_rt, fqS_ex, wpS_for, wp_comp, wp_dVar, vQ_v, vQ_o, List.getElem?_cons_zero, List.getElem?_cons_succ, List.set_cons_zero, List.set_cons_succ, wp_d1, wp_k1, wp_d2, wp_k2, wp_k2b, wp_dT, wp_kT, wp_dTru, wp_kTru, wp_dNotT, wp_kNot, wp_dAndT, wp_kAnd, wp_dOrT, wp_kOr, wp_dAndV, wp_kAndV, wp_kAndVb, wp_dOrV, wp_kOrV, wp_kOrVb, wp_dNotV, wp_kNotV, wp_kNotVb, wp_dIf, wp_kIf, wp_dChain, wp_kCh, wp_kCh2, wp_kCh3, wp_aNil, wp_aCons, wp_kCons, wp_kCons2, wp_dTup, wp_kTup, wp_dLst, wp_kLst, wp_dN, wp_kN, wp_dLs, wp_kLs, wp_lDisp, wp_kDisp, wp_lRng, wp_kRng, wp_dItR, wp_kItR, wp_dItS, wp_kItS, wp_tTrue, wp_oNo, wp_oSome, wp_kSome, wp_dSl, wp_kSl, wp_kSl1, wp_kSl2, ws_ret, ws_kRet, ws_expr, ws_kExpr, ws_if, ws_kIfS, ws_set, ws_kSet, ws_setO, ws_kSetO, ws_kSetT, ws_setR, ws_kSetR0, ws_kSetR1, ws_kSetR2, items_t, items_ft, items_l, items_r, setAll, Bool.not_true, Bool.not_false, if_true, ite_true, ite_false, ↓reduceIte, Bool.false_eq_true, Int.reduceLT, Int.reduceLE, Nat.reduceLT, Nat.reduceLeDiff, Nat.reducePow, Int.reducePow, Int.reduceToNat, Int.reduceNeg, Int.reduceSub, Int.reduceAdd, and_self, and_true, true_and, decide_eq_true_eq, decide_true, decide_false, List.length_map, ixN_31, ixN_32, ixN_30, wipeE, restE, lcQ, Option.getD_some, add_i, add_t, add_l, sub_i, mul_i, mul_t, mul_l, fdiv_i, mod_i, pow_18, neg_i, lt_i, le_i, gt_i, ge_i, eq_i, ne_i, eq_b, len_t, len_ft, len_l, len_r, abs_i, int_i, list_t, list_ft, list_l, list_r, tuple_t, tuple_ft, tuple_l, isi_i, isi_b, isi_s, isi_t, isi_ft, isi_l, isi_r, isi_n, tru_b, tru_i, tru_t, tru_ft, tru_l, tru_n, isN_n, isN_b, isN_i, isN_s, isN_t, isN_l, ix_t, ix_ft, ix_l, ix_r, ix_ref, setS_ref, atI_0, atI_1, atI_2, Option.map_some, Option.map_none, kb0, kb1, kb2, kb3, kb4, kb5, kb6, kb7, kb8, kb9, kb10, kb11, kb12, kb13, kb14, kb15, kb16, kb17, kb18, kb19, kb20, kb21, kb22, kb23, kb24, kb25, kb26, kb27, kb28, kb29, sz0, szl0, sz1, szl1, sz2, szl2, sz3, szl3, sz4, szl4, sz5, szl5, sz6, szl6, sz7, szl7, sz8, szl8, sz9, szl9, sz10, szl10, sz11, szl11, sz12, szl12, sz13, szl13, sz14, szl14, sz15, szl15, sz16, szl16, sz17, szl17, sz18, szl18, sz19, szl19, sz20, szl20, sz21, szl21, sz22, szl22, sz23, szl23, sz24, szl24, sz25, szl25, sz26, szl26, sz27, szl27, sz28, szl28, sz29, szl29, sz30, szl30, sz31, szl31, sz32, szl32, sz33, szl33, sz34, szl34, sz35, szl35, sz36, szl36, sz37, szl37, sz38, szl38, sz39, szl39, sz40, szl40]
    refine wp_next h4 (by omega) (by omega) fun y S4 hy0 hy1 h5 => ?_
    have hG : ∀ g ∈ W.take a, g ∈ wordsG := fun g hg => hW g (List.mem_of_mem_take hg)
    have hT : ∀ t ∈ W.drop a, t ∈ wordsA := fun t ht => A_G (hW t (List.mem_of_mem_drop ht))
    by_cases hy : y = 1
    · simp only [List.map, List.replicate, List.cons_append, List.nil_append, List.length_cons, List.length_nil, Nat.reduceAdd, bq_ok, bq_ex, wp_pure, wp_fail, wp_getS, oQ_some, oQ_ite, bqS_ok, bqS_ex, sqS_nx, sqS_rt, sqS_bk, sqS_ct, sqS_ex, wpS_next, wpS_break, wpS_cont, wpS_retN, wpS_setT, stQ_some, wp_C, wp_call, wp_callv, bqF_ok, bqF_ex, wp_new, wp_newv, fqS_nx, fqS_rt, fqS_ex, wpS_for, wp_comp, wp_dVar, vQ_v, vQ_o, List.getElem?_cons_zero, List.getElem?_cons_succ, List.set_cons_zero, List.set_cons_succ, wp_d1, wp_k1, wp_d2, wp_k2, wp_k2b, wp_dT, wp_kT, wp_dTru, wp_kTru, wp_dNotT, wp_kNot, wp_dAndT, wp_kAnd, wp_dOrT, wp_kOr, wp_dAndV, wp_kAndV, wp_kAndVb, wp_dOrV, wp_kOrV, wp_kOrVb, wp_dNotV, wp_kNotV, wp_kNotVb, wp_dIf, wp_kIf, wp_dChain, wp_kCh, wp_kCh2, wp_kCh3, wp_aNil, wp_aCons, wp_kCons, wp_kCons2, wp_dTup, wp_kTup, wp_dLst, wp_kLst, wp_dN, wp_kN, wp_dLs, wp_kLs, wp_lDisp, wp_kDisp, wp_lRng, wp_kRng, wp_dItR, wp_kItR, wp_dItS, wp_kItS, wp_tTrue, wp_oNo, wp_oSome, wp_kSome, wp_dSl, wp_kSl, wp_kSl1, wp_kSl2, ws_ret, ws_kRet, ws_expr, ws_kExpr, ws_if, ws_kIfS, ws_set, ws_kSet, ws_setO, ws_kSetO, ws_kSetT, ws_setR, ws_kSetR0, ws_kSetR1, ws_kSetR2, items_t, items_ft, items_l, items_r, setAll, Bool.not_true, Bool.not_false, if_true, ite_true, ite_false, ↓reduceIte, Bool.false_eq_true, Int.reduceLT, Int.reduceLE, Nat.reduceLT, Nat.reduceLeDiff, Nat.reducePow, Int.reducePow, Int.reduceToNat, Int.reduceNeg, Int.reduceSub, Int.reduceAdd, and_self, and_true, true_and, decide_eq_true_eq, decide_true, decide_false, List.length_map, ixN_31, ixN_32, ixN_30, wipeE, restE, lcQ, Option.getD_some, add_i, add_t, add_l, sub_i, mul_i, mul_t, mul_l, fdiv_i, mod_i, pow_18, neg_i, lt_i, le_i, gt_i, ge_i, eq_i, ne_i, eq_b, len_t, len_ft, len_l, len_r, abs_i, int_i, list_t, list_ft, list_l, list_r, tuple_t, tuple_ft, tuple_l, isi_i, isi_b, isi_s, isi_t, isi_ft, isi_l, isi_r, isi_n, tru_b, tru_i, tru_t, tru_ft, tru_l, tru_n, isN_n, isN_b, isN_i, isN_s, isN_t, isN_l, ix_t, ix_ft, ix_l, ix_r, ix_ref, setS_ref, atI_0, atI_1, atI_2, Option.map_some, Option.map_none, kb0, kb1, kb2, kb3, kb4, kb5, kb6, kb7, kb8, kb9, kb10, kb11, kb12, kb13, kb14, kb15, kb16, kb17, kb18, kb19, kb20, kb21, kb22, kb23, kb24, kb25, kb26, kb27, kb28, kb29, sz0, szl0, sz1, szl1, sz2, szl2, sz3, szl3, sz4, szl4, sz5, szl5, sz6, szl6, sz7, szl7, sz8, szl8, sz9, szl9, sz10, szl10, sz11, szl11, sz12, szl12, sz13, szl13, sz14, szl14, sz15, szl15, sz16, szl16, sz17, szl17, sz18, szl18, sz19, szl19, sz20, szl20, sz21, szl21, sz22, szl22, sz23, szl23, sz24, szl24, sz25, szl25, sz26, szl26, sz27, szl27, sz28, szl28, sz29, szl29, sz30, szl30, sz31, szl31, sz32, szl32, sz33, szl33, sz34, szl34, sz35, szl35, sz36, szl36, sz37, szl37, sz38, szl38, sz39, szl39, sz40, szl40, hy]
      rw [wpS_app rfl]
      simp only [List.map, List.replicate, List.cons_append, List.nil_append, List.length_cons, List.length_nil, Nat.reduceAdd, bq_ok, bq_ex, wp_pure, wp_fail, wp_getS, oQ_some, oQ_ite, bqS_ok, bqS_ex, sqS_nx, sqS_rt, sqS_bk, sqS_ct, sqS_ex, wpS_next, wpS_break, wpS_cont, wpS_retN, wpS_setT, stQ_some, wp_C, wp_call, wp_callv, bqF_ok, bqF_ex, wp_new, wp_newv, fqS_nx, fqS_rt, fqS_ex, wpS_for, wp_comp, wp_dVar, vQ_v, vQ_o, List.getElem?_cons_zero, List.getElem?_cons_succ, List.set_cons_zero, List.set_cons_succ, wp_d1, wp_k1, wp_d2, wp_k2, wp_k2b, wp_dT, wp_kT, wp_dTru, wp_kTru, wp_dNotT, wp_kNot, wp_dAndT, wp_kAnd, wp_dOrT, wp_kOr, wp_dAndV, wp_kAndV, wp_kAndVb, wp_dOrV, wp_kOrV, wp_kOrVb, wp_dNotV, wp_kNotV, wp_kNotVb, wp_dIf, wp_kIf, wp_dChain, wp_kCh, wp_kCh2, wp_kCh3, wp_aNil, wp_aCons, wp_kCons, wp_kCons2, wp_dTup, wp_kTup, wp_dLst, wp_kLst, wp_dN, wp_kN, wp_dLs, wp_kLs, wp_lDisp, wp_kDisp, wp_lRng, wp_kRng, wp_dItR, wp_kItR, wp_dItS, wp_kItS, wp_tTrue, wp_oNo, wp_oSome, wp_kSome, wp_dSl, wp_kSl, wp_kSl1, wp_kSl2, ws_ret, ws_kRet, ws_expr, ws_kExpr, ws_if, ws_kIfS, ws_set, ws_kSet, ws_setO, ws_kSetO, ws_kSetT, ws_setR, ws_kSetR0, ws_kSetR1, ws_kSetR2, items_t, items_ft, items_l, items_r, setAll, Bool.not_true, Bool.not_false, if_true, ite_true, ite_false, ↓reduceIte, Bool.false_eq_true, Int.reduceLT, Int.reduceLE, Nat.reduceLT, Nat.reduceLeDiff, Nat.reducePow, Int.reducePow, Int.reduceToNat, Int.reduceNeg, Int.reduceSub, Int.reduceAdd, and_self, and_true, true_and, decide_eq_true_eq, decide_true, decide_false, List.length_map, ixN_31, ixN_32, ixN_30, wipeE, restE, lcQ, Option.getD_some, add_i, add_t, add_l, sub_i, mul_i, mul_t, mul_l, fdiv_i, mod_i, pow_18, neg_i, lt_i, le_i, gt_i, ge_i, eq_i, ne_i, eq_b, len_t, len_ft, len_l, len_r, abs_i, int_i, list_t, list_ft, list_l, list_r, tuple_t, tuple_ft, tuple_l, isi_i, isi_b, isi_s, isi_t, isi_ft, isi_l, isi_r, isi_n, tru_b, tru_i, tru_t, tru_ft, tru_l, tru_n, isN_n, isN_b, isN_i, isN_s, isN_t, isN_l, ix_t, ix_ft, ix_l, ix_r, ix_ref, setS_ref, atI_0, atI_1, atI_2, Option.map_some, Option.map_none, kb0, kb1, kb2, kb3, kb4, kb5, kb6, kb7, kb8, kb9, kb10, kb11, kb12, kb13, kb14, kb15, kb16, kb17, kb18, kb19, kb20, kb21, kb22, kb23, kb24, kb25, kb26, kb27, kb28, kb29, sz0, szl0, sz1, szl1, sz2, szl2, sz3, szl3, sz4, szl4, sz5, szl5, sz6, szl6, sz7, szl7, sz8, szl8, sz9, szl9, sz10, szl10, sz11, szl11, sz12, szl12, sz13, szl13, sz14, szl14, sz15, szl15, sz16, szl16, sz17, szl17, sz18, szl18, sz19, szl19, sz20, szl20, sz21, szl21, sz22, szl22, sz23, szl23, sz24, szl24, sz25, szl25, sz26, szl26, sz27, szl27, sz28, szl28, sz29, szl29, sz30, szl30, sz31, szl31, sz32, szl32, sz33, szl33, sz34, szl34, sz35, szl35, sz36, szl36, sz37, szl37, sz38, szl38, sz39, szl39, sz40, szl40]
      refine wp_pick h5 (by rw [strV_len]; decide) (by rw [strV_len]; decide) fun p S5 hp h6 => ?_
      obtain ⟨w2, m2, rfl, hm2⟩ := strV_mem hp
      simp only [List.map, List.replicate, List.cons_append, List.nil_append, List.length_cons, List.length_nil, Nat.reduceAdd, bq_ok, bq_ex, wp_pure, wp_fail, wp_getS, oQ_some, oQ_ite, bqS_ok, bqS_ex, sqS_nx, sqS_rt, sqS_bk, sqS_ct, sqS_ex, wpS_next, wpS_break, wpS_cont, wpS_retN, wpS_setT, stQ_some, wp_C, wp_call, wp_callv, bqF_ok, bqF_ex, wp_new, wp_newv, fqS_nx, fqS_rt, fqS_ex, wpS_for, wp_comp, wp_dVar, vQ_v, vQ_o, List.getElem?_cons_zero, List.getElem?_cons_succ, List.set_cons_zero, List.set_cons_succ, wp_d1, wp_k1, wp_d2, wp_k2, wp_k2b, wp_dT, wp_kT, wp_dTru, wp_kTru, wp_dNotT, wp_kNot, wp_dAndT, wp_kAnd, wp_dOrT, wp_kOr, wp_dAndV, wp_kAndV, wp_kAndVb, wp_dOrV, wp_kOrV, wp_kOrVb, wp_dNotV, wp_kNotV, wp_kNotVb, wp_dIf, wp_kIf, wp_dChain, wp_kCh, wp_kCh2, wp_kCh3, wp_aNil, wp_aCons, wp_kCons, wp_kCons2, wp_dTup, wp_kTup, wp_dLst, wp_kLst, wp_dN, wp_kN, wp_dLs, wp_kLs, wp_lDisp, wp_kDisp, wp_lRng, wp_kRng, wp_dItR, wp_kItR, wp_dItS, wp_kItS, wp_tTrue, wp_oNo, wp_oSome, wp_kSome, wp_dSl, wp_kSl, wp_kSl1, wp_kSl2, ws_ret, ws_kRet, ws_expr, ws_kExpr, ws_if, ws_kIfS, ws_set, ws_kSet, ws_setO, ws_kSetO, ws_kSetT, ws_setR, ws_kSetR0, ws_kSetR1, ws_kSetR2, items_t, items_ft, items_l, items_r, setAll, Bool.not_true, Bool.not_false, if_true, ite_true, ite_false, ↓reduceIte, Bool.false_eq_true, Int.reduceLT, Int.reduceLE, Nat.reduceLT, Nat.reduceLeDiff, Nat.reducePow, Int.reducePow, Int.reduceToNat, Int.reduceNeg, Int.reduceSub, Int.reduceAdd, and_self, and_true, true_and, decide_eq_true_eq, decide_true, decide_false, List.length_map, ixN_31, ixN_32, ixN_30, wipeE, restE, lcQ, Option.getD_some, add_i, add_t, add_l, sub_i, mul_i, mul_t, mul_l, fdiv_i, mod_i, pow_18, neg_i, lt_i, le_i, gt_i, ge_i, eq_i, ne_i, eq_b, len_t, len_ft, len_l, len_r, abs_i, int_i, list_t, list_ft, list_l, list_r, tuple_t, tuple_ft, tuple_l, isi_i, isi_b, isi_s, isi_t, isi_ft, isi_l, isi_r, isi_n, tru_b, tru_i, tru_t, tru_ft, tru_l, tru_n, isN_n, isN_b, isN_i, isN_s, isN_t, isN_l, ix_t, ix_ft, ix_l, ix_r, ix_ref, setS_ref, atI_0, atI_1, atI_2, Option.map_some, Option.map_none, kb0, kb1, kb2, kb3, kb4, kb5, kb6, kb7, kb8, kb9, kb10, kb11, kb12, kb13, kb14, kb15, kb16, kb17, kb18, kb19, kb20, kb21, kb22, kb23, kb24, kb25, kb26, kb27, kb28, kb29, sz0, szl0, sz1, szl1, sz2, szl2, sz3, szl3, sz4, szl4, sz5, szl5, sz6, szl6, sz7, szl7, sz8, szl8, sz9, szl9, sz10, szl10, sz11, szl11, sz12, szl12, sz13, szl13, sz14, szl14, sz15, szl15, sz16, szl16, sz17, szl17, sz18, szl18, sz19, szl19, sz20, szl20, sz21, szl21, sz22, szl22, sz23, szl23, sz24, szl24, sz25, szl25, sz26, szl26, sz27, szl27, sz28, szl28, sz29, szl29, sz30, szl30, sz31, szl31, sz32, szl32, sz33, szl33, sz34, szl34, sz35, szl35, sz36, szl36, sz37, szl37, sz38, szl38, sz39, szl39, sz40, szl40]
      rw [wpS_appv rfl (by rw [List.length_map, sizeLine_eq]; omega)]
      refine .inr ⟨W.take a, W.drop a ++ [w2], w, m, S5, ?_, hG, hm, fun t ht => ?_, ?_, h6⟩
      · rw [l9]
        have : (W.take a ++ w :: W.drop a).map wV ++ [wV w2] = (W.take a ++ w :: (W.drop a ++ [w2])).map wV := by simp
        rw [← this]
        rfl
      · rcases List.mem_append.mp ht with ht | ht
        · exact hT t ht
        · rw [List.mem_singleton.mp ht]; exact hm2.A
      · rw [List.length_append, List.length_cons, List.length_append, List.length_singleton, List.length_take, List.length_drop]; omega
    · simp only [List.map, List.replicate, List.cons_append, List.nil_append, List.length_cons, List.length_nil, Nat.reduceAdd, bq_ok, bq_ex, wp_pure, wp_fail, wp_getS, oQ_some, oQ_ite, bqS_ok, bqS_ex, sqS_nx, sqS_rt, sqS_bk, sqS_ct, sqS_ex, wpS_next, wpS_break, wpS_cont, wpS_retN, wpS_setT, stQ_some, wp_C, wp_call, wp_callv, bqF_ok, bqF_ex, wp_new, wp_newv, fqS_nx, fqS_rt, fqS_ex, wpS_for, wp_comp, wp_dVar, vQ_v, vQ_o, List.getElem?_cons_zero, List.getElem?_cons_succ, List.set_cons_zero, List.set_cons_succ, wp_d1, wp_k1, wp_d2, wp_k2, wp_k2b, wp_dT, wp_kT, wp_dTru, wp_kTru, wp_dNotT, wp_kNot, wp_dAndT, wp_kAnd, wp_dOrT, wp_kOr, wp_dAndV, wp_kAndV, wp_kAndVb, wp_dOrV, wp_kOrV, wp_kOrVb, wp_dNotV, wp_kNotV, wp_kNotVb, wp_dIf, wp_kIf, wp_dChain, wp_kCh, wp_kCh2, wp_kCh3, wp_aNil, wp_aCons, wp_kCons, wp_kCons2, wp_dTup, wp_kTup, wp_dLst, wp_kLst, wp_dN, wp_kN, wp_dLs, wp_kLs, wp_lDisp, wp_kDisp, wp_lRng, wp_kRng, wp_dItR, wp_kItR, wp_dItS, wp_kItS, wp_tTrue, wp_oNo, wp_oSome, wp_kSome, wp_dSl, wp_kSl, wp_kSl1, wp_kSl2, ws_ret, ws_kRet, ws_expr, ws_kExpr, ws_if, ws_kIfS, ws_set, ws_kSet, ws_setO, ws_kSetO, ws_kSetT, ws_setR, ws_kSetR0, ws_kSetR1, ws_kSetR2, items_t, items_ft, items_l, items_r, setAll, Bool.not_true, Bool.not_false, if_true, ite_true, ite_false, ↓reduceIte, Bool.false_eq_true, Int.reduceLT, Int.reduceLE, Nat.reduceLT, Nat.reduceLeDiff, Nat.reducePow, Int.reducePow, Int.reduceToNat, Int.reduceNeg, Int.reduceSub, Int.reduceAdd, and_self, and_true, true_and, decide_eq_true_eq, decide_true, decide_false, List.length_map, ixN_31, ixN_32, ixN_30, wipeE, restE, lcQ, Option.getD_some, add_i, add_t, add_l, sub_i, mul_i, mul_t, mul_l, fdiv_i, mod_i, pow_18, neg_i, lt_i, le_i, gt_i, ge_i, eq_i, ne_i, eq_b, len_t, len_ft, len_l, len_r, abs_i, int_i, list_t, list_ft, list_l, list_r, tuple_t, tuple_ft, tuple_l, isi_i, isi_b, isi_s, isi_t, isi_ft, isi_l, isi_r, isi_n, tru_b, tru_i, tru_t, tru_ft, tru_l, tru_n, isN_n, isN_b, isN_i, isN_s, isN_t, isN_l, ix_t, ix_ft, ix_l, ix_r, ix_ref, setS_ref, atI_0, atI_1, atI_2, Option.map_some, Option.map_none, kb0, kb1, kb2, kb3, kb4, kb5, kb6, kb7, kb8, kb9, kb10, kb11, kb12, kb13, kb14, kb15, kb16, kb17, kb18, kb19, kb20, kb21, kb22, kb23, kb24, kb25, kb26, kb27, kb28, kb29, sz0, szl0, sz1, szl1, sz2, szl2, sz3, szl3, sz4, szl4, sz5, szl5, sz6, szl6, sz7, szl7, sz8, szl8, sz9, szl9, sz10, szl10, sz11, szl11, sz12, szl12, sz13, szl13, sz14, szl14, sz15, szl15, sz16, szl16, sz17, szl17, sz18, szl18, sz19, szl19, sz20, szl20, sz21, szl21, sz22, szl22, sz23, szl23, sz24, szl24, sz25, szl25, sz26, szl26, sz27, szl27, sz28, szl28, sz29, szl29, sz30, szl30, sz31, szl31, sz32, szl32, sz33, szl33, sz34, szl34, sz35, szl35, sz36, szl36, sz37, szl37, sz38, szl38, sz39, szl39, sz40, szl40, hy]
      refine .inr ⟨W.take a, W.drop a, w, m, S4, ?_, hG, hm, hT, by omega, h5⟩
      rw [l9]
  · simp only [List.map, List.replicate, List.cons_append, List.nil_append, List.length_cons, List.length_nil, Nat.reduceAdd, bq_ok, bq_ex, wp_pure, wp_fail, wp_getS, oQ_some, oQ_ite, bqS_ok, bqS_ex, sqS_nx, sqS_rt, sqS_bk, sqS_ct, sqS_ex, wpS_next, wpS_break, wpS_cont, wpS_retN, wpS_setT, stQ_some, wp_C, wp_call, wp_callv, bqF_ok, bqF_ex, wp_new, wp_newv, fqS_nx, fqS_rt, fqS_ex, wpS_for, wp_comp, wp_dVar, vQ_v, vQ_o, List.getElem?_cons_zero, List.getElem?_cons_succ, List.set_cons_zero, List.set_cons_succ, wp_d1, wp_k1, wp_d2, wp_k2, wp_k2b, wp_dT, wp_kT, wp_dTru, wp_kTru, wp_dNotT, wp_kNot, wp_dAndT, wp_kAnd, wp_dOrT, wp_kOr, wp_dAndV, wp_kAndV, wp_kAndVb, wp_dOrV, wp_kOrV, wp_kOrVb, wp_dNotV, wp_kNotV, wp_kNotVb, wp_dIf, wp_kIf, wp_dChain, wp_kCh, wp_kCh2, wp_kCh3, wp_aNil, wp_aCons, wp_kCons, wp_kCons2, wp_dTup, wp_kTup, wp_dLst, wp_kLst, wp_dN, wp_kN, wp_dLs, wp_kLs, wp_lDisp, wp_kDisp, wp_lRng, wp_kRng, wp_dItR, wp_kItR, wp_dItS, wp_kItS, wp_tTrue, wp_oNo, wp_oSome, wp_kSome, wp_dSl, wp_kSl, wp_kSl1, wp_kSl2, ws_ret, ws_kRet, ws_expr, ws_kExpr, ws_if, ws_kIfS, ws_set, ws_kSet, ws_setO, ws_kSetO, ws_kSetT, ws_setR, ws_kSetR0, ws_kSetR1, ws_kSetR2, items_t, items_ft, items_l, items_r, setAll, Bool.not_true, Bool.not_false, if_true, ite_true, ite_false, ↓reduceIte, Bool.false_eq_true, Int.reduceLT, Int.reduceLE, Nat.reduceLT, Nat.reduceLeDiff, Nat.reducePow, Int.reducePow, Int.reduceToNat, Int.reduceNeg, Int.reduceSub, Int.reduceAdd, and_self, and_true, true_and, decide_eq_true_eq, decide_true, decide_false, List.length_map, ixN_31, ixN_32, ixN_30, wipeE, restE, lcQ, Option.getD_some, add_i, add_t, add_l, sub_i, mul_i, mul_t, mul_l, fdiv_i, mod_i, pow_18, neg_i, lt_i, le_i, gt_i, ge_i, eq_i, ne_i, eq_b, len_t, len_ft, len_l, len_r, abs_i, int_i, list_t, list_ft, list_l, list_r, tuple_t, tuple_ft, tuple_l, isi_i, isi_b, isi_s, isi_t, isi_ft, isi_l, isi_r, isi_n, tru_b, tru_i, tru_t, tru_ft, tru_l, tru_n, isN_n, isN_b, isN_i, isN_s, isN_t, isN_l, ix_t, ix_ft, ix_l, ix_r, ix_ref, setS_ref, atI_0, atI_1, atI_2, Option.map_some, Option.map_none, kb0, kb1, kb2, kb3, kb4, kb5, kb6, kb7, kb8, kb9, kb10, kb11, kb12, kb13, kb14, kb15, kb16, kb17, kb18, kb19, kb20, kb21, kb22, kb23, kb24, kb25, kb26, kb27, kb28, kb29, sz0, szl0, sz1, szl1, sz2, szl2, sz3, szl3, sz4, szl4, sz5, szl5, sz6, szl6, sz7, szl7, sz8, szl8, sz9, szl9, sz10, szl10, sz11, szl11, sz12, szl12, sz13, szl13, sz14, szl14, sz15, szl15, sz16, szl16, sz17, szl17, sz18, szl18, sz19, szl19, sz20, szl20, sz21, szl21, sz22, szl22, sz23, szl23, sz24, szl24, sz25, szl25, sz26, szl26, sz27, szl27, sz28, szl28, sz29, szl29, sz30, szl30, sz31, szl31, sz32, szl32, sz33, szl33, sz34, szl34, sz35, szl35, sz36, szl36, sz37, szl37, sz38, szl38, sz39, szl39, sz40, szl40, hx]
    exact .inl ⟨S1, rfl, h2⟩
theorem pl_m {w : List Nat} {m : Str} (h : StrM w m) : plP (.str m) = true := by
  rcases h with ⟨_, rfl⟩ | ⟨_, rfl⟩ <;> kernel_rfl
theorem map_split {P : List (Nat × List Nat)} {G T : List (List Nat)} {w : List Nat} (h : P.map Prod.snd = G ++ w :: T) : ∃ L1 b L2, P = L1 ++ (b, w) :: L2 ∧ L1.map Prod.snd = G := by
  obtain ⟨L1, L', rfl, h1, h2⟩ := List.map_eq_append_iff.mp h
  obtain ⟨x, L2, rfl, h3, h4⟩ := List.map_eq_cons_iff.mp h2
  exact ⟨L1, x.1, L2, by rw [← h3], h1⟩
theorem k65_bad {G1 T : List (List Nat)} {w : List Nat} {m : Str} (h : SInv R S) (hG : ∀ g ∈ G1, g ∈ wordsG) (hm : StrM w m) (hT : ∀ t ∈ T, t ∈ wordsA) (hl : (G1 ++ w :: T).length ≤ 22) :
    wpS d_law_k65_b4 (E65 A (.ol ((G1 ++ w :: T).map wV)) (.v (.str m)) (.v (.lst strV)) (.v (.int G1.length)) (.v (wV w)) .un .un .un .un .un .un) S (fqS QT65) := by
  unfold d_law_k65_b4; rw [wpS_seq]; unfold d_law_k65_s4
  generalize hW : G1 ++ w :: T = W at *
  have hA : ∀ x ∈ W, x ∈ wordsA := fun x hx => by
    rw [← hW] at hx
    rcases List.mem_append.mp hx with hx | hx
    · exact A_G (hG x hx)
    · rcases List.mem_cons.mp hx with rfl | hx
      · exact hm.A
      · exact hT x hx
  simp only [List.map, List.replicate, List.cons_append, List.nil_append, List.length_cons, List.length_nil, Nat.reduceAdd, bq_ok, bq_ex, wp_pure, wp_fail, wp_getS, oQ_some, oQ_ite, bqS_ok, bqS_ex, sqS_nx, sqS_rt, sqS_bk, sqS_ct, sqS_ex, wpS_next, wpS_break, wpS_cont, wpS_retN, wpS_setT, stQ_some, wp_C, wp_call, wp_callv, bqF_ok, bqF_ex, wp_new, wp_newv, fqS_nx, fqS_rt, fqS_ex, wpS_for, wp_comp, wp_dVar, vQ_v, vQ_o, List.getElem?_cons_zero, List.getElem?_cons_succ, List.set_cons_zero, List.set_cons_succ, wp_d1, wp_k1, wp_d2, wp_k2, wp_k2b, wp_dT, wp_kT, wp_dTru, wp_kTru, wp_dNotT, wp_kNot, wp_dAndT, wp_kAnd, wp_dOrT, wp_kOr, wp_dAndV, wp_kAndV, wp_kAndVb, wp_dOrV, wp_kOrV, wp_kOrVb, wp_dNotV, wp_kNotV, wp_kNotVb, wp_dIf, wp_kIf, wp_dChain, wp_kCh, wp_kCh2, wp_kCh3, wp_aNil, wp_aCons, wp_kCons, wp_kCons2, wp_dTup, wp_kTup, wp_dLst, wp_kLst, wp_dN, wp_kN, wp_dLs, wp_kLs, wp_lDisp, wp_kDisp, wp_lRng, wp_kRng, wp_dItR, wp_kItR, wp_dItS, wp_kItS, wp_tTrue, wp_oNo, wp_oSome, wp_kSome, wp_dSl, wp_kSl, wp_kSl1, wp_kSl2, ws_ret, ws_kRet, ws_expr, ws_kExpr, ws_if, ws_kIfS, ws_set, ws_kSet, ws_setO, ws_kSetO, ws_kSetT, ws_setR, ws_kSetR0, ws_kSetR1, ws_kSetR2, items_t, items_ft, items_l, items_r, setAll, Bool.not_true, Bool.not_false, if_true, ite_true, ite_false, ↓reduceIte, Bool.false_eq_true, Int.reduceLT, Int.reduceLE, Nat.reduceLT, Nat.reduceLeDiff, Nat.reducePow, Int.reducePow, Int.reduceToNat, Int.reduceNeg, Int.reduceSub, Int.reduceAdd, and_self, and_true, true_and, decide_eq_true_eq, decide_true, decide_false, List.length_map, ixN_31, ixN_32, ixN_30, wipeE, restE, lcQ, Option.getD_some, add_i, add_t, add_l, sub_i, mul_i, mul_t, mul_l, fdiv_i, mod_i, pow_18, neg_i, lt_i, le_i, gt_i, ge_i, eq_i, ne_i, eq_b, len_t, len_ft, len_l, len_r, abs_i, int_i, list_t, list_ft, list_l, list_r, tuple_t, tuple_ft, tuple_l, isi_i, isi_b, isi_s, isi_t, isi_ft, isi_l, isi_r, isi_n, tru_b, tru_i, tru_t, tru_ft, tru_l, tru_n, isN_n, isN_b, isN_i, isN_s, isN_t, isN_l, ix_t, ix_ft, ix_l, ix_r, ix_ref, setS_ref, atI_0, atI_1, atI_2, Option.map_some, Option.map_none, kb0, kb1, kb2, kb3, kb4, kb5, kb6, kb7, kb8, kb9, kb10, kb11, kb12, kb13, kb14, kb15, kb16, kb17, kb18, kb19, kb20, kb21, kb22, kb23, kb24, kb25, kb26, kb27, kb28, kb29, sz0, szl0, sz1, szl1, sz2, szl2, sz3, szl3, sz4, szl4, sz5, szl5, sz6, szl6, sz7, szl7, sz8, szl8, sz9, szl9, sz10, szl10, sz11, szl11, sz12, szl12, sz13, szl13, sz14, szl14, sz15, szl15, sz16, szl16, sz17, szl17, sz18, szl18, sz19, szl19, sz20, szl20, sz21, szl21, sz22, szl22, sz23, szl23, sz24, szl24, sz25, szl25, sz26, szl26, sz27, szl27, sz28, szl28, sz29, szl29, sz30, szl30, sz31, szl31, sz32, szl32, sz33, szl33, sz34, szl34, sz35, szl35, sz36, szl36, sz37, szl37, sz38, szl38, sz39, szl39, sz40, szl40]
  refine wp_laid h hA (by omega) fun P k S1 hP g hA2 hk hs => ?_
  simp only [List.map, List.replicate, List.cons_append, List.nil_append, List.length_cons, List.length_nil, Nat.reduceAdd, bq_ok, bq_ex, wp_pure, wp_fail, wp_getS, oQ_some, oQ_ite, bqS_ok, bqS_ex, sqS_nx, sqS_rt, sqS_bk, sqS_ct, sqS_ex, wpS_next, wpS_break, wpS_cont, wpS_retN, wpS_setT, stQ_some, wp_C, wp_call, wp_callv, bqF_ok, bqF_ex, wp_new, wp_newv, fqS_nx, fqS_rt, fqS_ex, wpS_for, wp_comp, wp_dVar, vQ_v, vQ_o, List.getElem?_cons_zero, List.getElem?_cons_succ, List.set_cons_zero, List.set_cons_succ, wp_d1, wp_k1, wp_d2, wp_k2, wp_k2b, wp_dT, wp_kT, wp_dTru, wp_kTru, wp_dNotT, wp_kNot, wp_dAndT, wp_kAnd, wp_dOrT, wp_kOr, wp_dAndV, wp_kAndV, wp_kAndVb, wp_dOrV, wp_kOrV, wp_kOrVb, wp_dNotV, wp_kNotV, wp_kNotVb, wp_dIf, wp_kIf, wp_dChain, wp_kCh, wp_kCh2, wp_kCh3, wp_aNil, wp_aCons, wp_kCons, wp_kCons2, wp_dTup, wp_kTup, wp_dLst, wp_kLst, wp_dN, wp_kN, wp_dLs, wp_kLs, wp_lDisp, wp_kDisp, wp_lRng, wp_kRng, wp_dItR, wp_kItR, wp_dItS, wp_kItS, wp_tTrue, wp_oNo, wp_oSome, wp_kSome, wp_dSl, wp_kSl, wp_kSl1, wp_kSl2, ws_ret, ws_kRet, ws_expr, ws_kExpr, ws_if, ws_kIfS, ws_set, ws_kSet, ws_setO, ws_kSetO, ws_kSetT, ws_setR, ws_kSetR0, ws_kSetR1, ws_kSetR2, items_t, items_ft, items_l, items_r, setAll, Bool.not_true, Bool.not_false, if_true, ite_true, ite_false, ↓reduceIte, Bool.false_eq_true, Int.reduceLT, Int.reduceLE, Nat.reduceLT, Nat.reduceLeDiff, Nat.reducePow, Int.reducePow, Int.reduceToNat, Int.reduceNeg, Int.reduceSub, Int.reduceAdd, and_self, and_true, true_and, decide_eq_true_eq, decide_true, decide_false, List.length_map, ixN_31, ixN_32, ixN_30, wipeE, restE, lcQ, Option.getD_some, add_i, add_t, add_l, sub_i, mul_i, mul_t, mul_l, fdiv_i, mod_i, pow_18, neg_i, lt_i, le_i, gt_i, ge_i, eq_i, ne_i, eq_b, len_t, len_ft, len_l, len_r, abs_i, int_i, list_t, list_ft, list_l, list_r, tuple_t, tuple_ft, tuple_l, isi_i, isi_b, isi_s, isi_t, isi_ft, isi_l, isi_r, isi_n, tru_b, tru_i, tru_t, tru_ft, tru_l, tru_n, isN_n, isN_b, isN_i, isN_s, isN_t, isN_l, ix_t, ix_ft, ix_l, ix_r, ix_ref, setS_ref, atI_0, atI_1, atI_2, Option.map_some, Option.map_none, kb0, kb1, kb2, kb3, kb4, kb5, kb6, kb7, kb8, kb9, kb10, kb11, kb12, kb13, kb14, kb15, kb16, kb17, kb18, kb19, kb20, kb21, kb22, kb23, kb24, kb25, kb26, kb27, kb28, kb29, sz0, szl0, sz1, szl1, sz2, szl2, sz3, szl3, sz4, szl4, sz5, szl5, sz6, szl6, sz7, szl7, sz8, szl8, sz9, szl9, sz10, szl10, sz11, szl11, sz12, szl12, sz13, szl13, sz14, szl14, sz15, szl15, sz16, szl16, sz17, szl17, sz18, szl18, sz19, szl19, sz20, szl20, sz21, szl21, sz22, szl22, sz23, szl23, sz24, szl24, sz25, szl25, sz26, szl26, sz27, szl27, sz28, szl28, sz29, szl29, sz30, szl30, sz31, szl31, sz32, szl32, sz33, szl33, sz34, szl34, sz35, szl35, sz36, szl36, sz37, szl37, sz38, szl38, sz39, szl39, sz40, szl40]
  unfold d_law_k65_b5; rw [wpS_seq]; unfold d_law_k65_s5
  rw [← hW] at hP
  obtain ⟨L1, b, L2, rfl, hL1⟩ := map_split hP
  have en : ∀ S : Stor, notNonP S (.str m) .non = some (.bl true) := fun _ => rfl
  have hPl : (L1 ++ (b, w) :: L2).length = W.length := by rw [← hW, ← hP, List.length_map]
  have hGl : G1.length = L1.length := by rw [← hL1, List.length_map]
  simp only [List.map, List.replicate, List.cons_append, List.nil_append, List.length_cons, List.length_nil, Nat.reduceAdd, bq_ok, bq_ex, wp_pure, wp_fail, wp_getS, oQ_some, oQ_ite, bqS_ok, bqS_ex, sqS_nx, sqS_rt, sqS_bk, sqS_ct, sqS_ex, wpS_next, wpS_break, wpS_cont, wpS_retN, wpS_setT, stQ_some, wp_C, wp_call, wp_callv, bqF_ok, bqF_ex, wp_new, wp_newv, fqS_nx, fqS_rt, fqS_ex, wpS_for, wp_comp, wp_dVar, vQ_v, vQ_o, List.getElem?_cons_zero, List.getElem?_cons_succ, List.set_cons_zero, List.set_cons_succ, wp_d1, wp_k1, wp_d2, wp_k2, wp_k2b, wp_dT, wp_kT, wp_dTru, wp_kTru, wp_dNotT, wp_kNot, wp_dAndT, wp_kAnd, wp_dOrT, wp_kOr, wp_dAndV, wp_kAndV, wp_kAndVb, wp_dOrV, wp_kOrV, wp_kOrVb, wp_dNotV, wp_kNotV, wp_kNotVb, wp_dIf, wp_kIf, wp_dChain, wp_kCh, wp_kCh2, wp_kCh3, wp_aNil, wp_aCons, wp_kCons, wp_kCons2, wp_dTup, wp_kTup, wp_dLst, wp_kLst, wp_dN, wp_kN, wp_dLs, wp_kLs, wp_lDisp, wp_kDisp, wp_lRng, wp_kRng, wp_dItR, wp_kItR, wp_dItS, wp_kItS, wp_tTrue, wp_oNo, wp_oSome, wp_kSome, wp_dSl, wp_kSl, wp_kSl1, wp_kSl2, ws_ret, ws_kRet, ws_expr, ws_kExpr, ws_if, ws_kIfS, ws_set, ws_kSet, ws_setO, ws_kSetO, ws_kSetT, ws_setR, ws_kSetR0, ws_kSetR1, ws_kSetR2, items_t, items_ft, items_l, items_r, setAll, Bool.not_true, Bool.not_false, if_true, ite_true, ite_false, ↓reduceIte, Bool.false_eq_true, Int.reduceLT, Int.reduceLE, Nat.reduceLT, Nat.reduceLeDiff, Nat.reducePow, Int.reducePow, Int.reduceToNat, Int.reduceNeg, Int.reduceSub, Int.reduceAdd, and_self, and_true, true_and, decide_eq_true_eq, decide_true, decide_false, List.length_map, ixN_31, ixN_32, ixN_30, wipeE, restE, lcQ, Option.getD_some, add_i, add_t, add_l, sub_i, mul_i, mul_t, mul_l, fdiv_i, mod_i, pow_18, neg_i, lt_i, le_i, gt_i, ge_i, eq_i, ne_i, eq_b, len_t, len_ft, len_l, len_r, abs_i, int_i, list_t, list_ft, list_l, list_r, tuple_t, tuple_ft, tuple_l, isi_i, isi_b, isi_s, isi_t, isi_ft, isi_l, isi_r, isi_n, tru_b, tru_i, tru_t, tru_ft, tru_l, tru_n, isN_n, isN_b, isN_i, isN_s, isN_t, isN_l, ix_t, ix_ft, ix_l, ix_r, ix_ref, setS_ref, atI_0, atI_1, atI_2, Option.map_some, Option.map_none, kb0, kb1, kb2, kb3, kb4, kb5, kb6, kb7, kb8, kb9, kb10, kb11, kb12, kb13, kb14, kb15, kb16, kb17, kb18, kb19, kb20, kb21, kb22, kb23, kb24, kb25, kb26, kb27, kb28, kb29, sz0, szl0, sz1, szl1, sz2, szl2, sz3, szl3, sz4, szl4, sz5, szl5, sz6, szl6, sz7, szl7, sz8, szl8, sz9, szl9, sz10, szl10, sz11, szl11, sz12, szl12, sz13, szl13, sz14, szl14, sz15, szl15, sz16, szl16, sz17, szl17, sz18, szl18, sz19, szl19, sz20, szl20, sz21, szl21, sz22, szl22, sz23, szl23, sz24, szl24, sz25, szl25, sz26, szl26, sz27, szl27, sz28, szl28, sz29, szl29, sz30, szl30, sz31, szl31, sz32, szl32, sz33, szl33, sz34, szl34, sz35, szl35, sz36, szl36, sz37, szl37, sz38, szl38, sz39, szl39, sz40, szl40, en]
  have hG1 : ∀ x ∈ L1, x.2 ∈ wordsG := fun x hx => hG _ (by rw [← hL1]; exact List.mem_map_of_mem hx)
  have hl25 : (L1 ++ (b, w) :: L2).length ≤ 25 := by omega
  refine (told_bad (S := S1) g hA2 hG1 hm hl25 hk (fun S2 => ?_) :)
  have ei : atI (plc 0 (L1 ++ (b, w) :: L2) ++ [PV.int (((lay (L1 ++ (b, w) :: L2) ++ List.replicate k 32).length : Nat) + 1)]) (G1.length : Int) = some (.int ((lay L1).length + b + 1 : Nat)) := by
    have e1 : plc 0 (L1 ++ (b, w) :: L2) = plc 0 L1 ++ .int ((lay L1).length + b + 1 : Nat) :: plc ((lay L1).length + b + w.length) L2 := by
      rw [plc_app, Nat.zero_add]; rfl
    have e2 : (plc 0 L1).length = G1.length := by rw [plc_len, hGl]
    rw [e1, List.append_assoc, List.cons_append, atI_in (by omega) (by rw [List.length_append, List.length_cons]; omega)]
    congr 1
    have : ∀ (X Y : List PV) (p : PV) (n : Nat) (hn : n < (X ++ p :: Y).length), X.length = n → (X ++ p :: Y)[n] = p := by
      intro X Y p n hn e; subst e; simp
    exact this _ _ _ _ _ (by omega)
  simp only [List.replicate, List.nil_append, List.length_cons, List.length_nil, Nat.reduceAdd, bq_ok, bq_ex, wp_pure, wp_fail, wp_getS, oQ_some, oQ_ite, bqS_ok, bqS_ex, sqS_nx, sqS_rt, sqS_bk, sqS_ct, sqS_ex, wpS_next, wpS_break, wpS_cont, wpS_retN, wpS_setT, stQ_some, wp_C, wp_call, wp_callv, bqF_ok, bqF_ex, wp_new, wp_newv, fqS_nx, fqS_rt, fqS_ex, wpS_for, wp_comp, wp_dVar, vQ_v, vQ_o, List.getElem?_cons_zero, List.getElem?_cons_succ, List.set_cons_zero, List.set_cons_succ, wp_d1, wp_k1, wp_d2, wp_k2, wp_k2b, wp_dT, wp_kT, wp_dTru, wp_kTru, wp_dNotT, wp_kNot, wp_dAndT, wp_kAnd, wp_dOrT, wp_kOr, wp_dAndV, wp_kAndV, wp_kAndVb, wp_dOrV, wp_kOrV, wp_kOrVb, wp_dNotV, wp_kNotV, wp_kNotVb, wp_dIf, wp_kIf, wp_dChain, wp_kCh, wp_kCh2, wp_kCh3, wp_aNil, wp_aCons, wp_kCons, wp_kCons2, wp_dTup, wp_kTup, wp_dLst, wp_kLst, wp_dN, wp_kN, wp_dLs, wp_kLs, wp_lDisp, wp_kDisp, wp_lRng, wp_kRng, wp_dItR, wp_kItR, wp_dItS, wp_kItS, wp_tTrue, wp_oNo, wp_oSome, wp_kSome, wp_dSl, wp_kSl, wp_kSl1, wp_kSl2, ws_ret, ws_kRet, ws_expr, ws_kExpr, ws_if, ws_kIfS, ws_set, ws_kSet, ws_setO, ws_kSetO, ws_kSetT, ws_setR, ws_kSetR0, ws_kSetR1, ws_kSetR2, items_t, items_ft, items_l, items_r, setAll, Bool.not_true, Bool.not_false, if_true, ite_true, ite_false, ↓reduceIte, Bool.false_eq_true, Int.reduceLT, Int.reduceLE, Nat.reduceLT, Nat.reduceLeDiff, Nat.reducePow, Int.reducePow, Int.reduceToNat, Int.reduceNeg, Int.reduceSub, Int.reduceAdd, and_self, and_true, true_and, decide_eq_true_eq, decide_true, decide_false, List.length_map, ixN_31, ixN_32, ixN_30, wipeE, restE, lcQ, Option.getD_some, add_i, add_t, add_l, sub_i, mul_i, mul_t, mul_l, fdiv_i, mod_i, pow_18, neg_i, lt_i, le_i, gt_i, ge_i, eq_i, ne_i, eq_b, len_t, len_ft, len_l, len_r, abs_i, int_i, list_t, list_ft, list_l, list_r, tuple_t, tuple_ft, tuple_l, isi_i, isi_b, isi_s, isi_t, isi_ft, isi_l, isi_r, isi_n, tru_b, tru_i, tru_t, tru_ft, tru_l, tru_n, isN_n, isN_b, isN_i, isN_s, isN_t, isN_l, ix_t, ix_ft, ix_l, ix_r, ix_ref, setS_ref, atI_0, atI_1, atI_2, Option.map_some, Option.map_none, kb0, kb1, kb2, kb3, kb4, kb5, kb6, kb7, kb8, kb9, kb10, kb11, kb12, kb13, kb14, kb15, kb16, kb17, kb18, kb19, kb20, kb21, kb22, kb23, kb24, kb25, kb26, kb27, kb28, kb29, sz0, szl0, sz1, szl1, sz2, szl2, sz3, szl3, sz4, szl4, sz5, szl5, sz6, szl6, sz7, szl7, sz8, szl8, sz9, szl9, sz10, szl10, sz11, szl11, sz12, szl12, sz13, szl13, sz14, szl14, sz15, szl15, sz16, szl16, sz17, szl17, sz18, szl18, sz19, szl19, sz20, szl20, sz21, szl21, sz22, szl22, sz23, szl23, sz24, szl24, sz25, szl25, sz26, szl26, sz27, szl27, sz28, szl28, sz29, szl29, sz30, szl30, sz31, szl31, sz32, szl32, sz33, szl33, sz34, szl34, sz35, szl35, sz36, szl36, sz37, szl37, sz38, szl38, sz39, szl39, sz40, szl40, ei]
  have hp : ∀ i : Int, plP (.tup [.int i, .str m]) = true := fun i => by
    unfold plP plsP plsP plsP
    rw [pl_m hm]; rfl
  have hz : ∀ i : Int, szP (.tup [.int i, .str m]) = true := fun i => rfl
  have hd : ∀ i : Int, dpP (.tup [.int i, .str m]) ≤ 5 := fun i => by
    have : dpP (.tup [.int i, .str m]) = 1 := rfl
    omega
  refine (wp_equal_self (S := S2) (hp _) (hz _) (hd _) ?_ :)
  simp only [List.map, List.replicate, List.cons_append, List.nil_append, List.length_cons, List.length_nil, Nat.reduceAdd, bq_ok, bq_ex, wp_pure, wp_fail, wp_getS, oQ_some, oQ_ite, bqS_ok, bqS_ex, sqS_nx, sqS_rt, sqS_bk, sqS_ct, sqS_ex, wpS_next, wpS_break, wpS_cont, wpS_retN, wpS_setT, stQ_some, wp_C, wp_call, wp_callv, bqF_ok, bqF_ex, wp_new, wp_newv, fqS_nx, fqS_rt, fqS_ex, wpS_for, wp_comp, wp_dVar, vQ_v, vQ_o, List.getElem?_cons_zero, List.getElem?_cons_succ, List.set_cons_zero, List.set_cons_succ, wp_d1, wp_k1, wp_d2, wp_k2, wp_k2b, wp_dT, wp_kT, wp_dTru, wp_kTru, wp_dNotT, wp_kNot, wp_dAndT, wp_kAnd, wp_dOrT, wp_kOr, wp_dAndV, wp_kAndV, wp_kAndVb, wp_dOrV, wp_kOrV, wp_kOrVb, wp_dNotV, wp_kNotV, wp_kNotVb, wp_dIf, wp_kIf, wp_dChain, wp_kCh, wp_kCh2, wp_kCh3, wp_aNil, wp_aCons, wp_kCons, wp_kCons2, wp_dTup, wp_kTup, wp_dLst, wp_kLst, wp_dN, wp_kN, wp_dLs, wp_kLs, wp_lDisp, wp_kDisp, wp_lRng, wp_kRng, wp_dItR, wp_kItR, wp_dItS, wp_kItS, wp_tTrue, wp_oNo, wp_oSome, wp_kSome, wp_dSl, wp_kSl, wp_kSl1, wp_kSl2, ws_ret, ws_kRet, ws_expr, ws_kExpr, ws_if, ws_kIfS, ws_set, ws_kSet, ws_setO, ws_kSetO, ws_kSetT, ws_setR, ws_kSetR0, ws_kSetR1, ws_kSetR2, items_t, items_ft, items_l, items_r, setAll, Bool.not_true, Bool.not_false, if_true, ite_true, ite_false, ↓reduceIte, Bool.false_eq_true, Int.reduceLT, Int.reduceLE, Nat.reduceLT, Nat.reduceLeDiff, Nat.reducePow, Int.reducePow, Int.reduceToNat, Int.reduceNeg, Int.reduceSub, Int.reduceAdd, and_self, and_true, true_and, decide_eq_true_eq, decide_true, decide_false, List.length_map, ixN_31, ixN_32, ixN_30, wipeE, restE, lcQ, Option.getD_some, add_i, add_t, add_l, sub_i, mul_i, mul_t, mul_l, fdiv_i, mod_i, pow_18, neg_i, lt_i, le_i, gt_i, ge_i, eq_i, ne_i, eq_b, len_t, len_ft, len_l, len_r, abs_i, int_i, list_t, list_ft, list_l, list_r, tuple_t, tuple_ft, tuple_l, isi_i, isi_b, isi_s, isi_t, isi_ft, isi_l, isi_r, isi_n, tru_b, tru_i, tru_t, tru_ft, tru_l, tru_n, isN_n, isN_b, isN_i, isN_s, isN_t, isN_l, ix_t, ix_ft, ix_l, ix_r, ix_ref, setS_ref, atI_0, atI_1, atI_2, Option.map_some, Option.map_none, kb0, kb1, kb2, kb3, kb4, kb5, kb6, kb7, kb8, kb9, kb10, kb11, kb12, kb13, kb14, kb15, kb16, kb17, kb18, kb19, kb20, kb21, kb22, kb23, kb24, kb25, kb26, kb27, kb28, kb29, sz0, szl0, sz1, szl1, sz2, szl2, sz3, szl3, sz4, szl4, sz5, szl5, sz6, szl6, sz7, szl7, sz8, szl8, sz9, szl9, sz10, szl10, sz11, szl11, sz12, szl12, sz13, szl13, sz14, szl14, sz15, szl15, sz16, szl16, sz17, szl17, sz18, szl18, sz19, szl19, sz20, szl20, sz21, szl21, sz22, szl22, sz23, szl23, sz24, szl24, sz25, szl25, sz26, szl26, sz27, szl27, sz28, szl28, sz29, szl29, sz30, szl30, sz31, szl31, sz32, szl32, sz33, szl33, sz34, szl34, sz35, szl35, sz36, szl36, sz37, szl37, sz38, szl38, sz39, szl39, sz40, szl40]
  exact ⟨S2, rfl⟩
theorem toks_zip {ex : List PV} : ∀ (P : List (Nat × List Nat)) (i j : Nat) (pre : List PV), pre.length = j → ((P.map Prod.snd).zipIdx j).map (fun x => PV.tup [.str (kdW x.1), wV x.1, (pre ++ (plc i P ++ ex)).getD x.2 .non]) = toks kdW i P
  | [], _, _, _, _ => rfl
  | (b, w) :: P, i, j, pre, hj => by
    have e1 : plc i ((b, w) :: P) = .int ((i + b + 1 : Nat) : Int) :: plc (i + b + w.length) P := id rfl
    have e2 : toks kdW i ((b, w) :: P) = .tup [.str (kdW w), .str (tx w), .int ((i + b + 1 : Nat) : Int)] :: toks kdW (i + b + w.length) P := id rfl
    rw [e2, List.map_cons, List.zipIdx_cons, List.map_cons, e1]
    have ih := toks_zip (ex := ex) P (i + b + w.length) (j + 1) (pre ++ [.int ((i + b + 1 : Nat) : Int)]) (by rw [List.length_append, hj]; rfl)
    have e3 : pre ++ (PV.int ((i + b + 1 : Nat) : Int) :: plc (i + b + w.length) P ++ ex) = pre ++ [.int ((i + b + 1 : Nat) : Int)] ++ (plc (i + b + w.length) P ++ ex) := by simp
    have e4 : (pre ++ (PV.int ((i + b + 1 : Nat) : Int) :: plc (i + b + w.length) P ++ ex)).getD j .non = .int ((i + b + 1 : Nat) : Int) := by
      subst hj; simp
    rw [e4, e3, ih]
    rfl
/-- the tokens that are due -/
def dueV (P : List (Nat × List Nat)) (N : Int) : List PV := toks kdW 0 P ++ [.tup [.str "end", .str "", .int N]]
theorem toks_len : ∀ (P : List (Nat × List Nat)) (i : Nat), (toks kdW i P).length = P.length
  | [], _ => rfl
  | (b, w) :: P, i => by show (toks kdW _ P).length + 1 = _; rw [toks_len P]; rfl
theorem k65_s6 {P : List (Nat × List Nat)} {T : PV} {N : Int} (hG : ∀ w ∈ P.map Prod.snd, w ∈ wordsG) (hl : P.length ≤ 100) :
    wpS d_law_k65_s6 (E65 A (.v (.lst ((P.map Prod.snd).map wV))) (.v .non) .un .un .un (.v T) (.v (.lst (plc 0 P ++ [.int N]))) .un .un .un .un) S fun o => o = .nx (E65 A (.v (.lst ((P.map Prod.snd).map wV))) (.v .non) .un .un .un (.v T) (.v (.lst (plc 0 P ++ [.int N]))) (.v (.lst (dueV P N))) .un .un .un) S := by
  unfold d_law_k65_s6
  simp only [List.replicate, List.cons_append, List.nil_append, List.length_cons, List.length_nil, Nat.reduceAdd, bq_ok, bq_ex, wp_pure, wp_fail, wp_getS, oQ_some, oQ_ite, bqS_ok, bqS_ex, sqS_nx, sqS_rt, sqS_bk, sqS_ct, sqS_ex, wpS_next, wpS_break, wpS_cont, wpS_retN, wpS_setT, stQ_some, wp_C, wp_call, wp_callv, bqF_ok, bqF_ex, wp_new, wp_newv, fqS_nx, fqS_rt, fqS_ex, wpS_for, wp_comp, wp_dVar, vQ_v, vQ_o, List.getElem?_cons_zero, List.getElem?_cons_succ, List.set_cons_zero, List.set_cons_succ, wp_d1, wp_k1, wp_d2, wp_k2, wp_k2b, wp_dT, wp_kT, wp_dTru, wp_kTru, wp_dNotT, wp_kNot, wp_dAndT, wp_kAnd, wp_dOrT, wp_kOr, wp_dAndV, wp_kAndV, wp_kAndVb, wp_dOrV, wp_kOrV, wp_kOrVb, wp_dNotV, wp_kNotV, wp_kNotVb, wp_dIf, wp_kIf, wp_dChain, wp_kCh, wp_kCh2, wp_kCh3, wp_aNil, wp_aCons, wp_kCons, wp_kCons2, wp_dTup, wp_kTup, wp_dLst, wp_kLst, wp_dN, wp_kN, wp_dLs, wp_kLs, wp_lDisp, wp_kDisp, wp_lRng, wp_kRng, wp_dItR, wp_kItR, wp_dItS, wp_kItS, wp_tTrue, wp_oNo, wp_oSome, wp_kSome, wp_dSl, wp_kSl, wp_kSl1, wp_kSl2, ws_ret, ws_kRet, ws_expr, ws_kExpr, ws_if, ws_kIfS, ws_set, ws_kSet, ws_setO, ws_kSetO, ws_kSetT, ws_setR, ws_kSetR0, ws_kSetR1, ws_kSetR2, items_t, items_ft, items_l, items_r, setAll, Bool.not_true, Bool.not_false, if_true, ite_true, ite_false, ↓reduceIte, Bool.false_eq_true, Int.reduceLT, Int.reduceLE, Nat.reduceLT, Nat.reduceLeDiff, Nat.reducePow, Int.reducePow, Int.reduceToNat, Int.reduceNeg, Int.reduceSub, Int.reduceAdd, and_self, and_true, true_and, decide_eq_true_eq, decide_true, decide_false, List.length_map, ixN_31, ixN_32, ixN_30, wipeE, restE, lcQ, Option.getD_some, add_i, add_t, add_l, sub_i, mul_i, mul_t, mul_l, fdiv_i, mod_i, pow_18, neg_i, lt_i, le_i, gt_i, ge_i, eq_i, ne_i, eq_b, len_t, len_ft, len_l, len_r, abs_i, int_i, list_t, list_ft, list_l, list_r, tuple_t, tuple_ft, tuple_l, isi_i, isi_b, isi_s, isi_t, isi_ft, isi_l, isi_r, isi_n, tru_b, tru_i, tru_t, tru_ft, tru_l, tru_n, isN_n, isN_b, isN_i, isN_s, isN_t, isN_l, ix_t, ix_ft, ix_l, ix_r, ix_ref, setS_ref, atI_0, atI_1, atI_2, Option.map_some, Option.map_none, kb0, kb1, kb2, kb3, kb4, kb5, kb6, kb7, kb8, kb9, kb10, kb11, kb12, kb13, kb14, kb15, kb16, kb17, kb18, kb19, kb20, kb21, kb22, kb23, kb24, kb25, kb26, kb27, kb28, kb29, sz0, szl0, sz1, szl1, sz2, szl2, sz3, szl3, sz4, szl4, sz5, szl5, sz6, szl6, sz7, szl7, sz8, szl8, sz9, szl9, sz10, szl10, sz11, szl11, sz12, szl12, sz13, szl13, sz14, szl14, sz15, szl15, sz16, szl16, sz17, szl17, sz18, szl18, sz19, szl19, sz20, szl20, sz21, szl21, sz22, szl22, sz23, szl23, sz24, szl24, sz25, szl25, sz26, szl26, sz27, szl27, sz28, szl28, sz29, szl29, sz30, szl30, sz31, szl31, sz32, szl32, sz33, szl33, sz34, szl34, sz35, szl35, sz36, szl36, sz37, szl37, sz38, szl38, sz39, szl39, sz40, szl40, wp_dItE2, wp_kItE2F]
  rw [enPV_map]
  refine wp_compM (fun x : List Nat × Nat => PV.tup [.int (x.2 : Nat), wV x.1]) (fun x => PV.tup [.str (kdW x.1), wV x.1, (([] : List PV) ++ (plc 0 P ++ [PV.int N])).getD x.2 .non]) rfl rfl (by rw [List.length_zipIdx, List.length_map, sizeLine_eq]; omega) (fun x hx => ⟨_, rfl, ?_, rfl⟩) ?_
  · have hx' := List.mem_zipIdx_iff_getElem?.mp hx
    have hw : x.1 ∈ P.map Prod.snd := List.mem_of_getElem? hx'
    have hi : x.2 < P.length := by have := (List.getElem?_eq_some_iff.mp hx').1; rwa [List.length_map] at this
    have ea : atI (plc 0 P ++ [PV.int N]) (x.2 : Int) = some ((([] : List PV) ++ (plc 0 P ++ [PV.int N])).getD x.2 .non) := by
      have hn : x.2 < (plc 0 P ++ [PV.int N]).length := by rw [List.length_append, plc_len, List.length_singleton]; omega
      rw [atI_in (by omega) (by omega), List.nil_append]
      simp only [List.getD, Int.toNat_natCast, List.getElem?_eq_getElem hn, Option.getD_some]
    simp only [List.replicate, List.cons_append, List.nil_append, List.length_cons, List.length_nil, Nat.reduceAdd, bq_ok, bq_ex, wp_pure, wp_fail, wp_getS, oQ_some, oQ_ite, bqS_ok, bqS_ex, sqS_nx, sqS_rt, sqS_bk, sqS_ct, sqS_ex, wpS_next, wpS_break, wpS_cont, wpS_retN, wpS_setT, stQ_some, wp_C, wp_call, wp_callv, bqF_ok, bqF_ex, wp_new, wp_newv, fqS_nx, fqS_rt, fqS_ex, wpS_for, wp_comp, wp_dVar, vQ_v, vQ_o, List.getElem?_cons_zero, List.getElem?_cons_succ, List.set_cons_zero, List.set_cons_succ, wp_d1, wp_k1, wp_d2, wp_k2, wp_k2b, wp_dT, wp_kT, wp_dTru, wp_kTru, wp_dNotT, wp_kNot, wp_dAndT, wp_kAnd, wp_dOrT, wp_kOr, wp_dAndV, wp_kAndV, wp_kAndVb, wp_dOrV, wp_kOrV, wp_kOrVb, wp_dNotV, wp_kNotV, wp_kNotVb, wp_dIf, wp_kIf, wp_dChain, wp_kCh, wp_kCh2, wp_kCh3, wp_aNil, wp_aCons, wp_kCons, wp_kCons2, wp_dTup, wp_kTup, wp_dLst, wp_kLst, wp_dN, wp_kN, wp_dLs, wp_kLs, wp_lDisp, wp_kDisp, wp_lRng, wp_kRng, wp_dItR, wp_kItR, wp_dItS, wp_kItS, wp_tTrue, wp_oNo, wp_oSome, wp_kSome, wp_dSl, wp_kSl, wp_kSl1, wp_kSl2, ws_ret, ws_kRet, ws_expr, ws_kExpr, ws_if, ws_kIfS, ws_set, ws_kSet, ws_setO, ws_kSetO, ws_kSetT, ws_setR, ws_kSetR0, ws_kSetR1, ws_kSetR2, items_t, items_ft, items_l, items_r, setAll, Bool.not_true, Bool.not_false, if_true, ite_true, ite_false, ↓reduceIte, Bool.false_eq_true, Int.reduceLT, Int.reduceLE, Nat.reduceLT, Nat.reduceLeDiff, Nat.reducePow, Int.reducePow, Int.reduceToNat, Int.reduceNeg, Int.reduceSub, Int.reduceAdd, and_self, and_true, true_and, decide_eq_true_eq, decide_true, decide_false, List.length_map, ixN_31, ixN_32, ixN_30, wipeE, restE, lcQ, Option.getD_some, add_i, add_t, add_l, sub_i, mul_i, mul_t, mul_l, fdiv_i, mod_i, pow_18, neg_i, lt_i, le_i, gt_i, ge_i, eq_i, ne_i, eq_b, len_t, len_ft, len_l, len_r, abs_i, int_i, list_t, list_ft, list_l, list_r, tuple_t, tuple_ft, tuple_l, isi_i, isi_b, isi_s, isi_t, isi_ft, isi_l, isi_r, isi_n, tru_b, tru_i, tru_t, tru_ft, tru_l, tru_n, isN_n, isN_b, isN_i, isN_s, isN_t, isN_l, ix_t, ix_ft, ix_l, ix_r, ix_ref, setS_ref, atI_0, atI_1, atI_2, Option.map_some, Option.map_none, kb0, kb1, kb2, kb3, kb4, kb5, kb6, kb7, kb8, kb9, kb10, kb11, kb12, kb13, kb14, kb15, kb16, kb17, kb18, kb19, kb20, kb21, kb22, kb23, kb24, kb25, kb26, kb27, kb28, kb29, sz0, szl0, sz1, szl1, sz2, szl2, sz3, szl3, sz4, szl4, sz5, szl5, sz6, szl6, sz7, szl7, sz8, szl8, sz9, szl9, sz10, szl10, sz11, szl11, sz12, szl12, sz13, szl13, sz14, szl14, sz15, szl15, sz16, szl16, sz17, szl17, sz18, szl18, sz19, szl19, sz20, szl20, sz21, szl21, sz22, szl22, sz23, szl23, sz24, szl24, sz25, szl25, sz26, szl26, sz27, szl27, sz28, szl28, sz29, szl29, sz30, szl30, sz31, szl31, sz32, szl32, sz33, szl33, sz34, szl34, sz35, szl35, sz36, szl36, sz37, szl37, sz38, szl38, sz39, szl39, sz40, szl40]
    refine wp_law_kind (hG _ hw) ?_
    simp only [List.replicate, List.cons_append, List.nil_append, List.length_cons, List.length_nil, Nat.reduceAdd, bq_ok, bq_ex, wp_pure, wp_fail, wp_getS, oQ_some, oQ_ite, bqS_ok, bqS_ex, sqS_nx, sqS_rt, sqS_bk, sqS_ct, sqS_ex, wpS_next, wpS_break, wpS_cont, wpS_retN, wpS_setT, stQ_some, wp_C, wp_call, wp_callv, bqF_ok, bqF_ex, wp_new, wp_newv, fqS_nx, fqS_rt, fqS_ex, wpS_for, wp_comp, wp_dVar, vQ_v, vQ_o, List.getElem?_cons_zero, List.getElem?_cons_succ, List.set_cons_zero, List.set_cons_succ, wp_d1, wp_k1, wp_d2, wp_k2, wp_k2b, wp_dT, wp_kT, wp_dTru, wp_kTru, wp_dNotT, wp_kNot, wp_dAndT, wp_kAnd, wp_dOrT, wp_kOr, wp_dAndV, wp_kAndV, wp_kAndVb, wp_dOrV, wp_kOrV, wp_kOrVb, wp_dNotV, wp_kNotV, wp_kNotVb, wp_dIf, wp_kIf, wp_dChain, wp_kCh, wp_kCh2, wp_kCh3, wp_aNil, wp_aCons, wp_kCons, wp_kCons2, wp_dTup, wp_kTup, wp_dLst, wp_kLst, wp_dN, wp_kN, wp_dLs, wp_kLs, wp_lDisp, wp_kDisp, wp_lRng, wp_kRng, wp_dItR, wp_kItR, wp_dItS, wp_kItS, wp_tTrue, wp_oNo, wp_oSome, wp_kSome, wp_dSl, wp_kSl, wp_kSl1, wp_kSl2, ws_ret, ws_kRet, ws_expr, ws_kExpr, ws_if, ws_kIfS, ws_set, ws_kSet, ws_setO, ws_kSetO, ws_kSetT, ws_setR, ws_kSetR0, ws_kSetR1, ws_kSetR2, items_t, items_ft, items_l, items_r, setAll, Bool.not_true, Bool.not_false, if_true, ite_true, ite_false, ↓reduceIte, Bool.false_eq_true, Int.reduceLT, Int.reduceLE, Nat.reduceLT, Nat.reduceLeDiff, Nat.reducePow, Int.reducePow, Int.reduceToNat, Int.reduceNeg, Int.reduceSub, Int.reduceAdd, and_self, and_true, true_and, decide_eq_true_eq, decide_true, decide_false, List.length_map, ixN_31, ixN_32, ixN_30, wipeE, restE, lcQ, Option.getD_some, add_i, add_t, add_l, sub_i, mul_i, mul_t, mul_l, fdiv_i, mod_i, pow_18, neg_i, lt_i, le_i, gt_i, ge_i, eq_i, ne_i, eq_b, len_t, len_ft, len_l, len_r, abs_i, int_i, list_t, list_ft, list_l, list_r, tuple_t, tuple_ft, tuple_l, isi_i, isi_b, isi_s, isi_t, isi_ft, isi_l, isi_r, isi_n, tru_b, tru_i, tru_t, tru_ft, tru_l, tru_n, isN_n, isN_b, isN_i, isN_s, isN_t, isN_l, ix_t, ix_ft, ix_l, ix_r, ix_ref, setS_ref, atI_0, atI_1, atI_2, Option.map_some, Option.map_none, kb0, kb1, kb2, kb3, kb4, kb5, kb6, kb7, kb8, kb9, kb10, kb11, kb12, kb13, kb14, kb15, kb16, kb17, kb18, kb19, kb20, kb21, kb22, kb23, kb24, kb25, kb26, kb27, kb28, kb29, sz0, szl0, sz1, szl1, sz2, szl2, sz3, szl3, sz4, szl4, sz5, szl5, sz6, szl6, sz7, szl7, sz8, szl8, sz9, szl9, sz10, szl10, sz11, szl11, sz12, szl12, sz13, szl13, sz14, szl14, sz15, szl15, sz16, szl16, sz17, szl17, sz18, szl18, sz19, szl19, sz20, szl20, sz21, szl21, sz22, szl22, sz23, szl23, sz24, szl24, sz25, szl25, sz26, szl26, sz27, szl27, sz28, szl28, sz29, szl29, sz30, szl30, sz31, szl31, sz32, szl32, sz33, szl33, sz34, szl34, sz35, szl35, sz36, szl36, sz37, szl37, sz38, szl38, sz39, szl39, sz40, szl40, ea]
  · rw [toks_zip P 0 0 [] rfl]
    have ea : ∀ S : Stor, ixP S (.lst (plc 0 P ++ [PV.int N])) (.int (-1)) = some (.int N) := fun S => by
      show atI _ _ = _
      rw [atI_last (by simp)]
      simp
    have el : (toks kdW 0 P).length + 1 ≤ sizeLine := by rw [toks_len, sizeLine_eq]; omega
    simp only [List.replicate, List.cons_append, List.nil_append, List.length_cons, List.length_nil, Nat.reduceAdd, bq_ok, bq_ex, wp_pure, wp_fail, wp_getS, oQ_some, oQ_ite, bqS_ok, bqS_ex, sqS_nx, sqS_rt, sqS_bk, sqS_ct, sqS_ex, wpS_next, wpS_break, wpS_cont, wpS_retN, wpS_setT, stQ_some, wp_C, wp_call, wp_callv, bqF_ok, bqF_ex, wp_new, wp_newv, fqS_nx, fqS_rt, fqS_ex, wpS_for, wp_comp, wp_dVar, vQ_v, vQ_o, List.getElem?_cons_zero, List.getElem?_cons_succ, List.set_cons_zero, List.set_cons_succ, wp_d1, wp_k1, wp_d2, wp_k2, wp_k2b, wp_dT, wp_kT, wp_dTru, wp_kTru, wp_dNotT, wp_kNot, wp_dAndT, wp_kAnd, wp_dOrT, wp_kOr, wp_dAndV, wp_kAndV, wp_kAndVb, wp_dOrV, wp_kOrV, wp_kOrVb, wp_dNotV, wp_kNotV, wp_kNotVb, wp_dIf, wp_kIf, wp_dChain, wp_kCh, wp_kCh2, wp_kCh3, wp_aNil, wp_aCons, wp_kCons, wp_kCons2, wp_dTup, wp_kTup, wp_dLst, wp_kLst, wp_dN, wp_kN, wp_dLs, wp_kLs, wp_lDisp, wp_kDisp, wp_lRng, wp_kRng, wp_dItR, wp_kItR, wp_dItS, wp_kItS, wp_tTrue, wp_oNo, wp_oSome, wp_kSome, wp_dSl, wp_kSl, wp_kSl1, wp_kSl2, ws_ret, ws_kRet, ws_expr, ws_kExpr, ws_if, ws_kIfS, ws_set, ws_kSet, ws_setO, ws_kSetO, ws_kSetT, ws_setR, ws_kSetR0, ws_kSetR1, ws_kSetR2, items_t, items_ft, items_l, items_r, setAll, Bool.not_true, Bool.not_false, if_true, ite_true, ite_false, ↓reduceIte, Bool.false_eq_true, Int.reduceLT, Int.reduceLE, Nat.reduceLT, Nat.reduceLeDiff, Nat.reducePow, Int.reducePow, Int.reduceToNat, Int.reduceNeg, Int.reduceSub, Int.reduceAdd, and_self, and_true, true_and, decide_eq_true_eq, decide_true, decide_false, List.length_map, ixN_31, ixN_32, ixN_30, wipeE, restE, lcQ, Option.getD_some, add_i, add_t, add_l, sub_i, mul_i, mul_t, mul_l, fdiv_i, mod_i, pow_18, neg_i, lt_i, le_i, gt_i, ge_i, eq_i, ne_i, eq_b, len_t, len_ft, len_l, len_r, abs_i, int_i, list_t, list_ft, list_l, list_r, tuple_t, tuple_ft, tuple_l, isi_i, isi_b, isi_s, isi_t, isi_ft, isi_l, isi_r, isi_n, tru_b, tru_i, tru_t, tru_ft, tru_l, tru_n, isN_n, isN_b, isN_i, isN_s, isN_t, isN_l, ix_t, ix_ft, ix_l, ix_r, ix_ref, setS_ref, atI_0, atI_1, atI_2, Option.map_some, Option.map_none, kb0, kb1, kb2, kb3, kb4, kb5, kb6, kb7, kb8, kb9, kb10, kb11, kb12, kb13, kb14, kb15, kb16, kb17, kb18, kb19, kb20, kb21, kb22, kb23, kb24, kb25, kb26, kb27, kb28, kb29, sz0, szl0, sz1, szl1, sz2, szl2, sz3, szl3, sz4, szl4, sz5, szl5, sz6, szl6, sz7, szl7, sz8, szl8, sz9, szl9, sz10, szl10, sz11, szl11, sz12, szl12, sz13, szl13, sz14, szl14, sz15, szl15, sz16, szl16, sz17, szl17, sz18, szl18, sz19, szl19, sz20, szl20, sz21, szl21, sz22, szl22, sz23, szl23, sz24, szl24, sz25, szl25, sz26, szl26, sz27, szl27, sz28, szl28, sz29, szl29, sz30, szl30, sz31, szl31, sz32, szl32, sz33, szl33, sz34, szl34, sz35, szl35, sz36, szl36, sz37, szl37, sz38, szl38, sz39, szl39, sz40, szl40, ea, el]
    rfl
theorem pl_kd (w : List Nat) : plP (.str (kdW w)) = true := by
  unfold kdW
  split
  · kernel_rfl
  · split
    · kernel_rfl
    · split <;> kernel_rfl
theorem due_one {k t : Str} {i : Int} (h1 : plP (.str k) = true) (h2 : plP (.str t) = true) : plP (.tup [.str k, .str t, .int i]) = true ∧ szP (.tup [.str k, .str t, .int i]) = true ∧ dpP (.tup [.str k, .str t, .int i]) < 5 := by
  refine ⟨?_, rfl, ?_⟩
  · unfold plP plsP plsP plsP plsP
    rw [h1, h2]; rfl
  · have : dpP (.tup [.str k, .str t, .int i]) = 1 := rfl
    omega
theorem toks_fine : ∀ {P : List (Nat × List Nat)} (i : Nat), (∀ x ∈ P, x.2 ∈ wordsA) → ∀ x ∈ toks kdW i P, plP x = true ∧ szP x = true ∧ dpP x < 5
  | [], _, _, x, hx => nomatch hx
  | (b, w) :: P, i, h, x, hx => by
    have e2 : toks kdW i ((b, w) :: P) = .tup [.str (kdW w), .str (tx w), .int ((i + b + 1 : Nat) : Int)] :: toks kdW (i + b + w.length) P := id rfl
    rw [e2] at hx
    rcases List.mem_cons.mp hx with rfl | hx
    · refine due_one (pl_kd w) ?_
      have hw := A_low _ (h (b, w) (List.mem_cons_self ..))
      have : Low w := fun c hc => (of_decide_eq_true (List.all_eq_true.mp hw c hc)).1
      unfold plP
      exact low_ok this
    · exact toks_fine _ (fun y hy => h y (List.mem_cons_of_mem _ hy)) x hx
theorem due_fine {P : List (Nat × List Nat)} {N : Int} (h : ∀ x ∈ P, x.2 ∈ wordsA) : ∀ x ∈ dueV P N, plP x = true ∧ szP x = true ∧ dpP x < 5 := fun x hx => by
  rcases List.mem_append.mp hx with hx | hx
  · exact toks_fine 0 h x hx
  · rw [List.mem_singleton.mp hx]
    exact due_one (by kernel_rfl) (by kernel_rfl)
theorem rep_fold {c : Nat} : ∀ (k : Nat) (b : Array Nat), ((List.replicate k (#[c] : Array Nat)).foldl (· ++ ·) b).toList = b.toList ++ List.replicate k c
  | 0, b => by simp
  | k + 1, b => by
    rw [List.replicate_succ, List.foldl_cons, rep_fold k, List.replicate_succ]
    simp
theorem mul_bl {n : Nat} (h0 : 1 ≤ n) (h1 : n ≤ 1000) : strMulP S (.str " ") (.int n) = some (.str (tx (List.replicate n 32))) := by
  rw [bl_tx]
  have l1 : (tx [32]).length = 1 := by kernel_rfl
  show (if 1 ≤ (n : Int) ∧ (n : Int) ≤ 1000 ∧ (tx [32]).length ≤ 1000 then some (PV.str (repS (tx [32]) n)) else none) = _
  rw [if_pos ⟨by omega, by omega, by rw [l1]; decide⟩]
  congr 2
  unfold repS
  rw [if_neg (by omega)]
  split
  · rename_i hc
    rw [l1] at hc
    have : n = 1 := by simp at hc; omega
    subst this; rfl
  · rw [Int.toNat_natCast]
    have e := rep_fold (c := 32) n #[]
    unfold tx
    congr 1
    apply Array.toList_inj.mp
    exact e
theorem gap_head {b b' : Nat} {w : List Nat} : ∀ {P : List (Nat × List Nat)}, Gap ((b, w) :: P) → Gap ((b', w) :: P)
  | [], _ => trivial
  | _ :: _, g => ⟨g.1, g.2⟩
/-- blanks ahead of all -/
theorem widen {P : List (Nat × List Nat)} {k n : Nat} (g : Gap P) (hG : ∀ x ∈ P, x.1 ≤ 300 ∧ x.2 ∈ wordsG) (hl : P.length ≤ 100) (hn : n + (lay P ++ List.replicate k 32).length ≤ 300) : ∃ (L : List (Nat × List Nat)) (k' : Nat), List.replicate n 32 ++ (lay P ++ List.replicate k 32) = lay L ++ List.replicate k' 32 ∧ Gap L ∧ (∀ x ∈ L, x.1 ≤ 300 ∧ x.2 ∈ wordsG) ∧ L.length ≤ 100 := by
  cases P with
  | nil =>
    refine ⟨[], n + k, ?_, trivial, fun x hx => (nomatch hx), by decide⟩
    show List.replicate n 32 ++ ([] ++ List.replicate k 32) = [] ++ List.replicate (n + k) 32
    rw [List.nil_append, List.nil_append, List.replicate_append_replicate]
  | cons p P =>
    obtain ⟨b, w⟩ := p
    refine ⟨(n + b, w) :: P, k, ?_, gap_head g, fun x hx => ?_, hl⟩
    · rw [lay_cons, lay_cons, ← List.replicate_append_replicate]
      simp only [List.append_assoc]
    · rcases List.mem_cons.mp hx with rfl | hx
      · refine ⟨?_, (hG _ (List.mem_cons_self ..)).2⟩
        rw [lay_cons, List.length_append, List.length_append, List.length_replicate] at hn
        dsimp only
        omega
      · exact hG x (List.mem_cons_of_mem _ hx)
/-- what is no text -/
def NoText (p : PV) : Prop := ∀ S : Stor, wpF d_scan_v5 [p] S fun o => o = .ex (BV "text") S
theorem noT_not {p : PV} (h : ∀ S, isiP "str" S p = some (.bl false)) : NoText p := fun S => wp_scan_no (wp_check_no (h S) rfl) rfl
theorem noT_tx {t : List Nat} (hl : t.length ≤ 1000) (h : 300 < t.length ∨ 10 ∈ t) : NoText (.str (tx t)) := fun S => wp_scan_no (wp_check_text hl (by rw [if_pos h])) rfl
theorem k65_good {W : List (List Nat)} (h : SInv R S) (hW : ∀ g ∈ W, g ∈ wordsG) (hl : W.length ≤ 20) :
    wpS d_law_k65_b4 (E65 A (.ol (W.map wV)) (.v .non) .un .un .un .un .un .un .un .un .un) S (fqS QT65) := by
  unfold d_law_k65_b4; rw [wpS_seq]; unfold d_law_k65_s4
  simp only [List.map, List.replicate, List.cons_append, List.nil_append, List.length_cons, List.length_nil, Nat.reduceAdd, bq_ok, bq_ex, wp_pure, wp_fail, wp_getS, oQ_some, oQ_ite, bqS_ok, bqS_ex, sqS_nx, sqS_rt, sqS_bk, sqS_ct, sqS_ex, wpS_next, wpS_break, wpS_cont, wpS_retN, wpS_setT, stQ_some, wp_C, wp_call, wp_callv, bqF_ok, bqF_ex, wp_new, wp_newv, fqS_nx, fqS_rt, fqS_ex, wpS_for, wp_comp, wp_dVar, vQ_v, vQ_o, List.getElem?_cons_zero, List.getElem?_cons_succ, List.set_cons_zero, List.set_cons_succ, wp_d1, wp_k1, wp_d2, wp_k2, wp_k2b, wp_dT, wp_kT, wp_dTru, wp_kTru, wp_dNotT, wp_kNot, wp_dAndT, wp_kAnd, wp_dOrT, wp_kOr, wp_dAndV, wp_kAndV, wp_kAndVb, wp_dOrV, wp_kOrV, wp_kOrVb, wp_dNotV, wp_kNotV, wp_kNotVb, wp_dIf, wp_kIf, wp_dChain, wp_kCh, wp_kCh2, wp_kCh3, wp_aNil, wp_aCons, wp_kCons, wp_kCons2, wp_dTup, wp_kTup, wp_dLst, wp_kLst, wp_dN, wp_kN, wp_dLs, wp_kLs, wp_lDisp, wp_kDisp, wp_lRng, wp_kRng, wp_dItR, wp_kItR, wp_dItS, wp_kItS, wp_tTrue, wp_oNo, wp_oSome, wp_kSome, wp_dSl, wp_kSl, wp_kSl1, wp_kSl2, ws_ret, ws_kRet, ws_expr, ws_kExpr, ws_if, ws_kIfS, ws_set, ws_kSet, ws_setO, ws_kSetO, ws_kSetT, ws_setR, ws_kSetR0, ws_kSetR1, ws_kSetR2, items_t, items_ft, items_l, items_r, setAll, Bool.not_true, Bool.not_false, if_true, ite_true, ite_false, ↓reduceIte, Bool.false_eq_true, Int.reduceLT, Int.reduceLE, Nat.reduceLT, Nat.reduceLeDiff, Nat.reducePow, Int.reducePow, Int.reduceToNat, Int.reduceNeg, Int.reduceSub, Int.reduceAdd, and_self, and_true, true_and, decide_eq_true_eq, decide_true, decide_false, List.length_map, ixN_31, ixN_32, ixN_30, wipeE, restE, lcQ, Option.getD_some, add_i, add_t, add_l, sub_i, mul_i, mul_t, mul_l, fdiv_i, mod_i, pow_18, neg_i, lt_i, le_i, gt_i, ge_i, eq_i, ne_i, eq_b, len_t, len_ft, len_l, len_r, abs_i, int_i, list_t, list_ft, list_l, list_r, tuple_t, tuple_ft, tuple_l, isi_i, isi_b, isi_s, isi_t, isi_ft, isi_l, isi_r, isi_n, tru_b, tru_i, tru_t, tru_ft, tru_l, tru_n, isN_n, isN_b, isN_i, isN_s, isN_t, isN_l, ix_t, ix_ft, ix_l, ix_r, ix_ref, setS_ref, atI_0, atI_1, atI_2, Option.map_some, Option.map_none, kb0, kb1, kb2, kb3, kb4, kb5, kb6, kb7, kb8, kb9, kb10, kb11, kb12, kb13, kb14, kb15, kb16, kb17, kb18, kb19, kb20, kb21, kb22, kb23, kb24, kb25, kb26, kb27, kb28, kb29, sz0, szl0, sz1, szl1, sz2, szl2, sz3, szl3, sz4, szl4, sz5, szl5, sz6, szl6, sz7, szl7, sz8, szl8, sz9, szl9, sz10, szl10, sz11, szl11, sz12, szl12, sz13, szl13, sz14, szl14, sz15, szl15, sz16, szl16, sz17, szl17, sz18, szl18, sz19, szl19, sz20, szl20, sz21, szl21, sz22, szl22, sz23, szl23, sz24, szl24, sz25, szl25, sz26, szl26, sz27, szl27, sz28, szl28, sz29, szl29, sz30, szl30, sz31, szl31, sz32, szl32, sz33, szl33, sz34, szl34, sz35, szl35, sz36, szl36, sz37, szl37, sz38, szl38, sz39, szl39, sz40, szl40]
  refine wp_laid h (fun x hx => A_G (hW x hx)) (by omega) fun P k S1 hP g hA hk hs => ?_
  subst hP
  rw [List.length_map] at hl
  simp only [List.replicate, List.cons_append, List.nil_append, List.length_cons, List.length_nil, Nat.reduceAdd, bq_ok, bq_ex, wp_pure, wp_fail, wp_getS, oQ_some, oQ_ite, bqS_ok, bqS_ex, sqS_nx, sqS_rt, sqS_bk, sqS_ct, sqS_ex, wpS_next, wpS_break, wpS_cont, wpS_retN, wpS_setT, stQ_some, wp_C, wp_call, wp_callv, bqF_ok, bqF_ex, wp_new, wp_newv, fqS_nx, fqS_rt, fqS_ex, wpS_for, wp_comp, wp_dVar, vQ_v, vQ_o, List.getElem?_cons_zero, List.getElem?_cons_succ, List.set_cons_zero, List.set_cons_succ, wp_d1, wp_k1, wp_d2, wp_k2, wp_k2b, wp_dT, wp_kT, wp_dTru, wp_kTru, wp_dNotT, wp_kNot, wp_dAndT, wp_kAnd, wp_dOrT, wp_kOr, wp_dAndV, wp_kAndV, wp_kAndVb, wp_dOrV, wp_kOrV, wp_kOrVb, wp_dNotV, wp_kNotV, wp_kNotVb, wp_dIf, wp_kIf, wp_dChain, wp_kCh, wp_kCh2, wp_kCh3, wp_aNil, wp_aCons, wp_kCons, wp_kCons2, wp_dTup, wp_kTup, wp_dLst, wp_kLst, wp_dN, wp_kN, wp_dLs, wp_kLs, wp_lDisp, wp_kDisp, wp_lRng, wp_kRng, wp_dItR, wp_kItR, wp_dItS, wp_kItS, wp_tTrue, wp_oNo, wp_oSome, wp_kSome, wp_dSl, wp_kSl, wp_kSl1, wp_kSl2, ws_ret, ws_kRet, ws_expr, ws_kExpr, ws_if, ws_kIfS, ws_set, ws_kSet, ws_setO, ws_kSetO, ws_kSetT, ws_setR, ws_kSetR0, ws_kSetR1, ws_kSetR2, items_t, items_ft, items_l, items_r, setAll, Bool.not_true, Bool.not_false, if_true, ite_true, ite_false, ↓reduceIte, Bool.false_eq_true, Int.reduceLT, Int.reduceLE, Nat.reduceLT, Nat.reduceLeDiff, Nat.reducePow, Int.reducePow, Int.reduceToNat, Int.reduceNeg, Int.reduceSub, Int.reduceAdd, and_self, and_true, true_and, decide_eq_true_eq, decide_true, decide_false, List.length_map, ixN_31, ixN_32, ixN_30, wipeE, restE, lcQ, Option.getD_some, add_i, add_t, add_l, sub_i, mul_i, mul_t, mul_l, fdiv_i, mod_i, pow_18, neg_i, lt_i, le_i, gt_i, ge_i, eq_i, ne_i, eq_b, len_t, len_ft, len_l, len_r, abs_i, int_i, list_t, list_ft, list_l, list_r, tuple_t, tuple_ft, tuple_l, isi_i, isi_b, isi_s, isi_t, isi_ft, isi_l, isi_r, isi_n, tru_b, tru_i, tru_t, tru_ft, tru_l, tru_n, isN_n, isN_b, isN_i, isN_s, isN_t, isN_l, ix_t, ix_ft, ix_l, ix_r, ix_ref, setS_ref, atI_0, atI_1, atI_2, Option.map_some, Option.map_none, kb0, kb1, kb2, kb3, kb4, kb5, kb6, kb7, kb8, kb9, kb10, kb11, kb12, kb13, kb14, kb15, kb16, kb17, kb18, kb19, kb20, kb21, kb22, kb23, kb24, kb25, kb26, kb27, kb28, kb29, sz0, szl0, sz1, szl1, sz2, szl2, sz3, szl3, sz4, szl4, sz5, szl5, sz6, szl6, sz7, szl7, sz8, szl8, sz9, szl9, sz10, szl10, sz11, szl11, sz12, szl12, sz13, szl13, sz14, szl14, sz15, szl15, sz16, szl16, sz17, szl17, sz18, szl18, sz19, szl19, sz20, szl20, sz21, szl21, sz22, szl22, sz23, szl23, sz24, szl24, sz25, szl25, sz26, szl26, sz27, szl27, sz28, szl28, sz29, szl29, sz30, szl30, sz31, szl31, sz32, szl32, sz33, szl33, sz34, szl34, sz35, szl35, sz36, szl36, sz37, szl37, sz38, szl38, sz39, szl39, sz40, szl40]
  unfold d_law_k65_b5; rw [wpS_seq]; unfold d_law_k65_s5
  have en : ∀ S : Stor, notNonP S .non .non = some (.bl false) := fun _ => rfl
  simp only [List.replicate, List.cons_append, List.nil_append, List.length_cons, List.length_nil, Nat.reduceAdd, bq_ok, bq_ex, wp_pure, wp_fail, wp_getS, oQ_some, oQ_ite, bqS_ok, bqS_ex, sqS_nx, sqS_rt, sqS_bk, sqS_ct, sqS_ex, wpS_next, wpS_break, wpS_cont, wpS_retN, wpS_setT, stQ_some, wp_C, wp_call, wp_callv, bqF_ok, bqF_ex, wp_new, wp_newv, fqS_nx, fqS_rt, fqS_ex, wpS_for, wp_comp, wp_dVar, vQ_v, vQ_o, List.getElem?_cons_zero, List.getElem?_cons_succ, List.set_cons_zero, List.set_cons_succ, wp_d1, wp_k1, wp_d2, wp_k2, wp_k2b, wp_dT, wp_kT, wp_dTru, wp_kTru, wp_dNotT, wp_kNot, wp_dAndT, wp_kAnd, wp_dOrT, wp_kOr, wp_dAndV, wp_kAndV, wp_kAndVb, wp_dOrV, wp_kOrV, wp_kOrVb, wp_dNotV, wp_kNotV, wp_kNotVb, wp_dIf, wp_kIf, wp_dChain, wp_kCh, wp_kCh2, wp_kCh3, wp_aNil, wp_aCons, wp_kCons, wp_kCons2, wp_dTup, wp_kTup, wp_dLst, wp_kLst, wp_dN, wp_kN, wp_dLs, wp_kLs, wp_lDisp, wp_kDisp, wp_lRng, wp_kRng, wp_dItR, wp_kItR, wp_dItS, wp_kItS, wp_tTrue, wp_oNo, wp_oSome, wp_kSome, wp_dSl, wp_kSl, wp_kSl1, wp_kSl2, ws_ret, ws_kRet, ws_expr, ws_kExpr, ws_if, ws_kIfS, ws_set, ws_kSet, ws_setO, ws_kSetO, ws_kSetT, ws_setR, ws_kSetR0, ws_kSetR1, ws_kSetR2, items_t, items_ft, items_l, items_r, setAll, Bool.not_true, Bool.not_false, if_true, ite_true, ite_false, ↓reduceIte, Bool.false_eq_true, Int.reduceLT, Int.reduceLE, Nat.reduceLT, Nat.reduceLeDiff, Nat.reducePow, Int.reducePow, Int.reduceToNat, Int.reduceNeg, Int.reduceSub, Int.reduceAdd, and_self, and_true, true_and, decide_eq_true_eq, decide_true, decide_false, List.length_map, ixN_31, ixN_32, ixN_30, wipeE, restE, lcQ, Option.getD_some, add_i, add_t, add_l, sub_i, mul_i, mul_t, mul_l, fdiv_i, mod_i, pow_18, neg_i, lt_i, le_i, gt_i, ge_i, eq_i, ne_i, eq_b, len_t, len_ft, len_l, len_r, abs_i, int_i, list_t, list_ft, list_l, list_r, tuple_t, tuple_ft, tuple_l, isi_i, isi_b, isi_s, isi_t, isi_ft, isi_l, isi_r, isi_n, tru_b, tru_i, tru_t, tru_ft, tru_l, tru_n, isN_n, isN_b, isN_i, isN_s, isN_t, isN_l, ix_t, ix_ft, ix_l, ix_r, ix_ref, setS_ref, atI_0, atI_1, atI_2, Option.map_some, Option.map_none, kb0, kb1, kb2, kb3, kb4, kb5, kb6, kb7, kb8, kb9, kb10, kb11, kb12, kb13, kb14, kb15, kb16, kb17, kb18, kb19, kb20, kb21, kb22, kb23, kb24, kb25, kb26, kb27, kb28, kb29, sz0, szl0, sz1, szl1, sz2, szl2, sz3, szl3, sz4, szl4, sz5, szl5, sz6, szl6, sz7, szl7, sz8, szl8, sz9, szl9, sz10, szl10, sz11, szl11, sz12, szl12, sz13, szl13, sz14, szl14, sz15, szl15, sz16, szl16, sz17, szl17, sz18, szl18, sz19, szl19, sz20, szl20, sz21, szl21, sz22, szl22, sz23, szl23, sz24, szl24, sz25, szl25, sz26, szl26, sz27, szl27, sz28, szl28, sz29, szl29, sz30, szl30, sz31, szl31, sz32, szl32, sz33, szl33, sz34, szl34, sz35, szl35, sz36, szl36, sz37, szl37, sz38, szl38, sz39, szl39, sz40, szl40, en]
  have hll := lay_len hA
  have ht : (lay P ++ List.replicate k 32).length ≤ 202 := by rw [List.length_append, List.length_replicate]; omega
  have hG : ∀ x ∈ P, x.1 ≤ 300 ∧ x.2 ∈ wordsG := fun x hx => ⟨by have := (hA x hx).1; omega, hW _ (List.mem_map_of_mem hx)⟩
  have hlow : ∀ c ∈ lay P ++ List.replicate k 32, c < 128 ∧ c ≠ 10 := fun c hc => by
    rcases List.mem_append.mp hc with hc | hc
    · exact lay_low (fun x hx => (hA x hx).2) c hc
    · rw [(List.mem_replicate.mp hc).2]; decide
  have told : ∀ {S : Stor} {Q : OutF → Prop}, Q (.ok (.ref S.length) (sT S (dueV P (((lay P ++ List.replicate k 32).length : Nat) + 1)))) → wpF d__law_told_v23 [.str (tx (lay P ++ List.replicate k 32))] S Q := fun {S Q} hq => told_good (S := S) g hG (by omega) (by omega) hq
  have dl : ∀ N, (dueV P N).length = P.length + 1 := fun N => by unfold dueV; rw [List.length_append, toks_len]; rfl
  have df := fun N => due_fine (P := P) (N := N) fun x hx => (hA x hx).2
  obtain ⟨n, hn, hn1⟩ : ∃ n : Nat, 300 - ((lay P ++ List.replicate k 32).length : Int) = (n : Int) ∧ n + (lay P ++ List.replicate k 32).length = 300 := ⟨300 - (lay P ++ List.replicate k 32).length, by omega, by omega⟩
  obtain ⟨L, k', eL, gL, hGL, hLl⟩ := widen (k := k) (n := n) g hG (by omega) (by omega)
  have hLn : (lay L ++ List.replicate k' 32).length = 300 := by rw [← eL, List.length_append, List.length_replicate]; omega
  have told2 : ∀ {S : Stor} {Q : OutF → Prop}, (∀ T, Q (.ok (.ref S.length) (sT S T))) → wpF d__law_told_v23 [.str (tx (List.replicate n 32 ++ (lay P ++ List.replicate k 32)))] S Q := fun {S Q} hq => by
    rw [eL]
    exact told_good (S := S) gL hGL (by omega) hLl (hq _)
  generalize hN : (((lay P ++ List.replicate k 32).length : Nat) : Int) + 1 = N at *
  unfold d_law_k65_b6; rw [wpS_seq, ws_at (k65_s6 (fun w hw => hW w hw) (by omega))]
  generalize htx : lay P ++ List.replicate k 32 = t at *
  rw [sqS_nx]
  unfold d_law_k65_b7; rw [wpS_seq]; unfold d_law_k65_s7 E65
  simp only [List.replicate, List.cons_append, List.nil_append, List.length_cons, List.length_nil, Nat.reduceAdd, bq_ok, bq_ex, wp_pure, wp_fail, wp_getS, oQ_some, oQ_ite, bqS_ok, bqS_ex, sqS_nx, sqS_rt, sqS_bk, sqS_ct, sqS_ex, wpS_next, wpS_break, wpS_cont, wpS_retN, wpS_setT, stQ_some, wp_C, wp_call, wp_callv, bqF_ok, bqF_ex, wp_new, wp_newv, fqS_nx, fqS_rt, fqS_ex, wpS_for, wp_comp, wp_dVar, vQ_v, vQ_o, List.getElem?_cons_zero, List.getElem?_cons_succ, List.set_cons_zero, List.set_cons_succ, wp_d1, wp_k1, wp_d2, wp_k2, wp_k2b, wp_dT, wp_kT, wp_dTru, wp_kTru, wp_dNotT, wp_kNot, wp_dAndT, wp_kAnd, wp_dOrT, wp_kOr, wp_dAndV, wp_kAndV, wp_kAndVb, wp_dOrV, wp_kOrV, wp_kOrVb, wp_dNotV, wp_kNotV, wp_kNotVb, wp_dIf, wp_kIf, wp_dChain, wp_kCh, wp_kCh2, wp_kCh3, wp_aNil, wp_aCons, wp_kCons, wp_kCons2, wp_dTup, wp_kTup, wp_dLst, wp_kLst, wp_dN, wp_kN, wp_dLs, wp_kLs, wp_lDisp, wp_kDisp, wp_lRng, wp_kRng, wp_dItR, wp_kItR, wp_dItS, wp_kItS, wp_tTrue, wp_oNo, wp_oSome, wp_kSome, wp_dSl, wp_kSl, wp_kSl1, wp_kSl2, ws_ret, ws_kRet, ws_expr, ws_kExpr, ws_if, ws_kIfS, ws_set, ws_kSet, ws_setO, ws_kSetO, ws_kSetT, ws_setR, ws_kSetR0, ws_kSetR1, ws_kSetR2, items_t, items_ft, items_l, items_r, setAll, Bool.not_true, Bool.not_false, if_true, ite_true, ite_false, ↓reduceIte, Bool.false_eq_true, Int.reduceLT, Int.reduceLE, Nat.reduceLT, Nat.reduceLeDiff, Nat.reducePow, Int.reducePow, Int.reduceToNat, Int.reduceNeg, Int.reduceSub, Int.reduceAdd, and_self, and_true, true_and, decide_eq_true_eq, decide_true, decide_false, List.length_map, ixN_31, ixN_32, ixN_30, wipeE, restE, lcQ, Option.getD_some, add_i, add_t, add_l, sub_i, mul_i, mul_t, mul_l, fdiv_i, mod_i, pow_18, neg_i, lt_i, le_i, gt_i, ge_i, eq_i, ne_i, eq_b, len_t, len_ft, len_l, len_r, abs_i, int_i, list_t, list_ft, list_l, list_r, tuple_t, tuple_ft, tuple_l, isi_i, isi_b, isi_s, isi_t, isi_ft, isi_l, isi_r, isi_n, tru_b, tru_i, tru_t, tru_ft, tru_l, tru_n, isN_n, isN_b, isN_i, isN_s, isN_t, isN_l, ix_t, ix_ft, ix_l, ix_r, ix_ref, setS_ref, atI_0, atI_1, atI_2, Option.map_some, Option.map_none, kb0, kb1, kb2, kb3, kb4, kb5, kb6, kb7, kb8, kb9, kb10, kb11, kb12, kb13, kb14, kb15, kb16, kb17, kb18, kb19, kb20, kb21, kb22, kb23, kb24, kb25, kb26, kb27, kb28, kb29, sz0, szl0, sz1, szl1, sz2, szl2, sz3, szl3, sz4, szl4, sz5, szl5, sz6, szl6, sz7, szl7, sz8, szl8, sz9, szl9, sz10, szl10, sz11, szl11, sz12, szl12, sz13, szl13, sz14, szl14, sz15, szl15, sz16, szl16, sz17, szl17, sz18, szl18, sz19, szl19, sz20, szl20, sz21, szl21, sz22, szl22, sz23, szl23, sz24, szl24, sz25, szl25, sz26, szl26, sz27, szl27, sz28, szl28, sz29, szl29, sz30, szl30, sz31, szl31, sz32, szl32, sz33, szl33, sz34, szl34, sz35, szl35, sz36, szl36, sz37, szl37, sz38, szl38, sz39, szl39, sz40, szl40]
  refine (told ?_ :)
  simp only [List.replicate, List.cons_append, List.nil_append, List.length_cons, List.length_nil, Nat.reduceAdd, bq_ok, bq_ex, wp_pure, wp_fail, wp_getS, oQ_some, oQ_ite, bqS_ok, bqS_ex, sqS_nx, sqS_rt, sqS_bk, sqS_ct, sqS_ex, wpS_next, wpS_break, wpS_cont, wpS_retN, wpS_setT, stQ_some, wp_C, wp_call, wp_callv, bqF_ok, bqF_ex, wp_new, wp_newv, fqS_nx, fqS_rt, fqS_ex, wpS_for, wp_comp, wp_dVar, vQ_v, vQ_o, List.getElem?_cons_zero, List.getElem?_cons_succ, List.set_cons_zero, List.set_cons_succ, wp_d1, wp_k1, wp_d2, wp_k2, wp_k2b, wp_dT, wp_kT, wp_dTru, wp_kTru, wp_dNotT, wp_kNot, wp_dAndT, wp_kAnd, wp_dOrT, wp_kOr, wp_dAndV, wp_kAndV, wp_kAndVb, wp_dOrV, wp_kOrV, wp_kOrVb, wp_dNotV, wp_kNotV, wp_kNotVb, wp_dIf, wp_kIf, wp_dChain, wp_kCh, wp_kCh2, wp_kCh3, wp_aNil, wp_aCons, wp_kCons, wp_kCons2, wp_dTup, wp_kTup, wp_dLst, wp_kLst, wp_dN, wp_kN, wp_dLs, wp_kLs, wp_lDisp, wp_kDisp, wp_lRng, wp_kRng, wp_dItR, wp_kItR, wp_dItS, wp_kItS, wp_tTrue, wp_oNo, wp_oSome, wp_kSome, wp_dSl, wp_kSl, wp_kSl1, wp_kSl2, ws_ret, ws_kRet, ws_expr, ws_kExpr, ws_if, ws_kIfS, ws_set, ws_kSet, ws_setO, ws_kSetO, ws_kSetT, ws_setR, ws_kSetR0, ws_kSetR1, ws_kSetR2, items_t, items_ft, items_l, items_r, setAll, Bool.not_true, Bool.not_false, if_true, ite_true, ite_false, ↓reduceIte, Bool.false_eq_true, Int.reduceLT, Int.reduceLE, Nat.reduceLT, Nat.reduceLeDiff, Nat.reducePow, Int.reducePow, Int.reduceToNat, Int.reduceNeg, Int.reduceSub, Int.reduceAdd, and_self, and_true, true_and, decide_eq_true_eq, decide_true, decide_false, List.length_map, ixN_31, ixN_32, ixN_30, wipeE, restE, lcQ, Option.getD_some, add_i, add_t, add_l, sub_i, mul_i, mul_t, mul_l, fdiv_i, mod_i, pow_18, neg_i, lt_i, le_i, gt_i, ge_i, eq_i, ne_i, eq_b, len_t, len_ft, len_l, len_r, abs_i, int_i, list_t, list_ft, list_l, list_r, tuple_t, tuple_ft, tuple_l, isi_i, isi_b, isi_s, isi_t, isi_ft, isi_l, isi_r, isi_n, tru_b, tru_i, tru_t, tru_ft, tru_l, tru_n, isN_n, isN_b, isN_i, isN_s, isN_t, isN_l, ix_t, ix_ft, ix_l, ix_r, ix_ref, setS_ref, atI_0, atI_1, atI_2, Option.map_some, Option.map_none, kb0, kb1, kb2, kb3, kb4, kb5, kb6, kb7, kb8, kb9, kb10, kb11, kb12, kb13, kb14, kb15, kb16, kb17, kb18, kb19, kb20, kb21, kb22, kb23, kb24, kb25, kb26, kb27, kb28, kb29, sz0, szl0, sz1, szl1, sz2, szl2, sz3, szl3, sz4, szl4, sz5, szl5, sz6, szl6, sz7, szl7, sz8, szl8, sz9, szl9, sz10, szl10, sz11, szl11, sz12, szl12, sz13, szl13, sz14, szl14, sz15, szl15, sz16, szl16, sz17, szl17, sz18, szl18, sz19, szl19, sz20, szl20, sz21, szl21, sz22, szl22, sz23, szl23, sz24, szl24, sz25, szl25, sz26, szl26, sz27, szl27, sz28, szl28, sz29, szl29, sz30, szl30, sz31, szl31, sz32, szl32, sz33, szl33, sz34, szl34, sz35, szl35, sz36, szl36, sz37, szl37, sz38, szl38, sz39, szl39, sz40, szl40]
  unfold d_law_k65_b8; rw [wpS_seq]; unfold d_law_k65_s8
  simp only [List.replicate, List.cons_append, List.nil_append, List.length_cons, List.length_nil, Nat.reduceAdd, bq_ok, bq_ex, wp_pure, wp_fail, wp_getS, oQ_some, oQ_ite, bqS_ok, bqS_ex, sqS_nx, sqS_rt, sqS_bk, sqS_ct, sqS_ex, wpS_next, wpS_break, wpS_cont, wpS_retN, wpS_setT, stQ_some, wp_C, wp_call, wp_callv, bqF_ok, bqF_ex, wp_new, wp_newv, fqS_nx, fqS_rt, fqS_ex, wpS_for, wp_comp, wp_dVar, vQ_v, vQ_o, List.getElem?_cons_zero, List.getElem?_cons_succ, List.set_cons_zero, List.set_cons_succ, wp_d1, wp_k1, wp_d2, wp_k2, wp_k2b, wp_dT, wp_kT, wp_dTru, wp_kTru, wp_dNotT, wp_kNot, wp_dAndT, wp_kAnd, wp_dOrT, wp_kOr, wp_dAndV, wp_kAndV, wp_kAndVb, wp_dOrV, wp_kOrV, wp_kOrVb, wp_dNotV, wp_kNotV, wp_kNotVb, wp_dIf, wp_kIf, wp_dChain, wp_kCh, wp_kCh2, wp_kCh3, wp_aNil, wp_aCons, wp_kCons, wp_kCons2, wp_dTup, wp_kTup, wp_dLst, wp_kLst, wp_dN, wp_kN, wp_dLs, wp_kLs, wp_lDisp, wp_kDisp, wp_lRng, wp_kRng, wp_dItR, wp_kItR, wp_dItS, wp_kItS, wp_tTrue, wp_oNo, wp_oSome, wp_kSome, wp_dSl, wp_kSl, wp_kSl1, wp_kSl2, ws_ret, ws_kRet, ws_expr, ws_kExpr, ws_if, ws_kIfS, ws_set, ws_kSet, ws_setO, ws_kSetO, ws_kSetT, ws_setR, ws_kSetR0, ws_kSetR1, ws_kSetR2, items_t, items_ft, items_l, items_r, setAll, Bool.not_true, Bool.not_false, if_true, ite_true, ite_false, ↓reduceIte, Bool.false_eq_true, Int.reduceLT, Int.reduceLE, Nat.reduceLT, Nat.reduceLeDiff, Nat.reducePow, Int.reducePow, Int.reduceToNat, Int.reduceNeg, Int.reduceSub, Int.reduceAdd, and_self, and_true, true_and, decide_eq_true_eq, decide_true, decide_false, List.length_map, ixN_31, ixN_32, ixN_30, wipeE, restE, lcQ, Option.getD_some, add_i, add_t, add_l, sub_i, mul_i, mul_t, mul_l, fdiv_i, mod_i, pow_18, neg_i, lt_i, le_i, gt_i, ge_i, eq_i, ne_i, eq_b, len_t, len_ft, len_l, len_r, abs_i, int_i, list_t, list_ft, list_l, list_r, tuple_t, tuple_ft, tuple_l, isi_i, isi_b, isi_s, isi_t, isi_ft, isi_l, isi_r, isi_n, tru_b, tru_i, tru_t, tru_ft, tru_l, tru_n, isN_n, isN_b, isN_i, isN_s, isN_t, isN_l, ix_t, ix_ft, ix_l, ix_r, ix_ref, setS_ref, atI_0, atI_1, atI_2, Option.map_some, Option.map_none, kb0, kb1, kb2, kb3, kb4, kb5, kb6, kb7, kb8, kb9, kb10, kb11, kb12, kb13, kb14, kb15, kb16, kb17, kb18, kb19, kb20, kb21, kb22, kb23, kb24, kb25, kb26, kb27, kb28, kb29, sz0, szl0, sz1, szl1, sz2, szl2, sz3, szl3, sz4, szl4, sz5, szl5, sz6, szl6, sz7, szl7, sz8, szl8, sz9, szl9, sz10, szl10, sz11, szl11, sz12, szl12, sz13, szl13, sz14, szl14, sz15, szl15, sz16, szl16, sz17, szl17, sz18, szl18, sz19, szl19, sz20, szl20, sz21, szl21, sz22, szl22, sz23, szl23, sz24, szl24, sz25, szl25, sz26, szl26, sz27, szl27, sz28, szl28, sz29, szl29, sz30, szl30, sz31, szl31, sz32, szl32, sz33, szl33, sz34, szl34, sz35, szl35, sz36, szl36, sz37, szl37, sz38, szl38, sz39, szl39, sz40, szl40]
  refine (wp_equal_ref (S := sT S1 (dueV P N)) sT_at (fun x hx => (df N x hx).1) (fun x hx => (df N x hx).2.1) (fun x hx => (df N x hx).2.2) (by rw [dl]; omega) ?_ :)
  simp only [List.replicate, List.cons_append, List.nil_append, List.length_cons, List.length_nil, Nat.reduceAdd, bq_ok, bq_ex, wp_pure, wp_fail, wp_getS, oQ_some, oQ_ite, bqS_ok, bqS_ex, sqS_nx, sqS_rt, sqS_bk, sqS_ct, sqS_ex, wpS_next, wpS_break, wpS_cont, wpS_retN, wpS_setT, stQ_some, wp_C, wp_call, wp_callv, bqF_ok, bqF_ex, wp_new, wp_newv, fqS_nx, fqS_rt, fqS_ex, wpS_for, wp_comp, wp_dVar, vQ_v, vQ_o, List.getElem?_cons_zero, List.getElem?_cons_succ, List.set_cons_zero, List.set_cons_succ, wp_d1, wp_k1, wp_d2, wp_k2, wp_k2b, wp_dT, wp_kT, wp_dTru, wp_kTru, wp_dNotT, wp_kNot, wp_dAndT, wp_kAnd, wp_dOrT, wp_kOr, wp_dAndV, wp_kAndV, wp_kAndVb, wp_dOrV, wp_kOrV, wp_kOrVb, wp_dNotV, wp_kNotV, wp_kNotVb, wp_dIf, wp_kIf, wp_dChain, wp_kCh, wp_kCh2, wp_kCh3, wp_aNil, wp_aCons, wp_kCons, wp_kCons2, wp_dTup, wp_kTup, wp_dLst, wp_kLst, wp_dN, wp_kN, wp_dLs, wp_kLs, wp_lDisp, wp_kDisp, wp_lRng, wp_kRng, wp_dItR, wp_kItR, wp_dItS, wp_kItS, wp_tTrue, wp_oNo, wp_oSome, wp_kSome, wp_dSl, wp_kSl, wp_kSl1, wp_kSl2, ws_ret, ws_kRet, ws_expr, ws_kExpr, ws_if, ws_kIfS, ws_set, ws_kSet, ws_setO, ws_kSetO, ws_kSetT, ws_setR, ws_kSetR0, ws_kSetR1, ws_kSetR2, items_t, items_ft, items_l, items_r, setAll, Bool.not_true, Bool.not_false, if_true, ite_true, ite_false, ↓reduceIte, Bool.false_eq_true, Int.reduceLT, Int.reduceLE, Nat.reduceLT, Nat.reduceLeDiff, Nat.reducePow, Int.reducePow, Int.reduceToNat, Int.reduceNeg, Int.reduceSub, Int.reduceAdd, and_self, and_true, true_and, decide_eq_true_eq, decide_true, decide_false, List.length_map, ixN_31, ixN_32, ixN_30, wipeE, restE, lcQ, Option.getD_some, add_i, add_t, add_l, sub_i, mul_i, mul_t, mul_l, fdiv_i, mod_i, pow_18, neg_i, lt_i, le_i, gt_i, ge_i, eq_i, ne_i, eq_b, len_t, len_ft, len_l, len_r, abs_i, int_i, list_t, list_ft, list_l, list_r, tuple_t, tuple_ft, tuple_l, isi_i, isi_b, isi_s, isi_t, isi_ft, isi_l, isi_r, isi_n, tru_b, tru_i, tru_t, tru_ft, tru_l, tru_n, isN_n, isN_b, isN_i, isN_s, isN_t, isN_l, ix_t, ix_ft, ix_l, ix_r, ix_ref, setS_ref, atI_0, atI_1, atI_2, Option.map_some, Option.map_none, kb0, kb1, kb2, kb3, kb4, kb5, kb6, kb7, kb8, kb9, kb10, kb11, kb12, kb13, kb14, kb15, kb16, kb17, kb18, kb19, kb20, kb21, kb22, kb23, kb24, kb25, kb26, kb27, kb28, kb29, sz0, szl0, sz1, szl1, sz2, szl2, sz3, szl3, sz4, szl4, sz5, szl5, sz6, szl6, sz7, szl7, sz8, szl8, sz9, szl9, sz10, szl10, sz11, szl11, sz12, szl12, sz13, szl13, sz14, szl14, sz15, szl15, sz16, szl16, sz17, szl17, sz18, szl18, sz19, szl19, sz20, szl20, sz21, szl21, sz22, szl22, sz23, szl23, sz24, szl24, sz25, szl25, sz26, szl26, sz27, szl27, sz28, szl28, sz29, szl29, sz30, szl30, sz31, szl31, sz32, szl32, sz33, szl33, sz34, szl34, sz35, szl35, sz36, szl36, sz37, szl37, sz38, szl38, sz39, szl39, sz40, szl40]
  unfold d_law_k65_b9; rw [wpS_seq]; unfold d_law_k65_s9
  rw [ws_appR]
  simp only [List.replicate, List.cons_append, List.nil_append, List.length_cons, List.length_nil, Nat.reduceAdd, bq_ok, bq_ex, wp_pure, wp_fail, wp_getS, oQ_some, oQ_ite, bqS_ok, bqS_ex, sqS_nx, sqS_rt, sqS_bk, sqS_ct, sqS_ex, wpS_next, wpS_break, wpS_cont, wpS_retN, wpS_setT, stQ_some, wp_C, wp_call, wp_callv, bqF_ok, bqF_ex, wp_new, wp_newv, fqS_nx, fqS_rt, fqS_ex, wpS_for, wp_comp, wp_dVar, vQ_v, vQ_o, List.getElem?_cons_zero, List.getElem?_cons_succ, List.set_cons_zero, List.set_cons_succ, wp_d1, wp_k1, wp_d2, wp_k2, wp_k2b, wp_dT, wp_kT, wp_dTru, wp_kTru, wp_dNotT, wp_kNot, wp_dAndT, wp_kAnd, wp_dOrT, wp_kOr, wp_dAndV, wp_kAndV, wp_kAndVb, wp_dOrV, wp_kOrV, wp_kOrVb, wp_dNotV, wp_kNotV, wp_kNotVb, wp_dIf, wp_kIf, wp_dChain, wp_kCh, wp_kCh2, wp_kCh3, wp_aNil, wp_aCons, wp_kCons, wp_kCons2, wp_dTup, wp_kTup, wp_dLst, wp_kLst, wp_dN, wp_kN, wp_dLs, wp_kLs, wp_lDisp, wp_kDisp, wp_lRng, wp_kRng, wp_dItR, wp_kItR, wp_dItS, wp_kItS, wp_tTrue, wp_oNo, wp_oSome, wp_kSome, wp_dSl, wp_kSl, wp_kSl1, wp_kSl2, ws_ret, ws_kRet, ws_expr, ws_kExpr, ws_if, ws_kIfS, ws_set, ws_kSet, ws_setO, ws_kSetO, ws_kSetT, ws_setR, ws_kSetR0, ws_kSetR1, ws_kSetR2, items_t, items_ft, items_l, items_r, setAll, Bool.not_true, Bool.not_false, if_true, ite_true, ite_false, ↓reduceIte, Bool.false_eq_true, Int.reduceLT, Int.reduceLE, Nat.reduceLT, Nat.reduceLeDiff, Nat.reducePow, Int.reducePow, Int.reduceToNat, Int.reduceNeg, Int.reduceSub, Int.reduceAdd, and_self, and_true, true_and, decide_eq_true_eq, decide_true, decide_false, List.length_map, ixN_31, ixN_32, ixN_30, wipeE, restE, lcQ, Option.getD_some, add_i, add_t, add_l, sub_i, mul_i, mul_t, mul_l, fdiv_i, mod_i, pow_18, neg_i, lt_i, le_i, gt_i, ge_i, eq_i, ne_i, eq_b, len_t, len_ft, len_l, len_r, abs_i, int_i, list_t, list_ft, list_l, list_r, tuple_t, tuple_ft, tuple_l, isi_i, isi_b, isi_s, isi_t, isi_ft, isi_l, isi_r, isi_n, tru_b, tru_i, tru_t, tru_ft, tru_l, tru_n, isN_n, isN_b, isN_i, isN_s, isN_t, isN_l, ix_t, ix_ft, ix_l, ix_r, ix_ref, setS_ref, atI_0, atI_1, atI_2, Option.map_some, Option.map_none, kb0, kb1, kb2, kb3, kb4, kb5, kb6, kb7, kb8, kb9, kb10, kb11, kb12, kb13, kb14, kb15, kb16, kb17, kb18, kb19, kb20, kb21, kb22, kb23, kb24, kb25, kb26, kb27, kb28, kb29, sz0, szl0, sz1, szl1, sz2, szl2, sz3, szl3, sz4, szl4, sz5, szl5, sz6, szl6, sz7, szl7, sz8, szl8, sz9, szl9, sz10, szl10, sz11, szl11, sz12, szl12, sz13, szl13, sz14, szl14, sz15, szl15, sz16, szl16, sz17, szl17, sz18, szl18, sz19, szl19, sz20, szl20, sz21, szl21, sz22, szl22, sz23, szl23, sz24, szl24, sz25, szl25, sz26, szl26, sz27, szl27, sz28, szl28, sz29, szl29, sz30, szl30, sz31, szl31, sz32, szl32, sz33, szl33, sz34, szl34, sz35, szl35, sz36, szl36, sz37, szl37, sz38, szl38, sz39, szl39, sz40, szl40]
  rw [ws_kAppR0 sT_at]
  simp only [List.replicate, List.cons_append, List.nil_append, List.length_cons, List.length_nil, Nat.reduceAdd, bq_ok, bq_ex, wp_pure, wp_fail, wp_getS, oQ_some, oQ_ite, bqS_ok, bqS_ex, sqS_nx, sqS_rt, sqS_bk, sqS_ct, sqS_ex, wpS_next, wpS_break, wpS_cont, wpS_retN, wpS_setT, stQ_some, wp_C, wp_call, wp_callv, bqF_ok, bqF_ex, wp_new, wp_newv, fqS_nx, fqS_rt, fqS_ex, wpS_for, wp_comp, wp_dVar, vQ_v, vQ_o, List.getElem?_cons_zero, List.getElem?_cons_succ, List.set_cons_zero, List.set_cons_succ, wp_d1, wp_k1, wp_d2, wp_k2, wp_k2b, wp_dT, wp_kT, wp_dTru, wp_kTru, wp_dNotT, wp_kNot, wp_dAndT, wp_kAnd, wp_dOrT, wp_kOr, wp_dAndV, wp_kAndV, wp_kAndVb, wp_dOrV, wp_kOrV, wp_kOrVb, wp_dNotV, wp_kNotV, wp_kNotVb, wp_dIf, wp_kIf, wp_dChain, wp_kCh, wp_kCh2, wp_kCh3, wp_aNil, wp_aCons, wp_kCons, wp_kCons2, wp_dTup, wp_kTup, wp_dLst, wp_kLst, wp_dN, wp_kN, wp_dLs, wp_kLs, wp_lDisp, wp_kDisp, wp_lRng, wp_kRng, wp_dItR, wp_kItR, wp_dItS, wp_kItS, wp_tTrue, wp_oNo, wp_oSome, wp_kSome, wp_dSl, wp_kSl, wp_kSl1, wp_kSl2, ws_ret, ws_kRet, ws_expr, ws_kExpr, ws_if, ws_kIfS, ws_set, ws_kSet, ws_setO, ws_kSetO, ws_kSetT, ws_setR, ws_kSetR0, ws_kSetR1, ws_kSetR2, items_t, items_ft, items_l, items_r, setAll, Bool.not_true, Bool.not_false, if_true, ite_true, ite_false, ↓reduceIte, Bool.false_eq_true, Int.reduceLT, Int.reduceLE, Nat.reduceLT, Nat.reduceLeDiff, Nat.reducePow, Int.reducePow, Int.reduceToNat, Int.reduceNeg, Int.reduceSub, Int.reduceAdd, and_self, and_true, true_and, decide_eq_true_eq, decide_true, decide_false, List.length_map, ixN_31, ixN_32, ixN_30, wipeE, restE, lcQ, Option.getD_some, add_i, add_t, add_l, sub_i, mul_i, mul_t, mul_l, fdiv_i, mod_i, pow_18, neg_i, lt_i, le_i, gt_i, ge_i, eq_i, ne_i, eq_b, len_t, len_ft, len_l, len_r, abs_i, int_i, list_t, list_ft, list_l, list_r, tuple_t, tuple_ft, tuple_l, isi_i, isi_b, isi_s, isi_t, isi_ft, isi_l, isi_r, isi_n, tru_b, tru_i, tru_t, tru_ft, tru_l, tru_n, isN_n, isN_b, isN_i, isN_s, isN_t, isN_l, ix_t, ix_ft, ix_l, ix_r, ix_ref, setS_ref, atI_0, atI_1, atI_2, Option.map_some, Option.map_none, kb0, kb1, kb2, kb3, kb4, kb5, kb6, kb7, kb8, kb9, kb10, kb11, kb12, kb13, kb14, kb15, kb16, kb17, kb18, kb19, kb20, kb21, kb22, kb23, kb24, kb25, kb26, kb27, kb28, kb29, sz0, szl0, sz1, szl1, sz2, szl2, sz3, szl3, sz4, szl4, sz5, szl5, sz6, szl6, sz7, szl7, sz8, szl8, sz9, szl9, sz10, szl10, sz11, szl11, sz12, szl12, sz13, szl13, sz14, szl14, sz15, szl15, sz16, szl16, sz17, szl17, sz18, szl18, sz19, szl19, sz20, szl20, sz21, szl21, sz22, szl22, sz23, szl23, sz24, szl24, sz25, szl25, sz26, szl26, sz27, szl27, sz28, szl28, sz29, szl29, sz30, szl30, sz31, szl31, sz32, szl32, sz33, szl33, sz34, szl34, sz35, szl35, sz36, szl36, sz37, szl37, sz38, szl38, sz39, szl39, sz40, szl40]
  rw [ws_kAppR1, appS_at sT_at (by rw [dl, sizeLine_eq]; omega), sT_set]
  simp only [List.replicate, List.cons_append, List.nil_append, List.length_cons, List.length_nil, Nat.reduceAdd, bq_ok, bq_ex, wp_pure, wp_fail, wp_getS, oQ_some, oQ_ite, bqS_ok, bqS_ex, sqS_nx, sqS_rt, sqS_bk, sqS_ct, sqS_ex, wpS_next, wpS_break, wpS_cont, wpS_retN, wpS_setT, stQ_some, wp_C, wp_call, wp_callv, bqF_ok, bqF_ex, wp_new, wp_newv, fqS_nx, fqS_rt, fqS_ex, wpS_for, wp_comp, wp_dVar, vQ_v, vQ_o, List.getElem?_cons_zero, List.getElem?_cons_succ, List.set_cons_zero, List.set_cons_succ, wp_d1, wp_k1, wp_d2, wp_k2, wp_k2b, wp_dT, wp_kT, wp_dTru, wp_kTru, wp_dNotT, wp_kNot, wp_dAndT, wp_kAnd, wp_dOrT, wp_kOr, wp_dAndV, wp_kAndV, wp_kAndVb, wp_dOrV, wp_kOrV, wp_kOrVb, wp_dNotV, wp_kNotV, wp_kNotVb, wp_dIf, wp_kIf, wp_dChain, wp_kCh, wp_kCh2, wp_kCh3, wp_aNil, wp_aCons, wp_kCons, wp_kCons2, wp_dTup, wp_kTup, wp_dLst, wp_kLst, wp_dN, wp_kN, wp_dLs, wp_kLs, wp_lDisp, wp_kDisp, wp_lRng, wp_kRng, wp_dItR, wp_kItR, wp_dItS, wp_kItS, wp_tTrue, wp_oNo, wp_oSome, wp_kSome, wp_dSl, wp_kSl, wp_kSl1, wp_kSl2, ws_ret, ws_kRet, ws_expr, ws_kExpr, ws_if, ws_kIfS, ws_set, ws_kSet, ws_setO, ws_kSetO, ws_kSetT, ws_setR, ws_kSetR0, ws_kSetR1, ws_kSetR2, items_t, items_ft, items_l, items_r, setAll, Bool.not_true, Bool.not_false, if_true, ite_true, ite_false, ↓reduceIte, Bool.false_eq_true, Int.reduceLT, Int.reduceLE, Nat.reduceLT, Nat.reduceLeDiff, Nat.reducePow, Int.reducePow, Int.reduceToNat, Int.reduceNeg, Int.reduceSub, Int.reduceAdd, and_self, and_true, true_and, decide_eq_true_eq, decide_true, decide_false, List.length_map, ixN_31, ixN_32, ixN_30, wipeE, restE, lcQ, Option.getD_some, add_i, add_t, add_l, sub_i, mul_i, mul_t, mul_l, fdiv_i, mod_i, pow_18, neg_i, lt_i, le_i, gt_i, ge_i, eq_i, ne_i, eq_b, len_t, len_ft, len_l, len_r, abs_i, int_i, list_t, list_ft, list_l, list_r, tuple_t, tuple_ft, tuple_l, isi_i, isi_b, isi_s, isi_t, isi_ft, isi_l, isi_r, isi_n, tru_b, tru_i, tru_t, tru_ft, tru_l, tru_n, isN_n, isN_b, isN_i, isN_s, isN_t, isN_l, ix_t, ix_ft, ix_l, ix_r, ix_ref, setS_ref, atI_0, atI_1, atI_2, Option.map_some, Option.map_none, kb0, kb1, kb2, kb3, kb4, kb5, kb6, kb7, kb8, kb9, kb10, kb11, kb12, kb13, kb14, kb15, kb16, kb17, kb18, kb19, kb20, kb21, kb22, kb23, kb24, kb25, kb26, kb27, kb28, kb29, sz0, szl0, sz1, szl1, sz2, szl2, sz3, szl3, sz4, szl4, sz5, szl5, sz6, szl6, sz7, szl7, sz8, szl8, sz9, szl9, sz10, szl10, sz11, szl11, sz12, szl12, sz13, szl13, sz14, szl14, sz15, szl15, sz16, szl16, sz17, szl17, sz18, szl18, sz19, szl19, sz20, szl20, sz21, szl21, sz22, szl22, sz23, szl23, sz24, szl24, sz25, szl25, sz26, szl26, sz27, szl27, sz28, szl28, sz29, szl29, sz30, szl30, sz31, szl31, sz32, szl32, sz33, szl33, sz34, szl34, sz35, szl35, sz36, szl36, sz37, szl37, sz38, szl38, sz39, szl39, sz40, szl40]
  have h3 : SInv (R ++ [.lst (dueV P N ++ [.non])]) (sT S1 (dueV P N ++ [.non])) := sinv_nw hs
  generalize sT S1 (dueV P N ++ [.non]) = S3 at *
  have lt : lenP S3 [.str (tx t)] = some (.int t.length) := len_tx (by rw [sizeLine_eq]; omega)
  unfold d_law_k65_b10; rw [wpS_seq]; unfold d_law_k65_s10
  simp only [List.cons_append, List.nil_append, List.length_cons, List.length_nil, Nat.reduceAdd, bq_ok, bq_ex, wp_pure, wp_fail, wp_getS, oQ_some, oQ_ite, bqS_ok, bqS_ex, sqS_nx, sqS_rt, sqS_bk, sqS_ct, sqS_ex, wpS_next, wpS_break, wpS_cont, wpS_retN, wpS_setT, stQ_some, wp_C, wp_call, wp_callv, bqF_ok, bqF_ex, wp_new, wp_newv, fqS_nx, fqS_rt, fqS_ex, wpS_for, wp_comp, wp_dVar, vQ_v, vQ_o, List.getElem?_cons_zero, List.getElem?_cons_succ, List.set_cons_zero, List.set_cons_succ, wp_d1, wp_k1, wp_d2, wp_k2, wp_k2b, wp_dT, wp_kT, wp_dTru, wp_kTru, wp_dNotT, wp_kNot, wp_dAndT, wp_kAnd, wp_dOrT, wp_kOr, wp_dAndV, wp_kAndV, wp_kAndVb, wp_dOrV, wp_kOrV, wp_kOrVb, wp_dNotV, wp_kNotV, wp_kNotVb, wp_dIf, wp_kIf, wp_dChain, wp_kCh, wp_kCh2, wp_kCh3, wp_aNil, wp_aCons, wp_kCons, wp_kCons2, wp_dTup, wp_kTup, wp_dLst, wp_kLst, wp_dN, wp_kN, wp_dLs, wp_kLs, wp_lDisp, wp_kDisp, wp_lRng, wp_kRng, wp_dItR, wp_kItR, wp_dItS, wp_kItS, wp_tTrue, wp_oNo, wp_oSome, wp_kSome, wp_dSl, wp_kSl, wp_kSl1, wp_kSl2, ws_ret, ws_kRet, ws_expr, ws_kExpr, ws_if, ws_kIfS, ws_set, ws_kSet, ws_setO, ws_kSetO, ws_kSetT, ws_setR, ws_kSetR0, ws_kSetR1, ws_kSetR2, items_t, items_ft, items_l, items_r, setAll, Bool.not_true, Bool.not_false, if_true, ite_true, ite_false, ↓reduceIte, Bool.false_eq_true, Int.reduceLT, Int.reduceLE, Nat.reduceLT, Nat.reduceLeDiff, Nat.reducePow, Int.reducePow, Int.reduceToNat, Int.reduceNeg, Int.reduceSub, Int.reduceAdd, and_self, and_true, true_and, decide_eq_true_eq, decide_true, decide_false, List.length_map, ixN_31, ixN_32, ixN_30, wipeE, restE, lcQ, Option.getD_some, add_i, add_t, add_l, sub_i, mul_i, mul_t, mul_l, fdiv_i, mod_i, pow_18, neg_i, lt_i, le_i, gt_i, ge_i, eq_i, ne_i, eq_b, len_t, len_ft, len_l, len_r, abs_i, int_i, list_t, list_ft, list_l, list_r, tuple_t, tuple_ft, tuple_l, isi_i, isi_b, isi_s, isi_t, isi_ft, isi_l, isi_r, isi_n, tru_b, tru_i, tru_t, tru_ft, tru_l, tru_n, isN_n, isN_b, isN_i, isN_s, isN_t, isN_l, ix_t, ix_ft, ix_l, ix_r, ix_ref, setS_ref, atI_0, atI_1, atI_2, Option.map_some, Option.map_none, kb0, kb1, kb2, kb3, kb4, kb5, kb6, kb7, kb8, kb9, kb10, kb11, kb12, kb13, kb14, kb15, kb16, kb17, kb18, kb19, kb20, kb21, kb22, kb23, kb24, kb25, kb26, kb27, kb28, kb29, sz0, szl0, sz1, szl1, sz2, szl2, sz3, szl3, sz4, szl4, sz5, szl5, sz6, szl6, sz7, szl7, sz8, szl8, sz9, szl9, sz10, szl10, sz11, szl11, sz12, szl12, sz13, szl13, sz14, szl14, sz15, szl15, sz16, szl16, sz17, szl17, sz18, szl18, sz19, szl19, sz20, szl20, sz21, szl21, sz22, szl22, sz23, szl23, sz24, szl24, sz25, szl25, sz26, szl26, sz27, szl27, sz28, szl28, sz29, szl29, sz30, szl30, sz31, szl31, sz32, szl32, sz33, szl33, sz34, szl34, sz35, szl35, sz36, szl36, sz37, szl37, sz38, szl38, sz39, szl39, sz40, szl40, lt, hn, mul_bl (S := S3) (n := n) (by omega) (by omega)]
  unfold d_law_k65_b11; rw [wpS_seq]; unfold d_law_k65_s11
  have a1 : addP S3 (.str (tx t)) (.str "\n") = some (.str (tx (t ++ [10]))) := by rw [nl_tx]; exact add_tx (by rw [List.length_singleton, sizeLine_eq]; omega)
  have a2 : ∀ S, addP S (.str (tx (List.replicate n 32))) (.str (tx t)) = some (.str (tx (List.replicate n 32 ++ t))) := fun S => add_tx (by rw [List.length_replicate, sizeLine_eq]; omega)
  have a3 : addP S3 (.str (tx (List.replicate n 32 ++ t))) (.str " ") = some (.str (tx (List.replicate n 32 ++ t ++ [32]))) := by rw [bl_tx]; exact add_tx (by rw [List.length_append, List.length_replicate, List.length_singleton, sizeLine_eq]; omega)
  simp only [List.cons_append, List.nil_append, List.length_cons, List.length_nil, Nat.reduceAdd, bq_ok, bq_ex, wp_pure, wp_fail, wp_getS, oQ_some, oQ_ite, bqS_ok, bqS_ex, sqS_nx, sqS_rt, sqS_bk, sqS_ct, sqS_ex, wpS_next, wpS_break, wpS_cont, wpS_retN, wpS_setT, stQ_some, wp_C, wp_call, wp_callv, bqF_ok, bqF_ex, wp_new, wp_newv, fqS_nx, fqS_rt, fqS_ex, wpS_for, wp_comp, wp_dVar, vQ_v, vQ_o, List.getElem?_cons_zero, List.getElem?_cons_succ, List.set_cons_zero, List.set_cons_succ, wp_d1, wp_k1, wp_d2, wp_k2, wp_k2b, wp_dT, wp_kT, wp_dTru, wp_kTru, wp_dNotT, wp_kNot, wp_dAndT, wp_kAnd, wp_dOrT, wp_kOr, wp_dAndV, wp_kAndV, wp_kAndVb, wp_dOrV, wp_kOrV, wp_kOrVb, wp_dNotV, wp_kNotV, wp_kNotVb, wp_dIf, wp_kIf, wp_dChain, wp_kCh, wp_kCh2, wp_kCh3, wp_aNil, wp_aCons, wp_kCons, wp_kCons2, wp_dTup, wp_kTup, wp_dLst, wp_kLst, wp_dN, wp_kN, wp_dLs, wp_kLs, wp_lDisp, wp_kDisp, wp_lRng, wp_kRng, wp_dItR, wp_kItR, wp_dItS, wp_kItS, wp_tTrue, wp_oNo, wp_oSome, wp_kSome, wp_dSl, wp_kSl, wp_kSl1, wp_kSl2, ws_ret, ws_kRet, ws_expr, ws_kExpr, ws_if, ws_kIfS, ws_set, ws_kSet, ws_setO, ws_kSetO, ws_kSetT, ws_setR, ws_kSetR0, ws_kSetR1, ws_kSetR2, items_t, items_ft, items_l, items_r, setAll, Bool.not_true, Bool.not_false, if_true, ite_true, ite_false, ↓reduceIte, Bool.false_eq_true, Int.reduceLT, Int.reduceLE, Nat.reduceLT, Nat.reduceLeDiff, Nat.reducePow, Int.reducePow, Int.reduceToNat, Int.reduceNeg, Int.reduceSub, Int.reduceAdd, and_self, and_true, true_and, decide_eq_true_eq, decide_true, decide_false, List.length_map, ixN_31, ixN_32, ixN_30, wipeE, restE, lcQ, Option.getD_some, add_i, add_t, add_l, sub_i, mul_i, mul_t, mul_l, fdiv_i, mod_i, pow_18, neg_i, lt_i, le_i, gt_i, ge_i, eq_i, ne_i, eq_b, len_t, len_ft, len_l, len_r, abs_i, int_i, list_t, list_ft, list_l, list_r, tuple_t, tuple_ft, tuple_l, isi_i, isi_b, isi_s, isi_t, isi_ft, isi_l, isi_r, isi_n, tru_b, tru_i, tru_t, tru_ft, tru_l, tru_n, isN_n, isN_b, isN_i, isN_s, isN_t, isN_l, ix_t, ix_ft, ix_l, ix_r, ix_ref, setS_ref, atI_0, atI_1, atI_2, Option.map_some, Option.map_none, kb0, kb1, kb2, kb3, kb4, kb5, kb6, kb7, kb8, kb9, kb10, kb11, kb12, kb13, kb14, kb15, kb16, kb17, kb18, kb19, kb20, kb21, kb22, kb23, kb24, kb25, kb26, kb27, kb28, kb29, sz0, szl0, sz1, szl1, sz2, szl2, sz3, szl3, sz4, szl4, sz5, szl5, sz6, szl6, sz7, szl7, sz8, szl8, sz9, szl9, sz10, szl10, sz11, szl11, sz12, szl12, sz13, szl13, sz14, szl14, sz15, szl15, sz16, szl16, sz17, szl17, sz18, szl18, sz19, szl19, sz20, szl20, sz21, szl21, sz22, szl22, sz23, szl23, sz24, szl24, sz25, szl25, sz26, szl26, sz27, szl27, sz28, szl28, sz29, szl29, sz30, szl30, sz31, szl31, sz32, szl32, sz33, szl33, sz34, szl34, sz35, szl35, sz36, szl36, sz37, szl37, sz38, szl38, sz39, szl39, sz40, szl40, a1, a2, a3]
  refine wp_pick h3 (by simp) (by simp) fun bad S4 hb h4 => ?_
  have hbad : NoText bad := by
    simp only [List.mem_cons, List.not_mem_nil, or_false] at hb
    rcases hb with rfl | rfl | rfl | rfl | rfl | rfl
    · exact noT_not fun _ => rfl
    · exact noT_not fun _ => rfl
    · exact noT_tx (by rw [List.length_append, List.length_singleton]; omega) (.inr (by simp))
    · rw [nl_tx]; exact noT_tx (by decide) (.inr (by simp))
    · refine noT_tx ?_ (.inl ?_) <;> (rw [List.length_append, List.length_append, List.length_replicate, List.length_singleton]; omega)
    · exact noT_not fun _ => rfl
  simp only [List.cons_append, List.nil_append, List.length_cons, List.length_nil, Nat.reduceAdd, bq_ok, bq_ex, wp_pure, wp_fail, wp_getS, oQ_some, oQ_ite, bqS_ok, bqS_ex, sqS_nx, sqS_rt, sqS_bk, sqS_ct, sqS_ex, wpS_next, wpS_break, wpS_cont, wpS_retN, wpS_setT, stQ_some, wp_C, wp_call, wp_callv, bqF_ok, bqF_ex, wp_new, wp_newv, fqS_nx, fqS_rt, fqS_ex, wpS_for, wp_comp, wp_dVar, vQ_v, vQ_o, List.getElem?_cons_zero, List.getElem?_cons_succ, List.set_cons_zero, List.set_cons_succ, wp_d1, wp_k1, wp_d2, wp_k2, wp_k2b, wp_dT, wp_kT, wp_dTru, wp_kTru, wp_dNotT, wp_kNot, wp_dAndT, wp_kAnd, wp_dOrT, wp_kOr, wp_dAndV, wp_kAndV, wp_kAndVb, wp_dOrV, wp_kOrV, wp_kOrVb, wp_dNotV, wp_kNotV, wp_kNotVb, wp_dIf, wp_kIf, wp_dChain, wp_kCh, wp_kCh2, wp_kCh3, wp_aNil, wp_aCons, wp_kCons, wp_kCons2, wp_dTup, wp_kTup, wp_dLst, wp_kLst, wp_dN, wp_kN, wp_dLs, wp_kLs, wp_lDisp, wp_kDisp, wp_lRng, wp_kRng, wp_dItR, wp_kItR, wp_dItS, wp_kItS, wp_tTrue, wp_oNo, wp_oSome, wp_kSome, wp_dSl, wp_kSl, wp_kSl1, wp_kSl2, ws_ret, ws_kRet, ws_expr, ws_kExpr, ws_if, ws_kIfS, ws_set, ws_kSet, ws_setO, ws_kSetO, ws_kSetT, ws_setR, ws_kSetR0, ws_kSetR1, ws_kSetR2, items_t, items_ft, items_l, items_r, setAll, Bool.not_true, Bool.not_false, if_true, ite_true, ite_false, ↓reduceIte, Bool.false_eq_true, Int.reduceLT, Int.reduceLE, Nat.reduceLT, Nat.reduceLeDiff, Nat.reducePow, Int.reducePow, Int.reduceToNat, Int.reduceNeg, Int.reduceSub, Int.reduceAdd, and_self, and_true, true_and, decide_eq_true_eq, decide_true, decide_false, List.length_map, ixN_31, ixN_32, ixN_30, wipeE, restE, lcQ, Option.getD_some, add_i, add_t, add_l, sub_i, mul_i, mul_t, mul_l, fdiv_i, mod_i, pow_18, neg_i, lt_i, le_i, gt_i, ge_i, eq_i, ne_i, eq_b, len_t, len_ft, len_l, len_r, abs_i, int_i, list_t, list_ft, list_l, list_r, tuple_t, tuple_ft, tuple_l, isi_i, isi_b, isi_s, isi_t, isi_ft, isi_l, isi_r, isi_n, tru_b, tru_i, tru_t, tru_ft, tru_l, tru_n, isN_n, isN_b, isN_i, isN_s, isN_t, isN_l, ix_t, ix_ft, ix_l, ix_r, ix_ref, setS_ref, atI_0, atI_1, atI_2, Option.map_some, Option.map_none, kb0, kb1, kb2, kb3, kb4, kb5, kb6, kb7, kb8, kb9, kb10, kb11, kb12, kb13, kb14, kb15, kb16, kb17, kb18, kb19, kb20, kb21, kb22, kb23, kb24, kb25, kb26, kb27, kb28, kb29, sz0, szl0, sz1, szl1, sz2, szl2, sz3, szl3, sz4, szl4, sz5, szl5, sz6, szl6, sz7, szl7, sz8, szl8, sz9, szl9, sz10, szl10, sz11, szl11, sz12, szl12, sz13, szl13, sz14, szl14, sz15, szl15, sz16, szl16, sz17, szl17, sz18, szl18, sz19, szl19, sz20, szl20, sz21, szl21, sz22, szl22, sz23, szl23, sz24, szl24, sz25, szl25, sz26, szl26, sz27, szl27, sz28, szl28, sz29, szl29, sz30, szl30, sz31, szl31, sz32, szl32, sz33, szl33, sz34, szl34, sz35, szl35, sz36, szl36, sz37, szl37, sz38, szl38, sz39, szl39, sz40, szl40]
  unfold d_law_k65_b12 d_law_k65_s12
  simp only [List.cons_append, List.nil_append, List.length_cons, List.length_nil, Nat.reduceAdd, bq_ok, bq_ex, wp_pure, wp_fail, wp_getS, oQ_some, oQ_ite, bqS_ok, bqS_ex, sqS_nx, sqS_rt, sqS_bk, sqS_ct, sqS_ex, wpS_next, wpS_break, wpS_cont, wpS_retN, wpS_setT, stQ_some, wp_C, wp_call, wp_callv, bqF_ok, bqF_ex, wp_new, wp_newv, fqS_nx, fqS_rt, fqS_ex, wpS_for, wp_comp, wp_dVar, vQ_v, vQ_o, List.getElem?_cons_zero, List.getElem?_cons_succ, List.set_cons_zero, List.set_cons_succ, wp_d1, wp_k1, wp_d2, wp_k2, wp_k2b, wp_dT, wp_kT, wp_dTru, wp_kTru, wp_dNotT, wp_kNot, wp_dAndT, wp_kAnd, wp_dOrT, wp_kOr, wp_dAndV, wp_kAndV, wp_kAndVb, wp_dOrV, wp_kOrV, wp_kOrVb, wp_dNotV, wp_kNotV, wp_kNotVb, wp_dIf, wp_kIf, wp_dChain, wp_kCh, wp_kCh2, wp_kCh3, wp_aNil, wp_aCons, wp_kCons, wp_kCons2, wp_dTup, wp_kTup, wp_dLst, wp_kLst, wp_dN, wp_kN, wp_dLs, wp_kLs, wp_lDisp, wp_kDisp, wp_lRng, wp_kRng, wp_dItR, wp_kItR, wp_dItS, wp_kItS, wp_tTrue, wp_oNo, wp_oSome, wp_kSome, wp_dSl, wp_kSl, wp_kSl1, wp_kSl2, ws_ret, ws_kRet, ws_expr, ws_kExpr, ws_if, ws_kIfS, ws_set, ws_kSet, ws_setO, ws_kSetO, ws_kSetT, ws_setR, ws_kSetR0, ws_kSetR1, ws_kSetR2, items_t, items_ft, items_l, items_r, setAll, Bool.not_true, Bool.not_false, if_true, ite_true, ite_false, ↓reduceIte, Bool.false_eq_true, Int.reduceLT, Int.reduceLE, Nat.reduceLT, Nat.reduceLeDiff, Nat.reducePow, Int.reducePow, Int.reduceToNat, Int.reduceNeg, Int.reduceSub, Int.reduceAdd, and_self, and_true, true_and, decide_eq_true_eq, decide_true, decide_false, List.length_map, ixN_31, ixN_32, ixN_30, wipeE, restE, lcQ, Option.getD_some, add_i, add_t, add_l, sub_i, mul_i, mul_t, mul_l, fdiv_i, mod_i, pow_18, neg_i, lt_i, le_i, gt_i, ge_i, eq_i, ne_i, eq_b, len_t, len_ft, len_l, len_r, abs_i, int_i, list_t, list_ft, list_l, list_r, tuple_t, tuple_ft, tuple_l, isi_i, isi_b, isi_s, isi_t, isi_ft, isi_l, isi_r, isi_n, tru_b, tru_i, tru_t, tru_ft, tru_l, tru_n, isN_n, isN_b, isN_i, isN_s, isN_t, isN_l, ix_t, ix_ft, ix_l, ix_r, ix_ref, setS_ref, atI_0, atI_1, atI_2, Option.map_some, Option.map_none, kb0, kb1, kb2, kb3, kb4, kb5, kb6, kb7, kb8, kb9, kb10, kb11, kb12, kb13, kb14, kb15, kb16, kb17, kb18, kb19, kb20, kb21, kb22, kb23, kb24, kb25, kb26, kb27, kb28, kb29, sz0, szl0, sz1, szl1, sz2, szl2, sz3, szl3, sz4, szl4, sz5, szl5, sz6, szl6, sz7, szl7, sz8, szl8, sz9, szl9, sz10, szl10, sz11, szl11, sz12, szl12, sz13, szl13, sz14, szl14, sz15, szl15, sz16, szl16, sz17, szl17, sz18, szl18, sz19, szl19, sz20, szl20, sz21, szl21, sz22, szl22, sz23, szl23, sz24, szl24, sz25, szl25, sz26, szl26, sz27, szl27, sz28, szl28, sz29, szl29, sz30, szl30, sz31, szl31, sz32, szl32, sz33, szl33, sz34, szl34, sz35, szl35, sz36, szl36, sz37, szl37, sz38, szl38, sz39, szl39, sz40, szl40]
  refine (told ?_ :)
  simp only [List.cons_append, List.nil_append, List.length_cons, List.length_nil, Nat.reduceAdd, bq_ok, bq_ex, wp_pure, wp_fail, wp_getS, oQ_some, oQ_ite, bqS_ok, bqS_ex, sqS_nx, sqS_rt, sqS_bk, sqS_ct, sqS_ex, wpS_next, wpS_break, wpS_cont, wpS_retN, wpS_setT, stQ_some, wp_C, wp_call, wp_callv, bqF_ok, bqF_ex, wp_new, wp_newv, fqS_nx, fqS_rt, fqS_ex, wpS_for, wp_comp, wp_dVar, vQ_v, vQ_o, List.getElem?_cons_zero, List.getElem?_cons_succ, List.set_cons_zero, List.set_cons_succ, wp_d1, wp_k1, wp_d2, wp_k2, wp_k2b, wp_dT, wp_kT, wp_dTru, wp_kTru, wp_dNotT, wp_kNot, wp_dAndT, wp_kAnd, wp_dOrT, wp_kOr, wp_dAndV, wp_kAndV, wp_kAndVb, wp_dOrV, wp_kOrV, wp_kOrVb, wp_dNotV, wp_kNotV, wp_kNotVb, wp_dIf, wp_kIf, wp_dChain, wp_kCh, wp_kCh2, wp_kCh3, wp_aNil, wp_aCons, wp_kCons, wp_kCons2, wp_dTup, wp_kTup, wp_dLst, wp_kLst, wp_dN, wp_kN, wp_dLs, wp_kLs, wp_lDisp, wp_kDisp, wp_lRng, wp_kRng, wp_dItR, wp_kItR, wp_dItS, wp_kItS, wp_tTrue, wp_oNo, wp_oSome, wp_kSome, wp_dSl, wp_kSl, wp_kSl1, wp_kSl2, ws_ret, ws_kRet, ws_expr, ws_kExpr, ws_if, ws_kIfS, ws_set, ws_kSet, ws_setO, ws_kSetO, ws_kSetT, ws_setR, ws_kSetR0, ws_kSetR1, ws_kSetR2, items_t, items_ft, items_l, items_r, setAll, Bool.not_true, Bool.not_false, if_true, ite_true, ite_false, ↓reduceIte, Bool.false_eq_true, Int.reduceLT, Int.reduceLE, Nat.reduceLT, Nat.reduceLeDiff, Nat.reducePow, Int.reducePow, Int.reduceToNat, Int.reduceNeg, Int.reduceSub, Int.reduceAdd, and_self, and_true, true_and, decide_eq_true_eq, decide_true, decide_false, List.length_map, ixN_31, ixN_32, ixN_30, wipeE, restE, lcQ, Option.getD_some, add_i, add_t, add_l, sub_i, mul_i, mul_t, mul_l, fdiv_i, mod_i, pow_18, neg_i, lt_i, le_i, gt_i, ge_i, eq_i, ne_i, eq_b, len_t, len_ft, len_l, len_r, abs_i, int_i, list_t, list_ft, list_l, list_r, tuple_t, tuple_ft, tuple_l, isi_i, isi_b, isi_s, isi_t, isi_ft, isi_l, isi_r, isi_n, tru_b, tru_i, tru_t, tru_ft, tru_l, tru_n, isN_n, isN_b, isN_i, isN_s, isN_t, isN_l, ix_t, ix_ft, ix_l, ix_r, ix_ref, setS_ref, atI_0, atI_1, atI_2, Option.map_some, Option.map_none, kb0, kb1, kb2, kb3, kb4, kb5, kb6, kb7, kb8, kb9, kb10, kb11, kb12, kb13, kb14, kb15, kb16, kb17, kb18, kb19, kb20, kb21, kb22, kb23, kb24, kb25, kb26, kb27, kb28, kb29, sz0, szl0, sz1, szl1, sz2, szl2, sz3, szl3, sz4, szl4, sz5, szl5, sz6, szl6, sz7, szl7, sz8, szl8, sz9, szl9, sz10, szl10, sz11, szl11, sz12, szl12, sz13, szl13, sz14, szl14, sz15, szl15, sz16, szl16, sz17, szl17, sz18, szl18, sz19, szl19, sz20, szl20, sz21, szl21, sz22, szl22, sz23, szl23, sz24, szl24, sz25, szl25, sz26, szl26, sz27, szl27, sz28, szl28, sz29, szl29, sz30, szl30, sz31, szl31, sz32, szl32, sz33, szl33, sz34, szl34, sz35, szl35, sz36, szl36, sz37, szl37, sz38, szl38, sz39, szl39, sz40, szl40]
  refine (wp_equal_ref (S := sT S4 (dueV P N)) sT_at (fun x hx => (df N x hx).1) (fun x hx => (df N x hx).2.1) (fun x hx => (df N x hx).2.2) (by rw [dl]; omega) ?_ :)
  have eq : ∀ S : Stor, eqP S (.str "text") (.str "text") = some (.bl true) := fun _ => by kernel_rfl
  simp only [List.cons_append, List.nil_append, List.length_cons, List.length_nil, Nat.reduceAdd, bq_ok, bq_ex, wp_pure, wp_fail, wp_getS, oQ_some, oQ_ite, bqS_ok, bqS_ex, sqS_nx, sqS_rt, sqS_bk, sqS_ct, sqS_ex, wpS_next, wpS_break, wpS_cont, wpS_retN, wpS_setT, stQ_some, wp_C, wp_call, wp_callv, bqF_ok, bqF_ex, wp_new, wp_newv, fqS_nx, fqS_rt, fqS_ex, wpS_for, wp_comp, wp_dVar, vQ_v, vQ_o, List.getElem?_cons_zero, List.getElem?_cons_succ, List.set_cons_zero, List.set_cons_succ, wp_d1, wp_k1, wp_d2, wp_k2, wp_k2b, wp_dT, wp_kT, wp_dTru, wp_kTru, wp_dNotT, wp_kNot, wp_dAndT, wp_kAnd, wp_dOrT, wp_kOr, wp_dAndV, wp_kAndV, wp_kAndVb, wp_dOrV, wp_kOrV, wp_kOrVb, wp_dNotV, wp_kNotV, wp_kNotVb, wp_dIf, wp_kIf, wp_dChain, wp_kCh, wp_kCh2, wp_kCh3, wp_aNil, wp_aCons, wp_kCons, wp_kCons2, wp_dTup, wp_kTup, wp_dLst, wp_kLst, wp_dN, wp_kN, wp_dLs, wp_kLs, wp_lDisp, wp_kDisp, wp_lRng, wp_kRng, wp_dItR, wp_kItR, wp_dItS, wp_kItS, wp_tTrue, wp_oNo, wp_oSome, wp_kSome, wp_dSl, wp_kSl, wp_kSl1, wp_kSl2, ws_ret, ws_kRet, ws_expr, ws_kExpr, ws_if, ws_kIfS, ws_set, ws_kSet, ws_setO, ws_kSetO, ws_kSetT, ws_setR, ws_kSetR0, ws_kSetR1, ws_kSetR2, items_t, items_ft, items_l, items_r, setAll, Bool.not_true, Bool.not_false, if_true, ite_true, ite_false, ↓reduceIte, Bool.false_eq_true, Int.reduceLT, Int.reduceLE, Nat.reduceLT, Nat.reduceLeDiff, Nat.reducePow, Int.reducePow, Int.reduceToNat, Int.reduceNeg, Int.reduceSub, Int.reduceAdd, and_self, and_true, true_and, decide_eq_true_eq, decide_true, decide_false, List.length_map, ixN_31, ixN_32, ixN_30, wipeE, restE, lcQ, Option.getD_some, add_i, add_t, add_l, sub_i, mul_i, mul_t, mul_l, fdiv_i, mod_i, pow_18, neg_i, lt_i, le_i, gt_i, ge_i, eq_i, ne_i, eq_b, len_t, len_ft, len_l, len_r, abs_i, int_i, list_t, list_ft, list_l, list_r, tuple_t, tuple_ft, tuple_l, isi_i, isi_b, isi_s, isi_t, isi_ft, isi_l, isi_r, isi_n, tru_b, tru_i, tru_t, tru_ft, tru_l, tru_n, isN_n, isN_b, isN_i, isN_s, isN_t, isN_l, ix_t, ix_ft, ix_l, ix_r, ix_ref, setS_ref, atI_0, atI_1, atI_2, Option.map_some, Option.map_none, kb0, kb1, kb2, kb3, kb4, kb5, kb6, kb7, kb8, kb9, kb10, kb11, kb12, kb13, kb14, kb15, kb16, kb17, kb18, kb19, kb20, kb21, kb22, kb23, kb24, kb25, kb26, kb27, kb28, kb29, sz0, szl0, sz1, szl1, sz2, szl2, sz3, szl3, sz4, szl4, sz5, szl5, sz6, szl6, sz7, szl7, sz8, szl8, sz9, szl9, sz10, szl10, sz11, szl11, sz12, szl12, sz13, szl13, sz14, szl14, sz15, szl15, sz16, szl16, sz17, szl17, sz18, szl18, sz19, szl19, sz20, szl20, sz21, szl21, sz22, szl22, sz23, szl23, sz24, szl24, sz25, szl25, sz26, szl26, sz27, szl27, sz28, szl28, sz29, szl29, sz30, szl30, sz31, szl31, sz32, szl32, sz33, szl33, sz34, szl34, sz35, szl35, sz36, szl36, sz37, szl37, sz38, szl38, sz39, szl39, sz40, szl40]
  refine (wp_told_bv (hbad _) ?_ :)
  simp only [List.cons_append, List.nil_append, List.length_cons, List.length_nil, Nat.reduceAdd, bq_ok, bq_ex, wp_pure, wp_fail, wp_getS, oQ_some, oQ_ite, bqS_ok, bqS_ex, sqS_nx, sqS_rt, sqS_bk, sqS_ct, sqS_ex, wpS_next, wpS_break, wpS_cont, wpS_retN, wpS_setT, stQ_some, wp_C, wp_call, wp_callv, bqF_ok, bqF_ex, wp_new, wp_newv, fqS_nx, fqS_rt, fqS_ex, wpS_for, wp_comp, wp_dVar, vQ_v, vQ_o, List.getElem?_cons_zero, List.getElem?_cons_succ, List.set_cons_zero, List.set_cons_succ, wp_d1, wp_k1, wp_d2, wp_k2, wp_k2b, wp_dT, wp_kT, wp_dTru, wp_kTru, wp_dNotT, wp_kNot, wp_dAndT, wp_kAnd, wp_dOrT, wp_kOr, wp_dAndV, wp_kAndV, wp_kAndVb, wp_dOrV, wp_kOrV, wp_kOrVb, wp_dNotV, wp_kNotV, wp_kNotVb, wp_dIf, wp_kIf, wp_dChain, wp_kCh, wp_kCh2, wp_kCh3, wp_aNil, wp_aCons, wp_kCons, wp_kCons2, wp_dTup, wp_kTup, wp_dLst, wp_kLst, wp_dN, wp_kN, wp_dLs, wp_kLs, wp_lDisp, wp_kDisp, wp_lRng, wp_kRng, wp_dItR, wp_kItR, wp_dItS, wp_kItS, wp_tTrue, wp_oNo, wp_oSome, wp_kSome, wp_dSl, wp_kSl, wp_kSl1, wp_kSl2, ws_ret, ws_kRet, ws_expr, ws_kExpr, ws_if, ws_kIfS, ws_set, ws_kSet, ws_setO, ws_kSetO, ws_kSetT, ws_setR, ws_kSetR0, ws_kSetR1, ws_kSetR2, items_t, items_ft, items_l, items_r, setAll, Bool.not_true, Bool.not_false, if_true, ite_true, ite_false, ↓reduceIte, Bool.false_eq_true, Int.reduceLT, Int.reduceLE, Nat.reduceLT, Nat.reduceLeDiff, Nat.reducePow, Int.reducePow, Int.reduceToNat, Int.reduceNeg, Int.reduceSub, Int.reduceAdd, and_self, and_true, true_and, decide_eq_true_eq, decide_true, decide_false, List.length_map, ixN_31, ixN_32, ixN_30, wipeE, restE, lcQ, Option.getD_some, add_i, add_t, add_l, sub_i, mul_i, mul_t, mul_l, fdiv_i, mod_i, pow_18, neg_i, lt_i, le_i, gt_i, ge_i, eq_i, ne_i, eq_b, len_t, len_ft, len_l, len_r, abs_i, int_i, list_t, list_ft, list_l, list_r, tuple_t, tuple_ft, tuple_l, isi_i, isi_b, isi_s, isi_t, isi_ft, isi_l, isi_r, isi_n, tru_b, tru_i, tru_t, tru_ft, tru_l, tru_n, isN_n, isN_b, isN_i, isN_s, isN_t, isN_l, ix_t, ix_ft, ix_l, ix_r, ix_ref, setS_ref, atI_0, atI_1, atI_2, Option.map_some, Option.map_none, kb0, kb1, kb2, kb3, kb4, kb5, kb6, kb7, kb8, kb9, kb10, kb11, kb12, kb13, kb14, kb15, kb16, kb17, kb18, kb19, kb20, kb21, kb22, kb23, kb24, kb25, kb26, kb27, kb28, kb29, sz0, szl0, sz1, szl1, sz2, szl2, sz3, szl3, sz4, szl4, sz5, szl5, sz6, szl6, sz7, szl7, sz8, szl8, sz9, szl9, sz10, szl10, sz11, szl11, sz12, szl12, sz13, szl13, sz14, szl14, sz15, szl15, sz16, szl16, sz17, szl17, sz18, szl18, sz19, szl19, sz20, szl20, sz21, szl21, sz22, szl22, sz23, szl23, sz24, szl24, sz25, szl25, sz26, szl26, sz27, szl27, sz28, szl28, sz29, szl29, sz30, szl30, sz31, szl31, sz32, szl32, sz33, szl33, sz34, szl34, sz35, szl35, sz36, szl36, sz37, szl37, sz38, szl38, sz39, szl39, sz40, szl40, eq, a2]
  refine (told2 (fun T => ?_) :)
  have ei : ∀ (S : Stor) (T : List PV), isiP "list" (sT S T) (.ref S.length) = some (.bl true) := fun S T => by
    show (match (sT S T)[S.length]? with | some (.lst _) => some (PV.bl _) | _ => _) = _
    rw [sT_at]
  simp only [List.cons_append, List.nil_append, List.length_cons, List.length_nil, Nat.reduceAdd, bq_ok, bq_ex, wp_pure, wp_fail, wp_getS, oQ_some, oQ_ite, bqS_ok, bqS_ex, sqS_nx, sqS_rt, sqS_bk, sqS_ct, sqS_ex, wpS_next, wpS_break, wpS_cont, wpS_retN, wpS_setT, stQ_some, wp_C, wp_call, wp_callv, bqF_ok, bqF_ex, wp_new, wp_newv, fqS_nx, fqS_rt, fqS_ex, wpS_for, wp_comp, wp_dVar, vQ_v, vQ_o, List.getElem?_cons_zero, List.getElem?_cons_succ, List.set_cons_zero, List.set_cons_succ, wp_d1, wp_k1, wp_d2, wp_k2, wp_k2b, wp_dT, wp_kT, wp_dTru, wp_kTru, wp_dNotT, wp_kNot, wp_dAndT, wp_kAnd, wp_dOrT, wp_kOr, wp_dAndV, wp_kAndV, wp_kAndVb, wp_dOrV, wp_kOrV, wp_kOrVb, wp_dNotV, wp_kNotV, wp_kNotVb, wp_dIf, wp_kIf, wp_dChain, wp_kCh, wp_kCh2, wp_kCh3, wp_aNil, wp_aCons, wp_kCons, wp_kCons2, wp_dTup, wp_kTup, wp_dLst, wp_kLst, wp_dN, wp_kN, wp_dLs, wp_kLs, wp_lDisp, wp_kDisp, wp_lRng, wp_kRng, wp_dItR, wp_kItR, wp_dItS, wp_kItS, wp_tTrue, wp_oNo, wp_oSome, wp_kSome, wp_dSl, wp_kSl, wp_kSl1, wp_kSl2, ws_ret, ws_kRet, ws_expr, ws_kExpr, ws_if, ws_kIfS, ws_set, ws_kSet, ws_setO, ws_kSetO, ws_kSetT, ws_setR, ws_kSetR0, ws_kSetR1, ws_kSetR2, items_t, items_ft, items_l, items_r, setAll, Bool.not_true, Bool.not_false, if_true, ite_true, ite_false, ↓reduceIte, Bool.false_eq_true, Int.reduceLT, Int.reduceLE, Nat.reduceLT, Nat.reduceLeDiff, Nat.reducePow, Int.reducePow, Int.reduceToNat, Int.reduceNeg, Int.reduceSub, Int.reduceAdd, and_self, and_true, true_and, decide_eq_true_eq, decide_true, decide_false, List.length_map, ixN_31, ixN_32, ixN_30, wipeE, restE, lcQ, Option.getD_some, add_i, add_t, add_l, sub_i, mul_i, mul_t, mul_l, fdiv_i, mod_i, pow_18, neg_i, lt_i, le_i, gt_i, ge_i, eq_i, ne_i, eq_b, len_t, len_ft, len_l, len_r, abs_i, int_i, list_t, list_ft, list_l, list_r, tuple_t, tuple_ft, tuple_l, isi_i, isi_b, isi_s, isi_t, isi_ft, isi_l, isi_r, isi_n, tru_b, tru_i, tru_t, tru_ft, tru_l, tru_n, isN_n, isN_b, isN_i, isN_s, isN_t, isN_l, ix_t, ix_ft, ix_l, ix_r, ix_ref, setS_ref, atI_0, atI_1, atI_2, Option.map_some, Option.map_none, kb0, kb1, kb2, kb3, kb4, kb5, kb6, kb7, kb8, kb9, kb10, kb11, kb12, kb13, kb14, kb15, kb16, kb17, kb18, kb19, kb20, kb21, kb22, kb23, kb24, kb25, kb26, kb27, kb28, kb29, sz0, szl0, sz1, szl1, sz2, szl2, sz3, szl3, sz4, szl4, sz5, szl5, sz6, szl6, sz7, szl7, sz8, szl8, sz9, szl9, sz10, szl10, sz11, szl11, sz12, szl12, sz13, szl13, sz14, szl14, sz15, szl15, sz16, szl16, sz17, szl17, sz18, szl18, sz19, szl19, sz20, szl20, sz21, szl21, sz22, szl22, sz23, szl23, sz24, szl24, sz25, szl25, sz26, szl26, sz27, szl27, sz28, szl28, sz29, szl29, sz30, szl30, sz31, szl31, sz32, szl32, sz33, szl33, sz34, szl34, sz35, szl35, sz36, szl36, sz37, szl37, sz38, szl38, sz39, szl39, sz40, szl40, ei]
  exact ⟨_, rfl⟩
end
theorem law_true : ∀ ns : List Int, ns.length ≤ 63 → ∃ S', d_law_k65 [.rol (ns.map .int)] [] = .ok (.bl true) S' := by
  intro ns _
  show wpF d_law_k65 [.rol (ns.map .int)] [] QT65
  unfold d_law_k65
  refine wpF_go rfl ?_
  unfold d_law_k65_b0; rw [wpS_seq]; unfold d_law_k65_s0
  simp only [List.map, List.replicate, List.cons_append, List.nil_append, List.length_cons, List.length_nil, Nat.reduceAdd, bq_ok, bq_ex, wp_pure, wp_fail, wp_getS, oQ_some, oQ_ite, bqS_ok, bqS_ex, sqS_nx, sqS_rt, sqS_bk, sqS_ct, sqS_ex, wpS_next, wpS_break, wpS_cont, wpS_retN, wpS_setT, stQ_some, wp_C, wp_call, wp_callv, bqF_ok, bqF_ex, wp_new, wp_newv, fqS_nx, fqS_rt, fqS_ex, wpS_for, wp_comp, wp_dVar, vQ_v, vQ_o, List.getElem?_cons_zero, List.getElem?_cons_succ, List.set_cons_zero, List.set_cons_succ, wp_d1, wp_k1, wp_d2, wp_k2, wp_k2b, wp_dT, wp_kT, wp_dTru, wp_kTru, wp_dNotT, wp_kNot, wp_dAndT, wp_kAnd, wp_dOrT, wp_kOr, wp_dAndV, wp_kAndV, wp_kAndVb, wp_dOrV, wp_kOrV, wp_kOrVb, wp_dNotV, wp_kNotV, wp_kNotVb, wp_dIf, wp_kIf, wp_dChain, wp_kCh, wp_kCh2, wp_kCh3, wp_aNil, wp_aCons, wp_kCons, wp_kCons2, wp_dTup, wp_kTup, wp_dLst, wp_kLst, wp_dN, wp_kN, wp_dLs, wp_kLs, wp_lDisp, wp_kDisp, wp_lRng, wp_kRng, wp_dItR, wp_kItR, wp_dItS, wp_kItS, wp_tTrue, wp_oNo, wp_oSome, wp_kSome, wp_dSl, wp_kSl, wp_kSl1, wp_kSl2, ws_ret, ws_kRet, ws_expr, ws_kExpr, ws_if, ws_kIfS, ws_set, ws_kSet, ws_setO, ws_kSetO, ws_kSetT, ws_setR, ws_kSetR0, ws_kSetR1, ws_kSetR2, items_t, items_ft, items_l, items_r, setAll, Bool.not_true, Bool.not_false, if_true, ite_true, ite_false, ↓reduceIte, Bool.false_eq_true, Int.reduceLT, Int.reduceLE, Nat.reduceLT, Nat.reduceLeDiff, Nat.reducePow, Int.reducePow, Int.reduceToNat, Int.reduceNeg, Int.reduceSub, Int.reduceAdd, and_self, and_true, true_and, decide_eq_true_eq, decide_true, decide_false, List.length_map, ixN_31, ixN_32, ixN_30, wipeE, restE, lcQ, Option.getD_some, add_i, add_t, add_l, sub_i, mul_i, mul_t, mul_l, fdiv_i, mod_i, pow_18, neg_i, lt_i, le_i, gt_i, ge_i, eq_i, ne_i, eq_b, len_t, len_ft, len_l, len_r, abs_i, int_i, list_t, list_ft, list_l, list_r, tuple_t, tuple_ft, tuple_l, isi_i, isi_b, isi_s, isi_t, isi_ft, isi_l, isi_r, isi_n, tru_b, tru_i, tru_t, tru_ft, tru_l, tru_n, isN_n, isN_b, isN_i, isN_s, isN_t, isN_l, ix_t, ix_ft, ix_l, ix_r, ix_ref, setS_ref, atI_0, atI_1, atI_2, Option.map_some, Option.map_none, kb0, kb1, kb2, kb3, kb4, kb5, kb6, kb7, kb8, kb9, kb10, kb11, kb12, kb13, kb14, kb15, kb16, kb17, kb18, kb19, kb20, kb21, kb22, kb23, kb24, kb25, kb26, kb27, kb28, kb29, sz0, szl0, sz1, szl1, sz2, szl2, sz3, szl3, sz4, szl4, sz5, szl5, sz6, szl6, sz7, szl7, sz8, szl8, sz9, szl9, sz10, szl10, sz11, szl11, sz12, szl12, sz13, szl13, sz14, szl14, sz15, szl15, sz16, szl16, sz17, szl17, sz18, szl18, sz19, szl19, sz20, szl20, sz21, szl21, sz22, szl22, sz23, szl23, sz24, szl24, sz25, szl25, sz26, szl26, sz27, szl27, sz28, szl28, sz29, szl29, sz30, szl30, sz31, szl31, sz32, szl32, sz33, szl33, sz34, szl34, sz35, szl35, sz36, szl36, sz37, szl37, sz38, szl38, sz39, szl39, sz40, szl40]
  refine wp_stream fun S1 h1 => ?_
  simp only [List.map, List.replicate, List.cons_append, List.nil_append, List.length_cons, List.length_nil, Nat.reduceAdd, bq_ok, bq_ex, wp_pure, wp_fail, wp_getS, oQ_some, oQ_ite, bqS_ok, bqS_ex, sqS_nx, sqS_rt, sqS_bk, sqS_ct, sqS_ex, wpS_next, wpS_break, wpS_cont, wpS_retN, wpS_setT, stQ_some, wp_C, wp_call, wp_callv, bqF_ok, bqF_ex, wp_new, wp_newv, fqS_nx, fqS_rt, fqS_ex, wpS_for, wp_comp, wp_dVar, vQ_v, vQ_o, List.getElem?_cons_zero, List.getElem?_cons_succ, List.set_cons_zero, List.set_cons_succ, wp_d1, wp_k1, wp_d2, wp_k2, wp_k2b, wp_dT, wp_kT, wp_dTru, wp_kTru, wp_dNotT, wp_kNot, wp_dAndT, wp_kAnd, wp_dOrT, wp_kOr, wp_dAndV, wp_kAndV, wp_kAndVb, wp_dOrV, wp_kOrV, wp_kOrVb, wp_dNotV, wp_kNotV, wp_kNotVb, wp_dIf, wp_kIf, wp_dChain, wp_kCh, wp_kCh2, wp_kCh3, wp_aNil, wp_aCons, wp_kCons, wp_kCons2, wp_dTup, wp_kTup, wp_dLst, wp_kLst, wp_dN, wp_kN, wp_dLs, wp_kLs, wp_lDisp, wp_kDisp, wp_lRng, wp_kRng, wp_dItR, wp_kItR, wp_dItS, wp_kItS, wp_tTrue, wp_oNo, wp_oSome, wp_kSome, wp_dSl, wp_kSl, wp_kSl1, wp_kSl2, ws_ret, ws_kRet, ws_expr, ws_kExpr, ws_if, ws_kIfS, ws_set, ws_kSet, ws_setO, ws_kSetO, ws_kSetT, ws_setR, ws_kSetR0, ws_kSetR1, ws_kSetR2, items_t, items_ft, items_l, items_r, setAll, Bool.not_true, Bool.not_false, if_true, ite_true, ite_false, ↓reduceIte, Bool.false_eq_true, Int.reduceLT, Int.reduceLE, Nat.reduceLT, Nat.reduceLeDiff, Nat.reducePow, Int.reducePow, Int.reduceToNat, Int.reduceNeg, Int.reduceSub, Int.reduceAdd, and_self, and_true, true_and, decide_eq_true_eq, decide_true, decide_false, List.length_map, ixN_31, ixN_32, ixN_30, wipeE, restE, lcQ, Option.getD_some, add_i, add_t, add_l, sub_i, mul_i, mul_t, mul_l, fdiv_i, mod_i, pow_18, neg_i, lt_i, le_i, gt_i, ge_i, eq_i, ne_i, eq_b, len_t, len_ft, len_l, len_r, abs_i, int_i, list_t, list_ft, list_l, list_r, tuple_t, tuple_ft, tuple_l, isi_i, isi_b, isi_s, isi_t, isi_ft, isi_l, isi_r, isi_n, tru_b, tru_i, tru_t, tru_ft, tru_l, tru_n, isN_n, isN_b, isN_i, isN_s, isN_t, isN_l, ix_t, ix_ft, ix_l, ix_r, ix_ref, setS_ref, atI_0, atI_1, atI_2, Option.map_some, Option.map_none, kb0, kb1, kb2, kb3, kb4, kb5, kb6, kb7, kb8, kb9, kb10, kb11, kb12, kb13, kb14, kb15, kb16, kb17, kb18, kb19, kb20, kb21, kb22, kb23, kb24, kb25, kb26, kb27, kb28, kb29, sz0, szl0, sz1, szl1, sz2, szl2, sz3, szl3, sz4, szl4, sz5, szl5, sz6, szl6, sz7, szl7, sz8, szl8, sz9, szl9, sz10, szl10, sz11, szl11, sz12, szl12, sz13, szl13, sz14, szl14, sz15, szl15, sz16, szl16, sz17, szl17, sz18, szl18, sz19, szl19, sz20, szl20, sz21, szl21, sz22, szl22, sz23, szl23, sz24, szl24, sz25, szl25, sz26, szl26, sz27, szl27, sz28, szl28, sz29, szl29, sz30, szl30, sz31, szl31, sz32, szl32, sz33, szl33, sz34, szl34, sz35, szl35, sz36, szl36, sz37, szl37, sz38, szl38, sz39, szl39, sz40, szl40]
  unfold d_law_k65_b1; rw [wpS_seq]
  refine (wpS_to _ (k65_s1 (A := .rol (ns.map .int)) h1) ?_ :)
  rintro o ⟨W, S2, rfl, hW, hl, h2⟩
  rw [sqS_nx]
  unfold d_law_k65_b2; rw [wpS_seq]; unfold d_law_k65_s2 E65
  simp only [List.map, List.replicate, List.cons_append, List.nil_append, List.length_cons, List.length_nil, Nat.reduceAdd, bq_ok, bq_ex, wp_pure, wp_fail, wp_getS, oQ_some, oQ_ite, bqS_ok, bqS_ex, sqS_nx, sqS_rt, sqS_bk, sqS_ct, sqS_ex, wpS_next, wpS_break, wpS_cont, wpS_retN, wpS_setT, stQ_some, wp_C, wp_call, wp_callv, bqF_ok, bqF_ex, wp_new, wp_newv, fqS_nx, fqS_rt, fqS_ex, wpS_for, wp_comp, wp_dVar, vQ_v, vQ_o, List.getElem?_cons_zero, List.getElem?_cons_succ, List.set_cons_zero, List.set_cons_succ, wp_d1, wp_k1, wp_d2, wp_k2, wp_k2b, wp_dT, wp_kT, wp_dTru, wp_kTru, wp_dNotT, wp_kNot, wp_dAndT, wp_kAnd, wp_dOrT, wp_kOr, wp_dAndV, wp_kAndV, wp_kAndVb, wp_dOrV, wp_kOrV, wp_kOrVb, wp_dNotV, wp_kNotV, wp_kNotVb, wp_dIf, wp_kIf, wp_dChain, wp_kCh, wp_kCh2, wp_kCh3, wp_aNil, wp_aCons, wp_kCons, wp_kCons2, wp_dTup, wp_kTup, wp_dLst, wp_kLst, wp_dN, wp_kN, wp_dLs, wp_kLs, wp_lDisp, wp_kDisp, wp_lRng, wp_kRng, wp_dItR, wp_kItR, wp_dItS, wp_kItS, wp_tTrue, wp_oNo, wp_oSome, wp_kSome, wp_dSl, wp_kSl, wp_kSl1, wp_kSl2, ws_ret, ws_kRet, ws_expr, ws_kExpr, ws_if, ws_kIfS, ws_set, ws_kSet, ws_setO, ws_kSetO, ws_kSetT, ws_setR, ws_kSetR0, ws_kSetR1, ws_kSetR2, items_t, items_ft, items_l, items_r, setAll, Bool.not_true, Bool.not_false, if_true, ite_true, ite_false, ↓reduceIte, Bool.false_eq_true, Int.reduceLT, Int.reduceLE, Nat.reduceLT, Nat.reduceLeDiff, Nat.reducePow, Int.reducePow, Int.reduceToNat, Int.reduceNeg, Int.reduceSub, Int.reduceAdd, and_self, and_true, true_and, decide_eq_true_eq, decide_true, decide_false, List.length_map, ixN_31, ixN_32, ixN_30, wipeE, restE, lcQ, Option.getD_some, add_i, add_t, add_l, sub_i, mul_i, mul_t, mul_l, fdiv_i, mod_i, pow_18, neg_i, lt_i, le_i, gt_i, ge_i, eq_i, ne_i, eq_b, len_t, len_ft, len_l, len_r, abs_i, int_i, list_t, list_ft, list_l, list_r, tuple_t, tuple_ft, tuple_l, isi_i, isi_b, isi_s, isi_t, isi_ft, isi_l, isi_r, isi_n, tru_b, tru_i, tru_t, tru_ft, tru_l, tru_n, isN_n, isN_b, isN_i, isN_s, isN_t, isN_l, ix_t, ix_ft, ix_l, ix_r, ix_ref, setS_ref, atI_0, atI_1, atI_2, Option.map_some, Option.map_none, kb0, kb1, kb2, kb3, kb4, kb5, kb6, kb7, kb8, kb9, kb10, kb11, kb12, kb13, kb14, kb15, kb16, kb17, kb18, kb19, kb20, kb21, kb22, kb23, kb24, kb25, kb26, kb27, kb28, kb29, sz0, szl0, sz1, szl1, sz2, szl2, sz3, szl3, sz4, szl4, sz5, szl5, sz6, szl6, sz7, szl7, sz8, szl8, sz9, szl9, sz10, szl10, sz11, szl11, sz12, szl12, sz13, szl13, sz14, szl14, sz15, szl15, sz16, szl16, sz17, szl17, sz18, szl18, sz19, szl19, sz20, szl20, sz21, szl21, sz22, szl22, sz23, szl23, sz24, szl24, sz25, szl25, sz26, szl26, sz27, szl27, sz28, szl28, sz29, szl29, sz30, szl30, sz31, szl31, sz32, szl32, sz33, szl33, sz34, szl34, sz35, szl35, sz36, szl36, sz37, szl37, sz38, szl38, sz39, szl39, sz40, szl40]
  unfold d_law_k65_b3; rw [wpS_seq]
  refine (wpS_to _ (k65_s3 (A := .rol (ns.map .int)) h2 hW hl) ?_ :)
  rintro o (⟨S3, rfl, h3⟩ | ⟨G1, T, w, m, S3, rfl, hG, hm, hT, hl2, h3⟩)
  · rw [sqS_nx]
    exact k65_good h3 hW hl
  · rw [sqS_nx]
    exact k65_bad h3 hG hm hT hl2
end Dn
end
section
set_option Elab.async false
set_option linter.all false
set_option maxRecDepth 100000
set_option maxHeartbeats 4000000
namespace Rw
open PySem L2 Dn
def top (i : Nat) : Stmt := PySem.Challenge.pw_undobystate_k65_tokens_of_texts.main.body.getD i (.Pass ⟨0, 0, 0, 0⟩)
structure Txt (K : PySem.W.Frag) (mg : Str → Option Value) : Prop where
  kk : True
  n_abs : mg "abs" = none
  n_all : mg "all" = none
  n_bool : mg "bool" = none
  n_enumerate : mg "enumerate" = none
  n_int : mg "int" = none
  n_isinstance : mg "isinstance" = none
  n_len : mg "len" = none
  n_list : mg "list" = none
  n_max : mg "max" = none
  n_range : mg "range" = none
  n_str : mg "str" = none
  n_tuple : mg "tuple" = none
  c_DIGITS : ∃ t, mg "DIGITS" = some (.str "0123456789" t)
  c_LETTERS : ∃ t, mg "LETTERS" = some (.str "abcd" t)
  c_LONGEST_TEXT : ∃ t, mg "LONGEST_TEXT" = some (.int 300 t)
  c_MOST_DIGITS : ∃ t, mg "MOST_DIGITS" = some (.int 6 t)
  c_SIGN : ∃ t, mg "SIGN" = some (.str ";" t)
  c_WORD : ∃ t, mg "WORD" = some (.str "start" t)
section
variable {P : Program} {w : World} {K : PySem.W.Frag} {mg : Str → Option Value} {base : Heap}
theorem sc_check_text : FnScope ["text"] ["text"] (defScope (top 11)) := ⟨rfl, rfl, rfl, by decide +kernel, rfl, by decide +kernel, by decide +kernel⟩
theorem ok_check_text {f : Addr} {fd : FuncData} (T : Txt K mg) (F : Fun K "check_text" "check_text" (top 11) f fd) (hm : mg "check_text" = some (.ref f)) (hb : Binds K fd ["text"] []) (E_BadValue : ExOk P w K mg base "BadValue" "name") : FOk P w K mg base 3 "check_text" ["text"] d_check_text_v3 :=
  fok (u := 0) F sc_check_text rfl hm hb fun cdv A outer s H E c hX tk => (k_one (k_if (t_w (w_or (t_not (t_tru hX (r_isi hX rfl T.n_isinstance rfl T.n_str bt_str (r_var 0)))) (w_or (t_cmp hX o_gt (r_callB hX b_len rfl T.n_len bt_len (a_cons (r_var 0) a_nil)) (r_globI rfl T.c_LONGEST_TEXT) (nomark _)) (w_or1 (t_cmp hX o_inS r_str (r_var 0) rfl))))) (k_one (k_raise hX (by omega) tk E_BadValue rfl r_str)) k_nil))
theorem sc_number_at : FnScope ["text", "at", "end"] ["text", "at"] (defScope (top 12)) := ⟨rfl, rfl, rfl, by decide +kernel, rfl, by decide +kernel, by decide +kernel⟩
theorem ok_number_at {f : Addr} {fd : FuncData} (T : Txt K mg) (F : Fun K "number_at" "number_at" (top 12) f fd) (hm : mg "number_at" = some (.ref f)) (hb : Binds K fd ["text", "at"] [])  : FOk P w K mg base 1 "number_at" ["text", "at"] d_number_at_v2 :=
  fok (u := 1) F sc_number_at rfl hm hb fun cdv A outer s H E c hX tk => (k_cons (k_set 2 hX rfl (by first | exact Or.inl rfl | exact Or.inr rfl) (r_var 1))
  (k_cons (k_whN (passes_of rfl) (t_w (w_and (t_cmp hX o_lt (r_var 2) (r_callB hX b_len rfl T.n_len bt_len (a_cons (r_var 0) a_nil)) (nomark _)) (w_and1 (t_cmp hX o_inS (r_ix hX (r_var 0) (r_var 2)) (r_globS rfl T.c_DIGITS) rfl)))) (k_one (k_set 2 hX rfl (by first | exact Or.inl rfl | exact Or.inr rfl) (r_bin hX o_add (r_var 2) r_int))))
  (k_one (k_ret (r_sl hX (r_var 0) (po_yes (r_var 1)) (po_yes (r_var 2)))))))
theorem sc_token_at : FnScope ["text", "at", "number"] ["text", "at"] (defScope (top 13)) := ⟨rfl, rfl, rfl, by decide +kernel, rfl, by decide +kernel, by decide +kernel⟩
theorem ok_token_at {f : Addr} {fd : FuncData} (T : Txt K mg) (F : Fun K "token_at" "token_at" (top 13) f fd) (hm : mg "token_at" = some (.ref f)) (hb : Binds K fd ["text", "at"] []) (G_number_at : FOk P w K mg base 1 "number_at" ["text", "at"] d_number_at_v2) (E_TextError : ExOk2 P w K mg base "TextError" "column" "words") : FOk P w K mg base 3 "token_at" ["text", "at"] d_token_at_v2 :=
  fok (u := 1) F sc_token_at rfl hm hb fun cdv A outer s H E c hX tk => (k_cons (k_if (t_cmp hX (o_eq hX.room) (r_ix hX (r_var 0) (r_var 1)) (r_globS rfl T.c_SIGN) (nomark _)) (k_one (k_ret (r_tup (a_cons r_str (a_cons (r_ix hX (r_var 0) (r_var 1)) (a_cons (r_bin hX o_add (r_var 1) r_int) a_nil)))))) k_nil)
  (k_cons (k_if (t_cmp hX o_inS (r_ix hX (r_var 0) (r_var 1)) (r_globS rfl T.c_LETTERS) rfl) (k_one (k_ret (r_tup (a_cons r_str (a_cons (r_ix hX (r_var 0) (r_var 1)) (a_cons (r_bin hX o_add (r_var 1) r_int) a_nil)))))) k_nil)
  (k_cons (k_if (t_cmp hX (o_eq hX.room) (r_sl hX (r_var 0) (po_yes (r_var 1)) (po_yes (r_bin hX o_add (r_var 1) (r_callB hX b_len rfl T.n_len bt_len (a_cons (r_globS rfl T.c_WORD) a_nil))))) (r_globS rfl T.c_WORD) (nomark _)) (k_one (k_ret (r_tup (a_cons r_str (a_cons (r_globS rfl T.c_WORD) (a_cons (r_bin hX o_add (r_var 1) r_int) a_nil)))))) k_nil)
  (k_cons (k_set 2 hX rfl (by first | exact Or.inl rfl | exact Or.inr rfl) (r_call hX G_number_at (by omega) rfl (a_cons (r_var 0) (a_cons (r_var 1) a_nil))))
  (k_cons (k_if (t_cmp hX (o_eq hX.room) (r_var 2) r_str (nomark _)) (k_one (k_raise2 hX (by omega) tk E_TextError rfl (a_cons (r_bin hX o_add (r_var 1) r_int) (a_cons r_str a_nil)))) k_nil)
  (k_cons (k_if (t_cmp hX o_gt (r_callB hX b_len rfl T.n_len bt_len (a_cons (r_var 2) a_nil)) (r_globI rfl T.c_MOST_DIGITS) (nomark _)) (k_one (k_raise2 hX (by omega) tk E_TextError rfl (a_cons (r_bin hX o_add (r_var 1) r_int) (a_cons r_str a_nil)))) k_nil)
  (k_one (k_ret (r_tup (a_cons r_str (a_cons (r_var 2) (a_cons (r_bin hX o_add (r_var 1) r_int) a_nil))))))))))))
theorem sc_scan : FnScope ["text", "tokens", "at"] ["text"] (defScope (top 14)) := ⟨rfl, rfl, rfl, by decide +kernel, rfl, by decide +kernel, by decide +kernel⟩
theorem ok_scan {f : Addr} {fd : FuncData} (T : Txt K mg) (F : Fun K "scan" "scan" (top 14) f fd) (hm : mg "scan" = some (.ref f)) (hb : Binds K fd ["text"] []) (G_check_text : FOk P w K mg base 3 "check_text" ["text"] d_check_text_v3) (G_token_at : FOk P w K mg base 3 "token_at" ["text", "at"] d_token_at_v2) : FOk P w K mg base 4 "scan" ["text"] d_scan_v5 :=
  fok (u := 2) F sc_scan rfl hm hb fun cdv A outer s H E c hX tk => (k_cons (k_expr (r_call hX G_check_text (by omega) rfl (a_cons (r_var 0) a_nil)))
  (k_cons (k_set 1 hX rfl (by first | exact Or.inl rfl | exact Or.inr rfl) (o_new (o_disp a_nil)))
  (k_cons (k_set 2 hX rfl (by first | exact Or.inl rfl | exact Or.inr rfl) r_int)
  (k_cons (k_whN (passes_of rfl) (t_cmp hX o_lt (r_var 2) (r_callB hX b_len rfl T.n_len bt_len (a_cons (r_var 0) a_nil)) (nomark _)) (k_one (k_if (t_cmp hX (o_eq hX.room) (r_ix hX (r_var 0) (r_var 2)) r_str (nomark _)) (k_one (k_set 2 hX rfl (by first | exact Or.inl rfl | exact Or.inr rfl) (r_bin hX o_add (r_var 2) r_int))) (k_cons (k_appR hX (r_var 1) (r_call hX G_token_at (by omega) rfl (a_cons (r_var 0) (a_cons (r_var 2) a_nil))))
  (k_one (k_set 2 hX rfl (by first | exact Or.inl rfl | exact Or.inr rfl) (r_bin hX o_add (r_var 2) (r_callB hX b_len rfl T.n_len bt_len (a_cons (r_ix hX (r_ix hX (r_var 1) (r_un hX o_neg r_int)) r_int) a_nil)))))))))
  (k_cons (k_appR hX (r_var 1) (r_tup (a_cons r_str (a_cons r_str (a_cons (r_bin hX o_add (r_callB hX b_len rfl T.n_len bt_len (a_cons (r_var 0) a_nil)) r_int) a_nil)))))
  (k_one (k_ret (r_var 1))))))))
theorem sc__law_stream : FnScope ["_law_script"] ["_law_script"] (defScope (top 16)) := ⟨rfl, rfl, rfl, by decide +kernel, rfl, by decide +kernel, by decide +kernel⟩
theorem ok__law_stream {f : Addr} {fd : FuncData} (T : Txt K mg) (F : Fun K "_law_stream" "_law_stream" (top 16) f fd) (hm : mg "_law_stream" = some (.ref f)) (hb : Binds K fd ["_law_script"] [])  : FOk P w K mg base 1 "_law_stream" ["_law_script"] d__law_stream :=
  fok (u := 0) F sc__law_stream rfl hm hb fun cdv A outer s H E c hX tk => (k_one (k_ret (o_new (o_disp (a_cons (r_callTy hX b_list rfl T.n_list bt_list (a_cons (r_var 0) a_nil)) (a_cons r_int (a_cons r_int a_nil)))))))
theorem sc__law_next : FnScope ["_law_stream_here", "_law_many", "_law_k", "_law_cell", "_law_digit"] ["_law_stream_here", "_law_many"] (defScope (top 17)) := ⟨rfl, rfl, rfl, by decide +kernel, rfl, by decide +kernel, by decide +kernel⟩
theorem ok__law_next {f : Addr} {fd : FuncData} (T : Txt K mg) (F : Fun K "_law_next" "_law_next" (top 17) f fd) (hm : mg "_law_next" = some (.ref f)) (hb : Binds K fd ["_law_stream_here", "_law_many"] [])  : FOk P w K mg base 1 "_law_next" ["_law_stream_here", "_law_many"] d__law_next :=
  fok (u := 3) F sc__law_next rfl hm hb fun cdv A outer s H E c hX tk => (k_cons (k_if (t_cmp hX (o_eq hX.room) (r_ix hX (r_var 0) r_int) r_int (nomark _)) (k_cons (k_set 2 hX rfl (by first | exact Or.inl rfl | exact Or.inr rfl) (r_ix hX (r_var 0) r_int))
  (k_cons (k_set 3 hX rfl (by first | exact Or.inl rfl | exact Or.inr rfl) (r_bin hX o_add r_int (r_var 2)))
  (k_cons (k_if (t_cmp hX o_lt (r_var 2) (r_callB hX b_len rfl T.n_len bt_len (a_cons (r_ix hX (r_var 0) r_int) a_nil)) (nomark _)) (k_one (k_set 3 hX rfl (by first | exact Or.inl rfl | exact Or.inr rfl) (r_callB hX b_abs rfl T.n_abs bt_abs (a_cons (r_ix hX (r_ix hX (r_var 0) r_int) (r_var 2)) a_nil)))) k_nil)
  (k_cons (k_if (t_cmp hX o_lt (r_var 3) (r_bin hX o_pow r_int r_int) (nomark _)) (k_cons (k_set 3 hX rfl (by first | exact Or.inl rfl | exact Or.inr rfl) (r_bin hX o_mod (r_callTy hX b_int rfl T.n_int bt_int (a_cons (r_bin hX o_add (r_bin hX o_add (r_bin hX o_mul' (r_var 3) r_int) (r_bin hX o_mul' (r_var 2) r_int)) r_int) a_nil)) r_int))
  (k_one (k_set 3 hX rfl (by first | exact Or.inl rfl | exact Or.inr rfl) (r_bin hX o_add (r_bin hX o_mul' (r_bin hX o_mod (r_callTy hX b_int rfl T.n_int bt_int (a_cons (r_bin hX o_add (r_bin hX o_mul' (r_var 3) r_int) r_int) a_nil)) r_int) r_int) (r_var 3))))) k_nil)
  (k_cons (k_setR hX (r_var 3) (r_var 0) r_int)
  (k_one (k_setR hX (r_bin hX o_add (r_var 2) r_int) (r_var 0) r_int))))))) k_nil)
  (k_cons (k_set 4 hX rfl (by first | exact Or.inl rfl | exact Or.inr rfl) (r_bin hX o_mod (r_callTy hX b_int rfl T.n_int bt_int (a_cons (r_ix hX (r_var 0) r_int) a_nil)) (r_var 1)))
  (k_cons (k_setR hX (r_bin hX o_fdiv (r_ix hX (r_var 0) r_int) (r_var 1)) (r_var 0) r_int)
  (k_one (k_ret (r_var 4))))))
theorem sc__law_is_integer : FnScope ["_law_actual"] ["_law_actual"] (defScope (top 18)) := ⟨rfl, rfl, rfl, by decide +kernel, rfl, by decide +kernel, by decide +kernel⟩
theorem ok__law_is_integer {f : Addr} {fd : FuncData} (T : Txt K mg) (F : Fun K "_law_is_integer" "_law_is_integer" (top 18) f fd) (hm : mg "_law_is_integer" = some (.ref f)) (hb : Binds K fd ["_law_actual"] [])  : FOk P w K mg base 1 "_law_is_integer" ["_law_actual"] d__law_is_integer :=
  fok (u := 0) F sc__law_is_integer rfl hm hb fun cdv A outer s H E c hX tk => (k_one (k_ret (r_and hX (r_isi hX rfl T.n_isinstance rfl T.n_int bt_int (r_var 0)) (r_one (r_not hX (r_isi hX rfl T.n_isinstance rfl T.n_bool bt_bool (r_var 0)))))))
theorem sc__law_equal : FnScope ["_law_actual", "_law_due", "_law_at"] ["_law_actual", "_law_due"] (defScope (top 19)) := ⟨rfl, rfl, rfl, by decide +kernel, rfl, by decide +kernel, by decide +kernel⟩
theorem ok__law_equal_f {f : Addr} {fd : FuncData} (T : Txt K mg) (F : Fun K "_law_equal" "_law_equal" (top 19) f fd) (hm : mg "_law_equal" = some (.ref f)) (hb : Binds K fd ["_law_actual", "_law_due"] []) (G__law_is_integer : FOk P w K mg base 1 "_law_is_integer" ["_law_actual"] d__law_is_integer) : ∀ n, FOk P w K mg base (2 + n) "_law_equal" ["_law_actual", "_law_due"] (d__law_equal_f n)
  | 0 => fok_zero (k := 1) F sc__law_equal hm hb
  | n + 1 => by
    have G__law_equal := ok__law_equal_f T F hm hb G__law_is_integer n
    exact fok (u := 1) (k := 2 + n) F sc__law_equal rfl hm hb fun cdv A outer s H E c hX tk => (k_cons (k_if (t_cmp hX o_is (r_var 1) r_non (nomark _)) (k_one (k_ret (r_cmp hX o_is (r_var 0) r_non (nomark _)))) k_nil)
  (k_cons (k_if (t_tru hX (r_isi hX rfl T.n_isinstance rfl T.n_bool bt_bool (r_var 1))) (k_one (k_ret (r_and hX (r_isi hX rfl T.n_isinstance rfl T.n_bool bt_bool (r_var 0)) (r_one (r_cmp hX (o_eq hX.room) (r_var 0) (r_var 1) (nomark _)))))) k_nil)
  (k_cons (k_if (t_tru hX (r_isi hX rfl T.n_isinstance rfl T.n_int bt_int (r_var 1))) (k_one (k_ret (r_and hX (r_call hX G__law_is_integer (by omega) rfl (a_cons (r_var 0) a_nil)) (r_one (r_cmp hX (o_eq hX.room) (r_var 0) (r_var 1) (nomark _)))))) k_nil)
  (k_cons (k_if (t_tru hX (r_isi hX rfl T.n_isinstance rfl T.n_str bt_str (r_var 1))) (k_one (k_ret (r_and hX (r_isi hX rfl T.n_isinstance rfl T.n_str bt_str (r_var 0)) (r_one (r_cmp hX (o_eq hX.room) (r_var 0) (r_var 1) (nomark _)))))) k_nil)
  (k_cons (k_if (t_w (w_and (t_tru hX (r_isi hX rfl T.n_isinstance rfl T.n_tuple bt_tuple (r_var 1))) (w_and1 (t_not (t_tru hX (r_isi hX rfl T.n_isinstance rfl T.n_tuple bt_tuple (r_var 0))))))) (k_one (k_ret r_bl)) k_nil)
  (k_cons (k_if (t_w (w_and (t_tru hX (r_isi hX rfl T.n_isinstance rfl T.n_list bt_list (r_var 1))) (w_and1 (t_not (t_tru hX (r_isi hX rfl T.n_isinstance rfl T.n_list bt_list (r_var 0))))))) (k_one (k_ret r_bl)) k_nil)
  (k_cons (k_if (t_cmp hX (o_ne hX.room) (r_callB hX b_len rfl T.n_len bt_len (a_cons (r_var 0) a_nil)) (r_callB hX b_len rfl T.n_len bt_len (a_cons (r_var 1) a_nil)) (nomark _)) (k_one (k_ret r_bl)) k_nil)
  (k_one (k_ret (r_callB hX (b_all hX.calm) rfl T.n_all bt_all (a_cons (o_val (o_comp hX (blkOk_by (own := [("_law_at", 2)]) (by show blkC ["_law_actual", "_law_due", "_law_at"] (defScope (top 19)) _ _ = true; decide +kernel)) (i_rng hX rfl T.n_range (r_callB hX b_len rfl T.n_len bt_len (a_cons (r_var 1) a_nil))) (by decide) (fun c s H C cl fp hX => (g_name 2 hX rfl (by first | exact Or.inl rfl | exact Or.inr rfl))) (fun c s H C cl fp hX => ts_nil) (fun c s H C cl fp hX => (r_call hX G__law_equal (by omega) rfl (a_cons (r_ix hX (r_var 0) (r_var 2)) (a_cons (r_ix hX (r_var 1) (r_var 2)) a_nil)))))) a_nil)))))))))))
theorem ok__law_equal {f : Addr} {fd : FuncData} (T : Txt K mg) (F : Fun K "_law_equal" "_law_equal" (top 19) f fd) (hm : mg "_law_equal" = some (.ref f)) (hb : Binds K fd ["_law_actual", "_law_due"] []) (G__law_is_integer : FOk P w K mg base 1 "_law_is_integer" ["_law_actual"] d__law_is_integer) : FOk P w K mg base 8 "_law_equal" ["_law_actual", "_law_due"] d__law_equal := ok__law_equal_f T F hm hb G__law_is_integer 6
theorem sc__law_pick : FnScope ["_law_stream_here", "_law_rows"] ["_law_stream_here", "_law_rows"] (defScope (top 20)) := ⟨rfl, rfl, rfl, by decide +kernel, rfl, by decide +kernel, by decide +kernel⟩
theorem ok__law_pick {f : Addr} {fd : FuncData} (T : Txt K mg) (F : Fun K "_law_pick" "_law_pick" (top 20) f fd) (hm : mg "_law_pick" = some (.ref f)) (hb : Binds K fd ["_law_stream_here", "_law_rows"] []) (G__law_next : FOk P w K mg base 1 "_law_next" ["_law_stream_here", "_law_many"] d__law_next) : FOk P w K mg base 2 "_law_pick" ["_law_stream_here", "_law_rows"] d__law_pick :=
  fok (u := 0) F sc__law_pick rfl hm hb fun cdv A outer s H E c hX tk => (k_one (k_ret (r_ix hX (r_var 1) (r_call hX G__law_next (by omega) rfl (a_cons (r_var 0) (a_cons (r_callB hX b_len rfl T.n_len bt_len (a_cons (r_var 1) a_nil)) a_nil))))))
theorem sc__law_laid : FnScope ["_law_stream_here", "_law_words", "_law_text", "_law_places", "_law_k", "_law_word", "_law_near"] ["_law_stream_here", "_law_words"] (defScope (top 21)) := ⟨rfl, rfl, rfl, by decide +kernel, rfl, by decide +kernel, by decide +kernel⟩
theorem ok__law_laid {f : Addr} {fd : FuncData} (T : Txt K mg) (F : Fun K "_law_laid" "_law_laid" (top 21) f fd) (hm : mg "_law_laid" = some (.ref f)) (hb : Binds K fd ["_law_stream_here", "_law_words"] []) (G__law_next : FOk P w K mg base 1 "_law_next" ["_law_stream_here", "_law_many"] d__law_next) : FOk P w K mg base 2 "_law_laid" ["_law_stream_here", "_law_words"] d__law_laid_v3 :=
  fok (u := 5) F sc__law_laid rfl hm hb fun cdv A outer s H E c hX tk => (k_cons (k_set 2 hX rfl (by first | exact Or.inl rfl | exact Or.inr rfl) r_str)
  (k_cons (k_setO 3 hX rfl (by first | exact Or.inl rfl | exact Or.inr rfl) (o_disp a_nil))
  (k_cons (k_for hX (passes_of rfl) (i_enum2 hX rfl T.n_enumerate (r_var 1)) (g_tup hX (gs_cons 4 hX rfl (by first | exact Or.inl rfl | exact Or.inr rfl) (gs_cons 5 hX rfl (by first | exact Or.inl rfl | exact Or.inr rfl) gs_nil))) (k_cons (k_set 6 hX rfl (by first | exact Or.inl rfl | exact Or.inr rfl) (r_callTy hX b_int rfl T.n_int bt_int (a_cons (r_and hX (r_cmp hX o_gt (r_var 4) r_int (nomark _)) (r_and hX (r_cmp hX o_inS (r_sl hX (r_ix hX (r_var 1) (r_bin hX o_sub (r_var 4) r_int)) (po_yes (r_un hX o_neg r_int)) po_no) r_str rfl) (r_one (r_cmp hX o_inS (r_sl hX (r_var 5) po_no (po_yes r_int)) r_str rfl)))) a_nil)))
  (k_cons (k_set 2 hX rfl (by first | exact Or.inl rfl | exact Or.inr rfl) (r_bin hX o_add (r_var 2) (r_ix hX (r_lst (a_cons r_str (a_cons r_str (a_cons r_str (a_cons r_str a_nil))))) (r_callB hX (b_max2 hX.calm) rfl T.n_max bt_max (a_cons (r_var 6) (a_cons (r_call hX G__law_next (by omega) rfl (a_cons (r_var 0) (a_cons r_int a_nil))) a_nil))))))
  (k_cons (k_app 3 hX rfl (by first | exact Or.inl rfl | exact Or.inr (Or.inl rfl) | exact Or.inr (Or.inr rfl)) (r_bin hX o_add (r_callB hX b_len rfl T.n_len bt_len (a_cons (r_var 2) a_nil)) r_int))
  (k_one (k_set 2 hX rfl (by first | exact Or.inl rfl | exact Or.inr rfl) (r_bin hX o_add (r_var 2) (r_var 5))))))))
  (k_cons (k_set 2 hX rfl (by first | exact Or.inl rfl | exact Or.inr rfl) (r_bin hX o_add (r_var 2) (r_ix hX (r_lst (a_cons r_str (a_cons r_str (a_cons r_str a_nil)))) (r_call hX G__law_next (by omega) rfl (a_cons (r_var 0) (a_cons r_int a_nil))))))
  (k_one (k_ret (r_tup (a_cons (r_var 2) (a_cons (r_bin hX o_add (r_var 3) (r_lst (a_cons (r_bin hX o_add (r_callB hX b_len rfl T.n_len bt_len (a_cons (r_var 2) a_nil)) r_int) a_nil))) a_nil)))))))))
theorem sc__law_told : FnScope ["_law_text", "_law_problem"] ["_law_text"] (defScope (top 22)) := ⟨rfl, rfl, rfl, by decide +kernel, rfl, by decide +kernel, by decide +kernel⟩
theorem ok__law_told {f : Addr} {fd : FuncData} (T : Txt K mg) (F : Fun K "_law_told" "_law_told" (top 22) f fd) (hm : mg "_law_told" = some (.ref f)) (hb : Binds K fd ["_law_text"] []) (G_scan : FOk P w K mg base 4 "scan" ["text"] d_scan_v5) (H_BadValue : TryOk K mg "BadValue" [("BadValue", true), ("TextError", false)] ["column", "name", "words"]) (H_TextError : TryOk K mg "TextError" [("BadValue", false), ("TextError", true)] ["column", "name", "words"]) (I_UndoError : IsOwn K mg "UndoError" [("BadValue", true), ("TextError", true)]) : FOk P w K mg base 5 "_law_told" ["_law_text"] d__law_told_v23 :=
  fok (u := 1) F sc__law_told rfl hm hb fun cdv A outer s H E c hX tk => (k_one (k_try2 1 [("BadValue", false), ("TextError", true)] 1 [("BadValue", true), ("TextError", false)] ["column", "name", "words"] hX tk H_TextError rfl rfl H_BadValue rfl rfl rfl rfl rfl rfl (fun W pn xe hX tk => (k_one (k_ret (r_call hX G_scan (by omega) rfl (a_cons (r_var 0) a_nil))))) (fun a oe cls d pn c x hK hz hd hx => (x_one (x_ret (x_ife (xt_bool (x_isO hK hx I_UndoError hz hd rfl rfl T.n_isinstance rfl)) (x_tup (xa_cons (x_fld hK hx (.head _) hz hd rfl) (xa_cons (x_fld hK hx (.tail _ (.tail _ (.head _))) hz hd rfl) xa_nil))) (x_of r_non))))) (fun a oe cls d pn c x hK hz hd hx => (x_one (x_ret (x_fld hK hx (.tail _ (.head _)) hz hd rfl))))))
theorem sc__law_kind : FnScope ["_law_word"] ["_law_word"] (defScope (top 23)) := ⟨rfl, rfl, rfl, by decide +kernel, rfl, by decide +kernel, by decide +kernel⟩
theorem ok__law_kind {f : Addr} {fd : FuncData} (T : Txt K mg) (F : Fun K "_law_kind" "_law_kind" (top 23) f fd) (hm : mg "_law_kind" = some (.ref f)) (hb : Binds K fd ["_law_word"] [])  : FOk P w K mg base 1 "_law_kind" ["_law_word"] d__law_kind_v2 :=
  fok (u := 0) F sc__law_kind rfl hm hb fun cdv A outer s H E c hX tk => (k_cons (k_if (t_cmp hX (o_in hX.room) (r_var 0) (r_lst (a_cons r_str (a_cons r_str a_nil))) rfl) (k_one (k_ret (r_if (t_cmp hX (o_eq hX.room) (r_var 0) r_str (nomark _)) r_str r_str))) k_nil)
  (k_one (k_ret (r_if (t_cmp hX o_inS (r_var 0) r_str rfl) r_str r_str))))
theorem sc_law : FnScope ["_law_script", "_law_stream_here", "_law_words", "_law_problem", "_law_strange", "_law_at", "_law_word", "_law_text", "_law_places", "_law_due", "_law_told_here", "_law_blank", "_law_bad", "_law_turn", "_law_sign", "_law_k"] ["_law_script"] (defScope (top 24)) := ⟨rfl, rfl, rfl, by decide +kernel, rfl, by decide +kernel, by decide +kernel⟩
theorem ok_law {f : Addr} {fd : FuncData} (T : Txt K mg) (F : Fun K "law" "law" (top 24) f fd) (hm : mg "law" = some (.ref f)) (hb : Binds K fd ["_law_script"] []) (G__law_stream : FOk P w K mg base 1 "_law_stream" ["_law_script"] d__law_stream) (G__law_next : FOk P w K mg base 1 "_law_next" ["_law_stream_here", "_law_many"] d__law_next) (G__law_pick : FOk P w K mg base 2 "_law_pick" ["_law_stream_here", "_law_rows"] d__law_pick) (G__law_laid : FOk P w K mg base 2 "_law_laid" ["_law_stream_here", "_law_words"] d__law_laid_v3) (G__law_equal : FOk P w K mg base 8 "_law_equal" ["_law_actual", "_law_due"] d__law_equal) (G__law_told : FOk P w K mg base 5 "_law_told" ["_law_text"] d__law_told_v23) (G__law_kind : FOk P w K mg base 1 "_law_kind" ["_law_word"] d__law_kind_v2) : FOk P w K mg base 9 "law" ["_law_script"] d_law_k65 :=
  fok (u := 15) F sc_law rfl hm hb fun cdv A outer s H E c hX tk => (k_cons (k_set 1 hX rfl (by first | exact Or.inl rfl | exact Or.inr rfl) (r_call hX G__law_stream (by omega) rfl (a_cons (r_var 0) a_nil)))
  (k_cons (k_setOc 2 hX rfl rfl (blkOk_by (own := [("_law_turn", 13)]) (by show blkC ["_law_script", "_law_stream_here", "_law_words", "_law_problem", "_law_strange", "_law_at", "_law_word", "_law_text", "_law_places", "_law_due", "_law_told_here", "_law_blank", "_law_bad", "_law_turn", "_law_sign", "_law_k"] (defScope (top 24)) _ _ = true; decide +kernel)) (i_rng hX rfl T.n_range (r_call hX G__law_next (by omega) rfl (a_cons (r_var 1) (a_cons r_int a_nil)))) (by decide) (fun c s H C cl fp hX => (g_name 13 hX rfl (by first | exact Or.inl rfl | exact Or.inr rfl))) (fun c s H C cl fp hX => ts_nil) (fun c s H C cl fp hX => (r_call hX G__law_pick (by omega) rfl (a_cons (r_var 1) (a_cons (r_lst (a_cons r_str (a_cons r_str (a_cons r_str (a_cons r_str (a_cons r_str (a_cons r_str (a_cons r_str (a_cons r_str (a_cons r_str (a_cons r_str (a_cons r_str a_nil)))))))))))) a_nil)))))
  (k_cons (k_set 3 hX rfl (by first | exact Or.inl rfl | exact Or.inr rfl) r_non)
  (k_cons (k_if (t_cmp hX (o_eq hX.room) (r_call hX G__law_next (by omega) rfl (a_cons (r_var 1) (a_cons r_int a_nil))) r_int (nomark _)) (k_cons (k_setC 4 hX rfl rfl (blkOk_by (own := [("_law_sign", 14)]) (by show blkC ["_law_script", "_law_stream_here", "_law_words", "_law_problem", "_law_strange", "_law_at", "_law_word", "_law_text", "_law_places", "_law_due", "_law_told_here", "_law_blank", "_law_bad", "_law_turn", "_law_sign", "_law_k"] (defScope (top 24)) _ _ = true; decide +kernel)) (i_seq hX (r_lst (a_cons r_str (a_cons r_str (a_cons r_str (a_cons r_str (a_cons r_str (a_cons r_str (a_cons r_str (a_cons r_str (a_cons r_str (a_cons r_str (a_cons r_str (a_cons r_str (a_cons r_str (a_cons r_str (a_cons r_str a_nil))))))))))))))))) (by decide) (fun c s H C cl fp hX => (g_name 14 hX rfl (by first | exact Or.inl rfl | exact Or.inr rfl))) (fun c s H C cl fp hX => ts_nil) (fun c s H C cl fp hX => (r_tup (a_cons (r_var 14) (a_cons r_str a_nil)))))
  (k_cons (k_set 4 hX rfl (by first | exact Or.inl rfl | exact Or.inr rfl) (r_bin hX o_add (r_var 4) (r_lst (a_cons (r_tup (a_cons r_str (a_cons r_str a_nil))) (a_cons (r_tup (a_cons r_str (a_cons r_str a_nil))) a_nil)))))
  (k_cons (k_set 5 hX rfl (by first | exact Or.inl rfl | exact Or.inr rfl) (r_call hX G__law_next (by omega) rfl (a_cons (r_var 1) (a_cons (r_bin hX o_add (r_lenO 2 hX rfl T.n_len rfl (by first | exact Or.inl rfl | exact Or.inr (Or.inl rfl) | exact Or.inr (Or.inr rfl))) r_int) a_nil))))
  (k_cons (k_setT (g_tup hX (gs_cons 6 hX rfl (by first | exact Or.inl rfl | exact Or.inr rfl) (gs_cons 3 hX rfl (by first | exact Or.inl rfl | exact Or.inr rfl) gs_nil))) (r_call hX G__law_pick (by omega) rfl (a_cons (r_var 1) (a_cons (r_var 4) a_nil))))
  (k_cons (k_setO 2 hX rfl (by first | exact Or.inl rfl | exact Or.inr rfl) (o_addL hX (r_bin hX o_add (r_sl hX (r_var 2) po_no (po_yes (r_var 5))) (r_lst (a_cons (r_var 6) a_nil))) (r_sl hX (r_var 2) (po_yes (r_var 5)) po_no)))
  (k_one (k_if (t_cmp hX (o_eq hX.room) (r_call hX G__law_next (by omega) rfl (a_cons (r_var 1) (a_cons r_int a_nil))) r_int (nomark _)) (k_one (k_app 2 hX rfl (by first | exact Or.inl rfl | exact Or.inr (Or.inl rfl) | exact Or.inr (Or.inr rfl)) (r_ix hX (r_call hX G__law_pick (by omega) rfl (a_cons (r_var 1) (a_cons (r_var 4) a_nil))) r_int))) k_nil))))))) k_nil)
  (k_cons (k_setT (g_tup hX (gs_cons 7 hX rfl (by first | exact Or.inl rfl | exact Or.inr rfl) (gs_cons 8 hX rfl (by first | exact Or.inl rfl | exact Or.inr rfl) gs_nil))) (r_call hX G__law_laid (by omega) rfl (a_cons (r_var 1) (a_cons (r_var 2) a_nil))))
  (k_cons (k_if (t_cmp hX o_isnot (r_var 3) r_non (nomark _)) (k_one (k_ret (r_call hX G__law_equal (by omega) rfl (a_cons (r_call hX G__law_told (by omega) rfl (a_cons (r_var 7) a_nil)) (a_cons (r_tup (a_cons (r_ix hX (r_var 8) (r_var 5)) (a_cons (r_var 3) a_nil))) a_nil))))) k_nil)
  (k_cons (k_set 9 hX rfl (by first | exact Or.inl rfl | exact Or.inr rfl) (r_bin hX o_add (o_val (o_comp hX (blkOk_by (own := [("_law_k", 15), ("_law_word", 6)]) (by show blkC ["_law_script", "_law_stream_here", "_law_words", "_law_problem", "_law_strange", "_law_at", "_law_word", "_law_text", "_law_places", "_law_due", "_law_told_here", "_law_blank", "_law_bad", "_law_turn", "_law_sign", "_law_k"] (defScope (top 24)) _ _ = true; decide +kernel)) (i_enum2 hX rfl T.n_enumerate (r_var 2)) (by decide) (fun c s H C cl fp hX => (g_tup hX (gs_cons 15 hX rfl (by first | exact Or.inl rfl | exact Or.inr rfl) (gs_cons 6 hX rfl (by first | exact Or.inl rfl | exact Or.inr rfl) gs_nil)))) (fun c s H C cl fp hX => ts_nil) (fun c s H C cl fp hX => (r_tup (a_cons (r_call hX G__law_kind (by omega) rfl (a_cons (r_var 6) a_nil)) (a_cons (r_var 6) (a_cons (r_ix hX (r_var 8) (r_var 15)) a_nil))))))) (r_lst (a_cons (r_tup (a_cons r_str (a_cons r_str (a_cons (r_ix hX (r_var 8) (r_un hX o_neg r_int)) a_nil)))) a_nil))))
  (k_cons (k_set 10 hX rfl (by first | exact Or.inl rfl | exact Or.inr rfl) (r_call hX G__law_told (by omega) rfl (a_cons (r_var 7) a_nil)))
  (k_cons (k_if (t_not (t_tru hX (r_call hX G__law_equal (by omega) rfl (a_cons (r_var 10) (a_cons (r_var 9) a_nil))))) (k_one (k_ret r_bl)) k_nil)
  (k_cons (k_appR hX (r_var 10) r_non)
  (k_cons (k_set 11 hX rfl (by first | exact Or.inl rfl | exact Or.inr rfl) (r_bin hX o_strMul r_str (r_bin hX o_sub r_int (r_callB hX b_len rfl T.n_len bt_len (a_cons (r_var 7) a_nil)))))
  (k_cons (k_set 12 hX rfl (by first | exact Or.inl rfl | exact Or.inr rfl) (r_call hX G__law_pick (by omega) rfl (a_cons (r_var 1) (a_cons (r_lst (a_cons r_non (a_cons (r_lst (a_cons (r_var 7) a_nil)) (a_cons (r_bin hX o_add (r_var 7) r_str) (a_cons r_str (a_cons (r_bin hX o_add (r_bin hX o_add (r_var 11) (r_var 7)) r_str) (a_cons r_int a_nil))))))) a_nil))))
  (k_one (k_ret (r_and hX (r_call hX G__law_equal (by omega) rfl (a_cons (r_call hX G__law_told (by omega) rfl (a_cons (r_var 7) a_nil)) (a_cons (r_var 9) a_nil))) (r_and hX (r_cmp hX (o_eq hX.room) (r_call hX G__law_told (by omega) rfl (a_cons (r_var 12) a_nil)) r_str (nomark _)) (r_one (r_isi hX rfl T.n_isinstance rfl T.n_list bt_list (r_call hX G__law_told (by omega) rfl (a_cons (r_bin hX o_add (r_var 11) (r_var 7)) a_nil))))))))))))))))))))
theorem sc_ini_BadValue : FnScope ["self", "name"] ["self", "name"] (defScope (inCls (top 2) 0)) := ⟨rfl, rfl, rfl, by decide +kernel, rfl, by decide +kernel, by decide +kernel⟩
theorem ok_ini_BadValue {f : Addr} {fd : FuncData} (F : Fun K "__init__" "BadValue.__init__" (inCls (top 2) 0) f fd) : FnOk P w K mg base (L2.CX P w) 1 f fd ["self", "name"] (spIni K "name") :=
  F.okX sc_ini_BadValue (fun vs H Q E h => ini_len h) fun cdv A outer s H vs Q E hr h => ⟨_, pss_one (ps_ost (pv 0) (pv 1)), ini_pure h⟩
theorem sc_ini_TextError : FnScope ["self", "column", "words"] ["self", "column", "words"] (defScope (inCls (top 3) 0)) := ⟨rfl, rfl, rfl, by decide +kernel, rfl, by decide +kernel, by decide +kernel⟩
theorem ok_ini_TextError {f : Addr} {fd : FuncData} (F : Fun K "__init__" "TextError.__init__" (inCls (top 3) 0) f fd) : FnOk P w K mg base (L2.CX P w) 1 f fd ["self", "column", "words"] (spIni2 K "column" "words") :=
  F.okX sc_ini_TextError (fun vs H Q E h => ini2_len h) fun cdv A outer s H vs Q E hr h => ⟨_, pss_cons (ps_ost (pv 0) (pv 1)) (pss_one (ps_ost (pv 0) (pv 2))), ini2_pure h⟩
end
theorem all_mk {l : PySem.W.OpenLaw} {w : World} {K : PySem.W.Frag} {h : Heap} {mg : Str → Option Value} {fa : Addr} {f0 : Addr} {oc0 kV0 dc0 pm0 cd0 ct0 : Value} {od0 an0 : Option Addr} {sl0 : Array (Option Value)}
  {f1 : Addr} {oc1 kV1 dc1 pm1 cd1 ct1 : Value} {od1 an1 : Option Addr} {sl1 : Array (Option Value)}
  {f2 : Addr} {oc2 kV2 dc2 pm2 cd2 ct2 : Value} {od2 an2 : Option Addr} {sl2 : Array (Option Value)}
  {f3 : Addr} {oc3 kV3 dc3 pm3 cd3 ct3 : Value} {od3 an3 : Option Addr} {sl3 : Array (Option Value)}
  {f4 : Addr} {oc4 kV4 dc4 pm4 cd4 ct4 : Value} {od4 an4 : Option Addr} {sl4 : Array (Option Value)}
  {f5 : Addr} {oc5 kV5 dc5 pm5 cd5 ct5 : Value} {od5 an5 : Option Addr} {sl5 : Array (Option Value)}
  {f6 : Addr} {oc6 kV6 dc6 pm6 cd6 ct6 : Value} {od6 an6 : Option Addr} {sl6 : Array (Option Value)}
  {f7 : Addr} {oc7 kV7 dc7 pm7 cd7 ct7 : Value} {od7 an7 : Option Addr} {sl7 : Array (Option Value)}
  {f8 : Addr} {oc8 kV8 dc8 pm8 cd8 ct8 : Value} {od8 an8 : Option Addr} {sl8 : Array (Option Value)}
  {f9 : Addr} {oc9 kV9 dc9 pm9 cd9 ct9 : Value} {od9 an9 : Option Addr} {sl9 : Array (Option Value)}
  {f10 : Addr} {oc10 kV10 dc10 pm10 cd10 ct10 : Value} {od10 an10 : Option Addr} {sl10 : Array (Option Value)}
  {f11 : Addr} {oc11 kV11 dc11 pm11 cd11 ct11 : Value} {od11 an11 : Option Addr} {sl11 : Array (Option Value)}
  {f12 : Addr} {oc12 kV12 dc12 pm12 cd12 ct12 : Value} {od12 an12 : Option Addr} {sl12 : Array (Option Value)}
  {X_UndoError : Addr}
  {X_BadValue : Addr}
  {X_TextError : Addr}
  {I_BadValue : Addr} {nm_BadValue qn_BadValue : Str} {N_BadValue : Addr} {bs_BadValue : List Value} {sn_BadValue : List Str} {sub_BadValue : List Value} {ab_BadValue : Bool} {col_BadValue : Option Bool} {dd_BadValue : Option Addr} {m0_BadValue m1_BadValue m2_BadValue m3_BadValue m5_BadValue : Option Value}
  {oc_BadValue kV_BadValue dc_BadValue pm_BadValue cd_BadValue ct_BadValue : Value} {od_BadValue an_BadValue : Option Addr} {sl_BadValue : Array (Option Value)}
  {I_TextError : Addr} {nm_TextError qn_TextError : Str} {N_TextError : Addr} {bs_TextError : List Value} {sn_TextError : List Str} {sub_TextError : List Value} {ab_TextError : Bool} {col_TextError : Option Bool} {dd_TextError : Option Addr} {m0_TextError m1_TextError m2_TextError m3_TextError m5_TextError : Option Value}
  {oc_TextError kV_TextError dc_TextError pm_TextError cd_TextError ct_TextError : Value} {od_TextError an_TextError : Option Addr} {sl_TextError : Array (Option Value)}
  {t_DIGITS : Tok} {t_LETTERS : Tok} {t_LONGEST_TEXT : Tok} {t_MOST_DIGITS : Tok} {t_SIGN : Tok} {t_WORD : Tok}
  (X : K.In h) (G : h.Ns mainGlobals mg) (hfa : mg "law" = some (.ref fa))
  (a0 : PySem.W.nsIn K mainGlobals "check_text" = some (some (.ref f0)))
  (l0 : K.lookup f0 = some ⟨oc0, od0, .func (PySem.W.fnOf "check_text" "check_text" (defArgs (top 11)) (defBody (top 11)) (defScope (top 11)) .none kV0 dc0 pm0 an0 cd0 ct0), sl0⟩)
  (c0 : PySem.W.codeIn K cd0 "check_text" = true) (k0 : PySem.W.keepIn K (.ref f0) = true)
  (a1 : PySem.W.nsIn K mainGlobals "number_at" = some (some (.ref f1)))
  (l1 : K.lookup f1 = some ⟨oc1, od1, .func (PySem.W.fnOf "number_at" "number_at" (defArgs (top 12)) (defBody (top 12)) (defScope (top 12)) .none kV1 dc1 pm1 an1 cd1 ct1), sl1⟩)
  (c1 : PySem.W.codeIn K cd1 "number_at" = true) (k1 : PySem.W.keepIn K (.ref f1) = true)
  (a2 : PySem.W.nsIn K mainGlobals "token_at" = some (some (.ref f2)))
  (l2 : K.lookup f2 = some ⟨oc2, od2, .func (PySem.W.fnOf "token_at" "token_at" (defArgs (top 13)) (defBody (top 13)) (defScope (top 13)) .none kV2 dc2 pm2 an2 cd2 ct2), sl2⟩)
  (c2 : PySem.W.codeIn K cd2 "token_at" = true) (k2 : PySem.W.keepIn K (.ref f2) = true)
  (a3 : PySem.W.nsIn K mainGlobals "scan" = some (some (.ref f3)))
  (l3 : K.lookup f3 = some ⟨oc3, od3, .func (PySem.W.fnOf "scan" "scan" (defArgs (top 14)) (defBody (top 14)) (defScope (top 14)) .none kV3 dc3 pm3 an3 cd3 ct3), sl3⟩)
  (c3 : PySem.W.codeIn K cd3 "scan" = true) (k3 : PySem.W.keepIn K (.ref f3) = true)
  (a4 : PySem.W.nsIn K mainGlobals "_law_stream" = some (some (.ref f4)))
  (l4 : K.lookup f4 = some ⟨oc4, od4, .func (PySem.W.fnOf "_law_stream" "_law_stream" (defArgs (top 16)) (defBody (top 16)) (defScope (top 16)) .none kV4 dc4 pm4 an4 cd4 ct4), sl4⟩)
  (c4 : PySem.W.codeIn K cd4 "_law_stream" = true) (k4 : PySem.W.keepIn K (.ref f4) = true)
  (a5 : PySem.W.nsIn K mainGlobals "_law_next" = some (some (.ref f5)))
  (l5 : K.lookup f5 = some ⟨oc5, od5, .func (PySem.W.fnOf "_law_next" "_law_next" (defArgs (top 17)) (defBody (top 17)) (defScope (top 17)) .none kV5 dc5 pm5 an5 cd5 ct5), sl5⟩)
  (c5 : PySem.W.codeIn K cd5 "_law_next" = true) (k5 : PySem.W.keepIn K (.ref f5) = true)
  (a6 : PySem.W.nsIn K mainGlobals "_law_is_integer" = some (some (.ref f6)))
  (l6 : K.lookup f6 = some ⟨oc6, od6, .func (PySem.W.fnOf "_law_is_integer" "_law_is_integer" (defArgs (top 18)) (defBody (top 18)) (defScope (top 18)) .none kV6 dc6 pm6 an6 cd6 ct6), sl6⟩)
  (c6 : PySem.W.codeIn K cd6 "_law_is_integer" = true) (k6 : PySem.W.keepIn K (.ref f6) = true)
  (a7 : PySem.W.nsIn K mainGlobals "_law_equal" = some (some (.ref f7)))
  (l7 : K.lookup f7 = some ⟨oc7, od7, .func (PySem.W.fnOf "_law_equal" "_law_equal" (defArgs (top 19)) (defBody (top 19)) (defScope (top 19)) .none kV7 dc7 pm7 an7 cd7 ct7), sl7⟩)
  (c7 : PySem.W.codeIn K cd7 "_law_equal" = true) (k7 : PySem.W.keepIn K (.ref f7) = true)
  (a8 : PySem.W.nsIn K mainGlobals "_law_pick" = some (some (.ref f8)))
  (l8 : K.lookup f8 = some ⟨oc8, od8, .func (PySem.W.fnOf "_law_pick" "_law_pick" (defArgs (top 20)) (defBody (top 20)) (defScope (top 20)) .none kV8 dc8 pm8 an8 cd8 ct8), sl8⟩)
  (c8 : PySem.W.codeIn K cd8 "_law_pick" = true) (k8 : PySem.W.keepIn K (.ref f8) = true)
  (a9 : PySem.W.nsIn K mainGlobals "_law_laid" = some (some (.ref f9)))
  (l9 : K.lookup f9 = some ⟨oc9, od9, .func (PySem.W.fnOf "_law_laid" "_law_laid" (defArgs (top 21)) (defBody (top 21)) (defScope (top 21)) .none kV9 dc9 pm9 an9 cd9 ct9), sl9⟩)
  (c9 : PySem.W.codeIn K cd9 "_law_laid" = true) (k9 : PySem.W.keepIn K (.ref f9) = true)
  (a10 : PySem.W.nsIn K mainGlobals "_law_told" = some (some (.ref f10)))
  (l10 : K.lookup f10 = some ⟨oc10, od10, .func (PySem.W.fnOf "_law_told" "_law_told" (defArgs (top 22)) (defBody (top 22)) (defScope (top 22)) .none kV10 dc10 pm10 an10 cd10 ct10), sl10⟩)
  (c10 : PySem.W.codeIn K cd10 "_law_told" = true) (k10 : PySem.W.keepIn K (.ref f10) = true)
  (a11 : PySem.W.nsIn K mainGlobals "_law_kind" = some (some (.ref f11)))
  (l11 : K.lookup f11 = some ⟨oc11, od11, .func (PySem.W.fnOf "_law_kind" "_law_kind" (defArgs (top 23)) (defBody (top 23)) (defScope (top 23)) .none kV11 dc11 pm11 an11 cd11 ct11), sl11⟩)
  (c11 : PySem.W.codeIn K cd11 "_law_kind" = true) (k11 : PySem.W.keepIn K (.ref f11) = true)
  (a12 : PySem.W.nsIn K mainGlobals "law" = some (some (.ref f12)))
  (l12 : K.lookup f12 = some ⟨oc12, od12, .func (PySem.W.fnOf "law" "law" (defArgs (top 24)) (defBody (top 24)) (defScope (top 24)) .none kV12 dc12 pm12 an12 cd12 ct12), sl12⟩)
  (c12 : PySem.W.codeIn K cd12 "law" = true) (k12 : PySem.W.keepIn K (.ref f12) = true)
  (xa_UndoError : PySem.W.nsIn K mainGlobals "UndoError" = some (some (.ref X_UndoError)))
  (xa_BadValue : PySem.W.nsIn K mainGlobals "BadValue" = some (some (.ref X_BadValue)))
  (xa_TextError : PySem.W.nsIn K mainGlobals "TextError" = some (some (.ref X_TextError)))
  (eC_UndoError : PySem.W.subIn K (.ref X_UndoError) (.type "BaseException") = some true)
  (hC_UndoError : PySem.W.hasDictIn K X_UndoError = true)
  (tC_UndoError : PySem.W.typeIn K (.ref X_UndoError) = some (.type "type"))
  (eC_BadValue : PySem.W.subIn K (.ref X_BadValue) (.type "BaseException") = some true)
  (hC_BadValue : PySem.W.hasDictIn K X_BadValue = true)
  (tC_BadValue : PySem.W.typeIn K (.ref X_BadValue) = some (.type "type"))
  (eC_TextError : PySem.W.subIn K (.ref X_TextError) (.type "BaseException") = some true)
  (hC_TextError : PySem.W.hasDictIn K X_TextError = true)
  (tC_TextError : PySem.W.typeIn K (.ref X_TextError) = some (.type "type"))
  (xL_BadValue : K.lookup X_BadValue = some (excClassObj nm_BadValue qn_BadValue X_BadValue N_BadValue bs_BadValue [.ref X_UndoError, .type "ValueError", .type "Exception", .type "BaseException", .type "object"] true sn_BadValue sub_BadValue ab_BadValue col_BadValue dd_BadValue m0_BadValue m1_BadValue m2_BadValue m3_BadValue m5_BadValue "ValueError.__new__"))
  (sa_BadValue : PySem.W.findIn K (.ref X_BadValue) "__setattr__" = some (some (.builtin "object.__setattr__")))
  (ga_BadValue : PySem.W.findIn K (.ref X_BadValue) "__getattribute__" = some (some (.builtin "BaseException.__getattribute__")))
  (gg_BadValue : PySem.W.findIn K (.ref X_BadValue) "__getattr__" = some none)
  (ii_BadValue : PySem.W.findIn K (.ref X_BadValue) "__init__" = some (some (.ref I_BadValue)))
  (ti_BadValue : PySem.W.typeIn K (.ref I_BadValue) = some (.type "function"))
  (li_BadValue : K.lookup I_BadValue = some ⟨oc_BadValue, od_BadValue, .func (PySem.W.fnOf "__init__" "BadValue.__init__" (defArgs (inCls (top 2) 0)) (defBody (inCls (top 2) 0)) (defScope (inCls (top 2) 0)) .none kV_BadValue dc_BadValue pm_BadValue an_BadValue cd_BadValue ct_BadValue), sl_BadValue⟩)
  (ci_BadValue : PySem.W.codeIn K cd_BadValue "BadValue.__init__" = true)
  (ki_BadValue : PySem.W.keepIn K (.ref I_BadValue) = true)
  (kc_BadValue : PySem.W.keepIn K (.ref X_BadValue) = true)
  (nf_column_BadValue : PySem.W.findIn K (.ref X_BadValue) "column" = some none)
  (nf_name_BadValue : PySem.W.findIn K (.ref X_BadValue) "name" = some none)
  (nf_words_BadValue : PySem.W.findIn K (.ref X_BadValue) "words" = some none)
  (kl_BadValue : PySem.W.findIn K (.ref X_BadValue) "__class__" = some (some (.builtin "object.__class__")))
  (mo_BadValue : PySem.W.mroIn K X_BadValue (.type "object") = some true)
  (si_UndoError_BadValue : PySem.W.subIn K (.ref X_BadValue) (.ref X_UndoError) = some true)
  (sb_BadValue_BadValue : PySem.W.subIn K (.ref X_BadValue) (.ref X_BadValue) = some true)
  (sb_TextError_BadValue : PySem.W.subIn K (.ref X_BadValue) (.ref X_TextError) = some false)
  (xL_TextError : K.lookup X_TextError = some (excClassObj nm_TextError qn_TextError X_TextError N_TextError bs_TextError [.ref X_UndoError, .type "ValueError", .type "Exception", .type "BaseException", .type "object"] true sn_TextError sub_TextError ab_TextError col_TextError dd_TextError m0_TextError m1_TextError m2_TextError m3_TextError m5_TextError "ValueError.__new__"))
  (sa_TextError : PySem.W.findIn K (.ref X_TextError) "__setattr__" = some (some (.builtin "object.__setattr__")))
  (ga_TextError : PySem.W.findIn K (.ref X_TextError) "__getattribute__" = some (some (.builtin "BaseException.__getattribute__")))
  (gg_TextError : PySem.W.findIn K (.ref X_TextError) "__getattr__" = some none)
  (ii_TextError : PySem.W.findIn K (.ref X_TextError) "__init__" = some (some (.ref I_TextError)))
  (ti_TextError : PySem.W.typeIn K (.ref I_TextError) = some (.type "function"))
  (li_TextError : K.lookup I_TextError = some ⟨oc_TextError, od_TextError, .func (PySem.W.fnOf "__init__" "TextError.__init__" (defArgs (inCls (top 3) 0)) (defBody (inCls (top 3) 0)) (defScope (inCls (top 3) 0)) .none kV_TextError dc_TextError pm_TextError an_TextError cd_TextError ct_TextError), sl_TextError⟩)
  (ci_TextError : PySem.W.codeIn K cd_TextError "TextError.__init__" = true)
  (ki_TextError : PySem.W.keepIn K (.ref I_TextError) = true)
  (kc_TextError : PySem.W.keepIn K (.ref X_TextError) = true)
  (nf_column_TextError : PySem.W.findIn K (.ref X_TextError) "column" = some none)
  (nf_name_TextError : PySem.W.findIn K (.ref X_TextError) "name" = some none)
  (nf_words_TextError : PySem.W.findIn K (.ref X_TextError) "words" = some none)
  (kl_TextError : PySem.W.findIn K (.ref X_TextError) "__class__" = some (some (.builtin "object.__class__")))
  (mo_TextError : PySem.W.mroIn K X_TextError (.type "object") = some true)
  (si_UndoError_TextError : PySem.W.subIn K (.ref X_TextError) (.ref X_UndoError) = some true)
  (sb_BadValue_TextError : PySem.W.subIn K (.ref X_TextError) (.ref X_BadValue) = some false)
  (sb_TextError_TextError : PySem.W.subIn K (.ref X_TextError) (.ref X_TextError) = some true)
  (xgt : PySem.W.specialIn K (.builtin "object.__class__") "__get__" = some (some (.builtin "getset_descriptor.__get__")))
  (xtk : PySem.W.takesIn K (.builtin "object.__class__") = some true)
  (z_abs : PySem.W.nsIn K mainGlobals "abs" = some none)
  (z_all : PySem.W.nsIn K mainGlobals "all" = some none)
  (z_bool : PySem.W.nsIn K mainGlobals "bool" = some none)
  (z_enumerate : PySem.W.nsIn K mainGlobals "enumerate" = some none)
  (z_int : PySem.W.nsIn K mainGlobals "int" = some none)
  (z_isinstance : PySem.W.nsIn K mainGlobals "isinstance" = some none)
  (z_len : PySem.W.nsIn K mainGlobals "len" = some none)
  (z_list : PySem.W.nsIn K mainGlobals "list" = some none)
  (z_max : PySem.W.nsIn K mainGlobals "max" = some none)
  (z_range : PySem.W.nsIn K mainGlobals "range" = some none)
  (z_str : PySem.W.nsIn K mainGlobals "str" = some none)
  (z_tuple : PySem.W.nsIn K mainGlobals "tuple" = some none)
  (y_DIGITS : PySem.W.nsIn K mainGlobals "DIGITS" = some (some (.str "0123456789" t_DIGITS)))
  (y_LETTERS : PySem.W.nsIn K mainGlobals "LETTERS" = some (some (.str "abcd" t_LETTERS)))
  (y_LONGEST_TEXT : PySem.W.nsIn K mainGlobals "LONGEST_TEXT" = some (some (.int 300 t_LONGEST_TEXT)))
  (y_MOST_DIGITS : PySem.W.nsIn K mainGlobals "MOST_DIGITS" = some (some (.int 6 t_MOST_DIGITS)))
  (y_SIGN : PySem.W.nsIn K mainGlobals "SIGN" = some (some (.str ";" t_SIGN)))
  (y_WORD : PySem.W.nsIn K mainGlobals "WORD" = some (some (.str "start" t_WORD))) :
    ∃ fd : FuncData, (∀ (s : Shared) (v : Value), BindsTo s fd ⟨[v], []⟩ [("_law_script", v)]) ∧ ∀ base : Heap, K.In base → base.Ns mainGlobals mg → FnOk l.prog w K mg base (L2.CX l.prog w) 9 fa fd ["_law_script"] (spLaw K) := by
  have T : Txt K mg := ⟨trivial, PySem.W.mg_none_of X G z_abs, PySem.W.mg_none_of X G z_all, PySem.W.mg_none_of X G z_bool, PySem.W.mg_none_of X G z_enumerate, PySem.W.mg_none_of X G z_int, PySem.W.mg_none_of X G z_isinstance, PySem.W.mg_none_of X G z_len, PySem.W.mg_none_of X G z_list, PySem.W.mg_none_of X G z_max, PySem.W.mg_none_of X G z_range, PySem.W.mg_none_of X G z_str, PySem.W.mg_none_of X G z_tuple, ⟨_, PySem.W.mg_of X G y_DIGITS⟩, ⟨_, PySem.W.mg_of X G y_LETTERS⟩, ⟨_, PySem.W.mg_of X G y_LONGEST_TEXT⟩, ⟨_, PySem.W.mg_of X G y_MOST_DIGITS⟩, ⟨_, PySem.W.mg_of X G y_SIGN⟩, ⟨_, PySem.W.mg_of X G y_WORD⟩⟩
  have F0 := fun_mk (st := (top 11)) l0 c0 k0
  have m0 := PySem.W.mg_of X G a0
  have b0 := F0.binds (ps := ["text"]) fun _ _ _ _ _ _ us hl => match us, hl with | [_], _ => rfl
  have F1 := fun_mk (st := (top 12)) l1 c1 k1
  have m1 := PySem.W.mg_of X G a1
  have b1 := F1.binds (ps := ["text", "at"]) fun _ _ _ _ _ _ us hl => match us, hl with | [_, _], _ => rfl
  have F2 := fun_mk (st := (top 13)) l2 c2 k2
  have m2 := PySem.W.mg_of X G a2
  have b2 := F2.binds (ps := ["text", "at"]) fun _ _ _ _ _ _ us hl => match us, hl with | [_, _], _ => rfl
  have F3 := fun_mk (st := (top 14)) l3 c3 k3
  have m3 := PySem.W.mg_of X G a3
  have b3 := F3.binds (ps := ["text"]) fun _ _ _ _ _ _ us hl => match us, hl with | [_], _ => rfl
  have F4 := fun_mk (st := (top 16)) l4 c4 k4
  have m4 := PySem.W.mg_of X G a4
  have b4 := F4.binds (ps := ["_law_script"]) fun _ _ _ _ _ _ us hl => match us, hl with | [_], _ => rfl
  have F5 := fun_mk (st := (top 17)) l5 c5 k5
  have m5 := PySem.W.mg_of X G a5
  have b5 := F5.binds (ps := ["_law_stream_here", "_law_many"]) fun _ _ _ _ _ _ us hl => match us, hl with | [_, _], _ => rfl
  have F6 := fun_mk (st := (top 18)) l6 c6 k6
  have m6 := PySem.W.mg_of X G a6
  have b6 := F6.binds (ps := ["_law_actual"]) fun _ _ _ _ _ _ us hl => match us, hl with | [_], _ => rfl
  have F7 := fun_mk (st := (top 19)) l7 c7 k7
  have m7 := PySem.W.mg_of X G a7
  have b7 := F7.binds (ps := ["_law_actual", "_law_due"]) fun _ _ _ _ _ _ us hl => match us, hl with | [_, _], _ => rfl
  have F8 := fun_mk (st := (top 20)) l8 c8 k8
  have m8 := PySem.W.mg_of X G a8
  have b8 := F8.binds (ps := ["_law_stream_here", "_law_rows"]) fun _ _ _ _ _ _ us hl => match us, hl with | [_, _], _ => rfl
  have F9 := fun_mk (st := (top 21)) l9 c9 k9
  have m9 := PySem.W.mg_of X G a9
  have b9 := F9.binds (ps := ["_law_stream_here", "_law_words"]) fun _ _ _ _ _ _ us hl => match us, hl with | [_, _], _ => rfl
  have F10 := fun_mk (st := (top 22)) l10 c10 k10
  have m10 := PySem.W.mg_of X G a10
  have b10 := F10.binds (ps := ["_law_text"]) fun _ _ _ _ _ _ us hl => match us, hl with | [_], _ => rfl
  have F11 := fun_mk (st := (top 23)) l11 c11 k11
  have m11 := PySem.W.mg_of X G a11
  have b11 := F11.binds (ps := ["_law_word"]) fun _ _ _ _ _ _ us hl => match us, hl with | [_], _ => rfl
  have F12 := fun_mk (st := (top 24)) l12 c12 k12
  have m12 := PySem.W.mg_of X G a12
  have b12 := F12.binds (ps := ["_law_script"]) fun _ _ _ _ _ _ us hl => match us, hl with | [_], _ => rfl
  have e := hfa.symm.trans m12
  cases e
  refine ⟨_, Dn.Fun.bindsLaw F12 fun _ _ _ _ _ _ u => rfl, fun base _ _ => ?_⟩
  have FI_BadValue := fun_mk (st := inCls (top 2) 0) li_BadValue ci_BadValue ki_BadValue
  have E_BadValue : ExOk l.prog w K mg base "BadValue" "name" := ⟨X_BadValue, I_BadValue, _, "name", PySem.W.mg_of X G xa_BadValue, ⟨⟨_, _, _, _, _, _, _, _, _, _, _, _, _, _, _, xL_BadValue, rfl⟩, sa_BadValue, eC_BadValue, tC_BadValue, kc_BadValue⟩, nf_name_BadValue, ii_BadValue, ti_BadValue, ok_ini_BadValue FI_BadValue, FI_BadValue.binds (ps := ["self", "name"]) fun _ _ _ _ _ _ us hl => match us, hl with | [_, _], _ => rfl⟩
  have FI_TextError := fun_mk (st := inCls (top 3) 0) li_TextError ci_TextError ki_TextError
  have E_TextError : ExOk2 l.prog w K mg base "TextError" "column" "words" := ⟨X_TextError, I_TextError, _, "column", "words", PySem.W.mg_of X G xa_TextError, ⟨⟨_, _, _, _, _, _, _, _, _, _, _, _, _, _, _, xL_TextError, rfl⟩, sa_TextError, eC_TextError, tC_TextError, kc_TextError⟩, nf_column_TextError, nf_words_TextError, ii_TextError, ti_TextError, ok_ini_TextError FI_TextError, FI_TextError.binds (ps := ["self", "column", "words"]) fun _ _ _ _ _ _ us hl => match us, hl with | [_, _, _], _ => rfl⟩
  have H_BadValue : TryOk K mg "BadValue" [("BadValue", true), ("TextError", false)] ["column", "name", "words"] := by
    refine ⟨X_BadValue, PySem.W.mg_of X G xa_BadValue, ?_⟩
    refine List.forall_mem_cons.mpr ⟨⟨X_BadValue, PySem.W.mg_of X G xa_BadValue, PySem.W.exm_ref eC_BadValue hC_BadValue tC_BadValue sb_BadValue_BadValue, ⟨ga_BadValue, gg_BadValue, eC_BadValue, hC_BadValue⟩, List.forall_mem_cons.mpr ⟨nf_column_BadValue, List.forall_mem_cons.mpr ⟨nf_name_BadValue, List.forall_mem_cons.mpr ⟨nf_words_BadValue, (fun _ z => nomatch z)⟩⟩⟩⟩, ?_⟩
    refine List.forall_mem_cons.mpr ⟨⟨X_TextError, PySem.W.mg_of X G xa_TextError, PySem.W.exm_ref eC_BadValue hC_BadValue tC_BadValue sb_BadValue_TextError, ⟨ga_TextError, gg_TextError, eC_TextError, hC_TextError⟩, List.forall_mem_cons.mpr ⟨nf_column_TextError, List.forall_mem_cons.mpr ⟨nf_name_TextError, List.forall_mem_cons.mpr ⟨nf_words_TextError, (fun _ z => nomatch z)⟩⟩⟩⟩, ?_⟩
    exact fun _ z => nomatch z
  have H_TextError : TryOk K mg "TextError" [("BadValue", false), ("TextError", true)] ["column", "name", "words"] := by
    refine ⟨X_TextError, PySem.W.mg_of X G xa_TextError, ?_⟩
    refine List.forall_mem_cons.mpr ⟨⟨X_BadValue, PySem.W.mg_of X G xa_BadValue, PySem.W.exm_ref eC_TextError hC_TextError tC_TextError sb_TextError_BadValue, ⟨ga_BadValue, gg_BadValue, eC_BadValue, hC_BadValue⟩, List.forall_mem_cons.mpr ⟨nf_column_BadValue, List.forall_mem_cons.mpr ⟨nf_name_BadValue, List.forall_mem_cons.mpr ⟨nf_words_BadValue, (fun _ z => nomatch z)⟩⟩⟩⟩, ?_⟩
    refine List.forall_mem_cons.mpr ⟨⟨X_TextError, PySem.W.mg_of X G xa_TextError, PySem.W.exm_ref eC_TextError hC_TextError tC_TextError sb_TextError_TextError, ⟨ga_TextError, gg_TextError, eC_TextError, hC_TextError⟩, List.forall_mem_cons.mpr ⟨nf_column_TextError, List.forall_mem_cons.mpr ⟨nf_name_TextError, List.forall_mem_cons.mpr ⟨nf_words_TextError, (fun _ z => nomatch z)⟩⟩⟩⟩, ?_⟩
    exact fun _ z => nomatch z
  have T_UndoError : IsT K mg (.ref X_UndoError) [("BadValue", true), ("TextError", true)] := by
    refine List.forall_mem_cons.mpr ⟨⟨X_BadValue, PySem.W.mg_of X G xa_BadValue, kit_ownT hC_UndoError tC_UndoError si_UndoError_BadValue, ⟨hC_BadValue, ga_BadValue, gg_BadValue, eC_BadValue, kl_BadValue, xgt, xtk, mo_BadValue⟩⟩, ?_⟩
    refine List.forall_mem_cons.mpr ⟨⟨X_TextError, PySem.W.mg_of X G xa_TextError, kit_ownT hC_UndoError tC_UndoError si_UndoError_TextError, ⟨hC_TextError, ga_TextError, gg_TextError, eC_TextError, kl_TextError, xgt, xtk, mo_TextError⟩⟩, ?_⟩
    exact fun _ z => nomatch z
  have I_UndoError : IsOwn K mg "UndoError" [("BadValue", true), ("TextError", true)] := ⟨X_UndoError, PySem.W.mg_of X G xa_UndoError, T_UndoError⟩
  have G0 : FOk l.prog w K mg base 3 "check_text" ["text"] d_check_text_v3 := ok_check_text T F0 m0 b0 E_BadValue
  have G1 : FOk l.prog w K mg base 1 "number_at" ["text", "at"] d_number_at_v2 := ok_number_at T F1 m1 b1 
  have G2 : FOk l.prog w K mg base 3 "token_at" ["text", "at"] d_token_at_v2 := ok_token_at T F2 m2 b2 G1 E_TextError
  have G3 : FOk l.prog w K mg base 4 "scan" ["text"] d_scan_v5 := ok_scan T F3 m3 b3 G0 G2
  have G4 : FOk l.prog w K mg base 1 "_law_stream" ["_law_script"] d__law_stream := ok__law_stream T F4 m4 b4 
  have G5 : FOk l.prog w K mg base 1 "_law_next" ["_law_stream_here", "_law_many"] d__law_next := ok__law_next T F5 m5 b5 
  have G6 : FOk l.prog w K mg base 1 "_law_is_integer" ["_law_actual"] d__law_is_integer := ok__law_is_integer T F6 m6 b6 
  have G7 : FOk l.prog w K mg base 8 "_law_equal" ["_law_actual", "_law_due"] d__law_equal := ok__law_equal T F7 m7 b7 G6
  have G8 : FOk l.prog w K mg base 2 "_law_pick" ["_law_stream_here", "_law_rows"] d__law_pick := ok__law_pick T F8 m8 b8 G5
  have G9 : FOk l.prog w K mg base 2 "_law_laid" ["_law_stream_here", "_law_words"] d__law_laid_v3 := ok__law_laid T F9 m9 b9 G5
  have G10 : FOk l.prog w K mg base 5 "_law_told" ["_law_text"] d__law_told_v23 := ok__law_told T F10 m10 b10 G3 H_BadValue H_TextError I_UndoError
  have G11 : FOk l.prog w K mg base 1 "_law_kind" ["_law_word"] d__law_kind_v2 := ok__law_kind T F11 m11 b11 
  have G12 : FOk l.prog w K mg base 9 "law" ["_law_script"] d_law_k65 := ok_law T F12 m12 b12 G4 G5 G8 G9 G7 G10 G11
  exact fok_lawD G12 m12 F12 b12 Dn.law_true
end Rw
open PySem PySem.W PyProof.Rows in
set_option maxRecDepth 100000 in
set_option maxHeartbeats 0 in
theorem PySem.Challenge.cw_undobystate_k65_tokens_of_texts_holds : PySem.Challenge.rw_undobystate_k65_tokens_of_texts.Holds := by
  w_on; o_law; k_head; (case hw => w_witness2)
  k_fill
  refine L2.walk_of (l := PySem.Challenge.rw_undobystate_k65_tokens_of_texts) (n := 63) (k := 9) (x := "_law_script") (CX := fun w => L2.CX PySem.Challenge.rw_undobystate_k65_tokens_of_texts.prog w) (sp := fun w => Dn.spLaw _) rfl (by decide) rfl ⟨rfl, by decide, by decide⟩ (fun w h Y => PySem.W.kIn_of Y) ?F (fun _ _ a ns hl _ hS => ⟨a, ns, rfl, hS, hl, fun _ => rfl⟩) fun _ _ _ _ _ z => Dn.cx_no z
  case F =>
    intro w mg fa h KX G hmg
    refine' Rw.all_mk KX G hmg ?a0 ?l0 ?c0 ?k0 ?a1 ?l1 ?c1 ?k1 ?a2 ?l2 ?c2 ?k2 ?a3 ?l3 ?c3 ?k3 ?a4 ?l4 ?c4 ?k4 ?a5 ?l5 ?c5 ?k5 ?a6 ?l6 ?c6 ?k6 ?a7 ?l7 ?c7 ?k7 ?a8 ?l8 ?c8 ?k8 ?a9 ?l9 ?c9 ?k9 ?a10 ?l10 ?c10 ?k10 ?a11 ?l11 ?c11 ?k11 ?a12 ?l12 ?c12 ?k12 ?xa_UndoError ?xa_BadValue ?xa_TextError ?eC_UndoError ?hC_UndoError ?tC_UndoError ?eC_BadValue ?hC_BadValue ?tC_BadValue ?eC_TextError ?hC_TextError ?tC_TextError ?xL_BadValue ?sa_BadValue ?ga_BadValue ?gg_BadValue ?ii_BadValue ?ti_BadValue ?li_BadValue ?ci_BadValue ?ki_BadValue ?kc_BadValue ?nf_column_BadValue ?nf_name_BadValue ?nf_words_BadValue ?kl_BadValue ?mo_BadValue ?si_UndoError_BadValue ?sb_BadValue_BadValue ?sb_TextError_BadValue ?xL_TextError ?sa_TextError ?ga_TextError ?gg_TextError ?ii_TextError ?ti_TextError ?li_TextError ?ci_TextError ?ki_TextError ?kc_TextError ?nf_column_TextError ?nf_name_TextError ?nf_words_TextError ?kl_TextError ?mo_TextError ?si_UndoError_TextError ?sb_BadValue_TextError ?sb_TextError_TextError ?xgt ?xtk ?z_abs ?z_all ?z_bool ?z_enumerate ?z_int ?z_isinstance ?z_len ?z_list ?z_max ?z_range ?z_str ?z_tuple ?y_DIGITS ?y_LETTERS ?y_LONGEST_TEXT ?y_MOST_DIGITS ?y_SIGN ?y_WORD
    (case a0 => k_is)
    (case l0 => k_is)
    (case c0 => k_is)
    (case k0 => k_is)
    (case a1 => k_is)
    (case l1 => k_is)
    (case c1 => k_is)
    (case k1 => k_is)
    (case a2 => k_is)
    (case l2 => k_is)
    (case c2 => k_is)
    (case k2 => k_is)
    (case a3 => k_is)
    (case l3 => k_is)
    (case c3 => k_is)
    (case k3 => k_is)
    (case a4 => k_is)
    (case l4 => k_is)
    (case c4 => k_is)
    (case k4 => k_is)
    (case a5 => k_is)
    (case l5 => k_is)
    (case c5 => k_is)
    (case k5 => k_is)
    (case a6 => k_is)
    (case l6 => k_is)
    (case c6 => k_is)
    (case k6 => k_is)
    (case a7 => k_is)
    (case l7 => k_is)
    (case c7 => k_is)
    (case k7 => k_is)
    (case a8 => k_is)
    (case l8 => k_is)
    (case c8 => k_is)
    (case k8 => k_is)
    (case a9 => k_is)
    (case l9 => k_is)
    (case c9 => k_is)
    (case k9 => k_is)
    (case a10 => k_is)
    (case l10 => k_is)
    (case c10 => k_is)
    (case k10 => k_is)
    (case a11 => k_is)
    (case l11 => k_is)
    (case c11 => k_is)
    (case k11 => k_is)
    (case a12 => k_is)
    (case l12 => k_is)
    (case c12 => k_is)
    (case k12 => k_is)
    (case xa_UndoError => k_is)
    (case xa_BadValue => k_is)
    (case xa_TextError => k_is)
    (case eC_UndoError => k_is)
    (case hC_UndoError => k_is)
    (case tC_UndoError => k_is)
    (case eC_BadValue => k_is)
    (case hC_BadValue => k_is)
    (case tC_BadValue => k_is)
    (case eC_TextError => k_is)
    (case hC_TextError => k_is)
    (case tC_TextError => k_is)
    (case xL_BadValue => k_is)
    (case sa_BadValue => k_is)
    (case ga_BadValue => k_is)
    (case gg_BadValue => k_is)
    (case ii_BadValue => k_is)
    (case ti_BadValue => k_is)
    (case li_BadValue => k_is)
    (case ci_BadValue => k_is)
    (case ki_BadValue => k_is)
    (case kc_BadValue => k_is)
    (case nf_column_BadValue => k_is)
    (case nf_name_BadValue => k_is)
    (case nf_words_BadValue => k_is)
    (case kl_BadValue => k_is)
    (case mo_BadValue => k_is)
    (case si_UndoError_BadValue => k_is)
    (case sb_BadValue_BadValue => k_is)
    (case sb_TextError_BadValue => k_is)
    (case xL_TextError => k_is)
    (case sa_TextError => k_is)
    (case ga_TextError => k_is)
    (case gg_TextError => k_is)
    (case ii_TextError => k_is)
    (case ti_TextError => k_is)
    (case li_TextError => k_is)
    (case ci_TextError => k_is)
    (case ki_TextError => k_is)
    (case kc_TextError => k_is)
    (case nf_column_TextError => k_is)
    (case nf_name_TextError => k_is)
    (case nf_words_TextError => k_is)
    (case kl_TextError => k_is)
    (case mo_TextError => k_is)
    (case si_UndoError_TextError => k_is)
    (case sb_BadValue_TextError => k_is)
    (case sb_TextError_TextError => k_is)
    (case xgt => k_is)
    (case xtk => k_is)
    (case z_abs => k_is)
    (case z_all => k_is)
    (case z_bool => k_is)
    (case z_enumerate => k_is)
    (case z_int => k_is)
    (case z_isinstance => k_is)
    (case z_len => k_is)
    (case z_list => k_is)
    (case z_max => k_is)
    (case z_range => k_is)
    (case z_str => k_is)
    (case z_tuple => k_is)
    (case y_DIGITS => k_is)
    (case y_LETTERS => k_is)
    (case y_LONGEST_TEXT => k_is)
    (case y_MOST_DIGITS => k_is)
    (case y_SIGN => k_is)
    (case y_WORD => k_is)
end
