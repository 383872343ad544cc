import PyProof.Rows.All
import Wide.All
import OpenK.AllK
import Wide.FinOn
import HandS.ForMost
import HandS.ForExc
import HandS.TupAny
import HandS.Deep
import HandS.Flow
import HandS.IsInst
import HandS.TupMul
import HandS.SortInts
import HandS.Conv
import HandS.ExcOwn
import HandS.Walk
import KE.KDictDisplayH
import HandS.Small
import HandS.SortRule
import HandS.More
import KE.KDictCopyH
import HandS.Zip
import HandS.Style
import HandS.SetFor
import HandS.TupLe
import HandS.DictTup
import PyProof.StrOps2
import KE.GoesMore
import KE.GoesEnum
import HandS.Zip0
import KE.GoesZip
import HandS.TryOnly
import HandS.DictComp
import HandS.WordsDict
import PyProof.SetRoads
import PyProof.Rows.SetFrom
import HandS.Strs
import HandS.ExcInit
import HandS.ExcField
import HandS.ExcIs
import KE.KExcIs
import KE.KIndexOf
import HandS.SetKeys
import PyProof.TupleOfSeq
import KE.DatumMore
import KE.DatumIndex
import HandS.TupLen
import PySem.Challenge.RW_undobystate_k78_refusals_of_editors
section
set_option Elab.async false
set_option linter.all false
set_option maxRecDepth 100000
set_option maxHeartbeats 1000000
/-! the layer of denotations: pure values over the hand layer's heap -/
namespace Dn
open PySem L2

/-- a pure value (a tree), or a place in the store -/
inductive PV where
  | non | bl (b : Bool) | int (i : Int) | str (x : Str)
  | tup (xs : List PV) | lst (xs : List PV) | rol (xs : List PV) | ftp (xs : List PV)
  | dk (kvs : List (Key × PV)) | dt (kvs : List (List Key × PV)) | ref (n : Nat)

/-- a mutable thing -/
inductive SO where
  | lst (xs : List PV)
  | ins (C : Str) (fs : List (Str × PV))

abbrev Stor := List SO

/-- what a name holds: nothing, a value, a list or a dict that no one else knows -/
inductive Slot where
  | un | v (p : PV) | ol (xs : List PV) | od (kvs : List (Key × PV)) | ot (kvs : List (List Key × PV))

abbrev DEnv := List Slot

/-- an exception: its class, its fields -/
structure Exc where
  cls : Str
  fs : List (Str × PV)

inductive Out (α : Type) where
  | st
  | ok (a : α) (e : DEnv) (s : Stor)
  | ex (x : Exc) (e : DEnv) (s : Stor)

abbrev Den (α : Type) := DEnv → Stor → Out α
abbrev DE := Den PV

def Out.bind {α β : Type} (o : Out α) (k : α → Den β) : Out β := match o with
  | .st => .st
  | .ok a e s => k a e s
  | .ex x e s => .ex x e s
def Den.bind {α β : Type} (d : Den α) (k : α → Den β) : Den β := fun e s => (d e s).bind k
def Den.pure {α : Type} (a : α) : Den α := fun e s => .ok a e s
def Den.fail {α : Type} : Den α := fun _ _ => .st
def Den.opt {α : Type} (o : Option α) : Den α := fun e s => match o with
  | some a => .ok a e s
  | none => .st

/-! ### how a value stands -/
mutual
inductive Rep (K : PySem.W.Frag) (F : Hp) (m : List Addr) : V → PV → Prop
  | non : Rep K F m .non .non
  | bl (b : Bool) : Rep K F m (.bl b) (.bl b)
  | int (i : Int) : Rep K F m (.int i) (.int i)
  | str (x : Str) : Rep K F m (.str x) (.str x)
  | tup {a : Addr} {vs : List V} {ps : List PV} : F a = some (.tup vs) → RepL K F m vs ps → Rep K F m (.ref a) (.tup ps)
  | lst {a : Addr} {vs : List V} {ps : List PV} : F a = some (.lst vs) → RepL K F m vs ps → Rep K F m (.ref a) (.lst ps)
  | rol {a : Addr} {vs : List V} {ps : List PV} : SqL K F a vs → RepL K F m vs ps → Rep K F m (.ref a) (.rol ps)
  | ftp {a : Addr} {ob : Obj} {vs : List V} {ps : List PV} : F a = some (.frz ob (.tup vs)) → ob.cls = .type "tuple" → ob.dict = none → RepL K F m vs ps → Rep K F m (.ref a) (.ftp ps)
  | dk {a : Addr} {kvs : List (Key × V)} {ps : List (Key × PV)} : F a = some (.dK kvs) → RepK K F m kvs ps → Rep K F m (.ref a) (.dk ps)
  | dt {a : Addr} {kvs : List (List Key × V)} {ps : List (List Key × PV)} : F a = some (.dT kvs) → RepT K F m kvs ps → Rep K F m (.ref a) (.dt ps)
  | ref {a : Addr} {n : Nat} : m[n]? = some a → Rep K F m (.ref a) (.ref n)
inductive RepL (K : PySem.W.Frag) (F : Hp) (m : List Addr) : List V → List PV → Prop
  | nil : RepL K F m [] []
  | cons {v : V} {p : PV} {vs : List V} {ps : List PV} : Rep K F m v p → RepL K F m vs ps → RepL K F m (v :: vs) (p :: ps)
inductive RepK (K : PySem.W.Frag) (F : Hp) (m : List Addr) : List (Key × V) → List (Key × PV) → Prop
  | nil : RepK K F m [] []
  | cons {k : Key} {v : V} {p : PV} {vs : List (Key × V)} {ps : List (Key × PV)} : Rep K F m v p → RepK K F m vs ps → RepK K F m ((k, v) :: vs) ((k, p) :: ps)
inductive RepT (K : PySem.W.Frag) (F : Hp) (m : List Addr) : List (List Key × V) → List (List Key × PV) → Prop
  | nil : RepT K F m [] []
  | cons {k : List Key} {v : V} {p : PV} {vs : List (List Key × V)} {ps : List (List Key × PV)} : Rep K F m v p → RepT K F m vs ps → RepT K F m ((k, v) :: vs) ((k, p) :: ps)
end

section
variable {K : PySem.W.Frag} {F F' : Hp} {m m' : List Addr}
theorem pre_get {m m' : List Addr} (h : m <+: m') {n : Nat} {a : Addr} (e : m[n]? = some a) : m'[n]? = some a := by
  obtain ⟨t, rfl⟩ := h
  have := (List.getElem?_eq_some_iff.mp e).1
  rw [List.getElem?_append_left this]
  exact e
mutual
theorem Rep.mono (hs : Same F F') (hm : m <+: m') : ∀ {v : V} {p : PV}, Rep K F m v p → Rep K F' m' v p
  | _, _, .non => .non
  | _, _, .bl b => .bl b
  | _, _, .int i => .int i
  | _, _, .str x => .str x
  | _, _, .tup h r => .tup (hs _ _ h) (RepL.mono hs hm r)
  | _, _, .lst h r => .lst (hs _ _ h) (RepL.mono hs hm r)
  | _, _, .rol h r => .rol (hs.seq h) (RepL.mono hs hm r)
  | _, _, .ftp h e1 e2 r => .ftp (hs _ _ h) e1 e2 (RepL.mono hs hm r)
  | _, _, .dk h r => .dk (hs _ _ h) (RepK.mono hs hm r)
  | _, _, .dt h r => .dt (hs _ _ h) (RepT.mono hs hm r)
  | _, _, .ref h => .ref (pre_get hm h)
theorem RepL.mono (hs : Same F F') (hm : m <+: m') : ∀ {v : List V} {p : List PV}, RepL K F m v p → RepL K F' m' v p
  | _, _, .nil => .nil
  | _, _, .cons h r => .cons (Rep.mono hs hm h) (RepL.mono hs hm r)
theorem RepK.mono (hs : Same F F') (hm : m <+: m') : ∀ {v : List (Key × V)} {p : List (Key × PV)}, RepK K F m v p → RepK K F' m' v p
  | _, _, .nil => .nil
  | _, _, .cons h r => .cons (Rep.mono hs hm h) (RepK.mono hs hm r)
theorem RepT.mono (hs : Same F F') (hm : m <+: m') : ∀ {v : List (List Key × V)} {p : List (List Key × PV)}, RepT K F m v p → RepT K F' m' v p
  | _, _, .nil => .nil
  | _, _, .cons h r => .cons (Rep.mono hs hm h) (RepT.mono hs hm r)
end
theorem RepL.length : ∀ {v : List V} {p : List PV}, RepL K F m v p → v.length = p.length
  | _, _, .nil => rfl
  | _, _, .cons _ r => by simp [RepL.length r]
theorem RepK.length : ∀ {v : List (Key × V)} {p : List (Key × PV)}, RepK K F m v p → v.length = p.length
  | _, _, .nil => rfl
  | _, _, .cons _ r => by simp [RepK.length r]
theorem RepT.length : ∀ {v : List (List Key × V)} {p : List (List Key × PV)}, RepT K F m v p → v.length = p.length
  | _, _, .nil => rfl
  | _, _, .cons _ r => by simp [RepT.length r]
theorem RepL.append : ∀ {v w : List V} {p q : List PV}, RepL K F m v p → RepL K F m w q → RepL K F m (v ++ w) (p ++ q)
  | _, _, _, _, .nil, r => r
  | _, _, _, _, .cons h t, r => .cons h (t.append r)
theorem RepL.get : ∀ {vs : List V} {ps : List PV} {i : Nat} {p : PV}, RepL K F m vs ps → ps[i]? = some p → ∃ v, vs[i]? = some v ∧ Rep K F m v p
  | _, _, _, _, .nil, e => by simp at e
  | _, _, 0, _, .cons h _, e => by simp at e; subst e; exact ⟨_, rfl, h⟩
  | _, _, i + 1, _, .cons _ t, e => by
    obtain ⟨v, h1, h2⟩ := RepL.get (i := i) t (by simpa using e)
    exact ⟨v, by simpa using h1, h2⟩
theorem RepL.getV : ∀ {vs : List V} {ps : List PV} {i : Nat} {v : V}, RepL K F m vs ps → vs[i]? = some v → ∃ p, ps[i]? = some p ∧ Rep K F m v p
  | _, _, _, _, .nil, e => by simp at e
  | _, _, 0, _, .cons h _, e => by simp at e; subst e; exact ⟨_, rfl, h⟩
  | _, _, i + 1, _, .cons _ t, e => by
    obtain ⟨v, h1, h2⟩ := RepL.getV (i := i) t (by simpa using e)
    exact ⟨v, by simpa using h1, h2⟩
theorem RepL.take : ∀ {vs : List V} {ps : List PV} (n : Nat), RepL K F m vs ps → RepL K F m (vs.take n) (ps.take n)
  | _, _, 0, _ => .nil
  | _, _, _ + 1, .nil => .nil
  | _, _, n + 1, .cons r t => .cons r (t.take n)
theorem RepL.drop : ∀ {vs : List V} {ps : List PV} (n : Nat), RepL K F m vs ps → RepL K F m (vs.drop n) (ps.drop n)
  | _, _, 0, r => r
  | _, _, _ + 1, .nil => .nil
  | _, _, n + 1, .cons _ t => t.drop n
theorem RepL.set {v : V} {p : PV} (r : Rep K F m v p) : ∀ {vs : List V} {ps : List PV} (i : Nat), RepL K F m vs ps → RepL K F m (vs.set i v) (ps.set i p)
  | _, _, _, .nil => .nil
  | _, _, 0, .cons _ t => .cons r t
  | _, _, i + 1, .cons q t => .cons q (t.set r i)
theorem RepL.dropLast {vs : List V} {ps : List PV} (h : RepL K F m vs ps) : RepL K F m vs.dropLast ps.dropLast := by
  rw [List.dropLast_eq_take, List.dropLast_eq_take, h.length]
  exact h.take _
theorem RepL.eraseIdx : ∀ {vs : List V} {ps : List PV} (i : Nat), RepL K F m vs ps → RepL K F m (vs.eraseIdx i) (ps.eraseIdx i)
  | _, _, _, .nil => .nil
  | _, _, 0, .cons _ t => t
  | _, _, i + 1, .cons q t => .cons q (t.eraseIdx i)
theorem RepL.flat {vs : List V} {ps : List PV} (h : RepL K F m vs ps) : ∀ k : Nat, RepL K F m (List.replicate k vs).flatten (List.replicate k ps).flatten
  | 0 => .nil
  | k + 1 => by rw [List.replicate_succ, List.flatten_cons, List.replicate_succ, List.flatten_cons]; exact h.append (h.flat k)
end

/-! ### the frozen part, the store, the frame -/
def IsDO : HO → Prop
  | .dK _ => True
  | .dT _ => True
  | _ => False
def Imm : HO → Prop
  | .lst _ => True
  | .tup _ => True
  | .dK _ => True
  | .dT _ => True
  | .frz _ _ => True
  | _ => False
/-- it stands so, but for the lock of a dict that is walked -/
def Has (lk : List Addr) (H : Hp) (a : Addr) (o : HO) : Prop := H a = some o ∨ (a ∈ lk ∧ IsDO o ∧ ∃ ob, H a = some (.frz ob o))
theorem Has.same {lk : List Addr} {H H' : Hp} {a : Addr} {o : HO} (h : Has lk H a o) (s : Same H H') : Has lk H' a o := by
  rcases h with h | ⟨l, d, ob, h⟩
  · exact .inl (s _ _ h)
  · exact .inr ⟨l, d, ob, s _ _ h⟩
theorem Has.ne {lk : List Addr} {H : Hp} {a : Addr} {o : HO} (h : Has lk H a o) : H a ≠ none := by
  rcases h with h | ⟨l, d, ob, h⟩ <;> rw [h] <;> exact fun z => nomatch z
theorem Has.rd {lk : List Addr} {H : Hp} {a : Addr} {o : HO} (h : Has lk H a o) : Rd H a o := by
  rcases h with h | ⟨l, d, ob, h⟩
  · exact .inl h
  · exact .inr ⟨ob, h⟩
theorem Has.lst {lk : List Addr} {H : Hp} {a : Addr} {xs : List V} (h : Has lk H a (.lst xs)) : H a = some (.lst xs) := by
  rcases h with h | ⟨l, d, ob, h⟩
  · exact h
  · exact d.elim
theorem Has.tup {lk : List Addr} {H : Hp} {a : Addr} {xs : List V} (h : Has lk H a (.tup xs)) : H a = some (.tup xs) := by
  rcases h with h | ⟨l, d, ob, h⟩
  · exact h
  · exact d.elim

inductive RepF (K : PySem.W.Frag) (F : Hp) (m : List Addr) : List (Str × V) → List (Str × PV) → Prop
  | nil : RepF K F m [] []
  | cons {k : Str} {v : V} {p : PV} {vs : List (Str × V)} {ps : List (Str × PV)} : Rep K F m v p → RepF K F m vs ps → RepF K F m ((k, v) :: vs) ((k, p) :: ps)
theorem RepF.mono {K : PySem.W.Frag} {F F' : Hp} {m m' : List Addr} (hs : Same F F') (hm : m <+: m') : ∀ {v : List (Str × V)} {p : List (Str × PV)}, RepF K F m v p → RepF K F' m' v p
  | _, _, .nil => .nil
  | _, _, .cons h r => .cons (Rep.mono hs hm h) (RepF.mono hs hm r)

def SOR (K : PySem.W.Frag) (mg : Str → Option Value) (F : Hp) (m : List Addr) (H : Hp) (a : Addr) : SO → Prop
  | .lst xs => ∃ vs, H a = some (.lst vs) ∧ RepL K F m vs xs
  | .ins C fs => ∃ Ca dx vfs, mg C = some (.ref Ca) ∧ H a = some (.ins Ca dx vfs) ∧ RepF K F m vfs fs

/-- the frozen part F within H, the store S at the addresses m -/
structure R0 (K : PySem.W.Frag) (mg : Str → Option Value) (lk : List Addr) (F : Hp) (m : List Addr) (S : Stor) (H : Hp) : Prop where
  sub : ∀ a o, F a = some o → Has lk H a o
  imm : ∀ a o, F a = some o → Imm o
  len : m.length = S.length
  sto : ∀ (i : Nat) (a : Addr) (so : SO), m[i]? = some a → S[i]? = some so → SOR K mg F m H a so
  nd : m.Nodup
  muf : ∀ a ∈ m, F a = none
  lkd : ∀ a ∈ lk, ∃ ob u, H a = some (.frz ob u)

/-- nothing, or a tuple, stands there -/
def IT (H : Hp) (a : Addr) : Prop := H a = none ∨ ∃ xs, H a = some (.tup xs)
theorem IT.same {H H' : Hp} {a : Addr} (s : Same H H') (h : IT H' a) : IT H a := by
  cases q : H a with
  | none => exact .inl q
  | some o =>
    have e := s _ _ q
    rcases h with h | ⟨xs, h⟩
    · rw [e] at h; cases h
    · rw [e] at h; cases h; exact .inr ⟨xs, q⟩
/-- H grows, F grows by what is new -/
structure Ext (F H F' H' : Hp) : Prop where
  f : Same F F'
  h : Same H H'
  n : ∀ a, F' a ≠ none → F a = none → IT H a
  s : ∀ a o, F' a = some o → F a = none → H' a = some o ∧ Imm o
theorem Ext.refl (F H : Hp) : Ext F H F H := ⟨Same.refl _, Same.refl _, fun a h e => absurd e h, fun a o h e => by rw [e] at h; cases h⟩
theorem Ext.trans {F H F1 H1 F2 H2 : Hp} (a : Ext F H F1 H1) (b : Ext F1 H1 F2 H2) : Ext F H F2 H2 where
  f := a.f.trans b.f
  h := a.h.trans b.h
  n := fun x hx e => by
    cases q : F1 x with
    | none => exact (b.n x hx q).same a.h
    | some o => exact a.n x (by rw [q]; exact fun z => nomatch z) e
  s := fun x o hx e => by
    cases q : F1 x with
    | none => exact b.s x o hx q
    | some u =>
      have := b.f x u q
      rw [hx] at this; cases this
      obtain ⟨h1, h2⟩ := a.s x _ q e
      exact ⟨b.h _ _ h1, h2⟩
/-- a new object, frozen -/
theorem Ext.new {F H : Hp} {p : Addr} {o : HO} (hs : ∀ a u, F a = some u → H a ≠ none) (hp : H p = none) (ho : Imm o) : Ext F H (upd F p o) (upd H p o) := by
  have fp : F p = none := by
    cases q : F p with
    | none => rfl
    | some u => exact absurd hp (hs _ _ q)
  refine ⟨fun a u e => ?_, fun a u e => ?_, fun a hx e => ?_, fun a u hx e => ?_⟩
  · rw [upd_ne (ne_of_none e fp)]; exact e
  · rw [upd_ne (ne_of_none e hp)]; exact e
  · by_cases h : a = p
    · rw [h]; exact .inl hp
    · rw [upd_ne h] at hx; exact absurd e hx
  · by_cases h : a = p
    · subst h
      rw [upd_same] at hx; cases hx
      exact ⟨upd_same, ho⟩
    · rw [upd_ne h] at hx; rw [e] at hx; cases hx
/-- a new object, not frozen -/
theorem Ext.raw {F H : Hp} {p : Addr} {o : HO} (hp : H p = none) : Ext F H F (upd H p o) :=
  ⟨Same.refl _, fun a u e => by rw [upd_ne (ne_of_none e hp)]; exact e, fun a hx e => absurd e hx, fun a u hx e => by rw [e] at hx; cases hx⟩

section
variable {K : PySem.W.Frag} {mg : Str → Option Value} {lk : List Addr} {F F' H H' : Hp} {m m' : List Addr} {S : Stor}
theorem SOR.mono {a : Addr} {so : SO} (hs : Same F F') (hm : m <+: m') (hh : H' a = H a) (h : SOR K mg F m H a so) : SOR K mg F' m' H' a so := by
  cases so with
  | lst xs => obtain ⟨vs, h1, h2⟩ := h; exact ⟨vs, hh.trans h1, h2.mono hs hm⟩
  | ins C fs => obtain ⟨Ca, dx, vfs, h1, h2, h3⟩ := h; exact ⟨Ca, dx, vfs, h1, hh.trans h2, h3.mono hs hm⟩
theorem SOR.some {a : Addr} {so : SO} (h : SOR K mg F m H a so) : ∃ o, H a = some o := by
  cases so with
  | lst xs => obtain ⟨vs, h1, h2⟩ := h; exact ⟨_, h1⟩
  | ins C fs => obtain ⟨Ca, dx, vfs, h1, h2, h3⟩ := h; exact ⟨_, h2⟩
theorem R0.mem (r : R0 K mg lk F m S H) {a : Addr} (h : a ∈ m) : ∃ o, H a = some o := by
  obtain ⟨i, hi⟩ := List.getElem?_of_mem h
  have hl : i < S.length := by rw [← r.len]; exact (List.getElem?_eq_some_iff.mp hi).1
  exact (r.sto i a S[i] hi (List.getElem?_eq_getElem hl)).some
theorem R0.fne (r : R0 K mg lk F m S H) : ∀ a u, F a = some u → H a ≠ none := fun a u e => (r.sub a u e).ne
theorem R0.noit (r : R0 K mg lk F m S H) {a : Addr} (ha : a ∈ m) (h : IT H a) : False := by
  obtain ⟨i, hi⟩ := List.mem_iff_getElem?.mp ha
  have hl : i < S.length := by rw [← r.len]; exact (List.getElem?_eq_some_iff.mp hi).1
  have q := r.sto i a _ hi (List.getElem?_eq_getElem hl)
  cases hs : S[i] with
  | lst xs => rw [hs] at q; obtain ⟨_, e, _⟩ := q; rcases h with h | ⟨xs, h⟩ <;> (rw [e] at h; cases h)
  | ins C fs => rw [hs] at q; obtain ⟨_, _, _, _, e, _⟩ := q; rcases h with h | ⟨xs, h⟩ <;> (rw [e] at h; cases h)
theorem R0.ext (r : R0 K mg lk F m S H) (x : Ext F H F' H') : R0 K mg lk F' m S H' where
  sub := fun a o e => by
    cases q : F a with
    | none => exact .inl (x.s a o e q).1
    | some u =>
      have := x.f a u q
      rw [e] at this; cases this
      exact (r.sub a _ q).same x.h
  imm := fun a o e => by
    cases q : F a with
    | none => exact (x.s a o e q).2
    | some u =>
      have := x.f a u q
      rw [e] at this; cases this
      exact r.imm a _ q
  len := r.len
  sto := fun i a so h1 h2 => by
    have h3 := r.sto i a so h1 h2
    obtain ⟨o, ho⟩ := h3.some
    exact h3.mono x.f (List.prefix_refl _) (by rw [ho]; exact x.h _ _ ho)
  nd := r.nd
  lkd := fun a ha => by
    obtain ⟨ob, u, e⟩ := r.lkd a ha
    exact ⟨ob, u, x.h _ _ e⟩
  muf := fun a ha => by
    cases q : F' a with
    | none => rfl
    | some u =>
      exact (r.noit ha (x.n a (by rw [q]; exact fun z => nomatch z) (r.muf a ha))).elim
end

/-- a def's entry, and what is wished of an exception -/
structure Cfg where
  K : PySem.W.Frag
  mg : Str → Option Value
  F0 : Hp
  m0 : List Addr
  H0 : Hp
  lk : List Addr
  W : WX

def Slot.own : Slot → Bool
  | .un => false
  | .v _ => false
  | _ => true
def SlotR (K : PySem.W.Frag) (F : Hp) (m : List Addr) (H : Hp) (sv : Option (Option V)) : Slot → Prop
  | .un => True
  | .v p => ∃ v, sv = some (some v) ∧ Rep K F m v p
  | .ol ps => ∃ a vs, sv = some (some (.ref a)) ∧ H a = some (.lst vs) ∧ RepL K F m vs ps
  | .od ps => ∃ a vs, sv = some (some (.ref a)) ∧ H a = some (.dK vs) ∧ RepK K F m vs ps
  | .ot ps => ∃ a vs, sv = some (some (.ref a)) ∧ H a = some (.dT vs) ∧ RepT K F m vs ps
def Own (env : DEnv) (σ : St) (i : Nat) (a : Addr) : Prop := ∃ s, env[i]? = some s ∧ s.own = true ∧ σ[i]? = some (some (.ref a))

structure Rel (c : Cfg) (F : Hp) (m : List Addr) (σ : St) (env : DEnv) (S : Stor) (H : Hp) : Prop where
  r0 : R0 c.K c.mg c.lk F m S H
  len : σ.length = env.length
  slot : ∀ (i : Nat) (s : Slot), env[i]? = some s → SlotR c.K F m H σ[i]? s
  ownd : ∀ i j a, Own env σ i a → Own env σ j a → i = j
  ownf : ∀ i a, Own env σ i a → F a = none ∧ a ∉ m ∧ c.H0 a = none
  old : ∀ a o, c.H0 a = some o → a ∉ c.m0 → Has c.lk H a o
  newm : ∀ a ∈ m, a ∉ c.m0 → c.H0 a = none
  pre : c.m0 <+: m
  frn : ∀ a, F a ≠ none → c.F0 a ≠ none ∨ IT c.H0 a
  f0 : Same c.F0 F
  lkh : ∀ a ∈ c.lk, a ∉ c.m0 ∧ ∃ ob u, c.H0 a = some (.frz ob u)

section
variable {c : Cfg} {F F' H H' : Hp} {m m' : List Addr} {σ : St} {env : DEnv} {S : Stor}
theorem SlotR.mono {K : PySem.W.Frag} {sv : Option (Option V)} {s : Slot} (h : SlotR K F m H sv s) (hs : Same F F') (hm : m <+: m') (hh : ∀ a, s.own = true → sv = some (some (.ref a)) → H' a = H a) : SlotR K F' m' H' sv s := by
  cases s with
  | un => trivial
  | v p => obtain ⟨v, h1, h2⟩ := h; exact ⟨v, h1, h2.mono hs hm⟩
  | ol ps => obtain ⟨a, vs, h1, h2, h3⟩ := h; exact ⟨a, vs, h1, (hh a rfl h1).trans h2, h3.mono hs hm⟩
  | od ps => obtain ⟨a, vs, h1, h2, h3⟩ := h; exact ⟨a, vs, h1, (hh a rfl h1).trans h2, h3.mono hs hm⟩
  | ot ps => obtain ⟨a, vs, h1, h2, h3⟩ := h; exact ⟨a, vs, h1, (hh a rfl h1).trans h2, h3.mono hs hm⟩
theorem SlotR.there {K : PySem.W.Frag} {sv : Option (Option V)} {s : Slot} {a : Addr} (h : SlotR K F m H sv s) (o : s.own = true) (e : sv = some (some (.ref a))) : ∃ u, H a = some u := by
  cases s with
  | un => cases o
  | v p => cases o
  | ol ps => obtain ⟨a', vs, h1, h2, h3⟩ := h; rw [e] at h1; cases h1; exact ⟨_, h2⟩
  | od ps => obtain ⟨a', vs, h1, h2, h3⟩ := h; rw [e] at h1; cases h1; exact ⟨_, h2⟩
  | ot ps => obtain ⟨a', vs, h1, h2, h3⟩ := h; rw [e] at h1; cases h1; exact ⟨_, h2⟩
theorem Rel.own_there (r : Rel c F m σ env S H) {i : Nat} {a : Addr} (o : Own env σ i a) : ∃ u, H a = some u := by
  obtain ⟨s, h1, h2, h3⟩ := o
  exact (r.slot i s h1).there h2 h3
theorem Rel.free0 (r : Rel c F m σ env S H) {a : Addr} (h : H a = none) : c.H0 a = none := by
  cases q : c.H0 a with
  | none => rfl
  | some o =>
    by_cases hm : a ∈ c.m0
    · obtain ⟨u, hu⟩ := r.r0.mem (r.pre.subset hm)
      rw [h] at hu; cases hu
    · exact absurd h (r.old a o q hm).ne
theorem Rel.own_noit (r : Rel c F m σ env S H) {i : Nat} {a : Addr} (o : Own env σ i a) (h : IT H a) : False := by
  obtain ⟨s, h1, h2, h3⟩ := o
  have hs := r.slot i s h1
  cases s with
  | un => cases h2
  | v p => cases h2
  | ol ps => obtain ⟨a', vs, e1, e2, _⟩ := hs; rw [h3] at e1; cases e1; rcases h with h | ⟨xs, h⟩ <;> (rw [e2] at h; cases h)
  | od ps => obtain ⟨a', vs, e1, e2, _⟩ := hs; rw [h3] at e1; cases e1; rcases h with h | ⟨xs, h⟩ <;> (rw [e2] at h; cases h)
  | ot ps => obtain ⟨a', vs, e1, e2, _⟩ := hs; rw [h3] at e1; cases e1; rcases h with h | ⟨xs, h⟩ <;> (rw [e2] at h; cases h)
theorem Rel.it0 (r : Rel c F m σ env S H) {a : Addr} (h : IT H a) : IT c.H0 a := by
  rcases h with h | ⟨xs, h⟩
  · exact .inl (r.free0 h)
  · cases q : c.H0 a with
    | none => exact .inl q
    | some o =>
      by_cases hm : a ∈ c.m0
      · exact (r.r0.noit (r.pre.subset hm) (.inr ⟨xs, h⟩)).elim
      · rcases r.old a o q hm with e | ⟨_, _, ob, e⟩
        · rw [h] at e; cases e; exact .inr ⟨xs, q⟩
        · rw [h] at e; cases e
theorem Rel.ext (r : Rel c F m σ env S H) (x : Ext F H F' H') : Rel c F' m σ env S H' where
  r0 := r.r0.ext x
  len := r.len
  slot := fun i s e => (r.slot i s e).mono x.f (List.prefix_refl _) fun a o q => by
    obtain ⟨u, hu⟩ := (r.slot i s e).there o q
    rw [hu]; exact x.h _ _ hu
  ownd := r.ownd
  ownf := fun i a o => by
    obtain ⟨h1, h2, h3⟩ := r.ownf i a o
    refine ⟨?_, h2, h3⟩
    cases q : F' a with
    | none => rfl
    | some u =>
      exact (r.own_noit o (x.n a (by rw [q]; exact fun z => nomatch z) h1)).elim
  old := fun a o e hm => (r.old a o e hm).same x.h
  newm := r.newm
  pre := r.pre
  frn := fun a h => by
    cases q : F a with
    | none => exact .inr (r.it0 (x.n a h q))
    | some u => exact r.frn a (by rw [q]; exact fun z => nomatch z)
  f0 := r.f0.trans x.f
  lkh := r.lkh
end

/-! ### readings -/
/-- how an answer of the machine bears an answer of ours: by K, the frozen part, the store's addresses -/
abbrev RP (β α : Type) := PySem.W.Frag → Hp → List Addr → β → α → Prop

/-- an exception as it lies -/
def ExR (c : Cfg) (F : Hp) (m : List Addr) (H : Hp) (x : Exc) (cls : Value) (d : Option Addr) : Prop :=
  ∃ C dd vfs, cls = .ref C ∧ c.mg x.cls = some (.ref C) ∧ d = some dd ∧ H dd = some (.xd vfs) ∧ RepF c.K F m vfs x.fs

def post {β α : Type} (R : RP β α) (c : Cfg) (F : Hp) (m : List Addr) (σ : St) (Q : β → Hp → Prop) : Out α → Prop
  | .st => False
  | .ok p env S => ∀ F' m' H v, Rel c F' m' σ env S H → Same F F' → m <+: m' → R c.K F' m' v p → Q v H
  | .ex x env S => ∀ F' m' H cls d, Rel c F' m' σ env S H → Same F F' → m <+: m' → ExR c F' m' H x cls d → c.W cls d σ H
def rdAt {β α : Type} (R : RP β α) (c : Cfg) (d : Den α) (F : Hp) (m : List Addr) : St → Hp → (β → Hp → Prop) → Prop := fun σ H Q =>
  ∃ env S, Rel c F m σ env S H ∧ post R c F m σ Q (d env S)
def rd {β α : Type} (R : RP β α) (c : Cfg) (d : Den α) : St → Hp → (β → Hp → Prop) → Prop := fun σ H Q => ∃ F m, rdAt R c d F m σ H Q
abbrev rE (c : Cfg) (d : DE) : TE := rd (fun K F m v p => Rep K F m v p) c d
abbrev rA (c : Cfg) (d : Den (List PV)) : TA := rd (fun K F m v p => RepL K F m v p) c d
abbrev rT (c : Cfg) (d : Den Bool) : TT := rd (fun _ _ _ v p => v = p) c d

theorem post.mono {β α : Type} {R : RP β α} {c : Cfg} {F F1 : Hp} {m m1 : List Addr} {σ : St} {Q : β → Hp → Prop} {o : Out α} (h : post R c F m σ Q o) (hs : Same F F1) (hm : m <+: m1) : post R c F1 m1 σ Q o := by
  cases o with
  | st => exact h
  | ok p env S => exact fun F' m' H v r s1 p1 q => h F' m' H v r (hs.trans s1) (hm.trans p1) q
  | ex x env S => exact fun F' m' H cls d r s1 p1 q => h F' m' H cls d r (hs.trans s1) (hm.trans p1) q
/-- one after the other -/
theorem rd_bind {β α β' α' : Type} {R : RP β α} {R' : RP β' α'} {c : Cfg} {d : Den α} {k : α → Den α'} {F : Hp} {m : List Addr} {σ : St} {H : Hp} {Q : β' → Hp → Prop} (h : rdAt R' c (d.bind k) F m σ H Q) :
    rd R c d σ H fun v H1 => ∃ F1 m1 p, Same F F1 ∧ m <+: m1 ∧ R c.K F1 m1 v p ∧ rdAt R' c (k p) F1 m1 σ H1 Q := by
  obtain ⟨env, S, r, h⟩ := h
  refine ⟨F, m, env, S, r, ?_⟩
  unfold Den.bind at h
  cases e : d env S with
  | st => rw [e] at h; exact h
  | ok p env1 S1 =>
    rw [e] at h
    exact fun F1 m1 H1 v r1 s1 p1 q1 => ⟨F1, m1, p, s1, p1, q1, env1, S1, r1, post.mono h s1 p1⟩
  | ex x env1 S1 =>
    rw [e] at h
    exact h
theorem rdAt.end_ {β α : Type} {R : RP β α} {c : Cfg} {p : α} {F : Hp} {m : List Addr} {σ : St} {H : Hp} {Q : β → Hp → Prop} (h : rdAt R c (Den.pure p) F m σ H Q) {F' H' : Hp} {v : β} (x : Ext F H F' H') (q : R c.K F' m v p) : Q v H' := by
  obtain ⟨env, S, r, h⟩ := h
  exact h F' m H' v (r.ext x) x.f (List.prefix_refl _) q
theorem rdAt.end0 {β α : Type} {R : RP β α} {c : Cfg} {p : α} {F : Hp} {m : List Addr} {σ : St} {H : Hp} {Q : β → Hp → Prop} (h : rdAt R c (Den.pure p) F m σ H Q) {v : β} (q : R c.K F m v p) : Q v H := h.end_ (Ext.refl _ _) q
theorem rdAt.opt {β α : Type} {R : RP β α} {c : Cfg} {o : Option α} {F : Hp} {m : List Addr} {σ : St} {H : Hp} {Q : β → Hp → Prop} (h : rdAt R c (Den.opt o) F m σ H Q) : ∃ p, o = some p ∧ rdAt R c (Den.pure p) F m σ H Q := by
  obtain ⟨env, S, r, h⟩ := h
  cases o with
  | none => exact h.elim
  | some p => exact ⟨p, rfl, env, S, r, h⟩
/-- the store is read -/
def Den.getS : Den Stor := fun e s => .ok s e s
theorem rdAt.getS {β α : Type} {R : RP β α} {c : Cfg} {k : Stor → Den α} {F : Hp} {m : List Addr} {σ : St} {H : Hp} {Q : β → Hp → Prop} (h : rdAt R c (Den.getS.bind k) F m σ H Q) : ∃ env S, Rel c F m σ env S H ∧ rdAt R c (k S) F m σ H Q := by
  obtain ⟨env, S, r, h⟩ := h
  exact ⟨env, S, r, env, S, r, h⟩

/-- weaker readings -/
theorem PE.weak {X : Cx} {e : Expr} {t t' : TE} (h : PE X e t) (w : ∀ σ H Q, t' σ H Q → t σ H Q) : PE X e t' := ⟨fun pins s σ H Q I q => h.run pins s σ H Q I (w _ _ _ q)⟩
theorem PT.weak {X : Cx} {e : Expr} {t t' : TT} (h : PT X e t) (w : ∀ σ H Q, t' σ H Q → t σ H Q) : PT X e t' := ⟨fun pins s σ H Q I q => h.run pins s σ H Q I (w _ _ _ q)⟩
theorem PW.weak {X : Cx} {e : Expr} {t t' : TT} (h : PW X e t) (w : ∀ σ H Q, t' σ H Q → t σ H Q) : PW X e t' := ⟨fun wh pins s σ H Q I q => h.run wh pins s σ H Q I (w _ _ _ q)⟩
theorem PA.weak {X : Cx} {e : List Expr} {t t' : TA} (h : PA X e t) (w : ∀ σ H Q, t' σ H Q → t σ H Q) : PA X e t' := ⟨fun pos pins s σ H Q I q => h.run pos pins s σ H Q I (w _ _ _ q)⟩
theorem PS.weak {X : Cx} {e : Stmt} {t t' : TS} (h : PS X e t) (w : ∀ D σ H, t' D σ H → t D σ H) : PS X e t' := ⟨fun pins s σ H D I q => h.run pins s σ H D I (w _ _ _ q)⟩
theorem PSs.weak {X : Cx} {e : List Stmt} {t t' : TS} (h : PSs X e t) (w : ∀ D σ H, t' D σ H → t D σ H) : PSs X e t' := ⟨fun pins s σ H D I q => h.run pins s σ H D I (w _ _ _ q)⟩
theorem PG.weak {X : Cx} {e : Expr} {t t' : TG} (h : PG X e t) (w : ∀ v σ H Q, t' v σ H Q → t v σ H Q) : PG X e t' := ⟨fun pins s σ H v u Q I r q => h.run pins s σ H v u Q I r (w _ _ _ _ q)⟩
end Dn
end
section
set_option Elab.async false
set_option linter.all false
set_option maxRecDepth 100000
set_option maxHeartbeats 1000000
namespace Dn
open PySem L2

structure XOk (k : Nat) (X : Cx) (c : Cfg) : Prop where
  K : X.K = c.K
  mg : X.mg = c.mg
  calm : X.calm = true
  nd : X.N.Nodup
  room : Room k X.A
  pas : ∀ σ, PassesAt (L2.CX X.prog X.w) X σ (WE c.W σ)

theorem rd.imp {β α : Type} {R : RP β α} {c : Cfg} {d : Den α} {σ : St} {H : Hp} {Q Q' : β → Hp → Prop} (h : rd R c d σ H Q) (w : ∀ v H, Q v H → Q' v H) : rd R c d σ H Q' := by
  obtain ⟨F, m, env, S, r, h⟩ := h
  refine ⟨F, m, env, S, r, ?_⟩
  cases e : d env S with
  | st => rw [e] at h; exact h
  | ok p env1 S1 => rw [e] at h; exact fun F1 m1 H1 v r1 s1 p1 q1 => w _ _ (h F1 m1 H1 v r1 s1 p1 q1)
  | ex x env1 S1 => rw [e] at h; exact h
theorem rdAt.ext {β α : Type} {R : RP β α} {c : Cfg} {d : Den α} {F F' : Hp} {m : List Addr} {σ : St} {H H' : Hp} {Q : β → Hp → Prop} (h : rdAt R c d F m σ H Q) (x : Ext F H F' H') : rdAt R c d F' m σ H' Q := by
  obtain ⟨env', S', r', h'⟩ := h
  exact ⟨env', S', r'.ext x, post.mono h' x.f (List.prefix_refl _)⟩
theorem rdAt.rd {β α : Type} {R : RP β α} {c : Cfg} {d : Den α} {F : Hp} {m : List Addr} {σ : St} {H : Hp} {Q : β → Hp → Prop} (h : rdAt R c d F m σ H Q) : rd R c d σ H Q := ⟨F, m, h⟩

/-- an answer, in a grown heap -/
def Yl (K : PySem.W.Frag) (F : Hp) (m : List Addr) (H : Hp) (res : PV) (Q : VK) : Prop := ∀ F' H' v, Ext F H F' H' → Rep K F' m v res → Q v H'
theorem Yl.here {K : PySem.W.Frag} {F : Hp} {m : List Addr} {H : Hp} {res : PV} {Q : VK} (y : Yl K F m H res Q) {v : V} (r : Rep K F m v res) : Q v H := y F H v (Ext.refl _ _) r

/-! ### names and constants -/
def dC (p : PV) : DE := Den.pure p
def dVar (i : Nat) : DE := fun env S => match env[i]? with
  | some (.v p) => .ok p env S
  | some (.ol ps) => .ok (.lst ps) (env.set i (.v (.lst ps))) S
  | some (.od ps) => .ok (.dk ps) (env.set i (.v (.dk ps))) S
  | some (.ot ps) => .ok (.dt ps) (env.set i (.v (.dt ps))) S
  | _ => .st
theorem r_int {X : Cx} {c : Cfg} {i j pos} : PE X (.Constant (.int i) j pos) (rE c (dC (.int i))) := PE.weak pe_int fun _ _ _ ⟨_, _, h⟩ => h.end0 (Rep.int i)
theorem r_bl {X : Cx} {c : Cfg} {i j pos} : PE X (.Constant (.bool i) j pos) (rE c (dC (.bl i))) := PE.weak pe_bl fun _ _ _ ⟨_, _, h⟩ => h.end0 (Rep.bl i)
theorem r_non {X : Cx} {c : Cfg} {j pos} : PE X (.Constant .none j pos) (rE c (dC .non)) := PE.weak pe_non fun _ _ _ ⟨_, _, h⟩ => h.end0 Rep.non
theorem r_str {X : Cx} {c : Cfg} {i j pos} : PE X (.Constant (.str i) j pos) (rE c (dC (.str i))) := PE.weak pe_str fun _ _ _ ⟨_, _, h⟩ => h.end0 (Rep.str i)

theorem set_get {env : DEnv} {i j : Nat} {s t : Slot} (h : (env.set i s)[j]? = some t) : (j = i ∧ t = s) ∨ (j ≠ i ∧ env[j]? = some t) := by
  by_cases e : j = i
  · subst e
    have hl : j < env.length := by
      have := (List.getElem?_eq_some_iff.mp h).1
      simpa using this
    rw [List.getElem?_set_self hl] at h
    cases h
    exact .inl ⟨rfl, rfl⟩
  · rw [List.getElem?_set_ne (Ne.symm e)] at h
    exact .inr ⟨e, h⟩
/-- an owned thing becomes frozen -/
theorem Rel.freeze {c : Cfg} {F H : Hp} {m : List Addr} {σ : St} {env : DEnv} {S : Stor} {i : Nat} {s : Slot} {a : Addr} {o : HO} {p : PV} (r : Rel c F m σ env S H) (he : env[i]? = some s) (hs : s.own = true) (ha : σ[i]? = some (some (.ref a)))
    (ho : H a = some o) (im : Imm o) (rp : Rep c.K (upd F a o) m (.ref a) p) : Rel c (upd F a o) m σ (env.set i (.v p)) S H ∧ Same F (upd F a o) := by
  have ow : Own env σ i a := ⟨s, he, hs, ha⟩
  obtain ⟨f0, fm, f1⟩ := r.ownf i a ow
  have same : Same F (upd F a o) := fun b u e => by rw [upd_ne (ne_of_none e f0)]; exact e
  refine ⟨⟨⟨fun b u e => ?_, fun b u e => ?_, r.r0.len, fun j b so h1 h2 => (r.r0.sto j b so h1 h2).mono same (List.prefix_refl _) rfl, r.r0.nd, fun b hb => ?_, r.r0.lkd⟩, by rw [List.length_set]; exact r.len, fun j t e => ?_, fun j k b h1 h2 => ?_, fun j b h1 => ?_, r.old, r.newm, r.pre, fun b h => ?_, r.f0.trans same, r.lkh⟩, same⟩
  · by_cases q : b = a
    · subst q; rw [upd_same] at e; cases e; exact .inl ho
    · rw [upd_ne q] at e; exact r.r0.sub b u e
  · by_cases q : b = a
    · subst q; rw [upd_same] at e; cases e; exact im
    · rw [upd_ne q] at e; exact r.r0.imm b u e
  · rw [upd_ne (fun (q : b = a) => fm (q ▸ hb))]; exact r.r0.muf b hb
  · rcases set_get e with ⟨rfl, rfl⟩ | ⟨ne, e⟩
    · exact ⟨_, ha, rp⟩
    · exact (r.slot j t e).mono same (List.prefix_refl _) fun _ _ _ => rfl
  · obtain ⟨s1, e1, o1, a1⟩ := h1
    obtain ⟨s2, e2, o2, a2⟩ := h2
    rcases set_get e1 with ⟨rfl, rfl⟩ | ⟨n1, e1⟩
    · cases o1
    · rcases set_get e2 with ⟨rfl, rfl⟩ | ⟨n2, e2⟩
      · cases o2
      · exact r.ownd j k b ⟨s1, e1, o1, a1⟩ ⟨s2, e2, o2, a2⟩
  · obtain ⟨s1, e1, o1, a1⟩ := h1
    rcases set_get e1 with ⟨rfl, rfl⟩ | ⟨n1, e1⟩
    · cases o1
    · obtain ⟨g0, g1, g2⟩ := r.ownf j b ⟨s1, e1, o1, a1⟩
      refine ⟨?_, g1, g2⟩
      rw [upd_ne (fun (q : b = a) => n1 (r.ownd j i b ⟨s1, e1, o1, a1⟩ (q.symm ▸ ow)))]
      exact g0
  · by_cases q : b = a
    · subst q; exact .inr (.inl f1)
    · rw [upd_ne q] at h; exact r.frn b h

theorem r_var {X : Cx} {c : Cfg} (i : Nat) {x : Str} {pos : Pos} (hN : X.N[i]? = some x := by rfl) (hv : Vis X.env.scope x := by first | exact Or.inl rfl | exact Or.inr (Or.inl rfl) | exact Or.inr (Or.inr rfl))
    (hd : (x == ("__debug__" : Str)) = false := by decide) (hcd : (x == ("__classdict__" : Str)) = false := by decide) : PE X (.Name x pos) (rE c (dVar i)) := by
  refine PE.weak (pe_var (i := i) hN hv hd hcd) fun σ H Q h => ?_
  obtain ⟨F, m, env, S, r, h⟩ := h
  unfold dVar at h
  split at h
  · rename_i p e
    obtain ⟨v, hv, q⟩ := r.slot i _ e
    exact ⟨v, hv, h F m H v r (Same.refl _) (List.prefix_refl _) q⟩
  · rename_i ps e
    obtain ⟨a, vs, ha, ho, q⟩ := r.slot i _ e
    have f0 := (r.ownf i a ⟨_, e, rfl, ha⟩).1
    have same : Same F (upd F a (.lst vs)) := fun b u e => by rw [upd_ne (ne_of_none e f0)]; exact e
    have rp : Rep c.K (upd F a (.lst vs)) m (.ref a) (.lst ps) := .lst upd_same (q.mono same (List.prefix_refl _))
    obtain ⟨r2, s2⟩ := r.freeze e rfl ha ho trivial rp
    exact ⟨_, ha, h _ m H _ r2 s2 (List.prefix_refl _) rp⟩
  · rename_i ps e
    obtain ⟨a, vs, ha, ho, q⟩ := r.slot i _ e
    have f0 := (r.ownf i a ⟨_, e, rfl, ha⟩).1
    have same : Same F (upd F a (.dK vs)) := fun b u e => by rw [upd_ne (ne_of_none e f0)]; exact e
    have rp : Rep c.K (upd F a (.dK vs)) m (.ref a) (.dk ps) := .dk upd_same (q.mono same (List.prefix_refl _))
    obtain ⟨r2, s2⟩ := r.freeze e rfl ha ho trivial rp
    exact ⟨_, ha, h _ m H _ r2 s2 (List.prefix_refl _) rp⟩
  · rename_i ps e
    obtain ⟨a, vs, ha, ho, q⟩ := r.slot i _ e
    have f0 := (r.ownf i a ⟨_, e, rfl, ha⟩).1
    have same : Same F (upd F a (.dT vs)) := fun b u e => by rw [upd_ne (ne_of_none e f0)]; exact e
    have rp : Rep c.K (upd F a (.dT vs)) m (.ref a) (.dt ps) := .dt upd_same (q.mono same (List.prefix_refl _))
    obtain ⟨r2, s2⟩ := r.freeze e rfl ha ho trivial rp
    exact ⟨_, ha, h _ m H _ r2 s2 (List.prefix_refl _) rp⟩
  · exact h.elim

/-! ### operators by values -/
abbrev G1 := Stor → PV → Option PV
abbrev G2 := Stor → PV → PV → Option PV
def d1 (g : G1) (da : DE) : DE := da.bind fun p => Den.getS.bind fun S => Den.opt (g S p)
def d2 (g : G2) (da db : DE) : DE := da.bind fun p => db.bind fun q => Den.getS.bind fun S => Den.opt (g S p q)
/-- the rule r of the machine serves the function g -/
def S2 (X : Cx) (r : R2) (g : G2) : Prop := ∀ (lk : List Addr) (F : Hp) (m : List Addr) (S : Stor) (H : Hp) (x y : V) (p q res : PV) (Q : VK),
  R0 X.K X.mg lk F m S H → Rep X.K F m x p → Rep X.K F m y q → g S p q = some res → Yl X.K F m H res Q → r x y H Q
def S1 (X : Cx) (r : V → Hp → VK → Prop) (g : G1) : Prop := ∀ (lk : List Addr) (F : Hp) (m : List Addr) (S : Stor) (H : Hp) (x : V) (p res : PV) (Q : VK),
  R0 X.K X.mg lk F m S H → Rep X.K F m x p → g S p = some res → Yl X.K F m H res Q → r x H Q
def O2 (X : Cx) (f : Value → Value → Sem Value) (g : G2) : Prop := ∃ r, OpR X f r ∧ S2 X r g
def O1 (X : Cx) (f : Value → Sem Value) (g : G1) : Prop := ∃ r, UnR X f r ∧ S1 X r g
section
variable {k : Nat} {X : Cx} {c : Cfg} {a b : Expr} {da db : DE} {pos : Pos}
theorem rd_two {g : G2} {r : R2} (hX : XOk k X c) (hs : S2 X r g) {σ : St} {H : Hp} {Q : VK} (h : rE c (d2 g da db) σ H Q) : rE c da σ H fun x H1 => rE c db σ H1 fun y H2 => r x y H2 Q := by
  obtain ⟨K, mg, F0, m0, H0, lk, W⟩ := c
  obtain rfl := hX.K
  obtain rfl := hX.mg
  obtain ⟨F, m, h⟩ := h
  refine (rd_bind h).imp fun v H1 ⟨F1, m1, p, s1, p1, q1, h⟩ => ?_
  refine (rd_bind h).imp fun w H2 ⟨F2, m2, q, s2, p2, q2, h⟩ => ?_
  obtain ⟨env, S, R, h⟩ := h.getS
  obtain ⟨res, e, h⟩ := h.opt
  exact hs _ _ _ _ _ _ _ _ _ _ _ R.r0 (q1.mono s2 p2) q2 e fun F' H' v x rv => h.end_ x rv
theorem rd_one {g : G1} {r : V → Hp → VK → Prop} (hX : XOk k X c) (hs : S1 X r g) {σ : St} {H : Hp} {Q : VK} (h : rE c (d1 g da) σ H Q) : rE c da σ H fun x H1 => r x H1 Q := by
  obtain ⟨K, mg, F0, m0, H0, lk, W⟩ := c
  obtain rfl := hX.K
  obtain rfl := hX.mg
  obtain ⟨F, m, h⟩ := h
  refine (rd_bind h).imp fun v H1 ⟨F1, m1, p, s1, p1, q1, h⟩ => ?_
  obtain ⟨env, S, R, h⟩ := h.getS
  obtain ⟨res, e, h⟩ := h.opt
  exact hs _ _ _ _ _ _ _ _ _ R.r0 q1 e fun F' H' v x rv => h.end_ x rv
theorem r_bin {op : Operator} {g : G2} (hX : XOk k X c) (o : O2 X (binaryOp op) g) (ha : PE X a (rE c da)) (hb : PE X b (rE c db)) : PE X (.BinOp a op b pos) (rE c (d2 g da db)) :=
  let ⟨_, o1, o2⟩ := o; PE.weak (pe_op o1 ha hb) fun _ _ _ h => rd_two hX o2 h
theorem r_cmp {op : CmpOp} {g : G2} (hX : XOk k X c) (o : O2 X (compareOp op) g) (ha : PE X a (rE c da)) (hb : PE X b (rE c db)) (hm : behindInMarks op b = false) : PE X (.Compare a [op] [b] pos) (rE c (d2 g da db)) :=
  let ⟨_, o1, o2⟩ := o; PE.weak (pe_cmpR o1 ha hb hm) fun _ _ _ h => rd_two hX o2 h
theorem r_un {op : UnaryOp} {g : G1} (hX : XOk k X c) (o : O1 X (unaryOp op) g) (ha : PE X a (rE c da)) : PE X (.UnaryOp op a pos) (rE c (d1 g da)) :=
  let ⟨_, o1, o2⟩ := o; PE.weak (pe_un o1 ha) fun _ _ _ h => rd_one hX o2 h
end

/-! ### tests -/
def dT (da : DE) : Den Bool := da.bind fun p => match p with
  | .bl b => Den.pure b
  | _ => Den.fail
def truP (S : Stor) : PV → Option Bool
  | .non => some false
  | .bl b => some b
  | .int i => some (i != 0)
  | .str x => if x.length ≤ sizeLine then some (x.length != 0) else none
  | .tup xs => some (!xs.isEmpty)
  | .lst xs => some (!xs.isEmpty)
  | .rol xs => some (!xs.isEmpty)
  | .ftp xs => some (!xs.isEmpty)
  | .dk xs => none
  | .dt xs => none
  | .ref n => match S[n]? with
    | some (.lst xs) => some (!xs.isEmpty)
    | _ => none
def dTru (da : DE) : Den Bool := da.bind fun p => Den.getS.bind fun S => Den.opt (truP S p)
section
variable {k : Nat} {X : Cx} {c : Cfg} {a b : Expr} {da db : DE} {ta tb : Den Bool} {pos : Pos} {rest : List Expr}
theorem rdAt.fail {β α : Type} {R : RP β α} {c : Cfg} {F : Hp} {m : List Addr} {σ : St} {H : Hp} {Q : β → Hp → Prop} (h : rdAt R c (Den.fail) F m σ H Q) : False := by
  obtain ⟨env, S, r, h⟩ := h
  exact h
theorem dT_of {σ : St} {H : Hp} {Q : Bool → Hp → Prop} (h : rT c (dT da) σ H Q) : rE c da σ H fun x H1 => ∃ b, x = .bl b ∧ Q b H1 := by
  obtain ⟨F, m, h⟩ := h
  refine (rd_bind h).imp fun v H1 ⟨F1, m1, p, s1, p1, q1, h⟩ => ?_
  cases p with
  | bl b => cases q1; exact ⟨_, rfl, h.end0 rfl⟩
  | non => exact h.fail.elim
  | int i => exact h.fail.elim
  | str i => exact h.fail.elim
  | tup i => exact h.fail.elim
  | lst i => exact h.fail.elim
  | rol i => exact h.fail.elim
  | ftp i => exact h.fail.elim
  | dk i => exact h.fail.elim
  | dt i => exact h.fail.elim
  | ref i => exact h.fail.elim
theorem ftp_h {lk : List Addr} {K : PySem.W.Frag} {mg : Str → Option Value} {F H : Hp} {m : List Addr} {S : Stor} {a : Addr} {ob : Obj} {vs : List V} (R : R0 K mg lk F m S H) (hf : F a = some (.frz ob (.tup vs))) : H a = some (.frz ob (.tup vs)) := by
  rcases R.sub _ _ hf with z | ⟨_, z, _⟩
  · exact z
  · exact z.elim
theorem ftp_sq {lk : List Addr} {K : PySem.W.Frag} {mg : Str → Option Value} {F H : Hp} {m : List Addr} {S : Stor} {a : Addr} {ob : Obj} {vs : List V} (R : R0 K mg lk F m S H) (hf : F a = some (.frz ob (.tup vs))) : SqT K H a vs := .inl (.inr ⟨ob, ftp_h R hf⟩)
/-- the truth of a value -/
theorem tru_rep {lk : List Addr} {K : PySem.W.Frag} {mg : Str → Option Value} {F H : Hp} {m : List Addr} {S : Stor} {v : V} {p : PV} {b : Bool} (R : R0 K mg lk F m S H) (q : Rep K F m v p) (h : truP S p = some b) : TruV K v H b := by
  have lenE : ∀ {vs : List V} {ps : List PV}, RepL K F m vs ps → ps.isEmpty = vs.isEmpty := fun r => by cases r <;> rfl
  cases q with
  | non => cases h; rfl
  | bl b => cases h; rfl
  | int i => cases h; rfl
  | str x =>
    simp only [truP] at h
    split at h
    · rename_i hl
      cases h
      refine ⟨hl, ?_⟩
      have : (x.length != 0) = ((x.length : Int) != 0) := by
        cases e : x.length with
        | zero => rfl
        | succ n => rw [bne_iff_ne.mpr (Nat.succ_ne_zero n), bne_iff_ne.mpr (by omega)]
      exact this
    · cases h
  | tup hf r =>
    cases h
    exact .inr (.inl ⟨_, SqT.of (R.sub _ _ hf).tup, by rw [lenE r]⟩)
  | lst hf r =>
    cases h
    exact .inl ⟨_, SqL.of (R.sub _ _ hf).lst, by rw [lenE r]⟩
  | ftp hf e1 e2 r =>
    cases h
    exact .inr (.inl ⟨_, ftp_sq R hf, by rw [lenE r]⟩)
  | rol hf r =>
    cases h
    refine .inl ⟨_, ?_, by rw [lenE r]⟩
    rcases hf with (hf | ⟨ob, hf⟩) | hf
    · exact SqL.of (R.sub _ _ hf).lst
    · exact .inl (.inr ⟨ob, by rcases R.sub _ _ hf with z | ⟨_, z, _⟩; exact z; exact z.elim⟩)
    · exact .inr hf
  | dk hf r => cases h
  | dt hf r => cases h
  | ref hm =>
    simp only [truP] at h
    split at h
    · rename_i xs hs
      cases h
      obtain ⟨vs, h1, h2⟩ := R.sto _ _ _ hm hs
      exact .inl ⟨_, SqL.of h1, by rw [lenE h2]⟩
    · cases h
theorem dTru_of {k : Nat} (hX : XOk k X c) {σ : St} {H : Hp} {Q : Bool → Hp → Prop} (h : rT c (dTru da) σ H Q) : rE c da σ H fun x H1 => ∃ b, TruV X.K x H1 b ∧ Q b H1 := by
  obtain ⟨F, m, h⟩ := h
  refine (rd_bind h).imp fun v H1 ⟨F1, m1, p, s1, p1, q1, h⟩ => ?_
  obtain ⟨env, S, R, h⟩ := h.getS
  obtain ⟨res, e, h⟩ := h.opt
  refine ⟨res, ?_, h.end0 rfl⟩
  rw [hX.K]
  exact tru_rep R.r0 q1 e
theorem t_tru (hX : XOk k X c) (ha : PE X a (rE c da)) (he : ∀ whole, isTrue a X.env whole = (do let v ← whole; standAt a.pos; holding [v] (truthy v)) := by intro _; rfl) : PT X a (rT c (dTru da)) :=
  PT.weak (pt_truth ha he) fun σ H Q h => dTru_of hX h
theorem t_cmp {op : CmpOp} {g : G2} (hX : XOk k X c) (o : O2 X (compareOp op) g) (ha : PE X a (rE c da)) (hb : PE X b (rE c db)) (hm : behindInMarks op b = false) : PT X (.Compare a [op] [b] pos) (rT c (dT (d2 g da db))) :=
  let ⟨_, o1, o2⟩ := o; PT.weak (pt_cmpR o1 ha hb hm) fun _ _ _ h => rd_two hX o2 (dT_of h)
def dNotT (t : Den Bool) : Den Bool := t.bind fun b => Den.pure (!b)
def dAndT (t u : Den Bool) : Den Bool := t.bind fun b => if b then u else Den.pure false
def dOrT (t u : Den Bool) : Den Bool := t.bind fun b => if b then Den.pure true else u
theorem t_not (ha : PT X a (rT c ta)) : PT X (.UnaryOp .Not a pos) (rT c (dNotT ta)) := by
  refine PT.weak (pt_not ha) fun σ H Q h => ?_
  obtain ⟨F, m, h⟩ := h
  refine (rd_bind h).imp fun v H1 ⟨F1, m1, p, s1, p1, q1, h⟩ => ?_
  cases q1
  exact h.end0 rfl
theorem and_of {σ : St} {H : Hp} {Q : Bool → Hp → Prop} (h : rT c (dAndT ta tb) σ H Q) : tAnd (rT c ta) (rT c tb) σ H Q := by
  obtain ⟨F, m, h⟩ := h
  refine (rd_bind h).imp fun v H1 ⟨F1, m1, p, s1, p1, q1, h⟩ => ?_
  cases q1
  cases v with
  | true => exact h.rd
  | false => exact h.end0 rfl
theorem or_of {σ : St} {H : Hp} {Q : Bool → Hp → Prop} (h : rT c (dOrT ta tb) σ H Q) : tOr (rT c ta) (rT c tb) σ H Q := by
  obtain ⟨F, m, h⟩ := h
  refine (rd_bind h).imp fun v H1 ⟨F1, m1, p, s1, p1, q1, h⟩ => ?_
  cases q1
  cases v with
  | true => exact h.end0 rfl
  | false => exact h.rd
theorem w_and1 (ha : PT X a (rT c ta)) : PW X (.BoolOp .And [a] pos) (rT c ta) := pw_and1 ha
theorem w_or1 (ha : PT X a (rT c ta)) : PW X (.BoolOp .Or [a] pos) (rT c ta) := pw_or1 ha
theorem w_and (ha : PT X a (rT c ta)) (hb : PW X (.BoolOp .And (b :: rest) pos) (rT c tb)) : PW X (.BoolOp .And (a :: b :: rest) pos) (rT c (dAndT ta tb)) := PW.weak (pw_and ha hb) fun _ _ _ h => and_of h
theorem w_or (ha : PT X a (rT c ta)) (hb : PW X (.BoolOp .Or (b :: rest) pos) (rT c tb)) : PW X (.BoolOp .Or (a :: b :: rest) pos) (rT c (dOrT ta tb)) := PW.weak (pw_or ha hb) fun _ _ _ h => or_of h
theorem t_w (h : PW X a (rT c ta)) : PT X a (rT c ta) := h.pt
/-- .. as values -/
def dAndV (da db : DE) : DE := da.bind fun p => Den.getS.bind fun S => (Den.opt (truP S p)).bind fun b => if b then db else Den.pure p
def dOrV (da db : DE) : DE := da.bind fun p => Den.getS.bind fun S => (Den.opt (truP S p)).bind fun b => if b then Den.pure p else db
def dNotV (da : DE) : DE := da.bind fun p => Den.getS.bind fun S => (Den.opt (truP S p)).bind fun b => Den.pure (.bl (!b))
theorem rdAt.opt_bind {β α α' : Type} {R : RP β α} {c : Cfg} {o : Option α'} {k : α' → Den α} {F : Hp} {m : List Addr} {σ : St} {H : Hp} {Q : β → Hp → Prop} (h : rdAt R c ((Den.opt o).bind k) F m σ H Q) : ∃ p, o = some p ∧ rdAt R c (k p) F m σ H Q := by
  obtain ⟨env, S, r, h⟩ := h
  cases o with
  | none => exact h.elim
  | some p => exact ⟨p, rfl, env, S, r, h⟩
theorem r_one {op} (ha : PE X a (rE c da)) : PE X (.BoolOp op [a] pos) (rE c da) := pe_one ha
theorem r_and (hX : XOk k X c) (ha : PE X a (rE c da)) (hb : PE X (.BoolOp .And (b :: rest) pos) (rE c db)) : PE X (.BoolOp .And (a :: b :: rest) pos) (rE c (dAndV da db)) := by
  refine PE.weak (pe_andT ha hb) fun σ H Q h => ?_
  obtain ⟨F, m, h⟩ := h
  refine (rd_bind h).imp fun v H1 ⟨F1, m1, p, s1, p1, q1, h⟩ => ?_
  obtain ⟨env, S, R, h⟩ := h.getS
  obtain ⟨res, e, h⟩ := h.opt_bind
  refine ⟨res, by rw [hX.K]; exact tru_rep R.r0 q1 e, ?_⟩
  cases res with
  | true => exact h.rd
  | false => exact h.end0 q1
theorem r_not (hX : XOk k X c) (ha : PE X a (rE c da)) : PE X (.UnaryOp .Not a pos) (rE c (dNotV da)) := by
  refine PE.weak (pe_notT ha) fun σ H Q h => ?_
  obtain ⟨F, m, h⟩ := h
  refine (rd_bind h).imp fun v H1 ⟨F1, m1, p, s1, p1, q1, h⟩ => ?_
  obtain ⟨env, S, R, h⟩ := h.getS
  obtain ⟨res, e, h⟩ := h.opt_bind
  exact ⟨res, by rw [hX.K]; exact tru_rep R.r0 q1 e, h.end0 (Rep.bl _)⟩
def dIf (t : Den Bool) (da db : DE) : DE := t.bind fun b => if b then da else db
theorem r_if {e : Expr} {t : Den Bool} (hc : PT X e (rT c t)) (ha : PE X a (rE c da)) (hb : PE X b (rE c db)) : PE X (.IfExp e a b pos) (rE c (dIf t da db)) := by
  refine PE.weak (pe_ifExp hc ha hb) fun σ H Q h => ?_
  obtain ⟨F, m, h⟩ := h
  refine (rd_bind h).imp fun v H1 ⟨F1, m1, p, s1, p1, q1, h⟩ => ?_
  cases q1
  cases v with
  | true => exact h.rd
  | false => exact h.rd
/-- a < b < c -/
def dChain (g g' : G2) (da db dc : DE) : DE := da.bind fun p => db.bind fun q => Den.getS.bind fun S => (Den.opt (g S p q)).bind fun z => match z with
  | .bl true => dc.bind fun r => Den.getS.bind fun S => Den.opt (g' S q r)
  | .bl false => Den.pure (.bl false)
  | _ => Den.fail
theorem chain_of {g g' : G2} {r r' : R2} {dc : DE} (hX : XOk k X c) (hs : S2 X r g) (hs' : S2 X r' g') {σ : St} {H : Hp} {Q : VK} (h : rE c (dChain g g' da db dc) σ H Q) : tChain r r' (rE c da) (rE c db) (rE c dc) σ H Q := by
  obtain ⟨K, mg, F0, m0, H0, lk, W⟩ := c
  obtain rfl := hX.K
  obtain rfl := hX.mg
  obtain ⟨F, m, h⟩ := h
  refine (rd_bind h).imp fun v H1 ⟨F1, m1, p, s1, p1, q1, h⟩ => ?_
  refine (rd_bind h).imp fun w H2 ⟨F2, m2, q, s2, p2, q2, h⟩ => ?_
  obtain ⟨env, S, R, h⟩ := h.getS
  obtain ⟨res, e, h⟩ := h.opt_bind
  refine hs _ _ _ _ _ _ _ _ _ _ _ R.r0 (q1.mono s2 p2) q2 e fun F' H' v x rv => ?_
  have h := h.ext x
  cases rv with
  | bl b =>
    refine ⟨b, rfl, ?_⟩
    cases b with
    | true =>
      rw [if_pos rfl]
      refine (rd_bind h).imp fun w' H3 ⟨F3, m3, q3, s3, p3, q3', h⟩ => ?_
      obtain ⟨env, S, R, h⟩ := h.getS
      obtain ⟨res, e, h⟩ := h.opt
      exact hs' _ _ _ _ _ _ _ _ _ _ _ R.r0 ((q2.mono x.f (List.prefix_refl _)).mono s3 p3) q3' e fun F' H' v x rv => h.end_ x rv
    | false => rw [if_neg Bool.false_ne_true]; exact h.end0 (Rep.bl _)
  | non => exact h.fail.elim
  | int i => exact h.fail.elim
  | str i => exact h.fail.elim
  | tup i => exact h.fail.elim
  | lst i => exact h.fail.elim
  | rol i => exact h.fail.elim
  | ftp i => exact h.fail.elim
  | dk i => exact h.fail.elim
  | dt i => exact h.fail.elim
  | ref i => exact h.fail.elim
theorem r_chain {op op' : CmpOp} {g g' : G2} {e : Expr} {dc : DE} (hX : XOk k X c) (o : O2 X (compareOp op) g) (o' : O2 X (compareOp op') g') (ha : PE X a (rE c da)) (hb : PE X b (rE c db)) (hc : PE X e (rE c dc))
    (hm : lastMarks [op, op'] [b, e] = false := by with_unfolding_all rfl) : PE X (.Compare a [op, op'] [b, e] pos) (rE c (dChain g g' da db dc)) :=
  let ⟨_, o1, o2⟩ := o; let ⟨_, o3, o4⟩ := o'; PE.weak (pe_chain o1 o3 ha hb hc hm) fun _ _ _ h => chain_of hX o2 o4 h
end

/-! ### argument lists, displays -/
def aNil : Den (List PV) := Den.pure []
def aCons (da : DE) (dr : Den (List PV)) : Den (List PV) := da.bind fun p => dr.bind fun ps => Den.pure (p :: ps)
section
variable {k : Nat} {X : Cx} {c : Cfg} {e : Expr} {es : List Expr} {da : DE} {dr : Den (List PV)} {pos : Pos}
theorem a_nil : PA X [] (rA c aNil) := PA.weak pa_nil fun _ _ _ ⟨_, _, h⟩ => h.end0 RepL.nil
theorem a_cons (ha : PE X e (rE c da)) (hr : PA X es (rA c dr)) (hs : starEach (e :: es) X.env = (false, eval e X.env) :: starEach es X.env := by rfl) : PA X (e :: es) (rA c (aCons da dr)) := by
  refine PA.weak (pa_cons ha hr hs) fun σ H Q h => ?_
  obtain ⟨F, m, h⟩ := h
  refine (rd_bind h).imp fun v H1 ⟨F1, m1, p, s1, p1, q1, h⟩ => ?_
  refine (rd_bind h).imp fun w H2 ⟨F2, m2, q, s2, p2, q2, h⟩ => ?_
  exact h.end0 (RepL.cons (q1.mono s2 p2) q2)
theorem Yl.new {K : PySem.W.Frag} {mg : Str → Option Value} {lk : List Addr} {F H : Hp} {m : List Addr} {S : Stor} {res : PV} {Q : VK} (R : R0 K mg lk F m S H) {o : HO} {p : Addr} (hp : H p = none) (im : Imm o) (y : Yl K F m H res Q) (r : Same F (upd F p o) → Rep K (upd F p o) m (.ref p) res) : Q (.ref p) (upd H p o) := by
  have x := Ext.new R.fne hp im
  exact y _ _ _ x (r x.f)
def dTup (dr : Den (List PV)) : DE := dr.bind fun ps => if ps.length ≤ sizeLine then Den.pure (.tup ps) else Den.fail
def dLst (dr : Den (List PV)) : DE := dr.bind fun ps => if ps.length ≤ sizeLine then Den.pure (.lst ps) else Den.fail
theorem rdAt.if_ {β α : Type} {R : RP β α} {c : Cfg} {F : Hp} {m : List Addr} {σ : St} {H : Hp} {Q : β → Hp → Prop} {C : Prop} [Decidable C] {d : Den α} (h : rdAt R c (if C then d else Den.fail) F m σ H Q) : C ∧ rdAt R c d F m σ H Q := by
  by_cases q : C
  · rw [if_pos q] at h; exact ⟨q, h⟩
  · rw [if_neg q] at h; exact h.fail.elim
theorem rdAt.yl {c : Cfg} {F : Hp} {m : List Addr} {σ : St} {H : Hp} {Q : VK} {p : PV} (h : rdAt (fun K F m v p => Rep K F m v p) c (Den.pure p) F m σ H Q) : Yl c.K F m H p Q := fun F' H' v x q => h.end_ x q
theorem rdAt.rel {β α : Type} {R : RP β α} {c : Cfg} {d : Den α} {F : Hp} {m : List Addr} {σ : St} {H : Hp} {Q : β → Hp → Prop} (h : rdAt R c d F m σ H Q) : ∃ env S, Rel c F m σ env S H := by
  obtain ⟨env, S, r, _⟩ := h
  exact ⟨env, S, r⟩
theorem r_tup {x1} (hr : PA X es (rA c dr)) : PE X (.Tuple es x1 pos) (rE c (dTup dr)) := by
  refine PE.weak (pe_tup hr) fun σ H Q h => ?_
  obtain ⟨F, m, h⟩ := h
  refine (rd_bind h).imp fun v H1 ⟨F1, m1, p, s1, p1, q1, h⟩ => ?_
  obtain ⟨hl, h⟩ := h.if_
  refine ⟨by rw [q1.length]; exact hl, fun a ha => ?_⟩
  obtain ⟨env, S, R⟩ := h.rel
  exact h.yl.new R.r0 ha trivial fun s => .tup upd_same (q1.mono s (List.prefix_refl _))
theorem r_lst (hr : PA X es (rA c dr)) : PE X (.List es pos) (rE c (dLst dr)) := by
  refine PE.weak (pe_lst hr) fun σ H Q h => ?_
  obtain ⟨F, m, h⟩ := h
  refine (rd_bind h).imp fun v H1 ⟨F1, m1, p, s1, p1, q1, h⟩ => ?_
  obtain ⟨hl, h⟩ := h.if_
  refine ⟨by rw [q1.length]; exact hl, fun a ha => ?_⟩
  obtain ⟨env, S, R⟩ := h.rel
  exact h.yl.new R.r0 ha trivial fun s => .lst upd_same (q1.mono s (List.prefix_refl _))
end
end Dn
end
section
set_option Elab.async false
set_option linter.all false
set_option maxRecDepth 100000
set_option maxHeartbeats 1000000
namespace Dn
open PySem L2 PySem.Spec PyProof.Rows

/-! ### values as data -/
mutual
def toD : PV → Option PyData
  | .non => some .none
  | .bl b => some (.bool b)
  | .int i => some (.int i)
  | .str x => some (.str x)
  | .tup xs => (toDs xs).map PyData.tuple
  | .ftp xs => (toDs xs).map PyData.tuple
  | .lst xs => (toDs xs).map PyData.list
  | _ => none
def toDs : List PV → Option (List PyData)
  | [] => some []
  | x :: xs => match toD x, toDs xs with
    | some a, some b => some (a :: b)
    | _, _ => none
end
section
variable {K : PySem.W.Frag} {mg : Str → Option Value} {lk : List Addr} {F H : Hp} {m : List Addr} {S : Stor}
mutual
theorem rep_dp (R : R0 K mg lk F m S H) : ∀ {v : V} {p : PV} {d : PyData}, Rep K F m v p → toD p = some d → Dp K H v d
  | _, _, _, .non, h => by cases h; exact .non
  | _, _, _, .bl b, h => by cases h; exact .bl b
  | _, _, _, .int b, h => by cases h; exact .int b
  | _, _, _, .str b, h => by cases h; exact .str b
  | _, _, _, .tup (ps := ps) hf r, h => by
    simp only [toD] at h
    cases e : toDs ps with
    | none => rw [e] at h; cases h
    | some ds => rw [e] at h; cases h; exact .tup (SqT.of (R.sub _ _ hf).tup) (rep_dps R r e)
  | _, _, _, .lst (ps := ps) hf r, h => by
    simp only [toD] at h
    cases e : toDs ps with
    | none => rw [e] at h; cases h
    | some ds => rw [e] at h; cases h; exact .lst (SqL.of (R.sub _ _ hf).lst) (rep_dps R r e)
  | _, _, _, .rol hf r, h => by cases h
  | _, _, _, .ftp (ps := ps) hf e1 e2 r, h => by
    simp only [toD] at h
    cases e : toDs ps with
    | none => rw [e] at h; cases h
    | some ds => rw [e] at h; cases h; exact .tup (ftp_sq R hf) (rep_dps R r e)
  | _, _, _, .dk hf r, h => by cases h
  | _, _, _, .dt hf r, h => by cases h
  | _, _, _, .ref hf, h => by cases h
theorem rep_dps (R : R0 K mg lk F m S H) : ∀ {vs : List V} {ps : List PV} {ds : List PyData}, RepL K F m vs ps → toDs ps = some ds → DpAll K H vs ds
  | _, _, _, .nil, h => by cases h; exact .nil
  | _, _, _, .cons (p := p) (ps := ps) h1 h2, h => by
    simp only [toDs] at h
    cases e1 : toD p with
    | none => rw [e1] at h; cases h
    | some a =>
      cases e2 : toDs ps with
      | none => rw [e1, e2] at h; cases h
      | some b => rw [e1, e2] at h; cases h; exact .cons (rep_dp R h1 e1) (rep_dps R h2 e2)
end
end

def eqP : G2 := fun _ p q => match toD p, toD q with
  | some d, some e => if SeqAt.shaped d = true ∧ SeqAt.shaped e = true then some (.bl (PyData.eqv d e)) else none
  | _, _ => none
def neP : G2 := fun _ p q => match toD p, toD q with
  | some d, some e => if SeqAt.shaped d = true ∧ SeqAt.shaped e = true then some (.bl (!PyData.eqv d e)) else none
  | _, _ => none
section
variable {k : Nat} {X : Cx}
theorem o_eq (hr : Room k X.A) : O2 X (compareOp .Eq) eqP := by
  refine ⟨_, op_eqD hr.units, fun lk F m S H x y p q res Q R rx ry h yl => ?_⟩
  unfold eqP at h
  split at h
  · rename_i d e h1 h2
    split at h
    · rename_i hh
      cases h
      exact ⟨d, e, rep_dp R rx h1, rep_dp R ry h2, hh.1, hh.2, yl.here (.bl _)⟩
    · cases h
  · cases h
theorem o_ne (hr : Room k X.A) : O2 X (compareOp .NotEq) neP := by
  refine ⟨_, op_neD hr.units, fun lk F m S H x y p q res Q R rx ry h yl => ?_⟩
  unfold neP at h
  split at h
  · rename_i d e h1 h2
    split at h
    · rename_i hh
      cases h
      exact ⟨d, e, rep_dp R rx h1, rep_dp R ry h2, hh.1, hh.2, yl.here (.bl _)⟩
    · cases h
  · cases h
/-! ### order of ints -/
def cmpI (f : Int → Int → Bool) : G2 := fun _ p q => match p, q with
  | .int i, .int j => some (.bl (f i j))
  | _, _ => none
theorem s_cmpI (f : Int → Int → Bool) : S2 X (rI0 fun i j => .bl (f i j)) (cmpI f) := by
  intro lk F m S H x y p q res Q R rx ry h yl
  unfold cmpI at h
  split at h
  · cases h; cases rx; cases ry; exact ⟨_, _, rfl, rfl, yl.here (.bl _)⟩
  · cases h
abbrev ltP : G2 := cmpI fun i j => decide (i < j)
abbrev leP : G2 := cmpI fun i j => decide (i ≤ j)
abbrev gtP : G2 := cmpI fun i j => decide (j < i)
abbrev geP : G2 := cmpI fun i j => decide (j ≤ i)
theorem o_lt : O2 X (compareOp .Lt) ltP := ⟨_, op_lt, s_cmpI _⟩
theorem o_le : O2 X (compareOp .LtE) leP := ⟨_, op_le, s_cmpI _⟩
theorem o_gt : O2 X (compareOp .Gt) gtP := ⟨_, op_gt, s_cmpI _⟩
theorem o_ge : O2 X (compareOp .GtE) geP := ⟨_, op_ge, s_cmpI _⟩
/-! ### is None -/
def isNonP : G2 := fun _ p q => match q with
  | .non => some (.bl (match p with | .non => true | _ => false))
  | _ => none
theorem o_is : O2 X (compareOp .Is) isNonP := by
  refine ⟨_, op_isN, fun lk F m S H x y p q res Q R rx ry h yl => ?_⟩
  unfold isNonP at h
  split at h
  · cases h; cases ry
    refine ⟨rfl, ?_⟩
    cases rx <;> exact yl.here (.bl _)
  · cases h
/-! ### arithmetic -/
def addP : G2 := fun _ p q => match p, q with
  | .int i, .int j => some (.int (i + j))
  | .str x, .str y => if x.length + y.length ≤ sizeLine then some (.str (x ++ y)) else none
  | .tup xs, .tup ys => if xs.length + ys.length ≤ sizeLine then some (.tup (xs ++ ys)) else none
  | .lst xs, .lst ys => if xs.length + ys.length ≤ sizeLine then some (.lst (xs ++ ys)) else none
  | _, _ => none
theorem o_add : O2 X (binaryOp .Add) addP := by
  refine ⟨_, op_add.or (op_add_str.or (op_catA.or op_cat)), fun lk F m S H x y p q res Q R rx ry h yl => ?_⟩
  unfold addP at h
  split at h
  · cases h; cases rx; cases ry; exact .inl ⟨_, _, rfl, rfl, yl.here (.int _)⟩
  · split at h
    · rename_i hh
      cases h; cases rx; cases ry; exact .inr (.inl ⟨_, _, rfl, rfl, hh, yl.here (.str _)⟩)
    · cases h
  · split at h
    · rename_i xs ys hh
      cases h; cases rx; cases ry
      rename_i a vs hf rl b ws hg rm
      refine .inr (.inr (.inl ⟨a, b, vs, ws, rfl, rfl, SqT.of (R.sub _ _ hf).tup, SqT.of (R.sub _ _ hg).tup, by rw [rl.length, rm.length]; exact hh, fun e => ?_, fun _ e => ?_, fun _ _ d hd => ?_⟩))
      · subst e; cases rl; exact yl.here (.tup hg rm)
      · subst e; cases rm; refine yl.here ?_; rw [List.append_nil]; exact .tup hf rl
      · exact yl.new R hd trivial fun s => .tup upd_same ((rl.append rm).mono s (List.prefix_refl _))
    · cases h
  · split at h
    · rename_i xs ys hh
      cases h; cases rx; cases ry
      rename_i a vs hf rl b ws hg rm
      refine .inr (.inr (.inr ⟨a, b, vs, ws, rfl, rfl, (R.sub _ _ hf).lst, (R.sub _ _ hg).lst, by rw [rl.length, rm.length]; exact hh, fun d hd => ?_⟩))
      exact yl.new R hd trivial fun s => .lst upd_same ((rl.append rm).mono s (List.prefix_refl _))
    · cases h
  · cases h
def subP : G2 := fun _ p q => match p, q with
  | .int i, .int j => some (.int (i - j))
  | _, _ => none
theorem o_sub : O2 X (binaryOp .Sub) subP := by
  refine ⟨_, op_sub, fun lk F m S H x y p q res Q R rx ry h yl => ?_⟩
  unfold subP at h
  split at h
  · cases h; cases rx; cases ry; exact ⟨_, _, rfl, rfl, yl.here (.int _)⟩
  · cases h
def mulOk (i j : Int) : Bool := (decide (-(2 ^ 64) < i) && decide (i < 2 ^ 64)) || (decide (-(2 ^ 64) < j) && decide (j < 2 ^ 64))
def mulP : G2 := fun _ p q => match p, q with
  | .int i, .int j => if mulOk i j then some (.int (i * j)) else none
  | .tup xs, .int j => if xs.length ≤ 1000 ∧ xs ≠ [] ∧ 2 ≤ j ∧ j ≤ 1000 then some (.tup (List.replicate j.toNat xs).flatten) else none
  | .lst xs, .int j => if xs.length ≤ 1000 ∧ -1000 ≤ j ∧ j ≤ 1000 then some (.lst (List.replicate j.toNat xs).flatten) else none
  | _, _ => none
theorem o_mul : O2 X (binaryOp .Mult) mulP := by
  refine ⟨_, op_mul.or (op_repT.or op_rep), fun lk F m S H x y p q res Q R rx ry h yl => ?_⟩
  unfold mulP at h
  split at h
  · split at h
    · rename_i hh
      cases h; cases rx; cases ry
      simp only [mulOk, Bool.or_eq_true, Bool.and_eq_true, decide_eq_true_eq] at hh
      exact .inl ⟨_, _, rfl, rfl, hh, yl.here (.int _)⟩
    · cases h
  · split at h
    · rename_i hh
      obtain ⟨h1, h2, h3, h4⟩ := hh
      cases h; cases rx; cases ry
      rename_i a vs hf rl
      refine .inr (.inl ⟨a, _, vs, rfl, rfl, SqT.of (R.sub _ _ hf).tup, fun e => ?_, h3, h4, by rw [rl.length]; exact h1, fun d hd => ?_⟩)
      · subst e; cases rl; exact h2 rfl
      · exact yl.new R hd trivial fun s => .tup upd_same ((rl.flat _).mono s (List.prefix_refl _))
    · cases h
  · split at h
    · rename_i hh
      obtain ⟨h1, h2, h3⟩ := hh
      cases h; cases rx; cases ry
      rename_i j a vs hf rl
      refine .inr (.inr ⟨a, _, vs, rfl, rfl, (R.sub _ _ hf).lst, by omega, by omega, ?_, fun d hd => ?_⟩)
      · rw [rl.length, sizeLine_eq]
        have : j.toNat ≤ 1000 := by omega
        exact Nat.le_trans (Nat.mul_le_mul h1 this) (by decide)
      · exact yl.new R hd trivial fun s => .lst upd_same ((rl.flat _).mono s (List.prefix_refl _))
    · cases h
  · cases h
def fdivP : G2 := fun _ p q => match p, q with
  | .int i, .int j => if 0 < j ∧ j < 1073741824 then some (.int (i / j)) else none
  | _, _ => none
theorem o_fdiv : O2 X (binaryOp .FloorDiv) fdivP := by
  refine ⟨_, op_fdiv, fun lk F m S H x y p q res Q R rx ry h yl => ?_⟩
  unfold fdivP at h
  split at h
  · split at h
    · rename_i hh
      cases h; cases rx; cases ry; exact ⟨_, _, rfl, rfl, hh, yl.here (.int _)⟩
    · cases h
  · cases h
def modP : G2 := fun _ p q => match p, q with
  | .int i, .int j => if 0 < j then some (.int (i % j)) else none
  | _, _ => none
theorem o_mod : O2 X (binaryOp .Mod) modP := by
  refine ⟨_, op_mod, fun lk F m S H x y p q res Q R rx ry h yl => ?_⟩
  unfold modP at h
  split at h
  · split at h
    · rename_i hh
      cases h; cases rx; cases ry; exact ⟨_, _, rfl, rfl, hh, yl.here (.int _)⟩
    · cases h
  · cases h
def powP : G2 := fun _ p q => match p, q with
  | .int i, .int j => if 0 ≤ j ∧ j ≤ 1000000 ∧ i.natAbs < 2 ^ 64 then some (.int (i ^ j.toNat)) else none
  | _, _ => none
theorem o_pow : O2 X (binaryOp .Pow) powP := by
  refine ⟨_, op_pow, fun lk F m S H x y p q res Q R rx ry h yl => ?_⟩
  unfold powP at h
  split at h
  · split at h
    · rename_i hh
      cases h; cases rx; cases ry; exact ⟨_, _, rfl, rfl, hh, yl.here (.int _)⟩
    · cases h
  · cases h
def negP : G1 := fun _ p => match p with
  | .int i => some (.int (-i))
  | _ => none
theorem o_neg : O1 X (unaryOp .USub) negP := by
  refine ⟨_, un_neg, fun lk F m S H x p res Q R rx h yl => ?_⟩
  unfold negP at h
  split at h
  · cases h; cases rx; exact ⟨_, rfl, yl.here (.int _)⟩
  · cases h
end

/-! ### keys -/
def keyP : PV → Option Key
  | .int i => some (.inl i)
  | .str x => some (.inr x)
  | _ => none
def keysP : List PV → Option (List Key)
  | [] => some []
  | p :: ps => match keyP p, keysP ps with
    | some k, some ks => some (k :: ks)
    | _, _ => none
def getKV {κ : Type} [DecidableEq κ] (kvs : List (κ × PV)) (k : κ) : Option PV := (kvs.find? fun kv => decide (kv.1 = k)).map (·.2)
def putKV {κ : Type} [DecidableEq κ] (kvs : List (κ × PV)) (k : κ) (v : PV) : List (κ × PV) :=
  if kvs.any (fun kv => decide (kv.1 = k)) then kvs.map fun kv => if kv.1 = k then (kv.1, v) else kv else kvs ++ [(k, v)]
section
variable {K : PySem.W.Frag} {F H : Hp} {m : List Addr}
theorem key_rep {v : V} {p : PV} {k : Key} (r : Rep K F m v p) (h : keyP p = some k) : v = kV k := by
  cases r with
  | int i => cases h; rfl
  | str i => cases h; rfl
  | _ => cases h
theorem keys_rep : ∀ {vs : List V} {ps : List PV} {ks : List Key}, RepL K F m vs ps → keysP ps = some ks → vs = ks.map kV
  | _, _, _, .nil, h => by cases h; rfl
  | _, _, _, .cons (p := p) (ps := ps) h1 h2, h => by
    simp only [keysP] at h
    cases e1 : keyP p with
    | none => rw [e1] at h; cases h
    | some a =>
      cases e2 : keysP ps with
      | none => rw [e1, e2] at h; cases h
      | some b => rw [e1, e2] at h; cases h; rw [List.map_cons, key_rep h1 e1, keys_rep h2 e2]
theorem RepK.get : ∀ {vs : List (Key × V)} {ps : List (Key × PV)}, RepK K F m vs ps → ∀ k : Key, (∃ v p, valV vs k = some v ∧ getKV ps k = some p ∧ Rep K F m v p) ∨ (valV vs k = none ∧ getKV ps k = none)
  | _, _, .nil, k => .inr ⟨rfl, rfl⟩
  | _, _, .cons (k := j) (v := v) (p := p) h1 h2, k => by
    by_cases e : j = k
    · exact .inl ⟨v, p, by simp [valV, List.find?_cons, e], by simp [getKV, List.find?_cons, e], h1⟩
    · rcases RepK.get h2 k with ⟨v', p', a, b, r⟩ | ⟨a, b⟩
      · exact .inl ⟨v', p', by simp only [valV, List.find?_cons, decide_eq_false e] at a ⊢; exact a, by simp only [getKV, List.find?_cons, decide_eq_false e] at b ⊢; exact b, r⟩
      · exact .inr ⟨by simp only [valV, List.find?_cons, decide_eq_false e] at a ⊢; exact a, by simp only [getKV, List.find?_cons, decide_eq_false e] at b ⊢; exact b⟩
theorem RepT.get : ∀ {vs : List (List Key × V)} {ps : List (List Key × PV)}, RepT K F m vs ps → ∀ k : List Key, (∃ v p, valV vs k = some v ∧ getKV ps k = some p ∧ Rep K F m v p) ∨ (valV vs k = none ∧ getKV ps k = none)
  | _, _, .nil, k => .inr ⟨rfl, rfl⟩
  | _, _, .cons (k := j) (v := v) (p := p) h1 h2, k => by
    by_cases e : j = k
    · exact .inl ⟨v, p, by simp [valV, List.find?_cons, e], by simp [getKV, List.find?_cons, e], h1⟩
    · rcases RepT.get h2 k with ⟨v', p', a, b, r⟩ | ⟨a, b⟩
      · exact .inl ⟨v', p', by simp only [valV, List.find?_cons, decide_eq_false e] at a ⊢; exact a, by simp only [getKV, List.find?_cons, decide_eq_false e] at b ⊢; exact b, r⟩
      · exact .inr ⟨by simp only [valV, List.find?_cons, decide_eq_false e] at a ⊢; exact a, by simp only [getKV, List.find?_cons, decide_eq_false e] at b ⊢; exact b⟩
theorem RepK.anyE (k : Key) : ∀ {vs : List (Key × V)} {ps : List (Key × PV)}, RepK K F m vs ps → (ps.any fun kv => decide (kv.1 = k)) = vs.any fun kv => decide (kv.1 = k)
  | _, _, .nil => rfl
  | _, _, .cons h1 h2 => by rw [List.any_cons, List.any_cons, RepK.anyE k h2]
theorem RepT.anyE (k : List Key) : ∀ {vs : List (List Key × V)} {ps : List (List Key × PV)}, RepT K F m vs ps → (ps.any fun kv => decide (kv.1 = k)) = vs.any fun kv => decide (kv.1 = k)
  | _, _, .nil => rfl
  | _, _, .cons h1 h2 => by rw [List.any_cons, List.any_cons, RepT.anyE k h2]
theorem RepK.app : ∀ {vs ws : List (Key × V)} {ps qs : List (Key × PV)}, RepK K F m vs ps → RepK K F m ws qs → RepK K F m (vs ++ ws) (ps ++ qs)
  | _, _, _, _, .nil, r => r
  | _, _, _, _, .cons h t, r => .cons h (t.app r)
theorem RepT.app : ∀ {vs ws : List (List Key × V)} {ps qs : List (List Key × PV)}, RepT K F m vs ps → RepT K F m ws qs → RepT K F m (vs ++ ws) (ps ++ qs)
  | _, _, _, _, .nil, r => r
  | _, _, _, _, .cons h t, r => .cons h (t.app r)
theorem RepK.mapE {v : V} {p : PV} (k : Key) (r : Rep K F m v p) : ∀ {vs : List (Key × V)} {ps : List (Key × PV)}, RepK K F m vs ps → RepK K F m (vs.map fun kv => if kv.1 = k then (kv.1, v) else kv) (ps.map fun kv => if kv.1 = k then (kv.1, p) else kv)
  | _, _, .nil => .nil
  | _, _, .cons (k := j) h1 h2 => by
    rw [List.map_cons, List.map_cons]
    by_cases e : j = k
    · rw [if_pos e, if_pos e]; exact .cons r (RepK.mapE k r h2)
    · rw [if_neg e, if_neg e]; exact .cons h1 (RepK.mapE k r h2)
theorem RepT.mapE {v : V} {p : PV} (k : List Key) (r : Rep K F m v p) : ∀ {vs : List (List Key × V)} {ps : List (List Key × PV)}, RepT K F m vs ps → RepT K F m (vs.map fun kv => if kv.1 = k then (kv.1, v) else kv) (ps.map fun kv => if kv.1 = k then (kv.1, p) else kv)
  | _, _, .nil => .nil
  | _, _, .cons (k := j) h1 h2 => by
    rw [List.map_cons, List.map_cons]
    by_cases e : j = k
    · rw [if_pos e, if_pos e]; exact .cons r (RepT.mapE k r h2)
    · rw [if_neg e, if_neg e]; exact .cons h1 (RepT.mapE k r h2)
theorem RepK.put {v : V} {p : PV} {vs : List (Key × V)} {ps : List (Key × PV)} (k : Key) (r : Rep K F m v p) (h : RepK K F m vs ps) : RepK K F m (putK vs k v) (putKV ps k p) := by
  unfold putK putKV
  rw [h.anyE k]
  split
  · exact h.mapE k r
  · exact h.app (.cons r .nil)
theorem RepT.put {v : V} {p : PV} {vs : List (List Key × V)} {ps : List (List Key × PV)} (k : List Key) (r : Rep K F m v p) (h : RepT K F m vs ps) : RepT K F m (putK vs k v) (putKV ps k p) := by
  unfold putK putKV
  rw [h.anyE k]
  split
  · exact h.mapE k r
  · exact h.app (.cons r .nil)
end

/-! ### in -/
def flatP : PV → Bool
  | .non => true
  | .bl _ => true
  | .int _ => true
  | .str _ => true
  | _ => false
def eqF : PV → PV → Bool
  | .non, .non => true
  | .bl a, .bl b => a == b
  | .bl a, .int b => (if a then 1 else 0) == b
  | .int a, .bl b => a == (if b then 1 else 0)
  | .int a, .int b => a == b
  | .str a, .str b => a == b
  | _, _ => false
def memP (S : Stor) (p q : PV) : Option Bool := match q with
  | .tup xs => if flatP p && xs.all flatP then some (xs.any fun y => eqF y p) else none
  | .ftp xs => if flatP p && xs.all flatP then some (xs.any fun y => eqF y p) else none
  | .lst xs => match toD p, toDs xs with
    | some d, some ds => if SeqAt.shaped d = true ∧ SeqAt.shaped (.list ds) = true then some (ds.any fun z => PyData.eqv z d) else none
    | _, _ => none
  | .dk kvs => (keyP p).map fun k => (getKV kvs k).isSome
  | .dt kvs => match p with
    | .tup ks => (keysP ks).map fun k => (getKV kvs k).isSome
    | _ => none
  | _ => none
def inP : G2 := fun S p q => (memP S p q).map PV.bl
section
variable {K : PySem.W.Frag} {mg : Str → Option Value} {lk : List Addr} {F H : Hp} {m : List Addr} {S : Stor}
theorem flat_rep {v : V} {p : PV} (r : Rep K F m v p) (h : flatP p = true) : flatV v = true := by
  cases r <;> first | rfl | cases h
theorem flats_rep : ∀ {vs : List V} {ps : List PV}, RepL K F m vs ps → ps.all flatP = true → vs.all flatV = true
  | _, _, .nil, _ => rfl
  | _, _, .cons h1 h2, h => by
    rw [List.all_cons, Bool.and_eq_true] at h ⊢
    exact ⟨flat_rep h1 h.1, flats_rep h2 h.2⟩
theorem eqF_rep {x y : V} {p q : PV} (r : Rep K F m x p) (r' : Rep K F m y q) (hp : flatP p = true) (hq : flatP q = true) : eqV x y = eqF p q := by
  cases r <;> first | (cases hp; done) | (cases r' <;> first | (cases hq; done) | rfl)
theorem any_rep {x : V} {p : PV} (r : Rep K F m x p) (hp : flatP p = true) : ∀ {vs : List V} {ps : List PV}, RepL K F m vs ps → ps.all flatP = true → inV x vs = ps.any fun y => eqF y p
  | _, _, .nil, _ => rfl
  | _, _, .cons h1 h2, h => by
    rw [List.all_cons, Bool.and_eq_true] at h
    unfold inV
    rw [List.any_cons, List.any_cons, eqF_rep h1 r h.1 hp]
    have := any_rep r hp h2 h.2
    unfold inV at this
    rw [this]
theorem DGet_rep (R : R0 K mg lk F m S H) {x y : V} {p : PV} {kvs : List (Key × PV)} {k : Key} (rx : Rep K F m x (.dk kvs)) (ry : Rep K F m y p) (h : keyP p = some k) :
    ∃ a o, x = .ref a ∧ DGet H a y o ∧ o.isSome = (getKV kvs k).isSome ∧ (∀ q, getKV kvs k = some q → ∃ v, o = some v ∧ Rep K F m v q) ∧ ((getKV kvs k) = none → o = none) := by
  cases rx with
  | dk hf r =>
    rename_i a vs
    have e := key_rep ry h
    subst e
    refine ⟨a, valV vs k, rfl, .inl ⟨vs, k, (R.sub _ _ hf).rd, rfl, rfl⟩, ?_, fun q hq => ?_, fun hq => ?_⟩
    · rcases r.get k with ⟨v, q, h1, h2, _⟩ | ⟨h1, h2⟩ <;> rw [h1, h2] <;> rfl
    · rcases r.get k with ⟨v, q', h1, h2, h3⟩ | ⟨h1, h2⟩
      · rw [hq] at h2; cases h2; exact ⟨v, h1, h3⟩
      · rw [hq] at h2; cases h2
    · rcases r.get k with ⟨v, q', h1, h2, h3⟩ | ⟨h1, h2⟩
      · rw [hq] at h2; cases h2
      · exact h1
theorem DGetT_rep (R : R0 K mg lk F m S H) {x y : V} {ps : List PV} {kvs : List (List Key × PV)} {k : List Key} (rx : Rep K F m x (.dt kvs)) (ry : Rep K F m y (.tup ps)) (h : keysP ps = some k) :
    ∃ a o, x = .ref a ∧ DGet H a y o ∧ o.isSome = (getKV kvs k).isSome ∧ (∀ q, getKV kvs k = some q → ∃ v, o = some v ∧ Rep K F m v q) ∧ ((getKV kvs k) = none → o = none) := by
  cases rx with
  | dt hf r =>
    rename_i a vs
    cases ry with
    | tup hg rl =>
      rename_i b ws
      have e := keys_rep rl h
      subst e
      refine ⟨a, valV vs k, rfl, .inr ⟨vs, k, b, (R.sub _ _ hf).rd, rfl, (R.sub _ _ hg).tup, rfl⟩, ?_, fun q hq => ?_, fun hq => ?_⟩
      · rcases r.get k with ⟨v, q, h1, h2, _⟩ | ⟨h1, h2⟩ <;> rw [h1, h2] <;> rfl
      · rcases r.get k with ⟨v, q', h1, h2, h3⟩ | ⟨h1, h2⟩
        · rw [hq] at h2; cases h2; exact ⟨v, h1, h3⟩
        · rw [hq] at h2; cases h2
      · rcases r.get k with ⟨v, q', h1, h2, h3⟩ | ⟨h1, h2⟩
        · rw [hq] at h2; cases h2
        · exact h1
end
section
variable {k : Nat} {X : Cx}
theorem op_dIn (hu : X.A.units + 1 < cLine) : OpR X (compareOp .In) (fun x y H Q => ∃ a o, y = .ref a ∧ DGet H a x o ∧ Q (.bl o.isSome) H) := by
  intro pins s σ H x y v u Q I rx ry h
  obtain ⟨a, o, rfl, g, q⟩ := h
  cases ry
  exact d_in hu I g rx fun s' I' => ⟨.bl _, H, I', rfl, q⟩
theorem op_dNotIn (hu : X.A.units + 1 < cLine) : OpR X (compareOp .NotIn) (fun x y H Q => ∃ a o, y = .ref a ∧ DGet H a x o ∧ Q (.bl (!o.isSome)) H) := by
  intro pins s σ H x y v u Q I rx ry h
  obtain ⟨a, o, rfl, g, q⟩ := h
  cases ry
  exact d_notIn hu I g rx fun s' I' => ⟨.bl _, H, I', rfl, q⟩
theorem room65 (hr : Room k X.A) : X.A.units + 65 < cLine := by have := hr.un; omega
theorem o_in (hr : Room k X.A) : O2 X (compareOp .In) inP := by
  refine ⟨_, op_in_seq.or ((op_inD (room65 hr)).or (op_dIn (hu_of hr))), fun lk F m S H x y p q res Q R rx ry h yl => ?_⟩
  unfold inP at h
  obtain ⟨b, hb, rfl⟩ := Option.map_eq_some_iff.mp h
  have q := yl.here (.bl b)
  unfold memP at hb
  split at hb
  · split at hb
    · rename_i hh
      rw [Bool.and_eq_true] at hh
      cases hb
      cases ry with
      | tup hf r =>
        refine .inl ⟨_, _, rfl, .inr (SqT.of (R.sub _ _ hf).tup), flat_rep rx hh.1, flats_rep r hh.2, ?_⟩
        rw [if_neg Bool.false_ne_true, any_rep rx hh.1 r hh.2]
        exact q
    · cases hb
  · split at hb
    · rename_i hh
      rw [Bool.and_eq_true] at hh
      cases hb
      cases ry with
      | ftp hf e1 e2 r =>
        refine .inl ⟨_, _, rfl, .inr (ftp_sq R hf), flat_rep rx hh.1, flats_rep r hh.2, ?_⟩
        rw [if_neg Bool.false_ne_true, any_rep rx hh.1 r hh.2]
        exact q
    · cases hb
  · split at hb
    · rename_i d ds h1 h2
      split at hb
      · rename_i hh
        cases hb
        cases ry with
        | lst hf r =>
          exact .inr (.inl ⟨d, ds, rep_dp R rx h1, .lst (SqL.of (R.sub _ _ hf).lst) (rep_dps R r h2), hh.1, hh.2, q⟩)
      · cases hb
    · cases hb
  · obtain ⟨kk, hk, rfl⟩ := Option.map_eq_some_iff.mp hb
    obtain ⟨a, o, e, g, e2, _⟩ := DGet_rep R ry rx hk
    exact .inr (.inr ⟨a, o, e, g, by rw [e2]; exact q⟩)
  · split at hb
    · obtain ⟨kk, hk, rfl⟩ := Option.map_eq_some_iff.mp hb
      obtain ⟨a, o, e, g, e2, _⟩ := DGetT_rep R ry rx hk
      exact .inr (.inr ⟨a, o, e, g, by rw [e2]; exact q⟩)
    · cases hb
  · cases hb
end

/-! ### subscripts -/
def ixP : G2 := fun S p q => match p, q with
  | .tup xs, .int i => atI xs i
  | .lst xs, .int i => atI xs i
  | .rol xs, .int i => atI xs i
  | .ftp xs, .int i => atI xs i
  | .str x, .int i => if x.length ≤ sizeLine then (atI x.cps.toList i).map fun c => .str ⟨#[c]⟩ else none
  | .ref n, .int i => match S[n]? with
    | some (.lst xs) => atI xs i
    | _ => none
  | .dk kvs, q => (keyP q).bind fun k => getKV kvs k
  | .dt kvs, .tup ks => (keysP ks).bind fun k => getKV kvs k
  | _, _ => none
section
variable {K : PySem.W.Frag} {mg : Str → Option Value} {lk : List Addr} {F H : Hp} {m : List Addr} {S : Stor}
theorem atI_rep {vs : List V} {ps : List PV} {i : Int} {p : PV} (r : RepL K F m vs ps) (h : atI ps i = some p) : ∃ v, atI vs i = some v ∧ Rep K F m v p := by
  unfold atI at h ⊢
  rw [r.length]
  cases e : ixN ps.length i with
  | none => rw [e] at h; cases h
  | some j =>
    rw [e] at h
    exact r.get h
theorem rol_sq (R : R0 K mg lk F m S H) {a : Addr} {vs : List V} (hf : SqL K F a vs) : SqL K H a vs := by
  rcases hf with (hf | ⟨ob, hf⟩) | hf
  · exact SqL.of (R.sub _ _ hf).lst
  · exact .inl (.inr ⟨ob, by rcases R.sub _ _ hf with z | ⟨_, z, _⟩; exact z; exact z.elim⟩)
  · exact .inr hf
end
section
variable {k : Nat} {X : Cx} {c : Cfg} {a b : Expr} {da db : DE} {pos : Pos}
theorem ix_dict (hu : X.A.units + 1 < cLine) : IxR X (fun x y H Q => ∃ a v, x = .ref a ∧ DGet H a y (some v) ∧ Q v H) := by
  intro value slice pins s σ H x y v u Q I rx ry h hs
  obtain ⟨a, z, rfl, g, q⟩ := h
  cases rx
  have hT := dict_typeIs I g
  unfold subscriptTail
  refine wpAny_bind ?_
  rw [getitemInPython_of_ne hT.not_modules]
  refine wpAny_bind (wpAny_specialOf hT PySem.F.slot_dict_getitem.lookup ?_)
  have fin : wpAny (model X.prog X.w) X.A (subscripted slice false (.ref a) u) (fun r s₃ => wpAny (model X.prog X.w) X.A (letTemporaryGo value (.ref a) r >>= fun _ => pure r) (EP X pins σ Q) X.xe s₃) X.xe s := by
    rw [hs]
    refine wpAny_operating (wpAny_mono (d_getItem (Q := EP X pins σ Q) hu I g ry fun w' s' I' r' => ⟨z, H, I', r', q⟩) (fun r s₃ h₃ => wpAny_bind (wpAny_letTemporaryGo (wpAny_pure h₃))) fun _ _ x => x)
  first
    | exact wpAny_pure (wpAny_bind fin)
    | exact wpAny_bind (wpAny_pure (wpAny_bind fin))
    | exact wpAny_bind fin
abbrev rIxP (K : PySem.W.Frag) : R2 := fun x y H Q => rIx K x y H Q ∨ ∃ a v, x = .ref a ∧ DGet H a y (some v) ∧ Q v H
theorem s_ix : S2 X (rIxP X.K) ixP := by
  intro lk F m S H x y p q res Q R rx ry h yl
  unfold ixP at h
  split at h
  · cases ry; cases rx with
    | tup hf r =>
      obtain ⟨v, h1, h2⟩ := atI_rep r h
      exact .inl (.inr (.inl ⟨_, _, _, v, rfl, rfl, SqT.of (R.sub _ _ hf).tup, h1, yl.here h2⟩))
  · cases ry; cases rx with
    | lst hf r =>
      obtain ⟨v, h1, h2⟩ := atI_rep r h
      exact .inl (.inl ⟨_, _, _, v, rfl, rfl, SqL.of (R.sub _ _ hf).lst, h1, yl.here h2⟩)
  · cases ry; cases rx with
    | rol hf r =>
      obtain ⟨v, h1, h2⟩ := atI_rep r h
      exact .inl (.inl ⟨_, _, _, v, rfl, rfl, rol_sq R hf, h1, yl.here h2⟩)
  · cases ry; cases rx with
    | ftp hf e1 e2 r =>
      obtain ⟨v, h1, h2⟩ := atI_rep r h
      exact .inl (.inr (.inl ⟨_, _, _, v, rfl, rfl, ftp_sq R hf, h1, yl.here h2⟩))
  · split at h
    · rename_i hl
      obtain ⟨z, hz, rfl⟩ := Option.map_eq_some_iff.mp h
      cases ry; cases rx
      exact .inl (.inr (.inr ⟨_, _, z, rfl, rfl, hl, hz, yl.here (.str _)⟩))
    · cases h
  · split at h
    · rename_i xs hs
      cases ry; cases rx with
      | ref hm =>
        obtain ⟨vs, h1, h2⟩ := R.sto _ _ _ hm hs
        obtain ⟨v, h3, h4⟩ := atI_rep h2 h
        exact .inl (.inl ⟨_, _, _, v, rfl, rfl, SqL.of h1, h3, yl.here h4⟩)
    · cases h
  · obtain ⟨kk, hk, hg⟩ := Option.bind_eq_some_iff.mp h
    obtain ⟨a, o, e, g, _, e2, _⟩ := DGet_rep R rx ry hk
    obtain ⟨v, rfl, rv⟩ := e2 _ hg
    exact .inr ⟨a, v, e, g, yl.here rv⟩
  · obtain ⟨kk, hk, hg⟩ := Option.bind_eq_some_iff.mp h
    obtain ⟨a, o, e, g, _, e2, _⟩ := DGetT_rep R rx ry hk
    obtain ⟨v, rfl, rv⟩ := e2 _ hg
    exact .inr ⟨a, v, e, g, yl.here rv⟩
  · cases h
theorem r_ix (hX : XOk k X c) (ha : PE X a (rE c da)) (hb : PE X b (rE c db)) (hs : PlainIx b := by intro _ _; rfl) : PE X (.Subscript a b pos) (rE c (d2 ixP da db)) :=
  PE.weak (pe_ix (ix_seq.or (ix_dict (hu_of hX.room))) ha hb hs) fun _ _ _ h => rd_two hX s_ix h
end
end Dn
end
section
set_option Elab.async false
set_option linter.all false
set_option maxRecDepth 100000
set_option maxHeartbeats 1000000
namespace Dn
open PySem L2 PySem.Spec PyProof.Rows

abbrev GN := Stor → List PV → Option PV
def dN (g : GN) (dr : Den (List PV)) : DE := dr.bind fun ps => Den.getS.bind fun S => Den.opt (g S ps)
def SN (X : Cx) (r : List V → Hp → VK → Prop) (g : GN) : Prop := ∀ (lk : List Addr) (F : Hp) (m : List Addr) (S : Stor) (H : Hp) (vs : List V) (ps : List PV) (res : PV) (Q : VK),
  R0 X.K X.mg lk F m S H → RepL X.K F m vs ps → g S ps = some res → Yl X.K F m H res Q → r vs H Q
def CN (X : Cx) (f : Value) (g : GN) : Prop := ∃ r, CallR X f r ∧ SN X r g
section
variable {k : Nat} {X : Cx} {c : Cfg} {e : Expr} {es : List Expr} {dr : Den (List PV)} {p pos : Pos} {x : Str} {g : GN} {id T : String}
theorem rd_n {r : List V → Hp → VK → Prop} (hX : XOk k X c) (hs : SN X r g) {σ : L2.St} {H : Hp} {Q : VK} (h : rE c (dN g dr) σ H Q) : rA c dr σ H fun vs H1 => r vs H1 Q := by
  obtain ⟨K, mg, F0, m0, H0, lk, W⟩ := c
  obtain rfl := hX.K
  obtain rfl := hX.mg
  obtain ⟨F, m, h⟩ := h
  refine (rd_bind h).imp fun v H1 ⟨F1, m1, p, s1, p1, q1, h⟩ => ?_
  obtain ⟨env, S, R, h⟩ := h.getS
  obtain ⟨res, e, h⟩ := h.opt
  exact hs _ _ _ _ _ _ _ _ _ R.r0 q1 e fun F' H' v x rv => h.end_ x rv
theorem r_callB (hX : XOk k X c) (o : CN X (.builtin id) g) (hg : Gl X x) (hm : X.mg x = none) (hv : bootBuiltins x = some (.builtin id)) (ha : PA X (e :: es) (rA c dr)) (hn : x ≠ "__name__" := by decide) (hdb : (x == ("__debug__" : Str)) = false := by decide)
    (he : starEach (e :: es) X.env = (false, eval e X.env) :: starEach es X.env := by rfl) (hpl : (backTo pos (starEach es X.env)).any (·.1) = false := by rfl) : PE X (.Call (.Name x p) (e :: es) [] pos) (rE c (dN g dr)) :=
  let ⟨_, o1, o2⟩ := o; PE.weak (pe_callB o1 hg hm hv ha hn hdb he hpl) fun _ _ _ h => rd_n hX o2 h
theorem r_callTy (hX : XOk k X c) (o : CN X (.type T) g) (hg : Gl X x) (hm : X.mg x = none) (hv : bootBuiltins x = some (.type T)) (ha : PA X (e :: es) (rA c dr)) (hn : x ≠ "__name__" := by decide) (hdb : (x == ("__debug__" : Str)) = false := by decide)
    (he : starEach (e :: es) X.env = (false, eval e X.env) :: starEach es X.env := by rfl) (hpl : (backTo pos (starEach es X.env)).any (·.1) = false := by rfl) : PE X (.Call (.Name x p) (e :: es) [] pos) (rE c (dN g dr)) :=
  let ⟨_, o1, o2⟩ := o; PE.weak (pe_callTy o1 hg hm hv ha hn hdb he hpl) fun _ _ _ h => rd_n hX o2 h
end

/-! ### the built-ins -/
theorem repl1 {K : PySem.W.Frag} {F : Hp} {m : List Addr} {vs : List V} {p : PV} (r : RepL K F m vs [p]) : ∃ v, vs = [v] ∧ Rep K F m v p := by
  cases r with
  | cons a b => cases b; exact ⟨_, rfl, a⟩
def lenP : GN := fun S ps => match ps with
  | [.tup xs] => some (.int xs.length)
  | [.lst xs] => some (.int xs.length)
  | [.rol xs] => some (.int xs.length)
  | [.ftp xs] => some (.int xs.length)
  | [.str x] => if x.length ≤ sizeLine then some (.int x.length) else none
  | [.ref n] => match S[n]? with
    | some (.lst xs) => some (.int xs.length)
    | _ => none
  | _ => none
def absP : GN := fun _ ps => match ps with
  | [.int i] => some (.int (if i < 0 then -i else i))
  | _ => none
def intP : GN := fun _ ps => match ps with
  | [.int i] => some (.int i)
  | [.bl b] => some (.int (if b then 1 else 0))
  | _ => none
def blsP : List PV → Option (List Bool)
  | [] => some []
  | .bl b :: ps => (blsP ps).map (b :: ·)
  | _ => none
def intsP : List PV → Option (List Int)
  | [] => some []
  | .int b :: ps => (intsP ps).map (b :: ·)
  | _ => none
def allP : GN := fun _ ps => match ps with
  | [.lst xs] => (blsP xs).map fun bs => .bl (bs.all id)
  | _ => none
def anyP : GN := fun _ ps => match ps with
  | [.lst xs] => (blsP xs).map fun bs => .bl (bs.any id)
  | _ => none
def maxI : List Int → Int
  | [] => 0
  | [a] => a
  | a :: r => if maxI r ≤ a then a else maxI r
def max1P : GN := fun _ ps => match ps with
  | [.lst xs] => (intsP xs).bind fun bs => if 0 < bs.length then some (.int (maxI bs)) else none
  | _ => none
def listP : GN := fun S ps => match ps with
  | [.tup xs] => some (.lst xs)
  | [.lst xs] => some (.lst xs)
  | [.rol xs] => some (.lst xs)
  | [.ftp xs] => some (.lst xs)
  | _ => none
def tupleP : GN := fun S ps => match ps with
  | [.tup xs] => some (.tup xs)
  | [.ftp xs] => some (.ftp xs)
  | [.lst xs] => some (.tup xs)
  | [.ref n] => match S[n]? with
    | some (.lst xs) => some (.tup xs)
    | _ => none
  | _ => none
section
variable {K : PySem.W.Frag} {F : Hp} {m : List Addr}
theorem bls_rep : ∀ {vs : List V} {ps : List PV} {bs : List Bool}, RepL K F m vs ps → blsP ps = some bs → vs = bs.map V.bl
  | _, _, _, .nil, h => by cases h; rfl
  | _, _, _, .cons (p := p) (ps := ps) h1 h2, h => by
    cases h1 with
    | bl b =>
      simp only [blsP] at h
      obtain ⟨r, hr, rfl⟩ := Option.map_eq_some_iff.mp h
      rw [List.map_cons, bls_rep h2 hr]
    | _ => cases h
theorem ints_rep : ∀ {vs : List V} {ps : List PV} {bs : List Int}, RepL K F m vs ps → intsP ps = some bs → vs = bs.map V.int
  | _, _, _, .nil, h => by cases h; rfl
  | _, _, _, .cons (p := p) (ps := ps) h1 h2, h => by
    cases h1 with
    | int b =>
      simp only [intsP] at h
      obtain ⟨r, hr, rfl⟩ := Option.map_eq_some_iff.mp h
      rw [List.map_cons, ints_rep h2 hr]
    | _ => cases h
end
theorem maxI_mem : ∀ (l : List Int), 0 < l.length → maxI l ∈ l
  | [], h => absurd h (by decide)
  | [a], _ => by simp [maxI]
  | a :: b :: r, _ => by
    have ih := maxI_mem (b :: r) (by simp)
    simp only [maxI]
    split
    · exact List.mem_cons_self
    · exact List.mem_cons_of_mem _ ih
theorem maxI_ge : ∀ (l : List Int), ∀ y ∈ l, y ≤ maxI l
  | [], y, h => by cases h
  | [a], y, h => by
    have : y = a := by simpa using h
    simp [maxI, this]
  | a :: b :: r, y, h => by
    have ih := maxI_ge (b :: r)
    simp only [maxI]
    rcases List.mem_cons.mp h with rfl | h
    · split <;> omega
    · have := ih y h
      split <;> omega
section
variable {X : Cx}
theorem b_len : CN X (.builtin "len") lenP := by
  refine ⟨_, call_len_seq.or call_len_str, fun lk F m S H vs ps res Q R r h yl => ?_⟩
  unfold lenP at h
  split at h
  · cases h; obtain ⟨v, rfl, q⟩ := repl1 r; clear r; cases q with
    | tup hf r => exact .inl ⟨_, _, rfl, .inr (SqT.of (R.sub _ _ hf).tup), by rw [r.length]; exact yl.here (.int _)⟩
  · cases h; obtain ⟨v, rfl, q⟩ := repl1 r; clear r; cases q with
    | lst hf r => exact .inl ⟨_, _, rfl, .inl (SqL.of (R.sub _ _ hf).lst), by rw [r.length]; exact yl.here (.int _)⟩
  · cases h; obtain ⟨v, rfl, q⟩ := repl1 r; clear r; cases q with
    | rol hf r => exact .inl ⟨_, _, rfl, .inl (rol_sq R hf), by rw [r.length]; exact yl.here (.int _)⟩
  · cases h; obtain ⟨v, rfl, q⟩ := repl1 r; clear r; cases q with
    | ftp hf e1 e2 r => exact .inl ⟨_, _, rfl, .inr (ftp_sq R hf), by rw [r.length]; exact yl.here (.int _)⟩
  · split at h
    · rename_i hl
      cases h; obtain ⟨v, rfl, q⟩ := repl1 r; clear r; cases q with
      | str x => exact .inr ⟨_, rfl, hl, yl.here (.int _)⟩
    · cases h
  · split at h
    · rename_i xs hs
      cases h; obtain ⟨v, rfl, q⟩ := repl1 r; clear r; cases q with
      | ref hm =>
        obtain ⟨vs, h1, h2⟩ := R.sto _ _ _ hm hs
        exact .inl ⟨_, _, rfl, .inl (SqL.of h1), by rw [h2.length]; exact yl.here (.int _)⟩
    · cases h
  · cases h
theorem b_abs : CN X (.builtin "abs") absP := by
  refine ⟨_, call_abs, fun lk F m S H vs ps res Q R r h yl => ?_⟩
  unfold absP at h
  split at h
  · cases h; obtain ⟨v, rfl, q⟩ := repl1 r; clear r; cases q; exact ⟨_, rfl, yl.here (.int _)⟩
  · cases h
theorem b_int : CN X (.type "int") intP := by
  refine ⟨_, call_int1, fun lk F m S H vs ps res Q R r h yl => ?_⟩
  unfold intP at h
  split at h
  · cases h; obtain ⟨v, rfl, q⟩ := repl1 r; clear r; cases q; exact .inl ⟨_, rfl, yl.here (.int _)⟩
  · cases h; obtain ⟨v, rfl, q⟩ := repl1 r; clear r; cases q; exact .inr ⟨_, rfl, yl.here (.int _)⟩
  · cases h
theorem b_all (hc : X.calm = true) : CN X (.builtin "all") allP := by
  refine ⟨_, cr_all hc, fun lk F m S H vs ps res Q R r h yl => ?_⟩
  unfold allP at h
  split at h
  · obtain ⟨bs, hb, rfl⟩ := Option.map_eq_some_iff.mp h
    obtain ⟨v, rfl, q⟩ := repl1 r; clear r
    cases q with
    | lst hf r => exact ⟨_, bs, rfl, by rw [← bls_rep r hb]; exact SqL.of (R.sub _ _ hf).lst, yl.here (.bl _)⟩
  · cases h
theorem b_max1 (hc : X.calm = true) : CN X (.builtin "max") max1P := by
  refine ⟨_, cr_max hc, fun lk F m S H vs ps res Q R r h yl => ?_⟩
  unfold max1P at h
  split at h
  · obtain ⟨bs, hb, h⟩ := Option.bind_eq_some_iff.mp h
    split at h
    · rename_i hl
      cases h
      obtain ⟨v, rfl, q⟩ := repl1 r; clear r
      cases q with
      | lst hf r =>
        refine ⟨_, bs, rfl, by rw [← ints_rep r hb]; exact SqL.of (R.sub _ _ hf).lst, hl, fun y hy hge => ?_⟩
        have e : y = maxI bs := by
          have h1 := maxI_ge bs y hy
          have h2 := hge _ (maxI_mem bs hl)
          omega
        rw [e]; exact yl.here (.int _)
    · cases h
  · cases h
theorem b_list : CN X (.type "list") listP := by
  refine ⟨_, call_list_of, fun lk F m S H vs ps res Q R r h yl => ?_⟩
  unfold listP at h
  split at h
  · cases h; obtain ⟨v, rfl, q⟩ := repl1 r; clear r; cases q with
    | tup hf r => exact ⟨_, _, rfl, .inr (SqT.of (R.sub _ _ hf).tup), fun l hl => yl.new R hl trivial fun s => .lst upd_same (r.mono s (List.prefix_refl _))⟩
  · cases h; obtain ⟨v, rfl, q⟩ := repl1 r; clear r; cases q with
    | lst hf r => exact ⟨_, _, rfl, .inl (SqL.of (R.sub _ _ hf).lst), fun l hl => yl.new R hl trivial fun s => .lst upd_same (r.mono s (List.prefix_refl _))⟩
  · cases h; obtain ⟨v, rfl, q⟩ := repl1 r; clear r; cases q with
    | rol hf r => exact ⟨_, _, rfl, .inl (rol_sq R hf), fun l hl => yl.new R hl trivial fun s => .lst upd_same (r.mono s (List.prefix_refl _))⟩
  · cases h; obtain ⟨v, rfl, q⟩ := repl1 r; clear r; cases q with
    | ftp hf e1 e2 r => exact ⟨_, _, rfl, .inr (ftp_sq R hf), fun l hl => yl.new R hl trivial fun s => .lst upd_same (r.mono s (List.prefix_refl _))⟩
  · cases h
theorem b_tuple : CN X (.type "tuple") tupleP := by
  refine ⟨_, call_tuple_of, fun lk F m S H vs ps res Q R r h yl => ?_⟩
  unfold tupleP at h
  split at h
  · cases h; obtain ⟨v, rfl, q⟩ := repl1 r; clear r; cases q with
    | tup hf r => exact ⟨_, _, rfl, .inr ⟨SqT.of (R.sub _ _ hf).tup, yl.here (.tup hf r)⟩⟩
  · cases h; obtain ⟨v, rfl, q⟩ := repl1 r; clear r; cases q with
    | ftp hf e1 e2 r => exact ⟨_, _, rfl, .inr ⟨ftp_sq R hf, yl.here (.ftp hf e1 e2 r)⟩⟩
  · cases h; obtain ⟨v, rfl, q⟩ := repl1 r; clear r; cases q with
    | lst hf r => exact ⟨_, _, rfl, .inl ⟨SqL.of (R.sub _ _ hf).lst, fun l hl => yl.new R hl trivial fun s => .tup upd_same (r.mono s (List.prefix_refl _))⟩⟩
  · split at h
    · rename_i xs hs
      cases h; obtain ⟨v, rfl, q⟩ := repl1 r; clear r; cases q with
      | ref hm =>
        obtain ⟨vs, h1, h2⟩ := R.sto _ _ _ hm hs
        exact ⟨_, _, rfl, .inl ⟨SqL.of h1, fun l hl => yl.new R hl trivial fun s => .tup upd_same (h2.mono s (List.prefix_refl _))⟩⟩
    · cases h
  · cases h
end

/-! ### isinstance of the built-in kinds -/
def isiP (T : String) : G1 := fun S p => match p with
  | .non => (kitB "NoneType" T).map .bl
  | .bl _ => (kitB "bool" T).map .bl
  | .int _ => (kitB "int" T).map .bl
  | .str _ => (kitB "str" T).map .bl
  | .tup _ => (kitB "tuple" T).map .bl
  | .lst _ => (kitB "list" T).map .bl
  | .rol _ => (kitB "list" T).map .bl
  | .ftp _ => (kitB "tuple" T).map .bl
  | .ref n => match S[n]? with
    | some (.lst _) => (kitB "list" T).map .bl
    | _ => none
  | _ => none
section
variable {k : Nat} {X : Cx} {c : Cfg} {e : Expr} {da : DE} {p p' pos : Pos} {x : Str} {T : String}
theorem s_isi : S1 X (fun x H Q => ∃ (t : Value) (b : Bool), TyX X.K H x t ∧ PySem.W.kitOne X.K t (.type T) = some b ∧ Q (.bl b) H) (isiP T) := by
  intro lk F m S H x p res Q R r h yl
  unfold isiP at h
  split at h
  · obtain ⟨b, hb, rfl⟩ := Option.map_eq_some_iff.mp h; cases r; exact ⟨_, b, .base .non, kit_ty hb, yl.here (.bl _)⟩
  · obtain ⟨b, hb, rfl⟩ := Option.map_eq_some_iff.mp h; cases r; exact ⟨_, b, .base (.bl _), kit_ty hb, yl.here (.bl _)⟩
  · obtain ⟨b, hb, rfl⟩ := Option.map_eq_some_iff.mp h; cases r; exact ⟨_, b, .base (.int _), kit_ty hb, yl.here (.bl _)⟩
  · obtain ⟨b, hb, rfl⟩ := Option.map_eq_some_iff.mp h; cases r; exact ⟨_, b, .base (.str _), kit_ty hb, yl.here (.bl _)⟩
  · obtain ⟨b, hb, rfl⟩ := Option.map_eq_some_iff.mp h; cases r with
    | tup hf r => exact ⟨_, b, .base (.tup (R.sub _ _ hf).tup), kit_ty hb, yl.here (.bl _)⟩
  · obtain ⟨b, hb, rfl⟩ := Option.map_eq_some_iff.mp h; cases r with
    | lst hf r => exact ⟨_, b, .base (.lst (R.sub _ _ hf).lst), kit_ty hb, yl.here (.bl _)⟩
  · obtain ⟨b, hb, rfl⟩ := Option.map_eq_some_iff.mp h; cases r with
    | rol hf r =>
      rcases rol_sq R hf with (hf | ⟨ob, hf⟩) | ⟨o, its, n, h1, h2, _⟩
      · exact ⟨_, b, .base (.lst hf), kit_ty hb, yl.here (.bl _)⟩
      · exact ⟨_, b, .base (.frz hf), kit_ty hb, yl.here (.bl _)⟩
      · exact ⟨_, b, .kList h1 h2, kit_ty hb, yl.here (.bl _)⟩
  · obtain ⟨b, hb, rfl⟩ := Option.map_eq_some_iff.mp h; cases r with
    | ftp hf e1 e2 r => exact ⟨_, b, .fTuple (ftp_h R hf), kit_ty hb, yl.here (.bl _)⟩
  · split at h
    · rename_i xs hs
      obtain ⟨b, hb, rfl⟩ := Option.map_eq_some_iff.mp h; cases r with
      | ref hm =>
        obtain ⟨vs, h1, h2⟩ := R.sto _ _ _ hm hs
        exact ⟨_, b, .base (.lst h1), kit_ty hb, yl.here (.bl _)⟩
    · cases h
  · cases h
theorem r_isi (hX : XOk k X c) (hg : Gl X "isinstance") (hm : X.mg "isinstance" = none) (hgT : Gl X x) (hmT : X.mg x = none) (hv : bootBuiltins x = some (.type T)) (ha : PE X e (rE c da)) (hn : x ≠ "__name__" := by decide) (hdb : (x == ("__debug__" : Str)) = false := by decide)
    (he1 : starEach [e, .Name x p'] X.env = (false, eval e X.env) :: starEach [.Name x p'] X.env := by rfl) (he2 : starEach [.Name x p'] X.env = (false, eval (.Name x p') X.env) :: starEach [] X.env := by rfl) (hpl : (backTo pos (starEach [.Name x p'] X.env)).any (·.1) = false := by rfl)
    : PE X (.Call (.Name "isinstance" p) [e, .Name x p'] [] pos) (rE c (d1 (isiP T) da)) := by
  refine PE.weak (pe_callB call_isi hg hm (by decide +kernel) (pa_cons ha (pa_cons (pe_bltn (v := .ty T) hgT hmT hv rfl hn hdb) pa_nil he2) he1) (by decide) (by decide) he1 hpl) fun σ H Q h => ?_
  refine (rd_one hX s_isi h).imp fun v H1 ⟨t, b, h1, h2, h3⟩ => ?_
  exact ⟨v, .ty T, t, .type T, b, rfl, .ty T, h1, h2, h3⟩
/-! ### list(range(n)), tuple(range(n)) -/
def rngPV (n : Int) : List PV := (List.range n.toNat).map fun i => .int (i : Nat)
def lrgP : G1 := fun _ p => match p with
  | .int n => if -1000000 ≤ n ∧ n ≤ 1000000 then some (.lst (rngPV n)) else none
  | _ => none
theorem rep_map {K : PySem.W.Frag} {F : Hp} {m : List Addr} {α : Type} {f : α → V} {g : α → PV} (h : ∀ a, Rep K F m (f a) (g a)) : ∀ l : List α, RepL K F m (l.map f) (l.map g)
  | [] => .nil
  | a :: l => .cons (h a) (rep_map h l)
theorem rng_rep {K : PySem.W.Frag} {F : Hp} {m : List Addr} (n : Int) : RepL K F m (rgV 0 n) (rngPV n) := by
  unfold rgV rngPV
  rw [Int.sub_zero]
  exact rep_map (fun a => by rw [Int.zero_add]; exact .int _) _
theorem r_lrg (hX : XOk k X c) (hg : Gl X "list") (hm : X.mg "list" = none) (hg2 : Gl X "range") (hm2 : X.mg "range" = none) (ha : PE X e (rE c da)) {pp : Pos}
    (na1 : starEach [e] X.env = (false, eval e X.env) :: starEach [] X.env := by rfl) (na2 : starEach [.Call (.Name "range" p') [e] [] pp] X.env = (false, eval (.Call (.Name "range" p') [e] [] pp) X.env) :: starEach [] X.env := by rfl) :
    PE X (.Call (.Name "list" p) [.Call (.Name "range" p') [e] [] pp] [] pos) (rE c (d1 lrgP da)) := by
  refine PE.weak (pe_listRg hX.calm hg hm (prg_1 hg2 hm2 ha na1) na2) fun σ H Q h => ?_
  refine (rd_one (r := fun x H1 Q => ∃ n, x = V.int n ∧ RgOk 0 n ∧ ∀ q, H1 q = none → Q (.ref q) (upd H1 q (.lst (rgV 0 n)))) hX ?_ h).imp fun v H1 ⟨n, h1, h2, h3⟩ => ⟨n, h1, h2, h3⟩
  intro lk F m S H x p res Q R r h yl
  unfold lrgP at h
  split at h
  · split at h
    · rename_i hh
      cases h
      cases r
      exact ⟨_, rfl, ⟨by omega, by omega, by omega, by omega, by omega⟩, fun q hq => yl.new R hq trivial fun s => .lst upd_same (rng_rep _)⟩
    · cases h
  · cases h
end
end Dn
end
section
set_option Elab.async false
set_option linter.all false
set_option maxRecDepth 100000
set_option maxHeartbeats 1000000
namespace Dn
open PySem L2 PySem.Spec PyProof.Rows
abbrev St := L2.St

inductive OutS where
  | st
  | nx (e : DEnv) (s : Stor)
  | bk (e : DEnv) (s : Stor)
  | ct (e : DEnv) (s : Stor)
  | rt (p : PV) (e : DEnv) (s : Stor)
  | ex (x : Exc) (e : DEnv) (s : Stor)
abbrev DS := DEnv → Stor → OutS

def pS (c : Cfg) (F : Hp) (m : List Addr) (D : Ends) : OutS → Prop
  | .st => False
  | .nx env S => ∀ F' m' σ H, Rel c F' m' σ env S H → Same F F' → m <+: m' → D.nx σ H
  | .bk env S => ∀ F' m' σ H, Rel c F' m' σ env S H → Same F F' → m <+: m' → D.bk σ H
  | .ct env S => ∀ F' m' σ H, Rel c F' m' σ env S H → Same F F' → m <+: m' → D.ct σ H
  | .rt p env S => ∀ F' m' σ H v, Rel c F' m' σ env S H → Same F F' → m <+: m' → Rep c.K F' m' v p → D.rt v H
  | .ex x env S => ∀ F' m' σ H cls d, Rel c F' m' σ env S H → Same F F' → m <+: m' → ExR c F' m' H x cls d → c.W cls d σ H
def rSAt (c : Cfg) (d : DS) (F : Hp) (m : List Addr) (D : Ends) (σ : St) (H : Hp) : Prop := ∃ env S, Rel c F m σ env S H ∧ pS c F m D (d env S)
def rS (c : Cfg) (d : DS) : TS := fun D σ H => ∃ F m, rSAt c d F m D σ H
theorem pS.mono {c : Cfg} {F F1 : Hp} {m m1 : List Addr} {D : Ends} {o : OutS} (h : pS c F m D o) (hs : Same F F1) (hm : m <+: m1) : pS c F1 m1 D o := by
  cases o with
  | st => exact h
  | nx env S => exact fun F' m' σ H r s1 p1 => h F' m' σ H r (hs.trans s1) (hm.trans p1)
  | bk env S => exact fun F' m' σ H r s1 p1 => h F' m' σ H r (hs.trans s1) (hm.trans p1)
  | ct env S => exact fun F' m' σ H r s1 p1 => h F' m' σ H r (hs.trans s1) (hm.trans p1)
  | rt p env S => exact fun F' m' σ H v r s1 p1 q => h F' m' σ H v r (hs.trans s1) (hm.trans p1) q
  | ex x env S => exact fun F' m' σ H cls d r s1 p1 q => h F' m' σ H cls d r (hs.trans s1) (hm.trans p1) q
theorem pS.imp {c : Cfg} {F : Hp} {m : List Addr} {D D' : Ends} {o : OutS} (h : pS c F m D o) (h1 : ∀ σ H, D.nx σ H → D'.nx σ H) (h2 : ∀ σ H, D.bk σ H → D'.bk σ H) (h3 : ∀ σ H, D.ct σ H → D'.ct σ H) (h4 : ∀ v H, D.rt v H → D'.rt v H) : pS c F m D' o := by
  cases o with
  | st => exact h
  | nx env S => exact fun F' m' σ H r s1 p1 => h1 _ _ (h F' m' σ H r s1 p1)
  | bk env S => exact fun F' m' σ H r s1 p1 => h2 _ _ (h F' m' σ H r s1 p1)
  | ct env S => exact fun F' m' σ H r s1 p1 => h3 _ _ (h F' m' σ H r s1 p1)
  | rt p env S => exact fun F' m' σ H v r s1 p1 q => h4 _ _ (h F' m' σ H v r s1 p1 q)
  | ex x env S => exact fun F' m' σ H cls d r s1 p1 q => h F' m' σ H cls d r s1 p1 q
theorem rSAt.rS {c : Cfg} {d : DS} {F : Hp} {m : List Addr} {D : Ends} {σ : St} {H : Hp} (h : rSAt c d F m D σ H) : rS c d D σ H := ⟨F, m, h⟩

def sE {α : Type} (d : Den α) (k : α → DS) : DS := fun e s => match d e s with
  | .st => .st
  | .ok a e s => k a e s
  | .ex x e s => .ex x e s
theorem sE_of {β α : Type} {R : RP β α} {c : Cfg} {d : Den α} {k : α → DS} {F : Hp} {m : List Addr} {D : Ends} {σ : St} {H : Hp} (h : rSAt c (sE d k) F m D σ H) :
    rd R c d σ H fun v H1 => ∃ F1 m1 p, Same F F1 ∧ m <+: m1 ∧ R c.K F1 m1 v p ∧ rSAt c (k p) F1 m1 D σ H1 := by
  obtain ⟨env, S, r, h⟩ := h
  refine ⟨F, m, env, S, r, ?_⟩
  unfold sE at h
  cases e : d env S with
  | st => rw [e] at h; exact h
  | ok p env1 S1 =>
    rw [e] at h
    exact fun F1 m1 H1 v r1 s1 p1 q1 => ⟨F1, m1, p, s1, p1, q1, env1, S1, r1, pS.mono h s1 p1⟩
  | ex x env1 S1 =>
    rw [e] at h
    exact fun F1 m1 H1 cls d r1 s1 p1 q1 => h F1 m1 σ H1 cls d r1 s1 p1 q1

def sNext : DS := fun e s => .nx e s
def sSeq (a b : DS) : DS := fun e s => match a e s with
  | .nx e s => b e s
  | o => o
def sBreak : DS := fun e s => .bk e s
def sCont : DS := fun e s => .ct e s
def sRet (d : DE) : DS := sE d fun p e s => .rt p e s
def sRetN : DS := fun e s => .rt .non e s
def sExpr (d : DE) : DS := sE d fun _ e s => .nx e s
def sIf (t : Den Bool) (a b : DS) : DS := sE t fun k => if k then a else b
def sSet (i : Nat) (d : DE) : DS := sE d fun p e s => .nx (e.set i (.v p)) s

section
variable {c : Cfg} {F H : Hp} {m : List Addr} {σ : St} {env : DEnv} {S : Stor} {i : Nat}
theorem Rel.set_v {v : V} {p : PV} (r : Rel c F m σ env S H) (q : Rep c.K F m v p) (i : Nat) : Rel c F m (σ.set i (some v)) (env.set i (.v p)) S H where
  r0 := r.r0
  len := by rw [List.length_set, List.length_set]; exact r.len
  slot := fun j s e => by
    rcases set_get e with ⟨rfl, rfl⟩ | ⟨ne, e⟩
    · have : j < σ.length := by rw [r.len]; have := (List.getElem?_eq_some_iff.mp e).1; rwa [List.length_set] at this
      exact ⟨v, by rw [List.getElem?_set_self this], q⟩
    · rw [List.getElem?_set_ne (Ne.symm ne)]
      exact r.slot j s e
  ownd := fun j k a h1 h2 => by
    obtain ⟨s1, e1, o1, a1⟩ := h1
    obtain ⟨s2, e2, o2, a2⟩ := h2
    rcases set_get e1 with ⟨rfl, rfl⟩ | ⟨n1, e1⟩
    · cases o1
    rcases set_get e2 with ⟨rfl, rfl⟩ | ⟨n2, e2⟩
    · cases o2
    rw [List.getElem?_set_ne (Ne.symm n1)] at a1
    rw [List.getElem?_set_ne (Ne.symm n2)] at a2
    exact r.ownd j k a ⟨s1, e1, o1, a1⟩ ⟨s2, e2, o2, a2⟩
  ownf := fun j a h1 => by
    obtain ⟨s1, e1, o1, a1⟩ := h1
    rcases set_get e1 with ⟨rfl, rfl⟩ | ⟨n1, e1⟩
    · cases o1
    rw [List.getElem?_set_ne (Ne.symm n1)] at a1
    exact r.ownf j a ⟨s1, e1, o1, a1⟩
  old := r.old
  newm := r.newm
  pre := r.pre
  frn := r.frn
  f0 := r.f0
  lkh := r.lkh
/-- a slot comes to own what is new -/
theorem Rel.set_own {s : Slot} {a : Addr} (r : Rel c F m σ env S H) (i : Nat) (hF : F a = none) (hm : a ∉ m) (h0 : c.H0 a = none) (hn : ∀ j, ¬ Own env σ j a) (q : SlotR c.K F m H (some (some (.ref a))) s) : Rel c F m (σ.set i (some (.ref a))) (env.set i s) S H where
  r0 := r.r0
  len := by rw [List.length_set, List.length_set]; exact r.len
  slot := fun j t e => by
    rcases set_get e with ⟨rfl, rfl⟩ | ⟨ne, e⟩
    · have : j < σ.length := by rw [r.len]; have := (List.getElem?_eq_some_iff.mp e).1; rwa [List.length_set] at this
      rw [List.getElem?_set_self this]
      exact q
    · rw [List.getElem?_set_ne (Ne.symm ne)]
      exact r.slot j t e
  ownd := fun j k b h1 h2 => by
    obtain ⟨s1, e1, o1, a1⟩ := h1
    obtain ⟨s2, e2, o2, a2⟩ := h2
    have hl : ∀ {j : Nat} {t : Slot}, (env.set i s)[j]? = some t → j < σ.length := fun e => by rw [r.len]; have := (List.getElem?_eq_some_iff.mp e).1; rwa [List.length_set] at this
    rcases set_get e1 with ⟨rfl, rfl⟩ | ⟨n1, e1'⟩
    · rcases set_get e2 with ⟨rfl, rfl⟩ | ⟨n2, e2'⟩
      · rfl
      · rw [List.getElem?_set_self (hl e1)] at a1
        cases a1
        rw [List.getElem?_set_ne (Ne.symm n2)] at a2
        exact absurd ⟨s2, e2', o2, a2⟩ (hn k)
    · rw [List.getElem?_set_ne (Ne.symm n1)] at a1
      rcases set_get e2 with ⟨rfl, rfl⟩ | ⟨n2, e2'⟩
      · rw [List.getElem?_set_self (hl e2)] at a2
        cases a2
        exact absurd ⟨s1, e1', o1, a1⟩ (hn j)
      · rw [List.getElem?_set_ne (Ne.symm n2)] at a2
        exact r.ownd j k b ⟨s1, e1', o1, a1⟩ ⟨s2, e2', o2, a2⟩
  ownf := fun j b h1 => by
    obtain ⟨s1, e1, o1, a1⟩ := h1
    rcases set_get e1 with ⟨rfl, rfl⟩ | ⟨n1, e1'⟩
    · rw [List.getElem?_set_self (by rw [r.len]; have := (List.getElem?_eq_some_iff.mp e1).1; rwa [List.length_set] at this)] at a1
      cases a1
      exact ⟨hF, hm, h0⟩
    · rw [List.getElem?_set_ne (Ne.symm n1)] at a1
      exact r.ownf j b ⟨s1, e1', o1, a1⟩
  old := r.old
  newm := r.newm
  pre := r.pre
  frn := r.frn
  f0 := r.f0
  lkh := r.lkh
theorem Own.slot {a : Addr} (o : Own env σ i a) : ∃ s, env[i]? = some s ∧ s.own = true ∧ σ[i]? = some (some (.ref a)) := o
/-- what a slot owns is changed -/
theorem Rel.upd_own {s : Slot} {a : Addr} {o : HO} (r : Rel c F m σ env S H) (ow : Own env σ i a) (q : SlotR c.K F m (upd H a o) (some (some (.ref a))) s) : Rel c F m σ (env.set i s) S (upd H a o) := by
  obtain ⟨f0, fm, f1⟩ := r.ownf i a ow
  obtain ⟨t, et, ot, at_⟩ := id ow
  have nfz : ∀ ob w, H a ≠ some (.frz ob w) := fun ob w e => by
    have := r.slot i t et
    cases t with
    | un => cases ot
    | v p => cases ot
    | ol ps => obtain ⟨a', vs, h1, h2, h3⟩ := this; rw [at_] at h1; cases h1; rw [e] at h2; cases h2
    | od ps => obtain ⟨a', vs, h1, h2, h3⟩ := this; rw [at_] at h1; cases h1; rw [e] at h2; cases h2
    | ot ps => obtain ⟨a', vs, h1, h2, h3⟩ := this; rw [at_] at h1; cases h1; rw [e] at h2; cases h2
  have lkd : ∀ b ∈ c.lk, ∃ ob u, upd H a o b = some (.frz ob u) := fun b hb => by
    obtain ⟨ob, u, e⟩ := r.r0.lkd b hb
    exact ⟨ob, u, by rw [upd_ne (fun (z : b = a) => nfz ob u (z ▸ e))]; exact e⟩
  refine ⟨⟨fun b u e => ?_, r.r0.imm, r.r0.len, fun j b so h1 h2 => ?_, r.r0.nd, r.r0.muf, lkd⟩, by rw [List.length_set]; exact r.len, fun j u e => ?_, fun j k b h1 h2 => ?_, fun j b h1 => ?_, fun b u e hb => ?_, r.newm, r.pre, r.frn, r.f0, r.lkh⟩
  · have nb : b ≠ a := ne_of_none e f0
    rcases r.r0.sub b u e with h | ⟨l, d, ob, h⟩
    · exact .inl (by rw [upd_ne nb]; exact h)
    · exact .inr ⟨l, d, ob, by rw [upd_ne nb]; exact h⟩
  · have nb : b ≠ a := fun z => fm (z ▸ List.mem_of_getElem? h1)
    exact (r.r0.sto j b so h1 h2).mono (Same.refl _) (List.prefix_refl _) (upd_ne nb)
  · rcases set_get e with ⟨rfl, rfl⟩ | ⟨ne, e⟩
    · rw [at_]; exact q
    · refine (r.slot j u e).mono (Same.refl _) (List.prefix_refl _) fun b ob eb => upd_ne fun z => ?_
      subst z
      exact ne (r.ownd j i b ⟨u, e, ob, eb⟩ ow)
  · obtain ⟨s1, e1, o1, a1⟩ := h1
    obtain ⟨s2, e2, o2, a2⟩ := h2
    have g : ∀ {j : Nat} {s1 : Slot}, (env.set i s)[j]? = some s1 → s1.own = true → σ[j]? = some (some (.ref b)) → Own env σ j b := fun {j s1} e1 o1 a1 => by
      rcases set_get e1 with ⟨rfl, rfl⟩ | ⟨n1, e1⟩
      · rw [at_] at a1; cases a1; exact ow
      · exact ⟨s1, e1, o1, a1⟩
    exact r.ownd j k b (g e1 o1 a1) (g e2 o2 a2)
  · obtain ⟨s1, e1, o1, a1⟩ := h1
    rcases set_get e1 with ⟨rfl, rfl⟩ | ⟨n1, e1⟩
    · rw [at_] at a1; cases a1; exact ⟨f0, fm, f1⟩
    · exact r.ownf j b ⟨s1, e1, o1, a1⟩
  · have nb : b ≠ a := ne_of_none e f1
    rcases r.old b u e hb with h | ⟨l, d, ob, h⟩
    · exact .inl (by rw [upd_ne nb]; exact h)
    · exact .inr ⟨l, d, ob, by rw [upd_ne nb]; exact h⟩
/-- the store's thing is changed -/
theorem Rel.upd_sto {n : Nat} {a : Addr} {o : HO} {so : SO} (r : Rel c F m σ env S H) (hm : m[n]? = some a) (q : SOR c.K c.mg F m (upd H a o) a so) : Rel c F m σ env (S.set n so) (upd H a o) := by
  have ham : a ∈ m := List.mem_of_getElem? hm
  have f0 := r.r0.muf a ham
  have nfz : ∀ ob w, H a ≠ some (.frz ob w) := fun ob w e => by
    have hl : n < S.length := by rw [← r.r0.len]; exact (List.getElem?_eq_some_iff.mp hm).1
    have := r.r0.sto n a _ hm (List.getElem?_eq_getElem hl)
    cases hso : S[n] with
    | lst xs => rw [hso] at this; obtain ⟨vs, h1, h2⟩ := this; rw [e] at h1; cases h1
    | ins C fs => rw [hso] at this; obtain ⟨_, _, _, _, h1, _⟩ := this; rw [e] at h1; cases h1
  have lkd : ∀ b ∈ c.lk, ∃ ob u, upd H a o b = some (.frz ob u) := fun b hb => by
    obtain ⟨ob, u, e⟩ := r.r0.lkd b hb
    exact ⟨ob, u, by rw [upd_ne (fun (z : b = a) => nfz ob u (z ▸ e))]; exact e⟩
  refine ⟨⟨fun b u e => ?_, r.r0.imm, by rw [List.length_set]; exact r.r0.len, fun j b so' h1 h2 => ?_, r.r0.nd, r.r0.muf, lkd⟩, r.len, fun j u e => ?_, r.ownd, r.ownf, fun b u e hb => ?_, r.newm, r.pre, r.frn, r.f0, r.lkh⟩
  · have nb : b ≠ a := ne_of_none e f0
    rcases r.r0.sub b u e with h | ⟨l, d, ob, h⟩
    · exact .inl (by rw [upd_ne nb]; exact h)
    · exact .inr ⟨l, d, ob, by rw [upd_ne nb]; exact h⟩
  · by_cases e : j = n
    · subst e
      have hl : j < S.length := by have := (List.getElem?_eq_some_iff.mp h2).1; rwa [List.length_set] at this
      rw [List.getElem?_set_self hl] at h2
      cases h2
      rw [hm] at h1; cases h1
      exact q
    · rw [List.getElem?_set_ne (Ne.symm e)] at h2
      have nb : b ≠ a := fun z => by
        subst z
        have h3 := List.getElem?_eq_some_iff.mp h1
        have h4 := List.getElem?_eq_some_iff.mp hm
        exact e ((List.getElem_inj r.r0.nd).mp (h3.2.trans h4.2.symm))
      exact (r.r0.sto j b so' h1 h2).mono (Same.refl _) (List.prefix_refl _) (upd_ne nb)
  · refine (r.slot j u e).mono (Same.refl _) (List.prefix_refl _) fun b ob eb => upd_ne fun z => ?_
    subst z
    exact (r.ownf j b ⟨u, e, ob, eb⟩).2.1 ham
  · have nb : b ≠ a := fun z => by
      subst z
      have := r.newm b ham hb
      rw [e] at this; cases this
    rcases r.old b u e hb with h | ⟨l, d, ob, h⟩
    · exact .inl (by rw [upd_ne nb]; exact h)
    · exact .inr ⟨l, d, ob, by rw [upd_ne nb]; exact h⟩
/-- something new that stands by itself comes into the store -/
theorem Rel.alloc {a : Addr} {so : SO} (r : Rel c F m σ env S H) (hF : F a = none) (hm : a ∉ m) (h0 : c.H0 a = none) (hn : ∀ j, ¬ Own env σ j a) (q : SOR c.K c.mg F (m ++ [a]) H a so) : Rel c F (m ++ [a]) σ env (S ++ [so]) H where
  r0 := {
    sub := r.r0.sub
    imm := r.r0.imm
    len := by rw [List.length_append, List.length_append, r.r0.len]; rfl
    sto := fun j b so' h1 h2 => by
      by_cases hj : j < m.length
      · rw [List.getElem?_append_left hj] at h1
        rw [List.getElem?_append_left (by rw [← r.r0.len]; exact hj)] at h2
        exact (r.r0.sto j b so' h1 h2).mono (Same.refl _) (List.prefix_append _ _) rfl
      · rw [List.getElem?_append_right (Nat.le_of_not_lt hj)] at h1
        rw [List.getElem?_append_right (by rw [← r.r0.len]; exact Nat.le_of_not_lt hj)] at h2
        rw [← r.r0.len] at h2
        have e : j - m.length = 0 := by
          have := (List.getElem?_eq_some_iff.mp h1).1
          simp at this; omega
        rw [e] at h1 h2
        cases h1; cases h2
        exact q
    nd := by
      rw [List.nodup_append]
      refine ⟨r.r0.nd, by simp, fun b hb d hd => ?_⟩
      have : d = a := by simpa using hd
      subst this
      exact fun z => hm (z ▸ hb)
    muf := fun b hb => by
      rcases List.mem_append.mp hb with hb | hb
      · exact r.r0.muf b hb
      · have : b = a := by simpa using hb
        rw [this]; exact hF
    lkd := r.r0.lkd }
  len := r.len
  slot := fun j s e => (r.slot j s e).mono (Same.refl _) (List.prefix_append _ _) fun _ _ _ => rfl
  ownd := r.ownd
  ownf := fun j b o => by
    obtain ⟨h1, h2, h3⟩ := r.ownf j b o
    refine ⟨h1, fun hb => ?_, h3⟩
    rcases List.mem_append.mp hb with hb | hb
    · exact h2 hb
    · have : b = a := by simpa using hb
      exact hn j (this ▸ o)
  old := r.old
  newm := fun b hb => by
    rcases List.mem_append.mp hb with hb | hb
    · exact r.newm b hb
    · have : b = a := by simpa using hb
      rw [this]; exact fun _ => h0
  pre := r.pre.trans (List.prefix_append _ _)
  frn := r.frn
  f0 := r.f0
  lkh := r.lkh
end

/-! ### rules for statements -/
section
variable {k : Nat} {X : Cx} {c : Cfg} {st : Stmt} {rest a b : List Stmt} {d1 d2 : DS} {e : Expr} {de : DE} {t : Den Bool} {pos : Pos}
theorem k_nil : PSs X [] (rS c sNext) := PSs.weak pss_nil fun D σ H ⟨F, m, env, S, r, h⟩ => h F m σ H r (Same.refl _) (List.prefix_refl _)
theorem k_cons (h1 : PS X st (rS c d1)) (h2 : PSs X rest (rS c d2)) : PSs X (st :: rest) (rS c (sSeq d1 d2)) := by
  refine PSs.weak (pss_cons h1 h2) fun D σ H ⟨F, m, env, S, r, h⟩ => ?_
  refine ⟨F, m, env, S, r, ?_⟩
  unfold sSeq at h
  cases q : d1 env S with
  | nx env1 S1 =>
    rw [q] at h
    exact fun F' m' σ' H' r' s' p' => ⟨F', m', env1, S1, r', h.mono s' p'⟩
  | st => rw [q] at h; exact h
  | bk env1 S1 => rw [q] at h; exact h
  | ct env1 S1 => rw [q] at h; exact h
  | rt p env1 S1 => rw [q] at h; exact h
  | ex x env1 S1 => rw [q] at h; exact h
theorem k_one (h1 : PS X st (rS c d1)) : PSs X [st] (rS c d1) := pss_one h1
theorem k_ret (he : PE X e (rE c de)) : PS X (.Return (some e) pos) (rS c (sRet de)) := by
  refine PS.weak (ps_ret he) fun D σ H ⟨F, m, h⟩ => ?_
  refine (sE_of h).imp fun v H1 ⟨F1, m1, p, s1, p1, q1, env, S, r, h⟩ => ?_
  exact h F1 m1 σ H1 v r (Same.refl _) (List.prefix_refl _) q1
theorem k_expr (he : PE X e (rE c de)) (hs : swapsWith e none pos.line X.env = pure false := by rfl) : PS X (.Expr e pos) (rS c (sExpr de)) := by
  refine PS.weak (ps_expr he hs) fun D σ H ⟨F, m, h⟩ => ?_
  refine (sE_of h).imp fun v H1 ⟨F1, m1, p, s1, p1, q1, env, S, r, h⟩ => ?_
  exact h F1 m1 σ H1 r (Same.refl _) (List.prefix_refl _)
theorem k_if (hc : PT X e (rT c t)) (ha : PSs X a (rS c d1)) (hb : PSs X b (rS c d2)) : PS X (.If e a b pos) (rS c (sIf t d1 d2)) := by
  refine PS.weak (ps_if hc ha hb) fun D σ H ⟨F, m, h⟩ => ?_
  refine (sE_of h).imp fun v H1 ⟨F1, m1, p, s1, p1, q1, h⟩ => ?_
  cases q1
  cases v with
  | true => rw [if_pos rfl]; exact h.rS
  | false => rw [if_neg Bool.false_ne_true]; exact h.rS
theorem k_set (i : Nat) {x : Str} {pos' : Pos} (hX : XOk k X c) (hi : X.N[i]? = some x) (hx : Loc X.env.scope x) (he : PE X e (rE c de)) (hs : swapsWith e (some (.Name x pos')) pos.line X.env = pure false := by rfl)
    (hf : X.fn x = true ∨ X.env.scope.names.lookup x = some .local := by first | exact .inl rfl | exact .inr rfl | assumption) : PS X (.Assign [.Name x pos'] e pos) (rS c (sSet i de)) := by
  refine PS.weak (ps_set hX.nd hi hx he hs hf) fun D σ H ⟨F, m, h⟩ => ?_
  refine (sE_of h).imp fun v H1 ⟨F1, m1, p, s1, p1, q1, env, S, r, h⟩ => ?_
  exact h F1 m1 _ H1 (r.set_v q1 i) (Same.refl _) (List.prefix_refl _)

/-! ### targets of several names -/
def setAll : List Nat → List PV → DEnv → DEnv
  | i :: is, p :: ps, e => setAll is ps (e.set i (.v p))
  | _, _, e => e
def tgN (i : Nat) : PV → DEnv → Option DEnv := fun p e => some (e.set i (.v p))
def tgT (is : List Nat) : PV → DEnv → Option DEnv := fun p e => match p with
  | .tup ps => if ps.length = is.length then some (setAll is ps e) else none
  | _ => none
/-- a target's reading; is: the slots that it writes -/
def rG (c : Cfg) (is : List Nat) (g : PV → DEnv → Option DEnv) : TG := fun v σ H Q => ∃ F m env S p, Rel c F m σ env S H ∧ Rep c.K F m v p ∧ ∃ env', g p env = some env' ∧ ∀ σ', Rel c F m σ' env' S H → (∀ vs, (∀ i ∈ is, i ∈ vs) → wipe σ' vs = wipe σ vs) → Q σ' H
def rGs (c : Cfg) (is : List Nat) : TGs := fun vs σ H Q => ∃ F m env S ps, Rel c F m σ env S H ∧ RepL c.K F m vs ps ∧ ps.length = is.length ∧ ∀ σ', Rel c F m σ' (setAll is ps env) S H → (∀ vs, (∀ i ∈ is, i ∈ vs) → wipe σ' vs = wipe σ vs) → Q σ' H
theorem wipe_get (σ : St) (j : Nat) : ∀ vs : List Nat, (wipe σ vs)[j]? = if j ∈ vs then σ[j]?.map (fun _ => none) else σ[j]?
  | [] => by simp [wipe]
  | v :: vs => by
    unfold wipe
    have ih := wipe_get σ j vs
    by_cases e : v = j
    · subst e
      rw [if_pos List.mem_cons_self]
      by_cases hl : v < σ.length
      · rw [List.getElem?_set_self (by rw [wipe_length]; exact hl), List.getElem?_eq_getElem hl]; rfl
      · rw [List.getElem?_eq_none (by rw [List.length_set, wipe_length]; exact Nat.le_of_not_lt hl), List.getElem?_eq_none (Nat.le_of_not_lt hl)]; rfl
    · rw [List.getElem?_set_ne e, ih]
      by_cases h : j ∈ vs
      · rw [if_pos h, if_pos (List.mem_cons_of_mem _ h)]
      · rw [if_neg h, if_neg (fun z => by rcases List.mem_cons.mp z with z | z; exact e z.symm; exact h z)]
theorem wipe_set {σ : St} {i : Nat} {x : Option V} {vs : List Nat} (h : i ∈ vs) : wipe (σ.set i x) vs = wipe σ vs := by
  apply List.ext_getElem?
  intro j
  rw [wipe_get, wipe_get]
  by_cases hj : j ∈ vs
  · rw [if_pos hj, if_pos hj]
    by_cases e : i = j
    · subst e
      by_cases hl : i < σ.length
      · rw [List.getElem?_set_self hl, List.getElem?_eq_getElem hl]; rfl
      · rw [List.getElem?_eq_none (by rw [List.length_set]; exact Nat.le_of_not_lt hl), List.getElem?_eq_none (Nat.le_of_not_lt hl)]
    · rw [List.getElem?_set_ne e]
  · rw [if_neg hj, if_neg hj, List.getElem?_set_ne (fun (e : i = j) => hj (e ▸ h))]
theorem g_name (i : Nat) {x : Str} {pos' : Pos} (hX : XOk k X c) (hi : X.N[i]? = some x) (hx : Loc X.env.scope x) (hf : X.fn x = true ∨ X.env.scope.names.lookup x = some .local := by first | exact .inl rfl | exact .inr rfl | assumption) :
    PG X (.Name x pos') (rG c [i] (tgN i)) := by
  refine PG.weak (pg_name hX.nd hi hx hf) fun v σ H Q ⟨F, m, env, S, p, r, q, env', h1, h⟩ => ?_
  cases h1
  exact h _ (r.set_v q i) fun vs hv => wipe_set (hv i List.mem_cons_self)
theorem PGs.weak {X : Cx} {e : List Expr} {t t' : TGs} (h : PGs X e t) (w : ∀ v σ H Q, t' v σ H Q → t v σ H Q) : PGs X e t' := ⟨fun pins s σ H v u Q I r q => h.run pins s σ H v u Q I r (w _ _ _ _ q)⟩
theorem gs_nil : PGs X [] (rGs c []) := PGs.weak pgs_nil fun v σ H Q ⟨F, m, env, S, ps, r, q, hl, h⟩ => by
  cases ps with
  | nil => cases q; exact ⟨rfl, h σ r fun _ _ => rfl⟩
  | cons p ps => cases hl
theorem gs_cons (i : Nat) {is : List Nat} {x : Str} {pos' : Pos} {es : List Expr} (hX : XOk k X c) (hi : X.N[i]? = some x) (hx : Loc X.env.scope x) (hr : PGs X es (rGs c is)) (hf : X.fn x = true ∨ X.env.scope.names.lookup x = some .local := by first | exact .inl rfl | exact .inr rfl | assumption)
    (hs : (assignEach (.Name x pos' :: es) X.env).map (·.2) = assign (.Name x pos') X.env :: (assignEach es X.env).map (·.2) := by rfl) : PGs X (.Name x pos' :: es) (rGs c (i :: is)) := by
  refine PGs.weak (pgs_cons (pg_name (pos := pos') hX.nd hi hx hf) hr hs) fun v σ H Q ⟨F, m, env, S, ps, r, q, hl, h⟩ => ?_
  cases ps with
  | nil => cases hl
  | cons p ps =>
    cases q with
    | cons q1 q2 => exact ⟨_, _, rfl, F, m, _, S, ps, r.set_v q1 i, q2, Nat.succ.inj hl, fun σ' r' hw => h σ' r' fun vs hv => (hw vs fun j hj => hv j (List.mem_cons_of_mem _ hj)).trans (wipe_set (hv i List.mem_cons_self))⟩
theorem g_tup {is : List Nat} {es : List Expr} {kk : Nat} (hX : XOk k X c) (hr : PGs X es (rGs c is)) (hl : is.length = es.length := by rfl) (hn : (assignEach es X.env).length = es.length := by rfl) (hst : (assignEach es X.env).findIdx? (·.1) = none := by rfl) : PG X (.Tuple es kk pos) (rG c is (tgT is)) := by
  refine PG.weak (pg_tup hX.calm hr hn hst) fun v σ H Q ⟨F, m, env, S, p, r, q, env', h1, h⟩ => ?_
  unfold tgT at h1
  split at h1
  · rename_i ps
    split at h1
    · rename_i hh
      cases h1
      cases q with
      | tup hf q =>
        exact ⟨_, _, rfl, by rw [hX.K]; exact SqT.of (r.r0.sub _ _ hf).tup, by rw [q.length, hh, hl], F, m, env, S, ps, r, q, hh, h⟩
    · cases h1
  · cases h1
def sSetT (is : List Nat) (d : DE) : DS := sE d fun p e s => match tgT is p e with
  | some e => .nx e s
  | none => .st
theorem k_setT {is : List Nat} {tg : Expr} (hg : PG X tg (rG c is (tgT is))) (he : PE X e (rE c de)) (hs : swapsWithSole [tg] e pos.line X.env = pure false := by rfl) (hw : swappedStores [tg] e X.env = pure none := by rfl)
    (h1 : (assignEach [tg] X.env).map (·.2) = [assign tg X.env] := by rfl) : PS X (.Assign [tg] e pos) (rS c (sSetT is de)) := by
  refine PS.weak (ps_asg he hg hs hw h1) fun D σ H ⟨F, m, h⟩ => ?_
  refine (sE_of h).imp fun v H1 ⟨F1, m1, p, s1, p1, q1, env, S, r, h⟩ => ?_
  dsimp only at h
  cases q : tgT is p env with
  | none => rw [q] at h; exact h.elim
  | some env' =>
    rw [q] at h
    exact ⟨F1, m1, env, S, p, r, q1, env', q, fun σ' r' _ => h F1 m1 σ' H1 r' (Same.refl _) (List.prefix_refl _)⟩
end
end Dn
end
section
set_option Elab.async false
set_option linter.all false
set_option maxRecDepth 100000
set_option maxHeartbeats 1000000
namespace Dn
open PySem L2 PySem.Spec PyProof.Rows

/-! ### defs -/
inductive OutF where
  | st
  | ok (p : PV) (s : Stor)
  | ex (x : Exc) (s : Stor)
/-- what a def computes -/
abbrev DF := List PV → Stor → OutF
/-- a def of n parameters and u more names, by its body -/
def dFun (n u : Nat) (b : DS) : DF := fun ps S => if ps.length = n then
  match b (ps.map Slot.v ++ List.replicate u Slot.un) S with
  | .nx _ S => .ok .non S
  | .rt p _ S => .ok p S
  | .ex x _ S => .ex x S
  | _ => .st
  else .st
/-- .. its promise -/
def spOf (K : PySem.W.Frag) (mg : Str → Option Value) (n : Nat) (f : DF) : Sp := fun vs H Q E => vs.length = n ∧ ∃ lk F m S ps, R0 K mg lk F m S H ∧ RepL K F m vs ps ∧
  match f ps S with
  | .st => False
  | .ok p S' => ∀ F' m' H' v, R0 K mg lk F' m' S' H' → Same F F' → m <+: m' → (∀ a, F' a ≠ none → F a ≠ none ∨ IT H a) → (∀ a ∈ m', a ∉ m → H a = none) → (∀ a o, H a = some o → a ∉ m → H' a = some o) → Rep K F' m' v p → Q v H'
  | .ex x S' => ∀ F' m' H' cls d, R0 K mg lk F' m' S' H' → Same F F' → m <+: m' → (∀ a, F' a ≠ none → F a ≠ none ∨ IT H a) → (∀ a ∈ m', a ∉ m → H a = none) → (∀ a o, H a = some o → a ∉ m → H' a = some o) →
      (∃ C dd vfs, cls = Value.ref C ∧ mg x.cls = some (.ref C) ∧ d = some dd ∧ H' dd = some (.xd vfs) ∧ RepF K F' m' vfs x.fs) → E cls d H'

theorem rel_start {K : PySem.W.Frag} {mg : Str → Option Value} {lk : List Addr} {F H : Hp} {m : List Addr} {S : Stor} {vs : List V} {ps : List PV} {W : WX} {N : List Str} {u : Nat} (r : R0 K mg lk F m S H) (q : RepL K F m vs ps) (hN : N.length = vs.length + u) :
    Rel ⟨K, mg, F, m, H, lk, W⟩ F m (L2.start N vs) (ps.map Slot.v ++ List.replicate u Slot.un) S H := by
  have hl := q.length
  have noown : ∀ i a, ¬ Own (ps.map Slot.v ++ List.replicate u Slot.un) (L2.start N vs) i a := fun i a ⟨s, e, o, _⟩ => by
    by_cases hi : i < (ps.map Slot.v).length
    · rw [List.getElem?_append_left hi, List.getElem?_map] at e
      obtain ⟨p, _, rfl⟩ := Option.map_eq_some_iff.mp e
      cases o
    · rw [List.getElem?_append_right (Nat.le_of_not_lt hi)] at e
      have := List.mem_of_getElem? e
      rw [(List.mem_replicate.mp this).2] at o
      cases o
  refine ⟨r, ?_, fun i s e => ?_, fun i j a h => absurd h (noown i a), fun i a h => absurd h (noown i a), fun a o h _ => .inl h, fun a h h' => absurd h h', List.prefix_refl _, fun a h => .inl h, Same.refl _, fun a ha => ?_⟩
  · unfold L2.start
    rw [List.length_append, List.length_append, List.length_map, List.length_map, List.length_replicate, List.length_replicate, hN, ← hl]
    omega
  · by_cases hi : i < ps.length
    · rw [List.getElem?_append_left (by rw [List.length_map]; exact hi), List.getElem?_map] at e
      obtain ⟨p, hp, rfl⟩ := Option.map_eq_some_iff.mp e
      obtain ⟨v, hv, rv⟩ := q.get hp
      refine ⟨v, ?_, rv⟩
      unfold L2.start
      rw [List.getElem?_append_left (by rw [List.length_map, hl]; exact hi), List.getElem?_map, hv]
      rfl
    · rw [List.getElem?_append_right (by rw [List.length_map]; exact Nat.le_of_not_lt hi)] at e
      rw [(List.mem_replicate.mp (List.mem_of_getElem? e)).2]
      trivial
  · obtain ⟨ob, w, e⟩ := r.lkd a ha
    refine ⟨fun hm => ?_, ob, w, e⟩
    obtain ⟨i, hi⟩ := List.mem_iff_getElem?.mp hm
    have hl2 : i < S.length := by rw [← r.len]; exact (List.getElem?_eq_some_iff.mp hi).1
    have h := r.sto i a _ hi (List.getElem?_eq_getElem hl2)
    cases hs : S[i] with
    | lst xs => rw [hs] at h; obtain ⟨_, h, _⟩ := h; rw [e] at h; cases h
    | ins C fs => rw [hs] at h; obtain ⟨_, _, _, _, h, _⟩ := h; rw [e] at h; cases h
theorem has_exact {lk : List Addr} {H H' : Hp} {a : Addr} {o : HO} (hl : ∀ a ∈ lk, ∃ ob u, H a = some (.frz ob u)) (h : Has lk H' a o) (e : H a = some o) : H' a = some o := by
  rcases h with h | ⟨l, d, ob, h⟩
  · exact h
  · obtain ⟨ob', u, e'⟩ := hl a l
    rw [e] at e'; cases e'
    exact d.elim
/-- where a call may go on -/
structure FOk (P : Program) (w : World) (K : PySem.W.Frag) (mg : Str → Option Value) (base : Heap) (k : Nat) (x : Str) (ps : List Str) (f : DF) : Prop where
  len : ∀ pvs S, pvs.length ≠ ps.length → f pvs S = .st
  ex : ∃ (a : Addr) (fd : FuncData), mg x = some (.ref a) ∧ PySem.W.keepIn K (.ref a) = true ∧ Binds K fd ps [] ∧ FnOk P w K mg base (L2.CX P w) k a fd ps (spOf K mg ps.length f) ∧ ∃ oc od osl, K.lookup a = some ⟨oc, od, .func fd, osl⟩
theorem Fun.look {K : PySem.W.Frag} {x qual : Str} {st : Stmt} {f : Addr} {fd : FuncData} (F : Fun K x qual st f fd) : ∃ oc od osl, K.lookup f = some ⟨oc, od, .func fd, osl⟩ :=
  let ⟨oc, od, kV, doc, pm, an, cdv, ct, osl, _, lk, _⟩ := F.ex; ⟨oc, od, osl, lk⟩
theorem Fun.bindsLaw {K : PySem.W.Frag} {x qual p : Str} {st : Stmt} {f : Addr} {fd : FuncData} (F : Fun K x qual st f fd)
    (h : ∀ (kV doc pm : Value) (an : Option Addr) (cdv ct : Value) (u : Value), bindArgs (PySem.W.fnOf x qual (defArgs st) (defBody st) (defScope st) .none kV doc pm an cdv ct) ⟨[u], []⟩ = pure [(p, u)]) (s : Shared) (u : Value) : BindsTo s fd ⟨[u], []⟩ [(p, u)] := by
  obtain ⟨oc, od, kV, doc, pm, an, cdv, ct, osl, rfl, _, _⟩ := F.ex
  exact .of_eq (h kV doc pm an cdv ct u)
/-- a def of the text keeps the promise of its denotation -/
theorem fok {P : Program} {w : World} {K : PySem.W.Frag} {mg : Str → Option Value} {base : Heap} {x qual : Str} {st : Stmt} {f : Addr} {fd : FuncData} {N ps : List Str} {k u : Nat} {b : DS} (F : Fun K x qual st f fd) (S : FnScope N ps (defScope st)) (hN : N.length = ps.length + u)
    (hm : mg x = some (.ref f)) (hb : Binds K fd ps [])
    (body : ∀ (cdv : Value) (A : Around) (outer : List PySem.Env) (s : Shared) (H : Hp) (E : XK) (c : Cfg), XOk k (cxOf (L2.CX P w) P w K mg base N qual (defScope st) f cdv A outer s H E) c →
      Takes (cxOf (L2.CX P w) P w K mg base N qual (defScope st) f cdv A outer s H E) c.W → PSs (cxOf (L2.CX P w) P w K mg base N qual (defScope st) f cdv A outer s H E) (defBody st) (rS c b)) :
    FOk P w K mg base (k + 1) x ps (dFun ps.length u b) := by
  refine ⟨fun pvs S h => by unfold dFun; rw [if_neg h], f, fd, hm, F.kp, hb, F.okX S (fun vs H Q E h => h.1) fun cdv A outer s H vs Q E hr h => ?_, Fun.look F⟩
  obtain ⟨hl, lk, Fz, m, St, pvs, r, q, h⟩ := h
  have hlk := r.lkd
  have tk : Takes (cxOf (L2.CX P w) P w K mg base N qual (defScope st) f cdv A outer s H E) (fun cls d σ H' => E cls d H') := takes_of rfl rfl rfl rfl
  let c : Cfg := ⟨K, mg, Fz, m, H, lk, fun cls d σ H' => E cls d H'⟩
  refine ⟨_, body cdv A outer s H E c ⟨rfl, rfl, rfl, S.nd, hr, fun σ => passAt tk σ⟩ tk, Fz, m, _, St, rel_start r q (by rw [hl]; exact hN), ?_⟩
  unfold dFun at h
  rw [if_pos (by rw [← q.length]; exact hl)] at h
  have fz : ∀ {F' m' σ env S' H'}, Rel c F' m' σ env S' H' → (∀ a, F' a ≠ none → Fz a ≠ none ∨ IT H a) := fun r a ha => r.frn a ha
  have kp : ∀ {F' m' σ env S' H'}, Rel c F' m' σ env S' H' → (∀ a o, H a = some o → a ∉ m → H' a = some o) := fun r a o e hn => has_exact hlk (r.old a o e hn) e
  cases e : b (pvs.map Slot.v ++ List.replicate u Slot.un) St with
  | st => rw [e] at h; exact h
  | nx env S' => rw [e] at h; exact fun F' m' σ H' r' s' p' => h F' m' H' .non r'.r0 s' p' (fz r') (fun a ha hn => r'.newm a ha hn) (kp r') .non
  | bk env S' => rw [e] at h; exact h.elim
  | ct env S' => rw [e] at h; exact h.elim
  | rt p env S' => rw [e] at h; exact fun F' m' σ H' v r' s' p' q' => h F' m' H' v r'.r0 s' p' (fz r') (fun a ha hn => r'.newm a ha hn) (kp r') q'
  | ex x env S' => rw [e] at h; exact fun F' m' σ H' cls d r' s' p' q' => h F' m' H' cls d r'.r0 s' p' (fz r') (fun a ha hn => r'.newm a ha hn) (kp r') q'

/-! ### calls -/
def dCall (f : DF) (dr : Den (List PV)) : DE := dr.bind fun ps => fun e s => match f ps s with
  | .st => .st
  | .ok p s => .ok p e s
  | .ex x s => .ex x e s
section
variable {c : Cfg} {F F' H H' : Hp} {m m' : List Addr} {σ : St} {env : DEnv} {S S' : Stor}
/-- behind a call -/
theorem Rel.call (r : Rel c F m σ env S H) (r' : R0 c.K c.mg c.lk F' m' S' H') (s : Same F F') (p : m <+: m') (hf : ∀ a, F' a ≠ none → F a ≠ none ∨ IT H a) (hm : ∀ a ∈ m', a ∉ m → H a = none) (ho : ∀ a o, H a = some o → a ∉ m → H' a = some o) : Rel c F' m' σ env S' H' where
  r0 := r'
  len := r.len
  slot := fun i t e => (r.slot i t e).mono s p fun a o q => by
    obtain ⟨u, hu⟩ := (r.slot i t e).there o q
    rw [hu]
    exact ho a u hu (r.ownf i a ⟨t, e, o, q⟩).2.1
  ownd := r.ownd
  ownf := fun i a o => by
    obtain ⟨h1, h2, h3⟩ := r.ownf i a o
    obtain ⟨u, hu⟩ := r.own_there o
    refine ⟨?_, fun ha => ?_, h3⟩
    · cases q : F' a with
      | none => rfl
      | some w =>
        rcases hf a (by rw [q]; exact fun z => nomatch z) with z | z
        · exact absurd h1 z
        · exact (r.own_noit o z).elim
    · have := hm a ha h2
      rw [hu] at this; cases this
  old := fun a o e hn => by
    by_cases ha : a ∈ m
    · have := r.newm a ha hn
      rw [e] at this; cases this
    · rcases r.old a o e hn with h | ⟨l, d, ob, h⟩
      · exact .inl (ho a o h ha)
      · exact .inr ⟨l, d, ob, ho a _ h ha⟩
  newm := fun a ha hn => by
    by_cases h : a ∈ m
    · exact r.newm a h hn
    · exact r.free0 (hm a ha h)
  pre := r.pre.trans p
  frn := fun a ha => by
    rcases hf a ha with z | z
    · exact r.frn a z
    · exact .inr (r.it0 z)
  f0 := r.f0.trans s
  lkh := r.lkh
end
section
variable {k j : Nat} {X : Cx} {c : Cfg} {e : Expr} {es : List Expr} {dr : Den (List PV)} {p pos : Pos} {x : Str} {f : DF} {ps : List Str}
theorem call_sp {σ : St} {Q : VK} {F H : Hp} {m : List Addr} {env : DEnv} {S : Stor} {vs : List V} {pvs : List PV} (hl : vs.length = ps.length) (r : Rel c F m σ env S H) (q : RepL c.K F m vs pvs)
    (h : post (fun K F m v p => Rep K F m v p) c F m σ Q (match f pvs S with | .st => .st | .ok p s => .ok p env s | .ex x s => .ex x env s)) : spOf c.K c.mg ps.length f vs H Q (WE c.W σ) := by
  refine ⟨hl, c.lk, F, m, S, pvs, r.r0, q, ?_⟩
  cases e : f pvs S with
  | st => rw [e] at h; exact h
  | ok p S' => rw [e] at h; exact fun F' m' H' v r' s' p' a b o q' => h F' m' H' v (r.call r' s' p' a b o) s' p' q'
  | ex x S' => rw [e] at h; exact fun F' m' H' cls d r' s' p' a b o q' => h F' m' H' cls d (r.call r' s' p' a b o) s' p' q'
theorem r_call (hX : XOk k X c) (Fn : FOk X.prog X.w X.K X.mg X.base j x ps f) (hj : j ≤ k) (hg : Gl X x) (ha : PA X (e :: es) (rA c dr)) (hdb : (x == ("__debug__" : Str)) = false := by decide)
    (he : starEach (e :: es) X.env = (false, eval e X.env) :: starEach es X.env := by rfl) (hpl : (backTo pos (starEach es X.env)).any (·.1) = false := by rfl) : PE X (.Call (.Name x p) (e :: es) [] pos) (rE c (dCall f dr)) := by
  obtain ⟨a, fd, hm, hk, hb, FO, _⟩ := Fn.ex
  refine PE.weak (pe_callS FO (hX.room.mono hj) hg hm hk hb (E := WE c.W) hX.pas ha hdb he hpl) fun σ H Q h => ?_
  obtain ⟨F, m, h⟩ := h
  refine (rd_bind h).imp fun v H1 ⟨F1, m1, p, s1, p1, q1, env, S, r, h⟩ => ?_
  rw [hX.K, hX.mg]
  refine call_sp ?_ r q1 h
  rw [q1.length]
  exact Decidable.byContradiction fun hne => by dsimp only at h; rw [Fn.len p S hne] at h; exact h
end
end Dn
end
section
set_option Elab.async false
set_option linter.all false
set_option maxRecDepth 100000
set_option maxHeartbeats 1000000
namespace Dn
open PySem L2 PySem.Spec PyProof.Rows

/-! ### what is walked -/
def ItR (c : Cfg) (J : It) (F : Hp) (m : List Addr) (ps : List PV) : Prop := ∃ G Y, Walk J ps.length G Y ∧
  (∀ F' m' σ env S H, Rel c F' m' σ env S H → Same F F' → m <+: m' → G H) ∧
  ∀ F' m' σ env S H i x H', Rel c F' m' σ env S H → Same F F' → m <+: m' → i < ps.length → Y i H x H' → ∃ F3 p, Ext F' H F3 H' ∧ ps[i]? = some p ∧ Rep c.K F3 m' x p
def pI (c : Cfg) (F : Hp) (m : List Addr) (σ : St) (R : It → Hp → Prop) : Out (List PV) → Prop
  | .st => False
  | .ok ps env S => ∀ F' m' H J, Rel c F' m' σ env S H → Same F F' → m <+: m' → ItR c J F' m' ps → R J H
  | .ex x env S => ∀ F' m' H cls d, Rel c F' m' σ env S H → Same F F' → m <+: m' → ExR c F' m' H x cls d → c.W cls d σ H
def rI (c : Cfg) (d : Den (List PV)) : TI := fun σ H R => ∃ F m env S, Rel c F m σ env S H ∧ pI c F m σ R (d env S)
theorem PI.weak {X : Cx} {tg e : Expr} {t t' : TI} (h : PI X tg e t) (w : ∀ σ H Q, t' σ H Q → t σ H Q) : PI X tg e t' := ⟨fun pins s σ H R I q => h.run pins s σ H R I (w _ _ _ q)⟩

def dItL (d : DE) : Den (List PV) := d.bind fun p => match p with
  | .lst xs => Den.pure xs
  | .rol xs => Den.pure xs
  | _ => Den.fail
def dItT (d : DE) : Den (List PV) := d.bind fun p => match p with
  | .tup xs => Den.pure xs
  | .ftp xs => Den.pure xs
  | _ => Den.fail
theorem rI_of {α β : Type} {R : RP β α} {c : Cfg} {d : Den α} {kk : α → Den (List PV)} {σ : St} {H : Hp} {Q : It → Hp → Prop} (h : rI c (d.bind kk) σ H Q) :
    rd R c d σ H fun v H1 => ∃ F1 m1 p env S, R c.K F1 m1 v p ∧ Rel c F1 m1 σ env S H1 ∧ pI c F1 m1 σ Q (kk p env S) := by
  obtain ⟨F, m, env, S, r, h⟩ := h
  refine ⟨F, m, env, S, r, ?_⟩
  unfold Den.bind at h
  cases e : d env S with
  | st => rw [e] at h; exact h
  | ok p env1 S1 =>
    rw [e] at h
    refine fun F1 m1 H1 v r1 s1 p1 q1 => ⟨F1, m1, p, env1, S1, q1, r1, ?_⟩
    have h : pI c F m σ Q (kk p env1 S1) := h
    cases e2 : kk p env1 S1 with
    | st => rw [e2] at h; exact h
    | ok ps env2 S2 => rw [e2] at h; exact fun F' m' H J r s' p' i => h F' m' H J r (s1.trans s') (p1.trans p') i
    | ex x env2 S2 => rw [e2] at h; exact fun F' m' H J d r s' p' i => h F' m' H J d r (s1.trans s') (p1.trans p') i
  | ex x env1 S1 =>
    rw [e] at h
    exact h
theorem itR_list {c : Cfg} {F : Hp} {m : List Addr} {a : Addr} {vs : List V} {ps : List PV} (hf : F a = some (.lst vs)) (r : RepL c.K F m vs ps) : ItR c (Itl c.K a) F m ps := by
  refine ⟨_, _, by rw [← r.length]; exact walk_list (xs := vs), fun F' m' σ env S H R s p => SqL.of (R.r0.sub _ _ (s _ _ hf)).lst, fun F' m' σ env S H i x H' R s p hi y => ?_⟩
  obtain ⟨rfl, h⟩ := y
  obtain ⟨q, hq, rq⟩ := r.getV h
  exact ⟨F', q, Ext.refl _ _, hq, rq.mono s p⟩
theorem itR_rol {c : Cfg} {F : Hp} {m : List Addr} {a : Addr} {vs : List V} {ps : List PV} (hf : SqL c.K F a vs) (r : RepL c.K F m vs ps) : ItR c (Itl c.K a) F m ps := by
  refine ⟨_, _, by rw [← r.length]; exact walk_list (xs := vs), fun F' m' σ env S H R s p => rol_sq R.r0 (s.seq hf), fun F' m' σ env S H i x H' R s p hi y => ?_⟩
  obtain ⟨rfl, h⟩ := y
  obtain ⟨q, hq, rq⟩ := r.getV h
  exact ⟨F', q, Ext.refl _ _, hq, rq.mono s p⟩
theorem itR_tup {c : Cfg} {F : Hp} {m : List Addr} {a : Addr} {vs : List V} {ps : List PV} (hf : F a = some (.tup vs)) (r : RepL c.K F m vs ps) : ItR c (Itt c.K a) F m ps := by
  refine ⟨_, _, by rw [← r.length]; exact walk_tup (xs := vs), fun F' m' σ env S H R s p => SqT.of (R.r0.sub _ _ (s _ _ hf)).tup, fun F' m' σ env S H i x H' R s p hi y => ?_⟩
  obtain ⟨rfl, h⟩ := y
  obtain ⟨q, hq, rq⟩ := r.getV h
  exact ⟨F', q, Ext.refl _ _, hq, rq.mono s p⟩
theorem itR_ftp {c : Cfg} {F : Hp} {m : List Addr} {a : Addr} {ob : Obj} {vs : List V} {ps : List PV} (hf : F a = some (.frz ob (.tup vs))) (r : RepL c.K F m vs ps) : ItR c (Itt c.K a) F m ps := by
  refine ⟨_, _, by rw [← r.length]; exact walk_tup (xs := vs), fun F' m' σ env S H R s p => ftp_sq R.r0 (s _ _ hf), fun F' m' σ env S H i x H' R s p hi y => ?_⟩
  obtain ⟨rfl, h⟩ := y
  obtain ⟨q, hq, rq⟩ := r.getV h
  exact ⟨F', q, Ext.refl _ _, hq, rq.mono s p⟩
section
variable {k : Nat} {X : Cx} {c : Cfg} {tg e : Expr} {de : DE} {p pos : Pos}
theorem i_list (hX : XOk k X c) (he : PE X e (rE c de)) : PI X tg e (rI c (dItL de)) := by
  refine PI.weak (pi_list he) fun σ H Q h => ?_
  obtain ⟨K, mg, F0, m0, H0, lk, W⟩ := c
  obtain rfl := hX.K
  obtain rfl := hX.mg
  refine (rI_of h).imp fun v H1 ⟨F1, m1, p, env, S, q1, r, h⟩ => ?_
  cases q1 with
  | lst hf q => exact ⟨_, rfl, ⟨_, SqL.of (r.r0.sub _ _ hf).lst⟩, h F1 m1 H1 _ r (Same.refl _) (List.prefix_refl _) (itR_list hf q)⟩
  | rol hf q => exact ⟨_, rfl, ⟨_, rol_sq r.r0 hf⟩, h F1 m1 H1 _ r (Same.refl _) (List.prefix_refl _) (itR_rol hf q)⟩
  | _ => exact (show False from h).elim
theorem i_tup (hX : XOk k X c) (he : PE X e (rE c de)) : PI X tg e (rI c (dItT de)) := by
  refine PI.weak (pi_tup he) fun σ H Q h => ?_
  obtain ⟨K, mg, F0, m0, H0, lk, W⟩ := c
  obtain rfl := hX.K
  obtain rfl := hX.mg
  refine (rI_of h).imp fun v H1 ⟨F1, m1, p, env, S, q1, r, h⟩ => ?_
  cases q1 with
  | tup hf q => exact ⟨_, rfl, ⟨_, SqT.of (r.r0.sub _ _ hf).tup⟩, h F1 m1 H1 _ r (Same.refl _) (List.prefix_refl _) (itR_tup hf q)⟩
  | ftp hf e1 e2 q => exact ⟨_, rfl, ⟨_, ftp_sq r.r0 hf⟩, h F1 m1 H1 _ r (Same.refl _) (List.prefix_refl _) (itR_ftp hf q)⟩
  | _ => exact (show False from h).elim
/-- range(n) -/
def dItR (d : DE) : Den (List PV) := d.bind fun p => match p with
  | .int n => if -1000000 ≤ n ∧ n ≤ 1000000 then Den.pure (rngPV n) else Den.fail
  | _ => Den.fail
theorem i_rng {a : Expr} {da : DE} (hX : XOk k X c) (hg : Gl X "range") (hm : X.mg "range" = none) (ha : PE X a (rE c da)) (hs : starEach [a] X.env = (false, eval a X.env) :: starEach [] X.env := by rfl) (hs' : starEach [a] X.env = [(false, eval a X.env)] := by rfl) :
    PI X tg (.Call (.Name "range" p) [a] [] pos) (rI c (dItR da)) := by
  refine PI.weak (pi_range1 hg hm (pa_cons ha pa_nil hs) hs') fun σ H Q h => ?_
  refine (rI_of h).imp fun v H1 ⟨F1, m1, p, env, S, q1, r, h⟩ => ?_
  cases q1 with
  | int n =>
    dsimp only at h
    split at h
    · rename_i hh
      refine ⟨n, rfl, by omega, by omega, h F1 m1 H1 _ r (Same.refl _) (List.prefix_refl _) ?_⟩
      have hl : (rngPV n).length = n.toNat := by unfold rngPV; rw [List.length_map, List.length_range]
      refine ⟨_, _, by rw [hl]; exact walk_range, fun _ _ _ _ _ _ _ _ _ => trivial, fun F' m' σ env S H i x H' R s p hi y => ?_⟩
      obtain ⟨rfl, rfl⟩ := y
      refine ⟨F', .int (0 + (i : Int)), Ext.refl _ _, ?_, .int _⟩
      unfold rngPV
      rw [List.getElem?_map, List.getElem?_range (by rw [hl] at hi; exact hi), Int.zero_add]
      rfl
    · exact (show False from h).elim
  | _ => exact (show False from h).elim
end

/-! ### for -/
def forL (g : PV → DEnv → Option DEnv) (b : DS) : List PV → DS
  | [] => sNext
  | p :: ps => fun e s => match g p e with
    | none => .st
    | some e1 => match b e1 s with
      | .nx e s => forL g b ps e s
      | .ct e s => forL g b ps e s
      | .bk e s => .nx e s
      | o => o
def sFor (di : Den (List PV)) (g : PV → DEnv → Option DEnv) (b : DS) : DS := sE di (forL g b)
theorem k_for {k : Nat} {X : Cx} {c : Cfg} {tg iter : Expr} {body : List Stmt} {di : Den (List PV)} {g : PV → DEnv → Option DEnv} {b : DS} {pos : Pos} (hX : XOk k X c) (hp : PassesOwn (model X.prog X.w) X.A X.env X.xe) (hi : PI X tg iter (rI c di)) {is : List Nat} (hg : PG X tg (rG c is g)) (hb : PSs X body (rS c b))
    (hs : ∀ x, foldedSetIterable iter X.env x = pure x := by intro _; rfl) : PS X (.For tg iter body [] pos) (rS c (sFor di g b)) := by
  refine PS.weak (ps_for hp hX.calm hi hg hb hs) fun D σ H ⟨F, m, env, S, r, h⟩ => ?_
  refine ⟨F, m, env, S, r, ?_⟩
  unfold sFor sE at h
  cases e : di env S with
  | st => rw [e] at h; exact h
  | ex x env1 S1 => rw [e] at h; exact fun F' m' H cls d r' s' p' q => h F' m' σ H cls d r' s' p' q
  | ok ps env1 S1 =>
    rw [e] at h
    intro F1 m1 H1 J r1 s1 p1 it
    obtain ⟨G, Y, w, hG, hY⟩ := it
    refine for_it w (fun i σ H => ∃ F2 m2 env2 S2, Same F1 F2 ∧ m1 <+: m2 ∧ Rel c F2 m2 σ env2 S2 H ∧ pS c F2 m2 D (forL g b (ps.drop i) env2 S2)) ?_ ?_ ?_ ?_
    · exact ⟨F1, m1, env1, S1, Same.refl _, List.prefix_refl _, r1, h.mono s1 p1⟩
    · rintro i σ H hi ⟨F2, m2, env2, S2, s2, p2, r2, _⟩
      exact hG F2 m2 _ _ S2 H r2 s2 p2
    · rintro i x σ H H' hi ⟨F2, m2, env2, S2, s2, p2, r2, h2⟩ y
      obtain ⟨F3, p, x3, hp3, rp⟩ := hY F2 m2 _ _ S2 H i x H' r2 s2 p2 hi y
      have ed : ps.drop i = p :: ps.drop (i + 1) := by
        rw [List.drop_eq_getElem_cons hi]
        rw [List.getElem?_eq_getElem hi] at hp3
        rw [Option.some.inj hp3]
      rw [ed] at h2
      unfold forL at h2
      cases eg : g p env2 with
      | none => rw [eg] at h2; exact h2.elim
      | some env3 =>
        rw [eg] at h2
        refine ⟨F3, m2, env2, S2, p, r2.ext x3, rp, env3, eg, fun σ' r' _ => ⟨F3, m2, env3, S2, r', ?_⟩⟩
        have h2 := h2.mono x3.f (List.prefix_refl _)
        dsimp only at h2
        cases eb : b env3 S2 with
        | st => rw [eb] at h2; exact h2
        | nx env4 S4 => rw [eb] at h2; exact fun F' m' σ H r s p => ⟨F', m', env4, S4, s2.trans (x3.f.trans s), p2.trans p, r, h2.mono s p⟩
        | ct env4 S4 => rw [eb] at h2; exact fun F' m' σ H r s p => ⟨F', m', env4, S4, s2.trans (x3.f.trans s), p2.trans p, r, h2.mono s p⟩
        | bk env4 S4 => rw [eb] at h2; exact h2
        | rt q env4 S4 => rw [eb] at h2; exact h2
        | ex q env4 S4 => rw [eb] at h2; exact h2
    · rintro σ H ⟨F2, m2, env2, S2, s2, p2, r2, h2⟩
      rw [List.drop_length] at h2
      exact h2 F2 m2 σ H r2 (Same.refl _) (List.prefix_refl _)

/-! ### while -/
def whL (t : Den Bool) (b : DS) : Nat → DS
  | 0 => fun _ _ => .st
  | n + 1 => sE t fun k => if k then fun e s => match b e s with
      | .nx e s => whL t b n e s
      | .ct e s => whL t b n e s
      | .bk e s => .nx e s
      | o => o
    else sNext
open Classical in
noncomputable def sWhile (t : Den Bool) (b : DS) : DS := fun e s => if h : ∃ n, whL t b n e s ≠ .st then whL t b h.choose e s else .st
theorem whL_succ (t : Den Bool) (b : DS) : ∀ (n : Nat) (e : DEnv) (s : Stor), whL t b n e s ≠ .st → whL t b (n + 1) e s = whL t b n e s
  | 0, e, s, h => absurd rfl h
  | n + 1, e, s, h => by
    have ih := whL_succ t b n
    rw [whL.eq_2, whL.eq_2] at *
    unfold sE at *
    cases e1 : t e s with
    | st => rfl
    | ex x env S => rfl
    | ok k env S =>
      rw [e1] at h
      cases k with
      | false => rfl
      | true =>
        simp only [if_true] at h ⊢
        cases e2 : b env S with
        | st => rfl
        | nx env2 S2 => rw [e2] at h; exact ih _ _ h
        | ct env2 S2 => rw [e2] at h; exact ih _ _ h
        | bk env2 S2 => rfl
        | rt p env2 S2 => rfl
        | ex p env2 S2 => rfl
theorem whL_add (t : Den Bool) (b : DS) (n : Nat) (e : DEnv) (s : Stor) (h : whL t b n e s ≠ .st) : ∀ j, whL t b (n + j) e s = whL t b n e s
  | 0 => rfl
  | j + 1 => by
    have ih := whL_add t b n e s h j
    rw [← Nat.add_assoc, whL_succ t b (n + j) e s (by rw [ih]; exact h), ih]
theorem sWhile_of {t : Den Bool} {b : DS} (n : Nat) {e : DEnv} {s : Stor} {o : OutS} (h : whL t b n e s = o) (ho : o ≠ .st) : sWhile t b e s = o := by
  unfold sWhile
  have hx : ∃ n, whL t b n e s ≠ .st := ⟨n, by rw [h]; exact ho⟩
  rw [dif_pos hx]
  have h1 := whL_add t b _ e s hx.choose_spec n
  have h2 := whL_add t b n e s (by rw [h]; exact ho) hx.choose
  rw [← h1, Nat.add_comm, h2, h]
theorem k_while {k : Nat} {X : Cx} {c : Cfg} {e : Expr} {body : List Stmt} {t : Den Bool} {b : DS} {pos : Pos} (hp : PassesOwn (model X.prog X.w) X.A X.env X.xe) (hc : PT X e (rT c t)) (hb : PSs X body (rS c b)) : PS X (.While e body [] pos) (rS c (sWhile t b)) := by
  refine PS.weak (ps_while hp hc hb) fun D σ H ⟨F, m, env, S, r, h⟩ => ?_
  have hx : ∃ n, whL t b n env S ≠ .st := by
    by_cases hx : ∃ n, whL t b n env S ≠ .st
    · exact hx
    · unfold sWhile at h; rw [dif_neg hx] at h; exact h.elim
  obtain ⟨n, hn⟩ := hx
  rw [sWhile_of n rfl hn] at h
  refine ⟨fun n σ H => ∃ F m env S, Rel c F m σ env S H ∧ pS c F m D (whL t b n env S), ⟨n, F, m, env, S, r, h⟩, ?_⟩
  rintro n σ H ⟨F, m, env, S, r, h⟩
  cases n with
  | zero => exact h.elim
  | succ n =>
    refine (sE_of (R := fun _ _ _ v p => v = p) ⟨env, S, r, h⟩).imp fun v H1 ⟨F1, m1, p, s1, p1, q1, env, S, r, h⟩ => ?_
    cases q1
    cases v with
    | false =>
      rw [if_neg Bool.false_ne_true]
      exact h F1 m1 σ H1 r (Same.refl _) (List.prefix_refl _)
    | true =>
      rw [if_pos rfl]
      refine ⟨fun σ H => ∃ F m env S, Rel c F m σ env S H ∧ pS c F m D (whL t b n env S), fun σ' H' h' => ⟨n, Nat.lt_succ_self n, h'⟩, F1, m1, env, S, r, ?_⟩
      simp only [if_true] at h
      cases eb : b env S with
      | st => rw [eb] at h; exact h
      | nx env4 S4 => rw [eb] at h; exact fun F' m' σ H r s p => ⟨F', m', env4, S4, r, h.mono s p⟩
      | ct env4 S4 => rw [eb] at h; exact fun F' m' σ H r s p => ⟨F', m', env4, S4, r, h.mono s p⟩
      | bk env4 S4 => rw [eb] at h; exact h
      | rt q env4 S4 => rw [eb] at h; exact h
      | ex q env4 S4 => rw [eb] at h; exact h
end Dn
end
section
set_option Elab.async false
set_option linter.all false
set_option maxRecDepth 100000
set_option maxHeartbeats 1000000
namespace Dn
open PySem L2 PySem.Spec PyProof.Rows

/-! ### lists that no one knows yet -/
def pO (c : Cfg) (F : Hp) (m : List Addr) (σ : St) (Q : VK) : Out (List PV) → Prop
  | .st => False
  | .ok ps env S => ∀ F' m' H a vs, Rel c F' m' σ env S H → Same F F' → m <+: m' → F' a = none → a ∉ m' → c.H0 a = none → (∀ j, ¬ Own env σ j a) → H a = some (.lst vs) → RepL c.K F' m' vs ps → Q (.ref a) H
  | .ex x env S => ∀ F' m' H cls d, Rel c F' m' σ env S H → Same F F' → m <+: m' → ExR c F' m' H x cls d → c.W cls d σ H
def rO (c : Cfg) (d : Den (List PV)) : TE := fun σ H Q => ∃ F m env S, Rel c F m σ env S H ∧ pO c F m σ Q (d env S)
theorem pO.mono {c : Cfg} {F F1 : Hp} {m m1 : List Addr} {σ : St} {Q : VK} {o : Out (List PV)} (h : pO c F m σ Q o) (hs : Same F F1) (hm : m <+: m1) : pO c F1 m1 σ Q o := by
  cases o with
  | st => exact h
  | ok p env S => exact fun F' m' H a v r s1 p1 => h F' m' H a v r (hs.trans s1) (hm.trans p1)
  | ex x env S => exact fun F' m' H cls d r s1 p1 q => h F' m' H cls d r (hs.trans s1) (hm.trans p1) q
theorem Rel.fresh_ne {c : Cfg} {F H : Hp} {m : List Addr} {σ : St} {env : DEnv} {S : Stor} (r : Rel c F m σ env S H) {a : Addr} (h : H a = none) : F a = none ∧ a ∉ m ∧ c.H0 a = none ∧ (∀ j, ¬ Own env σ j a) ∧ c.F0 a = none := by
  have hF : F a = none := by
    cases q : F a with
    | none => rfl
    | some u => exact absurd h (r.r0.fne a u q)
  refine ⟨hF, fun z => ?_, r.free0 h, fun j o => ?_, ?_⟩
  · obtain ⟨o, ho⟩ := r.r0.mem z; rw [h] at ho; cases ho
  · obtain ⟨u, hu⟩ := r.own_there o; rw [h] at hu; cases hu
  · cases q : c.F0 a with
    | none => rfl
    | some u => have := r.f0 a u q; rw [hF] at this; cases this
/-- a thing that the relation does not speak of -/
theorem Rel.upd_free {c : Cfg} {F H : Hp} {m : List Addr} {σ : St} {env : DEnv} {S : Stor} {a : Addr} {o : HO} (r : Rel c F m σ env S H) (hF : F a = none) (hm : a ∉ m) (h0 : c.H0 a = none) (hn : ∀ j, ¬ Own env σ j a) (hl : ∀ ob u, H a ≠ some (.frz ob u)) : Rel c F m σ env S (upd H a o) where
  r0 := {
    sub := fun b u e => by
      have nb : b ≠ a := ne_of_none e hF
      rcases r.r0.sub b u e with h | ⟨l, d, ob, h⟩
      · exact .inl (by rw [upd_ne nb]; exact h)
      · exact .inr ⟨l, d, ob, by rw [upd_ne nb]; exact h⟩
    imm := r.r0.imm
    len := r.r0.len
    sto := fun j b so h1 h2 => (r.r0.sto j b so h1 h2).mono (Same.refl _) (List.prefix_refl _) (upd_ne fun z => hm (z ▸ List.mem_of_getElem? h1))
    nd := r.r0.nd
    muf := r.r0.muf
    lkd := fun b hb => by
      obtain ⟨ob, u, e⟩ := r.r0.lkd b hb
      exact ⟨ob, u, by rw [upd_ne (fun (z : b = a) => hl ob u (z ▸ e))]; exact e⟩ }
  len := r.len
  slot := fun j s e => (r.slot j s e).mono (Same.refl _) (List.prefix_refl _) fun b ob eb => upd_ne fun (z : b = a) => hn j (z ▸ ⟨s, e, ob, eb⟩)
  ownd := r.ownd
  ownf := r.ownf
  old := fun b u e hb => by
    have nb : b ≠ a := ne_of_none e h0
    rcases r.old b u e hb with h | ⟨l, d, ob, h⟩
    · exact .inl (by rw [upd_ne nb]; exact h)
    · exact .inr ⟨l, d, ob, by rw [upd_ne nb]; exact h⟩
  newm := r.newm
  pre := r.pre
  frn := r.frn
  f0 := r.f0
  lkh := r.lkh
theorem Rel.freeze_free {c : Cfg} {F H : Hp} {m : List Addr} {σ : St} {env : DEnv} {S : Stor} {a : Addr} {o : HO} (r : Rel c F m σ env S H) (hF : F a = none) (hm : a ∉ m) (h0 : c.H0 a = none) (hn : ∀ j, ¬ Own env σ j a) (ho : H a = some o) (im : Imm o) : Rel c (upd F a o) m σ env S H ∧ Same F (upd F a o) := by
  have same : Same F (upd F a o) := fun b u e => by rw [upd_ne (ne_of_none e hF)]; exact e
  refine ⟨⟨⟨fun b u e => ?_, fun b u e => ?_, r.r0.len, fun j b so h1 h2 => (r.r0.sto j b so h1 h2).mono same (List.prefix_refl _) rfl, r.r0.nd, fun b hb => ?_, r.r0.lkd⟩, r.len, fun j t e => (r.slot j t e).mono same (List.prefix_refl _) fun _ _ _ => rfl, r.ownd, fun j b h1 => ?_, r.old, r.newm, r.pre, fun b h => ?_, r.f0.trans same, r.lkh⟩, same⟩
  · by_cases q : b = a
    · subst q; rw [upd_same] at e; cases e; exact .inl ho
    · rw [upd_ne q] at e; exact r.r0.sub b u e
  · by_cases q : b = a
    · subst q; rw [upd_same] at e; cases e; exact im
    · rw [upd_ne q] at e; exact r.r0.imm b u e
  · rw [upd_ne (fun (q : b = a) => hm (q ▸ hb))]; exact r.r0.muf b hb
  · obtain ⟨g0, g1, g2⟩ := r.ownf j b h1
    exact ⟨by rw [upd_ne (fun (q : b = a) => hn j (q ▸ h1))]; exact g0, g1, g2⟩
  · by_cases q : b = a
    · subst q; exact .inr (.inl h0)
    · rw [upd_ne q] at h; exact r.frn b h
def dLs (d : Den (List PV)) : DE := d.bind fun ps => Den.pure (.lst ps)
/-- .. as a value -/
theorem o_val {X : Cx} {c : Cfg} {e : Expr} {d : Den (List PV)} (h : PE X e (rO c d)) : PE X e (rE c (dLs d)) := by
  refine PE.weak h fun σ H Q ⟨F, m, env, S, r, h⟩ => ⟨F, m, env, S, r, ?_⟩
  unfold dLs Den.bind at h
  cases e : d env S with
  | st => rw [e] at h; exact h
  | ex x env1 S1 => rw [e] at h; exact h
  | ok ps env1 S1 =>
    rw [e] at h
    intro F1 m1 H1 a vs r1 s1 p1 hF hm h0 hn ha q
    obtain ⟨r2, s2⟩ := r1.freeze_free hF hm h0 hn ha trivial
    exact h _ m1 H1 _ r2 (s1.trans s2) p1 (.lst upd_same (q.mono s2 (List.prefix_refl _)))
/-- .. as a name's own -/
def sSetO (i : Nat) (d : Den (List PV)) : DS := sE d fun ps e s => .nx (e.set i (.ol ps)) s
theorem asgO {c : Cfg} {d : Den (List PV)} {i : Nat} {D : Ends} {σ : St} {H : Hp} (h : rS c (sSetO i d) D σ H) : rO c d σ H fun x H1 => D.nx (σ.set i (some x)) H1 := by
  obtain ⟨F, m, env, S, r, h⟩ := h
  refine ⟨F, m, env, S, r, ?_⟩
  unfold sSetO sE at h
  cases e : d env S with
  | st => rw [e] at h; exact h
  | ex x env1 S1 => rw [e] at h; exact fun F' m' H cls d r s p q => h F' m' σ H cls d r s p q
  | ok ps env1 S1 =>
    rw [e] at h
    intro F1 m1 H1 a vs r1 s1 p1 hF hm h0 hn ha q
    exact h F1 m1 _ H1 (r1.set_own i hF hm h0 hn ⟨a, vs, rfl, ha, q⟩) s1 p1
theorem k_setO (i : Nat) {k : Nat} {X : Cx} {c : Cfg} {e : Expr} {d : Den (List PV)} {pos : Pos} {x : Str} {pos' : Pos} (hX : XOk k X c) (hi : X.N[i]? = some x) (hx : Loc X.env.scope x) (he : PE X e (rO c d)) (hs : swapsWith e (some (.Name x pos')) pos.line X.env = pure false := by rfl)
    (hf : X.fn x = true ∨ X.env.scope.names.lookup x = some .local := by first | exact .inl rfl | exact .inr rfl | assumption) : PS X (.Assign [.Name x pos'] e pos) (rS c (sSetO i d)) :=
  PS.weak (ps_set hX.nd hi hx he hs hf) fun D σ H h => asgO h
/-- .. into the store -/
def dNew (d : Den (List PV)) : DE := d.bind fun ps => fun e s => .ok (.ref s.length) e (s ++ [.lst ps])
theorem o_new {X : Cx} {c : Cfg} {e : Expr} {d : Den (List PV)} (h : PE X e (rO c d)) : PE X e (rE c (dNew d)) := by
  refine PE.weak h fun σ H Q ⟨F, m, env, S, r, h⟩ => ⟨F, m, env, S, r, ?_⟩
  unfold dNew Den.bind at h
  cases e : d env S with
  | st => rw [e] at h; exact h
  | ex x env1 S1 => rw [e] at h; exact h
  | ok ps env1 S1 =>
    rw [e] at h
    intro F1 m1 H1 a vs r1 s1 p1 hF hm h0 hn ha q
    refine h F1 (m1 ++ [a]) H1 _ (r1.alloc hF hm h0 hn ⟨vs, ha, q.mono (Same.refl _) (List.prefix_append _ _)⟩) s1 (p1.trans (List.prefix_append _ _)) (.ref ?_)
    rw [← r1.r0.len, List.getElem?_append_right (Nat.le_refl _), Nat.sub_self]
    rfl
/-- from a rule that lays a list -/
theorem o_of {β α : Type} {R : RP β α} {c : Cfg} {d : Den α} {g : α → Option (List PV)} {σ : St} {H : Hp} {Q : VK} (h : rO c (d.bind fun p => Den.opt (g p)) σ H Q) :
    rd R c d σ H fun v H1 => ∃ F1 m1 p env S ps, R c.K F1 m1 v p ∧ Rel c F1 m1 σ env S H1 ∧ g p = some ps ∧ ∀ a vs, H1 a = none → RepL c.K F1 m1 vs ps → Q (.ref a) (upd H1 a (.lst vs)) := by
  obtain ⟨F, m, env, S, r, h⟩ := h
  refine ⟨F, m, env, S, r, ?_⟩
  unfold Den.bind at h
  cases e : d env S with
  | st => rw [e] at h; exact h
  | ex x env1 S1 => rw [e] at h; exact h
  | ok p env1 S1 =>
    rw [e] at h
    have h : pO c F m σ Q (Den.opt (g p) env1 S1) := h
    cases eg : g p with
    | none => rw [eg] at h; exact h.elim
    | some ps =>
      rw [eg] at h
      refine fun F1 m1 H1 v r1 s1 p1 q1 => ⟨F1, m1, p, env1, S1, ps, q1, r1, eg, fun a vs ha q => ?_⟩
      obtain ⟨f1, f2, f3, f4, f5⟩ := r1.fresh_ne ha
      exact h F1 m1 _ a vs (r1.upd_free f1 f2 f3 f4 (fun ob u z => by rw [ha] at z; cases z)) s1 p1 f1 f2 f3 f4 upd_same q
/-- [a, b, ..] -/
def lDisp (dr : Den (List PV)) : Den (List PV) := dr.bind fun ps => Den.opt (if ps.length ≤ sizeLine then some ps else none)
theorem o_disp {X : Cx} {c : Cfg} {es : List Expr} {dr : Den (List PV)} {pos : Pos} (hr : PA X es (rA c dr)) : PE X (.List es pos) (rO c (lDisp dr)) := by
  refine PE.weak (pe_lst hr) fun σ H Q h => ?_
  refine (o_of (R := fun K F m v p => RepL K F m v p) h).imp fun v H1 ⟨F1, m1, p, env, S, ps, q, r, hg, h⟩ => ?_
  split at hg
  · rename_i hl
    cases hg
    exact ⟨by rw [q.length]; exact hl, fun a ha => h a v ha q⟩
  · cases hg
/-- list(range(n)) -/
def lRng (d : DE) : Den (List PV) := d.bind fun p => Den.opt (match p with
  | .int n => if -1000000 ≤ n ∧ n ≤ 1000000 then some (rngPV n) else none
  | _ => none)
/-! ### comprehensions -/
def wipeE (e : DEnv) : List Nat → DEnv
  | [] => e
  | v :: vs => (wipeE e vs).set v .un
def restE (e0 : DEnv) : List Nat → DEnv → DEnv
  | [], e => e
  | v :: vs, e => (restE e0 vs e).set v (e0[v]?.getD .un)
def lcL (own : List Nat) (g : PV → DEnv → Option DEnv) (dt : Den Bool) (de : DE) : List PV → List PV → Den (List PV)
  | [], acc => Den.pure acc
  | p :: ps, acc => fun e s => match g p e with
    | none => .st
    | some e1 => match dt e1 s with
      | .ok true e2 s2 => match de e2 s2 with
        | .ok v e3 s3 => if acc.length < sizeLine then lcL own g dt de ps (acc ++ [v]) (wipeE e3 own) s3 else .st
        | _ => .st
      | .ok false e2 s2 => lcL own g dt de ps acc (wipeE e2 own) s2
      | _ => .st
def noOwn (e : DEnv) (own : List Nat) : Bool := own.all fun i => match e[i]? with
  | some s => !s.own
  | none => true
def lComp (own : List Nat) (di : Den (List PV)) (g : PV → DEnv → Option DEnv) (dt : Den Bool) (de : DE) : Den (List PV) := di.bind fun ps => fun e s =>
  if noOwn e own then match lcL own g dt de ps [] (wipeE e own) s with
    | .ok acc e2 s2 => .ok acc (restE e own e2) s2
    | _ => .st
  else .st
def tTrue : Den Bool := Den.pure true
theorem wipeE_len (e : DEnv) : ∀ vs, (wipeE e vs).length = e.length
  | [] => rfl
  | v :: vs => by unfold wipeE; rw [List.length_set, wipeE_len e vs]
theorem wipeE_get (e : DEnv) (j : Nat) : ∀ vs : List Nat, (wipeE e vs)[j]? = if j ∈ vs then e[j]?.map (fun _ => Slot.un) else e[j]?
  | [] => by simp [wipeE]
  | v :: vs => by
    unfold wipeE
    have ih := wipeE_get e j vs
    by_cases q : v = j
    · subst q
      rw [if_pos List.mem_cons_self]
      by_cases hl : v < e.length
      · rw [List.getElem?_set_self (by rw [wipeE_len]; exact hl), List.getElem?_eq_getElem hl]; rfl
      · rw [List.getElem?_eq_none (by rw [List.length_set, wipeE_len]; exact Nat.le_of_not_lt hl), List.getElem?_eq_none (Nat.le_of_not_lt hl)]; rfl
    · rw [List.getElem?_set_ne q, ih]
      by_cases h : j ∈ vs
      · rw [if_pos h, if_pos (List.mem_cons_of_mem _ h)]
      · rw [if_neg h, if_neg (fun z => by rcases List.mem_cons.mp z with z | z; exact q z.symm; exact h z)]
theorem restE_len (e0 e : DEnv) : ∀ vs, (restE e0 vs e).length = e.length
  | [] => rfl
  | v :: vs => by unfold restE; rw [List.length_set, restE_len e0 e vs]
theorem restE_get (e0 e : DEnv) (j : Nat) : ∀ vs : List Nat, (restE e0 vs e)[j]? = if j ∈ vs then e[j]?.map (fun _ => e0[j]?.getD Slot.un) else e[j]?
  | [] => by simp [restE]
  | v :: vs => by
    unfold restE
    have ih := restE_get e0 e j vs
    by_cases q : v = j
    · subst q
      rw [if_pos List.mem_cons_self]
      by_cases hl : v < e.length
      · rw [List.getElem?_set_self (by rw [restE_len]; exact hl), List.getElem?_eq_getElem hl]; rfl
      · rw [List.getElem?_eq_none (by rw [List.length_set, restE_len]; exact Nat.le_of_not_lt hl), List.getElem?_eq_none (Nat.le_of_not_lt hl)]; rfl
    · rw [List.getElem?_set_ne q, ih]
      by_cases h : j ∈ vs
      · rw [if_pos h, if_pos (List.mem_cons_of_mem _ h)]
      · rw [if_neg h, if_neg (fun z => by rcases List.mem_cons.mp z with z | z; exact q z.symm; exact h z)]
section
variable {c : Cfg} {F F' H H' : Hp} {m m' : List Addr} {σ : St} {env env' : DEnv} {S S' : Stor}
theorem own_wipe {vs : List Nat} {i : Nat} {a : Addr} (o : Own (wipeE env vs) (wipe σ vs) i a) : i ∉ vs ∧ Own env σ i a := by
  obtain ⟨s, e, os, q⟩ := o
  rw [wipeE_get] at e
  rw [wipe_get] at q
  by_cases h : i ∈ vs
  · rw [if_pos h] at e
    obtain ⟨t, _, rfl⟩ := Option.map_eq_some_iff.mp e
    cases os
  · rw [if_neg h] at e q
    exact ⟨h, s, e, os, q⟩
theorem Rel.wipe (r : Rel c F m σ env S H) (vs : List Nat) : Rel c F m (L2.wipe σ vs) (wipeE env vs) S H where
  r0 := r.r0
  len := by rw [wipe_length, wipeE_len]; exact r.len
  slot := fun i s e => by
    rw [wipeE_get] at e
    rw [wipe_get]
    by_cases h : i ∈ vs
    · rw [if_pos h] at e
      obtain ⟨t, _, rfl⟩ := Option.map_eq_some_iff.mp e
      trivial
    · rw [if_neg h] at e ⊢
      exact r.slot i s e
  ownd := fun i j a h1 h2 => r.ownd i j a (own_wipe h1).2 (own_wipe h2).2
  ownf := fun i a h => r.ownf i a (own_wipe h).2
  old := r.old
  newm := r.newm
  pre := r.pre
  frn := r.frn
  f0 := r.f0
  lkh := r.lkh
theorem own_rest {vs : List Nat} {i : Nat} {a : Addr} (hno : noOwn env vs = true) (o : Own (restE env vs env') σ i a) : i ∉ vs ∧ Own env' (L2.wipe σ vs) i a := by
  obtain ⟨s, e, os, q⟩ := o
  rw [restE_get] at e
  by_cases h : i ∈ vs
  · rw [if_pos h] at e
    obtain ⟨t, _, rfl⟩ := Option.map_eq_some_iff.mp e
    unfold noOwn at hno
    have := List.all_eq_true.mp hno i h
    cases q2 : env[i]? with
    | none => rw [q2] at os; cases os
    | some u => rw [q2] at os this; simp at this os; rw [this] at os; cases os
  · rw [if_neg h] at e
    exact ⟨h, s, e, os, by rw [wipe_get, if_neg h]; exact q⟩
/-- behind the block -/
theorem Rel.rest {vs : List Nat} (hno : noOwn env vs = true) (r : Rel c F m σ env S H) (r' : Rel c F' m' (L2.wipe σ vs) env' S' H') (s : Same F F') (p : m <+: m') : Rel c F' m' σ (restE env vs env') S' H' where
  r0 := r'.r0
  len := by rw [restE_len, ← r'.len, wipe_length]
  slot := fun i t e => by
    rw [restE_get] at e
    by_cases h : i ∈ vs
    · rw [if_pos h] at e
      obtain ⟨t', _, rfl⟩ := Option.map_eq_some_iff.mp e
      unfold noOwn at hno
      have := List.all_eq_true.mp hno i h
      cases q2 : env[i]? with
      | none => trivial
      | some u =>
        rw [q2] at this
        have hs := r.slot i u q2
        show SlotR c.K F' m' H' σ[i]? u
        refine hs.mono s p fun a o _ => ?_
        have this : (!u.own) = true := this
        rw [o] at this; cases this
    · rw [if_neg h] at e
      have := r'.slot i t e
      rw [wipe_get, if_neg h] at this
      exact this
  ownd := fun i j a h1 h2 => r'.ownd i j a (own_rest hno h1).2 (own_rest hno h2).2
  ownf := fun i a h => r'.ownf i a (own_rest hno h).2
  old := r'.old
  newm := r'.newm
  pre := r'.pre
  frn := r'.frn
  f0 := r'.f0
  lkh := r'.lkh
/-- the new list is held as if it were old -/
theorem Rel.pin {W : WX} {D : Addr} {o : HO} (r : Rel c F m σ env S H) (hF : F D = none) (hm : D ∉ m) (hn : ∀ j, ¬ Own env σ j D) (ho : H D = some o) : Rel { c with H0 := upd c.H0 D o, W := W } F m σ env S H where
  r0 := r.r0
  len := r.len
  slot := r.slot
  ownd := r.ownd
  ownf := fun i a h => by
    obtain ⟨h1, h2, h3⟩ := r.ownf i a h
    refine ⟨h1, h2, ?_⟩
    show upd c.H0 D o a = none
    rw [upd_ne (fun (z : a = D) => hn i (z ▸ h))]
    exact h3
  old := fun a u e hb => by
    by_cases z : a = D
    · subst z
      have e : upd c.H0 a o a = some u := e
      rw [upd_same] at e; cases e
      exact .inl ho
    · have e : upd c.H0 D o a = some u := e
      rw [upd_ne z] at e
      exact r.old a u e hb
  newm := fun a ha hb => by
    show upd c.H0 D o a = none
    rw [upd_ne (fun (z : a = D) => hm (z ▸ ha))]
    exact r.newm a ha hb
  pre := r.pre
  frn := fun a h => by
    rcases r.frn a h with z | z
    · exact .inl z
    · refine .inr ?_
      show IT (upd c.H0 D o) a
      unfold IT
      rw [upd_ne (fun (q : a = D) => h (q ▸ hF))]
      exact z
  f0 := r.f0
  lkh := fun a ha => by
    obtain ⟨h1, ob, w, e⟩ := r.lkh a ha
    refine ⟨h1, ?_⟩
    by_cases z : a = D
    · subst z
      rcases r.old a _ e h1 with h | ⟨_, z, _⟩
      · rw [ho] at h; cases h
        exact ⟨ob, w, upd_same⟩
      · exact z.elim
    · exact ⟨ob, w, by show upd c.H0 D o a = _; rw [upd_ne z]; exact e⟩
theorem Rel.unpin {W : WX} {D : Addr} {vs : List V} (r : Rel { c with H0 := upd c.H0 D (.lst vs), W := W } F m σ env S H) (h0 : c.H0 D = none) (hF0 : c.F0 D = none) (hm0 : D ∉ c.m0) : Rel c F m σ env S H ∧ F D = none ∧ D ∉ m ∧ (∀ j, ¬ Own env σ j D) ∧ H D = some (.lst vs) := by
  have up : ∀ a, upd c.H0 D (.lst vs) a = none → c.H0 a = none := fun a h => by
    by_cases z : a = D
    · rw [z]; exact h0
    · rw [upd_ne z] at h; exact h
  refine ⟨⟨r.r0, r.len, r.slot, r.ownd, fun i a h => ?_, fun a u e hb => ?_, fun a ha hb => up a (r.newm a ha hb), r.pre, fun a h => ?_, r.f0, fun a ha => ?_⟩, ?_, fun hm => ?_, fun j h => ?_, ?_⟩
  · obtain ⟨h1, h2, h3⟩ := r.ownf i a h
    exact ⟨h1, h2, up a h3⟩
  · exact r.old a u (show upd c.H0 D (.lst vs) a = some u by rw [upd_ne (ne_of_none e h0)]; exact e) hb
  · rcases r.frn a h with z | z
    · exact .inl z
    · have z : IT (upd c.H0 D (.lst vs)) a := z
      refine .inr ?_
      by_cases q : a = D
      · rw [q]; exact .inl h0
      · unfold IT at z ⊢; rw [upd_ne q] at z; exact z
  · obtain ⟨h1, ob, w, e⟩ := r.lkh a ha
    have e : upd c.H0 D (.lst vs) a = some (.frz ob w) := e
    by_cases z : a = D
    · subst z; rw [upd_same] at e; cases e
    · rw [upd_ne z] at e; exact ⟨h1, ob, w, e⟩
  · cases q : F D with
    | none => rfl
    | some u =>
      rcases r.frn D (by rw [q]; exact fun z => nomatch z) with z | z
      · exact absurd hF0 z
      · have z : IT (upd c.H0 D (.lst vs)) D := z
        unfold IT at z; rw [upd_same] at z
        rcases z with z | ⟨_, z⟩ <;> cases z
  · have z : upd c.H0 D (.lst vs) D = none := r.newm D hm hm0
    rw [upd_same] at z; cases z
  · have z : upd c.H0 D (.lst vs) D = none := (r.ownf j D h).2.2
    rw [upd_same] at z; cases z
  · exact (r.old D (.lst vs) (show upd c.H0 D (.lst vs) D = _ from upd_same) hm0).lst
end
theorem PE.ex {X : Cx} {e : Expr} {ι : Type} {t : ι → TE} (h : ∀ i, PE X e (t i)) : PE X e (fun σ H Q => ∃ i, t i σ H Q) := ⟨fun pins s σ H Q I ⟨i, q⟩ => (h i).run pins s σ H Q I q⟩
theorem PG.ex {X : Cx} {e : Expr} {ι : Type} {t : ι → TG} (h : ∀ i, PG X e (t i)) : PG X e (fun v σ H Q => ∃ i, t i v σ H Q) := ⟨fun pins s σ H v u Q I r ⟨i, q⟩ => (h i).run pins s σ H v u Q I r q⟩
theorem PTs.ex {X : Cx} {e : List Expr} {ι : Type} {t : ι → TT} (h : ∀ i, PTs X e (t i)) : PTs X e (fun σ H Q => ∃ i, t i σ H Q) := ⟨fun pins s σ H Q I ⟨i, q⟩ => (h i).run pins s σ H Q I q⟩
theorem ts_nil {X : Cx} {c : Cfg} : PTs X [] (rT c tTrue) := ⟨fun pins s σ H Q I ⟨F, m, env, S, r, h⟩ => pts_nil.run pins s σ H Q I (h F m H true r (Same.refl _) (List.prefix_refl _) rfl)⟩
theorem ts_one {X : Cx} {c : Cfg} {e : Expr} {t : Den Bool} (h : PT X e (rT c t)) : PTs X [e] (rT c t) := pts_one h
def noW : WX := fun _ _ _ _ => False
/-- the same place, at other times; no exception is let out -/
abbrev Tm := Hp × List Addr × Hp × List Addr
def Cfg.al (c : Cfg) (t : Tm) : Cfg := ⟨c.K, c.mg, t.2.2.1, t.2.2.2, t.1, t.2.1, noW⟩
theorem XOk.blk {k : Nat} {X : Cx} {c : Cfg} (h : XOk k X c) {s : Shared} {H : Hp} {scope : Scope} {ce : PySem.Env} {fp : List Addr} (t : Tm) : XOk k (X.blk s H scope ce fp) (c.al t) :=
  ⟨h.K, h.mg, h.calm, h.nd, h.room, fun _ _ _ _ _ _ _ q => by obtain ⟨_, _, _, _, _, _, _, _, _, _, _, _, z⟩ := q; exact z.elim⟩
def gEx (c : Cfg) (is : List Nat) (g : PV → DEnv → Option DEnv) : TG := fun v σ H Q => ∃ t : Tm, rG (c.al t) is g v σ H Q
def tEx (c : Cfg) (dt : Den Bool) : TT := fun σ H Q => ∃ t : Tm, rT (c.al t) dt σ H Q
def eEx (c : Cfg) (de : DE) : TE := fun σ H Q => ∃ t : Tm, rE (c.al t) de σ H Q
/-- one walk, by its items -/
theorem lc_corD {c : Cfg} {vs : List Nat} {is : List Nat} {g : PV → DEnv → Option DEnv} {dt : Den Bool} {de : DE} (his : ∀ i ∈ is, i ∈ vs) {σ : St} {Q : VK} {ps : List PV} {F1 : Hp} {m1 : List Addr} {env1 : DEnv} {S1 : Stor} {H1 : Hp} {J : It} (r1 : Rel c F1 m1 σ env1 S1 H1) (it : ItR c J F1 m1 ps) (hno : noOwn env1 vs = true)
    (h : pO c F1 m1 σ Q (match lcL vs g dt de ps [] (wipeE env1 vs) S1 with | .ok acc e2 s2 => .ok acc (restE env1 vs e2) s2 | _ => .st)) (D : Addr) (hD : H1 D = none) : ∃ W : Nat → Nat → Hp → Prop, (∃ m, W 0 m (upd H1 D (.lst []))) ∧ ∀ i m H, W i m H →
  (J.stop i H ∧ Q (.ref D) H) ∨ (J.go i H ∧ ∃ Nx : Hp → Prop, (∀ H', Nx H' → ∃ m', m' < m ∧ W (i + 1) m' H') ∧ ∀ x H', J.yld i H x H' → gEx c is g x (L2.wipe σ vs) H' fun σ2 H2 => L2.wipe σ2 vs = L2.wipe σ vs ∧ tEx c dt σ2 H2 fun b H3 =>
    if b = true then eEx c de σ2 H3 fun y H4 => ∃ acc, H4 D = some (.lst acc) ∧ acc.length < sizeLine ∧ Nx (upd H4 D (.lst (acc ++ [y]))) else Nx H3) := by
  obtain ⟨f1, f2, f3, f4, f5⟩ := r1.fresh_ne hD
  have fm0 : D ∉ c.m0 := fun z => f2 (r1.pre.subset z)
  obtain ⟨G, Y, w, hG, hY⟩ := it
  refine lc_it w (g := gEx c is g) (tt := tEx c dt) (te := eEx c de) (vs := vs) (σ := σ) (H1 := H1) (D := D) (Qd := fun H => Q (.ref D) H) (fun i H => ∃ F2 m2 env2 S2 acc va, Same F1 F2 ∧ m1 <+: m2 ∧ Rel c F2 m2 (L2.wipe σ vs) env2 S2 H ∧ (F2 D = none ∧ D ∉ m2 ∧ ∀ j, ¬ Own env2 (L2.wipe σ vs) j D) ∧ H D = some (.lst va) ∧ RepL c.K F2 m2 va acc ∧
    pO c F1 m1 σ Q (match lcL vs g dt de (ps.drop i) acc env2 S2 with | .ok acc e2 s2 => .ok acc (restE env1 vs e2) s2 | _ => .st)) ?_ ?_ ?_ ?_
  · refine ⟨F1, m1, wipeE env1 vs, S1, [], [], Same.refl _, List.prefix_refl _, (r1.wipe vs).upd_free f1 f2 f3 (fun j o => f4 j (own_wipe o).2) (fun ob u z => by rw [hD] at z; cases z), ⟨f1, f2, fun j o => f4 j (own_wipe o).2⟩, upd_same, .nil, h⟩
  · rintro i H hi ⟨F2, m2, env2, S2, acc, va, s2, p2, r2, _⟩
    exact hG F2 m2 _ _ S2 H r2 s2 p2
  · rintro i x H H' hi ⟨F2, m2, env2, S2, acc, va, s2, p2, r2, ⟨g1, g2, g3⟩, hva, ra, h2⟩ y
    obtain ⟨F3, p, x3, hp3, rp⟩ := hY F2 m2 _ _ S2 H i x H' r2 s2 p2 hi y
    have ed : ps.drop i = p :: ps.drop (i + 1) := by
      rw [List.drop_eq_getElem_cons hi]
      rw [List.getElem?_eq_getElem hi] at hp3
      rw [Option.some.inj hp3]
    rw [ed] at h2
    unfold lcL at h2
    cases eg : g p env2 with
    | none => rw [eg] at h2; exact h2.elim
    | some env3 =>
      rw [eg] at h2
      have r3 := r2.ext x3
      have g1' : F3 D = none := by
        cases q : F3 D with
        | none => rfl
        | some u =>
          rcases x3.n D (by rw [q]; exact fun z => nomatch z) g1 with z | ⟨_, z⟩ <;> (rw [hva] at z; cases z)
      have hva' : H' D = some (.lst va) := x3.h _ _ hva
      have rp3 := r3.pin (W := noW) g1' g2 (fun j o => g3 j o) hva'
      refine ⟨(upd c.H0 D (.lst va), c.lk, c.F0, c.m0), F3, m2, env2, S2, p, rp3, rp, env3, eg, fun σ' r4 hw => ?_⟩
      have hw2 : L2.wipe σ' vs = L2.wipe (L2.wipe σ vs) vs := hw vs his
      have hww : L2.wipe (L2.wipe σ vs) vs = L2.wipe σ vs := by
        apply List.ext_getElem?
        intro j
        rw [wipe_get, wipe_get]
        by_cases hj : j ∈ vs
        · rw [if_pos hj, if_pos hj]; cases σ[j]? <;> rfl
        · rw [if_neg hj, if_neg hj]
      have hw3 := hw2.trans hww
      refine ⟨hw3, (upd c.H0 D (.lst va), c.lk, c.F0, c.m0), F3, m2, env3, S2, r4, ?_⟩
      dsimp only at h2
      cases et : dt env3 S2 with
      | st => rw [et] at h2; exact h2.elim
      | ex x env4 S4 => rw [et] at h2; exact h2.elim
      | ok b env4 S4 =>
        rw [et] at h2
        intro F4 m4 H4 b' r5 s5 p5 hb
        have hb : b' = b := hb
        subst hb
        cases b' with
        | false =>
          rw [if_neg Bool.false_ne_true]
          obtain ⟨r6, g4, g5, g6, g7⟩ := r5.unpin f3 f5 fm0
          refine ⟨F4, m4, wipeE env4 vs, S4, acc, va, s2.trans (x3.f.trans s5), p2.trans p5, by rw [← hw3]; exact r6.wipe vs, ⟨g4, g5, fun j o => ?_⟩, g7, ra.mono (x3.f.trans s5) p5, h2⟩
          rw [← hw3] at o
          exact g6 j (own_wipe o).2
        | true =>
          rw [if_pos rfl]
          refine ⟨(upd c.H0 D (.lst va), c.lk, c.F0, c.m0), F4, m4, env4, S4, r5, ?_⟩
          dsimp only at h2
          cases ee : de env4 S4 with
          | st => rw [ee] at h2; exact h2.elim
          | ex x env5 S5 => rw [ee] at h2; exact h2.elim
          | ok v env5 S5 =>
            rw [ee] at h2
            dsimp only at h2
            by_cases hl : acc.length < sizeLine
            · rw [if_pos hl] at h2
              intro F5 m5 H5 yv r7 s7 p7 ry
              obtain ⟨r8, g4, g5, g6, g7⟩ := r7.unpin f3 f5 fm0
              have s25 : Same F2 F5 := x3.f.trans (s5.trans s7)
              have p25 : m2 <+: m5 := p5.trans p7
              refine ⟨va, g7, by rw [ra.length]; exact hl, F5, m5, wipeE env5 vs, S5, acc ++ [v], va ++ [yv], s2.trans s25, p2.trans p25, ?_, ⟨g4, g5, fun j o => ?_⟩, upd_same, (ra.mono s25 p25).append (.cons ry .nil), h2⟩
              · rw [← hw3]
                exact (r8.upd_free g4 g5 f3 g6 (fun ob u z => by rw [g7] at z; cases z)).wipe vs
              · rw [← hw3] at o
                exact g6 j (own_wipe o).2
            · rw [if_neg hl] at h2
              exact h2.elim
  · rintro H ⟨F2, m2, env2, S2, acc, va, s2, p2, r2, ⟨g1, g2, g3⟩, hva, ra, h2⟩
    rw [List.drop_length] at h2
    have h2 : pO c F1 m1 σ Q (.ok acc (restE env1 vs env2) S2) := h2
    exact h2 F2 m2 H D va (r1.rest hno r2 s2 p2) s2 p2 g1 g2 f3 (fun j o => g3 j (own_rest hno o).2) hva ra
theorem lc_read {c : Cfg} {own : List (Str × Nat)} {di : Den (List PV)} {is : List Nat} {g : PV → DEnv → Option DEnv} {dt : Den Bool} {de : DE} (his : ∀ i ∈ is, i ∈ own.map (·.2)) {σ : St} {H : Hp} {Q : VK} (h : rO c (lComp (own.map (·.2)) di g dt de) σ H Q) :
    tLc (rI c di) (gEx c is g) (tEx c dt) (eEx c de) (own.map (·.2)) σ H Q := by
  obtain ⟨F, m, env, S, r, h⟩ := h
  refine ⟨F, m, env, S, r, ?_⟩
  generalize hvs : own.map (·.2) = vs at h his ⊢
  unfold lComp Den.bind at h
  cases e : di env S with
  | st => rw [e] at h; exact h
  | ex x env1 S1 => rw [e] at h; exact h
  | ok ps env1 S1 =>
    rw [e] at h
    have h : pO c F m σ Q (if noOwn env1 vs then match lcL vs g dt de ps [] (wipeE env1 vs) S1 with | .ok acc e2 s2 => .ok acc (restE env1 vs e2) s2 | _ => .st else .st) := h
    by_cases hno : noOwn env1 vs = true
    · rw [if_pos hno] at h
      intro F1 m1 H1 J r1 s1 p1 it D hD
      exact lc_corD his r1 it hno (h.mono s1 p1) D hD
    · rw [if_neg hno] at h
      exact h.elim

theorem o_comp {k : Nat} {X : Cx} {c : Cfg} {elt tg iter : Expr} {ifs : List Expr} {scope : Scope} {own : List (Str × Nat)} {pos : Pos} {di : Den (List PV)} {is : List Nat} {g : PV → DEnv → Option DEnv} {dt : Den Bool} {de : DE} (hX : XOk k X c)
    (ok : BlkOk X.N X.env.scope scope own) (hi : PI X tg iter (rI c di)) (his : ∀ i ∈ is, i ∈ own.map (·.2))
    (hg : ∀ (c : Cfg) (s : Shared) (H : Hp) (C : Addr) (cl : List (Str × Addr)) (fp : List Addr), XOk k (X.blk s H scope (compEnvC scope cl C X.env) fp) c → PG (X.blk s H scope (compEnvC scope cl C X.env) fp) tg (rG c is g))
    (ht : ∀ (c : Cfg) (s : Shared) (H : Hp) (C : Addr) (cl : List (Str × Addr)) (fp : List Addr), XOk k (X.blk s H scope (compEnvC scope cl C X.env) fp) c → PTs (X.blk s H scope (compEnvC scope cl C X.env) fp) ifs (rT c dt))
    (he : ∀ (c : Cfg) (s : Shared) (H : Hp) (C : Addr) (cl : List (Str × Addr)) (fp : List Addr), XOk k (X.blk s H scope (compEnvC scope cl C X.env) fp) c → PE (X.blk s H scope (compEnvC scope cl C X.env) fp) elt (rE c de))
    (hs : ∀ x, foldedSetIterable iter X.env x = pure x := by intro _; rfl) : PE X (.ListComp elt [⟨tg, iter, ifs, 0⟩] scope pos) (rO c (lComp (own.map (·.2)) di g dt de)) :=
  PE.weak (pe_lc (g := gEx c is g) (tt := tEx c dt) (te := eEx c de) hX.calm hX.nd hi ok (fun s H C cl fp => PG.ex fun H0 => hg (c.al H0) s H C cl fp (hX.blk H0)) (fun s H C cl fp => PTs.ex fun H0 => ht (c.al H0) s H C cl fp (hX.blk H0)) (fun s H C cl fp => PE.ex fun H0 => he (c.al H0) s H C cl fp (hX.blk H0)) hs) fun σ H Q h => lc_read his h

section
variable {i : Nat} {y : Str} {py spos : Pos} {k : Nat} {X : Cx} {c : Cfg} {elt tg iter : Expr} {ifs : List Expr} {scope : Scope} {own : List (Str × Nat)} {pos : Pos} {di : Den (List PV)} {is : List Nat} {g : PV → DEnv → Option DEnv} {dt : Den Bool} {de : DE}
end
end Dn
end
section
set_option Elab.async false
set_option linter.all false
set_option maxRecDepth 100000
set_option maxHeartbeats 1000000
namespace Dn
open PySem L2 PySem.Spec PyProof.Rows

theorem own_of {env : DEnv} {σ : St} {i : Nat} {s : Slot} {a : Addr} (e : env[i]? = some s) (o : s.own = true) (h : σ[i]? = some (some (.ref a))) : Own env σ i a := ⟨s, e, o, h⟩

/-! ### statements that change what a name owns -/
/-- x.append(e) -/
def sApp (i : Nat) (da : DE) : DS := fun e s => match e[i]? with
  | some (.ol _) => sE da (fun p e s => match e[i]? with
      | some (.ol xs) => if xs.length < sizeLine then .nx (e.set i (.ol (xs ++ [p]))) s else .st
      | _ => .st) e s
  | _ => .st
section
variable {k : Nat} {X : Cx} {c : Cfg} {e : Expr} {da de : DE} {x : Str} {p1 p2 p3 pos : Pos}
theorem tyL {K : PySem.W.Frag} {H : Hp} {a : Addr} {vs : List V} (h : H a = some (.lst vs)) : tyV K "list" (.ref a) H := Or.inl ⟨rfl, _, Or.inl (Or.inl h)⟩
/-- what follows a value, in the statement's own slots -/
theorem at_slot {d : DE} {kk : PV → DS} {F : Hp} {m : List Addr} {D : Ends} {σ : St} {H : Hp} {Q : VK} (h : rSAt c (sE d kk) F m D σ H) (w : ∀ v H1 F1 m1 p env S, Rel c F1 m1 σ env S H1 → Rep c.K F1 m1 v p → pS c F1 m1 D (kk p env S) → Q v H1) : rE c d σ H Q :=
  (sE_of h).imp fun v H1 ⟨F1, m1, p, _, _, q, env, S, r, h⟩ => w v H1 F1 m1 p env S r q h
theorem k_app (i : Nat) (hX : XOk k X c) (hN : X.N[i]? = some x) (hv : Vis X.env.scope x) (ha : PE X e (rE c da)) (hd : (x == ("__debug__" : Str)) = false := by decide) (hcd : (x == ("__classdict__" : Str)) = false := by decide)
    (hs : swapsWith (.Call (.Attribute (.Name x p1) "append" p2) [e] [] p3) none pos.line X.env = pure false := by rfl)
    (hpe : ∀ {t : TE}, PE X (.Name x p1) (tVar i) → PE X e t → PE X (.Call (.Attribute (.Name x p1) "append" p2) [e] [] p3) (tBM X.K "list" rAppend (tVar i) (tCons t tNil)) := by exact fun h1 h2 => pe_bm PySem.F.plainAttrs_list PySem.F.slot_list_append PySem.F.type_list_append mt_append h1 (pa_cons h2 pa_nil)) :
    PS X (.Expr (.Call (.Attribute (.Name x p1) "append" p2) [e] [] p3) pos) (rS c (sApp i da)) := by
  refine PS.weak (ps_expr (hpe (pe_var (i := i) hN hv hd hcd) ha) hs) fun D σ H ⟨F, m, env, S, r, h⟩ => ?_
  unfold sApp at h
  split at h
  · rename_i ps0 e0
    obtain ⟨a, vs, hva, hoa, _⟩ := r.slot i _ e0
    refine ⟨_, hva, tyL hoa, ?_⟩
    refine at_slot (D := D) ⟨env, S, r, h⟩ fun v H1 F1 m1 p env S r q h => ?_
    split at h
    · rename_i xs e1
      split at h
      · rename_i hl
        obtain ⟨a', vs', hva', hoa', rl⟩ := r.slot i _ e1
        rw [hva] at hva'; cases hva'
        have ow := own_of e1 rfl hva
        refine ⟨a, vs', v, rfl, rfl, hoa', by rw [rl.length]; exact hl, ?_⟩
        exact h F1 m1 σ _ (r.upd_own ow ⟨a, _, rfl, upd_same, rl.append (.cons q .nil)⟩) (Same.refl _) (List.prefix_refl _)
      · exact h.elim
    · exact h.elim
  · exact h.elim
/-! ### looks at what a name owns -/
/-- x[e], a list, a dict -/
def getO (s : Slot) (q : PV) : Option PV := match s, q with
  | .ol xs, .int j => atI xs j
  | .od kvs, q => (keyP q).bind fun k => getKV kvs k
  | .ot kvs, .tup ks => (keysP ks).bind fun k => getKV kvs k
  | _, _ => none
def dIxO (i : Nat) (da : DE) : DE := fun e s => match e[i]? with
  | some sl => if sl.own then (da.bind fun q => fun e s => match e[i]? with
      | some sl => match getO sl q with
        | some p => .ok p e s
        | none => .st
      | none => .st) e s else .st
  | none => .st
theorem slot_ref {F : Hp} {m : List Addr} {σ : St} {env : DEnv} {S : Stor} {H : Hp} (r : Rel c F m σ env S H) {i : Nat} {s : Slot} (e : env[i]? = some s) (o : s.own = true) : ∃ a, σ[i]? = some (some (.ref a)) := by
  have := r.slot i s e
  cases s with
  | un => cases o
  | v p => cases o
  | ol ps => obtain ⟨a, vs, h1, h2, h3⟩ := this; exact ⟨a, h1⟩
  | od ps => obtain ⟨a, vs, h1, h2, h3⟩ := this; exact ⟨a, h1⟩
  | ot ps => obtain ⟨a, vs, h1, h2, h3⟩ := this; exact ⟨a, h1⟩
theorem getO_rep {K : PySem.W.Frag} {mg : Str → Option Value} {lk : List Addr} {F H : Hp} {m : List Addr} {S : Stor} (R : R0 K mg lk F m S H) {a : Addr} {s : Slot} (hs : SlotR K F m H (some (some (.ref a))) s) {y : V} {q p : PV} (ry : Rep K F m y q) (h : getO s q = some p) : ∃ v, rIxP K (.ref a) y H (fun w H' => w = v ∧ H' = H) ∧ Rep K F m v p := by
  unfold getO at h
  split at h
  · cases ry
    obtain ⟨a', vs, h1, h2, h3⟩ := hs
    cases h1
    obtain ⟨v, h4, h5⟩ := atI_rep h3 h
    exact ⟨v, .inl (.inl ⟨_, _, _, v, rfl, rfl, SqL.of h2, h4, rfl, rfl⟩), h5⟩
  · obtain ⟨kk, hk, hg⟩ := Option.bind_eq_some_iff.mp h
    obtain ⟨a', vs, h1, h2, h3⟩ := hs
    cases h1
    have e := key_rep ry hk
    subst e
    rcases h3.get kk with ⟨v, p', g1, g2, g3⟩ | ⟨g1, g2⟩
    · rw [hg] at g2; cases g2
      exact ⟨v, .inr ⟨a, v, rfl, .inl ⟨vs, kk, .inl h2, rfl, g1.symm⟩, rfl, rfl⟩, g3⟩
    · rw [hg] at g2; cases g2
  · obtain ⟨kk, hk, hg⟩ := Option.bind_eq_some_iff.mp h
    obtain ⟨a', vs, h1, h2, h3⟩ := hs
    cases h1
    cases ry with
    | tup hf rl =>
      have e := keys_rep rl hk
      subst e
      rcases h3.get kk with ⟨v, p', g1, g2, g3⟩ | ⟨g1, g2⟩
      · rw [hg] at g2; cases g2
        exact ⟨v, .inr ⟨a, v, rfl, .inr ⟨vs, kk, _, .inl h2, rfl, (R.sub _ _ hf).tup, g1.symm⟩, rfl, rfl⟩, g3⟩
      · rw [hg] at g2; cases g2
  · cases h
theorem rIxP_imp {K : PySem.W.Frag} {x y : V} {H : Hp} {Q Q' : VK} (h : rIxP K x y H Q) (w : ∀ v H, Q v H → Q' v H) : rIxP K x y H Q' := by
  rcases h with (⟨p, xs, i, v, a, b, c, d, e⟩ | ⟨p, xs, i, v, a, b, c, d, e⟩ | ⟨z, i, cc, a, b, c, d, e⟩) | ⟨a, v, b, c, d⟩
  · exact .inl (.inl ⟨p, xs, i, v, a, b, c, d, w _ _ e⟩)
  · exact .inl (.inr (.inl ⟨p, xs, i, v, a, b, c, d, w _ _ e⟩))
  · exact .inl (.inr (.inr ⟨z, i, cc, a, b, c, d, w _ _ e⟩))
  · exact .inr ⟨a, v, b, c, w _ _ d⟩
theorem r_ixO (i : Nat) (hX : XOk k X c) (hN : X.N[i]? = some x) (hv : Vis X.env.scope x) (hb : PE X e (rE c da)) (hd : (x == ("__debug__" : Str)) = false := by decide) (hcd : (x == ("__classdict__" : Str)) = false := by decide) (hs : PlainIx e := by intro _ _; rfl) :
    PE X (.Subscript (.Name x p1) e pos) (rE c (dIxO i da)) := by
  refine PE.weak (pe_ix (ix_seq.or (ix_dict (hu_of hX.room))) (pe_var (i := i) hN hv hd hcd) hb hs) fun σ H Q ⟨F, m, env, S, r, h⟩ => ?_
  obtain ⟨K, mg, F0, m0, H0, lk, W⟩ := c
  obtain rfl := hX.K
  obtain rfl := hX.mg
  unfold dIxO at h
  split at h
  · rename_i sl e0
    split at h
    · rename_i ho
      obtain ⟨a, hva⟩ := slot_ref r e0 ho
      refine ⟨_, hva, ?_⟩
      refine (rd_bind (R := fun K F m v p => Rep K F m v p) (R' := fun K F m v p => Rep K F m v p) ⟨env, S, r, h⟩).imp fun v H1 ⟨F1, m1, p, _, _, q, env, S, r, h⟩ => ?_
      dsimp only at h
      split at h
      · rename_i sl2 e1
        split at h
        · rename_i p hp
          have hsl := r.slot i _ e1
          rw [hva] at hsl
          obtain ⟨w, h1, h2⟩ := getO_rep r.r0 hsl q hp
          refine rIxP_imp h1 fun u H' hu => ?_
          obtain ⟨rfl, rfl⟩ := hu
          exact h F1 m1 _ _ r (Same.refl _) (List.prefix_refl _) h2
        · exact h.elim
      · exact h.elim
    · exact h.elim
  · exact h.elim
/-- e in x, x a dict -/
def inO (s : Slot) (q : PV) : Option Bool := match s, q with
  | .od kvs, q => (keyP q).map fun k => (getKV kvs k).isSome
  | .ot kvs, .tup ks => (keysP ks).map fun k => (getKV kvs k).isSome
  | _, _ => none
def dInO (neg : Bool) (i : Nat) (da : DE) : DE := da.bind fun q => fun e s => match e[i]? with
  | some sl => match inO sl q with
    | some b => .ok (.bl (if neg then !b else b)) e s
    | none => .st
  | none => .st
theorem inO_rep {K : PySem.W.Frag} {mg : Str → Option Value} {lk : List Addr} {F H : Hp} {m : List Addr} {S : Stor} (R : R0 K mg lk F m S H) {sv : Option (Option V)} {s : Slot} (hs : SlotR K F m H sv s) {y : V} {q : PV} {b : Bool} (ry : Rep K F m y q) (h : inO s q = some b) : ∃ a o, sv = some (some (.ref a)) ∧ DGet H a y o ∧ o.isSome = b := by
  unfold inO at h
  split at h
  · obtain ⟨kk, hk, rfl⟩ := Option.map_eq_some_iff.mp h
    obtain ⟨a, vs, h1, h2, h3⟩ := hs
    have e := key_rep ry hk
    subst e
    refine ⟨a, valV vs kk, h1, .inl ⟨vs, kk, .inl h2, rfl, rfl⟩, ?_⟩
    rcases h3.get kk with ⟨v, p', g1, g2, g3⟩ | ⟨g1, g2⟩ <;> rw [g1, g2] <;> rfl
  · obtain ⟨kk, hk, rfl⟩ := Option.map_eq_some_iff.mp h
    obtain ⟨a, vs, h1, h2, h3⟩ := hs
    cases ry with
    | tup hf rl =>
      have e := keys_rep rl hk
      subst e
      refine ⟨a, valV vs kk, h1, .inr ⟨vs, kk, _, .inl h2, rfl, (R.sub _ _ hf).tup, rfl⟩, ?_⟩
      rcases h3.get kk with ⟨v, p', g1, g2, g3⟩ | ⟨g1, g2⟩ <;> rw [g1, g2] <;> rfl
  · cases h
theorem inO_of {neg : Bool} {i : Nat} (hX : XOk k X c) {σ : St} {H : Hp} {Q : VK} (h : rE c (dInO neg i da) σ H Q) : rE c da σ H fun v H1 => ∃ w, σ[i]? = some (some w) ∧ ∃ a o, w = .ref a ∧ DGet H1 a v o ∧ Q (.bl (if neg then !o.isSome else o.isSome)) H1 := by
  obtain ⟨F, m, h⟩ := h
  refine (rd_bind h).imp fun v H1 ⟨F1, m1, p, _, _, q, env, S, r, h⟩ => ?_
  dsimp only at h
  split at h
  · rename_i sl e1
    split at h
    · rename_i b hb
      obtain ⟨a, o, h1, h2, h3⟩ := inO_rep r.r0 (r.slot i _ e1) q hb
      refine ⟨_, h1, a, o, rfl, h2, ?_⟩
      rw [h3]
      exact h F1 m1 _ _ r (Same.refl _) (List.prefix_refl _) (.bl _)
    · exact h.elim
  · exact h.elim
theorem t_notInO (i : Nat) (hX : XOk k X c) (hN : X.N[i]? = some x) (hv : Vis X.env.scope x) (ha : PE X e (rE c da)) (hd : (x == ("__debug__" : Str)) = false := by decide) (hcd : (x == ("__classdict__" : Str)) = false := by decide) : PT X (.Compare e [.NotIn] [.Name x p1] pos) (rT c (dT (dInO true i da))) :=
  PT.weak (pt_cmpR (op_dNotIn (hu_of hX.room)) ha (pe_var (i := i) hN hv hd hcd) rfl) fun σ H Q h => inO_of hX (dT_of h)
/-! ### stores by place -/
/-- o[i] = e, o a list of the store -/
def setS (S : Stor) (o q p : PV) : Option Stor := match o, q with
  | .ref n, .int j => match S[n]? with
    | some (.lst xs) => (ixN xs.length j).map fun jj => S.set n (.lst (xs.set jj p))
    | _ => none
  | _, _ => none
theorem setS_inv {S S' : Stor} {o q p : PV} (h : setS S o q p = some S') : ∃ n j xs jj, o = .ref n ∧ q = .int j ∧ S[n]? = some (.lst xs) ∧ ixN xs.length j = some jj ∧ S' = S.set n (.lst (xs.set jj p)) := by
  unfold setS at h
  split at h
  · split at h
    · rename_i hs
      obtain ⟨jj, hj, rfl⟩ := Option.map_eq_some_iff.mp h
      exact ⟨_, _, _, jj, rfl, rfl, hs, hj, rfl⟩
    · cases h
  · cases h
def sSetR (dobj di de : DE) : DS := sE de fun p => sE dobj fun o => sE di fun q => fun e s => match setS s o q p with
  | some s => .nx e s
  | none => .st
theorem k_setR {o i : Expr} {dobj di : DE} {ps : Pos} (hX : XOk k X c) (he : PE X e (rE c de)) (ho : PE X o (rE c dobj)) (hi : PE X i (rE c di))
    (ha : ∀ v, assign (.Subscript o i ps) X.env v = (do
      let ov ← holding [v] (eval o X.env)
      let iv ← holding [v, ov] (eval i X.env)
      standAt ps
      holding [v, ov, iv] (setItem ov iv v)
      release [v, ov, iv] []) := by intro _; rfl)
    (hs : swapsWithSole [.Subscript o i ps] e pos.line X.env = pure false := by rfl) (hw : swappedStores [.Subscript o i ps] e X.env = pure none := by rfl)
    (h1 : (assignEach [.Subscript o i ps] X.env).map (·.2) = [assign (.Subscript o i ps) X.env] := by rfl) : PS X (.Assign [.Subscript o i ps] e pos) (rS c (sSetR dobj di de)) := by
  refine PS.weak (ps_asg he (pg_sub ho hi set_list ha) hs hw h1) fun D σ H ⟨F, m, h⟩ => ?_
  refine (sE_of h).imp fun v H1 ⟨F1, m1, p, _, _, q1, h⟩ => ?_
  refine (sE_of h).imp fun w H2 ⟨F2, m2, p2, s2, t2, q2, h⟩ => ?_
  refine (sE_of h).imp fun u H3 ⟨F3, m3, p3, s3, t3, q3, env, S, r, h⟩ => ?_
  dsimp only at h
  cases e1 : setS S p2 p3 p with
  | none => rw [e1] at h; exact h.elim
  | some S' =>
    rw [e1] at h
    obtain ⟨n, j, xs, jj, rfl, rfl, hxs, hj, rfl⟩ := setS_inv e1
    have q2 := q2.mono s3 t3
    cases q2 with
    | ref hm =>
      cases q3
      obtain ⟨vs, h2, h3⟩ := r.r0.sto _ _ _ hm hxs
      refine ⟨_, vs, j, jj, rfl, rfl, h2, by rw [h3.length]; exact hj, ?_⟩
      exact h F3 m3 σ _ (r.upd_sto hm ⟨_, upd_same, h3.set ((q1.mono s2 t2).mono s3 t3) jj⟩) (Same.refl _) (List.prefix_refl _)
/-- x[i] = e, x owned: a list or a dict -/
def putO (s : Slot) (q p : PV) : Option Slot := match s, q with
  | .ol xs, .int j => (ixN xs.length j).map fun jj => .ol (xs.set jj p)
  | .od kvs, q => if kvs.length < sizeLine then (keyP q).map fun k => .od (putKV kvs k p) else none
  | .ot kvs, .tup ks => if kvs.length < sizeLine then (keysP ks).map fun k => .ot (putKV kvs k p) else none
  | _, _ => none
end
end Dn
end
section
set_option Elab.async false
set_option linter.all false
set_option maxRecDepth 100000
set_option maxHeartbeats 1000000
namespace Dn
open PySem L2 PySem.Spec PyProof.Rows

/-! ### the names of the boot -/
theorem bt_len : bootBuiltins "len" = some (.builtin "len") := by decide +kernel
theorem bt_abs : bootBuiltins "abs" = some (.builtin "abs") := by decide +kernel
theorem bt_int : bootBuiltins "int" = some (.type "int") := by decide +kernel
theorem bt_bool : bootBuiltins "bool" = some (.type "bool") := by decide +kernel
theorem bt_str : bootBuiltins "str" = some (.type "str") := by decide +kernel
theorem bt_list : bootBuiltins "list" = some (.type "list") := by decide +kernel
theorem bt_tuple : bootBuiltins "tuple" = some (.type "tuple") := by decide +kernel
theorem bt_sorted : bootBuiltins "sorted" = some (.builtin "sorted") := by decide +kernel
theorem bt_all : bootBuiltins "all" = some (.builtin "all") := by decide +kernel
theorem bt_max : bootBuiltins "max" = some (.builtin "max") := by decide +kernel
/-! ### names of the module -/
theorem r_globI {X : Cx} {c : Cfg} {x : Str} {pos : Pos} {n : Int} (hg : Gl X x) (hm : ∃ t, X.mg x = some (.int n t)) (hd : (x == ("__debug__" : Str)) = false := by decide) : PE X (.Name x pos) (rE c (dC (.int n))) :=
  let ⟨t, hm⟩ := hm; PE.weak (pe_glob (v := .int n) hg hm ⟨t, rfl⟩ hd) fun _ _ _ ⟨_, _, h⟩ => h.end0 (Rep.int n)
/-! ### what is walked: a list or a tuple -/
theorem PI.or {X : Cx} {tg e : Expr} {t t' : TI} (h : PI X tg e t) (h' : PI X tg e t') : PI X tg e (fun σ H R => t σ H R ∨ t' σ H R) := ⟨fun pins s σ H R I q => q.elim (h.run pins s σ H R I) (h'.run pins s σ H R I)⟩
def itemsP : PV → Option (List PV)
  | .lst xs => some xs
  | .rol xs => some xs
  | .tup xs => some xs
  | .ftp xs => some xs
  | _ => none
def dItS (d : DE) : Den (List PV) := d.bind fun p => Den.opt (itemsP p)
theorem i_seq {k : Nat} {X : Cx} {c : Cfg} {tg e : Expr} {de : DE} (hX : XOk k X c) (he : PE X e (rE c de)) : PI X tg e (rI c (dItS de)) := by
  refine PI.weak (Dn.PI.or (i_list hX he) (i_tup hX he)) fun σ H Q ⟨F, m, env, S, r, h⟩ => ?_
  unfold dItS Den.bind at h
  cases e1 : de env S with
  | st => rw [e1] at h; exact h.elim
  | ex x env1 S1 => rw [e1] at h; exact .inl ⟨F, m, env, S, r, by unfold dItL Den.bind; rw [e1]; exact h⟩
  | ok p env1 S1 =>
    rw [e1] at h
    cases p with
    | lst xs => exact .inl ⟨F, m, env, S, r, by unfold dItL Den.bind; rw [e1]; exact h⟩
    | rol xs => exact .inl ⟨F, m, env, S, r, by unfold dItL Den.bind; rw [e1]; exact h⟩
    | tup xs => exact .inr ⟨F, m, env, S, r, by unfold dItT Den.bind; rw [e1]; exact h⟩
    | ftp xs => exact .inr ⟨F, m, env, S, r, by unfold dItT Den.bind; rw [e1]; exact h⟩
    | _ => exact (show False from h).elim

/-! ### slices -/
def slP (p : PV) (lo hi : Option Int) : Option PV := match p with
  | .tup xs => some (.tup ((xs.drop (HT.sIx xs.length 0 lo)).take (HT.sIx xs.length xs.length hi - HT.sIx xs.length 0 lo)))
  | .lst xs => some (.lst ((xs.drop (HT.sIx xs.length 0 lo)).take (HT.sIx xs.length xs.length hi - HT.sIx xs.length 0 lo)))
  | .str z => if z.length ≤ sizeLine then some (.str (cutS z lo hi)) else none
  | _ => none
theorem rl_cut {K : PySem.W.Frag} {F F' : Hp} {m : List Addr} {vs : List V} {xs : List PV} (rl : RepL K F m vs xs) (l u : Option Int) (s : Same F F') : RepL K F' m (cutV vs l u) ((xs.drop (HT.sIx xs.length 0 l)).take (HT.sIx xs.length xs.length u - HT.sIx xs.length 0 l)) := by
  have e : cutV vs l u = (vs.drop (HT.sIx xs.length 0 l)).take (HT.sIx xs.length xs.length u - HT.sIx xs.length 0 l) := by unfold cutV; rw [rl.length]
  rw [e]
  exact ((rl.mono s (List.prefix_refl _)).drop _).take _
abbrev rO3 (c : Cfg) (d : Den (Option Int)) : TO := rd (fun _ _ _ v p => v = p) c d
def oNo : Den (Option Int) := Den.pure none
def oSome (d : DE) : Den (Option Int) := d.bind fun p => match p with
  | .int i => Den.pure (some i)
  | _ => Den.fail
def dSl (da : DE) (lo hi : Den (Option Int)) : DE := da.bind fun p => lo.bind fun l => hi.bind fun h => Den.opt (slP p l h)
section
variable {k : Nat} {X : Cx} {c : Cfg} {e : Expr} {lo hi : Option Expr} {da : DE} {dl dh : Den (Option Int)} {p2 pos : Pos}
theorem PO.weak {X : Cx} {e : Option Expr} {t t' : TO} (h : PO X e t) (w : ∀ σ H Q, t' σ H Q → t σ H Q) : PO X e t' := ⟨fun pins s σ H Q I q => h.run pins s σ H Q I (w _ _ _ q)⟩
theorem po_no : PO X none (rO3 c oNo) := PO.weak po_none fun σ H Q ⟨_, _, h⟩ => h.end0 rfl
theorem po_yes {e : Expr} (he : PE X e (rE c da)) : PO X (some e) (rO3 c (oSome da)) := by
  refine PO.weak (po_some he) fun σ H Q ⟨F, m, h⟩ => ?_
  refine (rd_bind h).imp fun v H1 ⟨F1, m1, p, s1, p1, q1, h⟩ => ?_
  cases q1 with
  | int i => exact ⟨i, rfl, h.end0 rfl⟩
  | _ => exact h.fail.elim
theorem r_sl (hX : XOk k X c) (ha : PE X e (rE c da)) (hl : PO X lo (rO3 c dl)) (hh : PO X hi (rO3 c dh)) : PE X (.Subscript e (.Slice lo hi none p2) pos) (rE c (dSl da dl dh)) := by
  refine PE.weak (pe_slice (sl_tupA.or (sl_list.or sl_str)) ha hl hh) fun σ H Q ⟨F, m, h⟩ => ?_
  obtain ⟨K, mg, F0, m0, H0, lk, W⟩ := c
  obtain rfl := hX.K
  obtain rfl := hX.mg
  refine (rd_bind h).imp fun v H1 ⟨F1, m1, p, s1, p1, q1, h⟩ => ?_
  refine (rd_bind h).imp fun l H2 ⟨F2, m2, l', s2, p2, q2, h⟩ => ?_
  refine (rd_bind h).imp fun u H3 ⟨F3, m3, u', s3, p3, q3, h⟩ => ?_
  have q2 : l = l' := q2
  have q3 : u = u' := q3
  subst q2 q3
  obtain ⟨res, e, h⟩ := h.opt
  obtain ⟨env, S, R⟩ := h.rel
  have q1 := (q1.mono s2 p2).mono s3 p3
  unfold slP at e
  split at e
  · rename_i xs
    cases e
    cases q1 with
    | tup hf rl =>
      refine .inl ⟨_, _, rfl, SqT.of (R.r0.sub _ _ hf).tup, fun ⟨h1, h2⟩ => ?_, fun _ d hd => ?_⟩
      · refine h.yl.here ?_
        rw [rl.length] at h1 h2
        rw [h1, h2, List.drop_zero, Nat.sub_zero, List.take_length]
        exact .tup hf rl
      · refine h.yl.new R.r0 hd trivial fun s => .tup upd_same ?_
        exact rl_cut rl l u s
  · rename_i xs
    cases e
    cases q1 with
    | lst hf rl =>
      refine .inr (.inl ⟨_, _, rfl, SqL.of (R.r0.sub _ _ hf).lst, fun d hd => ?_⟩)
      refine h.yl.new R.r0 hd trivial fun s => .lst upd_same ?_
      exact rl_cut rl l u s
  · split at e
    · rename_i hz
      cases e
      cases q1
      exact .inr (.inr ⟨_, rfl, hz, h.yl.here (.str _)⟩)
    · cases e
  · cases e
end
/-! ### the end -/
def spLaw (K : PySem.W.Frag) : Sp := fun vs H Q _ => ∃ (a : Addr) (ns : List Int), vs = [.ref a] ∧ SqL K H a (ns.map V.int) ∧ ns.length ≤ 63 ∧ ∀ H', Q (.bl true) H'
theorem rep_ints {K : PySem.W.Frag} {F : Hp} {m : List Addr} : ∀ ns : List Int, RepL K F m (ns.map V.int) (ns.map PV.int)
  | [] => .nil
  | n :: ns => .cons (.int n) (rep_ints ns)
theorem law_sp {K : PySem.W.Frag} {mg : Str → Option Value} {f : DF} (hf : ∀ ns : List Int, ns.length ≤ 63 → ∃ S', f [.rol (ns.map PV.int)] [] = .ok (.bl true) S') (vs : List V) (H : Hp) (Q : VK) (E : XK) (h : spLaw K vs H Q E) : spOf K mg 1 f vs H Q E := by
  obtain ⟨a, ns, rfl, hS, hl, hq⟩ := h
  obtain ⟨S', e⟩ := hf ns hl
  have fin : ∀ F : Hp, R0 K mg [] F [] [] H → SqL K F a (ns.map V.int) → spOf K mg 1 f [.ref a] H Q E := fun F R s => by
    refine ⟨rfl, [], F, [], [], [.rol (ns.map PV.int)], R, .cons (.rol s (rep_ints ns)) .nil, ?_⟩
    rw [e]
    intro F' m' H' v _ _ _ _ _ _ q
    cases q
    exact hq H'
  rcases hS with hS | hS
  · have ho : ∃ o, H a = some o ∧ Imm o ∧ SqL K (upd (fun _ => none) a o) a (ns.map V.int) := by
      rcases hS with h | ⟨ob, h⟩
      · exact ⟨_, h, trivial, .inl (.inl upd_same)⟩
      · exact ⟨_, h, trivial, .inl (.inr ⟨ob, upd_same⟩)⟩
    obtain ⟨o, ho, im, s⟩ := ho
    refine fin (upd (fun _ => none) a o) ⟨fun b u eb => ?_, fun b u eb => ?_, rfl, fun i b so h1 => (by simp at h1), List.nodup_nil, fun b hb => (by cases hb), fun b hb => (by cases hb)⟩ s
    · by_cases z : b = a
      · subst z; rw [upd_same] at eb; cases eb; exact .inl ho
      · rw [upd_ne z] at eb; cases eb
    · by_cases z : b = a
      · subst z; rw [upd_same] at eb; cases eb; exact im
      · rw [upd_ne z] at eb; cases eb
  · exact fin (fun _ => none) ⟨fun b u eb => (nomatch eb), fun b u eb => (nomatch eb), rfl, fun i b so h1 => (by simp at h1), List.nodup_nil, fun b hb => (by cases hb), fun b hb => (by cases hb)⟩ (.inr hS)
theorem fok_law {P : Program} {w : World} {K : PySem.W.Frag} {mg : Str → Option Value} {base : Heap} {k : Nat} {p : Str} {f : DF} {fa : Addr} {fd : FuncData} (F : FnOk P w K mg base (L2.CX P w) k fa fd [p] (spOf K mg 1 f)) (hf : ∀ ns : List Int, ns.length ≤ 63 → ∃ S', f [.rol (ns.map PV.int)] [] = .ok (.bl true) S') :
    FnOk P w K mg base (L2.CX P w) k fa fd [p] (spLaw K) := F.imp (law_sp hf)
theorem cx_no {P : Program} {w : World} {l : List PySem.Env} {H : Hp} {s : Shared} {e : Value} {s' : Shared} (h : L2.CX P w l H s (fun _ _ _ => False) e s') : False := by
  obtain ⟨_, _, _, _, _, _, _, _, _, _, _, _, z⟩ := h
  exact z
theorem fok_lawD {P : Program} {w : World} {K : PySem.W.Frag} {mg : Str → Option Value} {base : Heap} {k : Nat} {x qual p : Str} {st : Stmt} {f : DF} {fa : Addr} {fd : FuncData} (G : FOk P w K mg base k x [p] f) (hm : mg x = some (.ref fa)) (F : Fun K x qual st fa fd) (hb : Binds K fd [p] [])
    (hf : ∀ ns : List Int, ns.length ≤ 63 → ∃ S', f [.rol (ns.map PV.int)] [] = .ok (.bl true) S') : FnOk P w K mg base (L2.CX P w) k fa fd [p] (spLaw K) := by
  obtain ⟨a, fd', hm', hk, hb', FO, oc, od, osl, lk⟩ := G.ex
  rw [hm] at hm'
  cases hm'
  obtain ⟨oc', od', osl', lk'⟩ := Fun.look F
  rw [lk] at lk'
  cases lk'
  exact fok_law FO hf
end Dn
end
section
set_option Elab.async false
set_option linter.all false
set_option maxRecDepth 100000
set_option maxHeartbeats 4000000
namespace Dn
open PySem L2 PySem.Spec PyProof.Rows
theorem tuple_mul1 (l : Addr) (items : Array Value) (n : Nat) (dd : Option Addr) (sl : Array (Option Value)) (x : Int) (u : Tok) (c0 : (decide (x < -(2 ^ 63)) || decide (x ≥ 2 ^ 63)) = false) (c1 : (items.isEmpty || x == 1) = true) :
    Meets (Builtin.«tuple.__mul__» ⟨[.ref l, .int x u], []⟩) (fun _ R s => s.heap.get? l = some { cls := .type "tuple", dict := dd, data := .seq items n, slots := sl } ∧
      R (.ok (.ret (Value.ref l))) s) :=
  .of_wp fun prog w A R s h => by
    obtain ⟨hp, g, d, tk, os⟩ := s
    obtain ⟨hl, h⟩ := h
    have f1 := AutoSeq1.idx_int
    wp_walk using wpAny_loadPart' hl
    repeat (first
      | (refine wpAny_ite_false (decide_eq_false (by rw [c0]; exact Bool.false_ne_true)) ?_; wp_walk using wpAny_loadPart' hl)
      | (refine wpAny_ite_true (decide_eq_true c1) ?_; wp_walk using wpAny_loadPart' hl))
    exact ⟨_, rfl, h⟩
theorem tuple_mul0 (l : Addr) (items : Array Value) (n : Nat) (dd : Option Addr) (sl : Array (Option Value)) (x : Int) (u : Tok) (c0 : (decide (x < -(2 ^ 63)) || decide (x ≥ 2 ^ 63)) = false) (c1 : (items.isEmpty || x == 1) = false) (c2 : (decide (x ≤ 0) || items.isEmpty) = true) :
    Meets (Builtin.«tuple.__mul__» ⟨[.ref l, .int x u], []⟩) (fun _ R s => s.heap.get? l = some { cls := .type "tuple", dict := dd, data := .seq items n, slots := sl } ∧
      R (.ok (.ret (Value.ref s.heap.objs.size))) { s with heap := s.heap.push { cls := Value.type "tuple", data := Data.seq #[] }, toks := s.toks }) :=
  .of_wp fun prog w A R s h => by
    obtain ⟨hp, g, d, tk, os⟩ := s
    obtain ⟨hl, h⟩ := h
    have f1 := AutoSeq1.idx_int
    wp_walk using wpAny_loadPart' hl
    repeat (first
      | (refine wpAny_ite_false (decide_eq_false (by rw [c0]; exact Bool.false_ne_true)) ?_; wp_walk using wpAny_loadPart' hl)
      | (refine wpAny_ite_false (decide_eq_false (by rw [c1]; exact Bool.false_ne_true)) ?_; wp_walk using wpAny_loadPart' hl)
      | (refine wpAny_ite_true (decide_eq_true c2) ?_; wp_walk using wpAny_loadPart' hl))
    exact ⟨_, rfl, h⟩
def rRepT0 (K : PySem.W.Frag) : R2 := fun x y H Q => ∃ l k xs, x = .ref l ∧ y = .int k ∧ SqT K H l xs ∧ -1000000 ≤ k ∧ k ≤ 1000000 ∧ (((xs = [] ∨ k = 1) ∧ Q (.ref l) H) ∨ (xs ≠ [] ∧ k ≤ 0 ∧ ∀ p, H p = none → Q (.ref p) (upd H p (.tup []))))
section
variable {X : Cx}
theorem op_repT0 : OpR X (binaryOp .Mult) (rRepT0 X.K) := by
  intro pins s σ H x y v u Q I rx ry h
  obtain ⟨l, k, xs, rfl, rfl, hT, h1, h2, q⟩ := h
  cases rx
  obtain ⟨t, rfl⟩ := ry
  obtain ⟨its, r, ⟨⟨cls, dd, data, sl⟩, ho, hc, n, hd⟩, hs⟩ := I.tuple hT
  simp only at hc hd
  subst hc hd
  have c0 : (decide (k < -(2 ^ 63)) || decide (k ≥ 2 ^ 63)) = false := by
    rw [decide_eq_false (by omega), decide_eq_false (by omega)] <;> rfl
  have ie : its.toArray.isEmpty = xs.isEmpty := by
    have := r.length
    cases its <;> cases xs <;> simp at this ⊢
  rcases q with ⟨e, q⟩ | ⟨e, e2, q⟩
  · have c1 : (its.toArray.isEmpty || k == 1) = true := by
      rw [ie]
      rcases e with e | e
      · rw [e]; rfl
      · rw [e]; simp
    exact wpAny_binaryOp_repeat_ref (T := "tuple") (U := "int") (by decide) ⟨_, ho, rfl⟩ (fun s' => typeIs_int s' k t) noFill_tuple_mul F.fills_int_mul F.slot_int_rmul repeat_tuple F.slot_int_index.lookup
      (call_meets F.slot_int_rmul (typeIs_int s k t) F.entry_int_rmul (F.args_int_rmul_2 _ _) (int_rmul_tuple k t l its.toArray n dd sl)
        ⟨ho, rfl, ⟨_, ho, rfl⟩, call_meets F.slot_tuple_mul ⟨_, ho, rfl⟩ F.entry_tuple_mul (F.args_tuple_mul_2 _ _) (tuple_mul1 l its.toArray n dd sl k t c0 c1) ⟨ho, .ref l, H, I, rfl, q⟩⟩)
  · have xe : xs.isEmpty = false := by cases xs with | nil => exact absurd rfl e | cons a b => rfl
    have c1 : (its.toArray.isEmpty || k == 1) = false := by
      rw [ie, xe, Bool.false_or]
      exact beq_eq_false_iff_ne.mpr (by omega)
    have c2 : (decide (k ≤ 0) || its.toArray.isEmpty) = true := by
      rw [decide_eq_true e2]; rfl
    refine wpAny_binaryOp_repeat_ref (T := "tuple") (U := "int") (by decide) ⟨_, ho, rfl⟩ (fun s' => typeIs_int s' k t) noFill_tuple_mul F.fills_int_mul F.slot_int_rmul repeat_tuple F.slot_int_index.lookup
      (call_meets F.slot_int_rmul (typeIs_int s k t) F.entry_int_rmul (F.args_int_rmul_2 _ _) (int_rmul_tuple k t l its.toArray n dd sl)
        ⟨ho, rfl, ⟨_, ho, rfl⟩, call_meets F.slot_tuple_mul ⟨_, ho, rfl⟩ F.entry_tuple_mul (F.args_tuple_mul_2 _ _) (tuple_mul0 l its.toArray n dd sl k t c0 c1 c2) ⟨ho, ?_⟩⟩)
    refine ⟨.ref s.heap.objs.size, _, I.laid (t' := s.toks) (o := .tup []) (fun b ob q => Heap.get?_push_of_some _ q) (Nat.le_refl _) ?_, rfl, q _ (I.hok.fresh (Nat.le_refl _))⟩
    exact ⟨Nat.zero_le _, [], .nil, IsTup.new _ _⟩
/-- the whole of * -/
def mulP' : G2 := fun S p q => match p, q with
  | .tup xs, .int j => if xs.length ≤ 1000 ∧ -1000000 ≤ j ∧ j ≤ 1000 then some (.tup (List.replicate j.toNat xs).flatten) else none
  | p, q => mulP S p q
theorem o_mul' : O2 X (binaryOp .Mult) mulP' := by
  obtain ⟨r, h1, h2⟩ := o_mul (X := X)
  refine ⟨_, h1.or op_repT0, fun lk F m S H x y p q res Q R rx ry h yl => ?_⟩
  unfold mulP' at h
  split at h
  · rename_i xs j
    split at h
    · rename_i hh
      obtain ⟨a1, a2, a3⟩ := hh
      cases h
      by_cases hx : xs = []
      · subst hx
        cases ry
        cases rx with
        | tup hf rl =>
          cases rl
          refine .inr ⟨_, j, [], rfl, rfl, SqT.of (R.sub _ _ hf).tup, a2, by omega, .inl ⟨.inl rfl, yl.here ?_⟩⟩
          have : (List.replicate j.toNat ([] : List PV)).flatten = [] := by simp
          rw [this]
          exact .tup hf .nil
      · by_cases h2' : 2 ≤ j
        · refine .inl (h2 lk F m S H x y _ _ _ Q R rx ry ?_ yl)
          simp only [mulP]
          rw [if_pos ⟨a1, hx, h2', a3⟩]
        · cases ry
          cases rx with
          | tup hf rl =>
            rename_i a vs
            by_cases h1' : j = 1
            · subst h1'
              refine .inr ⟨_, 1, vs, rfl, rfl, SqT.of (R.sub _ _ hf).tup, by omega, by omega, .inl ⟨.inr rfl, yl.here ?_⟩⟩
              have : (List.replicate (1 : Int).toNat xs).flatten = xs := by simp
              rw [this]
              exact .tup hf rl
            · refine .inr ⟨_, j, vs, rfl, rfl, SqT.of (R.sub _ _ hf).tup, a2, by omega, .inr ⟨fun e => hx ?_, by omega, fun p hp => ?_⟩⟩
              · subst e; cases rl; rfl
              · have : j.toNat = 0 := by omega
                rw [this] at yl
                exact yl.new R hp trivial fun s => .tup upd_same .nil
    · cases h
  · exact .inl (h2 lk F m S H x y _ _ _ Q R rx ry h yl)
end
end Dn
end
section
set_option Elab.async false
set_option linter.all false
set_option maxRecDepth 100000
set_option maxHeartbeats 1000000
namespace Dn
open PySem L2 PySem.Spec PyProof.Rows

/-! ### what no one promises -/
/-! ### {k: v} -/
/-- a dict that no one knows yet -/
inductive OD where
  | k (kvs : List (Key × PV))
  | t (kvs : List (List Key × PV))
def OD.slot : OD → Slot
  | .k kvs => .od kvs
  | .t kvs => .ot kvs
def ODR (K : PySem.W.Frag) (F : Hp) (m : List Addr) (H : Hp) (a : Addr) : OD → Prop
  | .k kvs => ∃ vs, H a = some (.dK vs) ∧ RepK K F m vs kvs
  | .t kvs => ∃ vs, H a = some (.dT vs) ∧ RepT K F m vs kvs
def pD (c : Cfg) (F : Hp) (m : List Addr) (σ : St) (Q : VK) : Out OD → Prop
  | .st => False
  | .ok od env S => ∀ F' m' H a, Rel c F' m' σ env S H → Same F F' → m <+: m' → F' a = none → a ∉ m' → c.H0 a = none → (∀ j, ¬ Own env σ j a) → ODR c.K F' m' H a od → Q (.ref a) H
  | .ex x env S => ∀ F' m' H cls d, Rel c F' m' σ env S H → Same F F' → m <+: m' → ExR c F' m' H x cls d → c.W cls d σ H
def rD (c : Cfg) (d : Den OD) : TE := fun σ H Q => ∃ F m env S, Rel c F m σ env S H ∧ pD c F m σ Q (d env S)
def lDict1 (dk dv : DE) : Den OD := fun e s => match dk e s with
  | .ok pk e1 s1 => match dv e1 s1 with
    | .ok pv e2 s2 => match keyP pk with
      | some k => .ok (.k [(k, pv)]) e2 s2
      | none => match pk with
        | .tup ks => match keysP ks with
          | some ks => .ok (.t [(ks, pv)]) e2 s2
          | none => .st
        | _ => .st
    | _ => .st
  | _ => .st
theorem PE.or {X : Cx} {e : Expr} {t t' : TE} (h : PE X e t) (h' : PE X e t') : PE X e (fun σ H Q => t σ H Q ∨ t' σ H Q) := ⟨fun pins s σ H Q I q => q.elim (h.run pins s σ H Q I) (h'.run pins s σ H Q I)⟩
theorem odr_own {K : PySem.W.Frag} {F : Hp} {m : List Addr} {H : Hp} {a : Addr} {od : OD} (h : ODR K F m H a od) : SlotR K F m H (some (some (.ref a))) od.slot := by
  cases od with
  | k kvs => obtain ⟨vs, h1, h2⟩ := h; exact ⟨a, vs, rfl, h1, h2⟩
  | t kvs => obtain ⟨vs, h1, h2⟩ := h; exact ⟨a, vs, rfl, h1, h2⟩
/-- .. as a name's own -/
def sSetD (i : Nat) (d : Den OD) : DS := sE d fun od e s => .nx (e.set i od.slot) s
theorem asgD {c : Cfg} {d : Den OD} {i : Nat} {D : Ends} {σ : St} {H : Hp} (h : rS c (sSetD i d) D σ H) : rD c d σ H fun x H1 => D.nx (σ.set i (some x)) H1 := by
  obtain ⟨F, m, env, S, r, h⟩ := h
  refine ⟨F, m, env, S, r, ?_⟩
  unfold sSetD sE at h
  cases e : d env S with
  | st => rw [e] at h; exact h
  | ex x env1 S1 => rw [e] at h; exact fun F' m' H cls d r s p q => h F' m' σ H cls d r s p q
  | ok ps env1 S1 =>
    rw [e] at h
    intro F1 m1 H1 a r1 s1 p1 hF hm h0 hn q
    exact h F1 m1 _ H1 (r1.set_own i hF hm h0 hn (odr_own q)) s1 p1
theorem k_setD (i : Nat) {k : Nat} {X : Cx} {c : Cfg} {e : Expr} {d : Den OD} {pos : Pos} {x : Str} {pos' : Pos} (hX : XOk k X c) (hi : X.N[i]? = some x) (hx : Loc X.env.scope x) (he : PE X e (rD c d)) (hs : swapsWith e (some (.Name x pos')) pos.line X.env = pure false := by rfl)
    (hf : X.fn x = true ∨ X.env.scope.names.lookup x = some .local := by first | exact .inl rfl | exact .inr rfl | assumption) : PS X (.Assign [.Name x pos'] e pos) (rS c (sSetD i d)) :=
  PS.weak (ps_set hX.nd hi hx he hs hf) fun D σ H h => asgD h
section
variable {k : Nat} {X : Cx} {c : Cfg} {pos : Pos}
theorem new_free {F H : Hp} {m : List Addr} {σ : St} {env : DEnv} {S : Stor} (r : Rel c F m σ env S H) {p : Addr} (hp : H p = none) (o : HO) : Rel c F m σ env S (upd H p o) ∧ F p = none ∧ p ∉ m ∧ c.H0 p = none ∧ (∀ j, ¬ Own env σ j p) ∧ c.F0 p = none := by
  obtain ⟨f1, f2, f3, f4, f5⟩ := r.fresh_ne hp
  exact ⟨r.upd_free f1 f2 f3 f4 (fun ob u z => by rw [hp] at z; cases z), f1, f2, f3, f4, f5⟩
end

/-- {k: v}, k a tuple of ints and texts -/
def tDispT1 (tk tv : TE) : TE := fun σ H Q => ∀ p, H p = none → tPairs [(tk, tv)] σ (upd H p (.dT [])) fun ps H2 => ∃ x y, ps = [(x, y)] ∧ H2 p = some (.dT []) ∧ ∃ b ks, x = .ref b ∧ H2 b = some (.tup (ks.map kV)) ∧ Q (.ref p) (upd H2 p (.dT [(ks, y)]))
theorem pe_dispT1 {X : Cx} {pos : Pos} {ek ev : Expr} {tk tv : TE} (hu : X.A.units + 1 < cLine) (hk : PE X ek tk) (hv : PE X ev tv) : PE X (.Dict [some ek] [ev] pos) (tDispT1 tk tv) := by
  refine ⟨fun pins s σ H Q I q => ?_⟩
  have hn := I.hok.fresh (Nat.le_refl s.heap.objs.size)
  have I1 := I.laid (a := s.heap.objs.size) (o := .dT []) (h' := s.heap.push { cls := .type "dict", data := .dict #[] }) (t' := s.toks) (fun _ _ q => Heap.get?_push_of_some _ q) (Nat.le_refl _) (dt_empty s.heap I.big)
  have q := q _ hn
  have go := (pps_cons (pos := pos) hk hv pps_nil).run pins _ σ _ _ I1 q
  rw [arm_eval_Dict, zip_pairTrees _ _ _ _ rfl rfl, dictDisplay_pairs _ (by intro z; have := pairTrees_length [some ek] [ev] X.env pos rfl rfl; rw [z] at this; cases this) (by rw [pairTrees_length [some ek] [ev] X.env pos rfl rfl, List.length_singleton]; decide)]
  refine wpAny_bind (wpAny_standAt (wpAny_bind (wpAny_subDictH (knd := tupleKind (mixKind X.prog X.w)) (Q := fun d s' => wpAny (model X.prog X.w) X.A (pure (Value.ref d)) (EP X pins σ Q) X.xe s') (show X.A.units < cLine by omega) (by rw [pairTrees_length [some ek] [ev] X.env pos rfl rfl, List.length_singleton]; decide) ?_)))
  refine wpAny_mono go (fun vs s₁ h₁ => ?_) fun _ _ e => e
  obtain ⟨ps, H2, I2, rel, x, y, rfl, e, b, ks, rfl, eb, q2⟩ := h₁
  cases rel with
  | @cons p v1 ps vs1 h t =>
    cases t
    obtain ⟨key, v⟩ := v1
    obtain ⟨h1, h2⟩ := h
    cases (show key = Value.ref b from h1)
    obtain ⟨z, hd, xs, rel, dd⟩ := dt_of I2.hok e
    cases rel
    refine ⟨[(ks, b, v)], ⟨rfl, rfl, key_of I2.hok eb, trivial⟩, dd, fun h' tk dd' hs => wpAny_pure ⟨.ref s.heap.objs.size, _, ?_, rfl, q2⟩⟩
    obtain ⟨q, es, ep, hq, h3, h4, h5, _, h6⟩ := dd'
    have kt : KT H2 [(ks, y)] [(ks, b, v)] := .cons ⟨rfl, eb, h2⟩ .nil
    refine d_write I2 (by rw [e]; exact True.intro) hs ⟨q, hq⟩ ⟨by rw [List.length_singleton]; exact Nat.le_trans (by decide) (Nat.le_refl sizeLine), hd, _, kt.keeps fun c ys ec => ?_, q, es, ep, hq, h3, h4, h5, h6⟩
    rw [upd_ne (ne_of ec e (fun z => nomatch z))]
    exact ec

theorem XOk.no {k : Nat} {X : Cx} {c : Cfg} (h : XOk k X c) (t : Tm) : XOk k X (c.al t) :=
  ⟨h.K, h.mg, h.calm, h.nd, h.room, fun _ _ _ _ _ _ _ q => by obtain ⟨_, _, _, _, _, _, _, _, _, _, _, _, z⟩ := q; exact z.elim⟩
theorem Rel.unpinD {c : Cfg} {F H : Hp} {m : List Addr} {σ : St} {env : DEnv} {S : Stor} {W : WX} {D : Addr} {o : HO} (r : Rel { c with H0 := upd c.H0 D o, W := W } F m σ env S H) (h0 : c.H0 D = none) (hF0 : c.F0 D = none) (hm0 : D ∉ c.m0) (hl : D ∉ c.lk) (ht : ∀ xs, o ≠ .tup xs) (ho : True) : Rel c F m σ env S H ∧ F D = none ∧ D ∉ m ∧ (∀ j, ¬ Own env σ j D) ∧ H D = some o := by
  have up : ∀ a, upd c.H0 D o a = none → c.H0 a = none := fun a h => by
    by_cases z : a = D
    · rw [z]; exact h0
    · rw [upd_ne z] at h; exact h
  refine ⟨⟨r.r0, r.len, r.slot, r.ownd, fun i a h => ?_, fun a u e hb => ?_, fun a ha hb => up a (r.newm a ha hb), r.pre, fun a h => ?_, r.f0, fun a ha => ?_⟩, ?_, fun hm => ?_, fun j h => ?_, ?_⟩
  · obtain ⟨h1, h2, h3⟩ := r.ownf i a h
    exact ⟨h1, h2, up a h3⟩
  · exact r.old a u (show upd c.H0 D o a = some u by rw [upd_ne (ne_of_none e h0)]; exact e) hb
  · rcases r.frn a h with z | z
    · exact .inl z
    · have z : IT (upd c.H0 D o) a := z
      refine .inr ?_
      by_cases q : a = D
      · rw [q]; exact .inl h0
      · unfold IT at z ⊢; rw [upd_ne q] at z; exact z
  · obtain ⟨h1, ob, w, e⟩ := r.lkh a ha
    have e : upd c.H0 D o a = some (.frz ob w) := e
    have z : a ≠ D := fun z => hl (z ▸ ha)
    rw [upd_ne z] at e; exact ⟨h1, ob, w, e⟩
  · cases q : F D with
    | none => rfl
    | some u =>
      rcases r.frn D (by rw [q]; exact fun z => nomatch z) with z | z
      · exact absurd hF0 z
      · have z : IT (upd c.H0 D o) D := z
        unfold IT at z; rw [upd_same] at z
        rcases z with z | ⟨_, z⟩ <;> cases z
        exact (ht _ rfl).elim
  · have z : upd c.H0 D o D = none := r.newm D hm hm0
    rw [upd_same] at z; cases z
  · have z : upd c.H0 D o D = none := (r.ownf j D h).2.2
    rw [upd_same] at z; cases z
  · rcases r.old D o (show upd c.H0 D o D = _ from upd_same) hm0 with h | ⟨l, _⟩
    · exact h
    · exact absurd l hl
theorem od_1 {k : Nat} {X : Cx} {c : Cfg} {pos : Pos} {ek ev : Expr} {dk dv : DE} (hX : XOk k X c) (hk : ∀ c, XOk k X c → PE X ek (rE c dk)) (hv : ∀ c, XOk k X c → PE X ev (rE c dv)) : PE X (.Dict [some ek] [ev] pos) (rD c (lDict1 dk dv)) := by
  have pk : PE X ek (eEx c dk) := PE.ex fun H0 => hk _ (hX.no H0)
  have pv : PE X ev (eEx c dv) := PE.ex fun H0 => hv _ (hX.no H0)
  refine PE.weak (PE.or (pe_disp (pps_cons pk pv pps_nil) rfl rfl (by intro z; cases z) (by rw [List.length_singleton]; decide)) (pe_dispT1 (hu_of hX.room) pk pv)) fun σ H Q ⟨F, m, env, S, r, h⟩ => ?_
  unfold lDict1 at h
  cases e1 : dk env S with
  | st => rw [e1] at h; exact h.elim
  | ex x env1 S1 => rw [e1] at h; exact h.elim
  | ok pk env1 S1 =>
    rw [e1] at h
    dsimp only at h
    cases e2 : dv env1 S1 with
    | st => rw [e2] at h; exact h.elim
    | ex x env2 S2 => rw [e2] at h; exact h.elim
    | ok pv env2 S2 =>
      rw [e2] at h
      dsimp only at h
      -- the run of both, with the new dict beside them
      have both : ∀ (p : Addr) (o : HO), (∀ xs, o ≠ .tup xs) → H p = none → ∀ P : V → V → Hp → Prop, (∀ F2 m2 x y H2, Same F F2 → m <+: m2 → Rel c F2 m2 σ env2 S2 H2 → F2 p = none → p ∉ m2 → c.H0 p = none → (∀ j, ¬ Own env2 σ j p) → H2 p = some o → Rep c.K F2 m2 x pk → Rep c.K F2 m2 y pv → P x y H2) →
          eEx c dk σ (upd H p o) fun x H1 => eEx c dv σ H1 fun y H2 => P x y H2 := by
        intro p o ht hp P w
        obtain ⟨r1, f1, f2, f3, f4, f5⟩ := new_free r hp o
        have fl : p ∉ c.lk := fun z => by
          obtain ⟨ob, u, q⟩ := r.r0.lkd p z
          rw [hp] at q; cases q
        have fm0 : p ∉ c.m0 := fun z => f2 (r.pre.subset z)
        have rp := r1.pin (W := noW) f1 f2 (fun j o => f4 j o) upd_same
        refine ⟨(upd c.H0 p o, c.lk, c.F0, c.m0), F, m, env, S, rp, ?_⟩
        rw [e1]
        intro F1 m1 H1 x r2 s1 p1 qx
        refine ⟨(upd c.H0 p o, c.lk, c.F0, c.m0), F1, m1, env1, S1, r2, ?_⟩
        rw [e2]
        intro F2 m2 H2 y r3 s2 p2 qy
        obtain ⟨r4, g1, g2, g3, g4⟩ := r3.unpinD f3 f5 fm0 fl ht trivial
        exact w F2 m2 x y H2 (s1.trans s2) (p1.trans p2) r4 g1 g2 f3 g3 g4 (qx.mono s2 p2) qy
      cases ek1 : keyP pk with
      | some k =>
        rw [ek1] at h
        refine .inl fun p hp => ?_
        refine both p (.dK []) (fun _ z => nomatch z) hp _ fun F2 m2 x y H2 s2 p2 r2 f1 f2 f3 f4 f5 qx qy => ?_
        refine ⟨f5, [(k, y)], by rw [key_rep qx ek1]; rfl, by rw [List.length_singleton]; decide, ?_⟩
        exact h F2 m2 _ p (r2.upd_free f1 f2 f3 f4 (fun ob u z => by rw [f5] at z; cases z)) s2 p2 f1 f2 f3 f4 ⟨_, upd_same, .cons qy .nil⟩
      | none =>
        rw [ek1] at h
        dsimp only at h
        cases pk with
        | tup kp =>
          dsimp only at h
          cases ek2 : keysP kp with
          | none => rw [ek2] at h; exact h.elim
          | some ks =>
            rw [ek2] at h
            refine .inr fun p hp => ?_
            refine both p (.dT []) (fun _ z => nomatch z) hp _ fun F2 m2 x y H2 s2 p2 r2 f1 f2 f3 f4 f5 qx qy => ?_
            cases qx with
            | @tup b vs _ hf rl =>
              have hb : H2 b = some (.tup (ks.map kV)) := by
                rw [← keys_rep rl ek2]
                rcases r2.r0.sub _ _ hf with z | ⟨_, z, _⟩
                · exact z
                · exact z.elim
              refine ⟨.ref b, y, rfl, f5, b, ks, rfl, hb, ?_⟩
              exact h F2 m2 _ p (r2.upd_free f1 f2 f3 f4 (fun ob u z => by rw [f5] at z; cases z)) s2 p2 f1 f2 f3 f4 ⟨_, upd_same, .cons qy .nil⟩
        | _ => exact h.elim

/-! ### x[k] = v, x a name's own -/
def kPut2 (i : Nat) (p : PV) : PV → DS := fun q e s => match e[i]? with
  | some sl => match putO sl q p with
    | some sl2 => .nx (e.set i sl2) s
    | none => .st
  | none => .st
def sPutO (i : Nat) (dk dv : DE) : DS := sE dv fun p => fun e s => match e[i]? with
  | some sl => if sl.own then sE dk (kPut2 i p) e s else .st
  | none => .st
theorem putO_own {s s2 : Slot} {q p : PV} (h : putO s q p = some s2) : s.own = true := by
  unfold putO at h
  split at h
  · rfl
  · rfl
  · rfl
  · cases h
theorem k_putO (i : Nat) {k : Nat} {X : Cx} {c : Cfg} {ek e : Expr} {dk dv : DE} {pos ps px : Pos} {x : Str} (hX : XOk k X c) (hN : X.N[i]? = some x) (hv : Vis X.env.scope x) (hk : PE X ek (rE c dk)) (he : PE X e (rE c dv)) (hd : (x == ("__debug__" : Str)) = false := by decide) (hcd : (x == ("__classdict__" : Str)) = false := by decide)
    (ha : ∀ v, assign (.Subscript (.Name x px) ek ps) X.env v = (do
      let ov ← holding [v] (eval (.Name x px) X.env)
      let iv ← holding [v, ov] (eval ek X.env)
      standAt ps
      holding [v, ov, iv] (setItem ov iv v)
      release [v, ov, iv] []) := by intro _; rfl)
    (hs : swapsWithSole [.Subscript (.Name x px) ek ps] e pos.line X.env = pure false := by rfl) (hw : swappedStores [.Subscript (.Name x px) ek ps] e X.env = pure none := by rfl)
    (h1 : (assignEach [.Subscript (.Name x px) ek ps] X.env).map (·.2) = [assign (.Subscript (.Name x px) ek ps) X.env] := by rfl) : PS X (.Assign [.Subscript (.Name x px) ek ps] e pos) (rS c (sPutO i dk dv)) := by
  have pset : PSet X (fun o i v H Q => rSetL o i v H Q ∨ rSetD o i v H Q) := fun pins s σ H o i v ov iv u Q I ro ri rv h => h.elim (set_list pins s σ H o i v ov iv u Q I ro ri rv) (set_dict (hu_of hX.room) pins s σ H o i v ov iv u Q I ro ri rv)
  refine PS.weak (ps_asg he (pg_sub (pe_var (i := i) hN hv hd hcd) hk pset ha) hs hw h1) fun D σ H ⟨F, m, h⟩ => ?_
  refine (sE_of h).imp fun v H1 ⟨F1, m1, p, _, _, q1, env, S, r, h⟩ => ?_
  dsimp only at h
  split at h
  · rename_i sl e0
    split at h
    · rename_i ho
      obtain ⟨a, hva⟩ := slot_ref r e0 ho
      refine ⟨_, hva, ?_⟩
      refine (sE_of ⟨env, S, r, h⟩).imp fun y H2 ⟨F2, m2, q, s2, t2, qy, env, S, r, h⟩ => ?_
      unfold kPut2 at h
      split at h
      · rename_i sl2 e2
        split at h
        · rename_i sl3 hp
          have ho2 := putO_own hp
          have hsl := r.slot i _ e2
          rw [hva] at hsl
          have q1 := q1.mono s2 t2
          have ow := own_of e2 ho2 hva
          unfold putO at hp
          split at hp
          · rename_i xs j
            obtain ⟨jj, hj, rfl⟩ := Option.map_eq_some_iff.mp hp
            obtain ⟨a', vs, z, hoa, rl⟩ := hsl
            cases z
            cases qy
            exact .inl ⟨a, vs, j, jj, rfl, rfl, hoa, by rw [rl.length]; exact hj, h F2 m2 σ _ (r.upd_own ow ⟨a, _, rfl, upd_same, rl.set q1 jj⟩) (Same.refl _) (List.prefix_refl _)⟩
          · rename_i kvs
            split at hp
            · rename_i hl
              obtain ⟨k1, hk1, rfl⟩ := Option.map_eq_some_iff.mp hp
              obtain ⟨a', vs, z, hoa, rl⟩ := hsl
              cases z
              exact .inr ⟨a, _, rfl, .inl ⟨vs, k1, hoa, key_rep qy hk1, by rw [rl.length]; exact hl, rfl⟩, h F2 m2 σ _ (r.upd_own ow ⟨a, _, rfl, upd_same, rl.put k1 q1⟩) (Same.refl _) (List.prefix_refl _)⟩
            · cases hp
          · rename_i kvs ks
            split at hp
            · rename_i hl
              obtain ⟨k1, hk1, rfl⟩ := Option.map_eq_some_iff.mp hp
              obtain ⟨a', vs, z, hoa, rl⟩ := hsl
              cases z
              cases qy with
              | @tup b ws _ hf rk =>
                have hb : H2 b = some (.tup (k1.map kV)) := by
                  rw [← keys_rep rk hk1]
                  rcases r.r0.sub _ _ hf with z | ⟨_, z, _⟩
                  · exact z
                  · exact z.elim
                exact .inr ⟨a, _, rfl, .inr ⟨vs, k1, b, hoa, rfl, hb, by rw [rl.length]; exact hl, rfl⟩, h F2 m2 σ _ (r.upd_own ow ⟨a, _, rfl, upd_same, rl.put k1 q1⟩) (Same.refl _) (List.prefix_refl _)⟩
            · cases hp
          · cases hp
        · exact h.elim
      · exact h.elim
    · exact h.elim
  · exact h.elim
end Dn
end
section
set_option Elab.async false
set_option linter.all false
set_option maxRecDepth 100000
set_option maxHeartbeats 1000000
namespace Dn
open PySem L2 PySem.Spec PyProof.Rows

/-! ### a while with room for so many turns -/
def whN (t : Den Bool) (b : DS) : DS := whL t b 1000000000
theorem rS_whN {c : Cfg} {t : Den Bool} {b : DS} {D : Ends} {σ : St} {H : Hp} (h : rS c (whN t b) D σ H) : rS c (sWhile t b) D σ H := by
  obtain ⟨F, m, env, S, r, h⟩ := h
  refine ⟨F, m, env, S, r, ?_⟩
  have hn : whL t b 1000000000 env S ≠ .st := fun z => by
    unfold whN at h
    rw [z] at h
    exact h
  rw [sWhile_of 1000000000 (o := whN t b env S) rfl hn]
  exact h

theorem k_whN {X : Cx} {c : Cfg} {e : Expr} {body : List Stmt} {t : Den Bool} {b : DS} {pos : Pos} (hp : PassesOwn (model X.prog X.w) X.A X.env X.xe) (hc : PT X e (rT c t)) (hb : PSs X body (rS c b)) : PS X (.While e body [] pos) (rS c (whN t b)) :=
  PS.weak (k_while (k := 0) hp hc hb) fun D σ H h => rS_whN h

/-! ### sorted -/
def sortI (ns : List Int) : List Int := ns.mergeSort fun a b => decide (a ≤ b)
theorem sortI_uniq {ns ys : List Int} (h1 : ys.Perm ns) (h2 : ys.Pairwise (· ≤ ·)) : ys = sortI ns := by
  refine List.Perm.eq_of_pairwise (le := (· ≤ ·)) (fun a b _ _ h h' => by omega) h2 ?_ (h1.trans (List.mergeSort_perm ns _).symm)
  have := List.pairwise_mergeSort (le := fun a b : Int => decide (a ≤ b)) (fun a b c h h' => by simp at *; omega) (fun a b => by simp; omega) ns
  exact this.imp fun h => by simpa using h
def lexL (p q : Int × Int) : Bool := !SrtO.lexB q p
def sortPr (ps : List (Int × Int)) : List (Int × Int) := ps.mergeSort lexL
theorem lexL_iff {p q : Int × Int} : lexL p q = true ↔ p.1 < q.1 ∨ (p.1 = q.1 ∧ p.2 ≤ q.2) := by
  unfold lexL SrtO.lexB
  by_cases h : q.1 = p.1
  · rw [if_pos h]; simp; omega
  · rw [if_neg h]; simp; omega
theorem sortPr_uniq {ps qs : List (Int × Int)} (h1 : qs.Perm ps) (h2 : SrtO.Srtd SrtO.lexB qs) : qs = sortPr ps := by
  refine List.Perm.eq_of_pairwise (le := fun p q => lexL p q = true) (fun a b _ _ h h' => ?_) ?_ ?_ (h1.trans (List.mergeSort_perm ps _).symm)
  · have h := lexL_iff.mp h
    have h' := lexL_iff.mp h'
    exact Prod.ext (by omega) (by omega)
  · exact h2.imp fun h => by unfold lexL; rw [h]; rfl
  · refine List.pairwise_mergeSort (fun a b c h h' => ?_) (fun a b => ?_) ps
    · have h := lexL_iff.mp h
      have h' := lexL_iff.mp h'
      exact lexL_iff.mpr (by omega)
    · rw [Bool.or_eq_true]
      simp only [lexL_iff]
      omega
def keysI : List (Key × PV) → Option (List Int)
  | [] => some []
  | (.inl i, _) :: r => (keysI r).map (i :: ·)
  | _ => none
def pairP : PV → Option (Int × Int)
  | .tup [.int i, .int j] => some (i, j)
  | _ => none
def pairsP : List PV → Option (List (Int × Int))
  | [] => some []
  | p :: ps => match pairP p, pairsP ps with
    | some a, some b => some (a :: b)
    | _, _ => none
def encPr (p : Int × Int) : PV := .tup [.int p.1, .int p.2]
section
variable {K : PySem.W.Frag} {F H : Hp} {m : List Addr}
theorem keysI_rep : ∀ {vs : List (Key × V)} {kvs : List (Key × PV)} {ks : List Int}, RepK K F m vs kvs → keysI kvs = some ks → vs.map (·.1) = ks.map Sum.inl
  | _, _, _, .nil, h => by cases h; rfl
  | _, _, _, .cons (k := k) h1 h2, h => by
    cases k with
    | inl i =>
      unfold keysI at h
      obtain ⟨ms, e, rfl⟩ := Option.map_eq_some_iff.mp h
      rw [List.map_cons, List.map_cons, keysI_rep h2 e]
    | inr x => cases h
theorem rep_mapI {F : Hp} : ∀ ns : List Int, RepL K F m (ns.map V.int) (ns.map PV.int)
  | [] => .nil
  | n :: ns => .cons (.int n) (rep_mapI ns)
/-- the pair at an address -/
def prAt (F : Hp) (v : V) : Int × Int := match v with
  | .ref t => match F t with
    | some (.tup [.int i, .int j]) => (i, j)
    | _ => (0, 0)
  | _ => (0, 0)
theorem pair_rep {v : V} {p : PV} {a : Int × Int} (r : Rep K F m v p) (h : pairP p = some a) : prAt F v = a ∧ p = encPr a ∧ ∃ t, v = .ref t ∧ F t = some (.tup [.int a.1, .int a.2]) := by
  unfold pairP at h
  split at h
  · rename_i i j
    cases h
    cases r with
    | @tup t vs _ hf rl =>
      cases rl with
      | cons h1 h2 =>
        cases h1
        cases h2 with
        | cons h1 h2 =>
          cases h1
          cases h2
          exact ⟨by unfold prAt; dsimp only; rw [hf], rfl, t, rfl, hf⟩
  · cases h
theorem pairs_rep : ∀ {vs : List V} {xs : List PV} {ls : List (Int × Int)}, RepL K F m vs xs → pairsP xs = some ls → vs.map (prAt F) = ls ∧ ∀ v ∈ vs, ∃ t, v = .ref t ∧ F t = some (.tup [.int (prAt F v).1, .int (prAt F v).2])
  | _, _, _, .nil, h => by cases h; exact ⟨rfl, fun v hv => (nomatch hv)⟩
  | _, _, _, .cons (p := p) (ps := ps) h1 h2, h => by
    unfold pairsP at h
    split at h
    · rename_i a b e1 e2
      cases h
      obtain ⟨g1, g2, t, g3, g4⟩ := pair_rep h1 e1
      obtain ⟨g5, g6⟩ := pairs_rep h2 e2
      refine ⟨by rw [List.map_cons, g1, g5], fun v hv => ?_⟩
      rcases List.mem_cons.mp hv with rfl | hv
      · exact ⟨t, g3, by rw [g1]; exact g4⟩
      · exact g6 v hv
    · cases h
theorem rep_pairs : ∀ {ys : List V}, (∀ v ∈ ys, ∃ t, v = .ref t ∧ F t = some (.tup [.int (prAt F v).1, .int (prAt F v).2])) → RepL K F m ys ((ys.map (prAt F)).map encPr)
  | [], _ => .nil
  | y :: ys, h => by
    obtain ⟨t, e, f⟩ := h y (List.mem_cons_self ..)
    rw [List.map_cons, List.map_cons]
    refine .cons ?_ (rep_pairs fun v hv => h v (List.mem_cons_of_mem _ hv))
    unfold encPr
    rw [e] at f ⊢
    exact .tup f (.cons (.int _) (.cons (.int _) .nil))
end
theorem CallR.or {X : Cx} {f : Value} {r r' : List V → Hp → VK → Prop} (h : CallR X f r) (h' : CallR X f r') : CallR X f (fun xs H Q => r xs H Q ∨ r' xs H Q) :=
  fun pins s σ H xs us Q I rv q => q.elim (h pins s σ H xs us Q I rv) (h' pins s σ H xs us Q I rv)
end Dn
end
section
set_option Elab.async false
set_option linter.all false
set_option maxRecDepth 100000
set_option maxHeartbeats 1000000
namespace Dn
open PySem L2 PySem.Spec PyProof.Rows

/-! ### a lock behind an evaluation, its end behind a statement -/
/-! ### the relation under a lock -/
section
variable {c : Cfg} {F F' H H' : Hp} {m m' : List Addr} {σ σ' : St} {env env' : DEnv} {S S' : Stor} {d : Addr} {u : HO}
theorem isDO_imm {u : HO} (h : IsDO u) : Mut (some u) ∧ ∀ ob w, u ≠ .frz ob w := by
  cases u with
  | dK _ => exact ⟨trivial, fun _ _ z => nomatch z⟩
  | dT _ => exact ⟨trivial, fun _ _ z => nomatch z⟩
  | _ => exact h.elim
/-- what is told when the lock is laid -/
structure Lk (c : Cfg) (F : Hp) (d : Addr) (u : HO) : Prop where
  f : F d = some u
  isd : IsDO u
  nl : d ∉ c.lk
  nm : d ∉ c.m0
  old : ∀ o, c.H0 d = some o → o = u
  f0 : Same c.F0 F
  frn : ∀ a, F a ≠ none → c.F0 a ≠ none ∨ IT c.H0 a
def Cfg.lock (c : Cfg) (F : Hp) (d : Addr) (o : Obj) (u : HO) : Cfg := c.al (upd c.H0 d (.frz o u), d :: c.lk, F, c.m0)
theorem Rel.lk (r : Rel c F m σ env S H) (hF : F d = some u) (hu : IsDO u) (hH : H d = some u) : Lk c F d u where
  f := hF
  isd := hu
  nl := fun z => by
    obtain ⟨ob, w, e⟩ := r.r0.lkd d z
    rw [hH] at e; cases e
    exact (isDO_imm hu).2 _ _ rfl
  nm := fun z => by
    have := r.r0.muf d (r.pre.subset z)
    rw [hF] at this; cases this
  old := fun o e => by
    have nm : d ∉ c.m0 := fun z => by
      have := r.r0.muf d (r.pre.subset z)
      rw [hF] at this; cases this
    rcases r.old d o e nm with h | ⟨_, _, ob, h⟩
    · rw [hH] at h; cases h; rfl
    · rw [hH] at h; cases h
      exact ((isDO_imm hu).2 _ _ rfl).elim
  f0 := r.f0
  frn := r.frn
end
/-! ### the keys of a dict -/
theorem RepK.at {K : PySem.W.Frag} {F : Hp} {m : List Addr} : ∀ {vs : List (Key × V)} {kvs : List (Key × PV)}, RepK K F m vs kvs → vs.map (·.1) = kvs.map (·.1)
  | _, _, .nil => rfl
  | _, _, .cons _ h => by rw [List.map_cons, List.map_cons, h.at]
theorem RepT.at {K : PySem.W.Frag} {F : Hp} {m : List Addr} : ∀ {vs : List (List Key × V)} {kvs : List (List Key × PV)}, RepT K F m vs kvs → vs.map (·.1) = kvs.map (·.1)
  | _, _, .nil => rfl
  | _, _, .cons _ h => by rw [List.map_cons, List.map_cons, h.at]
section
variable {k : Nat} {X : Cx} {c : Cfg} {elt tg iter : Expr} {ifs : List Expr} {scope : Scope} {own : List (Str × Nat)} {pos : Pos} {de0 : DE} {is : List Nat} {g : PV → DEnv → Option DEnv} {dt : Den Bool} {de : DE}
end

/-! ### for k in a dict -/
theorem PSs.ex {X : Cx} {e : List Stmt} {ι : Type} {t : ι → TS} (h : ∀ i, PSs X e (t i)) : PSs X e (fun D σ H => ∃ i, t i D σ H) := ⟨fun pins s σ H D I ⟨i, q⟩ => (h i).run pins s σ H D I q⟩
section
variable {y : Str} {py spos : Pos} {k : Nat} {X : Cx} {c : Cfg} {elt tg iter : Expr} {ifs : List Expr} {scope : Scope} {own : List (Str × Nat)} {pos : Pos} {de0 : DE} {is : List Nat} {g : PV → DEnv → Option DEnv} {dt : Den Bool} {de : DE}
end
/-! ### d.get -/
theorem rd_has {lk : List Addr} {H : Hp} {a : Addr} {o : HO} (h : Has lk H a o) : Rd H a o := by
  rcases h with h | ⟨_, _, ob, h⟩
  · exact .inl h
  · exact .inr ⟨ob, h⟩
end Dn
end
section
set_option Elab.async false
set_option linter.all false
set_option maxRecDepth 100000
set_option maxHeartbeats 1000000
namespace Dn
open PySem L2 PySem.Spec PyProof.Rows
def kVal (H : Hp) (u : Value) : Int × Int := match u with
  | .ref t => prAt H (.ref t)
  | _ => (0, 0)
def keyPr : List Key → Int × Int
  | [.inl i, .inl j] => (i, j)
  | _ => (0, 0)
def rSortedDT (vs : List V) (H : Hp) (Q : VK) : Prop := ∃ (a : Addr) (kvs : List (List Key × V)), vs = [.ref a] ∧ Rd H a (.dT kvs) ∧ (∀ kv ∈ kvs, ∃ i j, kv.1 = [.inl i, .inl j]) ∧
  ∀ (ys : List V) p, (∀ y ∈ ys, ∃ t, y = .ref t ∧ H t = some (.tup [.int (prAt H y).1, .int (prAt H y).2])) → ys.map (prAt H) = sortPr (kvs.map fun kv => keyPr kv.1) → H p = none → Q (.ref p) (upd H p (.lst ys))
theorem call_sortedDT {X : Cx} (hcalm : X.calm = true) : CallR X (.builtin "sorted") rSortedDT := by
  intro pins s σ H vs us Q I r q
  obtain ⟨a, kvs, ex, hd, hks, q⟩ := q
  subst ex
  obtain ⟨u, eu, rx⟩ := vals1 r
  subst eu
  cases rx
  obtain ⟨z, lo, xs, rel, o, es, ep, ho, hc, hdat, hes, his, hn⟩ := dt_rd I.hok hd
  have lx : xs.length = kvs.length := (Paired.length rel).symm
  have le : es.size = xs.length := by
    have := congrArg List.length hes
    rw [List.length_map, Array.length_toList] at this
    exact this
  have h16 : es.size ≤ sizeLine := by rw [le, lx]; exact z
  refine Calls.call_function_entry PyProof.Rows.kind_sorted PyProof.Rows.plain_sorted PyProof.Rows.entry_sorted (PyProof.Rows.args_sorted1 _) ?_
  unfold Builtin.«sorted»
  refine wpAny_bind (m := checkCount "sorted" 1 1 _) (wpAny_pure ?_)
  refine wpAny_bind (PySem.W.kdu_collect (A := X.A.in1) (PySem.KdlSrc.rawDict (es := es) (ep := ep) lo) (I.ok.hd hcalm) ⟨o, ho, hc, hdat⟩ h16 fun h' tk acc hk hacc => ?_)
  have keyat : ∀ x ∈ xs, ∃ (t : Unit) (i j : Int), x.1 = [.inl i, .inl j] ∧ H x.2.1 = some (.tup [.int i, .int j]) := by
    have gen : ∀ {kvs : List (List Key × V)} {xs : List (List Key × Addr × Value)}, KT H kvs xs → (∀ kv ∈ kvs, ∃ i j, kv.1 = [.inl i, .inl j]) → ∀ x ∈ xs, ∃ (t : Unit) (i j : Int), x.1 = [.inl i, .inl j] ∧ H x.2.1 = some (.tup [.int i, .int j]) := by
      intro kvs xs rel
      induction rel with
      | nil => intro _ x hx; cases hx
      | @cons p q ps qs h t ih =>
        intro hk x hx
        rcases List.mem_cons.mp hx with rfl | hx
        · obtain ⟨i, j, e⟩ := hk p (List.mem_cons_self ..)
          refine ⟨(), i, j, by rw [← h.1, e], ?_⟩
          have := h.2.1
          rw [e] at this
          exact this
        · exact ih (fun kv hkv => hk kv (List.mem_cons_of_mem _ hkv)) x hx
    exact gen rel hks
  have prs : (xs.map fun x => Value.ref x.2.1).map (kVal H) = kvs.map fun kv => keyPr kv.1 := by
    have gen : ∀ {kvs : List (List Key × V)} {xs : List (List Key × Addr × Value)}, KT H kvs xs → (∀ kv ∈ kvs, ∃ i j, kv.1 = [.inl i, .inl j]) → (xs.map fun x => Value.ref x.2.1).map (kVal H) = kvs.map fun kv => keyPr kv.1 := by
      intro kvs xs rel
      induction rel with
      | nil => intro _; rfl
      | @cons p q ps qs h t ih =>
        intro hk
        obtain ⟨i, j, e⟩ := hk p (List.mem_cons_self ..)
        have e2 : H q.2.1 = some (.tup [.int i, .int j]) := by have := h.2.1; rw [e] at this; exact this
        rw [List.map_cons, List.map_cons, List.map_cons, ih fun kv hkv => hk kv (List.mem_cons_of_mem _ hkv), e]
        congr 1
        unfold kVal prAt; dsimp only; rw [e2]; rfl
    exact gen rel hks
  have hal : acc.toList = xs.map fun x => Value.ref x.2.1 := by
    apply List.ext_getElem?
    intro j
    rw [List.getElem?_map]
    have hsz : acc.toList.length = xs.length := by rw [Array.length_toList, hacc.1, le]
    by_cases hj : j < xs.length
    · have h1 : acc.toList[j]? = some acc.toList[j] := List.getElem?_eq_getElem (by omega)
      obtain ⟨hi, e1⟩ := hacc.2 j acc.toList[j] (by rw [← Array.getElem?_toList]; exact h1)
      have h2 : es.toList[j]? = some es[j] := by rw [Array.getElem?_toList]; exact Array.getElem?_eq_getElem hi
      rw [hes, List.getElem?_map] at h2
      obtain ⟨x, h3, h4⟩ := Option.map_eq_some_iff.mp h2
      rw [h1, h3, e1, ← h4]
      rfl
    · rw [List.getElem?_eq_none (by omega), List.getElem?_eq_none (by omega)]
      rfl
  have hz : acc.toList.length ≤ sizeLine := by rw [hal, List.length_map, lx]; exact z
  have hp : ∀ v ∈ acc.toList, Srt.IsPair s.heap v (kVal H v).1 (kVal H v).2 := by
    rw [hal]
    intro v hv
    obtain ⟨x, hx, rfl⟩ := List.mem_map.mp hv
    obtain ⟨t, i, j, e1, e2⟩ := keyat x hx
    have e3 : kVal H (.ref x.2.1) = (i, j) := by unfold kVal prAt; dsimp only; rw [e2]
    rw [e3]
    obtain ⟨_, its2, r2, o, ho, hc, n, hd⟩ := I.hok _ _ e2
    obtain ⟨u1, u2, rfl, ri, rj⟩ := vals2 r2
    obtain ⟨t1, rfl⟩ := ri
    obtain ⟨t2, rfl⟩ := rj
    exact ⟨_, o, t1, t2, n, rfl, ho, hc, hd⟩
  have I1 : Inv X pins σ H { s with heap := h', toks := tk } := I.kept hk
  refine wpAny_bind (wpAny_newList ?_ hz)
  have hoL : (h'.push (seqObj "list" acc.toList.toArray 0)).get? h'.objs.size = some (seqObj "list" acc.toList.toArray 0) := Heap.get?_push_size _ rfl
  have keep : ∀ b o, s.heap.get? b = some o → b ≠ h'.objs.size ∧ (h'.push (seqObj "list" acc.toList.toArray 0)).get? b = some o := fun b o e => ⟨Nat.ne_of_lt (Heap.lt_size (hk b o e)), Heap.get?_push_of_some _ (hk b o e)⟩
  show wpAny _ _ _ _ _ { s with heap := h'.push (seqObj "list" acc.toList.toArray 0), toks := tk }
  refine wpAny_bind (wpAny_holding (wpAny_call_entry PyProof.Rows.slot_list_sort ⟨_, hoL, rfl⟩ PyProof.Rows.entry_list_sort
    (SrtO.list_sort_ord (s := { s with heap := h'.push (seqObj "list" acc.toList.toArray 0), toks := tk }) (SrtO.swo_lex (kVal H)) hoL hz (fun h2 => ?_) fun out hs hb => ⟨_, rfl, ?_⟩) (PyProof.Rows.args_list_sort _)))
  · refine SrtO.pairs_sortableO (by omega) (fun v hm => (hp v hm).keeps fun b o e _ => (keep b o e).2) fun o e => ?_
    rw [hoL] at e; cases e
    exact fun z => absurd (Value.type.inj z) (by decide)
  · have h3 : ∀ u ∈ out, ∃ a, u = Value.ref a := fun u hu => by
      have := hb.perm.mem_iff.mp hu
      rw [hal] at this
      obtain ⟨x, _, rfl⟩ := List.mem_map.mp this
      exact ⟨_, rfl⟩
    have kb : ∀ u ∈ out, prAt H (backV u) = kVal H u := fun u hu => by
      obtain ⟨a, rfl⟩ := h3 u hu
      rfl
    have e1 : (out.map backV).map (prAt H) = out.map (kVal H) := by
      rw [List.map_map]
      exact List.map_congr_left fun u hu => kb u hu
    obtain ⟨e', he'⟩ := PyProof.Rows.sortedHeap_at (vs := acc.toList) (out := out.toArray) hoL
    have hlen : (out.map backV).length ≤ sizeLine := by rw [List.length_map, hb.len]; exact hz
    refine wpAny_pure ⟨_, rfl, .ref h'.objs.size, upd H h'.objs.size (.lst (out.map backV)), I1.laid (t' := tk) (fun b u e => ?_) (Nat.le_refl _)
      (show ObjOk X.prog X.w _ _ _ (.lst (out.map backV)) from ⟨hlen, out, e', vals_back h3, he'⟩), rfl, q _ _ (fun y hy => ?_) ?_ (I1.hok.fresh (Nat.le_refl _))⟩
    · have hb : b < h'.objs.size := Heap.lt_size e
      rw [PyProof.Rows.sortedHeap_old (Nat.ne_of_lt hb) (by rw [size_push']; exact Nat.lt_succ_of_lt hb)]
      exact Heap.get?_push_of_some _ e
    · obtain ⟨u, hu, rfl⟩ := List.mem_map.mp hy
      have hm := hb.perm.mem_iff.mp hu
      rw [hal] at hm
      obtain ⟨x, hx, rfl⟩ := List.mem_map.mp hm
      obtain ⟨t, i, j, g1, g2⟩ := keyat x hx
      refine ⟨x.2.1, rfl, ?_⟩
      have : prAt H (backV (.ref x.2.1)) = (i, j) := by unfold prAt backV; dsimp only; rw [g2]
      rw [this]
      exact g2
    · rw [e1]
      refine sortPr_uniq ?_ (SrtO.srtd_map hs)
      rw [← prs, ← hal]
      exact hb.perm.map _

def prKeys : List (List Key × PV) → Option (List (Int × Int))
  | [] => some []
  | ([.inl i, .inl j], _) :: r => (prKeys r).map ((i, j) :: ·)
  | _ => none
def sortedP : GN := fun S ps => match ps with
  | [.lst xs] => match intsP xs with
    | some ns => some (.lst ((sortI ns).map .int))
    | none => (pairsP xs).map fun ls => .lst ((sortPr ls).map encPr)
  | [.dk kvs] => (keysI kvs).bind fun ks => if ks.length < 64 then some (.lst ((sortI ks).map .int)) else none
  | [.dt kvs] => (prKeys kvs).map fun ls => .lst ((sortPr ls).map encPr)
  | _ => none

theorem prKeys_rep {K : PySem.W.Frag} {F : Hp} {m : List Addr} : ∀ {vs : List (List Key × V)} {kvs : List (List Key × PV)} {ls : List (Int × Int)}, RepT K F m vs kvs → prKeys kvs = some ls → (∀ kv ∈ vs, ∃ i j, kv.1 = [.inl i, .inl j]) ∧ (vs.map fun kv => keyPr kv.1) = ls
  | _, _, _, .nil, h => by cases h; exact ⟨fun kv hkv => (nomatch hkv), rfl⟩
  | _, _, _, .cons (k := k) h1 h2, h => by
    unfold prKeys at h
    split at h
    · rename_i h3; cases h3
    · rename_i i j _ _ h3
      cases h3
      obtain ⟨ms, e, rfl⟩ := Option.map_eq_some_iff.mp h
      obtain ⟨g1, g2⟩ := prKeys_rep h2 e
      refine ⟨fun kv hkv => ?_, by rw [List.map_cons, g2]; rfl⟩
      rcases List.mem_cons.mp hkv with rfl | hkv
      · exact ⟨i, j, rfl⟩
      · exact g1 kv hkv
    · cases h
open Classical in
/-- tuples that stand are frozen late, with a new list of them -/
theorem late {K : PySem.W.Frag} {mg : Str → Option Value} {lk : List Addr} {F H : Hp} {m : List Addr} {S : Stor} (R : R0 K mg lk F m S H) (ys : List V) (hy : ∀ y ∈ ys, ∃ t, y = .ref t ∧ H t = some (.tup [.int (prAt H y).1, .int (prAt H y).2])) {p : Addr} (hp : H p = none) :
    ∃ F2, Ext F H F2 (upd H p (.lst ys)) ∧ F2 p = some (.lst ys) ∧ RepL K F2 m ys ((ys.map (prAt H)).map encPr) := by
  have fp : F p = none := by
    cases q : F p with
    | none => rfl
    | some u => exact absurd hp (R.fne p u q)
  let F1 : Hp := fun a => if F a ≠ none then F a else if V.ref a ∈ ys then H a else none
  have F1f : ∀ a u, F a = some u → F1 a = some u := fun a u e => by show (if F a ≠ none then F a else _) = _; rw [if_pos (by rw [e]; exact fun z => nomatch z)]; exact e
  have tupat : ∀ y ∈ ys, ∃ t, y = .ref t ∧ t ≠ p ∧ F1 t = some (.tup [.int (prAt H y).1, .int (prAt H y).2]) := fun y hm => by
    obtain ⟨t, rfl, ht⟩ := hy y hm
    refine ⟨t, rfl, fun z => (by rw [z, hp] at ht; cases ht), ?_⟩
    cases q : F t with
    | none => show (if F t ≠ none then F t else _) = _; rw [if_neg (by rw [q]; simp), if_pos hm]; exact ht
    | some w =>
      rw [F1f t w q]
      rcases R.sub t w q with h | ⟨_, _, ob, h⟩
      · rw [ht] at h; cases h; rfl
      · rw [ht] at h; cases h
  refine ⟨upd F1 p (.lst ys), ⟨fun a u e => ?_, fun a u e => by rw [upd_ne (ne_of_none e hp)]; exact e, fun a ha he => ?_, fun a u ha he => ?_⟩, upd_same, ?_⟩
  · rw [upd_ne (ne_of_none e fp)]; exact F1f a u e
  · by_cases z : a = p
    · rw [z]; exact .inl hp
    · rw [upd_ne z] at ha
      have ha : (if F a ≠ none then F a else if V.ref a ∈ ys then H a else none) ≠ none := ha
      rw [if_neg (by rw [he]; simp)] at ha
      by_cases hm : V.ref a ∈ ys
      · obtain ⟨t, e, ht⟩ := hy _ hm
        cases e
        exact .inr ⟨_, ht⟩
      · rw [if_neg hm] at ha; exact absurd rfl ha
  · by_cases z : a = p
    · subst z; rw [upd_same] at ha; cases ha; exact ⟨upd_same, trivial⟩
    · rw [upd_ne z] at ha
      have ha : (if F a ≠ none then F a else if V.ref a ∈ ys then H a else none) = some u := ha
      rw [if_neg (by rw [he]; simp)] at ha
      by_cases hm : V.ref a ∈ ys
      · rw [if_pos hm] at ha
        obtain ⟨t, e, ht⟩ := hy _ hm
        cases e
        rw [ht] at ha; cases ha
        exact ⟨by rw [upd_ne z]; exact ht, trivial⟩
      · rw [if_neg hm] at ha; cases ha
  · have pe : ∀ y ∈ ys, prAt (upd F1 p (.lst ys)) y = prAt H y := fun y hm => by
      obtain ⟨t, rfl, tp, ht⟩ := tupat y hm
      unfold prAt at ht ⊢
      dsimp only at ht ⊢
      rw [upd_ne tp, ht]
    have e1 : ys.map (prAt H) = ys.map (prAt (upd F1 p (.lst ys))) := List.map_congr_left fun y hm => (pe y hm).symm
    rw [e1]
    refine rep_pairs fun y hm => ?_
    obtain ⟨t, e, tp, ht⟩ := tupat y hm
    exact ⟨t, e, by rw [pe y hm, upd_ne tp]; exact ht⟩
theorem b_sorted {k : Nat} {X : Cx} {c : Cfg} (hX : XOk k X c) : CN X (.builtin "sorted") sortedP := by
  refine ⟨_, Dn.CallR.or cr_sortedI (Dn.CallR.or cr_sortedPO (Dn.CallR.or (call_sortedDI hX.calm) (call_sortedDT hX.calm))), fun lk F m S H vs ps res Q R r h yl => ?_⟩
  unfold sortedP at h
  split at h
  · rename_i xs
    obtain ⟨v, rfl, q⟩ := repl1 r
    cases q with
    | @lst a ws _ hf rl =>
      have hs : SqL X.K H a ws := SqL.of (R.sub _ _ hf).lst
      split at h
      · rename_i ns e
        cases h
        refine .inl ⟨a, ns, rfl, by rw [← ints_rep rl e]; exact hs, fun ns' p h1 h2 hp => ?_⟩
        rw [sortI_uniq h1 h2]
        exact yl.new R hp trivial fun s => .lst upd_same (rep_mapI _)
      · obtain ⟨ls, e, rfl⟩ := Option.map_eq_some_iff.mp h
        obtain ⟨g1, g2⟩ := pairs_rep rl e
        refine .inr (.inl ⟨a, ws, prAt F, rfl, hs, fun x hx => ?_, fun ys p h1 h2 hp => ?_⟩)
        · obtain ⟨t, e, f⟩ := g2 x hx
          refine ⟨t, e, ?_⟩
          rcases R.sub _ _ f with z | ⟨_, z, _⟩
          · exact z
          · exact z.elim
        · have e2 : ys.map (prAt F) = sortPr ls := by
            refine sortPr_uniq ?_ ?_
            · rw [← g1]; exact h2.perm.map _
            · exact List.pairwise_map.mpr h1
          refine yl.new R hp trivial fun s => .lst upd_same ?_
          rw [← e2]
          have := rep_pairs (K := X.K) (F := F) (m := m) (ys := ys) fun v hv => g2 v (h2.perm.mem_iff.mp hv)
          exact this.mono s (List.prefix_refl _)
  · rename_i kvs
    obtain ⟨ks, e, h⟩ := Option.bind_eq_some_iff.mp h
    split at h
    · rename_i hl
      cases h
      obtain ⟨v, rfl, q⟩ := repl1 r
      cases q with
      | @dk a ws _ hf rl =>
        refine .inr (.inr (.inl ⟨a, ws, ks, rfl, ?_, keysI_rep rl e, hl, fun ys p h1 h2 hp => ?_⟩))
        · rcases R.sub _ _ hf with z | ⟨_, _, ob, z⟩
          · exact .inl z
          · exact .inr ⟨ob, z⟩
        · rw [sortI_uniq h1 h2]
          exact yl.new R hp trivial fun s => .lst upd_same (rep_mapI _)
    · cases h
  · rename_i kvs
    obtain ⟨ls, e, rfl⟩ := Option.map_eq_some_iff.mp h
    obtain ⟨v, rfl, q⟩ := repl1 r
    cases q with
    | @dt a ws _ hf rl =>
      obtain ⟨g1, g2⟩ := prKeys_rep rl e
      refine .inr (.inr (.inr ⟨a, ws, rfl, rd_has (R.sub _ _ hf), g1, fun ys p hy he hp => ?_⟩))
      rw [g2] at he
      obtain ⟨F2, x, h1, h2⟩ := late R ys hy hp
      refine yl F2 _ _ x (.lst h1 ?_)
      rw [← he]
      exact h2
  · cases h
end Dn
end
section
set_option Elab.async false
set_option linter.all false
set_option maxRecDepth 100000
set_option maxHeartbeats 1000000
namespace Dn
open PySem L2 PySem.Spec PyProof.Rows
/-! ### list of a dict -/
end Dn
end
section
set_option Elab.async false
set_option linter.all false
set_option maxRecDepth 100000
set_option maxHeartbeats 1000000
namespace Dn
open PySem L2 PySem.Spec PyProof.Rows
/-! ### enumerate, zip -/
section
variable {k : Nat} {X : Cx} {c : Cfg} {e e2 : Expr} {de de2 : DE} {elts : List Expr} {kk : Nat} {tpos p pos : Pos}
end
end Dn
end
section
set_option Elab.async false
set_option linter.all false
set_option maxRecDepth 100000
set_option maxHeartbeats 1000000
namespace Dn
open PySem L2 PySem.Spec PyProof.Rows
end Dn
end
section
set_option Elab.async false
set_option linter.all false
set_option maxRecDepth 100000
set_option maxHeartbeats 1000000
namespace Dn
open PySem L2 PySem.Spec PyProof.Rows HT
/-! ### t[::-1] of a tuple -/
section
variable {prog : Program} {w : World} {A : Around} {E : Value → Shared → Prop} {s : Shared}
end
end Dn
end
section
set_option Elab.async false
set_option linter.all false
set_option maxRecDepth 100000
set_option maxHeartbeats 1000000
namespace Dn
open PySem L2 PySem.Spec PyProof.Rows
/-! ### methods of lists: count, index -/
/-- the first place of a flat item -/
def idxF (q : PV) : List PV → Option Nat
  | [] => none
  | p :: ps => if eqF p q then some 0 else (idxF q ps).map (· + 1)
section
variable {k : Nat} {X : Cx} {c : Cfg} {o e : Expr} {apos cpos : Pos} {da dk : DE}
end
end Dn
end
section
set_option Elab.async false
set_option linter.all false
set_option maxRecDepth 100000
set_option maxHeartbeats 1000000
namespace Dn
open PySem L2

/-! ### what holds of the outcome -/
def wp {α : Type} (d : Den α) (e : DEnv) (S : Stor) (Q : Out α → Prop) : Prop := Q (d e S)
def wpS (d : DS) (e : DEnv) (S : Stor) (Q : OutS → Prop) : Prop := Q (d e S)
def wpF (f : DF) (ps : List PV) (S : Stor) (Q : OutF → Prop) : Prop := Q (f ps S)
def bq {α β : Type} (k : α → Den β) (Q : Out β → Prop) : Out α → Prop
  | .st => Q .st
  | .ok a e s => wp (k a) e s Q
  | .ex x e s => Q (.ex x e s)
def bqS {α : Type} (k : α → DS) (Q : OutS → Prop) : Out α → Prop
  | .st => Q .st
  | .ok a e s => wpS (k a) e s Q
  | .ex x e s => Q (.ex x e s)
def bqF (e : DEnv) (Q : Out PV → Prop) : OutF → Prop
  | .st => Q .st
  | .ok a s => Q (.ok a e s)
  | .ex x s => Q (.ex x e s)
def sqS (b : DS) (Q : OutS → Prop) : OutS → Prop
  | .nx e s => wpS b e s Q
  | o => Q o
def fqS (Q : OutF → Prop) : OutS → Prop
  | .nx _ s => Q (.ok .non s)
  | .rt p _ s => Q (.ok p s)
  | .ex x _ s => Q (.ex x s)
  | _ => Q .st
section
variable {α β : Type} {d : Den α} {k : α → Den β} {e : DEnv} {S : Stor} {Q : Out β → Prop} {Q1 : Out α → Prop} {a : α}
theorem wp_bind : wp (d.bind k) e S Q = wp d e S (bq k Q) := by
  unfold wp Den.bind; cases d e S <;> rfl
theorem bq_ok : bq k Q (.ok a e S) = wp (k a) e S Q := id rfl
theorem bq_ex {x : Exc} : bq k Q (.ex x e S) = Q (.ex x e S) := id rfl
theorem wp_pure : wp (Den.pure a) e S Q1 = Q1 (.ok a e S) := id rfl
theorem wp_fail : wp Den.fail e S Q1 = Q1 .st := id rfl
theorem wp_getS {Q : Out Stor → Prop} : wp Den.getS e S Q = Q (.ok S e S) := id rfl
end
section
variable {α : Type} {d : Den α} {e : DEnv} {S : Stor} {Q : OutS → Prop} {p : PV} {k : α → DS} {a : α} {x y : DS}
theorem wpS_sE : wpS (sE d k) e S Q = wp d e S (bqS k Q) := by
  unfold wpS sE wp; cases d e S <;> rfl
theorem bqS_ok : bqS k Q (.ok a e S) = wpS (k a) e S Q := id rfl
theorem bqS_ex {z : Exc} : bqS k Q (.ex z e S) = Q (.ex z e S) := id rfl
theorem wpS_seq : wpS (sSeq x y) e S Q = wpS x e S (sqS y Q) := by
  unfold wpS sSeq; cases x e S <;> rfl
theorem sqS_nx : sqS y Q (.nx e S) = wpS y e S Q := id rfl
theorem sqS_rt : sqS y Q (.rt p e S) = Q (.rt p e S) := id rfl
theorem sqS_bk : sqS y Q (.bk e S) = Q (.bk e S) := id rfl
theorem sqS_ct : sqS y Q (.ct e S) = Q (.ct e S) := id rfl
theorem sqS_ex {z : Exc} : sqS y Q (.ex z e S) = Q (.ex z e S) := id rfl
theorem wpS_next : wpS sNext e S Q = Q (.nx e S) := id rfl
theorem wpS_break : wpS sBreak e S Q = Q (.bk e S) := id rfl
theorem wpS_cont : wpS sCont e S Q = Q (.ct e S) := id rfl
theorem wpS_retN : wpS sRetN e S Q = Q (.rt .non e S) := id rfl
def kSetT (is : List Nat) : PV → DS := fun p e s => match tgT is p e with
  | some e => .nx e s
  | none => .st
theorem wpS_setT {is : List Nat} {de : DE} : wpS (sSetT is de) e S Q = wp de e S (bqS (kSetT is) Q) := wpS_sE
def kApp (i : Nat) : PV → DS := fun p e s => match e[i]? with
  | some (.ol xs) => if xs.length < sizeLine then .nx (e.set i (.ol (xs ++ [p]))) s else .st
  | _ => .st
theorem wpS_app {i : Nat} {da : DE} {xs : List PV} (h : e[i]? = some (.ol xs)) : wpS (sApp i da) e S Q = wp da e S (bqS (kApp i) Q) := by
  rw [← wpS_sE]; unfold wpS sApp; rw [h]; rfl
theorem wpS_appv {i : Nat} {xs : List PV} (h : e[i]? = some (.ol xs)) (hl : xs.length < sizeLine) : wpS (kApp i p) e S Q = Q (.nx (e.set i (.ol (xs ++ [p]))) S) := by
  unfold wpS kApp; rw [h]; dsimp only; rw [if_pos hl]
def stQ (Q : OutS → Prop) : Option Stor → DEnv → Prop
  | some s, e => Q (.nx e s)
  | none, _ => Q .st
def kSetR (o q p : PV) : DS := fun e s => match setS s o q p with
  | some s => .nx e s
  | none => .st
theorem wpS_setSv {o q : PV} : wpS (kSetR o q p) e S Q = stQ Q (setS S o q p) e := by
  unfold wpS kSetR stQ; cases setS S o q p <;> rfl
theorem stQ_some : stQ Q (some S) e = Q (.nx e S) := id rfl
end
section
variable {e : DEnv} {S : Stor} {Q : Out PV → Prop} {ps : List PV} {p : PV} {i : Nat}
theorem wp_C : wp (dC p) e S Q = Q (.ok p e S) := id rfl
def kCall (f : DF) (ps : List PV) : DE := fun e s => match f ps s with
  | .st => .st
  | .ok p s => .ok p e s
  | .ex x s => .ex x e s
theorem wp_call {f : DF} {dr : Den (List PV)} : wp (dCall f dr) e S Q = wp dr e S (bq (kCall f) Q) := wp_bind
theorem wp_callv {f : DF} : wp (kCall f ps) e S Q = wpF f ps S (bqF e Q) := by
  unfold wp wpF kCall; cases f ps S <;> rfl
theorem bqF_ok : bqF e Q (.ok p S) = Q (.ok p e S) := id rfl
theorem bqF_ex {x : Exc} : bqF e Q (.ex x S) = Q (.ex x e S) := id rfl
def kNew (ps : List PV) : DE := fun e s => .ok (.ref s.length) e (s ++ [.lst ps])
theorem wp_new {dd : Den (List PV)} : wp (dNew dd) e S Q = wp dd e S (bq kNew Q) := wp_bind
theorem wp_newv : wp (kNew ps) e S Q = Q (.ok (.ref S.length) e (S ++ [.lst ps])) := id rfl
end
/-! ### defs -/
theorem wpF_fun {n u : Nat} {b : DS} {ps : List PV} {S : Stor} {Q : OutF → Prop} (h : ps.length = n) : wpF (dFun n u b) ps S Q = wpS b (ps.map Slot.v ++ List.replicate u Slot.un) S (fqS Q) := by
  unfold wpF dFun wpS; rw [if_pos h]; cases b (ps.map Slot.v ++ List.replicate u Slot.un) S <;> rfl
section
variable {e : DEnv} {S : Stor} {Q : OutF → Prop} {p : PV}
theorem fqS_nx : fqS Q (.nx e S) = Q (.ok .non S) := id rfl
theorem fqS_rt : fqS Q (.rt p e S) = Q (.ok p S) := id rfl
theorem fqS_ex {x : Exc} : fqS Q (.ex x e S) = Q (.ex x S) := id rfl
end
/-! ### loops -/
section
variable {e : DEnv} {S : Stor}
theorem wpS_for {di : Den (List PV)} {g : PV → DEnv → Option DEnv} {b : DS} {Q : OutS → Prop} : wpS (sFor di g b) e S Q = wp di e S (bqS (forL g b) Q) := wpS_sE
/-- a for by an invariant: J of the items still to come -/
theorem forL_inv {b : DS} {g : PV → DEnv → Option DEnv} {Q : OutS → Prop} (J : List PV → DEnv → Stor → Prop) (hb : ∀ p ps e S, J (p :: ps) e S → ∃ e1, g p e = some e1 ∧ wpS b e1 S fun o => match o with
    | .nx e S => J ps e S
    | .ct e S => J ps e S
    | .bk e S => Q (.nx e S)
    | o => Q o) (hq : ∀ e S, J [] e S → Q (.nx e S)) : ∀ (ps : List PV) (e : DEnv) (S : Stor), J ps e S → wpS (forL g b ps) e S Q
  | [], e, S, h => hq e S h
  | p :: ps, e, S, h => by
    obtain ⟨e1, h1, h2⟩ := hb p ps e S h
    unfold wpS forL
    rw [h1]
    dsimp only
    unfold wpS at h2
    cases q : b e1 S with
    | nx e2 S2 => rw [q] at h2; exact forL_inv J hb hq ps e2 S2 h2
    | ct e2 S2 => rw [q] at h2; exact forL_inv J hb hq ps e2 S2 h2
    | bk e2 S2 => rw [q] at h2; exact h2
    | st => rw [q] at h2; exact h2
    | rt p e2 S2 => rw [q] at h2; exact h2
    | ex x e2 S2 => rw [q] at h2; exact h2
/-- .. of a body that leaves the slots as they are, but for the loop's own -/
theorem lcL_inv {own : List Nat} {g : PV → DEnv → Option DEnv} {dt : Den Bool} {de : DE} {Q : Out (List PV) → Prop} (J : List PV → List PV → DEnv → Stor → Prop)
    (hb : ∀ p ps acc e S, J (p :: ps) acc e S → ∃ e1, g p e = some e1 ∧ wp dt e1 S fun o => match o with
      | .ok true e2 S2 => wp de e2 S2 fun o => match o with
        | .ok v e3 S3 => acc.length < sizeLine ∧ J ps (acc ++ [v]) (wipeE e3 own) S3
        | _ => False
      | .ok false e2 S2 => J ps acc (wipeE e2 own) S2
      | _ => False)
    (hq : ∀ acc e S, J [] acc e S → Q (.ok acc e S)) : ∀ (ps acc : List PV) (e : DEnv) (S : Stor), J ps acc e S → wp (lcL own g dt de ps acc) e S Q
  | [], acc, e, S, h => hq acc e S h
  | p :: ps, acc, e, S, h => by
    obtain ⟨e1, h1, h2⟩ := hb p ps acc e S h
    unfold wp lcL
    rw [h1]
    dsimp only
    unfold wp at h2
    cases q : dt e1 S with
    | st => rw [q] at h2; exact h2.elim
    | ex x e2 S2 => rw [q] at h2; exact h2.elim
    | ok b e2 S2 =>
      rw [q] at h2
      cases b with
      | false => exact lcL_inv J hb hq ps acc _ S2 h2
      | true =>
        dsimp only at h2 ⊢
        cases q2 : de e2 S2 with
        | st => rw [q2] at h2; exact h2.elim
        | ex x e3 S3 => rw [q2] at h2; exact h2.elim
        | ok v e3 S3 =>
          rw [q2] at h2
          dsimp only
          rw [if_pos h2.1]
          exact lcL_inv J hb hq ps _ _ S3 h2.2
def lcQ (own : List Nat) (e0 : DEnv) (Q : Out (List PV) → Prop) : Out (List PV) → Prop
  | .ok acc e S => Q (.ok acc (restE e0 own e) S)
  | _ => Q .st
def kComp (own : List Nat) (g : PV → DEnv → Option DEnv) (dt : Den Bool) (de : DE) (ps : List PV) : Den (List PV) := fun e s =>
    if noOwn e own then match lcL own g dt de ps [] (wipeE e own) s with
    | .ok acc e2 s2 => .ok acc (restE e own e2) s2
    | _ => .st
  else .st
theorem wp_comp {own : List Nat} {di : Den (List PV)} {g : PV → DEnv → Option DEnv} {dt : Den Bool} {de : DE} {Q : Out (List PV) → Prop} : wp (lComp own di g dt de) e S Q = wp di e S (bq (kComp own g dt de) Q) := wp_bind
theorem wp_compv {own : List Nat} {g : PV → DEnv → Option DEnv} {dt : Den Bool} {de : DE} {Q : Out (List PV) → Prop} {ps : List PV} (h : noOwn e own = true) : wp (kComp own g dt de ps) e S Q = wp (lcL own g dt de ps []) (wipeE e own) S (lcQ own e Q) := by
  unfold wp kComp; rw [if_pos h]; cases lcL own g dt de ps [] (wipeE e own) S <;> rfl
end
end Dn
end
section
set_option Elab.async false
set_option linter.all false
set_option maxRecDepth 100000
set_option maxHeartbeats 1000000
namespace Dn
open PySem L2
def oQ {α : Type} (e : DEnv) (S : Stor) (Q : Out α → Prop) : Option α → Prop
  | some a => Q (.ok a e S)
  | none => Q .st
section
variable {α β : Type} {d : Den α} {e : DEnv} {S : Stor} {a : α}
theorem wp_opt {Q : Out α → Prop} {o : Option α} : wp (Den.opt o) e S Q = oQ e S Q o := by cases o <;> rfl
theorem oQ_some {Q : Out α → Prop} : oQ e S Q (some a) = Q (.ok a e S) := id rfl
theorem oQ_ite {Q : Out α → Prop} {c : Prop} [Decidable c] {o o' : Option α} : oQ e S Q (if c then o else o') = if c then oQ e S Q o else oQ e S Q o' := by split <;> rfl
def vQ (i : Nat) (e : DEnv) (S : Stor) (Q : Out PV → Prop) : Option Slot → Prop
  | some (.v p) => Q (.ok p e S)
  | some (.ol ps) => Q (.ok (.lst ps) (e.set i (.v (.lst ps))) S)
  | some (.od ps) => Q (.ok (.dk ps) (e.set i (.v (.dk ps))) S)
  | some (.ot ps) => Q (.ok (.dt ps) (e.set i (.v (.dt ps))) S)
  | _ => Q .st
variable {Q : Out PV → Prop} {i : Nat} {p : PV} {ps : List PV}
theorem wp_dVar : wp (dVar i) e S Q = vQ i e S Q e[i]? := by
  unfold wp dVar vQ; split <;> simp_all
theorem vQ_v : vQ i e S Q (some (.v p)) = Q (.ok p e S) := id rfl
theorem vQ_o : vQ i e S Q (some (.ol ps)) = Q (.ok (.lst ps) (e.set i (.v (.lst ps))) S) := id rfl
end
theorem mulOk_r {i j : Int} (h : -(2 ^ 64) < j ∧ j < 2 ^ 64) : mulOk i j = true := by
  unfold mulOk; rw [decide_eq_true h.1, decide_eq_true h.2, Bool.and_self, Bool.or_true]
/-! ### operators at values -/
section
variable {S : Stor} {i j : Int} {xs ys : List PV} {a b : Bool} {x y : Str}
theorem add_i : addP S (.int i) (.int j) = some (.int (i + j)) := id rfl
theorem add_t : addP S (.tup xs) (.tup ys) = if xs.length + ys.length ≤ sizeLine then some (.tup (xs ++ ys)) else none := id rfl
theorem add_l : addP S (.lst xs) (.lst ys) = if xs.length + ys.length ≤ sizeLine then some (.lst (xs ++ ys)) else none := id rfl
theorem sub_i : subP S (.int i) (.int j) = some (.int (i - j)) := id rfl
theorem mul_i : mulP' S (.int i) (.int j) = if mulOk i j then some (.int (i * j)) else none := id rfl
theorem mul_t : mulP' S (.tup xs) (.int j) = if xs.length ≤ 1000 ∧ -1000000 ≤ j ∧ j ≤ 1000 then some (.tup (List.replicate j.toNat xs).flatten) else none := id rfl
theorem mul_l : mulP' S (.lst xs) (.int j) = if xs.length ≤ 1000 ∧ -1000 ≤ j ∧ j ≤ 1000 then some (.lst (List.replicate j.toNat xs).flatten) else none := id rfl
theorem fdiv_i : fdivP S (.int i) (.int j) = if 0 < j ∧ j < 1073741824 then some (.int (i / j)) else none := id rfl
theorem mod_i : modP S (.int i) (.int j) = if 0 < j then some (.int (i % j)) else none := id rfl
theorem neg_i : negP S (.int i) = some (.int (-i)) := id rfl
theorem lt_i : ltP S (.int i) (.int j) = some (.bl (decide (i < j))) := id rfl
theorem le_i : leP S (.int i) (.int j) = some (.bl (decide (i ≤ j))) := id rfl
theorem gt_i : gtP S (.int i) (.int j) = some (.bl (decide (i > j))) := id rfl
theorem ge_i : geP S (.int i) (.int j) = some (.bl (decide (i ≥ j))) := id rfl
theorem eq_i : eqP S (.int i) (.int j) = some (.bl (decide (i = j))) := by
  unfold eqP toD; simp [SeqAt.shaped, PyData.canLay0, PyData.depth, PyData.eqv]; rfl
theorem ne_i : neP S (.int i) (.int j) = some (.bl (!decide (i = j))) := by
  unfold neP toD; simp [SeqAt.shaped, PyData.canLay0, PyData.depth, PyData.eqv]; rfl
theorem eq_b : eqP S (.bl a) (.bl b) = some (.bl (a == b)) := by
  unfold eqP toD; simp [SeqAt.shaped, PyData.canLay0, PyData.depth, PyData.eqv]
theorem len_ft : lenP S [.ftp xs] = some (.int xs.length) := id rfl
theorem len_t : lenP S [.tup xs] = some (.int xs.length) := id rfl
theorem len_l : lenP S [.lst xs] = some (.int xs.length) := id rfl
theorem len_r : lenP S [.rol xs] = some (.int xs.length) := id rfl
theorem abs_i : absP S [.int i] = some (.int (if i < 0 then -i else i)) := id rfl
theorem int_i : intP S [.int i] = some (.int i) := id rfl
theorem list_ft : listP S [.ftp xs] = some (.lst xs) := id rfl
theorem list_t : listP S [.tup xs] = some (.lst xs) := id rfl
theorem list_l : listP S [.lst xs] = some (.lst xs) := id rfl
theorem list_r : listP S [.rol xs] = some (.lst xs) := id rfl
theorem tuple_ft : tupleP S [.ftp xs] = some (.ftp xs) := id rfl
theorem tuple_t : tupleP S [.tup xs] = some (.tup xs) := id rfl
theorem tuple_l : tupleP S [.lst xs] = some (.tup xs) := id rfl
end
theorem kb0 : kitB "int" "int" = some true := by decide +kernel
theorem kb1 : kitB "bool" "int" = some true := by decide +kernel
theorem kb2 : kitB "str" "int" = some false := by decide +kernel
theorem kb3 : kitB "tuple" "int" = some false := by decide +kernel
theorem kb4 : kitB "list" "int" = some false := by decide +kernel
theorem kb5 : kitB "NoneType" "int" = some false := by decide +kernel
theorem kb6 : kitB "int" "bool" = some false := by decide +kernel
theorem kb7 : kitB "bool" "bool" = some true := by decide +kernel
theorem kb8 : kitB "str" "bool" = some false := by decide +kernel
theorem kb9 : kitB "tuple" "bool" = some false := by decide +kernel
theorem kb10 : kitB "list" "bool" = some false := by decide +kernel
theorem kb11 : kitB "NoneType" "bool" = some false := by decide +kernel
theorem kb12 : kitB "int" "tuple" = some false := by decide +kernel
theorem kb13 : kitB "bool" "tuple" = some false := by decide +kernel
theorem kb14 : kitB "str" "tuple" = some false := by decide +kernel
theorem kb15 : kitB "tuple" "tuple" = some true := by decide +kernel
theorem kb16 : kitB "list" "tuple" = some false := by decide +kernel
theorem kb17 : kitB "NoneType" "tuple" = some false := by decide +kernel
theorem kb18 : kitB "int" "list" = some false := by decide +kernel
theorem kb19 : kitB "bool" "list" = some false := by decide +kernel
theorem kb20 : kitB "str" "list" = some false := by decide +kernel
theorem kb21 : kitB "tuple" "list" = some false := by decide +kernel
theorem kb22 : kitB "list" "list" = some true := by decide +kernel
theorem kb23 : kitB "NoneType" "list" = some false := by decide +kernel
theorem kb24 : kitB "int" "str" = some false := by decide +kernel
theorem kb25 : kitB "bool" "str" = some false := by decide +kernel
theorem kb26 : kitB "str" "str" = some true := by decide +kernel
theorem kb27 : kitB "tuple" "str" = some false := by decide +kernel
theorem kb28 : kitB "list" "str" = some false := by decide +kernel
theorem kb29 : kitB "NoneType" "str" = some false := by decide +kernel
section
variable {S : Stor} {i : Int} {xs : List PV} {b : Bool} {x : Str} {T : String}
theorem isi_i : isiP T S (.int i) = (kitB "int" T).map .bl := id rfl
theorem isi_b : isiP T S (.bl b) = (kitB "bool" T).map .bl := id rfl
theorem isi_s : isiP T S (.str x) = (kitB "str" T).map .bl := id rfl
theorem isi_ft : isiP T S (.ftp xs) = (kitB "tuple" T).map .bl := id rfl
theorem isi_t : isiP T S (.tup xs) = (kitB "tuple" T).map .bl := id rfl
theorem isi_l : isiP T S (.lst xs) = (kitB "list" T).map .bl := id rfl
theorem isi_r : isiP T S (.rol xs) = (kitB "list" T).map .bl := id rfl
theorem isi_n : isiP T S .non = (kitB "NoneType" T).map .bl := id rfl
theorem tru_b : truP S (.bl b) = some b := id rfl
theorem tru_i : truP S (.int i) = some (i != 0) := id rfl
theorem tru_ft : truP S (.ftp xs) = some (!xs.isEmpty) := id rfl
theorem tru_t : truP S (.tup xs) = some (!xs.isEmpty) := id rfl
theorem tru_l : truP S (.lst xs) = some (!xs.isEmpty) := id rfl
theorem tru_n : truP S .non = some false := id rfl
theorem isN_n : isNonP S .non .non = some (.bl true) := id rfl
theorem isN_b : isNonP S (.bl b) .non = some (.bl false) := id rfl
theorem isN_i : isNonP S (.int i) .non = some (.bl false) := id rfl
theorem isN_s : isNonP S (.str x) .non = some (.bl false) := id rfl
theorem isN_t : isNonP S (.tup xs) .non = some (.bl false) := id rfl
theorem isN_l : isNonP S (.lst xs) .non = some (.bl false) := id rfl
theorem ix_ft : ixP S (.ftp xs) (.int i) = atI xs i := id rfl
theorem ix_t : ixP S (.tup xs) (.int i) = atI xs i := id rfl
theorem ix_l : ixP S (.lst xs) (.int i) = atI xs i := id rfl
theorem ix_r : ixP S (.rol xs) (.int i) = atI xs i := id rfl
theorem ix_ref {n : Nat} : ixP S (.ref n) (.int i) = match S[n]? with
    | some (.lst xs) => atI xs i
    | _ => none := id rfl
theorem setS_ref {n : Nat} {p : PV} : setS S (.ref n) (.int i) p = match S[n]? with
    | some (.lst xs) => (ixN xs.length i).map fun jj => S.set n (.lst (xs.set jj p))
    | _ => none := id rfl
theorem pow_i {j : Int} : powP S (.int i) (.int j) = if 0 ≤ j ∧ j ≤ 1000000 ∧ i.natAbs < 2 ^ 64 then some (.int (i ^ j.toNat)) else none := id rfl
theorem ixN_30 : ixN 3 0 = some 0 := id rfl
theorem ixN_31 : ixN 3 1 = some 1 := id rfl
theorem ixN_32 : ixN 3 2 = some 2 := id rfl
theorem pow_18 : powP S (.int 10) (.int 18) = some (.int 1000000000000000000) := by rw [pow_i, if_pos (by decide)]; rfl
theorem items_ft : itemsP (.ftp xs) = some xs := id rfl
theorem items_t : itemsP (.tup xs) = some xs := id rfl
theorem items_l : itemsP (.lst xs) = some xs := id rfl
theorem items_r : itemsP (.rol xs) = some xs := id rfl
theorem atI_0 {p : PV} : atI (p :: xs) 0 = some p := by unfold atI ixN; simp
theorem atI_1 {p q : PV} : atI (p :: q :: xs) 1 = some q := by unfold atI ixN; rw [if_pos (by omega), if_pos (by rw [List.length_cons, List.length_cons]; omega)]; rfl
theorem atI_2 {p q r : PV} : atI (p :: q :: r :: xs) 2 = some r := by unfold atI ixN; rw [if_pos (by omega), if_pos (by rw [List.length_cons, List.length_cons, List.length_cons]; omega)]; rfl
theorem atI_in {i : Int} (h0 : 0 ≤ i) (h : i < xs.length) : atI xs i = some (xs[i.toNat]'(by omega)) := by
  unfold atI ixN; rw [if_pos h0, if_pos h]; simp
end

/-! ### the combinators -/
section
variable {e : DEnv} {S : Stor} {Q : Out PV → Prop} {QB : Out Bool → Prop} {QL : Out (List PV) → Prop} {QS : OutS → Prop} {da db dc : DE} {t u : Den Bool} {dr : Den (List PV)} {g g' : G2} {f : G1} {h : GN} {p q r : PV} {b : Bool} {ps : List PV} {n : Int} {x y : DS} {i : Nat} {is : List Nat} {dl dh : Den (Option Int)} {l l' : Option Int} {QO : Out (Option Int) → Prop}
def k1 (f : G1) : PV → DE := fun p => Den.getS.bind fun S => Den.opt (f S p)
theorem wp_d1 : wp (d1 f da) e S Q = wp da e S (bq (k1 f) Q) := wp_bind
theorem wp_k1 : wp (k1 f p) e S Q = oQ e S Q (f S p) := wp_opt
def k2b (g : G2) (p : PV) : PV → DE := fun q => Den.getS.bind fun S => Den.opt (g S p q)
def k2 (g : G2) (db : DE) : PV → DE := fun p => db.bind (k2b g p)
theorem wp_d2 : wp (d2 g da db) e S Q = wp da e S (bq (k2 g db) Q) := wp_bind
theorem wp_k2 : wp (k2 g db p) e S Q = wp db e S (bq (k2b g p) Q) := wp_bind
theorem wp_k2b : wp (k2b g p q) e S Q = oQ e S Q (g S p q) := wp_opt
def kT : PV → Den Bool := fun p => match p with
  | .bl b => Den.pure b
  | _ => Den.fail
theorem wp_dT : wp (dT da) e S QB = wp da e S (bq kT QB) := wp_bind
theorem wp_kT : wp (kT (.bl b)) e S QB = QB (.ok b e S) := id rfl
def kTru : PV → Den Bool := fun p => Den.getS.bind fun S => Den.opt (truP S p)
theorem wp_dTru : wp (dTru da) e S QB = wp da e S (bq kTru QB) := wp_bind
theorem wp_kTru : wp (kTru p) e S QB = oQ e S QB (truP S p) := wp_opt
def kNot : Bool → Den Bool := fun b => Den.pure (!b)
theorem wp_dNotT : wp (dNotT t) e S QB = wp t e S (bq kNot QB) := wp_bind
theorem wp_kNot : wp (kNot b) e S QB = QB (.ok (!b) e S) := id rfl
def kAnd (u : Den Bool) : Bool → Den Bool := fun b => if b then u else Den.pure false
theorem wp_dAndT : wp (dAndT t u) e S QB = wp t e S (bq (kAnd u) QB) := wp_bind
theorem wp_kAnd : wp (kAnd u b) e S QB = if b then wp u e S QB else QB (.ok false e S) := by cases b <;> rfl
def kOr (u : Den Bool) : Bool → Den Bool := fun b => if b then Den.pure true else u
theorem wp_dOrT : wp (dOrT t u) e S QB = wp t e S (bq (kOr u) QB) := wp_bind
theorem wp_kOr : wp (kOr u b) e S QB = if b then QB (.ok true e S) else wp u e S QB := by cases b <;> rfl
def kAndVb (db : DE) (p : PV) : Bool → DE := fun b => if b then db else Den.pure p
def kAndV (db : DE) : PV → DE := fun p => Den.getS.bind fun S => (Den.opt (truP S p)).bind (kAndVb db p)
theorem wp_dAndV : wp (dAndV da db) e S Q = wp da e S (bq (kAndV db) Q) := wp_bind
theorem wp_kAndV : wp (kAndV db p) e S Q = oQ e S (bq (kAndVb db p) Q) (truP S p) := by
  show wp ((Den.opt (truP S p)).bind _) e S Q = _
  rw [wp_bind, wp_opt]
theorem wp_kAndVb : wp (kAndVb db p b) e S Q = if b then wp db e S Q else Q (.ok p e S) := by cases b <;> rfl
def kOrVb (db : DE) (p : PV) : Bool → DE := fun b => if b then Den.pure p else db
def kOrV (db : DE) : PV → DE := fun p => Den.getS.bind fun S => (Den.opt (truP S p)).bind (kOrVb db p)
theorem wp_dOrV : wp (dOrV da db) e S Q = wp da e S (bq (kOrV db) Q) := wp_bind
theorem wp_kOrV : wp (kOrV db p) e S Q = oQ e S (bq (kOrVb db p) Q) (truP S p) := by
  show wp ((Den.opt (truP S p)).bind _) e S Q = _
  rw [wp_bind, wp_opt]
theorem wp_kOrVb : wp (kOrVb db p b) e S Q = if b then Q (.ok p e S) else wp db e S Q := by cases b <;> rfl
def kNotVb : Bool → DE := fun b => Den.pure (.bl (!b))
def kNotV : PV → DE := fun p => Den.getS.bind fun S => (Den.opt (truP S p)).bind kNotVb
theorem wp_dNotV : wp (dNotV da) e S Q = wp da e S (bq kNotV Q) := wp_bind
theorem wp_kNotV : wp (kNotV p) e S Q = oQ e S (bq kNotVb Q) (truP S p) := by
  show wp ((Den.opt (truP S p)).bind _) e S Q = _
  rw [wp_bind, wp_opt]
theorem wp_kNotVb : wp (kNotVb b) e S Q = Q (.ok (.bl (!b)) e S) := id rfl
def kIf (da db : DE) : Bool → DE := fun b => if b then da else db
theorem wp_dIf : wp (dIf t da db) e S Q = wp t e S (bq (kIf da db) Q) := wp_bind
theorem wp_kIf : wp (kIf da db b) e S Q = if b then wp da e S Q else wp db e S Q := by cases b <;> rfl
def kCh3 (g' : G2) (dc : DE) (q : PV) : PV → DE := fun z => match z with
  | .bl true => d2 g' (dC q) dc
  | .bl false => Den.pure (.bl false)
  | _ => Den.fail
def kCh2 (g g' : G2) (dc : DE) (p : PV) : PV → DE := fun q => Den.getS.bind fun S => (Den.opt (g S p q)).bind (kCh3 g' dc q)
def kCh (g g' : G2) (db dc : DE) : PV → DE := fun p => db.bind (kCh2 g g' dc p)
theorem wp_dChain : wp (dChain g g' da db dc) e S Q = wp da e S (bq (kCh g g' db dc) Q) := wp_bind
theorem wp_kCh : wp (kCh g g' db dc p) e S Q = wp db e S (bq (kCh2 g g' dc p) Q) := wp_bind
theorem wp_kCh2 : wp (kCh2 g g' dc p q) e S Q = oQ e S (bq (kCh3 g' dc q) Q) (g S p q) := by
  show wp ((Den.opt (g S p q)).bind _) e S Q = _
  rw [wp_bind, wp_opt]
theorem wp_kCh3 : wp (kCh3 g' dc q (.bl b)) e S Q = if b then wp dc e S (bq (k2b g' q) Q) else Q (.ok (.bl false) e S) := by
  cases b with
  | true => show wp (d2 g' (dC q) dc) e S Q = _; rw [wp_d2]; exact wp_k2
  | false => rfl
theorem wp_aNil : wp aNil e S QL = QL (.ok [] e S) := id rfl
def kCons2 (p : PV) : List PV → Den (List PV) := fun ps => Den.pure (p :: ps)
def kCons (dr : Den (List PV)) : PV → Den (List PV) := fun p => dr.bind (kCons2 p)
theorem wp_aCons : wp (aCons da dr) e S QL = wp da e S (bq (kCons dr) QL) := wp_bind
theorem wp_kCons : wp (kCons dr p) e S QL = wp dr e S (bq (kCons2 p) QL) := wp_bind
theorem wp_kCons2 : wp (kCons2 p ps) e S QL = QL (.ok (p :: ps) e S) := id rfl
def kTup : List PV → DE := fun ps => if ps.length ≤ sizeLine then Den.pure (.tup ps) else Den.fail
theorem wp_dTup : wp (dTup dr) e S Q = wp dr e S (bq kTup Q) := wp_bind
theorem wp_kTup : wp (kTup ps) e S Q = if ps.length ≤ sizeLine then Q (.ok (.tup ps) e S) else Q .st := by unfold kTup; split <;> rfl
def kLst : List PV → DE := fun ps => if ps.length ≤ sizeLine then Den.pure (.lst ps) else Den.fail
theorem wp_dLst : wp (dLst dr) e S Q = wp dr e S (bq kLst Q) := wp_bind
theorem wp_kLst : wp (kLst ps) e S Q = if ps.length ≤ sizeLine then Q (.ok (.lst ps) e S) else Q .st := by unfold kLst; split <;> rfl
def kN (h : GN) : List PV → DE := fun ps => Den.getS.bind fun S => Den.opt (h S ps)
theorem wp_dN : wp (dN h dr) e S Q = wp dr e S (bq (kN h) Q) := wp_bind
theorem wp_kN : wp (kN h ps) e S Q = oQ e S Q (h S ps) := wp_opt
def kLs : List PV → DE := fun ps => Den.pure (.lst ps)
theorem wp_dLs : wp (dLs dr) e S Q = wp dr e S (bq kLs Q) := wp_bind
theorem wp_kLs : wp (kLs ps) e S Q = Q (.ok (.lst ps) e S) := id rfl
def kDisp : List PV → Den (List PV) := fun ps => Den.opt (if ps.length ≤ sizeLine then some ps else none)
theorem wp_lDisp : wp (lDisp dr) e S QL = wp dr e S (bq kDisp QL) := wp_bind
theorem wp_kDisp : wp (kDisp ps) e S QL = if ps.length ≤ sizeLine then QL (.ok ps e S) else QL .st := by unfold kDisp; split <;> rfl
def kRng : PV → Den (List PV) := fun p => Den.opt (match p with
  | .int n => if -1000000 ≤ n ∧ n ≤ 1000000 then some (rngPV n) else none
  | _ => none)
theorem wp_lRng : wp (lRng da) e S QL = wp da e S (bq kRng QL) := wp_bind
theorem wp_kRng : wp (kRng (.int n)) e S QL = if -1000000 ≤ n ∧ n ≤ 1000000 then QL (.ok (rngPV n) e S) else QL .st := by unfold kRng; dsimp only; split <;> rfl
def kItR : PV → Den (List PV) := fun p => match p with
  | .int n => if -1000000 ≤ n ∧ n ≤ 1000000 then Den.pure (rngPV n) else Den.fail
  | _ => Den.fail
theorem wp_dItR : wp (dItR da) e S QL = wp da e S (bq kItR QL) := wp_bind
theorem wp_kItR : wp (kItR (.int n)) e S QL = if -1000000 ≤ n ∧ n ≤ 1000000 then QL (.ok (rngPV n) e S) else QL .st := by unfold kItR; dsimp only; split <;> rfl
def kItS : PV → Den (List PV) := fun p => Den.opt (itemsP p)
theorem wp_dItS : wp (dItS da) e S QL = wp da e S (bq kItS QL) := wp_bind
theorem wp_kItS : wp (kItS p) e S QL = oQ e S QL (itemsP p) := wp_opt
theorem wp_tTrue : wp tTrue e S QB = QB (.ok true e S) := id rfl
theorem wp_oNo : wp oNo e S QO = QO (.ok none e S) := id rfl
def kSome : PV → Den (Option Int) := fun p => match p with
  | .int i => Den.pure (some i)
  | _ => Den.fail
theorem wp_oSome : wp (oSome da) e S QO = wp da e S (bq kSome QO) := wp_bind
theorem wp_kSome : wp (kSome (.int n)) e S QO = QO (.ok (some n) e S) := id rfl
def kSl2 (p : PV) (l : Option Int) : Option Int → DE := fun h => Den.opt (slP p l h)
def kSl1 (p : PV) (hi : Den (Option Int)) : Option Int → DE := fun l => hi.bind (kSl2 p l)
def kSl (lo hi : Den (Option Int)) : PV → DE := fun p => lo.bind (kSl1 p hi)
theorem wp_dSl : wp (dSl da dl dh) e S Q = wp da e S (bq (kSl dl dh) Q) := wp_bind
theorem wp_kSl : wp (kSl dl dh p) e S Q = wp dl e S (bq (kSl1 p dh) Q) := wp_bind
theorem wp_kSl1 : wp (kSl1 p dh l) e S Q = wp dh e S (bq (kSl2 p l) Q) := wp_bind
theorem wp_kSl2 : wp (kSl2 p l l') e S Q = oQ e S Q (slP p l l') := wp_opt
/-! statements -/
def kRet : PV → DS := fun p e s => .rt p e s
theorem ws_ret : wpS (sRet da) e S QS = wp da e S (bqS kRet QS) := wpS_sE
theorem ws_kRet : wpS (kRet p) e S QS = QS (.rt p e S) := id rfl
def kExpr : PV → DS := fun _ e s => .nx e s
theorem ws_expr : wpS (sExpr da) e S QS = wp da e S (bqS kExpr QS) := wpS_sE
theorem ws_kExpr : wpS (kExpr p) e S QS = QS (.nx e S) := id rfl
def kIfS (x y : DS) : Bool → DS := fun k => if k then x else y
theorem ws_if : wpS (sIf t x y) e S QS = wp t e S (bqS (kIfS x y) QS) := wpS_sE
theorem ws_kIfS : wpS (kIfS x y b) e S QS = if b then wpS x e S QS else wpS y e S QS := by cases b <;> rfl
def kSet (i : Nat) : PV → DS := fun p e s => .nx (e.set i (.v p)) s
theorem ws_set : wpS (sSet i da) e S QS = wp da e S (bqS (kSet i) QS) := wpS_sE
theorem ws_kSet : wpS (kSet i p) e S QS = QS (.nx (e.set i (.v p)) S) := id rfl
def kSetO (i : Nat) : List PV → DS := fun p e s => .nx (e.set i (.ol p)) s
theorem ws_setO : wpS (sSetO i dr) e S QS = wp dr e S (bqS (kSetO i) QS) := wpS_sE
theorem ws_kSetO : wpS (kSetO i ps) e S QS = QS (.nx (e.set i (.ol ps)) S) := id rfl
theorem ws_kSetT : wpS (kSetT is (.tup ps)) e S QS = if ps.length = is.length then QS (.nx (setAll is ps e) S) else QS .st := by
  unfold wpS kSetT tgT; dsimp only; by_cases c : ps.length = is.length
  · rw [if_pos c, if_pos c]
  · rw [if_neg c, if_neg c]
def kSetR2 (p o : PV) : PV → DS := fun q => kSetR o q p
def kSetR1 (db : DE) (p : PV) : PV → DS := fun o => sE db (kSetR2 p o)
def kSetR0 (da db : DE) : PV → DS := fun p => sE da (kSetR1 db p)
theorem ws_setR : wpS (sSetR da db dc) e S QS = wp dc e S (bqS (kSetR0 da db) QS) := wpS_sE
theorem ws_kSetR0 : wpS (kSetR0 da db p) e S QS = wp da e S (bqS (kSetR1 db p) QS) := wpS_sE
theorem ws_kSetR1 : wpS (kSetR1 db p q) e S QS = wp db e S (bqS (kSetR2 p q) QS) := wpS_sE
theorem ws_kSetR2 : wpS (kSetR2 p q r) e S QS = stQ QS (setS S q r p) e := wpS_setSv
end
theorem wpS_to {d : DS} {e : DEnv} {S : Stor} {Q : OutS → Prop} (P : OutS → Prop) (h : wpS d e S P) (w : ∀ o, P o → Q o) : wpS d e S Q := w _ h
theorem wpF_go {n u : Nat} {b : DS} {ps : List PV} {S : Stor} {Q : OutF → Prop} (h : ps.length = n) (w : wpS b (ps.map Slot.v ++ List.replicate u Slot.un) S (fqS Q)) : wpF (dFun n u b) ps S Q := by rw [wpF_fun h]; exact w
theorem sz0 : (0 ≤ sizeLine) = True := eq_true (by decide)
theorem szl0 : (0 < sizeLine) = True := eq_true (by decide)
theorem sz1 : (1 ≤ sizeLine) = True := eq_true (by decide)
theorem szl1 : (1 < sizeLine) = True := eq_true (by decide)
theorem sz2 : (2 ≤ sizeLine) = True := eq_true (by decide)
theorem szl2 : (2 < sizeLine) = True := eq_true (by decide)
theorem sz3 : (3 ≤ sizeLine) = True := eq_true (by decide)
theorem szl3 : (3 < sizeLine) = True := eq_true (by decide)
theorem sz4 : (4 ≤ sizeLine) = True := eq_true (by decide)
theorem szl4 : (4 < sizeLine) = True := eq_true (by decide)
theorem sz5 : (5 ≤ sizeLine) = True := eq_true (by decide)
theorem szl5 : (5 < sizeLine) = True := eq_true (by decide)
theorem sz6 : (6 ≤ sizeLine) = True := eq_true (by decide)
theorem szl6 : (6 < sizeLine) = True := eq_true (by decide)
theorem sz7 : (7 ≤ sizeLine) = True := eq_true (by decide)
theorem szl7 : (7 < sizeLine) = True := eq_true (by decide)
theorem sz8 : (8 ≤ sizeLine) = True := eq_true (by decide)
theorem szl8 : (8 < sizeLine) = True := eq_true (by decide)
theorem sz9 : (9 ≤ sizeLine) = True := eq_true (by decide)
theorem szl9 : (9 < sizeLine) = True := eq_true (by decide)
theorem sz10 : (10 ≤ sizeLine) = True := eq_true (by decide)
theorem szl10 : (10 < sizeLine) = True := eq_true (by decide)
theorem sz11 : (11 ≤ sizeLine) = True := eq_true (by decide)
theorem szl11 : (11 < sizeLine) = True := eq_true (by decide)
theorem sz12 : (12 ≤ sizeLine) = True := eq_true (by decide)
theorem szl12 : (12 < sizeLine) = True := eq_true (by decide)
theorem sz13 : (13 ≤ sizeLine) = True := eq_true (by decide)
theorem szl13 : (13 < sizeLine) = True := eq_true (by decide)
theorem sz14 : (14 ≤ sizeLine) = True := eq_true (by decide)
theorem szl14 : (14 < sizeLine) = True := eq_true (by decide)
theorem sz15 : (15 ≤ sizeLine) = True := eq_true (by decide)
theorem szl15 : (15 < sizeLine) = True := eq_true (by decide)
theorem sz16 : (16 ≤ sizeLine) = True := eq_true (by decide)
theorem szl16 : (16 < sizeLine) = True := eq_true (by decide)
theorem sz17 : (17 ≤ sizeLine) = True := eq_true (by decide)
theorem szl17 : (17 < sizeLine) = True := eq_true (by decide)
theorem sz18 : (18 ≤ sizeLine) = True := eq_true (by decide)
theorem szl18 : (18 < sizeLine) = True := eq_true (by decide)
theorem sz19 : (19 ≤ sizeLine) = True := eq_true (by decide)
theorem szl19 : (19 < sizeLine) = True := eq_true (by decide)
theorem sz20 : (20 ≤ sizeLine) = True := eq_true (by decide)
theorem szl20 : (20 < sizeLine) = True := eq_true (by decide)
theorem sz21 : (21 ≤ sizeLine) = True := eq_true (by decide)
theorem szl21 : (21 < sizeLine) = True := eq_true (by decide)
theorem sz22 : (22 ≤ sizeLine) = True := eq_true (by decide)
theorem szl22 : (22 < sizeLine) = True := eq_true (by decide)
theorem sz23 : (23 ≤ sizeLine) = True := eq_true (by decide)
theorem szl23 : (23 < sizeLine) = True := eq_true (by decide)
theorem sz24 : (24 ≤ sizeLine) = True := eq_true (by decide)
theorem szl24 : (24 < sizeLine) = True := eq_true (by decide)
theorem sz25 : (25 ≤ sizeLine) = True := eq_true (by decide)
theorem szl25 : (25 < sizeLine) = True := eq_true (by decide)
theorem sz26 : (26 ≤ sizeLine) = True := eq_true (by decide)
theorem szl26 : (26 < sizeLine) = True := eq_true (by decide)
theorem sz27 : (27 ≤ sizeLine) = True := eq_true (by decide)
theorem szl27 : (27 < sizeLine) = True := eq_true (by decide)
theorem sz28 : (28 ≤ sizeLine) = True := eq_true (by decide)
theorem szl28 : (28 < sizeLine) = True := eq_true (by decide)
theorem sz29 : (29 ≤ sizeLine) = True := eq_true (by decide)
theorem szl29 : (29 < sizeLine) = True := eq_true (by decide)
theorem sz30 : (30 ≤ sizeLine) = True := eq_true (by decide)
theorem szl30 : (30 < sizeLine) = True := eq_true (by decide)
theorem sz31 : (31 ≤ sizeLine) = True := eq_true (by decide)
theorem szl31 : (31 < sizeLine) = True := eq_true (by decide)
theorem sz32 : (32 ≤ sizeLine) = True := eq_true (by decide)
theorem szl32 : (32 < sizeLine) = True := eq_true (by decide)
theorem sz33 : (33 ≤ sizeLine) = True := eq_true (by decide)
theorem szl33 : (33 < sizeLine) = True := eq_true (by decide)
theorem sz34 : (34 ≤ sizeLine) = True := eq_true (by decide)
theorem szl34 : (34 < sizeLine) = True := eq_true (by decide)
theorem sz35 : (35 ≤ sizeLine) = True := eq_true (by decide)
theorem szl35 : (35 < sizeLine) = True := eq_true (by decide)
theorem sz36 : (36 ≤ sizeLine) = True := eq_true (by decide)
theorem szl36 : (36 < sizeLine) = True := eq_true (by decide)
theorem sz37 : (37 ≤ sizeLine) = True := eq_true (by decide)
theorem szl37 : (37 < sizeLine) = True := eq_true (by decide)
theorem sz38 : (38 ≤ sizeLine) = True := eq_true (by decide)
theorem szl38 : (38 < sizeLine) = True := eq_true (by decide)
theorem sz39 : (39 ≤ sizeLine) = True := eq_true (by decide)
theorem szl39 : (39 < sizeLine) = True := eq_true (by decide)
theorem sz40 : (40 ≤ sizeLine) = True := eq_true (by decide)
theorem szl40 : (40 < sizeLine) = True := eq_true (by decide)
end Dn
end
section
set_option Elab.async false
set_option linter.all false
set_option maxRecDepth 100000
namespace Dn
noncomputable section
open PySem L2
def d_is_whole : DF := dFun 3 0 (sRet (dAndV (d1 (isiP "int") (dVar 0)) (dAndV (dNotV (d1 (isiP "bool") (dVar 0))) (dChain leP leP (dVar 1) (dVar 0) (dVar 2)))))
def d_is_system : DF := dFun 1 5 (sSeq (sIf (dOrT (dNotT (dTru (d1 (isiP "tuple") (dVar 0)))) (dOrT (dT (d2 neP (dN lenP (aCons (dVar 0) aNil)) (dC (.int 3)))) (dNotT (dTru (dCall d_is_whole (aCons (d2 ixP (dVar 0) (dC (.int 0))) (aCons (dC (.int 1)) (aCons (dC (.int 8)) aNil)))))))) (sRet (dC (.bl false))) sNext)
  (sSeq (sSetT [1, 2, 3] (dVar 0))
  (sSeq (sIf (dOrT (dNotT (dTru (dCall d_is_whole (aCons (dVar 2) (aCons (dC (.int 0)) (aCons (d2 subP (dVar 1) (dC (.int 1))) aNil)))))) (dOrT (dNotT (dTru (d1 (isiP "tuple") (dVar 3)))) (dT (d2 gtP (dN lenP (aCons (dVar 3) aNil)) (dC (.int 4)))))) (sRet (dC (.bl false))) sNext)
  (sSeq (sFor (dItS (dVar 3)) (tgN 4) (sSeq (sIf (dOrT (dNotT (dTru (d1 (isiP "tuple") (dVar 4)))) (dT (d2 neP (dN lenP (aCons (dVar 4) aNil)) (dVar 1)))) (sRet (dC (.bl false))) sNext)
  (sIf (dNotT (dTru (dN allP (aCons (dLs (lComp [5] (dItS (dVar 4)) (tgN 5) tTrue (dCall d_is_whole (aCons (dVar 5) (aCons (dC (.int 0)) (aCons (d2 subP (dVar 1) (dC (.int 1))) aNil)))))) aNil)))) (sRet (dC (.bl false))) sNext)))
  (sRet (dC (.bl true)))))))
def d_is_state : DF := dFun 2 0 (sRet (dCall d_is_whole (aCons (dVar 1) (aCons (dC (.int 0)) (aCons (d2 subP (d2 ixP (dVar 0) (dC (.int 0))) (dC (.int 1))) aNil)))))
def d_is_command : DF := dFun 2 0 (sRet (dCall d_is_whole (aCons (dVar 1) (aCons (dC (.int 0)) (aCons (d2 subP (dN lenP (aCons (d2 ixP (dVar 0) (dC (.int 2))) aNil)) (dC (.int 1))) aNil)))))
def d__law_stream : DF := dFun 1 0 (sRet (dNew (lDisp (aCons (dN listP (aCons (dVar 0) aNil)) (aCons (dC (.int 0)) (aCons (dC (.int 0)) aNil))))))
def d__law_next : DF := dFun 2 3 (sSeq (sIf (dT (d2 eqP (d2 ixP (dVar 0) (dC (.int 1))) (dC (.int 0)))) (sSeq (sSet 2 (d2 ixP (dVar 0) (dC (.int 2))))
  (sSeq (sSet 3 (d2 addP (dC (.int 7)) (dVar 2)))
  (sSeq (sIf (dT (d2 ltP (dVar 2) (dN lenP (aCons (d2 ixP (dVar 0) (dC (.int 0))) aNil)))) (sSet 3 (dN absP (aCons (d2 ixP (d2 ixP (dVar 0) (dC (.int 0))) (dVar 2)) aNil))) sNext)
  (sSeq (sIf (dT (d2 ltP (dVar 3) (d2 powP (dC (.int 10)) (dC (.int 18))))) (sSeq (sSet 3 (d2 modP (dN intP (aCons (d2 addP (d2 addP (d2 mulP' (dVar 3) (dC (.int 48271))) (d2 mulP' (dVar 2) (dC (.int 69621)))) (dC (.int 11))) aNil)) (dC (.int 2147483647))))
  (sSet 3 (d2 addP (d2 mulP' (d2 modP (dN intP (aCons (d2 addP (d2 mulP' (dVar 3) (dC (.int 16807))) (dC (.int 13))) aNil)) (dC (.int 2147483647))) (dC (.int 65537))) (dVar 3)))) sNext)
  (sSeq (sSetR (dVar 0) (dC (.int 1)) (dVar 3))
  (sSetR (dVar 0) (dC (.int 2)) (d2 addP (dVar 2) (dC (.int 1))))))))) sNext)
  (sSeq (sSet 4 (d2 modP (dN intP (aCons (d2 ixP (dVar 0) (dC (.int 1))) aNil)) (dVar 1)))
  (sSeq (sSetR (dVar 0) (dC (.int 1)) (d2 fdivP (d2 ixP (dVar 0) (dC (.int 1))) (dVar 1)))
  (sRet (dVar 4)))))
def d_step : DF := dFun 3 0 (sRet (d2 ixP (d2 ixP (d2 ixP (dVar 0) (dC (.int 2))) (dVar 2)) (dVar 1)))
def d_states_of : DF := dFun 1 0 (sRet (d1 lrgP (d2 ixP (dVar 0) (dC (.int 0)))))
def d_pairs_from : DF := dFun 3 6 (sSeq (sSetD 3 (lDict1 (dTup (aCons (dVar 1) (aCons (dVar 2) aNil))) (dTup aNil)))
  (sSeq (sSet 4 (dLst (aCons (dTup (aCons (dVar 1) (aCons (dVar 2) aNil))) aNil)))
  (sSeq (whN (dTru (dVar 4)) (sSeq (sSetO 5 (lDisp aNil))
  (sSeq (sFor (dItS (dVar 4)) (tgN 6) (sFor (dItR (dN lenP (aCons (d2 ixP (dVar 0) (dC (.int 2))) aNil))) (tgN 7) (sSeq (sSet 8 (dTup (aCons (dCall d_step (aCons (dVar 0) (aCons (d2 ixP (dVar 6) (dC (.int 0))) (aCons (dVar 7) aNil)))) (aCons (dCall d_step (aCons (dVar 0) (aCons (d2 ixP (dVar 6) (dC (.int 1))) (aCons (dVar 7) aNil)))) aNil))))
  (sIf (dT (dInO true 3 (dVar 8))) (sSeq (sPutO 3 (dVar 8) (d2 addP (dIxO 3 (dVar 6)) (dTup (aCons (dVar 7) aNil))))
  (sApp 5 (dVar 8))) sNext))))
  (sSet 4 (dVar 5)))))
  (sRet (dVar 3)))))
def d_counterparts_of : DF := dFun 3 4 (sSeq (sSet 3 (dN sortedP (aCons (dCall d_pairs_from (aCons (dVar 0) (aCons (dVar 1) (aCons (dVar 2) aNil)))) aNil)))
  (sRet (dLs (lComp [4] (dItS (dCall d_states_of (aCons (dVar 0) aNil))) (tgN 4) tTrue (dN tupleP (aCons (dLs (lComp [5, 6] (dItS (dVar 3)) (tgT [5, 6]) (dT (d2 eqP (dVar 5) (dVar 4))) (dVar 6))) aNil))))))
def d_determines : DF := dFun 3 1 (sRet (d2 eqP (dN max1P (aCons (dLs (lComp [3] (dItS (dCall d_counterparts_of (aCons (dVar 0) (aCons (dVar 1) (aCons (dVar 2) aNil))))) (tgN 3) tTrue (dN lenP (aCons (dVar 3) aNil)))) aNil)) (dC (.int 1))))
def d_table_for : DF := dFun 3 2 (sSeq (sSet 3 (dCall d_counterparts_of (aCons (dVar 0) (aCons (dVar 1) (aCons (dVar 2) aNil)))))
  (sSeq (sIf (dT (d2 gtP (dN max1P (aCons (dLs (lComp [4] (dItS (dVar 3)) (tgN 4) tTrue (dN lenP (aCons (dVar 4) aNil)))) aNil)) (dC (.int 1)))) (sRet (dC .non)) sNext)
  (sRet (dN tupleP (aCons (dLs (lComp [4] (dItS (dVar 3)) (tgN 4) tTrue (dIf (dTru (dVar 4)) (d2 ixP (dVar 4) (dC (.int 0))) (dC .non)))) aNil)))))
def d_is_operation : DF := dFun 2 0 (sSeq (sIf (dOrT (dNotT (dTru (d1 (isiP "tuple") (dVar 0)))) (dOrT (dT (d2 neP (dN lenP (aCons (dVar 0) aNil)) (dC (.int 2)))) (dNotT (dTru (d1 (isiP "str") (d2 ixP (dVar 0) (dC (.int 0)))))))) (sRet (dC (.bl false))) sNext)
  (sSeq (sIf (dT (d2 eqP (d2 ixP (dVar 0) (dC (.int 0))) (dC (.str "execute")))) (sRet (dCall d_is_command (aCons (dVar 1) (aCons (d2 ixP (dVar 0) (dC (.int 1))) aNil)))) sNext)
  (sRet (dAndV (d2 inP (d2 ixP (dVar 0) (dC (.int 0))) (dTup (aCons (dC (.str "revoke")) (aCons (dC (.str "restore")) aNil)))) (dCall d_is_whole (aCons (d2 ixP (dVar 0) (dC (.int 1))) (aCons (dC (.int 0)) (aCons (d2 subP (dC (.int 16)) (dC (.int 1))) aNil))))))))
def d_states_along : DF := dFun 2 3 (sSeq (sSetO 2 (lDisp (aCons (d2 ixP (dVar 0) (dC (.int 1))) aNil)))
  (sSeq (sFor (dItS (dVar 1)) (tgT [3, 4]) (sIf (dTru (dVar 4)) (sApp 2 (dCall d_step (aCons (dVar 0) (aCons (dIxO 2 (d1 negP (dC (.int 1)))) (aCons (dVar 3) aNil))))) sNext))
  (sRet (dN tupleP (aCons (dVar 2) aNil)))))
def d_state_of : DF := dFun 2 0 (sRet (d2 ixP (dCall d_states_along (aCons (dVar 0) (aCons (dVar 1) aNil))) (d1 negP (dC (.int 1)))))
def d_state_without : DF := dFun 3 0 (sRet (dCall d_state_of (aCons (dVar 0) (aCons (d2 addP (dSl (dVar 1) oNo (oSome (dVar 2))) (dSl (dVar 1) (oSome (d2 addP (dVar 2) (dC (.int 1)))) oNo)) aNil))))
end
end Dn
end
section
set_option Elab.async false
set_option linter.all false
set_option maxRecDepth 100000
set_option maxHeartbeats 1000000
namespace Dn
open PySem L2 PySem.Spec PyProof.Rows
/-! ### is True, is False -/
def isBlP : G2 := fun _ p q => match p, q with
  | .bl a, .bl b => some (.bl (decide (a = b)))
  | _, _ => none
section
variable {X : Cx}
theorem o_isB : O2 X (compareOp .Is) isBlP := by
  refine ⟨_, L2.op_is_bl, fun lk F m S H x y p q res Q R rx ry h yl => ?_⟩
  unfold isBlP at h
  split at h
  · cases h; cases rx; cases ry; exact ⟨_, _, rfl, rfl, yl.here (.bl _)⟩
  · cases h
end
end Dn
end
section
set_option Elab.async false
set_option linter.all false
set_option maxRecDepth 100000
set_option maxHeartbeats 1000000
namespace Dn
open PySem L2 PySem.Spec PyProof.Rows
/-! ### for k, v in d.items(), tuples as keys -/
section
variable {P : Program} {w : World} {K : PySem.W.Frag} {d : Addr} {o : Obj} {es : Array DictEntry} {ep : Nat}
end
/-! ### by values -/
end Dn
end
section
set_option Elab.async false
set_option linter.all false
set_option maxRecDepth 100000
set_option maxHeartbeats 1000000
namespace Dn
open PySem L2 PySem.Spec PyProof.Rows
/-! ### text * number -/
end Dn
end
section
set_option Elab.async false
set_option linter.all false
set_option maxRecDepth 100000
set_option maxHeartbeats 1000000
namespace Dn
open PySem L2 PySem.Spec PyProof.Rows
/-! ### targets with targets in them -/
section
variable {k : Nat} {X : Cx} {c : Cfg} {pos : Pos}
end
end Dn
end
section
set_option Elab.async false
set_option linter.all false
set_option maxRecDepth 100000
set_option maxHeartbeats 1000000
namespace Dn
open PySem L2 PySem.Spec PyProof.Rows
/-! ### x.get(e, f), x a dict of its own name -/
section
variable {k : Nat} {X : Cx} {c : Cfg} {x : Str} {e f : Expr} {p1 apos cpos : Pos} {dk df : DE}
end
end Dn
end
section
set_option Elab.async false
set_option linter.all false
set_option maxRecDepth 100000
set_option maxHeartbeats 1000000
namespace Dn
open PySem L2 PySem.Spec PyProof.Rows
/-! ### enumerate of a tuple -/
set_option maxHeartbeats 2000000 in
section
variable {k : Nat} {X : Cx} {c : Cfg} {e e2 : Expr} {de de2 : DE} {elts : List Expr} {kk : Nat} {tpos p pos : Pos}
end
end Dn
end
section
set_option Elab.async false
set_option linter.all false
set_option maxRecDepth 100000
set_option maxHeartbeats 1000000
namespace Dn
open PySem L2 PySem.Spec PyProof.Rows
/-! ### zip of a list and a tuple -/
section
variable {k : Nat} {X : Cx} {c : Cfg} {e e2 : Expr} {de de2 : DE} {elts : List Expr} {kk : Nat} {tpos p pos : Pos}
end
end Dn
end
section
set_option Elab.async false
set_option linter.all false
set_option maxRecDepth 100000
set_option maxHeartbeats 1000000
namespace Dn
open PySem L2 PySem.Spec PyProof.Rows
/-! ### several names from a list -/
section
variable {k : Nat} {X : Cx} {c : Cfg} {pos : Pos} {e : Expr} {de : DE}
end
end Dn
end
section
set_option Elab.async false
set_option linter.all false
set_option maxRecDepth 100000
set_option maxHeartbeats 1000000
namespace Dn
open PySem L2 PySem.Spec PyProof.Rows
/-! ### comprehensions of dicts -/
section
variable {c : Cfg} {F F' H H' : Hp} {m m' : List Addr} {σ : St} {env env' : DEnv} {S S' : Stor}
end
theorem pD.mono {c : Cfg} {F F1 : Hp} {m m1 : List Addr} {σ : St} {Q : VK} {o : Out OD} (h : pD c F m σ Q o) (hs : Same F F1) (hm : m <+: m1) : pD c F1 m1 σ Q o := by
  cases o with
  | st => exact h
  | ok p env S => exact fun F' m' H a r s1 p1 => h F' m' H a r (hs.trans s1) (hm.trans p1)
  | ex x env S => exact fun F' m' H cls d r s1 p1 q => h F' m' H cls d r (hs.trans s1) (hm.trans p1) q
section
variable {i : Nat} {y : Str} {py spos : Pos} {k : Nat} {X : Cx} {c : Cfg} {kx vx tg iter : Expr} {ifs : List Expr} {scope : Scope} {own : List (Str × Nat)} {pos : Pos} {di : Den (List PV)} {is : List Nat} {g : PV → DEnv → Option DEnv} {dt : Den Bool} {dk dv : DE}
end
/-! ### len of a dict -/
end Dn
end
section
set_option Elab.async false
set_option linter.all false
set_option maxRecDepth 100000
set_option maxHeartbeats 1000000
namespace Dn
open PySem L2 PySem.Spec PyProof.Rows
/-! ### len(set(xs)), xs a list of ints -/
end Dn
end
section
set_option Elab.async false
set_option linter.all false
set_option maxRecDepth 100000
set_option maxHeartbeats 4000000
namespace Dn
open PySem L2 PySem.Spec PyProof.Rows
/-! ### sorted(set(xs)), xs a list of ints -/
section
variable {P : Program} {w : World} {A : Around} {E : Value → Shared → Prop} {s : Shared}
end

end Dn
end
section
set_option Elab.async false
set_option linter.all false
set_option maxRecDepth 100000
set_option maxHeartbeats 1000000
namespace Dn
open PySem L2 PySem.Spec PyProof.Rows
/-! ### exceptions of the program's own classes: raise, try -/
/-- self.f = v of a new exception -/
def spIni (K : PySem.W.Frag) (f : Str) : Sp := fun vs H Q _ => ∃ (a C : Addr) (v : V), vs = [.ref a, v] ∧ OexC K C ∧ PySem.W.findIn K (.ref C) f = some none ∧ H a = some (exo a C none) ∧
  ∀ dx, H dx = none → dx ≠ a → Q .non (upd (upd H dx (exd dx [(f, v)])) a (exo a C (some dx)))
theorem ini_len {K : PySem.W.Frag} {f : Str} {vs : List V} {H : Hp} {Q : VK} {E : XK} (h : spIni K f vs H Q E) : vs.length = 2 := by
  obtain ⟨a, C, v, rfl, _⟩ := h
  rfl
theorem ini_pure {K : PySem.W.Frag} {f x y : Str} {vs : List V} {H : Hp} {Q : VK} {E : XK} (h : spIni K f vs H Q E) : tOst K f (tVar 0) (tVar 1) { nx := fun _ H' => Q .non H', rt := Q } (L2.start [x, y] vs) H := by
  obtain ⟨a, C, v, rfl, T, hno, e, q⟩ := h
  exact ⟨_, rfl, _, rfl, a, C, rfl, T, hno, .inl ⟨e, q⟩⟩
/-- a class x of exceptions whose __init__ keeps its argument as f -/
structure ExOk (P : Program) (w : World) (K : PySem.W.Frag) (mg : Str → Option Value) (base : Heap) (x f : Str) : Prop where
  ex : ∃ (C fI : Addr) (fd : FuncData) (pn : Str), mg x = some (.ref C) ∧ OexC K C ∧ PySem.W.findIn K (.ref C) f = some none ∧ PySem.W.findIn K (.ref C) "__init__" = some (some (.ref fI)) ∧ PySem.W.typeIn K (.ref fI) = some (.type "function") ∧
    FnOk P w K mg base (L2.CX P w) 1 fI fd ["self", pn] (spIni K f) ∧ Binds K fd ["self", pn] []
/-- what is known of a caught class: does the clause take it, its fields -/
structure XcOk (K : PySem.W.Frag) (mg : Str → Option Value) (x : Str) (Ch : Addr) (b : Bool) (fs : List Str) : Prop where
  ex : ∃ C : Addr, mg x = some (.ref C) ∧ PySem.W.exmOne K (.ref C) (.ref Ch) = some b ∧ XfC K C ∧ ∀ f ∈ fs, PySem.W.findIn K (.ref C) f = some none

/-- what an except clause of the class C asks: the classes that may come -/
structure TryOk (K : PySem.W.Frag) (mg : Str → Option Value) (C : Str) (cs : List (Str × Bool)) (fs : List Str) : Prop where
  ex : ∃ Ch : Addr, mg C = some (.ref Ch) ∧ ∀ p ∈ cs, XcOk K mg p.1 Ch p.2 fs
/-- a statement within a class -/
def inCls (s : Stmt) (j : Nat) : Stmt := match s with
  | .ClassDef _ _ _ body .. => body.getD j (.Pass ⟨0, 0, 0, 0⟩)
  | _ => .Pass ⟨0, 0, 0, 0⟩

def sRaise (x f : Str) (d : DE) : DS := sE d fun p e s => .ex ⟨x, [(f, p)]⟩ e s
section
variable {k : Nat} {X : Cx} {c : Cfg}
theorem k_raise {x f : Str} {a : Expr} {da : DE} {p pos pos' : Pos} (hX : XOk k X c) (hk : 2 ≤ k) (tk : Takes X c.W) (B : ExOk X.prog X.w X.K X.mg X.base x f) (hg : Gl X x) (ha : PE X a (rE c da))
    (hdb : (x == ("__debug__" : Str)) = false := by decide) (he : starEach (a :: []) X.env = (false, eval a X.env) :: starEach [] X.env := by rfl) (hpl : (backTo pos (starEach [] X.env)).any (·.1) = false := by rfl) :
    PS X (.Raise (some (.Call (.Name x p) [a] [] pos)) none pos') (rS c (sRaise x f da)) := by
  obtain ⟨C, fI, fd, pn, hm, T, hno, iC, tI, F1, hb⟩ := B.ex
  refine PS.weak (ps_raise hX.calm tk (pmk_oex T iC tI F1 (hX.room.mono hk) hb .nil (passes_call tk fun _ _ _ _ z => z.elim) hg hm (pa_cons ha pa_nil he) hdb he hpl)) fun D σ H ⟨F, m, h⟩ => ?_
  refine (sE_of (R := fun K F m v p => Rep K F m v p) h).imp fun v H1 ⟨F1, m1, p, s1, p1, q1, env, S, r, h⟩ => ?_
  refine ⟨by show 1 ≤ 1000; decide, fun a hn => ⟨a, C, v, rfl, T, hno, upd_same, fun dx hd hne => ⟨rfl, dx, [(f, v)], upd_same, ?_, ?_, ?_⟩⟩⟩
  · rw [upd_ne hne]; exact upd_same
  · rw [upd_ne hne] at hd; exact hd
  · have hd1 : H1 dx = none := by rw [upd_ne hne] at hd; exact hd
    have e : upd (del (upd (upd (upd H1 a (exo a C none)) dx (exd dx [(f, v)])) a (exo a C (some dx))) a) dx (.xd [(f, v)]) = upd H1 dx (.xd [(f, v)]) := by
      funext b
      by_cases hbd : b = dx
      · rw [hbd, upd_same, upd_same]
      · rw [upd_ne hbd, upd_ne hbd]
        by_cases hba : b = a
        · rw [hba, del_same]; exact hn.symm
        · rw [del_ne hba, upd_ne hba, upd_ne hbd, upd_ne hba]
    rw [e]
    exact h F1 m1 σ _ (.ref C) (some dx) (r.ext (Ext.raw hd1)) (Same.refl _) (List.prefix_refl _) ⟨C, dx, [(f, v)], rfl, by rw [← hX.mg]; exact hm, rfl, upd_same, .cons q1 .nil⟩
end

/-! ### the configuration of an except suite -/
def sCfg (c : Cfg) (F : Hp) (m : List Addr) (dd : Addr) (vfs : List (Str × V)) : Cfg := ⟨c.K, c.mg, F, m, upd c.H0 dd (.xd vfs), c.lk, fun _ _ _ _ => False⟩
theorem RepF.get {K : PySem.W.Frag} {F : Hp} {m : List Addr} : ∀ {vs : List (Str × V)} {ps : List (Str × PV)} {f : Str} {p : PV}, RepF K F m vs ps → ps.lookup f = some p → ∃ v, vs.lookup f = some v ∧ Rep K F m v p
  | _, _, f, p, .nil, h => by cases h
  | _, _, f, p, .cons (k := k) (v := v) (p := p') r rs, h => by
    unfold List.lookup at h ⊢
    cases e : f == k with
    | true => rw [e] at h; cases h; exact ⟨v, by simp, r⟩
    | false => rw [e] at h; obtain ⟨w, h1, h2⟩ := RepF.get rs h; exact ⟨w, by simpa using h1, h2⟩
section
variable {c : Cfg} {F F2 H H2 : Hp} {m m2 : List Addr} {σ σ2 : St} {env env2 : DEnv} {S S2 : Stor} {dd : Addr} {vfs : List (Str × V)}
theorem Rel.reW {W : WX} (r : Rel c F m σ env S H) : Rel { c with W := W } F m σ env S H := ⟨r.r0, r.len, r.slot, r.ownd, r.ownf, r.old, r.newm, r.pre, r.frn, r.f0, r.lkh⟩
theorem Rel.unW {W : WX} (r : Rel { c with W := W } F m σ env S H) : Rel c F m σ env S H := ⟨r.r0, r.len, r.slot, r.ownd, r.ownf, r.old, r.newm, r.pre, r.frn, r.f0, r.lkh⟩
/-- the exception's dict is nothing that the relation speaks of -/
theorem Rel.xd_own (r : Rel c F m σ env S H) (e : H dd = some (.xd vfs)) : ∀ i, ¬ Own env σ i dd := fun i ⟨s, h1, h2, h3⟩ => by
  have hs := r.slot i s h1
  cases s with
  | un => cases h2
  | v p => cases h2
  | ol ps => obtain ⟨a', vs, e1, e2, _⟩ := hs; rw [h3] at e1; cases e1; rw [e] at e2; cases e2
  | od ps => obtain ⟨a', vs, e1, e2, _⟩ := hs; rw [h3] at e1; cases e1; rw [e] at e2; cases e2
  | ot ps => obtain ⟨a', vs, e1, e2, _⟩ := hs; rw [h3] at e1; cases e1; rw [e] at e2; cases e2
theorem R0.sto_kind {K : PySem.W.Frag} {mg : Str → Option Value} {lk : List Addr} (r : R0 K mg lk F m S H) {a : Addr} (ha : a ∈ m) : (∃ xs, H a = some (.lst xs)) ∨ ∃ C dx fs, H a = some (.ins C dx fs) := by
  obtain ⟨i, hi⟩ := List.mem_iff_getElem?.mp ha
  have hl : i < S.length := by rw [← r.len]; exact (List.getElem?_eq_some_iff.mp hi).1
  have q := r.sto i a _ hi (List.getElem?_eq_getElem hl)
  cases hs : S[i] with
  | lst xs => rw [hs] at q; obtain ⟨vs, e, _⟩ := q; exact .inl ⟨_, e⟩
  | ins C fs => rw [hs] at q; obtain ⟨_, _, _, _, e, _⟩ := q; exact .inr ⟨_, _, _, e⟩
theorem Rel.xd_m (r : Rel c F m σ env S H) (e : H dd = some (.xd vfs)) : dd ∉ m := fun hm => by
  rcases r.r0.sto_kind hm with ⟨xs, h⟩ | ⟨_, _, _, h⟩ <;> (rw [e] at h; cases h)
theorem Rel.toS (r : Rel c F m σ env S H) (e : H dd = some (.xd vfs)) : Rel (sCfg c F m dd vfs) F m σ env S H where
  r0 := r.r0
  len := r.len
  slot := r.slot
  ownd := r.ownd
  ownf := fun i a o => by
    obtain ⟨h1, h2, h3⟩ := r.ownf i a o
    refine ⟨h1, h2, ?_⟩
    show upd c.H0 dd _ a = none
    rw [upd_ne (fun (z : a = dd) => r.xd_own e i (z ▸ o))]
    exact h3
  old := fun a o ha hm => by
    have ha : upd c.H0 dd (.xd vfs) a = some o := ha
    have hm : a ∉ m := hm
    by_cases z : a = dd
    · subst z
      rw [upd_same] at ha; cases ha
      exact .inl e
    · rw [upd_ne z] at ha
      exact r.old a o ha fun w => hm (r.pre.subset w)
  newm := fun a ha hm => absurd ha hm
  pre := List.prefix_refl _
  frn := fun a h => .inl h
  f0 := Same.refl _
  lkh := fun a ha => by
    obtain ⟨ob, u, ea⟩ := r.r0.lkd a ha
    obtain ⟨_, ob', u', e0⟩ := r.lkh a ha
    refine ⟨fun (hm : a ∈ m) => ?_, ob', u', ?_⟩
    · rcases r.r0.sto_kind hm with ⟨xs, h⟩ | ⟨_, _, _, h⟩ <;> (rw [ea] at h; cases h)
    · show upd c.H0 dd _ a = _
      rw [upd_ne (fun (z : a = dd) => by rw [z, e] at ea; cases ea)]
      exact e0
theorem Rel.ofS (r : Rel c F m σ env S H) (e : H dd = some (.xd vfs)) (r2 : Rel (sCfg c F m dd vfs) F2 m2 σ2 env2 S2 H2) : Rel c F2 m2 σ2 env2 S2 H2 where
  r0 := r2.r0
  len := r2.len
  slot := r2.slot
  ownd := r2.ownd
  ownf := fun i a o => by
    obtain ⟨h1, h2, h3⟩ := r2.ownf i a o
    refine ⟨h1, h2, ?_⟩
    have h3 : upd c.H0 dd (.xd vfs) a = none := h3
    by_cases z : a = dd
    · rw [z, upd_same] at h3; cases h3
    · rw [upd_ne z] at h3; exact h3
  old := fun a o ha hm => by
    by_cases z : a = dd
    · subst z
      have h1 : o = .xd vfs := by
        rcases r.old a o ha hm with h | ⟨_, _, ob, h⟩
        · rw [e] at h; cases h; rfl
        · rw [e] at h; cases h
      rw [h1]
      exact r2.old a (.xd vfs) (show upd c.H0 a (.xd vfs) a = _ from upd_same) (r.xd_m e)
    · by_cases hm2 : a ∈ m
      · have := r.newm a hm2 hm
        rw [ha] at this; cases this
      · exact r2.old a o (show upd c.H0 dd (.xd vfs) a = _ by rw [upd_ne z]; exact ha) hm2
  newm := fun a ha hm => by
    by_cases hm2 : a ∈ m
    · exact r.newm a hm2 hm
    · have h3 : upd c.H0 dd (.xd vfs) a = none := r2.newm a ha hm2
      by_cases z : a = dd
      · rw [z, upd_same] at h3; cases h3
      · rw [upd_ne z] at h3; exact h3
  pre := r.pre.trans r2.pre
  frn := fun a h => by
    rcases r2.frn a h with h | h
    · exact r.frn a h
    · have h : IT (upd c.H0 dd (.xd vfs)) a := h
      by_cases z : a = dd
      · unfold IT at h
        rw [z, upd_same] at h
        rcases h with h | ⟨_, h⟩ <;> cases h
      · unfold IT at h
        rw [upd_ne z] at h
        exact .inr h
  f0 := r.f0.trans r2.f0
  lkh := r.lkh
/-- nothing more is known of a slot -/
theorem Rel.setU (r : Rel c F m σ env S H) (i : Nat) (v : Option V) : Rel c F m (σ.set i v) (env.set i .un) S H where
  r0 := r.r0
  len := by rw [List.length_set, List.length_set]; exact r.len
  slot := fun j s e => by
    rcases set_get e with ⟨rfl, rfl⟩ | ⟨ne, e⟩
    · trivial
    · rw [List.getElem?_set_ne (Ne.symm ne)]
      exact r.slot j s e
  ownd := fun j k a h1 h2 => by
    obtain ⟨s1, e1, o1, a1⟩ := h1
    obtain ⟨s2, e2, o2, a2⟩ := h2
    rcases set_get e1 with ⟨rfl, rfl⟩ | ⟨n1, e1⟩
    · cases o1
    rcases set_get e2 with ⟨rfl, rfl⟩ | ⟨n2, e2⟩
    · cases o2
    rw [List.getElem?_set_ne (Ne.symm n1)] at a1
    rw [List.getElem?_set_ne (Ne.symm n2)] at a2
    exact r.ownd j k a ⟨s1, e1, o1, a1⟩ ⟨s2, e2, o2, a2⟩
  ownf := fun j a h1 => by
    obtain ⟨s1, e1, o1, a1⟩ := h1
    rcases set_get e1 with ⟨rfl, rfl⟩ | ⟨n1, e1⟩
    · cases o1
    rw [List.getElem?_set_ne (Ne.symm n1)] at a1
    exact r.ownf j a ⟨s1, e1, o1, a1⟩
  old := r.old
  newm := r.newm
  pre := r.pre
  frn := r.frn
  f0 := r.f0
  lkh := r.lkh
end

/-! ### the words of an except suite: slot i holds the exception at a -/
def Sσ (i : Nat) (a : Addr) (σ : St) : Prop := i < σ.length → σ[i]? = some (some (.ref a))
def rX (c : Cfg) (i : Nat) (a : Addr) (d : DE) : TE := fun σ H Q => Sσ i a σ ∧ rE c d σ H Q
def rXA (c : Cfg) (i : Nat) (a : Addr) (d : Den (List PV)) : TA := fun σ H Q => Sσ i a σ ∧ rA c d σ H Q
def rXT (c : Cfg) (i : Nat) (a : Addr) (d : Den Bool) : TT := fun σ H Q => Sσ i a σ ∧ rT c d σ H Q
/-- .. what follows may rest on the slot -/
abbrev upE (i : Nat) (a : Addr) (D : Ends) : Ends := { D with nx := fun σ H => Sσ i a σ → D.nx σ H }
def rXS (c : Cfg) (i : Nat) (a : Addr) (d : DS) : TS := fun D σ H => Sσ i a σ ∧ rS c d (upE i a D) σ H
/-- e.f of the caught x -/
def dXf (x : Exc) (f : Str) : DE := Den.opt (x.fs.lookup f)
/-- what a suite's rules may know of the exception -/
structure XS (c : Cfg) (cls : Value) (d : Option Addr) (x : Exc) (fs : List Str) : Prop where
  ex : ∃ C dd vfs, cls = .ref C ∧ c.mg x.cls = some (.ref C) ∧ d = some dd ∧ c.H0 dd = some (.xd vfs) ∧ dd ∉ c.m0 ∧ RepF c.K c.F0 c.m0 vfs x.fs ∧ XfC c.K C ∧ ∀ f ∈ fs, PySem.W.findIn c.K (.ref C) f = some none
section
variable {X : Cx} {c : Cfg} {i : Nat} {a : Addr} {oe : Obj} {cls : Value} {d : Option Addr} {pn : List (Addr × Obj)} {x : Exc} {fs : List Str}
theorem x_of {e : Expr} {de : DE} (h : PE X e (rE c de)) : PE X e (rX c i a de) := PE.weak h fun _ _ _ ⟨_, h⟩ => h
theorem x_fld {n f : Str} {p pos : Pos} (hKm : X.K = c.K ∧ X.mg = c.mg) (hx : XS c cls d x fs) (hf : f ∈ fs) (hz : Zc cls d oe) (hd : ∃ vs, oe.data = .fields vs) (hi : X.N[i]? = some n) (hv : Vis X.env.scope n := by first | exact Or.inl rfl | exact Or.inr (Or.inl rfl) | exact Or.inr (Or.inr rfl))
    (h1 : (n == ("__debug__" : Str)) = false := by decide) (h2 : (n == ("__classdict__" : Str)) = false := by decide)
    (hb : attributeBase (.Name n p) f X.env (eval (.Name n p) X.env) = eval (.Name n p) X.env := by rfl) :
    PE (X.suite a ((a, oe) :: pn)) (.Attribute (.Name n p) f pos) (rX c i a (dXf x f)) := by
  obtain ⟨C, dd, vfs, ec, hmx, ed, e0, hm, rf, T, hno⟩ := hx.ex
  have hK := hKm.1
  refine ⟨fun pins s σ H Q I ⟨hσ, F, m, h⟩ => ?_⟩
  obtain ⟨p, hp, h⟩ := h.opt
  obtain ⟨env, S, r, h⟩ := h
  obtain ⟨v, hv1, rv⟩ := rf.get hp
  refine (pe_xf (by rw [hK]; exact T) (by rw [hK]; exact hno f hf) hz hd (pe_var (i := i) hi hv h1 h2) hb).run pins s σ H Q I ⟨.ref a, hσ ?_, rfl, ec, dd, vfs, v, ed, ?_, hv1, ?_⟩
  · have := I.len
    rw [this]
    exact (List.getElem?_eq_some_iff.mp hi).1
  · rcases r.old dd _ e0 hm with h | ⟨_, h, _⟩
    · exact h
    · exact h.elim
  · exact h F m H v r (Same.refl _) (List.prefix_refl _) (rv.mono r.f0 r.pre)
theorem xa_nil : PA X [] (rXA c i a aNil) := PA.weak a_nil fun _ _ _ ⟨_, h⟩ => h
theorem xa_cons {e : Expr} {es : List Expr} {da : DE} {dr : Den (List PV)} (ha : PE X e (rX c i a da)) (hr : PA X es (rXA c i a dr)) (hs : starEach (e :: es) X.env = (false, eval e X.env) :: starEach es X.env := by rfl) : PA X (e :: es) (rXA c i a (aCons da dr)) := by
  refine PA.weak (pa_cons ha hr hs) fun σ H Q ⟨hσ, F, m, h⟩ => ?_
  refine ⟨hσ, (rd_bind h).imp fun v H1 ⟨F1, m1, p, s1, p1, q1, h⟩ => ?_⟩
  refine ⟨hσ, (rd_bind h).imp fun w H2 ⟨F2, m2, q, s2, p2, q2, h⟩ => ?_⟩
  exact h.end0 (RepL.cons (q1.mono s2 p2) q2)
theorem x_tup {es : List Expr} {dr : Den (List PV)} {x1} {pos : Pos} (hr : PA X es (rXA c i a dr)) : PE X (.Tuple es x1 pos) (rX c i a (dTup dr)) := by
  refine PE.weak (pe_tup hr) fun σ H Q ⟨hσ, F, m, h⟩ => ?_
  refine ⟨hσ, (rd_bind h).imp fun v H1 ⟨F1, m1, p, s1, p1, q1, h⟩ => ?_⟩
  obtain ⟨hl, h⟩ := h.if_
  refine ⟨by rw [q1.length]; exact hl, fun a ha => ?_⟩
  obtain ⟨env, S, R⟩ := h.rel
  exact h.yl.new R.r0 ha trivial fun s => .tup upd_same (q1.mono s (List.prefix_refl _))
theorem x_lst {es : List Expr} {dr : Den (List PV)} {pos : Pos} (hr : PA X es (rXA c i a dr)) : PE X (.List es pos) (rX c i a (dLst dr)) := by
  refine PE.weak (pe_lst hr) fun σ H Q ⟨hσ, F, m, h⟩ => ?_
  refine ⟨hσ, (rd_bind h).imp fun v H1 ⟨F1, m1, p, s1, p1, q1, h⟩ => ?_⟩
  obtain ⟨hl, h⟩ := h.if_
  refine ⟨by rw [q1.length]; exact hl, fun a ha => ?_⟩
  obtain ⟨env, S, R⟩ := h.rel
  exact h.yl.new R.r0 ha trivial fun s => .lst upd_same (q1.mono s (List.prefix_refl _))
theorem x_ret {e : Expr} {de : DE} {pos : Pos} (he : PE X e (rX c i a de)) : PS X (.Return (some e) pos) (rXS c i a (sRet de)) := by
  refine PS.weak (ps_ret he) fun D σ H ⟨hσ, F, m, h⟩ => ?_
  refine ⟨hσ, (sE_of h).imp fun v H1 ⟨F1, m1, p, s1, p1, q1, env, S, r, h⟩ => ?_⟩
  exact h F1 m1 σ H1 v r (Same.refl _) (List.prefix_refl _) q1
theorem x_one {st : Stmt} {ds : DS} (h : PS X st (rXS c i a ds)) : PSs X [st] (rXS c i a ds) := pss_one h
end

/-! ### isinstance of the caught exception -/
theorem lookup_mem {α : Type} : ∀ {l : List (Str × α)} {x : Str} {b : α}, l.lookup x = some b → (x, b) ∈ l
  | [], _, _, h => by cases h
  | (y, c) :: l, x, b, h => by
    unfold List.lookup at h
    cases e : x == y with
    | true => rw [e] at h; cases h; rw [beq_iff_eq.mp e]; exact List.mem_cons_self ..
    | false => rw [e] at h; exact List.mem_cons_of_mem _ (lookup_mem h)
/-- what the class C must say, so that isinstance asks its instances rightly -/
structure XiC (K : PySem.W.Frag) (C : Addr) : Prop where
  cl : PySem.W.hasDictIn K C = true
  ga : PySem.W.findIn K (.ref C) "__getattribute__" = some (some (.builtin "BaseException.__getattribute__"))
  gg : PySem.W.findIn K (.ref C) "__getattr__" = some none
  ex : PySem.W.subIn K (.ref C) (.type "BaseException") = some true
  kl : PySem.W.findIn K (.ref C) "__class__" = some (some (.builtin "object.__class__"))
  gt : PySem.W.specialIn K (.builtin "object.__class__") "__get__" = some (some (.builtin "getset_descriptor.__get__"))
  tk : PySem.W.takesIn K (.builtin "object.__class__") = some true
  mo : PySem.W.mroIn K C (.type "object") = some true
/-- the answers of isinstance(.., cv), class by class -/
def IsT (K : PySem.W.Frag) (mg : Str → Option Value) (cv : Value) (tb : List (Str × Bool)) : Prop := ∀ p ∈ tb, ∃ C : Addr, mg p.1 = some (.ref C) ∧ PySem.W.kitOne K (.ref C) cv = some p.2 ∧ XiC K C
theorem kit_cls_own {K : PySem.W.Frag} {C D : Addr} {b : Bool} (hd : PySem.W.hasDictIn K D = true) (ht : PySem.W.typeIn K (.ref D) = some (.type "type")) (hs : PySem.W.subIn K (.ref C) (.ref D) = some b) : PySem.W.kitCls K (.ref C) (.ref D) = some b := by
  obtain ⟨cd, hc, _⟩ := PySem.W.any_some hd
  show (if ((PySem.W.clsIn K D).isSome && PySem.W.typeIn K (.ref D) == some (.type "type")) = true then PySem.W.subIn K (.ref C) (.ref D) else none) = some b
  rw [if_pos (by rw [hc, ht] <;> rfl)]
  exact hs
theorem kit_ownT {K : PySem.W.Frag} {C D : Addr} (hd : PySem.W.hasDictIn K D = true) (ht : PySem.W.typeIn K (.ref D) = some (.type "type")) (hs : PySem.W.subIn K (.ref C) (.ref D) = some true) : PySem.W.kitOne K (.ref C) (.ref D) = some true := by
  unfold PySem.W.kitOne
  split
  · rfl
  · exact kit_cls_own hd ht hs
theorem kit_ownF {K : PySem.W.Frag} {C D : Addr} (hd : PySem.W.hasDictIn K D = true) (ht : PySem.W.typeIn K (.ref D) = some (.type "type")) (hs : PySem.W.subIn K (.ref C) (.ref D) = some false) (hf : PySem.W.subIn K (.ref C) (.ref C) = some true) : PySem.W.kitOne K (.ref C) (.ref D) = some false := by
  unfold PySem.W.kitOne
  split
  · rename_i h
    have e : C = D := Value.ref.inj (beq_iff_eq.mp h)
    rw [← e, hf] at hs
    cases hs
  · exact kit_cls_own hd ht hs
theorem kit_blt {K : PySem.W.Frag} {C : Addr} {T : String} {b : Bool} (hs : PySem.W.subIn K (.ref C) (.type T) = some b) (hm : PySem.W.kitMeta T = true) : PySem.W.kitOne K (.ref C) (.type T) = some b := by
  unfold PySem.W.kitOne
  rw [if_neg (by simp)]
  show (if PySem.W.kitMeta T = true then PySem.W.subIn K (.ref C) (.type T) else none) = some b
  rw [if_pos hm]
  exact hs
structure IsOwn (K : PySem.W.Frag) (mg : Str → Option Value) (D : Str) (tb : List (Str × Bool)) : Prop where
  ex : ∃ C : Addr, mg D = some (.ref C) ∧ IsT K mg (.ref C) tb
structure IsBlt (K : PySem.W.Frag) (mg : Str → Option Value) (D : String) (tb : List (Str × Bool)) : Prop where
  no : mg D = none
  bl : bootBuiltins D = some (.type D)
  is : IsT K mg (.type D) tb
def dXi (x : Exc) (tb : List (Str × Bool)) : DE := Den.opt ((tb.lookup x.cls).map .bl)
def rIsX (K : PySem.W.Frag) (D a dd : Addr) : List V → Hp → VK → Prop := fun xs H Q => ∃ (v : V) (cv : Value) (b : Bool) (fs : List (Str × V)), xs = [.ref a, v] ∧ (∀ u, RelV v u → u = cv) ∧ PySem.W.kitOne K (.ref D) cv = some b ∧ H dd = some (.xd fs) ∧ Q (.bl b) H
section
variable {X : Cx} {c : Cfg} {i : Nat} {a : Addr} {oe : Obj} {cls : Value} {d : Option Addr} {pn : List (Addr × Obj)} {x : Exc} {fs : List Str}
theorem call_isX {D dd : Addr} (C : XiC X.K D) (hz : Zc (.ref D) (some dd) oe) (hf : ∃ vs, oe.data = .fields vs) : CallR (X.suite a ((a, oe) :: pn)) (.builtin "isinstance") (rIsX X.K D a dd) := fun pins s σ H xs us Q I r h => by
  obtain ⟨v, cv, b, fs, rfl, hcv, e, hx, q⟩ := h
  match us, r with
  | [_, u], .cons rx (.cons rt .nil) =>
    have eu := hcv u rt
    obtain rfl := eu
    obtain rfl := rx
    have there := (I.pin (a, oe) (List.mem_append_left _ List.mem_cons_self)).1
    obtain ⟨vs, hv⟩ := hf
    obtain ⟨mA, hns, _⟩ : ObjOk X.prog X.w H s.heap dd (.xd fs) := I.hok dd _ hx
    obtain ⟨od, ho, _⟩ := lookIn_ns hns
    have J : PySem.W.InstAt s.heap a oe D (some od) := ⟨there, hz.1, by unfold PySem.W.notCls; rw [hv] <;> rfl, by rw [hz.2]; exact ho⟩
    have hcl : (PySem.W.clsIn X.K D).isSome = true := by
      obtain ⟨cd, hc, _⟩ := PySem.W.any_some C.cl
      rw [hc]; rfl
    exact PySem.W.kia_one (PySem.W.kitx_exc hcl C.ga C.gg C.ex C.kl C.gt C.tk C.mo) I.kIn J e (by intro z; cases z) fun tk => ⟨.bl b, H, I.kept (t' := tk) fun _ _ z => z, rfl, q⟩
theorem x_isi {n : Str} {v : V} {cv : Value} {tb : List (Str × Bool)} {e : Expr} {p p1 pos : Pos} (hKm : X.K = c.K ∧ X.mg = c.mg) (hx : XS c cls d x fs) (hT : IsT X.K X.mg cv tb) (hz : Zc cls d oe) (hd : ∃ vs, oe.data = .fields vs) (hi : X.N[i]? = some n)
    (hD : PE (X.suite a ((a, oe) :: pn)) e (tC v)) (hv : ∀ u, RelV v u → u = cv) (hg : Gl X "isinstance") (hm0 : X.mg "isinstance" = none)
    (he1 : starEach [.Name n p1, e] X.env = (false, eval (.Name n p1) X.env) :: starEach [e] X.env) (he2 : starEach [e] X.env = (false, eval e X.env) :: starEach [] X.env) (hpl : (backTo pos (starEach [e] X.env)).any (·.1) = false)
    (hvi : Vis X.env.scope n := by first | exact Or.inl rfl | exact Or.inr (Or.inl rfl) | exact Or.inr (Or.inr rfl)) (h1 : (n == ("__debug__" : Str)) = false := by decide) (h2 : (n == ("__classdict__" : Str)) = false := by decide) :
    PE (X.suite a ((a, oe) :: pn)) (.Call (.Name "isinstance" p) [.Name n p1, e] [] pos) (rX c i a (dXi x tb)) := by
  obtain ⟨C, dd, vfs, ec, hmx, ed, e0, hm, rf, T, hno⟩ := hx.ex
  subst ec ed
  refine ⟨fun pins s σ H Q I ⟨hσ, F, m, h⟩ => ?_⟩
  obtain ⟨q, hq, h⟩ := h.opt
  obtain ⟨b, hb, rfl⟩ := Option.map_eq_some_iff.mp hq
  obtain ⟨env, S, r, h⟩ := h
  obtain ⟨C2, hm2, hk, hXi⟩ := hT _ (lookup_mem hb)
  have eC : C2 = C := by
    have z := hm2
    rw [hKm.2] at z
    rw [z] at hmx
    exact Value.ref.inj (Option.some.inj hmx)
  subst eC
  refine (pe_callB (call_isX hXi hz hd) (show Gl (X.suite a ((a, oe) :: pn)) "isinstance" from hg) hm0 (by decide +kernel) (pa_cons (pe_var (i := i) hi hvi h1 h2) (pa_cons hD pa_nil he2) he1) (by decide) (by decide) he1 hpl).run pins s σ H Q I ⟨.ref a, hσ ?_, v, cv, b, vfs, rfl, hv, hk, ?_, ?_⟩
  · have := I.len
    rw [this]
    exact (List.getElem?_eq_some_iff.mp hi).1
  · rcases r.old dd _ e0 hm with h | ⟨_, h, _⟩
    · exact h
    · exact h.elim
  · exact h F m H _ r (Same.refl _) (List.prefix_refl _) (.bl b)
theorem x_isO {n D : Str} {tb : List (Str × Bool)} {p p1 p2 pos : Pos} (hKm : X.K = c.K ∧ X.mg = c.mg) (hx : XS c cls d x fs) (hI : IsOwn X.K X.mg D tb) (hz : Zc cls d oe) (hd : ∃ vs, oe.data = .fields vs) (hi : X.N[i]? = some n) (hg : Gl X "isinstance") (hm0 : X.mg "isinstance" = none) (hgD : Gl X D)
    (he1 : starEach [.Name n p1, .Name D p2] X.env = (false, eval (.Name n p1) X.env) :: starEach [.Name D p2] X.env := by rfl) (he2 : starEach [.Name D p2] X.env = (false, eval (.Name D p2) X.env) :: starEach [] X.env := by rfl) (hpl : (backTo pos (starEach [.Name D p2] X.env)).any (·.1) = false := by rfl)
    (hvi : Vis X.env.scope n := by first | exact Or.inl rfl | exact Or.inr (Or.inl rfl) | exact Or.inr (Or.inr rfl)) (h1 : (n == ("__debug__" : Str)) = false := by decide) (h2 : (n == ("__classdict__" : Str)) = false := by decide) (h3 : (D == ("__debug__" : Str)) = false := by decide) :
    PE (X.suite a ((a, oe) :: pn)) (.Call (.Name "isinstance" p) [.Name n p1, .Name D p2] [] pos) (rX c i a (dXi x tb)) := by
  obtain ⟨C, hC, hT⟩ := hI.ex
  exact x_isi hKm hx hT hz hd hi (pe_glob (v := .ref C) (show Gl (X.suite a ((a, oe) :: pn)) D from hgD) hC rfl h3) (fun u r => r) hg hm0 he1 he2 hpl hvi h1 h2
theorem x_isB {n : Str} {D : String} {tb : List (Str × Bool)} {p p1 p2 pos : Pos} (hKm : X.K = c.K ∧ X.mg = c.mg) (hx : XS c cls d x fs) (hI : IsBlt X.K X.mg D tb) (hz : Zc cls d oe) (hd : ∃ vs, oe.data = .fields vs) (hi : X.N[i]? = some n) (hg : Gl X "isinstance") (hm0 : X.mg "isinstance" = none) (hgD : Gl X D)
    (he1 : starEach [.Name n p1, .Name D p2] X.env = (false, eval (.Name n p1) X.env) :: starEach [.Name D p2] X.env := by rfl) (he2 : starEach [.Name D p2] X.env = (false, eval (.Name D p2) X.env) :: starEach [] X.env := by rfl) (hpl : (backTo pos (starEach [.Name D p2] X.env)).any (·.1) = false := by rfl)
    (hvi : Vis X.env.scope n := by first | exact Or.inl rfl | exact Or.inr (Or.inl rfl) | exact Or.inr (Or.inr rfl)) (h1 : (n == ("__debug__" : Str)) = false := by decide) (h2 : (n == ("__classdict__" : Str)) = false := by decide) (h3 : ((D : Str) == ("__debug__" : Str)) = false := by decide) (h4 : (D : Str) ≠ "__name__" := by decide) :
    PE (X.suite a ((a, oe) :: pn)) (.Call (.Name "isinstance" p) [.Name n p1, .Name D p2] [] pos) (rX c i a (dXi x tb)) :=
  x_isi hKm hx hI.is hz hd hi (pe_bltn (v := .ty D) (show Gl (X.suite a ((a, oe) :: pn)) D from hgD) hI.no hI.bl rfl h4 h3) (fun u r => r) hg hm0 he1 he2 hpl hvi h1 h2
/-- .. as a test -/
theorem xt_bool {e : Expr} {t : Option Bool} (h : PE X e (rX c i a (Den.opt (t.map .bl)))) (he : ∀ whole, isTrue e X.env whole = (do let v ← whole; standAt e.pos; holding [v] (truthy v)) := by intro _; rfl) : PT X e (rXT c i a (Den.opt t)) := by
  refine PT.weak (pt_truth h he) fun σ H Q ⟨hσ, F, m, h⟩ => ⟨hσ, F, m, ?_⟩
  obtain ⟨b, rfl, h⟩ := h.opt
  obtain ⟨env, S, r, h⟩ := h
  refine ⟨env, S, r, ?_⟩
  intro F' m' H' v r' s' p' q'
  cases q'
  exact ⟨b, rfl, h F' m' H' b r' s' p' rfl⟩
theorem xw_and1 {e : Expr} {t : Den Bool} {pos : Pos} (ha : PT X e (rXT c i a t)) : PW X (.BoolOp .And [e] pos) (rXT c i a t) := pw_and1 ha
theorem xw_and {e b : Expr} {rest : List Expr} {ta tb : Den Bool} {pos : Pos} (ha : PT X e (rXT c i a ta)) (hb : PW X (.BoolOp .And (b :: rest) pos) (rXT c i a tb)) : PW X (.BoolOp .And (e :: b :: rest) pos) (rXT c i a (dAndT ta tb)) := by
  refine PW.weak (pw_and ha hb) fun σ H Q ⟨hσ, F, m, h⟩ => ?_
  refine ⟨hσ, (rd_bind h).imp fun v H1 ⟨F1, m1, p, s1, p1, q1, h⟩ => ?_⟩
  cases q1
  cases v with
  | true => exact ⟨hσ, h.rd⟩
  | false => exact h.end0 rfl
theorem xt_w {e : Expr} {t : Den Bool} (h : PW X e (rXT c i a t)) : PT X e (rXT c i a t) := h.pt
theorem xs_cons {st : Stmt} {ss : List Stmt} {d1 d2 : DS} (h1 : PS X st (rXS c i a d1)) (h2 : PSs X ss (rXS c i a d2)) : PSs X (st :: ss) (rXS c i a (sSeq d1 d2)) := by
  refine PSs.weak (pss_cons h1 h2) fun D σ H ⟨hσ, F, m, env, S, r, h⟩ => ?_
  refine ⟨hσ, F, m, env, S, r, ?_⟩
  unfold sSeq at h
  cases q : d1 env S with
  | nx env1 S1 =>
    rw [q] at h
    exact fun F' m' σ' H' r' s' p' hs => ⟨hs, F', m', env1, S1, r', h.mono s' p'⟩
  | st => rw [q] at h; exact h
  | bk env1 S1 => rw [q] at h; exact h
  | ct env1 S1 => rw [q] at h; exact h
  | rt p env1 S1 => rw [q] at h; exact h
  | ex x env1 S1 => rw [q] at h; exact h
theorem xs_nil : PSs X [] (rXS c i a sNext) := PSs.weak pss_nil fun D σ H ⟨hσ, F, m, env, S, r, h⟩ => h F m σ H r (Same.refl _) (List.prefix_refl _) hσ
theorem x_if {e : Expr} {t : Den Bool} {d1 d2 : DS} {ss tt : List Stmt} {pos : Pos} (hc : PT X e (rXT c i a t)) (ha : PSs X ss (rXS c i a d1)) (hb : PSs X tt (rXS c i a d2)) : PS X (.If e ss tt pos) (rXS c i a (sIf t d1 d2)) := by
  refine PS.weak (ps_if hc ha hb) fun D σ H ⟨hσ, F, m, h⟩ => ?_
  refine ⟨hσ, (sE_of h).imp fun v H1 ⟨F1, m1, p, s1, p1, q1, h⟩ => ?_⟩
  cases q1
  cases v with
  | true => rw [if_pos rfl]; exact ⟨hσ, h.rS⟩
  | false => rw [if_neg Bool.false_ne_true]; exact ⟨hσ, h.rS⟩
end

/-! ### try: b, except C as n: su -/
def sTry (cs : List (Str × Bool)) (i : Nat) (b : DS) (su : Exc → DS) : DS := fun e S => match b e S with
  | .ex x e1 S1 => match cs.lookup x.cls with
    | some true => match su x (e1.set i .un) S1 with
      | .nx e2 S2 => .nx (e2.set i .un) S2
      | .bk e2 S2 => .bk (e2.set i .un) S2
      | .ct e2 S2 => .ct (e2.set i .un) S2
      | .rt p e2 S2 => .rt p e2 S2
      | _ => .st
    | some false => .ex x e1 S1
    | none => .st
  | o => o
theorem k_try {k : Nat} {X : Cx} {c : Cfg} {C n : Str} (i : Nat) (cs : List (Str × Bool)) (fs : List Str) {body suite : List Stmt} {b₀ : Stmt} {np pos pos' : Pos} {b : DS} {su : Exc → DS} (hX : XOk k X c) (tk : Takes X c.W) (HT : TryOk X.K X.mg C cs fs) (hg : Gl X C) (hi : X.N[i]? = some n) (hs : X.stack = X.env :: X.outer) (hf : X.env.frame = some X.env.locals) (hln : X.env.kindOf n = some .local)
    (hb : ∀ (W : WX) (pn : List (Addr × Obj)) (xe : Value → Shared → Prop), XOk k (X.tr pn xe) { c with W := W } → Takes (X.tr pn xe) W → PSs (X.tr pn xe) body (rS { c with W := W } b))
    (hsu : ∀ (a : Addr) (oe : Obj) (cls : Value) (d : Option Addr) (pn : List (Addr × Obj)) (c' : Cfg) (x : Exc), X.K = c'.K ∧ X.mg = c'.mg → Zc cls d oe → (∃ vs, oe.data = .fields vs) → XS c' cls d x fs → PSs (X.suite a ((a, oe) :: pn)) (b₀ :: suite) (rXS c' i a (su x)))
    (hdb : (C == ("__debug__" : Str)) = false := by decide) : PS X (.Try body [.ExceptHandler (some (.Name C np)) (some n) (b₀ :: suite) pos'] [] [] pos) (rS c (sTry cs i b su)) := by
  obtain ⟨Ch, hm, hcs⟩ := HT.ex
  have hsuite : ∀ (a : Addr) (oe : Obj) (cls : Value) (d : Option Addr) (pn : List (Addr × Obj)), Zc cls d oe → (∃ vs, oe.data = .fields vs) →
      PSs (X.suite a ((a, oe) :: pn)) (b₀ :: suite) (fun D σ H => ∃ c' x, (X.K = c'.K ∧ X.mg = c'.mg) ∧ XS c' cls d x fs ∧ rXS c' i a (su x) D σ H) :=
    fun a oe cls d pn hz hd => ⟨fun pins s σ H D I ⟨c', x, hk, hx, h⟩ => (hsu a oe cls d pn c' x hk hz hd hx).run pins s σ H D I h⟩
  refine PS.weak (ps_try_as (i := i) (Wout := c.W) (tb := fun W => rS { c with W := W } b) (ts := fun a cls d D σ H => ∃ c' x, (X.K = c'.K ∧ X.mg = c'.mg) ∧ XS c' cls d x fs ∧ rXS c' i a (su x) D σ H) hs hf hX.nd hi hln ⟨hg, hdb, .inl hm⟩ tk
    (fun W pn xe tk' _ => hb W pn xe ⟨hX.K, hX.mg, hX.calm, hX.nd, hX.room, fun σ => passAt tk' σ⟩ tk') hsuite) fun D σ H ⟨F, m, env, S, r, h⟩ => ?_
  refine ⟨F, m, env, S, r.reW, ?_⟩
  unfold sTry at h
  cases e : b env S with
  | st => rw [e] at h; exact h
  | nx e1 S1 => rw [e] at h; exact fun F' m' σ' H' r' s' p' => h F' m' σ' H' r'.unW s' p'
  | bk e1 S1 => rw [e] at h; exact fun F' m' σ' H' r' s' p' => h F' m' σ' H' r'.unW s' p'
  | ct e1 S1 => rw [e] at h; exact fun F' m' σ' H' r' s' p' => h F' m' σ' H' r'.unW s' p'
  | rt p e1 S1 => rw [e] at h; exact fun F' m' σ' H' v r' s' p' q' => h F' m' σ' H' v r'.unW s' p' q'
  | ex x e1 S1 =>
    rw [e] at h
    intro F1 m1 σ1 H1 cls d r1 s1 p1 hx
    have r1 := r1.unW
    dsimp only at h
    cases el : cs.lookup x.cls with
    | none => rw [el] at h; exact h.elim
    | some bb =>
      rw [el] at h
      obtain ⟨C', dd, vfs, rfl, hmx, rfl, hdd, rf⟩ := hx
      obtain ⟨C2, hm2, hex, hxf, hno⟩ := (hcs _ (lookup_mem el)).ex
      have eC : C2 = C' := by
        have z := hm2
        rw [hX.mg] at z
        rw [z] at hmx
        exact Value.ref.inj (Option.some.inj hmx)
      subst eC
      refine ⟨bb, hex, fun hb' a ha => ?_, fun hb' => ?_⟩
      · subst hb'
        have rs := (r1.toS hdd).setU i (some (.ref a))
        refine ⟨sCfg c F1 m1 dd vfs, x, ⟨hX.K, hX.mg⟩, ⟨C2, dd, vfs, rfl, hmx, rfl, upd_same, r1.xd_m hdd, rf, by show XfC c.K C2; rw [← hX.K]; exact hxf, fun f hf => by show PySem.W.findIn c.K _ _ = _; rw [← hX.K]; exact hno f hf⟩, fun hl => ?_, F1, m1, e1.set i .un, S1, rs, ?_⟩
        · rw [List.length_set] at hl
          rw [List.getElem?_set_self hl]
        · dsimp only at h
          cases es : su x (e1.set i .un) S1 with
          | st => rw [es] at h; exact h
          | nx e2 S2 => rw [es] at h; exact fun F2 m2 σ2 H2 r2 s2 p2 _ => h F2 m2 _ H2 ((r1.ofS hdd r2).setU i none) (s1.trans s2) (p1.trans p2)
          | bk e2 S2 => rw [es] at h; exact fun F2 m2 σ2 H2 r2 s2 p2 => h F2 m2 _ H2 ((r1.ofS hdd r2).setU i none) (s1.trans s2) (p1.trans p2)
          | ct e2 S2 => rw [es] at h; exact fun F2 m2 σ2 H2 r2 s2 p2 => h F2 m2 _ H2 ((r1.ofS hdd r2).setU i none) (s1.trans s2) (p1.trans p2)
          | rt p e2 S2 => rw [es] at h; exact fun F2 m2 σ2 H2 v r2 s2 p2 q2 => h F2 m2 σ2 H2 v (r1.ofS hdd r2) (s1.trans s2) (p1.trans p2) q2
          | ex x2 e2 S2 => rw [es] at h; exact h.elim
      · subst hb'
        exact h F1 m1 σ1 H1 _ _ r1 s1 p1 ⟨C2, dd, vfs, rfl, hmx, rfl, hdd, rf⟩
/-! ### tuple(range(n)) -/
/-! ### list(x), a new list -/
/-! ### what is never asked -/
end Dn
end
section
set_option Elab.async false
set_option linter.all false
set_option maxRecDepth 100000
set_option maxHeartbeats 1000000
namespace Dn
open PySem L2 PySem.Spec PyProof.Rows
end Dn
end
section
set_option Elab.async false
set_option linter.all false
set_option maxRecDepth 100000
set_option maxHeartbeats 1000000
namespace Dn
open PySem L2 PySem.Spec PyProof.Rows
/-! ### tuples that are known to have no dict: made by tuple(l); their methods -/
section
variable {X : Cx}
end
section
variable {k : Nat} {X : Cx} {c : Cfg} {o e : Expr} {apos cpos : Pos} {da dk : DE}
end
/-! ### in a list that no one else knows -/
section
variable {k : Nat} {X : Cx} {c : Cfg} {e : Expr} {p1 pos : Pos} {da : DE} {x : Str}
end
/-! ### a list and a list, a new list -/
end Dn
end
section
set_option Elab.async false
set_option linter.all false
set_option maxRecDepth 100000
namespace Dn
noncomputable section
open PySem L2
def d_check_system_v2 : DF := dFun 1 0 (sIf (dNotT (dTru (dCall d_is_system (aCons (dVar 0) aNil)))) (sRaise "BadValue" "name" (dC (.str "system"))) sNext)
def d_behind_v2 : DF := dFun 2 4 (sSeq (sSetT [2, 3] (dVar 1))
  (sSeq (sIf (dT (d2 eqP (dVar 2) (dC (.str "execute")))) (sSeq (sIf (dT (d2 geP (dN lenP (aCons (dVar 0) aNil)) (dC (.int 16)))) (sRaise "NotPossible" "why" (dC (.str "full"))) sNext)
  (sRet (d2 addP (dVar 0) (dTup (aCons (dTup (aCons (dVar 3) (aCons (dC (.bl true)) aNil))) aNil))))) sNext)
  (sSeq (sIf (dT (d2 geP (dVar 3) (dN lenP (aCons (dVar 0) aNil)))) (sRaise "NotPossible" "why" (dC (.str "missing"))) sNext)
  (sSeq (sSetT [4, 5] (d2 ixP (dVar 0) (dVar 3)))
  (sSeq (sIf (dT (d2 neP (dVar 5) (d2 eqP (dVar 2) (dC (.str "revoke"))))) (sRaise "NotPossible" "why" (dIf (dTru (dVar 5)) (dC (.str "effect")) (dC (.str "revoked")))) sNext)
  (sRet (d2 addP (d2 addP (dSl (dVar 0) oNo (oSome (dVar 3))) (dTup (aCons (dTup (aCons (dVar 4) (aCons (dNotV (dVar 5)) aNil))) aNil))) (dSl (dVar 0) (oSome (d2 addP (dVar 3) (dC (.int 1)))) oNo))))))))
end
end Dn
end
section
set_option Elab.async false
set_option linter.all false
set_option maxRecDepth 100000
set_option maxHeartbeats 1000000
namespace Dn
open PySem L2
/-! ### slices of frozen tuples: the whole is the tuple itself, a part is a new one -/
section
variable {k : Nat} {X : Cx} {c : Cfg} {e : Expr} {lo hi : Option Expr} {da : DE} {dl dh : Den (Option Int)} {p2 pos : Pos}
end
end Dn
end
section
set_option Elab.async false
set_option linter.all false
set_option maxRecDepth 100000
set_option maxHeartbeats 1000000
namespace Dn
open PySem L2 PySem.Spec PyProof.Rows
/-! ### [.. for .. for x in range(..)] -/
theorem PI.ex {X : Cx} {tg e : Expr} {ι : Type} {t : ι → TI} (h : ∀ i, PI X tg e (t i)) : PI X tg e (fun σ H Q => ∃ i, t i σ H Q) := ⟨fun pins s σ H Q I ⟨i, q⟩ => (h i).run pins s σ H Q I q⟩
end Dn
end
section
set_option Elab.async false
set_option linter.all false
set_option maxRecDepth 100000
set_option maxHeartbeats 1000000
namespace Dn
open PySem L2 PySem.Spec PyProof.Rows
/-! ### x.setdefault(e, f), x a dict of its own name, ints and texts as keys -/
section
variable {k : Nat} {X : Cx} {c : Cfg} {x : Str} {e f : Expr} {p1 apos cpos : Pos} {dk df : DE}
end
end Dn
end
section
set_option Elab.async false
set_option linter.all false
set_option maxRecDepth 100000
set_option maxHeartbeats 1000000
namespace Dn
open PySem L2 PySem.Spec PyProof.Rows
/-! ### x, y = a, b and x, y, z = a, b, c: the stores are swapped -/
section
variable {k : Nat} {X : Cx} {cf : Cfg} {dr : Den (List PV)} {x y z : Str} {a b c : Expr} {px py pz pt pos : Pos} {kt k2 : Nat} {pt2 : Pos}
end
end Dn
end
section
set_option Elab.async false
set_option linter.all false
set_option maxRecDepth 100000
set_option maxHeartbeats 1000000
namespace Dn
open PySem L2 PySem.Spec PyProof.Rows
/-! ### sorted(t), t a tuple of ints -/
end Dn
end
section
set_option Elab.async false
set_option linter.all false
set_option maxRecDepth 100000
set_option maxHeartbeats 1000000
namespace L2
open PySem PySem.Spec PyProof.Rows
/-! several except clauses, each with a name of its own -/
section
variable {X : Cx} {body : List Stmt} {h₀ : ExceptHandler} {hds : List ExceptHandler} {l : List (Value × Nat × (Addr → Value → Option Addr → TS))} {pos : Pos} {tb : WX → TS} {Wout : WX}
end
end L2
namespace Dn
open PySem L2 PySem.Spec PyProof.Rows
/-! ### try: b, except C as n: su, except C2 as n2: su2 -/
end Dn
end
section
set_option Elab.async false
set_option linter.all false
set_option maxRecDepth 100000
set_option maxHeartbeats 1000000
namespace Dn
open PySem L2 PySem.Spec PyProof.Rows
/-! ### l.index(x), items of any depth -/
section
variable {k : Nat} {X : Cx} {c : Cfg} {o e : Expr} {apos cpos : Pos} {da dk : DE}
end
end Dn
end
section
set_option Elab.async false
set_option linter.all false
set_option maxRecDepth 100000
set_option maxHeartbeats 1000000
namespace Dn
open PySem L2 PySem.Spec PyProof.Rows
/-! ### t.index(x), t a tuple of None and ints -/
section
variable {k : Nat} {X : Cx} {c : Cfg} {o e : Expr} {apos cpos : Pos} {da dk : DE}
end
end Dn
end
section
set_option Elab.async false
set_option linter.all false
set_option maxRecDepth 100000
set_option maxHeartbeats 1000000
namespace Dn
open PySem L2 PySem.Spec PyProof.Rows
/-! ### len and list of dicts whose keys are tuples of any length -/
end Dn
end
section
set_option Elab.async false
set_option linter.all false
set_option maxRecDepth 100000
set_option maxHeartbeats 1000000
namespace Dn
open PySem L2 PySem.Spec PyProof.Rows
end Dn
end
section
set_option Elab.async false
set_option linter.all false
set_option maxRecDepth 100000
set_option maxHeartbeats 1000000
namespace Dn
open PySem L2 PySem.Spec PyProof.Rows
/-! ### comprehensions of dicts whose keys are tuples -/
section
variable {c : Cfg} {F F' H H' : Hp} {m m' : List Addr} {σ : L2.St} {env env' : DEnv} {S S' : Stor}
end
section
variable {X : Cx}
end
section
end
section
variable {i : Nat} {y : Str} {py spos : Pos} {k : Nat} {X : Cx} {c : Cfg} {kx vx tg iter : Expr} {ifs : List Expr} {scope : Scope} {own : List (Str × Nat)} {pos : Pos} {di : Den (List PV)} {is : List Nat} {g : PV → DEnv → Option DEnv} {dt : Den Bool} {dk dv : DE}
end
end Dn
end
section
set_option Elab.async false
set_option linter.all false
set_option maxRecDepth 100000
namespace Dn
noncomputable section
open PySem L2
end
end Dn
end
section
set_option Elab.async false
set_option linter.all false
set_option maxRecDepth 100000
set_option maxHeartbeats 1000000
namespace Dn
open PySem L2 PySem.Spec PyProof.Rows
/-! ### instances of a class of one's own: fields, methods, the making -/
structure ClOk (K : PySem.W.Frag) (mg : Str → Option Value) (C : Str) (fl : List Str) : Prop where
  ex : ∃ Ca, mg C = some (.ref Ca) ∧ Cls K Ca ∧ ∀ f ∈ fl, NoAttr K Ca f
def putFP (f : Str) (p : PV) : List (Str × PV) → List (Str × PV)
  | [] => [(f, p)]
  | (g, x) :: r => if g = f then (g, p) :: r else (g, x) :: putFP f p r
theorem RepF.put {K : PySem.W.Frag} {F : Hp} {m : List Addr} {f : Str} {v : V} {p : PV} (q : Rep K F m v p) : ∀ {vs : List (Str × V)} {ps : List (Str × PV)}, RepF K F m vs ps → RepF K F m (putF f v vs) (putFP f p ps)
  | _, _, .nil => .cons q .nil
  | _, _, .cons (k := k) r rs => by
    unfold putF putFP
    by_cases h : k = f
    · rw [if_pos h, if_pos h]; exact .cons q rs
    · rw [if_neg h, if_neg h]; exact .cons r (RepF.put q rs)
theorem RepF.len {K : PySem.W.Frag} {F : Hp} {m : List Addr} : ∀ {vs : List (Str × V)} {ps : List (Str × PV)}, RepF K F m vs ps → vs.length = ps.length
  | _, _, .nil => rfl
  | _, _, .cons _ rs => by rw [List.length_cons, List.length_cons, RepF.len rs]
theorem RepF.no {K : PySem.W.Frag} {F : Hp} {m : List Addr} {f : Str} : ∀ {vs : List (Str × V)} {ps : List (Str × PV)}, RepF K F m vs ps → ps.lookup f = none → vs.lookup f = none
  | _, _, .nil, _ => rfl
  | _, _, .cons (k := k) _ rs, h => by
    rw [List.lookup_cons] at h ⊢
    cases e : f == k with
    | true => rw [e] at h; cases h
    | false => rw [e] at h; exact RepF.no rs h
/-- o.f -/
def fldP (C f : Str) : G1 := fun S p => match p with
  | .ref n => match S[n]? with
    | some (.ins D fs) => if D = C then fs.lookup f else none
    | _ => none
  | _ => none
/-- o.f = p -/
def setF (C f : Str) (S : Stor) (o p : PV) : Option Stor := match o with
  | .ref n => match S[n]? with
    | some (.ins D fs) => if D = C ∧ fs.length < 1000 then some (S.set n (.ins D (putFP f p fs))) else none
    | _ => none
  | _ => none
def sSetF (C f : Str) (dobj de : DE) : DS := sE de fun p => sE dobj fun o => fun e s => match setF C f s o p with
  | some s => .nx e s
  | none => .st
/-- o.append(p) -/
def lstB (S : Stor) (o : PV) : Bool := match o with
  | .ref n => match S[n]? with
    | some (.lst _) => true
    | _ => false
  | _ => false
def appS (S : Stor) (o p : PV) : Option Stor := match o with
  | .ref n => match S[n]? with
    | some (.lst xs) => if xs.length < sizeLine then some (S.set n (.lst (xs ++ [p]))) else none
    | _ => none
  | _ => none
def sAppR (dobj da : DE) : DS := sE dobj fun o => fun e s => if lstB s o then sE da (fun p => fun e s => match appS s o p with
  | some s => .nx e s
  | none => .st) e s else .st
def insB (C m : Str) (S : Stor) (o : PV) : Bool := match o with
  | .ref n => match S[n]? with
    | some (.ins D fs) => decide (D = C) && (fs.lookup m).isNone
    | _ => false
  | _ => false
/-- o.m(..) -/
def dMeth (C m : Str) (f : DF) (da : DE) (dr : Den (List PV)) : DE := da.bind fun o => fun e s => if insB C m s o then (dr.bind fun ps => kCall f (o :: ps)) e s else .st
/-- C(..) -/
def kMake (C : Str) (f : DF) (ps : List PV) : DE := fun e s => match f (.ref s.length :: ps) (s ++ [.ins C []]) with
  | .ok .non s' => .ok (.ref s.length) e s'
  | .ex x s' => .ex x e s'
  | _ => .st
def dMake (C : Str) (f : DF) (dr : Den (List PV)) : DE := dr.bind fun ps => kMake C f ps
section
variable {k j : Nat} {X : Cx} {c : Cfg} {o e : Expr} {es : List Expr} {da de dobj : DE} {dr : Den (List PV)} {p pos pos' apos cpos : Pos} {C f m : Str} {fl ps : List Str} {df : DF}
theorem fld_ins {S : Stor} {q res : PV} (h : fldP C f S q = some res) : ∃ n fs, q = .ref n ∧ S[n]? = some (.ins C fs) ∧ fs.lookup f = some res := by
  unfold fldP at h
  split at h
  · split at h
    · rename_i hs
      split at h
      · rename_i hD; subst hD; exact ⟨_, _, rfl, hs, h⟩
      · cases h
    · cases h
  · cases h
theorem r_fld (hX : XOk k X c) (CL : ClOk X.K X.mg C fl) (hf : f ∈ fl) (he : PE X e (rE c da)) (hb : attributeBase e f X.env (eval e X.env) = eval e X.env := by rfl) : PE X (.Attribute e f pos) (rE c (d1 (fldP C f) da)) := by
  refine PE.weak (pe_fld he hb) fun σ H Q h => ?_
  refine rd_one (r := fun x H1 Q => ∃ a Ca dx fs v, x = V.ref a ∧ H1 a = some (.ins Ca dx fs) ∧ Cls X.K Ca ∧ NoAttr X.K Ca f ∧ fs.lookup f = some v ∧ Q v H1) hX ?_ h
  intro lk F m S H x p res Q R r h yl
  obtain ⟨Cb, g1, g2, g3⟩ := CL.ex
  obtain ⟨n, fs, rfl, hs, h⟩ := fld_ins h
  cases r with
  | ref hm =>
    obtain ⟨Ca, dx, vfs, h1, h2, h3⟩ := R.sto _ _ _ hm hs
    cases g1.symm.trans h1
    obtain ⟨v, h4, h5⟩ := h3.get h
    exact ⟨_, _, dx, vfs, v, rfl, h2, g2, g3 f hf, h4, yl.here h5⟩
theorem setF_inv {S S' : Stor} {o p : PV} (h : setF C f S o p = some S') : ∃ n fs, o = .ref n ∧ S[n]? = some (.ins C fs) ∧ fs.length < 1000 ∧ S' = S.set n (.ins C (putFP f p fs)) := by
  unfold setF at h
  split at h
  · split at h
    · rename_i hs
      split at h
      · rename_i hD; obtain ⟨rfl, hl⟩ := hD; cases h; exact ⟨_, _, rfl, hs, hl, rfl⟩
      · cases h
    · cases h
  · cases h
theorem k_setF (hX : XOk k X c) (CL : ClOk X.K X.mg C fl) (hf : f ∈ fl) (ho : PE X o (rE c dobj)) (he : PE X e (rE c de)) (hs : swapsWith e (some (.Attribute o f pos')) pos.line X.env = pure false := by rfl) :
    PS X (.Assign [.Attribute o f pos'] e pos) (rS c (sSetF C f dobj de)) := by
  refine PS.weak (ps_fld ho he hs) fun D σ H ⟨F, m, h⟩ => ?_
  obtain ⟨K, mg, F0, m0, H0, lk, W⟩ := c
  obtain rfl := hX.K
  obtain rfl := hX.mg
  refine (sE_of h).imp fun v H1 ⟨F1, m1, p, _, _, q1, h⟩ => ?_
  refine (sE_of h).imp fun w H2 ⟨F2, m2, p2, s2, t2, q2, env, S, r, h⟩ => ?_
  obtain ⟨Cb, g1, g2, g3⟩ := CL.ex
  dsimp only at h
  cases e1 : setF C f S p2 p with
  | none => rw [e1] at h; exact h.elim
  | some S' =>
    rw [e1] at h
    obtain ⟨n, fs, rfl, hs, hl, rfl⟩ := setF_inv e1
    cases q2 with
    | ref hm =>
      obtain ⟨Ca, dx, vfs, h1, h2, h3⟩ := r.r0.sto _ _ _ hm hs
      cases g1.symm.trans h1
      refine ⟨_, _, dx, vfs, rfl, h2, g2, g3 f hf, by rw [h3.len]; exact hl, ?_⟩
      exact h F2 m2 σ _ (r.upd_sto hm ⟨_, dx, _, g1, upd_same, h3.put (q1.mono s2 t2)⟩) (Same.refl _) (List.prefix_refl _)
theorem lstB_inv {S : Stor} {o : PV} (h : lstB S o = true) : ∃ n xs, o = .ref n ∧ S[n]? = some (.lst xs) := by
  unfold lstB at h
  split at h
  · split at h
    · rename_i hs; exact ⟨_, _, rfl, hs⟩
    · cases h
  · cases h
theorem appS_inv {S S' : Stor} {n : Nat} {p : PV} (h : appS S (.ref n) p = some S') : ∃ xs, S[n]? = some (.lst xs) ∧ xs.length < sizeLine ∧ S' = S.set n (.lst (xs ++ [p])) := by
  unfold appS at h
  dsimp only at h
  split at h
  · rename_i hs
    split at h
    · rename_i hl; cases h; exact ⟨_, hs, hl, rfl⟩
    · cases h
  · cases h
theorem k_appR (hX : XOk k X c) (ho : PE X o (rE c dobj)) (ha : PE X e (rE c da)) (hs : swapsWith (.Call (.Attribute o "append" apos) [e] [] cpos) none pos.line X.env = pure false := by rfl)
    (hpe : ∀ {t u : TE}, PE X o t → PE X e u → PE X (.Call (.Attribute o "append" apos) [e] [] cpos) (tBM X.K "list" rAppend t (tCons u tNil)) := by exact fun h1 h2 => pe_bm PySem.F.plainAttrs_list PySem.F.slot_list_append PySem.F.type_list_append mt_append h1 (pa_cons h2 pa_nil)) :
    PS X (.Expr (.Call (.Attribute o "append" apos) [e] [] cpos) pos) (rS c (sAppR dobj da)) := by
  refine PS.weak (ps_expr (hpe ho ha) hs) fun D σ H ⟨F, m, h⟩ => ?_
  refine (sE_of h).imp fun w H1 ⟨F1, m1, p, s1, t1, q1, env, S, r, h⟩ => ?_
  dsimp only at h
  split at h
  · rename_i hb
    obtain ⟨n, xs, rfl, hs⟩ := lstB_inv hb
    cases q1 with
    | ref hm =>
      obtain ⟨vs, h2, h3⟩ := r.r0.sto _ _ _ hm hs
      refine ⟨tyL h2, ?_⟩
      refine (sE_of (D := D) ⟨env, S, r, h⟩).imp fun v H2 ⟨F2, m2, p2, s2, t2, q2, env2, S2, r2, h⟩ => ?_
      dsimp only at h
      cases e1 : appS S2 (.ref n) p2 with
      | none => rw [e1] at h; exact h.elim
      | some S' =>
        rw [e1] at h
        obtain ⟨ys, hy, hl, rfl⟩ := appS_inv e1
        have hm2 := pre_get t2 hm
        obtain ⟨us, h4, h5⟩ := r2.r0.sto _ _ _ hm2 hy
        refine ⟨_, us, v, rfl, rfl, h4, by rw [h5.length]; exact hl, ?_⟩
        exact h F2 m2 σ _ (r2.upd_sto hm2 ⟨_, upd_same, h5.append (.cons q2 .nil)⟩) (Same.refl _) (List.prefix_refl _)
  · exact h.elim
/-- where a method may go on -/
structure MethOk (P : Program) (w : World) (K : PySem.W.Frag) (mg : Str → Option Value) (base : Heap) (k : Nat) (C m : Str) (ps : List Str) (f : DF) : Prop where
  len : ∀ pvs S, pvs.length ≠ ps.length → f pvs S = .st
  ex : ∃ (Ca a : Addr) (fd : FuncData), mg C = some (.ref Ca) ∧ Cls K Ca ∧ Meth K Ca m a ∧ Binds K fd ps [] ∧ FnOk P w K mg base (L2.CX P w) k a fd ps (spOf K mg ps.length f)
end
section
variable {k j : Nat} {X : Cx} {c : Cfg} {o e : Expr} {es : List Expr} {da de dobj : DE} {dr : Den (List PV)} {p pos pos' apos cpos : Pos} {C f m x : Str} {fl ps : List Str} {df : DF}
def tMethA (C : Addr) (m : Str) (sp : Sp) (E : St → XK) (ta : TE) (t : TA) : TE := fun σ H Q => ta σ H fun x H1 => ∃ a dx fs, x = .ref a ∧ H1 a = some (.ins C dx fs) ∧ fs.lookup m = none ∧ t σ H1 fun vs H2 => sp (x :: vs) H2 Q (E σ)
theorem pe_methA {CX : CXT} {Ca fa : Addr} {fd : FuncData} {sp : Sp} {E : St → XK} {ta : TE} {t : TA} {pl : Sem Bool} (he : PE X o ta) (cl : Cls X.K Ca) (hm : Meth X.K Ca m fa) (F : FnOk X.prog X.w X.K X.mg X.base CX k fa fd ps sp) (hr : Room k X.A) (hb : Binds X.K fd ps []) (hx : ∀ σ, PassesAt CX X σ (E σ)) (ha : PA X (e :: es) t)
    (hst : starEach (e :: es) X.env = (false, eval e X.env) :: starEach es X.env) (hpl : (backTo pos (starEach es X.env)).any (·.1) = false)
    (ht : eval (.Call (.Attribute o m apos) (e :: es) [] pos) X.env = (do let ov ← eval o X.env; standAt apos.atName; let (f, first) ← holding [ov] (getMethod ov m pl); callWith pos f first (backTo pos (starEach (e :: es) X.env)) (backToKw pos (keywordEach [] X.env)))) : PE X (.Call (.Attribute o m apos) (e :: es) [] pos) (tMethA Ca m sp E ta t) := by
  refine ⟨fun pins s σ H Q I h => PySem.W.methodCall_KW (pl := pl) (thn (he.run pins s σ H _ I h) fun u s1 ⟨x, H1, I1, rx, a, dx, fs, ex, ea, l, q⟩ => ?_) ht⟩
  subst ex
  obtain rfl : u = Value.ref a := rx
  exact getmeth_ok I1 ea cl hm l (PySem.W.callWith_K (first := [.ref a]) (h₀ := X.base) I1.ok.mod.kin hm.kp (thn (ha.run pos pins s1 σ H1 _ I1 q) fun us s2 ⟨vs, H2, I2, r, q2⟩ => ⟨I2.kIn, run_fnS (us := .ref a :: us) (vs := .ref a :: vs) F hr hb (hx σ) I2 (.cons rfl r) q2⟩) hst hpl)
theorem pe_methA0 {CX : CXT} {Ca fa : Addr} {fd : FuncData} {sp : Sp} {E : St → XK} {ta : TE} {pl : Sem Bool} (he : PE X o ta) (cl : Cls X.K Ca) (hm : Meth X.K Ca m fa) (F : FnOk X.prog X.w X.K X.mg X.base CX k fa fd ps sp) (hr : Room k X.A) (hb : Binds X.K fd ps []) (hx : ∀ σ, PassesAt CX X σ (E σ))
    (ht : eval (.Call (.Attribute o m apos) [] [] pos) X.env = (do let ov ← eval o X.env; standAt apos.atName; let (f, first) ← holding [ov] (getMethod ov m pl); callWith pos f first (backTo pos (starEach [] X.env)) (backToKw pos (keywordEach [] X.env)))) : PE X (.Call (.Attribute o m apos) [] [] pos) (tMethA Ca m sp E ta tNil) := by
  refine ⟨fun pins s σ H Q I h => PySem.W.methodCall_KW (pl := pl) (thn (he.run pins s σ H _ I h) fun u s1 ⟨x, H1, I1, rx, a, dx, fs, ex, ea, l, q⟩ => ?_) ht⟩
  subst ex
  obtain rfl : u = Value.ref a := rx
  exact getmeth_ok I1 ea cl hm l (PySem.W.callWith_K0 (first := [.ref a]) I1.kIn hm.kp (run_fnS (us := [.ref a]) (vs := [.ref a]) F hr hb (hx σ) I1 (.cons rfl .nil) q))
theorem insB_inv {S : Stor} {o : PV} (h : insB C m S o = true) : ∃ n fs, o = .ref n ∧ S[n]? = some (.ins C fs) ∧ fs.lookup m = none := by
  unfold insB at h
  split at h
  · split at h
    · rename_i hs
      simp only [Bool.and_eq_true, decide_eq_true_eq, Option.isNone_iff_eq_none] at h
      obtain ⟨rfl, h2⟩ := h
      exact ⟨_, _, rfl, hs, h2⟩
    · cases h
  · cases h
theorem meth_of (hX : XOk k X c) {Ca : Addr} (hC : X.mg C = some (.ref Ca)) (len : ∀ pvs S, pvs.length ≠ ps.length → df pvs S = .st) {σ : St} {H : Hp} {Q : VK} (h : rE c (dMeth C m df da dr) σ H Q) : tMethA Ca m (spOf X.K X.mg ps.length df) (WE c.W) (rE c da) (rA c dr) σ H Q := by
  obtain ⟨K, mg, F0, m0, H0, lk, W⟩ := c
  obtain rfl := hX.K
  obtain rfl := hX.mg
  obtain ⟨F, mm, h⟩ := h
  refine (rd_bind (R := fun K F m v p => Rep K F m v p) (R' := fun K F m v p => Rep K F m v p) h).imp fun w H1 ⟨F1, m1, p, s1, t1, q1, env, S, r, h⟩ => ?_
  dsimp only at h
  split at h
  · rename_i hb
    obtain ⟨n, fs, rfl, hs, hl⟩ := insB_inv hb
    cases q1 with
    | ref hm =>
      obtain ⟨Cb, dx, vfs, h1, h2, h3⟩ := r.r0.sto _ _ _ hm hs
      cases hC.symm.trans h1
      refine ⟨_, dx, vfs, rfl, h2, h3.no hl, ?_⟩
      refine (rd_bind (R := fun K F m v p => RepL K F m v p) (R' := fun K F m v p => Rep K F m v p) ⟨env, S, r, h⟩).imp fun vs H2 ⟨F2, m2, pvs, s2, t2, q2, env2, S2, r2, h⟩ => ?_
      have q3 : RepL X.K F2 m2 (.ref _ :: vs) (.ref n :: pvs) := .cons (.ref (pre_get t2 hm)) q2
      refine call_sp (c := ⟨X.K, X.mg, F0, m0, H0, lk, W⟩) ?_ r2 q3 h
      rw [q3.length]
      exact Decidable.byContradiction fun hne => by unfold kCall at h; rw [len _ S2 hne] at h; exact h
  · exact h.elim
theorem r_meth (hX : XOk k X c) (Mt : MethOk X.prog X.w X.K X.mg X.base j C m ps df) (hj : j ≤ k) (ho : PE X o (rE c da)) (ha : PA X (e :: es) (rA c dr)) {pl : Sem Bool}
    (hst : starEach (e :: es) X.env = (false, eval e X.env) :: starEach es X.env := by rfl) (hpl : (backTo pos (starEach es X.env)).any (·.1) = false := by rfl)
    (ht : eval (.Call (.Attribute o m apos) (e :: es) [] pos) X.env = (do let ov ← eval o X.env; standAt apos.atName; let (f, first) ← holding [ov] (getMethod ov m pl); callWith pos f first (backTo pos (starEach (e :: es) X.env)) (backToKw pos (keywordEach [] X.env))) := by rfl) :
    PE X (.Call (.Attribute o m apos) (e :: es) [] pos) (rE c (dMeth C m df da dr)) := by
  obtain ⟨Ca, a, fd, hC, cl, hm, hb, FO⟩ := Mt.ex
  exact PE.weak (pe_methA ho cl hm FO (hX.room.mono hj) hb (E := WE c.W) hX.pas ha hst hpl ht) fun σ H Q h => meth_of hX hC Mt.len h
theorem r_meth0 (hX : XOk k X c) (Mt : MethOk X.prog X.w X.K X.mg X.base j C m ps df) (hj : j ≤ k) (ho : PE X o (rE c da)) {pl : Sem Bool}
    (ht : eval (.Call (.Attribute o m apos) [] [] pos) X.env = (do let ov ← eval o X.env; standAt apos.atName; let (f, first) ← holding [ov] (getMethod ov m pl); callWith pos f first (backTo pos (starEach [] X.env)) (backToKw pos (keywordEach [] X.env))) := by rfl) :
    PE X (.Call (.Attribute o m apos) [] [] pos) (rE c (dMeth C m df da aNil)) := by
  obtain ⟨Ca, a, fd, hC, cl, hm, hb, FO⟩ := Mt.ex
  refine PE.weak (pe_methA0 ho cl hm FO (hX.room.mono hj) hb (E := WE c.W) hX.pas ht) fun σ H Q h => ?_
  refine (meth_of (dr := aNil) hX hC Mt.len h).imp fun x H1 ⟨a', dx, fs, e1, e2, e3, ⟨F1, m1, env, S, r, h4⟩⟩ => ⟨a', dx, fs, e1, e2, e3, h4 F1 m1 H1 _ r (Same.refl _) (List.prefix_refl _) .nil⟩
/-- a method of the text keeps the promise of its denotation -/
theorem mok {P : Program} {w : World} {K : PySem.W.Frag} {mg : Str → Option Value} {base : Heap} {x qual : Str} {st : Stmt} {Ca f : Addr} {fd : FuncData} {N ps : List Str} {k u : Nat} {b : DS} (F : Fun K x qual st f fd) (S : FnScope N ps (defScope st)) (hN : N.length = ps.length + u)
    (hC : mg C = some (.ref Ca)) (cl : Cls K Ca) (hm : Meth K Ca m f) (hb : Binds K fd ps [])
    (body : ∀ (cdv : Value) (A : Around) (outer : List PySem.Env) (s : Shared) (H : Hp) (E : XK) (c : Cfg), XOk k (cxOf (L2.CX P w) P w K mg base N qual (defScope st) f cdv A outer s H E) c →
      Takes (cxOf (L2.CX P w) P w K mg base N qual (defScope st) f cdv A outer s H E) c.W → PSs (cxOf (L2.CX P w) P w K mg base N qual (defScope st) f cdv A outer s H E) (defBody st) (rS c b)) :
    MethOk P w K mg base (k + 1) C m ps (dFun ps.length u b) := by
  refine ⟨fun pvs S h => by unfold dFun; rw [if_neg h], Ca, f, fd, hC, cl, hm, hb, F.okX S (fun vs H Q E h => h.1) fun cdv A outer s H vs Q E hr h => ?_⟩
  obtain ⟨hl, lk, Fz, mm, St, pvs, r, q, h⟩ := h
  have hlk := r.lkd
  have tk : Takes (cxOf (L2.CX P w) P w K mg base N qual (defScope st) f cdv A outer s H E) (fun cls d σ H' => E cls d H') := takes_of rfl rfl rfl rfl
  let c : Cfg := ⟨K, mg, Fz, mm, H, lk, fun cls d σ H' => E cls d H'⟩
  refine ⟨_, body cdv A outer s H E c ⟨rfl, rfl, rfl, S.nd, hr, fun σ => passAt tk σ⟩ tk, Fz, mm, _, St, rel_start r q (by rw [hl]; exact hN), ?_⟩
  unfold dFun at h
  rw [if_pos (by rw [← q.length]; exact hl)] at h
  have fz : ∀ {F' m' σ env S' H'}, Rel c F' m' σ env S' H' → (∀ a, F' a ≠ none → Fz a ≠ none ∨ IT H a) := fun r a ha => r.frn a ha
  have kp : ∀ {F' m' σ env S' H'}, Rel c F' m' σ env S' H' → (∀ a o, H a = some o → a ∉ mm → H' a = some o) := fun r a o e hn => has_exact hlk (r.old a o e hn) e
  cases e : b (pvs.map Slot.v ++ List.replicate u Slot.un) St with
  | st => rw [e] at h; exact h
  | nx env S' => rw [e] at h; exact fun F' m' σ H' r' s' p' => h F' m' H' .non r'.r0 s' p' (fz r') (fun a ha hn => r'.newm a ha hn) (kp r') .non
  | bk env S' => rw [e] at h; exact h.elim
  | ct env S' => rw [e] at h; exact h.elim
  | rt p env S' => rw [e] at h; exact fun F' m' σ H' v r' s' p' q' => h F' m' H' v r'.r0 s' p' (fz r') (fun a ha hn => r'.newm a ha hn) (kp r') q'
  | ex x env S' => rw [e] at h; exact fun F' m' σ H' cls d r' s' p' q' => h F' m' H' cls d r'.r0 s' p' (fz r') (fun a ha hn => r'.newm a ha hn) (kp r') q'
/-! ### the making -/
theorem run_makeA {CX : CXT} {Ca fa : Addr} {fd : FuncData} {sp : Sp} {E : XK} {pins : List (Addr × Obj)} {σ : L2.St} {H : Hp} {s : Shared} {Q : VK} {us : List Value} {vs : List V} (M : Mk X.K Ca fa) (F : FnOk X.prog X.w X.K X.mg X.base CX k fa fd ps sp) (hr : Room (k + 1) X.A)
    (hb : Binds X.K fd ps []) (hx : PassesAt CX X σ E) (I : Inv X pins σ H s) (r : Vals vs us)
    (h : ∀ y dx, H y = none → H dx = none → dx ≠ y → sp (.ref y :: vs) (upd (upd H dx (.own y)) y (.ins Ca dx [])) (fun v H2 => v = .non ∧ Q (.ref y) H2) E) : wpAny (model X.prog X.w) X.A (call (.ref Ca) us) (EP X pins σ Q) X.xe s := by
  have n0 := I.hok.fresh (Nat.le_refl s.heap.objs.size)
  have n1 := I.hok.fresh (Nat.le_succ s.heap.objs.size)
  have hq := h _ _ n1 n0 (Nat.ne_of_lt (Nat.lt_succ_self _))
  have J := Inv.made (C := Ca) I
  have rr : Vals (V.ref (s.heap.objs.size + 1) :: vs) (Value.ref (s.heap.objs.size + 1) :: us) := .cons rfl r
  have hl : (Value.ref (s.heap.objs.size + 1) :: us).length = ps.length := rr.length.symm.trans (F.len _ _ _ _ hq)
  have b := hb _ (Value.ref (s.heap.objs.size + 1) :: us) J.kIn (by rw [List.append_nil]; exact hl)
  rw [List.append_nil] at b
  refine wpAny_call (make_map (f := fa) I.kIn M.makes M.init (beq_iff_eq.mp M.fn) (codeAny_mono (F.run _ X.stack _ _ ⟨_ :: us, []⟩ _ _ _ E (hr.make Ca us []) (J.env0.make Ca us []) b rr hq) fun z s' hz => ?_))
  match z, hz with
  | .error e, hz => exact hx pins _ _ e s' J hz
  | .ok (.ret u), hz =>
    obtain ⟨v, H', I3, rv, ev, q3⟩ := J.after hz
    subst ev
    exact ⟨rv, ⟨V.ref (s.heap.objs.size + 1), H', I3, rfl, q3⟩⟩
  | .ok .next, hz => exact False.elim hz
  | .ok .brk, hz => exact False.elim hz
  | .ok .cont, hz => exact False.elim hz
/-- the class can be made: its __init__ -/
structure MakeOk (P : Program) (w : World) (K : PySem.W.Frag) (mg : Str → Option Value) (base : Heap) (k : Nat) (C : Str) (ps : List Str) (f : DF) : Prop where
  mo : MethOk P w K mg base k C "__init__" ps f
  made : ∀ Ca, mg C = some (.ref Ca) → PySem.W.makesIn K Ca = true ∧ PySem.W.keepIn K (.ref Ca) = true
theorem r_make (hX : XOk k X c) (Mt : MakeOk X.prog X.w X.K X.mg X.base j C ps df) (hj : j + 1 ≤ k) (hg : Gl X C) (ha : PA X (e :: es) (rA c dr)) (hdb : (C == ("__debug__" : Str)) = false := by decide)
    (he : starEach (e :: es) X.env = (false, eval e X.env) :: starEach es X.env := by rfl) (hpl : (backTo pos (starEach es X.env)).any (·.1) = false := by rfl) : PE X (.Call (.Name C p) (e :: es) [] pos) (rE c (dMake C df dr)) := by
  obtain ⟨Ca, a, fd, hC, cl, hm, hb, FO⟩ := Mt.mo.ex
  obtain ⟨k1, k2⟩ := Mt.made Ca hC
  have M : Mk X.K Ca a := ⟨k1, hm.at_, hm.fn, k2⟩
  have base : PE X (.Call (.Name C p) (e :: es) [] pos) (fun σ H Q => rA c dr σ H fun vs H1 => ∀ y dx, H1 y = none → H1 dx = none → dx ≠ y → spOf X.K X.mg ps.length df (.ref y :: vs) (upd (upd H1 dx (.own y)) y (.ins Ca dx [])) (fun v H2 => v = .non ∧ Q (.ref y) H2) (WE c.W σ)) :=
    ⟨fun pins s σ H Q I h => wpAny_Call_Name_kw (ld_glob I hg hC (PySem.W.callWith_K (h₀ := X.base) I.ok.mod.kin M.kp (thn (ha.run pos pins s σ H _ I h) fun us s1 ⟨vs, H1, I1, r, q⟩ => ⟨I1.kIn, run_makeA M FO (hX.room.mono hj) hb (hX.pas σ) I1 r q⟩) he hpl) hdb)⟩
  refine PE.weak base fun σ H Q h => ?_
  obtain ⟨K, mg, F0, m0, H0, lk, W⟩ := c
  obtain rfl := hX.K
  obtain rfl := hX.mg
  obtain ⟨F, mm, h⟩ := h
  refine (rd_bind (R := fun K F m v p => RepL K F m v p) (R' := fun K F m v p => Rep K F m v p) h).imp fun vs H1 ⟨F1, m1, pvs, s1, t1, q1, env, S, r, h⟩ => fun y dx ny nx ne => ?_
  unfold kMake at h
  have r1 := r.ext (Ext.raw (F := F1) (p := dx) (o := .own y) nx)
  have ny' : upd H1 dx (.own y) y = none := by rw [upd_ne ne.symm]; exact ny
  have r2 := r1.ext (Ext.raw (F := F1) (p := y) (o := .ins Ca dx []) ny')
  have f0 : F1 y = none := by
    cases q : F1 y with
    | none => rfl
    | some u => exact absurd ny (r.r0.fne y u q)
  have hnm : y ∉ m1 := fun hz => by
    obtain ⟨u, hu⟩ := r.r0.mem hz
    rw [ny] at hu; cases hu
  have hno : ∀ i, ¬ Own env σ i y := fun i ho => by
    obtain ⟨u, hu⟩ := r.own_there ho
    rw [ny] at hu; cases hu
  have r3 := r2.alloc (so := .ins C []) f0 hnm (r.free0 ny) hno ⟨Ca, dx, [], hC, upd_same, .nil⟩
  have hlen : m1.length = S.length := r.r0.len
  have q3 : RepL X.K F1 (m1 ++ [y]) (.ref y :: vs) (.ref S.length :: pvs) := .cons (.ref (by rw [← hlen, List.getElem?_append_right (Nat.le_refl _), Nat.sub_self]; rfl)) (q1.mono (Same.refl _) (List.prefix_append _ _))
  have at_ : ∀ m', m1 ++ [y] <+: m' → m'[S.length]? = some y := fun m' hp => pre_get hp (by rw [← hlen, List.getElem?_append_right (Nat.le_refl _), Nat.sub_self]; rfl)
  refine call_sp (c := ⟨X.K, X.mg, F0, m0, H0, lk, W⟩) (S := S ++ [.ins C []]) ?_ r3 q3 ?_
  · rw [q3.length]
    exact Decidable.byContradiction fun hne => by rw [Mt.mo.len _ _ hne] at h; exact h
  · cases e1 : df (.ref S.length :: pvs) (S ++ [.ins C []]) with
    | st => rw [e1] at h; exact h
    | ex z S' => rw [e1] at h; exact fun F' m' H cls d r s' p' => h F' m' H cls d r s' ((List.prefix_append _ _).trans p')
    | ok p S' =>
      rw [e1] at h
      cases p with
      | non => exact fun F' m' H v r s' p' q' => ⟨by cases q'; rfl, h F' m' H (.ref y) r s' ((List.prefix_append _ _).trans p') (.ref (at_ m' p'))⟩
      | _ => exact h.elim
end
/-! ### the plain side -/
section
variable {e : DEnv} {S : Stor} {Q : Out PV → Prop} {QS : OutS → Prop} {da db dobj : DE} {dr : Den (List PV)} {C f m : Str} {df : DF} {o p : PV} {ps : List PV} {n : Nat} {fs : List (Str × PV)} {xs : List PV}
def kMeth (C m : Str) (f : DF) (dr : Den (List PV)) (o : PV) : DE := fun e s => if insB C m s o then (dr.bind fun ps => kCall f (o :: ps)) e s else .st
theorem wp_meth : wp (dMeth C m df da dr) e S Q = wp da e S (bq (kMeth C m df dr) Q) := wp_bind
def kMethB (f : DF) (o : PV) (ps : List PV) : DE := kCall f (o :: ps)
theorem wp_methv (h : S[n]? = some (.ins C fs)) (hm : fs.lookup m = none) : wp (kMeth C m df dr (.ref n)) e S Q = wp dr e S (bq (kMethB df (.ref n)) Q) := by
  have : insB C m S (.ref n) = true := by unfold insB; dsimp only; rw [h]; simp [hm]
  unfold wp kMeth; rw [if_pos this]; exact wp_bind
theorem wp_methB : wp (kMethB df o ps) e S Q = wpF df (o :: ps) S (bqF e Q) := wp_callv
theorem fld_at (h : S[n]? = some (.ins C fs)) : fldP C f S (.ref n) = fs.lookup f := by
  unfold fldP; dsimp only; rw [h]; dsimp only; rw [if_pos rfl]
end
end Dn
end
section
set_option Elab.async false
set_option linter.all false
set_option maxRecDepth 100000
namespace Dn
noncomputable section
open PySem L2
def d_Editor_state : DF := dFun 1 0 (sRet (dCall d_state_of (aCons (d1 (fldP "Editor" "system") (dVar 0)) (aCons (d2 ixP (d1 (fldP "Editor" "rows") (dVar 0)) (d1 negP (dC (.int 1)))) aNil))))
def d_Editor_act : DF := dFun 2 1 (sSeq (sIf (dNotT (dTru (dCall d_is_operation (aCons (dVar 1) (aCons (d1 (fldP "Editor" "system") (dVar 0)) aNil))))) (sRaise "BadValue" "name" (dC (.str "operation"))) sNext)
  (sSeq (sSet 2 (dCall d_behind_v2 (aCons (d2 ixP (d1 (fldP "Editor" "rows") (dVar 0)) (d1 negP (dC (.int 1)))) (aCons (dVar 1) aNil))))
  (sSeq (sIf (dT (d2 geP (dN lenP (aCons (d1 (fldP "Editor" "operations") (dVar 0)) aNil)) (dC (.int 20)))) (sRaise "TooLarge" "what" (dC (.str "operations"))) sNext)
  (sSeq (sAppR (d1 (fldP "Editor" "rows") (dVar 0)) (dVar 2))
  (sSeq (sSetF "Editor" "operations" (dVar 0) (d2 addP (d1 (fldP "Editor" "operations") (dVar 0)) (dTup (aCons (dVar 1) aNil))))
  (sRet (dMeth "Editor" "state" d_Editor_state (dVar 0) aNil)))))))
def d_Editor___init__ : DF := dFun 2 0 (sSeq (sExpr (dCall d_check_system_v2 (aCons (dVar 1) aNil)))
  (sSeq (sSetF "Editor" "system" (dVar 0) (dVar 1))
  (sSeq (sSetF "Editor" "rows" (dVar 0) (dNew (lDisp (aCons (dTup aNil) aNil))))
  (sSetF "Editor" "operations" (dVar 0) (dTup aNil)))))
def d_Editor_check_entry : DF := dFun 2 0 (sSeq (sIf (dNotT (dTru (dCall d_is_whole (aCons (dVar 1) (aCons (dC (.int 0)) (aCons (d2 subP (dC (.int 16)) (dC (.int 1))) aNil)))))) (sRaise "BadValue" "name" (dC (.str "entry"))) sNext)
  (sIf (dT (d2 geP (dVar 1) (dN lenP (aCons (d2 ixP (d1 (fldP "Editor" "rows") (dVar 0)) (d1 negP (dC (.int 1)))) aNil)))) (sRaise "NotPossible" "why" (dC (.str "missing"))) sNext))
def d_Editor_without : DF := dFun 2 0 (sSeq (sExpr (dMeth "Editor" "check_entry" d_Editor_check_entry (dVar 0) (aCons (dVar 1) aNil)))
  (sRet (dCall d_state_without (aCons (d1 (fldP "Editor" "system") (dVar 0)) (aCons (d2 ixP (d1 (fldP "Editor" "rows") (dVar 0)) (d1 negP (dC (.int 1)))) (aCons (dVar 1) aNil))))))
def d_Editor_journal : DF := dFun 1 0 (sRet (d1 (fldP "Editor" "operations") (dVar 0)))
def d_Editor_is_revocable_v2 : DF := dFun 2 1 (sSeq (sSet 2 (dCall d_state_without (aCons (d1 (fldP "Editor" "system") (dVar 0)) (aCons (d2 ixP (d1 (fldP "Editor" "rows") (dVar 0)) (d1 negP (dC (.int 1)))) (aCons (dVar 1) aNil)))))
  (sRet (dAndV (d2 ixP (d2 ixP (d2 ixP (d1 (fldP "Editor" "rows") (dVar 0)) (d1 negP (dC (.int 1)))) (dVar 1)) (dC (.int 1))) (dCall d_determines (aCons (d1 (fldP "Editor" "system") (dVar 0)) (aCons (dMeth "Editor" "state" d_Editor_state (dVar 0) aNil) (aCons (dVar 2) aNil)))))))
def d_Editor_table_v2 : DF := dFun 2 1 (sSeq (sSet 2 (dMeth "Editor" "without" d_Editor_without (dVar 0) (aCons (dVar 1) aNil)))
  (sRet (dIf (dTru (dMeth "Editor" "is_revocable" d_Editor_is_revocable_v2 (dVar 0) (aCons (dVar 1) aNil))) (dN tupleP (aCons (dCall d_table_for (aCons (d1 (fldP "Editor" "system") (dVar 0)) (aCons (dMeth "Editor" "state" d_Editor_state (dVar 0) aNil) (aCons (dVar 2) aNil)))) aNil)) (dC .non))))
def d_replayed : DF := dFun 2 2 (sSeq (sSet 2 (dMake "Editor" d_Editor___init__ (aCons (dVar 0) aNil)))
  (sSeq (sIf (dOrT (dNotT (dTru (d1 (isiP "tuple") (dVar 1)))) (dT (d2 gtP (dN lenP (aCons (dVar 1) aNil)) (dC (.int 20))))) (sRaise "BadValue" "name" (dC (.str "journal"))) sNext)
  (sSeq (sIf (dNotT (dTru (dN allP (aCons (dLs (lComp [3] (dItS (dVar 1)) (tgN 3) tTrue (dCall d_is_operation (aCons (dVar 3) (aCons (dVar 0) aNil))))) aNil)))) (sRaise "BadValue" "name" (dC (.str "journal"))) sNext)
  (sSeq (sFor (dItS (dVar 1)) (tgN 3) (sExpr (dMeth "Editor" "act" d_Editor_act (dVar 2) (aCons (dVar 3) aNil))))
  (sRet (dVar 2))))))
end
end Dn
end
section
set_option Elab.async false
set_option linter.all false
set_option maxRecDepth 100000
set_option maxHeartbeats 1000000
namespace Dn
open PySem L2 PySem.Spec PyProof.Rows
/-! ### zip of a tuple and a list -/
def ztGo (K : PySem.W.Frag) (a b : Addr) (i : Nat) (H : Hp) : Prop := ∃ (xs ys : List V) (x y : V), xs[i]? = some x ∧ ys[i]? = some y ∧ SqT K H a xs ∧ SqL K H b ys
def ztYl (K : PySem.W.Frag) (a b : Addr) (i : Nat) (H : Hp) (v : V) (H2 : Hp) : Prop := ∃ (p : Addr) (x y : V), H p = none ∧ v = .ref p ∧ H2 = upd H p (.tup [x, y]) ∧ (∀ xs : List V, SqT K H a xs → xs[i]? = some x) ∧ ∀ ys : List V, SqL K H b ys → ys[i]? = some y
def ztSt (K : PySem.W.Frag) (a b : Addr) (i : Nat) (H : Hp) : Prop := ∃ xs ys : List V, i = min xs.length ys.length ∧ SqT K H a xs ∧ SqL K H b ys
def Itt (K : PySem.W.Frag) (a b : Addr) : It := ⟨ztGo K a b, ztYl K a b, ztSt K a b⟩
section
variable {k : Nat} {X : Cx} {c : Cfg} {e e2 : Expr} {de de2 : DE} {elts : List Expr} {kk : Nat} {tpos p pos : Pos}
end
/-! ### a slice of a list of the store -/
/-! ### try: b, except C: su, the exception without a name -/
def sTryN (cs : List (Str × Bool)) (b su : DS) : DS := fun e S => match b e S with
  | .ex x e1 S1 => match cs.lookup x.cls with
    | some true => su e1 S1
    | some false => .ex x e1 S1
    | none => .st
  | o => o
theorem k_tryN {k : Nat} {X : Cx} {c : Cfg} {C : Str} (cs : List (Str × Bool)) (fs : List Str) {body suite : List Stmt} {b₀ : Stmt} {np pos pos' : Pos} {b su : DS} (hX : XOk k X c) (tk : Takes X c.W) (HT : TryOk X.K X.mg C cs fs) (hg : Gl X C) (hs : X.stack = X.env :: X.outer) (hf : X.env.frame = some X.env.locals)
    (hb : ∀ (W : WX) (pn : List (Addr × Obj)) (xe : Value → Shared → Prop), XOk k (X.tr pn xe) { c with W := W } → Takes (X.tr pn xe) W → PSs (X.tr pn xe) body (rS { c with W := W } b))
    (hsu : ∀ (a : Addr) (oe : Obj) (pn : List (Addr × Obj)), PSs (X.suite a ((a, oe) :: pn)) (b₀ :: suite) (rS c su))
    (hdb : (C == ("__debug__" : Str)) = false := by decide) : PS X (.Try body [.ExceptHandler (some (.Name C np)) none (b₀ :: suite) pos'] [] [] pos) (rS c (sTryN cs b su)) := by
  obtain ⟨Ch, hm, hcs⟩ := HT.ex
  refine PS.weak (ps_try_only (Wout := c.W) (tb := fun W => rS { c with W := W } b) (ts := fun _ _ _ => rS c su) hs hf ⟨hg, hdb, .inl hm⟩ tk
    (fun W pn xe tk' _ => hb W pn xe ⟨hX.K, hX.mg, hX.calm, hX.nd, hX.room, fun σ => passAt tk' σ⟩ tk') fun a oe cls d pn _ _ => hsu a oe pn) fun D σ H ⟨F, m, env, S, r, h⟩ => ?_
  refine ⟨F, m, env, S, r.reW, ?_⟩
  unfold sTryN at h
  cases e : b env S with
  | st => rw [e] at h; exact h
  | nx e1 S1 => rw [e] at h; exact fun F' m' σ' H' r' s' p' => h F' m' σ' H' r'.unW s' p'
  | bk e1 S1 => rw [e] at h; exact fun F' m' σ' H' r' s' p' => h F' m' σ' H' r'.unW s' p'
  | ct e1 S1 => rw [e] at h; exact fun F' m' σ' H' r' s' p' => h F' m' σ' H' r'.unW s' p'
  | rt p e1 S1 => rw [e] at h; exact fun F' m' σ' H' v r' s' p' q' => h F' m' σ' H' v r'.unW s' p' q'
  | ex x e1 S1 =>
    rw [e] at h
    intro F1 m1 σ1 H1 cls d r1 s1 p1 hx
    have r1 := r1.unW
    dsimp only at h
    cases el : cs.lookup x.cls with
    | none => rw [el] at h; exact h.elim
    | some bb =>
      rw [el] at h
      obtain ⟨C', dd, vfs, rfl, hmx, rfl, hdd, rf⟩ := hx
      obtain ⟨C2, hm2, hex, hxf, hno⟩ := (hcs _ (lookup_mem el)).ex
      have eC : C2 = C' := by
        have z := hm2
        rw [hX.mg] at z
        rw [z] at hmx
        exact Value.ref.inj (Option.some.inj hmx)
      subst eC
      refine ⟨bb, hex, fun hb' a ha => ?_, fun hb' => ?_⟩
      · subst hb'
        exact ⟨F1, m1, e1, S1, r1, h.mono s1 p1⟩
      · subst hb'
        exact h F1 m1 σ1 H1 _ _ r1 s1 p1 ⟨C2, dd, vfs, rfl, hmx, rfl, hdd, rf⟩
end Dn
end
section
set_option Elab.async false
set_option linter.all false
set_option maxRecDepth 100000
namespace Dn
noncomputable section
open PySem L2
def d_entries_behind : DF := dFun 3 1 (sSeq (sIf (dOrT (dNotT (dTru (d1 (isiP "tuple") (dVar 2)))) (dOrT (dT (d2 neP (dN lenP (aCons (dVar 2) aNil)) (dC (.int 2)))) (dNotT (dTru (dCall d_is_operation (aCons (d2 ixP (dVar 2) (dC (.int 0))) (aCons (dVar 0) aNil))))))) (sRet (dC .non)) sNext)
  (sSeq (sTryN [("BadValue", false), ("NotPossible", true), ("TooLarge", false)] (sSet 3 (dCall d_behind_v2 (aCons (dVar 1) (aCons (d2 ixP (dVar 2) (dC (.int 0))) aNil)))) (sRet (dC .non)))
  (sRet (dIf (dAndT (dTru (dCall d_is_state (aCons (dVar 0) (aCons (d2 ixP (dVar 2) (dC (.int 1))) aNil)))) (dT (d2 eqP (d2 ixP (dVar 2) (dC (.int 1))) (dCall d_state_of (aCons (dVar 0) (aCons (dVar 3) aNil)))))) (dVar 3) (dC .non)))))
def d_are_right_v2 : DF := dFun 2 2 (sSeq (sExpr (dCall d_check_system_v2 (aCons (dVar 0) aNil)))
  (sSeq (sIf (dOrT (dNotT (dTru (d1 (isiP "tuple") (dVar 1)))) (dT (d2 gtP (dN lenP (aCons (dVar 1) aNil)) (dC (.int 20))))) (sRet (dC (.bl false))) sNext)
  (sSeq (sSet 2 (dTup aNil))
  (sSeq (sFor (dItS (dVar 1)) (tgN 3) (sSeq (sSet 2 (dCall d_entries_behind (aCons (dVar 0) (aCons (dVar 2) (aCons (dVar 3) aNil)))))
  (sIf (dT (d2 isNonP (dVar 2) (dC .non))) (sRet (dC (.bl false))) sNext)))
  (sRet (dC (.bl true)))))))
def d__law_told_v19 : DF := dFun 3 1 (sSeq (sTry [("BadValue", true), ("NotPossible", true), ("TooLarge", true)] 3 (sIf (dT (d2 eqP (dVar 0) (dC (.int 0)))) (sExpr (dMake "Editor" d_Editor___init__ (aCons (dVar 1) aNil))) (sIf (dT (d2 eqP (dVar 0) (dC (.int 1)))) (sExpr (dCall d_replayed (aCons (dVar 1) (aCons (dVar 2) aNil)))) (sIf (dT (d2 eqP (dVar 0) (dC (.int 2)))) (sExpr (dCall d_are_right_v2 (aCons (dVar 1) (aCons (dVar 2) aNil)))) (sIf (dT (d2 eqP (dVar 0) (dC (.int 3)))) (sExpr (dMeth "Editor" "act" d_Editor_act (dVar 1) (aCons (dVar 2) aNil))) (sIf (dT (d2 eqP (dVar 0) (dC (.int 4)))) (sExpr (dMeth "Editor" "without" d_Editor_without (dVar 1) (aCons (dVar 2) aNil))) (sExpr (dMeth "Editor" "table" d_Editor_table_v2 (dVar 1) (aCons (dVar 2) aNil)))))))) (fun x => (sSeq (sIf (dAndT (Den.opt (([("BadValue", true), ("NotPossible", false), ("TooLarge", false)] : List (Str × Bool)).lookup x.cls)) (Den.opt (([("BadValue", true), ("NotPossible", true), ("TooLarge", true)] : List (Str × Bool)).lookup x.cls))) (sRet (dXf x "name")) sNext) (sSeq (sIf (Den.opt (([("BadValue", false), ("NotPossible", true), ("TooLarge", false)] : List (Str × Bool)).lookup x.cls)) (sRet (dTup (aCons (dXf x "why") aNil))) sNext) (sSeq (sIf (Den.opt (([("BadValue", false), ("NotPossible", false), ("TooLarge", true)] : List (Str × Bool)).lookup x.cls)) (sRet (dLst (aCons (dXf x "what") aNil))) sNext) (sRet (dTup (aCons (dC (.str "other")) aNil))))))))
  (sRet (dC (.str ""))))
end
end Dn
end
section
set_option Elab.async false
set_option linter.all false
set_option maxRecDepth 100000
namespace Dn
noncomputable section
open PySem L2
def d_law_k78_s0 : DS := (sSet 1 (dCall d__law_stream (aCons (dVar 0) aNil)))
def d_law_k78_s1 : DS := (sSet 2 (dTup (aCons (dC (.int 3)) (aCons (dC (.int 0)) (aCons (dTup (aCons (dTup (aCons (dC (.int 1)) (aCons (dC (.int 2)) (aCons (dC (.int 0)) aNil)))) (aCons (dTup (aCons (dC (.int 0)) (aCons (dC (.int 2)) (aCons (dC (.int 1)) aNil)))) aNil))) aNil)))))
def d_law_k78_s2 : DS := (sSet 3 (dLst (aCons (dC .non) (aCons (dN listP (aCons (dVar 2) aNil)) (aCons (dSl (dVar 2) oNo (oSome (dC (.int 2)))) (aCons (dTup (aCons (dC (.int 0)) (aCons (dC (.int 0)) (aCons (dTup aNil) aNil)))) (aCons (dTup (aCons (dC (.int 9)) (aCons (dC (.int 0)) (aCons (dTup aNil) aNil)))) (aCons (dTup (aCons (dC (.int 3)) (aCons (dC (.int 3)) (aCons (dTup aNil) aNil)))) (aCons (dTup (aCons (dC (.bl true)) (aCons (dC (.int 0)) (aCons (dTup aNil) aNil)))) (aCons (dTup (aCons (dC (.int 3)) (aCons (dC (.int 0)) (aCons (dLst (aCons (dTup (aCons (dC (.int 0)) (aCons (dC (.int 1)) (aCons (dC (.int 2)) aNil)))) aNil)) aNil)))) aNil))))))))))
def d_law_k78_s3 : DS := (sSet 3 (d2 addP (dVar 3) (dLst (aCons (dTup (aCons (dC (.int 3)) (aCons (dC (.int 0)) (aCons (dTup (aCons (dTup (aCons (dC (.int 0)) (aCons (dC (.int 1)) aNil))) aNil)) aNil)))) (aCons (dTup (aCons (dC (.int 3)) (aCons (dC (.int 0)) (aCons (dTup (aCons (dTup (aCons (dC (.int 0)) (aCons (dC (.int 1)) (aCons (dC (.int 3)) aNil)))) aNil)) aNil)))) (aCons (dTup (aCons (dC (.int 3)) (aCons (dC (.int 0)) (aCons (dTup (aCons (dTup (aCons (dC (.int 0)) (aCons (dC (.int 1)) (aCons (dC (.bl true)) aNil)))) aNil)) aNil)))) (aCons (dTup (aCons (dC (.int 2)) (aCons (dC (.int 0)) (aCons (d2 mulP' (dTup (aCons (dTup (aCons (dC (.int 0)) (aCons (dC (.int 1)) aNil))) aNil)) (dC (.int 5))) aNil)))) aNil)))))))
def d_law_k78_s4 : DS := (sSet 4 (d2 ixP (dVar 3) (dCall d__law_next (aCons (dVar 1) (aCons (dC (.int 12)) aNil)))))
def d_law_k78_s5 : DS := (sSet 5 (dLst (aCons (dC .non) (aCons (dTup aNil) (aCons (dTup (aCons (dC (.str "execute")) aNil)) (aCons (dTup (aCons (dC (.str "execute")) (aCons (dC (.int 2)) aNil))) (aCons (dTup (aCons (dC (.str "execute")) (aCons (d1 negP (dC (.int 1))) aNil))) (aCons (dTup (aCons (dC (.str "execute")) (aCons (dC (.bl true)) aNil))) (aCons (dTup (aCons (dC (.str "execute")) (aCons (dC .non) aNil))) (aCons (dTup (aCons (dC (.str "execute")) (aCons (dC (.int 0)) (aCons (dC (.int 0)) aNil)))) (aCons (dLst (aCons (dC (.str "execute")) (aCons (dC (.int 0)) aNil))) (aCons (dC (.str "execute")) aNil))))))))))))
def d_law_k78_s6 : DS := (sSet 5 (d2 addP (dVar 5) (dLst (aCons (dTup (aCons (dC (.str "revoke")) aNil)) (aCons (dTup (aCons (dC (.str "revoke")) (aCons (dC (.int 16)) aNil))) (aCons (dTup (aCons (dC (.str "revoke")) (aCons (d1 negP (dC (.int 1))) aNil))) (aCons (dTup (aCons (dC (.str "revoke")) (aCons (dC (.bl false)) aNil))) (aCons (dTup (aCons (dC (.str "restore")) (aCons (dC (.int 16)) aNil))) (aCons (dTup (aCons (dC (.str "restore")) (aCons (dC (.str "0")) aNil))) (aCons (dTup (aCons (dC (.str "Execute")) (aCons (dC (.int 0)) aNil))) (aCons (dTup (aCons (dC .non) (aCons (dC (.int 0)) aNil))) aNil)))))))))))
def d_law_k78_s7 : DS := (sSet 6 (d2 ixP (dVar 5) (dCall d__law_next (aCons (dVar 1) (aCons (dC (.int 18)) aNil)))))
def d_law_k78_s8 : DS := (sSet 7 (dTup (aCons (dC (.str "execute")) (aCons (dC (.int 0)) aNil))))
def d_law_k78_s9 : DS := (sSet 8 (d2 ixP (dLst (aCons (dC .non) (aCons (dLst (aCons (dVar 7) aNil)) (aCons (dTup (aCons (dVar 7) (aCons (dVar 6) (aCons (dVar 7) aNil)))) (aCons (dTup (aCons (dVar 6) aNil)) (aCons (dTup (aCons (dVar 7) (aCons (dVar 6) aNil))) (aCons (d2 mulP' (dTup (aCons (dVar 7) aNil)) (dC (.int 21))) aNil))))))) (dCall d__law_next (aCons (dVar 1) (aCons (dC (.int 6)) aNil)))))
def d_law_k78_s10 : DS := (sFor (dItR (dC (.int 3))) (tgN 9) (sIf (dOrT (dT (d2 neP (dCall d__law_told_v19 (aCons (dVar 9) (aCons (dVar 4) (aCons (dVar 8) aNil)))) (dC (.str "system")))) (dOrT (dT (d2 neP (dCall d__law_told_v19 (aCons (dVar 9) (aCons (dVar 4) (aCons (dTup aNil) aNil)))) (dC (.str "system")))) (dT (d2 neP (dCall d__law_told_v19 (aCons (dVar 9) (aCons (dVar 2) (aCons (dTup aNil) aNil)))) (dC (.str "")))))) (sRet (dC (.bl false))) sNext))
def d_law_k78_s11 : DS := (sIf (dOrT (dT (d2 neP (dCall d__law_told_v19 (aCons (dC (.int 1)) (aCons (dVar 2) (aCons (dVar 8) aNil)))) (dC (.str "journal")))) (dOrT (dT (d2 neP (dCall d__law_told_v19 (aCons (dC (.int 1)) (aCons (dVar 2) (aCons (d2 mulP' (dTup (aCons (dVar 7) aNil)) (dC (.int 16))) aNil)))) (dC (.str "")))) (dT (d2 neP (dCall d__law_told_v19 (aCons (dC (.int 1)) (aCons (dVar 2) (aCons (d2 mulP' (dTup (aCons (dVar 7) aNil)) (dC (.int 17))) aNil)))) (dTup (aCons (dC (.str "full")) aNil)))))) (sRet (dC (.bl false))) sNext)
def d_law_k78_s12 : DS := (sSet 10 (dMake "Editor" d_Editor___init__ (aCons (dVar 2) aNil)))
def d_law_k78_s13 : DS := (sSet 11 (d2 ixP (dLst (aCons (d1 negP (dC (.int 1))) (aCons (dC (.int 16)) (aCons (dC (.bl true)) (aCons (dC .non) (aCons (dC (.str "0")) aNil)))))) (dCall d__law_next (aCons (dVar 1) (aCons (dC (.int 5)) aNil)))))
def d_law_k78_s14 : DS := (sFor (dItS (dLst (aCons (dC (.int 4)) (aCons (dC (.int 5)) aNil)))) (tgN 9) (sIf (dOrT (dT (d2 neP (dCall d__law_told_v19 (aCons (dVar 9) (aCons (dVar 10) (aCons (dVar 11) aNil)))) (dC (.str "entry")))) (dT (d2 neP (dCall d__law_told_v19 (aCons (dVar 9) (aCons (dVar 10) (aCons (dC (.int 0)) aNil)))) (dTup (aCons (dC (.str "missing")) aNil))))) (sRet (dC (.bl false))) sNext))
def d_law_k78_s15 : DS := (sIf (dOrT (dT (d2 neP (dCall d__law_told_v19 (aCons (dC (.int 3)) (aCons (dVar 10) (aCons (dVar 6) aNil)))) (dC (.str "operation")))) (dOrT (dT (d2 neP (dCall d__law_told_v19 (aCons (dC (.int 3)) (aCons (dVar 10) (aCons (dTup (aCons (dC (.str "restore")) (aCons (dC (.int 15)) aNil))) aNil)))) (dTup (aCons (dC (.str "missing")) aNil)))) (dT (d2 neP (dMeth "Editor" "journal" d_Editor_journal (dVar 10) aNil) (dTup aNil))))) (sRet (dC (.bl false))) sNext)
def d_law_k78_s16 : DS := (sFor (dItR (dC (.int 16))) (tgN 12) (sIf (dOrT (dT (d2 neP (dCall d__law_told_v19 (aCons (dC (.int 3)) (aCons (dVar 10) (aCons (dVar 7) aNil)))) (dC (.str "")))) (dT (d2 neP (dCall d__law_told_v19 (aCons (dC (.int 3)) (aCons (dVar 10) (aCons (dVar 6) aNil)))) (dC (.str "operation"))))) (sRet (dC (.bl false))) sNext))
def d_law_k78_s17 : DS := (sIf (dOrT (dT (d2 neP (dCall d__law_told_v19 (aCons (dC (.int 3)) (aCons (dVar 10) (aCons (dTup (aCons (dC (.str "execute")) (aCons (dC (.int 1)) aNil))) aNil)))) (dTup (aCons (dC (.str "full")) aNil)))) (dOrT (dT (d2 neP (dCall d__law_told_v19 (aCons (dC (.int 3)) (aCons (dVar 10) (aCons (dTup (aCons (dC (.str "restore")) (aCons (dC (.int 3)) aNil))) aNil)))) (dTup (aCons (dC (.str "effect")) aNil)))) (dT (d2 neP (dMeth "Editor" "state" d_Editor_state (dVar 10) aNil) (dC (.int 1)))))) (sRet (dC (.bl false))) sNext)
def d_law_k78_s18 : DS := (sIf (dOrT (dT (d2 neP (dMeth "Editor" "act" d_Editor_act (dVar 10) (aCons (dTup (aCons (dC (.str "revoke")) (aCons (dC (.int 15)) aNil))) aNil)) (dC (.int 0)))) (dOrT (dT (d2 neP (dCall d__law_told_v19 (aCons (dC (.int 3)) (aCons (dVar 10) (aCons (dTup (aCons (dC (.str "revoke")) (aCons (dC (.int 15)) aNil))) aNil)))) (dTup (aCons (dC (.str "revoked")) aNil)))) (dOrT (dT (d2 neP (dMeth "Editor" "act" d_Editor_act (dVar 10) (aCons (dTup (aCons (dC (.str "revoke")) (aCons (dC (.int 0)) aNil))) aNil)) (dC (.int 2)))) (dT (d2 neP (dMeth "Editor" "act" d_Editor_act (dVar 10) (aCons (dTup (aCons (dC (.str "restore")) (aCons (dC (.int 15)) aNil))) aNil)) (dC (.int 0))))))) (sRet (dC (.bl false))) sNext)
def d_law_k78_s19 : DS := (sIf (dOrT (dT (d2 neP (dMeth "Editor" "act" d_Editor_act (dVar 10) (aCons (dTup (aCons (dC (.str "restore")) (aCons (dC (.int 0)) aNil))) aNil)) (dC (.int 1)))) (dOrT (dT (d2 neP (dN lenP (aCons (dMeth "Editor" "journal" d_Editor_journal (dVar 10) aNil) aNil)) (dC (.int 20)))) (dT (d2 neP (dCall d__law_told_v19 (aCons (dC (.int 3)) (aCons (dVar 10) (aCons (dTup (aCons (dC (.str "revoke")) (aCons (dC (.int 1)) aNil))) aNil)))) (dLst (aCons (dC (.str "operations")) aNil)))))) (sRet (dC (.bl false))) sNext)
def d_law_k78_s20 : DS := (sIf (dOrT (dT (d2 neP (dCall d__law_told_v19 (aCons (dC (.int 3)) (aCons (dVar 10) (aCons (dVar 7) aNil)))) (dTup (aCons (dC (.str "full")) aNil)))) (dOrT (dT (d2 neP (dCall d__law_told_v19 (aCons (dC (.int 3)) (aCons (dVar 10) (aCons (dTup (aCons (dC (.str "restore")) (aCons (dC (.int 1)) aNil))) aNil)))) (dTup (aCons (dC (.str "effect")) aNil)))) (dOrT (dT (d2 neP (dCall d__law_told_v19 (aCons (dC (.int 3)) (aCons (dVar 10) (aCons (dVar 6) aNil)))) (dC (.str "operation")))) (dT (d2 neP (dN lenP (aCons (dMeth "Editor" "journal" d_Editor_journal (dVar 10) aNil) aNil)) (dC (.int 20))))))) (sRet (dC (.bl false))) sNext)
def d_law_k78_s21 : DS := (sIf (dOrT (dT (d2 neP (dCall d__law_told_v19 (aCons (dC (.int 4)) (aCons (dVar 10) (aCons (dC (.int 15)) aNil)))) (dC (.str "")))) (dOrT (dT (d2 neP (dCall d__law_told_v19 (aCons (dC (.int 5)) (aCons (dVar 10) (aCons (dC (.int 15)) aNil)))) (dC (.str "")))) (dT (d2 neP (dCall d__law_told_v19 (aCons (dC (.int 4)) (aCons (dVar 10) (aCons (dVar 11) aNil)))) (dC (.str "entry")))))) (sRet (dC (.bl false))) sNext)
def d_law_k78_s22 : DS := (sSet 13 (dTup (aCons (dVar 7) (aCons (dC (.int 1)) aNil))))
def d_law_k78_s23 : DS := (sSet 14 (dTup (aCons (dTup (aCons (dTup (aCons (dC (.str "revoke")) (aCons (dC (.int 0)) aNil))) (aCons (dC (.int 0)) aNil))) (aCons (dTup (aCons (dTup (aCons (dC (.str "restore")) (aCons (dC (.int 0)) aNil))) (aCons (dC (.int 1)) aNil))) aNil))))
def d_law_k78_s24 : DS := (sSet 15 (dLst (aCons (dC .non) (aCons (dLst aNil) (aCons (dTup (aCons (dC .non) aNil)) (aCons (dTup (aCons (dVar 7) aNil)) (aCons (dTup (aCons (dTup (aCons (dVar 6) (aCons (dC (.int 1)) aNil))) aNil)) (aCons (dTup (aCons (d2 addP (dVar 13) (dTup (aCons (dC (.int 0)) aNil))) aNil)) (aCons (dLst (aCons (dVar 13) aNil)) (aCons (dTup (aCons (dTup (aCons (dVar 7) (aCons (dC (.int 2)) aNil))) aNil)) (aCons (dTup (aCons (dTup (aCons (dVar 7) (aCons (dC (.bl true)) aNil))) aNil)) (aCons (dTup (aCons (dTup (aCons (dTup (aCons (dC (.str "revoke")) (aCons (dC (.int 0)) aNil))) (aCons (dC (.int 0)) aNil))) aNil)) (aCons (d2 addP (dTup (aCons (dVar 13) aNil)) (d2 mulP' (dVar 14) (dC (.int 10)))) aNil)))))))))))))
def d_law_k78_s25 : DS := (sIf (dNotT (dTru (dN allP (aCons (dLs (lComp [16] (dItS (dVar 15)) (tgN 16) tTrue (d2 isBlP (dCall d_are_right_v2 (aCons (dVar 2) (aCons (dVar 16) aNil))) (dC (.bl false))))) aNil)))) (sRet (dC (.bl false))) sNext)
def d_law_k78_s26 : DS := (sRet (dAndV (d2 isBlP (dCall d_are_right_v2 (aCons (dVar 2) (aCons (d2 addP (d2 addP (dTup (aCons (dVar 13) aNil)) (d2 mulP' (dVar 14) (dC (.int 9)))) (dSl (dVar 14) oNo (oSome (dC (.int 1))))) aNil))) (dC (.bl true))) (d2 isBlP (dCall d_are_right_v2 (aCons (dVar 2) (aCons (dTup aNil) aNil))) (dC (.bl true)))))
def d_law_k78_b26 : DS := d_law_k78_s26
def d_law_k78_b25 : DS := sSeq d_law_k78_s25 d_law_k78_b26
def d_law_k78_b24 : DS := sSeq d_law_k78_s24 d_law_k78_b25
def d_law_k78_b23 : DS := sSeq d_law_k78_s23 d_law_k78_b24
def d_law_k78_b22 : DS := sSeq d_law_k78_s22 d_law_k78_b23
def d_law_k78_b21 : DS := sSeq d_law_k78_s21 d_law_k78_b22
def d_law_k78_b20 : DS := sSeq d_law_k78_s20 d_law_k78_b21
def d_law_k78_b19 : DS := sSeq d_law_k78_s19 d_law_k78_b20
def d_law_k78_b18 : DS := sSeq d_law_k78_s18 d_law_k78_b19
def d_law_k78_b17 : DS := sSeq d_law_k78_s17 d_law_k78_b18
def d_law_k78_b16 : DS := sSeq d_law_k78_s16 d_law_k78_b17
def d_law_k78_b15 : DS := sSeq d_law_k78_s15 d_law_k78_b16
def d_law_k78_b14 : DS := sSeq d_law_k78_s14 d_law_k78_b15
def d_law_k78_b13 : DS := sSeq d_law_k78_s13 d_law_k78_b14
def d_law_k78_b12 : DS := sSeq d_law_k78_s12 d_law_k78_b13
def d_law_k78_b11 : DS := sSeq d_law_k78_s11 d_law_k78_b12
def d_law_k78_b10 : DS := sSeq d_law_k78_s10 d_law_k78_b11
def d_law_k78_b9 : DS := sSeq d_law_k78_s9 d_law_k78_b10
def d_law_k78_b8 : DS := sSeq d_law_k78_s8 d_law_k78_b9
def d_law_k78_b7 : DS := sSeq d_law_k78_s7 d_law_k78_b8
def d_law_k78_b6 : DS := sSeq d_law_k78_s6 d_law_k78_b7
def d_law_k78_b5 : DS := sSeq d_law_k78_s5 d_law_k78_b6
def d_law_k78_b4 : DS := sSeq d_law_k78_s4 d_law_k78_b5
def d_law_k78_b3 : DS := sSeq d_law_k78_s3 d_law_k78_b4
def d_law_k78_b2 : DS := sSeq d_law_k78_s2 d_law_k78_b3
def d_law_k78_b1 : DS := sSeq d_law_k78_s1 d_law_k78_b2
def d_law_k78_b0 : DS := sSeq d_law_k78_s0 d_law_k78_b1
def d_law_k78 : DF := dFun 1 16 d_law_k78_b0
end
end Dn
end
section
set_option Elab.async false
set_option linter.all false
set_option maxRecDepth 100000
set_option maxHeartbeats 1000000
namespace Dn
open PySem L2
/-! ### pairs of lists -/
inductive F2 {α β : Type} (G : α → β → Prop) : List α → List β → Prop
  | nil : F2 G [] []
  | cons {a : α} {b : β} {as : List α} {bs : List β} : G a b → F2 G as bs → F2 G (a :: as) (b :: bs)
theorem F2.len {α β : Type} {G : α → β → Prop} : ∀ {as : List α} {bs : List β}, F2 G as bs → bs.length = as.length
  | _, _, .nil => rfl
  | _, _, .cons _ h => by rw [List.length_cons, List.length_cons, h.len]
theorem F2.map {α β : Type} {f : α → β} : ∀ {as : List α} {bs : List β}, F2 (fun a b => b = f a) as bs → bs = as.map f
  | _, _, .nil => rfl
  | _, _, .cons h1 h => by rw [List.map_cons, h1, h.map]
theorem F2.enc {α β γ : Type} {f : γ → β} {P : γ → Prop} : ∀ {as : List α} {bs : List β}, F2 (fun _ b => ∃ x, b = f x ∧ P x) as bs → ∃ xs : List γ, bs = xs.map f ∧ xs.length = as.length ∧ ∀ x ∈ xs, P x
  | _, _, .nil => ⟨[], rfl, rfl, fun x h => nomatch h⟩
  | _, _, .cons ⟨x, h1, h2⟩ h => by
    obtain ⟨xs, h3, h4, h5⟩ := h.enc
    exact ⟨x :: xs, by rw [List.map_cons, h1, h3], by rw [List.length_cons, List.length_cons, h4], fun y hy => by
      rcases List.mem_cons.mp hy with rfl | hy
      · exact h2
      · exact h5 y hy⟩
/-! ### comprehensions -/
/-! ### the stream -/
/-- the stream is the first of the store -/
def SInv (R : Stor) (S : Stor) : Prop := ∃ (ns : List Int) (d i : Int), S = .lst [.lst (ns.map .int), .int d, .int i] :: R ∧ 0 ≤ d ∧ 0 ≤ i
theorem atI_ints {ns : List Int} {i : Int} (h0 : 0 ≤ i) (h : i < ns.length) : ∃ x, atI (ns.map PV.int) i = some (.int x) := by
  refine ⟨ns[i.toNat]'(by omega), ?_⟩
  rw [atI_in h0 (by rw [List.length_map]; exact h), List.getElem_map]
theorem mok1 (i : Int) : mulOk i 48271 = true := mulOk_r (by omega)
theorem mok2 (i : Int) : mulOk i 69621 = true := mulOk_r (by omega)
theorem mok3 (i : Int) : mulOk i 16807 = true := mulOk_r (by omega)
theorem mok4 (i : Int) : mulOk i 65537 = true := mulOk_r (by omega)
theorem wp_stream {ns : List Int} {Q : OutF → Prop} (hq : ∀ S', SInv [] S' → Q (.ok (.ref 0) S')) : wpF d__law_stream [.rol (ns.map .int)] [] Q := by
  unfold d__law_stream
  refine wpF_go rfl ?_
  simp only [List.map, List.replicate, List.cons_append, List.nil_append, List.length_cons, List.length_nil, Nat.reduceAdd, bq_ok, bq_ex, wp_pure, wp_fail, wp_getS, oQ_some, oQ_ite, bqS_ok, bqS_ex, wpS_seq, sqS_nx, sqS_rt, sqS_bk, sqS_ct, sqS_ex, wpS_next, wpS_break, wpS_cont, wpS_retN, wpS_setT, stQ_some, wp_C, wp_call, wp_callv, bqF_ok, bqF_ex, wp_new, wp_newv, fqS_nx, fqS_rt, fqS_ex, wpS_for, wp_comp, wp_dVar, vQ_v, vQ_o, List.getElem?_cons_zero, List.getElem?_cons_succ, List.set_cons_zero, List.set_cons_succ, wp_d1, wp_k1, wp_d2, wp_k2, wp_k2b, wp_dT, wp_kT, wp_dTru, wp_kTru, wp_dNotT, wp_kNot, wp_dAndT, wp_kAnd, wp_dOrT, wp_kOr, wp_dAndV, wp_kAndV, wp_kAndVb, wp_dOrV, wp_kOrV, wp_kOrVb, wp_dNotV, wp_kNotV, wp_kNotVb, wp_dIf, wp_kIf, wp_dChain, wp_kCh, wp_kCh2, wp_kCh3, wp_aNil, wp_aCons, wp_kCons, wp_kCons2, wp_dTup, wp_kTup, wp_dLst, wp_kLst, wp_dN, wp_kN, wp_dLs, wp_kLs, wp_lDisp, wp_kDisp, wp_lRng, wp_kRng, wp_dItR, wp_kItR, wp_dItS, wp_kItS, wp_tTrue, wp_oNo, wp_oSome, wp_kSome, wp_dSl, wp_kSl, wp_kSl1, wp_kSl2, ws_ret, ws_kRet, ws_expr, ws_kExpr, ws_if, ws_kIfS, ws_set, ws_kSet, ws_setO, ws_kSetO, ws_kSetT, ws_setR, ws_kSetR0, ws_kSetR1, ws_kSetR2, items_t, items_ft, items_l, items_r, setAll, Bool.not_true, Bool.not_false, if_true, ite_true, ite_false, ↓reduceIte, Bool.false_eq_true, Int.reduceLT, Int.reduceLE, Nat.reduceLT, Nat.reduceLeDiff, Nat.reducePow, Int.reducePow, Int.reduceToNat, Int.reduceNeg, Int.reduceSub, Int.reduceAdd, and_self, and_true, true_and, decide_eq_true_eq, decide_true, decide_false, List.length_map, ixN_31, ixN_32, ixN_30, wipeE, restE, lcQ, Option.getD_some, add_i, add_t, add_l, sub_i, mul_i, mul_t, mul_l, fdiv_i, mod_i, pow_18, neg_i, lt_i, le_i, gt_i, ge_i, eq_i, ne_i, eq_b, len_t, len_ft, len_l, len_r, abs_i, int_i, list_t, list_ft, list_l, list_r, tuple_t, tuple_ft, tuple_l, isi_i, isi_b, isi_s, isi_t, isi_ft, isi_l, isi_r, isi_n, tru_b, tru_i, tru_t, tru_ft, tru_l, tru_n, isN_n, isN_b, isN_i, isN_s, isN_t, isN_l, ix_t, ix_ft, ix_l, ix_r, ix_ref, setS_ref, atI_0, atI_1, atI_2, Option.map_some, Option.map_none, kb0, kb1, kb2, kb3, kb4, kb5, kb6, kb7, kb8, kb9, kb10, kb11, kb12, kb13, kb14, kb15, kb16, kb17, kb18, kb19, kb20, kb21, kb22, kb23, kb24, kb25, kb26, kb27, kb28, kb29, sz0, szl0, sz1, szl1, sz2, szl2, sz3, szl3, sz4, szl4, sz5, szl5, sz6, szl6, sz7, szl7, sz8, szl8, sz9, szl9, sz10, szl10, sz11, szl11, sz12, szl12, sz13, szl13, sz14, szl14, sz15, szl15, sz16, szl16, sz17, szl17, sz18, szl18, sz19, szl19, sz20, szl20, sz21, szl21, sz22, szl22, sz23, szl23, sz24, szl24, sz25, szl25, sz26, szl26, sz27, szl27, sz28, szl28, sz29, szl29, sz30, szl30, sz31, szl31, sz32, szl32, sz33, szl33, sz34, szl34, sz35, szl35, sz36, szl36, sz37, szl37, sz38, szl38, sz39, szl39, sz40, szl40]
  exact hq _ ⟨ns, 0, 0, rfl, by omega, by omega⟩
theorem wp_next {R S : Stor} {n : Int} {Q : OutF → Prop} (h : SInv R S) (h0 : 0 < n) (h1 : n < 1073741824) (hq : ∀ x S', 0 ≤ x → x < n → SInv R S' → Q (.ok (.int x) S')) : wpF d__law_next [.ref 0, .int n] S Q := by
  obtain ⟨ns, d, i, rfl, hd, hi⟩ := h
  unfold d__law_next
  refine wpF_go rfl ?_
  rw [wpS_seq]
  refine wpS_to (fun o => ∃ x y d' i', o = .nx [.v (.ref 0), .v (.int n), x, y, .un] (.lst [.lst (ns.map .int), .int d', .int i'] :: R) ∧ 0 ≤ d' ∧ 0 ≤ i') ?_ ?_
  · rw [ws_if]
    simp only [wp_dT, wp_d2, wp_dVar, wp_C, bq_ok, wp_k2, wp_k2b, wp_kT, List.map, List.replicate, List.cons_append, List.nil_append, List.getElem?_cons_zero, vQ_v, ix_ref, atI_1, oQ_some, eq_i, bqS_ok, ws_kIfS, decide_eq_true_eq, wpS_seq, wpS_next]
    by_cases hd0 : d = 0
    · rw [if_pos hd0]
      simp only [ws_set, wp_d2, wp_dVar, wp_C, bq_ok, wp_k2, wp_k2b, List.getElem?_cons_zero, List.getElem?_cons_succ, vQ_v, ix_ref, atI_2, oQ_some, bqS_ok, ws_kSet, sqS_nx, wpS_seq, List.set_cons_zero, List.set_cons_succ, add_i]
      refine wpS_to (fun o => ∃ y, o = .nx [.v (.ref 0), .v (.int n), .v (.int i), .v (.int y), .un] (.lst [.lst (ns.map .int), .int d, .int i] :: R) ∧ 0 ≤ y) ?_ ?_
      · simp only [List.map, List.replicate, List.cons_append, List.nil_append, List.length_cons, List.length_nil, Nat.reduceAdd, bq_ok, bq_ex, wp_pure, wp_fail, wp_getS, oQ_some, oQ_ite, bqS_ok, bqS_ex, wpS_seq, sqS_nx, sqS_rt, sqS_bk, sqS_ct, sqS_ex, wpS_next, wpS_break, wpS_cont, wpS_retN, wpS_setT, stQ_some, wp_C, wp_call, wp_callv, bqF_ok, bqF_ex, wp_new, wp_newv, fqS_nx, fqS_rt, fqS_ex, wpS_for, wp_comp, wp_dVar, vQ_v, vQ_o, List.getElem?_cons_zero, List.getElem?_cons_succ, List.set_cons_zero, List.set_cons_succ, wp_d1, wp_k1, wp_d2, wp_k2, wp_k2b, wp_dT, wp_kT, wp_dTru, wp_kTru, wp_dNotT, wp_kNot, wp_dAndT, wp_kAnd, wp_dOrT, wp_kOr, wp_dAndV, wp_kAndV, wp_kAndVb, wp_dOrV, wp_kOrV, wp_kOrVb, wp_dNotV, wp_kNotV, wp_kNotVb, wp_dIf, wp_kIf, wp_dChain, wp_kCh, wp_kCh2, wp_kCh3, wp_aNil, wp_aCons, wp_kCons, wp_kCons2, wp_dTup, wp_kTup, wp_dLst, wp_kLst, wp_dN, wp_kN, wp_dLs, wp_kLs, wp_lDisp, wp_kDisp, wp_lRng, wp_kRng, wp_dItR, wp_kItR, wp_dItS, wp_kItS, wp_tTrue, wp_oNo, wp_oSome, wp_kSome, wp_dSl, wp_kSl, wp_kSl1, wp_kSl2, ws_ret, ws_kRet, ws_expr, ws_kExpr, ws_if, ws_kIfS, ws_set, ws_kSet, ws_setO, ws_kSetO, ws_kSetT, ws_setR, ws_kSetR0, ws_kSetR1, ws_kSetR2, items_t, items_ft, items_l, items_r, setAll, Bool.not_true, Bool.not_false, if_true, ite_true, ite_false, ↓reduceIte, Bool.false_eq_true, Int.reduceLT, Int.reduceLE, Nat.reduceLT, Nat.reduceLeDiff, Nat.reducePow, Int.reducePow, Int.reduceToNat, Int.reduceNeg, Int.reduceSub, Int.reduceAdd, and_self, and_true, true_and, decide_eq_true_eq, decide_true, decide_false, List.length_map, ixN_31, ixN_32, ixN_30, wipeE, restE, lcQ, Option.getD_some, add_i, add_t, add_l, sub_i, mul_i, mul_t, mul_l, fdiv_i, mod_i, pow_18, neg_i, lt_i, le_i, gt_i, ge_i, eq_i, ne_i, eq_b, len_t, len_ft, len_l, len_r, abs_i, int_i, list_t, list_ft, list_l, list_r, tuple_t, tuple_ft, tuple_l, isi_i, isi_b, isi_s, isi_t, isi_ft, isi_l, isi_r, isi_n, tru_b, tru_i, tru_t, tru_ft, tru_l, tru_n, isN_n, isN_b, isN_i, isN_s, isN_t, isN_l, ix_t, ix_ft, ix_l, ix_r, ix_ref, setS_ref, atI_0, atI_1, atI_2, Option.map_some, Option.map_none, kb0, kb1, kb2, kb3, kb4, kb5, kb6, kb7, kb8, kb9, kb10, kb11, kb12, kb13, kb14, kb15, kb16, kb17, kb18, kb19, kb20, kb21, kb22, kb23, kb24, kb25, kb26, kb27, kb28, kb29, sz0, szl0, sz1, szl1, sz2, szl2, sz3, szl3, sz4, szl4, sz5, szl5, sz6, szl6, sz7, szl7, sz8, szl8, sz9, szl9, sz10, szl10, sz11, szl11, sz12, szl12, sz13, szl13, sz14, szl14, sz15, szl15, sz16, szl16, sz17, szl17, sz18, szl18, sz19, szl19, sz20, szl20, sz21, szl21, sz22, szl22, sz23, szl23, sz24, szl24, sz25, szl25, sz26, szl26, sz27, szl27, sz28, szl28, sz29, szl29, sz30, szl30, sz31, szl31, sz32, szl32, sz33, szl33, sz34, szl34, sz35, szl35, sz36, szl36, sz37, szl37, sz38, szl38, sz39, szl39, sz40, szl40]
        by_cases hl : i < ns.length
        · obtain ⟨x, hx⟩ := atI_ints hi hl
          simp only [List.map, List.replicate, List.cons_append, List.nil_append, List.length_cons, List.length_nil, Nat.reduceAdd, bq_ok, bq_ex, wp_pure, wp_fail, wp_getS, oQ_some, oQ_ite, bqS_ok, bqS_ex, wpS_seq, sqS_nx, sqS_rt, sqS_bk, sqS_ct, sqS_ex, wpS_next, wpS_break, wpS_cont, wpS_retN, wpS_setT, stQ_some, wp_C, wp_call, wp_callv, bqF_ok, bqF_ex, wp_new, wp_newv, fqS_nx, fqS_rt, fqS_ex, wpS_for, wp_comp, wp_dVar, vQ_v, vQ_o, List.getElem?_cons_zero, List.getElem?_cons_succ, List.set_cons_zero, List.set_cons_succ, wp_d1, wp_k1, wp_d2, wp_k2, wp_k2b, wp_dT, wp_kT, wp_dTru, wp_kTru, wp_dNotT, wp_kNot, wp_dAndT, wp_kAnd, wp_dOrT, wp_kOr, wp_dAndV, wp_kAndV, wp_kAndVb, wp_dOrV, wp_kOrV, wp_kOrVb, wp_dNotV, wp_kNotV, wp_kNotVb, wp_dIf, wp_kIf, wp_dChain, wp_kCh, wp_kCh2, wp_kCh3, wp_aNil, wp_aCons, wp_kCons, wp_kCons2, wp_dTup, wp_kTup, wp_dLst, wp_kLst, wp_dN, wp_kN, wp_dLs, wp_kLs, wp_lDisp, wp_kDisp, wp_lRng, wp_kRng, wp_dItR, wp_kItR, wp_dItS, wp_kItS, wp_tTrue, wp_oNo, wp_oSome, wp_kSome, wp_dSl, wp_kSl, wp_kSl1, wp_kSl2, ws_ret, ws_kRet, ws_expr, ws_kExpr, ws_if, ws_kIfS, ws_set, ws_kSet, ws_setO, ws_kSetO, ws_kSetT, ws_setR, ws_kSetR0, ws_kSetR1, ws_kSetR2, items_t, items_ft, items_l, items_r, setAll, Bool.not_true, Bool.not_false, if_true, ite_true, ite_false, ↓reduceIte, Bool.false_eq_true, Int.reduceLT, Int.reduceLE, Nat.reduceLT, Nat.reduceLeDiff, Nat.reducePow, Int.reducePow, Int.reduceToNat, Int.reduceNeg, Int.reduceSub, Int.reduceAdd, and_self, and_true, true_and, decide_eq_true_eq, decide_true, decide_false, List.length_map, ixN_31, ixN_32, ixN_30, wipeE, restE, lcQ, Option.getD_some, add_i, add_t, add_l, sub_i, mul_i, mul_t, mul_l, fdiv_i, mod_i, pow_18, neg_i, lt_i, le_i, gt_i, ge_i, eq_i, ne_i, eq_b, len_t, len_ft, len_l, len_r, abs_i, int_i, list_t, list_ft, list_l, list_r, tuple_t, tuple_ft, tuple_l, isi_i, isi_b, isi_s, isi_t, isi_ft, isi_l, isi_r, isi_n, tru_b, tru_i, tru_t, tru_ft, tru_l, tru_n, isN_n, isN_b, isN_i, isN_s, isN_t, isN_l, ix_t, ix_ft, ix_l, ix_r, ix_ref, setS_ref, atI_0, atI_1, atI_2, Option.map_some, Option.map_none, kb0, kb1, kb2, kb3, kb4, kb5, kb6, kb7, kb8, kb9, kb10, kb11, kb12, kb13, kb14, kb15, kb16, kb17, kb18, kb19, kb20, kb21, kb22, kb23, kb24, kb25, kb26, kb27, kb28, kb29, sz0, szl0, sz1, szl1, sz2, szl2, sz3, szl3, sz4, szl4, sz5, szl5, sz6, szl6, sz7, szl7, sz8, szl8, sz9, szl9, sz10, szl10, sz11, szl11, sz12, szl12, sz13, szl13, sz14, szl14, sz15, szl15, sz16, szl16, sz17, szl17, sz18, szl18, sz19, szl19, sz20, szl20, sz21, szl21, sz22, szl22, sz23, szl23, sz24, szl24, sz25, szl25, sz26, szl26, sz27, szl27, sz28, szl28, sz29, szl29, sz30, szl30, sz31, szl31, sz32, szl32, sz33, szl33, sz34, szl34, sz35, szl35, sz36, szl36, sz37, szl37, sz38, szl38, sz39, szl39, sz40, szl40, hl, hx]
          exact ⟨_, rfl, by split <;> omega⟩
        · simp only [List.map, List.replicate, List.cons_append, List.nil_append, List.length_cons, List.length_nil, Nat.reduceAdd, bq_ok, bq_ex, wp_pure, wp_fail, wp_getS, oQ_some, oQ_ite, bqS_ok, bqS_ex, wpS_seq, sqS_nx, sqS_rt, sqS_bk, sqS_ct, sqS_ex, wpS_next, wpS_break, wpS_cont, wpS_retN, wpS_setT, stQ_some, wp_C, wp_call, wp_callv, bqF_ok, bqF_ex, wp_new, wp_newv, fqS_nx, fqS_rt, fqS_ex, wpS_for, wp_comp, wp_dVar, vQ_v, vQ_o, List.getElem?_cons_zero, List.getElem?_cons_succ, List.set_cons_zero, List.set_cons_succ, wp_d1, wp_k1, wp_d2, wp_k2, wp_k2b, wp_dT, wp_kT, wp_dTru, wp_kTru, wp_dNotT, wp_kNot, wp_dAndT, wp_kAnd, wp_dOrT, wp_kOr, wp_dAndV, wp_kAndV, wp_kAndVb, wp_dOrV, wp_kOrV, wp_kOrVb, wp_dNotV, wp_kNotV, wp_kNotVb, wp_dIf, wp_kIf, wp_dChain, wp_kCh, wp_kCh2, wp_kCh3, wp_aNil, wp_aCons, wp_kCons, wp_kCons2, wp_dTup, wp_kTup, wp_dLst, wp_kLst, wp_dN, wp_kN, wp_dLs, wp_kLs, wp_lDisp, wp_kDisp, wp_lRng, wp_kRng, wp_dItR, wp_kItR, wp_dItS, wp_kItS, wp_tTrue, wp_oNo, wp_oSome, wp_kSome, wp_dSl, wp_kSl, wp_kSl1, wp_kSl2, ws_ret, ws_kRet, ws_expr, ws_kExpr, ws_if, ws_kIfS, ws_set, ws_kSet, ws_setO, ws_kSetO, ws_kSetT, ws_setR, ws_kSetR0, ws_kSetR1, ws_kSetR2, items_t, items_ft, items_l, items_r, setAll, Bool.not_true, Bool.not_false, if_true, ite_true, ite_false, ↓reduceIte, Bool.false_eq_true, Int.reduceLT, Int.reduceLE, Nat.reduceLT, Nat.reduceLeDiff, Nat.reducePow, Int.reducePow, Int.reduceToNat, Int.reduceNeg, Int.reduceSub, Int.reduceAdd, and_self, and_true, true_and, decide_eq_true_eq, decide_true, decide_false, List.length_map, ixN_31, ixN_32, ixN_30, wipeE, restE, lcQ, Option.getD_some, add_i, add_t, add_l, sub_i, mul_i, mul_t, mul_l, fdiv_i, mod_i, pow_18, neg_i, lt_i, le_i, gt_i, ge_i, eq_i, ne_i, eq_b, len_t, len_ft, len_l, len_r, abs_i, int_i, list_t, list_ft, list_l, list_r, tuple_t, tuple_ft, tuple_l, isi_i, isi_b, isi_s, isi_t, isi_ft, isi_l, isi_r, isi_n, tru_b, tru_i, tru_t, tru_ft, tru_l, tru_n, isN_n, isN_b, isN_i, isN_s, isN_t, isN_l, ix_t, ix_ft, ix_l, ix_r, ix_ref, setS_ref, atI_0, atI_1, atI_2, Option.map_some, Option.map_none, kb0, kb1, kb2, kb3, kb4, kb5, kb6, kb7, kb8, kb9, kb10, kb11, kb12, kb13, kb14, kb15, kb16, kb17, kb18, kb19, kb20, kb21, kb22, kb23, kb24, kb25, kb26, kb27, kb28, kb29, sz0, szl0, sz1, szl1, sz2, szl2, sz3, szl3, sz4, szl4, sz5, szl5, sz6, szl6, sz7, szl7, sz8, szl8, sz9, szl9, sz10, szl10, sz11, szl11, sz12, szl12, sz13, szl13, sz14, szl14, sz15, szl15, sz16, szl16, sz17, szl17, sz18, szl18, sz19, szl19, sz20, szl20, sz21, szl21, sz22, szl22, sz23, szl23, sz24, szl24, sz25, szl25, sz26, szl26, sz27, szl27, sz28, szl28, sz29, szl29, sz30, szl30, sz31, szl31, sz32, szl32, sz33, szl33, sz34, szl34, sz35, szl35, sz36, szl36, sz37, szl37, sz38, szl38, sz39, szl39, sz40, szl40, hl]
          exact ⟨_, rfl, by omega⟩
      · rintro o ⟨y, rfl, hy⟩
        rw [sqS_nx, wpS_seq]
        refine wpS_to (fun o => ∃ y, o = .nx [.v (.ref 0), .v (.int n), .v (.int i), .v (.int y), .un] (.lst [.lst (ns.map .int), .int d, .int i] :: R) ∧ 0 ≤ y) ?_ ?_
        · simp only [List.map, List.replicate, List.cons_append, List.nil_append, List.length_cons, List.length_nil, Nat.reduceAdd, bq_ok, bq_ex, wp_pure, wp_fail, wp_getS, oQ_some, oQ_ite, bqS_ok, bqS_ex, wpS_seq, sqS_nx, sqS_rt, sqS_bk, sqS_ct, sqS_ex, wpS_next, wpS_break, wpS_cont, wpS_retN, wpS_setT, stQ_some, wp_C, wp_call, wp_callv, bqF_ok, bqF_ex, wp_new, wp_newv, fqS_nx, fqS_rt, fqS_ex, wpS_for, wp_comp, wp_dVar, vQ_v, vQ_o, List.getElem?_cons_zero, List.getElem?_cons_succ, List.set_cons_zero, List.set_cons_succ, wp_d1, wp_k1, wp_d2, wp_k2, wp_k2b, wp_dT, wp_kT, wp_dTru, wp_kTru, wp_dNotT, wp_kNot, wp_dAndT, wp_kAnd, wp_dOrT, wp_kOr, wp_dAndV, wp_kAndV, wp_kAndVb, wp_dOrV, wp_kOrV, wp_kOrVb, wp_dNotV, wp_kNotV, wp_kNotVb, wp_dIf, wp_kIf, wp_dChain, wp_kCh, wp_kCh2, wp_kCh3, wp_aNil, wp_aCons, wp_kCons, wp_kCons2, wp_dTup, wp_kTup, wp_dLst, wp_kLst, wp_dN, wp_kN, wp_dLs, wp_kLs, wp_lDisp, wp_kDisp, wp_lRng, wp_kRng, wp_dItR, wp_kItR, wp_dItS, wp_kItS, wp_tTrue, wp_oNo, wp_oSome, wp_kSome, wp_dSl, wp_kSl, wp_kSl1, wp_kSl2, ws_ret, ws_kRet, ws_expr, ws_kExpr, ws_if, ws_kIfS, ws_set, ws_kSet, ws_setO, ws_kSetO, ws_kSetT, ws_setR, ws_kSetR0, ws_kSetR1, ws_kSetR2, items_t, items_ft, items_l, items_r, setAll, Bool.not_true, Bool.not_false, if_true, ite_true, ite_false, ↓reduceIte, Bool.false_eq_true, Int.reduceLT, Int.reduceLE, Nat.reduceLT, Nat.reduceLeDiff, Nat.reducePow, Int.reducePow, Int.reduceToNat, Int.reduceNeg, Int.reduceSub, Int.reduceAdd, and_self, and_true, true_and, decide_eq_true_eq, decide_true, decide_false, List.length_map, ixN_31, ixN_32, ixN_30, wipeE, restE, lcQ, Option.getD_some, add_i, add_t, add_l, sub_i, mul_i, mul_t, mul_l, fdiv_i, mod_i, pow_18, neg_i, lt_i, le_i, gt_i, ge_i, eq_i, ne_i, eq_b, len_t, len_ft, len_l, len_r, abs_i, int_i, list_t, list_ft, list_l, list_r, tuple_t, tuple_ft, tuple_l, isi_i, isi_b, isi_s, isi_t, isi_ft, isi_l, isi_r, isi_n, tru_b, tru_i, tru_t, tru_ft, tru_l, tru_n, isN_n, isN_b, isN_i, isN_s, isN_t, isN_l, ix_t, ix_ft, ix_l, ix_r, ix_ref, setS_ref, atI_0, atI_1, atI_2, Option.map_some, Option.map_none, kb0, kb1, kb2, kb3, kb4, kb5, kb6, kb7, kb8, kb9, kb10, kb11, kb12, kb13, kb14, kb15, kb16, kb17, kb18, kb19, kb20, kb21, kb22, kb23, kb24, kb25, kb26, kb27, kb28, kb29, sz0, szl0, sz1, szl1, sz2, szl2, sz3, szl3, sz4, szl4, sz5, szl5, sz6, szl6, sz7, szl7, sz8, szl8, sz9, szl9, sz10, szl10, sz11, szl11, sz12, szl12, sz13, szl13, sz14, szl14, sz15, szl15, sz16, szl16, sz17, szl17, sz18, szl18, sz19, szl19, sz20, szl20, sz21, szl21, sz22, szl22, sz23, szl23, sz24, szl24, sz25, szl25, sz26, szl26, sz27, szl27, sz28, szl28, sz29, szl29, sz30, szl30, sz31, szl31, sz32, szl32, sz33, szl33, sz34, szl34, sz35, szl35, sz36, szl36, sz37, szl37, sz38, szl38, sz39, szl39, sz40, szl40, mok1, mok2, mok3, mok4]
          split
          · exact ⟨_, rfl, by omega⟩
          · exact ⟨_, rfl, hy⟩
        · rintro o ⟨y, rfl, hy⟩
          simp only [List.map, List.replicate, List.cons_append, List.nil_append, List.length_cons, List.length_nil, Nat.reduceAdd, bq_ok, bq_ex, wp_pure, wp_fail, wp_getS, oQ_some, oQ_ite, bqS_ok, bqS_ex, wpS_seq, sqS_nx, sqS_rt, sqS_bk, sqS_ct, sqS_ex, wpS_next, wpS_break, wpS_cont, wpS_retN, wpS_setT, stQ_some, wp_C, wp_call, wp_callv, bqF_ok, bqF_ex, wp_new, wp_newv, fqS_nx, fqS_rt, fqS_ex, wpS_for, wp_comp, wp_dVar, vQ_v, vQ_o, List.getElem?_cons_zero, List.getElem?_cons_succ, List.set_cons_zero, List.set_cons_succ, wp_d1, wp_k1, wp_d2, wp_k2, wp_k2b, wp_dT, wp_kT, wp_dTru, wp_kTru, wp_dNotT, wp_kNot, wp_dAndT, wp_kAnd, wp_dOrT, wp_kOr, wp_dAndV, wp_kAndV, wp_kAndVb, wp_dOrV, wp_kOrV, wp_kOrVb, wp_dNotV, wp_kNotV, wp_kNotVb, wp_dIf, wp_kIf, wp_dChain, wp_kCh, wp_kCh2, wp_kCh3, wp_aNil, wp_aCons, wp_kCons, wp_kCons2, wp_dTup, wp_kTup, wp_dLst, wp_kLst, wp_dN, wp_kN, wp_dLs, wp_kLs, wp_lDisp, wp_kDisp, wp_lRng, wp_kRng, wp_dItR, wp_kItR, wp_dItS, wp_kItS, wp_tTrue, wp_oNo, wp_oSome, wp_kSome, wp_dSl, wp_kSl, wp_kSl1, wp_kSl2, ws_ret, ws_kRet, ws_expr, ws_kExpr, ws_if, ws_kIfS, ws_set, ws_kSet, ws_setO, ws_kSetO, ws_kSetT, ws_setR, ws_kSetR0, ws_kSetR1, ws_kSetR2, items_t, items_ft, items_l, items_r, setAll, Bool.not_true, Bool.not_false, if_true, ite_true, ite_false, ↓reduceIte, Bool.false_eq_true, Int.reduceLT, Int.reduceLE, Nat.reduceLT, Nat.reduceLeDiff, Nat.reducePow, Int.reducePow, Int.reduceToNat, Int.reduceNeg, Int.reduceSub, Int.reduceAdd, and_self, and_true, true_and, decide_eq_true_eq, decide_true, decide_false, List.length_map, ixN_31, ixN_32, ixN_30, wipeE, restE, lcQ, Option.getD_some, add_i, add_t, add_l, sub_i, mul_i, mul_t, mul_l, fdiv_i, mod_i, pow_18, neg_i, lt_i, le_i, gt_i, ge_i, eq_i, ne_i, eq_b, len_t, len_ft, len_l, len_r, abs_i, int_i, list_t, list_ft, list_l, list_r, tuple_t, tuple_ft, tuple_l, isi_i, isi_b, isi_s, isi_t, isi_ft, isi_l, isi_r, isi_n, tru_b, tru_i, tru_t, tru_ft, tru_l, tru_n, isN_n, isN_b, isN_i, isN_s, isN_t, isN_l, ix_t, ix_ft, ix_l, ix_r, ix_ref, setS_ref, atI_0, atI_1, atI_2, Option.map_some, Option.map_none, kb0, kb1, kb2, kb3, kb4, kb5, kb6, kb7, kb8, kb9, kb10, kb11, kb12, kb13, kb14, kb15, kb16, kb17, kb18, kb19, kb20, kb21, kb22, kb23, kb24, kb25, kb26, kb27, kb28, kb29, sz0, szl0, sz1, szl1, sz2, szl2, sz3, szl3, sz4, szl4, sz5, szl5, sz6, szl6, sz7, szl7, sz8, szl8, sz9, szl9, sz10, szl10, sz11, szl11, sz12, szl12, sz13, szl13, sz14, szl14, sz15, szl15, sz16, szl16, sz17, szl17, sz18, szl18, sz19, szl19, sz20, szl20, sz21, szl21, sz22, szl22, sz23, szl23, sz24, szl24, sz25, szl25, sz26, szl26, sz27, szl27, sz28, szl28, sz29, szl29, sz30, szl30, sz31, szl31, sz32, szl32, sz33, szl33, sz34, szl34, sz35, szl35, sz36, szl36, sz37, szl37, sz38, szl38, sz39, szl39, sz40, szl40]
          exact ⟨_, _, _, _, rfl, hy, by omega⟩
    · rw [if_neg hd0]
      exact ⟨_, _, d, i, rfl, hd, hi⟩
  · rintro o ⟨x, y, d', i', rfl, hd', hi'⟩
    simp only [List.map, List.replicate, List.cons_append, List.nil_append, List.length_cons, List.length_nil, Nat.reduceAdd, bq_ok, bq_ex, wp_pure, wp_fail, wp_getS, oQ_some, oQ_ite, bqS_ok, bqS_ex, wpS_seq, sqS_nx, sqS_rt, sqS_bk, sqS_ct, sqS_ex, wpS_next, wpS_break, wpS_cont, wpS_retN, wpS_setT, stQ_some, wp_C, wp_call, wp_callv, bqF_ok, bqF_ex, wp_new, wp_newv, fqS_nx, fqS_rt, fqS_ex, wpS_for, wp_comp, wp_dVar, vQ_v, vQ_o, List.getElem?_cons_zero, List.getElem?_cons_succ, List.set_cons_zero, List.set_cons_succ, wp_d1, wp_k1, wp_d2, wp_k2, wp_k2b, wp_dT, wp_kT, wp_dTru, wp_kTru, wp_dNotT, wp_kNot, wp_dAndT, wp_kAnd, wp_dOrT, wp_kOr, wp_dAndV, wp_kAndV, wp_kAndVb, wp_dOrV, wp_kOrV, wp_kOrVb, wp_dNotV, wp_kNotV, wp_kNotVb, wp_dIf, wp_kIf, wp_dChain, wp_kCh, wp_kCh2, wp_kCh3, wp_aNil, wp_aCons, wp_kCons, wp_kCons2, wp_dTup, wp_kTup, wp_dLst, wp_kLst, wp_dN, wp_kN, wp_dLs, wp_kLs, wp_lDisp, wp_kDisp, wp_lRng, wp_kRng, wp_dItR, wp_kItR, wp_dItS, wp_kItS, wp_tTrue, wp_oNo, wp_oSome, wp_kSome, wp_dSl, wp_kSl, wp_kSl1, wp_kSl2, ws_ret, ws_kRet, ws_expr, ws_kExpr, ws_if, ws_kIfS, ws_set, ws_kSet, ws_setO, ws_kSetO, ws_kSetT, ws_setR, ws_kSetR0, ws_kSetR1, ws_kSetR2, items_t, items_ft, items_l, items_r, setAll, Bool.not_true, Bool.not_false, if_true, ite_true, ite_false, ↓reduceIte, Bool.false_eq_true, Int.reduceLT, Int.reduceLE, Nat.reduceLT, Nat.reduceLeDiff, Nat.reducePow, Int.reducePow, Int.reduceToNat, Int.reduceNeg, Int.reduceSub, Int.reduceAdd, and_self, and_true, true_and, decide_eq_true_eq, decide_true, decide_false, List.length_map, ixN_31, ixN_32, ixN_30, wipeE, restE, lcQ, Option.getD_some, add_i, add_t, add_l, sub_i, mul_i, mul_t, mul_l, fdiv_i, mod_i, pow_18, neg_i, lt_i, le_i, gt_i, ge_i, eq_i, ne_i, eq_b, len_t, len_ft, len_l, len_r, abs_i, int_i, list_t, list_ft, list_l, list_r, tuple_t, tuple_ft, tuple_l, isi_i, isi_b, isi_s, isi_t, isi_ft, isi_l, isi_r, isi_n, tru_b, tru_i, tru_t, tru_ft, tru_l, tru_n, isN_n, isN_b, isN_i, isN_s, isN_t, isN_l, ix_t, ix_ft, ix_l, ix_r, ix_ref, setS_ref, atI_0, atI_1, atI_2, Option.map_some, Option.map_none, kb0, kb1, kb2, kb3, kb4, kb5, kb6, kb7, kb8, kb9, kb10, kb11, kb12, kb13, kb14, kb15, kb16, kb17, kb18, kb19, kb20, kb21, kb22, kb23, kb24, kb25, kb26, kb27, kb28, kb29, sz0, szl0, sz1, szl1, sz2, szl2, sz3, szl3, sz4, szl4, sz5, szl5, sz6, szl6, sz7, szl7, sz8, szl8, sz9, szl9, sz10, szl10, sz11, szl11, sz12, szl12, sz13, szl13, sz14, szl14, sz15, szl15, sz16, szl16, sz17, szl17, sz18, szl18, sz19, szl19, sz20, szl20, sz21, szl21, sz22, szl22, sz23, szl23, sz24, szl24, sz25, szl25, sz26, szl26, sz27, szl27, sz28, szl28, sz29, szl29, sz30, szl30, sz31, szl31, sz32, szl32, sz33, szl33, sz34, szl34, sz35, szl35, sz36, szl36, sz37, szl37, sz38, szl38, sz39, szl39, sz40, szl40, h0, h1]
    exact hq _ _ (Int.emod_nonneg _ (by omega)) (Int.emod_lt_of_pos _ h0) ⟨ns, d' / n, i', rfl, Int.ediv_nonneg hd' (by omega), hi'⟩
end Dn
end
section
set_option Elab.async false
set_option linter.all false
set_option maxRecDepth 100000
set_option maxHeartbeats 1000000
namespace Dn
open PySem L2
/-! ### systems -/
def encC (c : List Int) : PV := .tup (c.map .int)
def encS (n s : Int) (cs : List (List Int)) : PV := .tup [.int n, .int s, .tup (cs.map encC)]
def In (n x : Int) : Prop := 0 ≤ x ∧ x < n
structure GC (n : Int) (c : List Int) : Prop where
  len : (c.length : Int) = n
  mem : ∀ x ∈ c, In n x
structure GS (most mc : Int) (n s : Int) (cs : List (List Int)) : Prop where
  lo : 1 ≤ n
  hi : n ≤ most
  st : In n s
  len : (cs.length : Int) ≤ mc
  mem : ∀ c ∈ cs, GC n c
end Dn
end
section
set_option Elab.async false
set_option linter.all false
set_option maxRecDepth 100000
set_option maxHeartbeats 1000000
namespace Dn
open PySem L2
/-! ### data -/
mutual
def plP : PV → Bool
  | .non => true
  | .bl _ => true
  | .int _ => true
  | .str x => PySem.PyData.canLay0 (.str x)
  | .tup xs => plsP xs
  | .lst xs => plsP xs
  | _ => false
def plsP : List PV → Bool
  | [] => true
  | x :: xs => plP x && plsP xs
end
theorem bls_map {f : PV → Bool} : ∀ xs : List PV, blsP (xs.map fun p => .bl (f p)) = some (xs.map f)
  | [] => rfl
  | x :: xs => by rw [List.map_cons, List.map_cons]; unfold blsP; rw [bls_map xs]; rfl
theorem any_map {S : Stor} {f : PV → Bool} {xs : List PV} : anyP S [.lst (xs.map fun p => .bl (f p))] = some (.bl (xs.any f)) := by
  unfold anyP; dsimp only; rw [bls_map, Option.map_some, List.any_map]; rfl
/-! ### checks -/
def wholeP : PV → Int → Int → Bool
  | .int i, lo, hi => decide (lo ≤ i) && decide (i ≤ hi)
  | _, _, _ => false
theorem wp_is_whole {p : PV} {lo hi : Int} {S : Stor} {Q : OutF → Prop} (h : plP p = true) (hq : Q (.ok (.bl (wholeP p lo hi)) S)) : wpF d_is_whole [p, .int lo, .int hi] S Q := by
  unfold d_is_whole
  refine wpF_go rfl ?_
  cases p with
  | dk _ => cases h
  | dt _ => cases h
  | ref _ => cases h
  | rol _ => cases h
  | ftp _ => cases h
  | int i =>
    simp only [List.map, List.replicate, List.cons_append, List.nil_append, List.length_cons, List.length_nil, Nat.reduceAdd, bq_ok, bq_ex, wp_pure, wp_fail, wp_getS, oQ_some, oQ_ite, bqS_ok, bqS_ex, wpS_seq, sqS_nx, sqS_rt, sqS_bk, sqS_ct, sqS_ex, wpS_next, wpS_break, wpS_cont, wpS_retN, wpS_setT, stQ_some, wp_C, wp_call, wp_callv, bqF_ok, bqF_ex, wp_new, wp_newv, fqS_nx, fqS_rt, fqS_ex, wpS_for, wp_comp, wp_dVar, vQ_v, vQ_o, List.getElem?_cons_zero, List.getElem?_cons_succ, List.set_cons_zero, List.set_cons_succ, wp_d1, wp_k1, wp_d2, wp_k2, wp_k2b, wp_dT, wp_kT, wp_dTru, wp_kTru, wp_dNotT, wp_kNot, wp_dAndT, wp_kAnd, wp_dOrT, wp_kOr, wp_dAndV, wp_kAndV, wp_kAndVb, wp_dOrV, wp_kOrV, wp_kOrVb, wp_dNotV, wp_kNotV, wp_kNotVb, wp_dIf, wp_kIf, wp_dChain, wp_kCh, wp_kCh2, wp_kCh3, wp_aNil, wp_aCons, wp_kCons, wp_kCons2, wp_dTup, wp_kTup, wp_dLst, wp_kLst, wp_dN, wp_kN, wp_dLs, wp_kLs, wp_lDisp, wp_kDisp, wp_lRng, wp_kRng, wp_dItR, wp_kItR, wp_dItS, wp_kItS, wp_tTrue, wp_oNo, wp_oSome, wp_kSome, wp_dSl, wp_kSl, wp_kSl1, wp_kSl2, ws_ret, ws_kRet, ws_expr, ws_kExpr, ws_if, ws_kIfS, ws_set, ws_kSet, ws_setO, ws_kSetO, ws_kSetT, ws_setR, ws_kSetR0, ws_kSetR1, ws_kSetR2, items_t, items_ft, items_l, items_r, setAll, Bool.not_true, Bool.not_false, if_true, ite_true, ite_false, ↓reduceIte, Bool.false_eq_true, Int.reduceLT, Int.reduceLE, Nat.reduceLT, Nat.reduceLeDiff, Nat.reducePow, Int.reducePow, Int.reduceToNat, Int.reduceNeg, Int.reduceSub, Int.reduceAdd, and_self, and_true, true_and, decide_eq_true_eq, decide_true, decide_false, List.length_map, ixN_31, ixN_32, ixN_30, wipeE, restE, lcQ, Option.getD_some, add_i, add_t, add_l, sub_i, mul_i, mul_t, mul_l, fdiv_i, mod_i, pow_18, neg_i, lt_i, le_i, gt_i, ge_i, eq_i, ne_i, eq_b, len_t, len_ft, len_l, len_r, abs_i, int_i, list_t, list_ft, list_l, list_r, tuple_t, tuple_ft, tuple_l, isi_i, isi_b, isi_s, isi_t, isi_ft, isi_l, isi_r, isi_n, tru_b, tru_i, tru_t, tru_ft, tru_l, tru_n, isN_n, isN_b, isN_i, isN_s, isN_t, isN_l, ix_t, ix_ft, ix_l, ix_r, ix_ref, setS_ref, atI_0, atI_1, atI_2, Option.map_some, Option.map_none, kb0, kb1, kb2, kb3, kb4, kb5, kb6, kb7, kb8, kb9, kb10, kb11, kb12, kb13, kb14, kb15, kb16, kb17, kb18, kb19, kb20, kb21, kb22, kb23, kb24, kb25, kb26, kb27, kb28, kb29, sz0, szl0, sz1, szl1, sz2, szl2, sz3, szl3, sz4, szl4, sz5, szl5, sz6, szl6, sz7, szl7, sz8, szl8, sz9, szl9, sz10, szl10, sz11, szl11, sz12, szl12, sz13, szl13, sz14, szl14, sz15, szl15, sz16, szl16, sz17, szl17, sz18, szl18, sz19, szl19, sz20, szl20, sz21, szl21, sz22, szl22, sz23, szl23, sz24, szl24, sz25, szl25, sz26, szl26, sz27, szl27, sz28, szl28, sz29, szl29, sz30, szl30, sz31, szl31, sz32, szl32, sz33, szl33, sz34, szl34, sz35, szl35, sz36, szl36, sz37, szl37, sz38, szl38, sz39, szl39, sz40, szl40]
    unfold wholeP at hq
    by_cases h1 : lo ≤ i
    · simpa [h1] using hq
    · simpa [h1] using hq
  | _ => simp only [List.map, List.replicate, List.cons_append, List.nil_append, List.length_cons, List.length_nil, Nat.reduceAdd, bq_ok, bq_ex, wp_pure, wp_fail, wp_getS, oQ_some, oQ_ite, bqS_ok, bqS_ex, wpS_seq, sqS_nx, sqS_rt, sqS_bk, sqS_ct, sqS_ex, wpS_next, wpS_break, wpS_cont, wpS_retN, wpS_setT, stQ_some, wp_C, wp_call, wp_callv, bqF_ok, bqF_ex, wp_new, wp_newv, fqS_nx, fqS_rt, fqS_ex, wpS_for, wp_comp, wp_dVar, vQ_v, vQ_o, List.getElem?_cons_zero, List.getElem?_cons_succ, List.set_cons_zero, List.set_cons_succ, wp_d1, wp_k1, wp_d2, wp_k2, wp_k2b, wp_dT, wp_kT, wp_dTru, wp_kTru, wp_dNotT, wp_kNot, wp_dAndT, wp_kAnd, wp_dOrT, wp_kOr, wp_dAndV, wp_kAndV, wp_kAndVb, wp_dOrV, wp_kOrV, wp_kOrVb, wp_dNotV, wp_kNotV, wp_kNotVb, wp_dIf, wp_kIf, wp_dChain, wp_kCh, wp_kCh2, wp_kCh3, wp_aNil, wp_aCons, wp_kCons, wp_kCons2, wp_dTup, wp_kTup, wp_dLst, wp_kLst, wp_dN, wp_kN, wp_dLs, wp_kLs, wp_lDisp, wp_kDisp, wp_lRng, wp_kRng, wp_dItR, wp_kItR, wp_dItS, wp_kItS, wp_tTrue, wp_oNo, wp_oSome, wp_kSome, wp_dSl, wp_kSl, wp_kSl1, wp_kSl2, ws_ret, ws_kRet, ws_expr, ws_kExpr, ws_if, ws_kIfS, ws_set, ws_kSet, ws_setO, ws_kSetO, ws_kSetT, ws_setR, ws_kSetR0, ws_kSetR1, ws_kSetR2, items_t, items_ft, items_l, items_r, setAll, Bool.not_true, Bool.not_false, if_true, ite_true, ite_false, ↓reduceIte, Bool.false_eq_true, Int.reduceLT, Int.reduceLE, Nat.reduceLT, Nat.reduceLeDiff, Nat.reducePow, Int.reducePow, Int.reduceToNat, Int.reduceNeg, Int.reduceSub, Int.reduceAdd, and_self, and_true, true_and, decide_eq_true_eq, decide_true, decide_false, List.length_map, ixN_31, ixN_32, ixN_30, wipeE, restE, lcQ, Option.getD_some, add_i, add_t, add_l, sub_i, mul_i, mul_t, mul_l, fdiv_i, mod_i, pow_18, neg_i, lt_i, le_i, gt_i, ge_i, eq_i, ne_i, eq_b, len_t, len_ft, len_l, len_r, abs_i, int_i, list_t, list_ft, list_l, list_r, tuple_t, tuple_ft, tuple_l, isi_i, isi_b, isi_s, isi_t, isi_ft, isi_l, isi_r, isi_n, tru_b, tru_i, tru_t, tru_ft, tru_l, tru_n, isN_n, isN_b, isN_i, isN_s, isN_t, isN_l, ix_t, ix_ft, ix_l, ix_r, ix_ref, setS_ref, atI_0, atI_1, atI_2, Option.map_some, Option.map_none, kb0, kb1, kb2, kb3, kb4, kb5, kb6, kb7, kb8, kb9, kb10, kb11, kb12, kb13, kb14, kb15, kb16, kb17, kb18, kb19, kb20, kb21, kb22, kb23, kb24, kb25, kb26, kb27, kb28, kb29, sz0, szl0, sz1, szl1, sz2, szl2, sz3, szl3, sz4, szl4, sz5, szl5, sz6, szl6, sz7, szl7, sz8, szl8, sz9, szl9, sz10, szl10, sz11, szl11, sz12, szl12, sz13, szl13, sz14, szl14, sz15, szl15, sz16, szl16, sz17, szl17, sz18, szl18, sz19, szl19, sz20, szl20, sz21, szl21, sz22, szl22, sz23, szl23, sz24, szl24, sz25, szl25, sz26, szl26, sz27, szl27, sz28, szl28, sz29, szl29, sz30, szl30, sz31, szl31, sz32, szl32, sz33, szl33, sz34, szl34, sz35, szl35, sz36, szl36, sz37, szl37, sz38, szl38, sz39, szl39, sz40, szl40]; exact hq
end Dn
end
section
set_option Elab.async false
set_option linter.all false
set_option maxRecDepth 100000
set_option maxHeartbeats 1000000
namespace Dn
open PySem L2
/-! ### equality of data -/
mutual
def szP : PV → Bool
  | .tup xs => decide (xs.length ≤ 1000000) && szsP xs
  | .lst xs => decide (xs.length ≤ 1000000) && szsP xs
  | _ => true
def szsP : List PV → Bool
  | [] => true
  | x :: xs => szP x && szsP xs
end
end Dn
end
section
set_option Elab.async false
set_option linter.all false
set_option maxRecDepth 100000
set_option maxHeartbeats 1000000
namespace Dn
open PySem L2
/-! ### encodings are data -/
/-! ### checks -/
section
variable {S : Stor} {Q : OutF → Prop} {a b p : PV} {cs : List PV}
end
/-! ### draws -/
structure GQ (k most : Int) (q : List Int) : Prop where
  len : (q.length : Int) ≤ most
  mem : ∀ x ∈ q, In k x
theorem sl_to {xs : List PV} {i : Int} (h0 : 0 ≤ i) : slP (.tup xs) none (some i) = some (.tup (xs.take i.toNat)) := by
  unfold slP; dsimp only
  have : HT.sIx xs.length 0 none = 0 := rfl
  rw [this]
  have : HT.sIx xs.length xs.length (some i) = min i.toNat xs.length := by show (if i < 0 then _ else _) = _; rw [if_neg (by omega)]
  rw [this, List.drop_zero, Nat.sub_zero]
  congr 2
  by_cases hl : i.toNat ≤ xs.length
  · rw [Nat.min_eq_left hl]
  · rw [Nat.min_eq_right (by omega), List.take_of_length_le (Nat.le_refl _), List.take_of_length_le (by omega)]
theorem sl_from {xs : List PV} {i : Int} (h0 : 0 ≤ i) : slP (.tup xs) (some i) none = some (.tup (xs.drop i.toNat)) := by
  unfold slP; dsimp only
  have : HT.sIx xs.length xs.length none = xs.length := rfl
  rw [this]
  have : HT.sIx xs.length 0 (some i) = min i.toNat xs.length := by show (if i < 0 then _ else _) = _; rw [if_neg (by omega)]
  rw [this]
  congr 2
  by_cases hl : i.toNat ≤ xs.length
  · rw [Nat.min_eq_left hl, List.take_of_length_le (by rw [List.length_drop]; omega)]
  · rw [Nat.min_eq_right (by omega), Nat.sub_self, List.take_zero, List.drop_eq_nil_of_le (by omega)]
section
variable {S : Stor} {Q : OutF → Prop} {a b p : PV} {cs : List PV}
end
end Dn
end
section
set_option Elab.async false
set_option linter.all false
set_option maxRecDepth 100000
set_option maxHeartbeats 1000000
namespace Dn
open PySem L2
/-! ### steps -/
abbrev sysV (n s : Int) (cs : List (List Int)) : PV := .tup [.int n, .int s, .tup (cs.map encC)]
def stp (cs : List (List Int)) (s c : Int) : Int := (cs.getD c.toNat []).getD s.toNat 0
def ledP (cs : List (List Int)) (s : Int) (q : List Int) : Int := q.foldl (stp cs) s
theorem atI_getD {l : List Int} {i : Int} (h0 : 0 ≤ i) (h : i < l.length) : atI (l.map PV.int) i = some (.int (l.getD i.toNat 0)) := by
  rw [atI_in h0 (by rw [List.length_map]; exact h), List.getElem_map]
  have : i.toNat < l.length := by omega
  simp only [List.getD, List.getElem?_eq_getElem this, Option.getD_some]
theorem atI_cmd {cs : List (List Int)} {i : Int} (h0 : 0 ≤ i) (h : i < cs.length) : atI (cs.map encC) i = some (.tup ((cs.getD i.toNat []).map .int)) := by
  rw [atI_in h0 (by rw [List.length_map]; exact h), List.getElem_map]
  have : i.toNat < cs.length := by omega
  simp only [List.getD, List.getElem?_eq_getElem this, Option.getD_some]
  rfl
theorem getD_mem {cs : List (List Int)} {i : Int} (h0 : 0 ≤ i) (h : i < cs.length) : cs.getD i.toNat [] ∈ cs := by
  have : i.toNat < cs.length := by omega
  simp only [List.getD, List.getElem?_eq_getElem this, Option.getD_some]
  exact List.getElem_mem this
theorem stp_in {n : Int} {cs : List (List Int)} (hm : ∀ c ∈ cs, GC n c) {s c : Int} (hs : In n s) (hc : In cs.length c) : In n (stp cs s c) := by
  have g := hm _ (getD_mem hc.1 hc.2)
  have hl := g.len
  have h1 := hs.1; have h2 := hs.2
  have : s.toNat < (cs.getD c.toNat []).length := by omega
  have gen : ∀ (l : List Int) (i : Nat), i < l.length → l.getD i 0 ∈ l := fun l i h => by
    simp only [List.getD, List.getElem?_eq_getElem h, Option.getD_some]; exact List.getElem_mem h
  exact g.mem _ (gen _ _ this)
section
variable {n s0 : Int} {cs : List (List Int)} {S : Stor} {Q : OutF → Prop}
theorem wp_step (hm : ∀ c ∈ cs, GC n c) {s c : Int} (hs : In n s) (hc : In cs.length c) (hq : Q (.ok (.int (stp cs s c)) S)) : wpF d_step [sysV n s0 cs, .int s, .int c] S Q := by
  have g := hm _ (getD_mem hc.1 hc.2)
  have hl := g.len
  have h2 := hs.2
  unfold d_step
  refine wpF_go rfl ?_
  simp only [List.map, List.replicate, List.cons_append, List.nil_append, List.length_cons, List.length_nil, Nat.reduceAdd, bq_ok, bq_ex, wp_pure, wp_fail, wp_getS, oQ_some, oQ_ite, bqS_ok, bqS_ex, wpS_seq, sqS_nx, sqS_rt, sqS_bk, sqS_ct, sqS_ex, wpS_next, wpS_break, wpS_cont, wpS_retN, wpS_setT, stQ_some, wp_C, wp_call, wp_callv, bqF_ok, bqF_ex, wp_new, wp_newv, fqS_nx, fqS_rt, fqS_ex, wpS_for, wp_comp, wp_dVar, vQ_v, vQ_o, List.getElem?_cons_zero, List.getElem?_cons_succ, List.set_cons_zero, List.set_cons_succ, wp_d1, wp_k1, wp_d2, wp_k2, wp_k2b, wp_dT, wp_kT, wp_dTru, wp_kTru, wp_dNotT, wp_kNot, wp_dAndT, wp_kAnd, wp_dOrT, wp_kOr, wp_dAndV, wp_kAndV, wp_kAndVb, wp_dOrV, wp_kOrV, wp_kOrVb, wp_dNotV, wp_kNotV, wp_kNotVb, wp_dIf, wp_kIf, wp_dChain, wp_kCh, wp_kCh2, wp_kCh3, wp_aNil, wp_aCons, wp_kCons, wp_kCons2, wp_dTup, wp_kTup, wp_dLst, wp_kLst, wp_dN, wp_kN, wp_dLs, wp_kLs, wp_lDisp, wp_kDisp, wp_lRng, wp_kRng, wp_dItR, wp_kItR, wp_dItS, wp_kItS, wp_tTrue, wp_oNo, wp_oSome, wp_kSome, wp_dSl, wp_kSl, wp_kSl1, wp_kSl2, ws_ret, ws_kRet, ws_expr, ws_kExpr, ws_if, ws_kIfS, ws_set, ws_kSet, ws_setO, ws_kSetO, ws_kSetT, ws_setR, ws_kSetR0, ws_kSetR1, ws_kSetR2, items_t, items_ft, items_l, items_r, setAll, Bool.not_true, Bool.not_false, if_true, ite_true, ite_false, ↓reduceIte, Bool.false_eq_true, Int.reduceLT, Int.reduceLE, Nat.reduceLT, Nat.reduceLeDiff, Nat.reducePow, Int.reducePow, Int.reduceToNat, Int.reduceNeg, Int.reduceSub, Int.reduceAdd, and_self, and_true, true_and, decide_eq_true_eq, decide_true, decide_false, List.length_map, ixN_31, ixN_32, ixN_30, wipeE, restE, lcQ, Option.getD_some, add_i, add_t, add_l, sub_i, mul_i, mul_t, mul_l, fdiv_i, mod_i, pow_18, neg_i, lt_i, le_i, gt_i, ge_i, eq_i, ne_i, eq_b, len_t, len_ft, len_l, len_r, abs_i, int_i, list_t, list_ft, list_l, list_r, tuple_t, tuple_ft, tuple_l, isi_i, isi_b, isi_s, isi_t, isi_ft, isi_l, isi_r, isi_n, tru_b, tru_i, tru_t, tru_ft, tru_l, tru_n, isN_n, isN_b, isN_i, isN_s, isN_t, isN_l, ix_t, ix_ft, ix_l, ix_r, ix_ref, setS_ref, atI_0, atI_1, atI_2, Option.map_some, Option.map_none, kb0, kb1, kb2, kb3, kb4, kb5, kb6, kb7, kb8, kb9, kb10, kb11, kb12, kb13, kb14, kb15, kb16, kb17, kb18, kb19, kb20, kb21, kb22, kb23, kb24, kb25, kb26, kb27, kb28, kb29, sz0, szl0, sz1, szl1, sz2, szl2, sz3, szl3, sz4, szl4, sz5, szl5, sz6, szl6, sz7, szl7, sz8, szl8, sz9, szl9, sz10, szl10, sz11, szl11, sz12, szl12, sz13, szl13, sz14, szl14, sz15, szl15, sz16, szl16, sz17, szl17, sz18, szl18, sz19, szl19, sz20, szl20, sz21, szl21, sz22, szl22, sz23, szl23, sz24, szl24, sz25, szl25, sz26, szl26, sz27, szl27, sz28, szl28, sz29, szl29, sz30, szl30, sz31, szl31, sz32, szl32, sz33, szl33, sz34, szl34, sz35, szl35, sz36, szl36, sz37, szl37, sz38, szl38, sz39, szl39, sz40, szl40, atI_cmd hc.1 hc.2, atI_getD hs.1 (show s < (cs.getD c.toNat []).length by omega)]
  exact hq
theorem led_in (hm : ∀ c ∈ cs, GC n c) : ∀ (q : List Int) {s : Int}, In n s → (∀ x ∈ q, In cs.length x) → In n (ledP cs s q)
  | [], s, hs, _ => hs
  | c :: q, s, hs, hq => led_in hm q (stp_in hm hs (hq c (List.mem_cons_self ..))) fun x hx => hq x (List.mem_cons_of_mem _ hx)
end
end Dn
end
section
set_option Elab.async false
set_option linter.all false
set_option maxRecDepth 100000
set_option maxHeartbeats 1000000
namespace Dn
open PySem L2
section
variable {n s0 : Int} {cs : List (List Int)} {S : Stor} {Q : OutF → Prop}
theorem GQ.take {k m : Int} {q : List Int} (h : GQ k m q) (i : Nat) : GQ k m (q.take i) := ⟨by have := h.len; rw [List.length_take]; omega, fun x hx => h.mem x (List.mem_of_mem_take hx)⟩
theorem GQ.drop {k m : Int} {q : List Int} (h : GQ k m q) (i : Nat) : GQ k m (q.drop i) := ⟨by have := h.len; rw [List.length_drop]; omega, fun x hx => h.mem x (List.mem_of_mem_drop hx)⟩
end
end Dn
end
section
set_option Elab.async false
set_option linter.all false
set_option maxRecDepth 100000
set_option maxHeartbeats 1000000
namespace Dn
open PySem L2
/-! ### a name's own dict -/
def kInO (neg : Bool) (i : Nat) : PV → DE := fun q e s => match e[i]? with
  | some sl => match inO sl q with
    | some b => .ok (.bl (if neg then !b else b)) e s
    | none => .st
  | none => .st
def iQ (neg : Bool) (q : PV) (e : DEnv) (S : Stor) (Q : Out PV → Prop) : Option Slot → Prop
  | some sl => match inO sl q with
    | some b => Q (.ok (.bl (if neg then !b else b)) e S)
    | none => Q .st
  | none => Q .st
section
variable {e : DEnv} {S : Stor} {Q : Out PV → Prop} {QS : OutS → Prop} {da dk : DE} {i : Nat} {neg : Bool} {q p : PV} {kvs : List (Key × PV)} {t : Int}
theorem wp_inO : wp (dInO neg i da) e S Q = wp da e S (bq (kInO neg i) Q) := wp_bind
theorem wp_kInO : wp (kInO neg i q) e S Q = iQ neg q e S Q e[i]? := by
  unfold wp kInO iQ
  cases e[i]? with
  | none => rfl
  | some sl => dsimp only; cases inO sl q <;> rfl
def kIxO (i : Nat) : PV → DE := fun q e s => match e[i]? with
  | some sl => match getO sl q with
    | some p => .ok p e s
    | none => .st
  | none => .st
theorem wp_ixO {sl : Slot} (h : e[i]? = some sl) (ho : sl.own = true) : wp (dIxO i da) e S Q = wp da e S (bq (kIxO i) Q) := by
  rw [← wp_bind]; unfold wp dIxO; rw [h]; dsimp only; rw [if_pos ho]; rfl
theorem wp_kIxO {sl : Slot} (h : e[i]? = some sl) (hg : getO sl q = some p) : wp (kIxO i q) e S Q = Q (.ok p e S) := by
  unfold wp kIxO; rw [h]; dsimp only; rw [hg]
def kPut1 (i : Nat) (dk : DE) : PV → DS := fun p e s => match e[i]? with
  | some sl => if sl.own then sE dk (kPut2 i p) e s else .st
  | none => .st
theorem ws_putO : wpS (sPutO i dk da) e S QS = wp da e S (bqS (kPut1 i dk) QS) := wpS_sE
theorem ws_kPut1 {sl : Slot} (h : e[i]? = some sl) (ho : sl.own = true) : wpS (kPut1 i dk p) e S QS = wp dk e S (bqS (kPut2 i p) QS) := by
  rw [← wpS_sE]; unfold wpS kPut1; rw [h]; dsimp only; rw [if_pos ho]
theorem ws_kPut2 {sl sl2 : Slot} (h : e[i]? = some sl) (hp : putO sl q p = some sl2) : wpS (kPut2 i p q) e S QS = QS (.nx (e.set i sl2) S) := by
  unfold wpS kPut2; rw [h]; dsimp only; rw [hp]
end
/-! ### breadth -/
abbrev Fd := List (Int × List Int)
def enF (f : Fd) : List (Key × PV) := f.map fun e => (.inl e.1, encC e.2)
def hasF (f : Fd) (s : Int) : Bool := f.any fun e => decide (e.1 = s)
def valF (f : Fd) (s : Int) : List Int := ((f.find? fun e => decide (e.1 = s)).map (·.2)).getD []
def exp1 (cs : List (List Int)) (here : Int) (x : Fd × List Int) (c : Nat) : Fd × List Int :=
  if hasF x.1 (stp cs here c) then x else (x.1 ++ [(stp cs here c, valF x.1 here ++ [(c : Int)])], x.2 ++ [stp cs here c])
theorem get_enF (f : Fd) (s : Int) : getKV (enF f) (.inl s) = (f.find? fun e => decide (e.1 = s)).map fun e => encC e.2 := by
  induction f with
  | nil => rfl
  | cons e f ih =>
    unfold getKV enF at *
    rw [List.map_cons, List.find?_cons, List.find?_cons]
    by_cases h : e.1 = s
    · rw [decide_eq_true (by rw [h]), decide_eq_true h]; rfl
    · rw [decide_eq_false (by intro z; cases z; exact h rfl), decide_eq_false h]; exact ih
theorem has_enF (f : Fd) (s : Int) : (getKV (enF f) (.inl s)).isSome = hasF f s := by
  rw [get_enF, Option.isSome_map]
  induction f with
  | nil => rfl
  | cons e f ih =>
    unfold hasF at *
    rw [List.find?_cons, List.any_cons]
    by_cases h : e.1 = s
    · rw [decide_eq_true h]; rfl
    · rw [decide_eq_false h]; exact ih
end Dn
end
section
set_option Elab.async false
set_option linter.all false
set_option maxRecDepth 100000
set_option maxHeartbeats 1000000
namespace Dn
open PySem L2
/-- distinct numbers below a bound are few -/
theorem nodup_few : ∀ (n : Nat) (l : List Int), l.Nodup → (∀ x ∈ l, In n x) → l.length ≤ n
  | 0, l, _, h => by
    cases l with
    | nil => exact Nat.le_refl _
    | cons x l => have := h x (List.mem_cons_self ..); unfold In at this; omega
  | n + 1, l, hn, h => by
    have h1 := nodup_few n (l.erase n) (hn.erase _) fun x hx => by
      have hm := List.mem_of_mem_erase hx
      have hne : x ≠ n := fun z => by
        subst z
        exact (List.Nodup.not_mem_erase hn) hx
      have := h x hm
      unfold In at this ⊢
      omega
    have := List.length_erase (a := (n : Int)) (l := l)
    split at this <;> omega
/-- what is found is in order: keys distinct, numbers of states, the queue is its end -/
structure FI (n : Int) (f : Fd) (q : List Int) : Prop where
  nd : (f.map (·.1)).Nodup
  mem : ∀ e ∈ f, In n e.1
  q : ∃ d, f.map (·.1) = d ++ q
  pl : ∀ e ∈ f, e.2.length < f.length
theorem FI.few {n : Int} {f : Fd} {q : List Int} (h : FI n f q) (hn : n ≤ 1000) : f.length ≤ 1000 := by
  have := nodup_few n.toNat (f.map (·.1)) h.nd fun x hx => by
    obtain ⟨e, he, rfl⟩ := List.mem_map.mp hx
    have := h.mem e he
    unfold In at this ⊢; omega
  rw [List.length_map] at this; omega
theorem hasF_iff {f : Fd} {s : Int} : hasF f s = true ↔ s ∈ f.map (·.1) := by
  unfold hasF
  rw [List.any_eq_true, List.mem_map]
  constructor
  · rintro ⟨e, he, h⟩; exact ⟨e, he, by simpa using h⟩
  · rintro ⟨e, he, h⟩; exact ⟨e, he, by simpa using h⟩
theorem valF_mem {f : Fd} {s : Int} (h : hasF f s = true) : (s, valF f s) ∈ f := by
  have := has_enF f s
  rw [h, get_enF, Option.isSome_map] at this
  unfold valF
  cases e : f.find? fun e => decide (e.1 = s) with
  | none => rw [e] at this; cases this
  | some x =>
    have h1 := List.mem_of_find?_eq_some e
    have h2 := List.find?_some e
    have h2 : x.1 = s := by simpa using h2
    rw [← h2]
    exact h1
theorem FI.exp1 {n : Int} {cs : List (List Int)} (hm : ∀ c ∈ cs, GC n c) {here : Int} (hs : In n here) {x : Fd × List Int} (h : FI n x.1 x.2) (hh0 : hasF x.1 here = true) {c : Nat} (hc : c < cs.length) : FI n (Dn.exp1 cs here x c).1 (Dn.exp1 cs here x c).2 := by
  unfold Dn.exp1
  split
  · exact h
  · rename_i hh
    have hh : hasF x.1 (stp cs here c) = false := by simpa using hh
    have hnm : stp cs here c ∉ x.1.map (·.1) := fun z => by rw [hasF_iff.mpr z] at hh; cases hh
    obtain ⟨d, e⟩ := h.q
    refine ⟨?_, fun e he => ?_, ⟨d, ?_⟩, fun e he => ?_⟩
    · rw [List.map_append, List.nodup_append]
      refine ⟨h.nd, by simp, fun a ha b hb => ?_⟩
      rw [List.map_cons, List.map_nil, List.mem_singleton] at hb
      rw [hb]
      intro z
      have z : a = stp cs here c := z
      exact hnm (by rw [← z]; exact ha)
    · rcases List.mem_append.mp he with he | he
      · exact h.mem e he
      · rw [List.mem_singleton.mp he]
        exact stp_in hm hs ⟨by omega, by omega⟩
    · rw [List.map_append, e, List.append_assoc]; rfl
    · rw [List.length_append, List.length_singleton]
      rcases List.mem_append.mp he with he | he
      · have := h.pl e he; omega
      · rw [List.mem_singleton.mp he]
        have := h.pl _ (valF_mem hh0)
        simp only [List.length_append, List.length_singleton] at this ⊢
        omega
theorem forL_nx {g : PV → DEnv → Option DEnv} {b : DS} {p : PV} {ps : List PV} {e e1 e2 : DEnv} {S S2 : Stor} {Q : OutS → Prop} (h1 : g p e = some e1) (h2 : b e1 S = .nx e2 S2) (h : wpS (forL g b ps) e2 S2 Q) : wpS (forL g b (p :: ps)) e S Q := by
  unfold wpS forL; rw [h1]; dsimp only; rw [h2]; exact h
theorem hasF_exp1 {cs : List (List Int)} {here : Int} {x : Fd × List Int} {c : Nat} {s : Int} (h : hasF x.1 s = true) : hasF (Dn.exp1 cs here x c).1 s = true := by
  unfold Dn.exp1
  split
  · exact h
  · rw [hasF_iff] at h ⊢
    rw [List.map_append]
    exact List.mem_append_left _ h
section
variable {n s0 : Int} {cs : List (List Int)} {S : Stor} {Q : OutS → Prop}
end
end Dn
end
section
set_option Elab.async false
set_option linter.all false
set_option maxRecDepth 100000
set_option maxHeartbeats 1000000
namespace Dn
open PySem L2
inductive Bfs (cs : List (List Int)) : Fd × List Int → Fd → Prop
  | done (f : Fd) : Bfs cs (f, []) f
  | step {f : Fd} {h : Int} {q : List Int} {f' : Fd} : Bfs cs ((List.range cs.length).foldl (exp1 cs h) (f, q)) f' → Bfs cs (f, h :: q) f'
theorem FI.foldl {n : Int} {cs : List (List Int)} (hm : ∀ c ∈ cs, GC n c) {here : Int} (hs : In n here) : ∀ (ks : List Nat) {x : Fd × List Int}, (∀ k ∈ ks, k < cs.length) → FI n x.1 x.2 → hasF x.1 here = true → FI n (ks.foldl (Dn.exp1 cs here) x).1 (ks.foldl (Dn.exp1 cs here) x).2
  | [], _, _, h, _ => h
  | k :: ks, x, hk, h, hh => FI.foldl hm hs ks (fun j hj => hk j (List.mem_cons_of_mem _ hj)) (h.exp1 hm hs hh (hk k (List.mem_cons_self ..))) (hasF_exp1 hh)
theorem whL_true {t : Den Bool} {b : DS} {N : Nat} {e e2 : DEnv} {S S2 : Stor} {Q : OutS → Prop} (h1 : t e S = .ok true e S) (h2 : b e S = .nx e2 S2) (h : wpS (whL t b N) e2 S2 Q) : wpS (whL t b (N + 1)) e S Q := by
  unfold wpS whL sE; rw [h1]; dsimp only; rw [if_pos rfl, h2]; exact h
theorem whL_false {t : Den Bool} {b : DS} {N : Nat} {e : DEnv} {S : Stor} {Q : OutS → Prop} (h1 : t e S = .ok false e S) (h : Q (.nx e S)) : wpS (whL t b (N + 1)) e S Q := by
  unfold wpS whL sE; rw [h1]; dsimp only; rw [if_neg Bool.false_ne_true]; exact h
section
variable {n s0 : Int} {cs : List (List Int)} {S : Stor}
end
end Dn
end
section
set_option Elab.async false
set_option linter.all false
set_option maxRecDepth 100000
set_option maxHeartbeats 1000000
namespace Dn
open PySem L2
section
variable {n s0 : Int} {cs : List (List Int)} {S : Stor}
theorem ws_setD {i : Nat} {d : Den OD} {e : DEnv} {Q : OutS → Prop} {od : OD} {e2 : DEnv} {S2 : Stor} (h : d e S = .ok od e2 S2) : wpS (sSetD i d) e S Q = Q (.nx (e2.set i od.slot) S2) := by
  unfold wpS sSetD sE; rw [h]
theorem FI.one {st : Int} (hs : In n st) : FI n [(st, [])] [st] := ⟨by simp, fun e he => by rw [List.mem_singleton.mp he]; exact hs, ⟨[], rfl⟩, fun e he => by rw [List.mem_singleton.mp he]; exact Nat.zero_lt_one⟩
end
end Dn
end
section
set_option Elab.async false
set_option linter.all false
set_option maxRecDepth 100000
set_option maxHeartbeats 1000000
namespace Dn
open PySem L2
theorem exp1_app {cs : List (List Int)} {here : Int} {f : Fd} {a b : List Int} {k : Nat} : exp1 cs here (f, a ++ b) k = ((exp1 cs here (f, b) k).1, a ++ (exp1 cs here (f, b) k).2) := by
  unfold exp1
  dsimp only
  split
  · rfl
  · rw [List.append_assoc]
theorem foldl_app {cs : List (List Int)} {here : Int} : ∀ (ks : List Nat) (f : Fd) (a b : List Int), ks.foldl (exp1 cs here) (f, a ++ b) = ((ks.foldl (exp1 cs here) (f, b)).1, a ++ (ks.foldl (exp1 cs here) (f, b)).2)
  | [], _, _, _ => rfl
  | k :: ks, f, a, b => by
    rw [List.foldl_cons, List.foldl_cons, exp1_app]
    exact foldl_app ks _ _ _
/-- one level -/
def lvl (cs : List (List Int)) (x : Fd × List Int) (h : Int) : Fd × List Int := (List.range cs.length).foldl (exp1 cs h) x
theorem Bfs.lvl {cs : List (List Int)} {f' : Fd} : ∀ (rows : List Int) (f : Fd) (later : List Int), Bfs cs ((rows.foldl (Dn.lvl cs) (f, later)).1, (rows.foldl (Dn.lvl cs) (f, later)).2) f' → Bfs cs (f, rows ++ later) f'
  | [], _, _, h => h
  | r :: rows, f, later, h => by
    rw [List.cons_append]
    refine .step ?_
    rw [foldl_app]
    exact Bfs.lvl rows _ _ h
theorem Bfs.det {cs : List (List Int)} {x : Fd × List Int} {f f' : Fd} (h : Bfs cs x f) (h' : Bfs cs x f') : f = f' := by
  induction h with
  | done f => cases h'; rfl
  | step _ ih => cases h' with | step h => exact ih h
/-- turns of levels -/
def turns (cs : List (List Int)) : Nat → Fd × List Int → Fd × List Int
  | 0, x => x
  | m + 1, x => turns cs m (x.2.foldl (lvl cs) (x.1, []))
theorem Bfs.turns {cs : List (List Int)} {f' : Fd} : ∀ (m : Nat) (x : Fd × List Int), Bfs cs (Dn.turns cs m x) f' → Bfs cs x f'
  | 0, _, h => h
  | m + 1, (f, q), h => by
    have := Bfs.turns m _ h
    have := Bfs.lvl (cs := cs) q f [] this
    rw [List.append_nil] at this
    exact this
theorem FI.lvl {n : Int} {cs : List (List Int)} (hm : ∀ c ∈ cs, GC n c) : ∀ (rows : List Int) (f : Fd) (later : List Int), FI n f later → (∀ r ∈ rows, hasF f r = true) → FI n (rows.foldl (Dn.lvl cs) (f, later)).1 (rows.foldl (Dn.lvl cs) (f, later)).2
  | [], _, _, h, _ => h
  | r :: rows, f, later, h, hr => by
    have hh := hr r (List.mem_cons_self ..)
    have hs : In n r := by
      obtain ⟨e, he, h1⟩ := List.mem_map.mp (hasF_iff.mp hh)
      rw [← h1]; exact h.mem e he
    have hk : ∀ k ∈ List.range cs.length, k < cs.length := fun k hk => List.mem_range.mp hk
    refine FI.lvl hm rows _ _ (FI.foldl hm hs (List.range cs.length) hk h hh) fun r' hr' => ?_
    have gen : ∀ (ks : List Nat) (x : Fd × List Int), hasF x.1 r' = true → hasF (ks.foldl (Dn.exp1 cs r) x).1 r' = true := by
      intro ks
      induction ks with
      | nil => intro x h; exact h
      | cons k ks ih => intro x h; exact ih _ (hasF_exp1 h)
    exact gen _ _ (hr r' (List.mem_cons_of_mem _ hr'))
end Dn
end
section
set_option Elab.async false
set_option linter.all false
set_option maxRecDepth 100000
set_option maxHeartbeats 1000000
namespace Dn
open PySem L2
theorem FI.all {n : Int} {f : Fd} {q : List Int} (h : FI n f q) : FI n f [] ∧ ∀ r ∈ q, hasF f r = true := by
  obtain ⟨d, e⟩ := h.q
  refine ⟨⟨h.nd, h.mem, ⟨d ++ q, by rw [List.append_nil]; exact e⟩, h.pl⟩, fun r hr => hasF_iff.mpr (by rw [e]; exact List.mem_append_right _ hr)⟩
theorem FI.turn {n : Int} {cs : List (List Int)} (hm : ∀ c ∈ cs, GC n c) {x : Fd × List Int} (h : FI n x.1 x.2) : FI n (x.2.foldl (Dn.lvl cs) (x.1, [])).1 (x.2.foldl (Dn.lvl cs) (x.1, [])).2 :=
  FI.lvl hm x.2 x.1 [] h.all.1 h.all.2
theorem FI.turns {n : Int} {cs : List (List Int)} (hm : ∀ c ∈ cs, GC n c) : ∀ (m : Nat) (x : Fd × List Int), FI n x.1 x.2 → FI n (Dn.turns cs m x).1 (Dn.turns cs m x).2
  | 0, _, h => h
  | m + 1, x, h => FI.turns hm m _ (h.turn hm)
theorem FI.le {n : Int} {f : Fd} {q : List Int} (h : FI n f q) : f.length ≤ n.toNat := by
  have := nodup_few n.toNat (f.map (·.1)) h.nd fun x hx => by
    obtain ⟨e, he, rfl⟩ := List.mem_map.mp hx
    have := h.mem e he
    unfold In at this ⊢; omega
  rw [List.length_map] at this
  exact this
end Dn
end
section
set_option Elab.async false
set_option linter.all false
set_option maxRecDepth 100000
set_option maxHeartbeats 1000000
namespace Dn
open PySem L2
section
variable {n s0 : Int} {cs : List (List Int)} {S : Stor}
end
end Dn
end
section
set_option Elab.async false
set_option linter.all false
set_option maxRecDepth 100000
set_option maxHeartbeats 1000000
namespace Dn
open PySem L2
section
variable {n s0 : Int} {cs : List (List Int)} {S : Stor}
end
end Dn
end
section
set_option Elab.async false
set_option linter.all false
set_option maxRecDepth 100000
set_option maxHeartbeats 1000000
namespace Dn
open PySem L2
theorem ledP_snoc {cs : List (List Int)} {st c : Int} {q : List Int} : ledP cs st (q ++ [c]) = stp cs (ledP cs st q) c := by
  unfold ledP; rw [List.foldl_append]; rfl
/-- what holds of each entry: its path is of commands and leads to it; if it is not empty, it is an earlier entry's path and one command -/
structure FP (cs : List (List Int)) (st : Int) (f : Fd) : Prop where
  led : ∀ e ∈ f, ledP cs st e.2 = e.1
  cmd : ∀ e ∈ f, ∀ c ∈ e.2, In cs.length c
  par : ∀ e ∈ f, e.2 = [] ∨ ∃ e' ∈ f, ∃ c, e.2 = e'.2 ++ [c]
theorem FP.exp1 {cs : List (List Int)} {st here : Int} {x : Fd × List Int} (h : FP cs st x.1) (hh : hasF x.1 here = true) {k : Nat} (hk : k < cs.length) : FP cs st (Dn.exp1 cs here x k).1 := by
  unfold Dn.exp1
  split
  · exact h
  · have hv := valF_mem hh
    refine ⟨fun e he => ?_, fun e he => ?_, fun e he => ?_⟩
    · rcases List.mem_append.mp he with he | he
      · exact h.led e he
      · rw [List.mem_singleton.mp he]
        dsimp only
        rw [ledP_snoc, h.led _ hv]
    · rcases List.mem_append.mp he with he | he
      · exact h.cmd e he
      · rw [List.mem_singleton.mp he]
        intro c hc
        rcases List.mem_append.mp hc with hc | hc
        · exact h.cmd _ hv c hc
        · rw [List.mem_singleton.mp hc]; exact ⟨by omega, by omega⟩
    · rcases List.mem_append.mp he with he | he
      · rcases h.par e he with z | ⟨e', h1, c, h2⟩
        · exact .inl z
        · exact .inr ⟨e', List.mem_append_left _ h1, c, h2⟩
      · rw [List.mem_singleton.mp he]
        exact .inr ⟨_, List.mem_append_left _ hv, _, rfl⟩
theorem FP.foldl {cs : List (List Int)} {st here : Int} : ∀ (ks : List Nat) {x : Fd × List Int}, FP cs st x.1 → hasF x.1 here = true → (∀ k ∈ ks, k < cs.length) → FP cs st (ks.foldl (Dn.exp1 cs here) x).1
  | [], _, h, _, _ => h
  | k :: ks, x, h, hh, hk => FP.foldl ks (h.exp1 hh (hk k (List.mem_cons_self ..))) (hasF_exp1 hh) fun j hj => hk j (List.mem_cons_of_mem _ hj)
theorem FP.one {cs : List (List Int)} {st : Int} : FP cs st [(st, [])] :=
  ⟨fun e he => by rw [List.mem_singleton.mp he]; rfl, fun e he => by rw [List.mem_singleton.mp he]; exact fun c hc => (nomatch hc), fun e he => by rw [List.mem_singleton.mp he]; exact .inl rfl⟩
theorem FP.bfs {n : Int} {cs : List (List Int)} (hm : ∀ c ∈ cs, GC n c) {st : Int} {x : Fd × List Int} {f' : Fd} (hb : Bfs cs x f') : FP cs st x.1 → FI n x.1 x.2 → FP cs st f' := by
  induction hb with
  | done f => exact fun h _ => h
  | @step f p q f' hb ih =>
    intro h hf
    obtain ⟨d, ed⟩ := hf.q
    have hh : hasF f p = true := hasF_iff.mpr (by rw [ed]; simp)
    have hs : In n p := by
      obtain ⟨e, he, h1⟩ := List.mem_map.mp (hasF_iff.mp hh)
      rw [← h1]; exact hf.mem e he
    have hf1 : FI n f q := ⟨hf.nd, hf.mem, ⟨d ++ [p], by rw [ed, List.append_assoc]; rfl⟩, hf.pl⟩
    have hk : ∀ k ∈ List.range cs.length, k < cs.length := fun k hk => List.mem_range.mp hk
    exact ih (FP.foldl (x := (f, q)) _ h hh hk) (FI.foldl hm hs _ hk hf1 hh)
end Dn
end
section
set_option Elab.async false
set_option linter.all false
set_option maxRecDepth 100000
set_option maxHeartbeats 1000000
namespace Dn
open PySem L2
end Dn
end
section
set_option Elab.async false
set_option linter.all false
set_option maxRecDepth 100000
set_option maxHeartbeats 1000000
namespace Dn
open PySem L2
section
variable {e : DEnv} {S : Stor} {Q : Out PV → Prop} {da dk : DE} {kvs : List (Key × PV)} {t : Int}
end
theorem valF_of {f : Fd} (hn : (f.map (·.1)).Nodup) {e : Int × List Int} (he : e ∈ f) : valF f e.1 = e.2 := by
  have h : hasF f e.1 = true := hasF_iff.mpr (List.mem_map.mpr ⟨e, he, rfl⟩)
  have hm := valF_mem h
  clear h
  induction f with
  | nil => cases he
  | cons x f ih =>
    have key : ∀ (f : Fd), (f.map (·.1)).Nodup → ∀ a ∈ f, ∀ b ∈ f, a.1 = b.1 → a = b := by
      intro f
      induction f with
      | nil => intro _ a ha; cases ha
      | cons y f ih =>
        intro hn a ha b hb e
        rw [List.map_cons, List.nodup_cons] at hn
        rcases List.mem_cons.mp ha with h1 | h1
        · rcases List.mem_cons.mp hb with h2 | h2
          · rw [h1, h2]
          · exact absurd (show y.1 ∈ f.map (·.1) from List.mem_map.mpr ⟨b, h2, by rw [← e, h1]⟩) hn.1
        · rcases List.mem_cons.mp hb with h2 | h2
          · exact absurd (show y.1 ∈ f.map (·.1) from List.mem_map.mpr ⟨a, h1, by rw [e, h2]⟩) hn.1
          · exact ih hn.2 a h1 b h2 e
    have := key _ hn _ hm e he rfl
    exact congrArg Prod.snd this
section
variable {n s0 : Int} {cs : List (List Int)} {S : Stor} {Q : OutF → Prop}
end
end Dn
end
section
set_option Elab.async false
set_option linter.all false
set_option maxRecDepth 100000
set_option maxHeartbeats 1000000
namespace Dn
open PySem L2
section
variable {n s0 : Int} {cs : List (List Int)} {S : Stor} {Q : OutF → Prop}
end
end Dn
end
section
set_option Elab.async false
set_option linter.all false
set_option maxRecDepth 100000
set_option maxHeartbeats 1000000
namespace Dn
open PySem L2
theorem atI_last {xs : List PV} (h : 0 < xs.length) : atI xs (-1) = some (xs[xs.length - 1]'(by omega)) := by
  unfold atI ixN
  rw [if_neg (by omega), if_pos (by omega), Option.bind_some]
  have : ((-1 : Int) + xs.length).toNat = xs.length - 1 := by omega
  rw [this, List.getElem?_eq_getElem (by omega)]
end Dn
end
section
set_option Elab.async false
set_option linter.all false
set_option maxRecDepth 100000
set_option maxHeartbeats 1000000
namespace Dn
open PySem L2
/-! ### equality of data by == -/
section
variable {S : Stor} {p q : PV} {xs ys : List PV} {i j : Int} {b c : Bool} {x y : Str}
end
section
variable {e : DEnv} {S : Stor} {Q : Out (List PV) → Prop} {de : DE} {kvs : List (Key × PV)} {kts : List (List Key × PV)}
end
end Dn
end
section
set_option Elab.async false
set_option linter.all false
set_option maxRecDepth 100000
set_option maxHeartbeats 1000000
namespace Dn
open PySem L2
/-- a search from st, ended -/
structure FS (n : Int) (cs : List (List Int)) (st : Int) (f : Fd) : Prop where
  hb : Bfs cs ([(st, [])], [st]) f
  hf : FI n f []
  fp : FP cs st f
theorem FS.of {n : Int} {cs : List (List Int)} (hm : ∀ c ∈ cs, GC n c) {st : Int} {f : Fd} (hs : In n st) (hb : Bfs cs ([(st, [])], [st]) f) (hf : FI n f []) : FS n cs st f :=
  ⟨hb, hf, FP.bfs hm hb FP.one (FI.one hs)⟩
section
variable {n s0 st t : Int} {cs : List (List Int)} {f : Fd} {S : Stor} {Q : OutF → Prop}
theorem FS.par (h : FS n cs st f) (ht : hasF f t = true) : valF f t = [] ∨ ∃ t2, hasF f t2 = true ∧ valF f t2 = (valF f t).dropLast ∧ ledP cs st (valF f t).dropLast = t2 := by
  have hm := valF_mem ht
  rcases h.fp.par _ hm with z | ⟨e', he, c, hc⟩
  · exact .inl z
  · dsimp only at hc
    refine .inr ⟨e'.1, hasF_iff.mpr (List.mem_map.mpr ⟨e', he, rfl⟩), ?_, ?_⟩
    · rw [valF_of h.hf.nd he, hc, List.dropLast_concat]
    · rw [hc, List.dropLast_concat]; exact h.fp.led _ he
theorem FS.inn (h : FS n cs st f) (ht : hasF f t = true) : In n t := by
  obtain ⟨e, he, h1⟩ := List.mem_map.mp (hasF_iff.mp ht)
  rw [← h1]; exact h.hf.mem e he
end
end Dn
end
section
set_option Elab.async false
set_option linter.all false
set_option maxRecDepth 100000
set_option maxHeartbeats 1000000
namespace Dn
/-! ### breadth over any keys: st steps, m commands -/
section
variable {κ : Type} [DecidableEq κ]
abbrev Fg (κ : Type) := List (κ × List Int)
def hasG (f : Fg κ) (s : κ) : Bool := f.any fun e => decide (e.1 = s)
def valG (f : Fg κ) (s : κ) : List Int := ((f.find? fun e => decide (e.1 = s)).map (·.2)).getD []
def expG (st : κ → Nat → κ) (here : κ) (x : Fg κ × List κ) (c : Nat) : Fg κ × List κ :=
  if hasG x.1 (st here c) then x else (x.1 ++ [(st here c, valG x.1 here ++ [(c : Int)])], x.2 ++ [st here c])
def lvlG (st : κ → Nat → κ) (m : Nat) (x : Fg κ × List κ) (h : κ) : Fg κ × List κ := (List.range m).foldl (expG st h) x
theorem nodup_sub : ∀ {l U : List κ}, l.Nodup → (∀ x ∈ l, x ∈ U) → l.length ≤ U.length
  | [], _, _, _ => Nat.zero_le _
  | x :: l, U, hn, h => by
    rw [List.nodup_cons] at hn
    have hx := h x (List.mem_cons_self ..)
    have := nodup_sub (l := l) (U := U.erase x) hn.2 fun y hy => (List.mem_erase_of_ne (fun z => hn.1 (by rw [← z]; exact hy))).mpr (h y (List.mem_cons_of_mem _ hy))
    rw [List.length_erase_of_mem hx] at this
    have := List.length_pos_of_mem hx
    rw [List.length_cons]; omega
theorem hasG_iff {f : Fg κ} {s : κ} : hasG f s = true ↔ s ∈ f.map (·.1) := by
  unfold hasG
  rw [List.any_eq_true, List.mem_map]
  constructor
  · rintro ⟨e, he, h⟩; exact ⟨e, he, by simpa using h⟩
  · rintro ⟨e, he, h⟩; exact ⟨e, he, by simpa using h⟩
theorem findG {f : Fg κ} {s : κ} (h : hasG f s = true) : (f.find? fun e => decide (e.1 = s)) = some (s, valG f s) := by
  obtain ⟨e, he, h1⟩ := List.mem_map.mp (hasG_iff.mp h)
  unfold valG
  cases q : f.find? fun e => decide (e.1 = s) with
  | none => exact absurd (decide_eq_true h1) (List.find?_eq_none.mp q e he)
  | some x =>
    have h2 := List.find?_some q
    have h2 : x.1 = s := by simpa using h2
    rw [← h2]; rfl
theorem valG_mem {f : Fg κ} {s : κ} (h : hasG f s = true) : (s, valG f s) ∈ f := List.mem_of_find?_eq_some (findG h)
theorem findG_none {f : Fg κ} {s : κ} (h : hasG f s = false) : (f.find? fun e => decide (e.1 = s)) = none := by
  rw [List.find?_eq_none]
  intro e he z
  have : hasG f s = true := hasG_iff.mpr (List.mem_map.mpr ⟨e, he, by simpa using z⟩)
  rw [this] at h; cases h
/-- what is found is in order -/
structure IG (U : List κ) (f : Fg κ) (q : List κ) : Prop where
  nd : (f.map (·.1)).Nodup
  mem : ∀ e ∈ f, e.1 ∈ U
  q : ∃ d, f.map (·.1) = d ++ q
  pl : ∀ e ∈ f, e.2.length < f.length
theorem IG.le {U : List κ} {f : Fg κ} {q : List κ} (h : IG U f q) : f.length ≤ U.length := by
  have := nodup_sub h.nd fun x hx => by
    obtain ⟨e, he, rfl⟩ := List.mem_map.mp hx
    exact h.mem e he
  rw [List.length_map] at this; exact this
theorem IG.qle {U : List κ} {f : Fg κ} {q : List κ} (h : IG U f q) : q.length ≤ U.length := by
  obtain ⟨d, e⟩ := h.q
  have := congrArg List.length e
  rw [List.length_map, List.length_append] at this
  have := h.le
  omega
theorem IG.inn {U : List κ} {f : Fg κ} {q : List κ} (h : IG U f q) {s : κ} (hh : hasG f s = true) : s ∈ U := by
  obtain ⟨e, he, h1⟩ := List.mem_map.mp (hasG_iff.mp hh)
  rw [← h1]; exact h.mem e he
theorem IG.one {U : List κ} {s : κ} (hs : s ∈ U) : IG U [(s, [])] [s] := ⟨by simp, fun e he => by rw [List.mem_singleton.mp he]; exact hs, ⟨[], rfl⟩, fun e he => by rw [List.mem_singleton.mp he]; exact Nat.zero_lt_one⟩
theorem IG.all {U : List κ} {f : Fg κ} {q : List κ} (h : IG U f q) : IG U f [] ∧ ∀ r ∈ q, hasG f r = true := by
  obtain ⟨d, e⟩ := h.q
  refine ⟨⟨h.nd, h.mem, ⟨d ++ q, by rw [List.append_nil]; exact e⟩, h.pl⟩, fun r hr => hasG_iff.mpr (by rw [e]; exact List.mem_append_right _ hr)⟩
theorem IG.pop {U : List κ} {f : Fg κ} {p : κ} {q : List κ} (h : IG U f (p :: q)) : IG U f q := by
  obtain ⟨d, ed⟩ := h.q
  exact ⟨h.nd, h.mem, ⟨d ++ [p], by rw [ed, List.append_assoc]; rfl⟩, h.pl⟩
/-- steps stay in U -/
def Stays (U : List κ) (st : κ → Nat → κ) (m : Nat) : Prop := ∀ k ∈ U, ∀ c, c < m → st k c ∈ U
variable {U : List κ} {st : κ → Nat → κ} {m : Nat}
theorem hasG_exp {here : κ} {x : Fg κ × List κ} {c : Nat} {s : κ} (h : hasG x.1 s = true) : hasG (expG st here x c).1 s = true := by
  unfold expG
  split
  · exact h
  · rw [hasG_iff] at h ⊢
    rw [List.map_append]
    exact List.mem_append_left _ h
theorem IG.exp (hm : Stays U st m) {here : κ} (hs : here ∈ U) {x : Fg κ × List κ} (h : IG U x.1 x.2) (hh0 : hasG x.1 here = true) {c : Nat} (hc : c < m) : IG U (expG st here x c).1 (expG st here x c).2 := by
  unfold expG
  split
  · exact h
  · rename_i hh
    have hh : hasG x.1 (st here c) = false := by simpa using hh
    have hnm : st here c ∉ x.1.map (·.1) := fun z => by rw [hasG_iff.mpr z] at hh; cases hh
    obtain ⟨d, e⟩ := h.q
    refine ⟨?_, fun e he => ?_, ⟨d, ?_⟩, fun e he => ?_⟩
    · rw [List.map_append, List.nodup_append]
      refine ⟨h.nd, by simp, fun a ha b hb => ?_⟩
      rw [List.map_cons, List.map_nil, List.mem_singleton] at hb
      rw [hb]
      intro z
      have z : a = st here c := z
      exact hnm (by rw [← z]; exact ha)
    · rcases List.mem_append.mp he with he | he
      · exact h.mem e he
      · rw [List.mem_singleton.mp he]
        exact hm _ hs _ hc
    · rw [List.map_append, e, List.append_assoc]; rfl
    · rw [List.length_append, List.length_singleton]
      rcases List.mem_append.mp he with he | he
      · have := h.pl e he; omega
      · rw [List.mem_singleton.mp he]
        have := h.pl _ (valG_mem hh0)
        simp only [List.length_append, List.length_singleton] at this ⊢
        omega
theorem hasG_fold {here s : κ} : ∀ (ks : List Nat) (x : Fg κ × List κ), hasG x.1 s = true → hasG (ks.foldl (expG st here) x).1 s = true
  | [], _, h => h
  | k :: ks, x, h => hasG_fold ks _ (hasG_exp h)
theorem IG.fold (hm : Stays U st m) {here : κ} (hs : here ∈ U) : ∀ (ks : List Nat) {x : Fg κ × List κ}, (∀ k ∈ ks, k < m) → IG U x.1 x.2 → hasG x.1 here = true → IG U (ks.foldl (expG st here) x).1 (ks.foldl (expG st here) x).2
  | [], _, _, h, _ => h
  | k :: ks, x, hk, h, hh => IG.fold hm hs ks (fun j hj => hk j (List.mem_cons_of_mem _ hj)) (h.exp hm hs hh (hk k (List.mem_cons_self ..))) (hasG_exp hh)
theorem exp_len {here : κ} {x : Fg κ × List κ} {k : Nat} : (expG st here x k).1.length + x.2.length = x.1.length + (expG st here x k).2.length := by
  unfold expG
  split
  · rfl
  · simp only [List.length_append, List.length_singleton]; omega
theorem fold_len {here : κ} : ∀ (ks : List Nat) (x : Fg κ × List κ), (ks.foldl (expG st here) x).1.length + x.2.length = x.1.length + (ks.foldl (expG st here) x).2.length
  | [], _ => rfl
  | k :: ks, x => by
    have h1 := fold_len (here := here) ks (expG st here x k)
    have h2 := exp_len (st := st) (here := here) (x := x) (k := k)
    rw [List.foldl_cons]
    omega
theorem rng_lt {m : Nat} : ∀ k ∈ List.range m, k < m := fun _ hk => List.mem_range.mp hk
theorem exp_app {here : κ} {f : Fg κ} {a b : List κ} {k : Nat} : expG st here (f, a ++ b) k = ((expG st here (f, b) k).1, a ++ (expG st here (f, b) k).2) := by
  unfold expG
  dsimp only
  split
  · rfl
  · rw [List.append_assoc]
theorem fold_app {here : κ} : ∀ (ks : List Nat) (f : Fg κ) (a b : List κ), ks.foldl (expG st here) (f, a ++ b) = ((ks.foldl (expG st here) (f, b)).1, a ++ (ks.foldl (expG st here) (f, b)).2)
  | [], _, _, _ => rfl
  | k :: ks, f, a, b => by
    rw [List.foldl_cons, List.foldl_cons, exp_app]
    exact fold_app ks _ _ _
/-- a search by queue -/
inductive BG (st : κ → Nat → κ) (m : Nat) : Fg κ × List κ → Fg κ → Prop
  | done (f : Fg κ) : BG st m (f, []) f
  | step {f : Fg κ} {h : κ} {q : List κ} {f' : Fg κ} : BG st m (lvlG st m (f, q) h) f' → BG st m (f, h :: q) f'
theorem BG.det {x : Fg κ × List κ} {f f' : Fg κ} (h : BG st m x f) (h' : BG st m x f') : f = f' := by
  induction h with
  | done f => cases h'; rfl
  | step _ ih => cases h' with | step h => exact ih h
theorem BG.lvl {f' : Fg κ} : ∀ (rows : List κ) (f : Fg κ) (later : List κ), BG st m (rows.foldl (lvlG st m) (f, later)) f' → BG st m (f, rows ++ later) f'
  | [], _, _, h => h
  | r :: rows, f, later, h => by
    rw [List.cons_append]
    refine .step ?_
    have := fold_app (st := st) (here := r) (List.range m) f rows later
    unfold lvlG
    rw [this]
    exact BG.lvl rows _ _ h
theorem IG.lvl1 (hm : Stays U st m) {r : κ} {x : Fg κ × List κ} (h : IG U x.1 x.2) (hr : hasG x.1 r = true) : IG U (lvlG st m x r).1 (lvlG st m x r).2 :=
  IG.fold hm (h.inn hr) (List.range m) rng_lt h hr
theorem hasG_lvl1 {r s : κ} {x : Fg κ × List κ} (h : hasG x.1 s = true) : hasG (lvlG st m x r).1 s = true := hasG_fold _ _ h
theorem IG.lvl (hm : Stays U st m) : ∀ (rows : List κ) (x : Fg κ × List κ), IG U x.1 x.2 → (∀ r ∈ rows, hasG x.1 r = true) → IG U (rows.foldl (lvlG st m) x).1 (rows.foldl (lvlG st m) x).2
  | [], _, h, _ => h
  | r :: rows, x, h, hr => IG.lvl hm rows _ (h.lvl1 hm (hr r (List.mem_cons_self ..))) fun r' hr' => hasG_lvl1 (hr r' (List.mem_cons_of_mem _ hr'))
theorem lvl_lenG : ∀ (rows : List κ) (x : Fg κ × List κ), (rows.foldl (lvlG st m) x).1.length + x.2.length = x.1.length + (rows.foldl (lvlG st m) x).2.length
  | [], _ => rfl
  | r :: rows, x => by
    have h1 := lvl_lenG rows (lvlG st m x r)
    have h2 := fold_len (st := st) (here := r) (List.range m) x
    rw [List.foldl_cons]
    unfold lvlG at *
    omega
/-- turns of levels -/
def turnG (st : κ → Nat → κ) (m : Nat) (x : Fg κ × List κ) : Fg κ × List κ := x.2.foldl (lvlG st m) (x.1, [])
theorem IG.turn (hm : Stays U st m) {x : Fg κ × List κ} (h : IG U x.1 x.2) : IG U (turnG st m x).1 (turnG st m x).2 :=
  IG.lvl hm x.2 (x.1, []) h.all.1 h.all.2
theorem BG.turn {f' : Fg κ} {x : Fg κ × List κ} (h : BG st m (turnG st m x) f') : BG st m x f' := by
  have := BG.lvl (st := st) (m := m) x.2 x.1 [] h
  rw [List.append_nil] at this
  exact this
/-! ### paths -/
def ledG (st : κ → Nat → κ) (s : κ) (q : List Int) : κ := q.foldl (fun s c => st s c.toNat) s
theorem ledG_snoc {s : κ} {c : Int} {q : List Int} : ledG st s (q ++ [c]) = st (ledG st s q) c.toNat := by
  unfold ledG; rw [List.foldl_append]; rfl
structure PaG (st : κ → Nat → κ) (m : Nat) (s : κ) (f : Fg κ) : Prop where
  led : ∀ e ∈ f, ledG st s e.2 = e.1
  cmd : ∀ e ∈ f, ∀ c ∈ e.2, In m c
  par : ∀ e ∈ f, e.2 = [] ∨ ∃ e' ∈ f, ∃ c, e.2 = e'.2 ++ [c]
theorem PaG.one {s : κ} : PaG st m s [(s, [])] :=
  ⟨fun e he => by rw [List.mem_singleton.mp he]; rfl, fun e he => by rw [List.mem_singleton.mp he]; exact fun c hc => (nomatch hc), fun e he => by rw [List.mem_singleton.mp he]; exact .inl rfl⟩
theorem PaG.exp {s here : κ} {x : Fg κ × List κ} (h : PaG st m s x.1) (hh : hasG x.1 here = true) {k : Nat} (hk : k < m) : PaG st m s (expG st here x k).1 := by
  unfold expG
  split
  · exact h
  · have hv := valG_mem hh
    refine ⟨fun e he => ?_, fun e he => ?_, fun e he => ?_⟩
    · rcases List.mem_append.mp he with he | he
      · exact h.led e he
      · rw [List.mem_singleton.mp he]
        dsimp only
        rw [ledG_snoc, h.led _ hv]; rfl
    · rcases List.mem_append.mp he with he | he
      · exact h.cmd e he
      · rw [List.mem_singleton.mp he]
        intro c hc
        rcases List.mem_append.mp hc with hc | hc
        · exact h.cmd _ hv c hc
        · rw [List.mem_singleton.mp hc]; exact ⟨by omega, by omega⟩
    · rcases List.mem_append.mp he with he | he
      · rcases h.par e he with z | ⟨e', h1, c, h2⟩
        · exact .inl z
        · exact .inr ⟨e', List.mem_append_left _ h1, c, h2⟩
      · rw [List.mem_singleton.mp he]
        exact .inr ⟨_, List.mem_append_left _ hv, _, rfl⟩
theorem PaG.fold {s here : κ} : ∀ (ks : List Nat) {x : Fg κ × List κ}, PaG st m s x.1 → hasG x.1 here = true → (∀ k ∈ ks, k < m) → PaG st m s (ks.foldl (expG st here) x).1
  | [], _, h, _, _ => h
  | k :: ks, x, h, hh, hk => PaG.fold ks (h.exp hh (hk k (List.mem_cons_self ..))) (hasG_exp hh) fun j hj => hk j (List.mem_cons_of_mem _ hj)
theorem PaG.bfs (hm : Stays U st m) {s : κ} {x : Fg κ × List κ} {f' : Fg κ} (hb : BG st m x f') : PaG st m s x.1 → IG U x.1 x.2 → PaG st m s f' := by
  induction hb with
  | done f => exact fun h _ => h
  | @step f p q f' hb ih =>
    intro h hf
    have hh : hasG f p = true := hf.all.2 p (List.mem_cons_self ..)
    exact ih (PaG.fold (x := (f, q)) _ h hh rng_lt) (IG.lvl1 hm hf.pop hh)
theorem IG.bfs (hm : Stays U st m) {x : Fg κ × List κ} {f' : Fg κ} (hb : BG st m x f') : IG U x.1 x.2 → IG U f' [] := by
  induction hb with
  | done f => exact fun h => h
  | @step f p q f' hb ih =>
    intro hf
    exact ih (IG.lvl1 hm hf.pop (hf.all.2 p (List.mem_cons_self ..)))
theorem exp_new {here : κ} {x : Fg κ × List κ} {k : Nat} : hasG (expG st here x k).1 (st here k) = true := by
  unfold expG
  split
  · assumption
  · rw [hasG_iff, List.map_append]
    exact List.mem_append_right _ (by simp)
theorem fold_new {here : κ} : ∀ (ks : List Nat) (x : Fg κ × List κ) (k : Nat), k ∈ ks → hasG (ks.foldl (expG st here) x).1 (st here k) = true
  | j :: ks, x, k, h => by
    rcases List.mem_cons.mp h with rfl | h
    · exact hasG_fold ks _ exp_new
    · exact fold_new ks _ k h
theorem exp_q {here s : κ} {x : Fg κ × List κ} {k : Nat} (h : hasG (expG st here x k).1 s = true) : hasG x.1 s = true ∨ s ∈ (expG st here x k).2 := by
  unfold expG at h ⊢
  split at h
  · exact .inl h
  · rename_i hx
    rw [if_neg hx]
    rw [hasG_iff, List.map_append] at h
    rcases List.mem_append.mp h with h | h
    · exact .inl (hasG_iff.mpr h)
    · have : s = st here k := by simpa using h
      exact .inr (by rw [this]; simp)
theorem exp_qm {here s : κ} {x : Fg κ × List κ} {k : Nat} (h : s ∈ x.2) : s ∈ (expG st here x k).2 := by
  unfold expG
  split
  · exact h
  · exact List.mem_append_left _ h
theorem fold_qm {here s : κ} : ∀ (ks : List Nat) (x : Fg κ × List κ), s ∈ x.2 → s ∈ (ks.foldl (expG st here) x).2
  | [], _, h => h
  | k :: ks, x, h => fold_qm ks _ (exp_qm h)
theorem fold_q {here s : κ} : ∀ (ks : List Nat) (x : Fg κ × List κ), hasG (ks.foldl (expG st here) x).1 s = true → hasG x.1 s = true ∨ s ∈ (ks.foldl (expG st here) x).2
  | [], _, h => .inl h
  | k :: ks, x, h => by
    rcases fold_q ks _ h with h | h
    · rcases exp_q h with h | h
      · exact .inl h
      · exact .inr (fold_qm ks _ h)
    · exact .inr h
theorem bg_closed {x : Fg κ × List κ} {f' : Fg κ} (hb : BG st m x f') : (∀ s, hasG x.1 s = true → s ∉ x.2 → ∀ k, k < m → hasG x.1 (st s k) = true) → ∀ s, hasG f' s = true → ∀ k, k < m → hasG f' (st s k) = true := by
  induction hb with
  | done f => exact fun h s hs k hk => h s hs (by simp) k hk
  | @step f p q f' hb ih =>
    intro h
    refine ih fun s hs hq k hk => ?_
    by_cases hp : s = p
    · rw [hp]; exact fold_new _ _ k (List.mem_range.mpr hk)
    · rcases fold_q _ _ hs with h1 | h1
      · refine hasG_fold _ _ (h s h1 (fun z => ?_) k hk)
        rcases List.mem_cons.mp z with z | z
        · exact hp z
        · exact hq (fold_qm _ _ z)
      · exact absurd h1 hq
theorem bg_keeps {x : Fg κ × List κ} {f' : Fg κ} (hb : BG st m x f') : ∀ s, hasG x.1 s = true → hasG f' s = true := by
  induction hb with
  | done f => exact fun s h => h
  | step hb ih => exact fun s h => ih s (hasG_fold _ _ h)
/-- a search from s, ended -/
structure SG (U : List κ) (st : κ → Nat → κ) (m : Nat) (s : κ) (f : Fg κ) : Prop where
  bg : BG st m ([(s, [])], [s]) f
  ig : IG U f []
  pg : PaG st m s f
  cl : ∀ s, hasG f s = true → ∀ k, k < m → hasG f (st s k) = true
  me : hasG f s = true
theorem SG.of (hm : Stays U st m) {s : κ} (hs : s ∈ U) {f : Fg κ} (hb : BG st m ([(s, [])], [s]) f) : SG U st m s f := by
  refine ⟨hb, IG.bfs hm hb (IG.one hs), PaG.bfs hm hb PaG.one (IG.one hs), bg_closed hb fun s' hs' hq => ?_, bg_keeps hb s (by unfold hasG; simp)⟩
  have : s' = s := by unfold hasG at hs'; have z : s = s' := (by simpa using hs'); exact z.symm
  exact absurd (by rw [this]; simp) hq
theorem SG.det {s : κ} {f g : Fg κ} (h : SG U st m s f) (h' : BG st m ([(s, [])], [s]) g) : g = f := h'.det h.bg
end
end Dn
end
section
set_option Elab.async false
set_option linter.all false
set_option maxRecDepth 100000
set_option maxHeartbeats 1000000
namespace Dn
open PySem L2
/-! ### loops by folds -/
theorem forL_fold {α β : Type} {g : PV → DEnv → Option DEnv} {body : DS} {S : Stor} {Q : OutS → Prop} (enc : β → PV) (J : α → DEnv → Prop) (I : α → Prop) (f : α → β → α) :
    ∀ (bs : List β) (x : α) (e : DEnv), (∀ x b e, b ∈ bs → I x → J x e → ∃ e1, g (enc b) e = some e1 ∧ I (f x b) ∧ wpS body e1 S (fun o => ∃ e', o = .nx e' S ∧ J (f x b) e')) →
    I x → J x e → (∀ e', I (bs.foldl f x) → J (bs.foldl f x) e' → Q (.nx e' S)) → wpS (forL g body (bs.map enc)) e S Q
  | [], x, e, _, hi, hj, hq => hq e hi hj
  | b :: bs, x, e, hb, hi, hj, hq => by
    obtain ⟨e1, h1, h2, h3⟩ := hb x b e (List.mem_cons_self ..) hi hj
    unfold wpS at h3
    obtain ⟨e', h4, h5⟩ := h3
    rw [List.map_cons]
    exact forL_nx h1 h4 (forL_fold enc J I f bs (f x b) e' (fun x c e hc => hb x c e (List.mem_cons_of_mem _ hc)) h2 h5 hq)
/-- while by turns of a search -/
theorem wh_turns {κ : Type} [DecidableEq κ] {U : List κ} {st : κ → Nat → κ} {m : Nat} (hm : Stays U st m) {t : Den Bool} {b : DS} {S : Stor} {Q : OutS → Prop} (J : Fg κ × List κ → DEnv → Prop)
    (ht : ∀ x e, IG U x.1 x.2 → J x e → t e S = .ok (!x.2.isEmpty) e S) (hb : ∀ x e, IG U x.1 x.2 → J x e → wpS b e S fun o => ∃ e', o = .nx e' S ∧ J (turnG st m x) e') :
    ∀ (N : Nat) (x : Fg κ × List κ) (e : DEnv), IG U x.1 x.2 → U.length + 1 < N + x.1.length → J x e → (∀ f e', BG st m x f → J (f, []) e' → Q (.nx e' S)) → wpS (whL t b N) e S Q
  | 0, x, e, hi, hN, hj, hq => by have := hi.le; omega
  | N + 1, (f, []), e, hi, hN, hj, hq => whL_false (ht _ _ hi hj) (hq f e (.done f) hj)
  | N + 1, (f, p :: q), e, hi, hN, hj, hq => by
    have h1 := hb _ _ hi hj
    unfold wpS at h1
    obtain ⟨e', h2, h3⟩ := h1
    refine whL_true (ht _ _ hi hj) h2 ?_
    have hi2 := IG.turn hm hi
    have len := lvl_lenG (st := st) (m := m) (p :: q) (f, [])
    cases hN2 : (turnG st m (f, p :: q)).2 with
    | nil =>
      cases N with
      | zero =>
        have h0 : f.length ≤ U.length := hi.le
        have hN' : U.length + 1 < 0 + 1 + f.length := hN
        omega
      | succ N =>
        have e0 : turnG st m (f, p :: q) = ((turnG st m (f, p :: q)).1, []) := Prod.ext rfl hN2
        rw [e0] at h3 hi2
        refine whL_false (ht _ _ hi2 h3) (hq _ e' (BG.turn ?_) h3)
        rw [e0]; exact .done _
    | cons a l =>
      refine wh_turns hm J ht hb N _ e' hi2 ?_ h3 fun f' e2 hf => hq f' e2 (BG.turn hf)
      have : (turnG st m (f, p :: q)).2.length = l.length + 1 := by rw [hN2]; rfl
      have l2 : (turnG st m (f, p :: q)).1.length = f.length + (turnG st m (f, p :: q)).2.length := by unfold turnG; simpa using len
      have hN' : U.length + 1 < N + 1 + f.length := hN
      omega
/-! ### pairs -/
abbrev Pr := Int × Int
def encP (p : Pr) : PV := .tup [.int p.1, .int p.2]
def kP (p : Pr) : List Key := [.inl p.1, .inl p.2]
theorem kP_inj {p q : Pr} : kP p = kP q ↔ p = q := by
  unfold kP
  constructor
  · intro h
    have h1 : p.1 = q.1 := by injection h with a _; injection a
    have h2 : p.2 = q.2 := by injection h with _ b; injection b with a _; injection a
    exact Prod.ext h1 h2
  · rintro rfl; rfl
/-- a dict of values by pairs -/
def enD (v : List Int → PV) (f : Fg Pr) : List (List Key × PV) := f.map fun e => (kP e.1, v e.2)
def enP (f : Fg Pr) : List (List Key × PV) := enD encC f
theorem get_enD {v : List Int → PV} {f : Fg Pr} {s : Pr} : getKV (enD v f) (kP s) = (f.find? fun e => decide (e.1 = s)).map fun e => v e.2 := by
  induction f with
  | nil => rfl
  | cons e f ih =>
    unfold getKV enD at *
    rw [List.map_cons, List.find?_cons, List.find?_cons]
    by_cases h : e.1 = s
    · rw [decide_eq_true (by rw [h]), decide_eq_true h]; rfl
    · rw [decide_eq_false (by intro z; exact h (kP_inj.mp z)), decide_eq_false h]; exact ih
theorem has_enD {v : List Int → PV} {f : Fg Pr} {s : Pr} : (getKV (enD v f) (kP s)).isSome = hasG f s := by
  rw [get_enD, Option.isSome_map]
  cases h : hasG f s with
  | true => rw [findG h]; rfl
  | false => rw [findG_none h]; rfl
theorem val_enD {v : List Int → PV} {f : Fg Pr} {s : Pr} (h : hasG f s = true) : getKV (enD v f) (kP s) = some (v (valG f s)) := by
  rw [get_enD, findG h]; rfl
theorem put_enD {v : List Int → PV} {f : Fg Pr} {s : Pr} {q : List Int} (h : hasG f s = false) : putKV (enD v f) (kP s) (v q) = enD v (f ++ [(s, q)]) := by
  unfold putKV
  have : ((enD v f).any fun kv => decide (kv.1 = kP s)) = false := by
    rw [← h]; unfold enD hasG; rw [List.any_map]
    congr 1
    funext e
    simp [kP_inj]
  rw [this, if_neg Bool.false_ne_true]
  unfold enD
  rw [List.map_append]; rfl
theorem len_enD {v : List Int → PV} {f : Fg Pr} : (enD v f).length = f.length := by unfold enD; rw [List.length_map]
section
variable {e : DEnv} {S : Stor} {Q : Out PV → Prop} {neg : Bool} {kts : List (List Key × PV)} {p : Pr}
theorem iQ_ot' {a b : Int} : iQ neg (.tup [.int a, .int b]) e S Q (some (.ot kts)) = Q (.ok (.bl (if neg then !(getKV kts (kP (a, b))).isSome else (getKV kts (kP (a, b))).isSome)) e S) := id rfl
theorem putO_ot {a b : Int} {v : PV} (h : kts.length < sizeLine) : putO (.ot kts) (.tup [.int a, .int b]) v = some (.ot (putKV kts (kP (a, b)) v)) := by
  unfold putO; dsimp only; rw [if_pos h]; rfl
end
/-- both systems' steps -/
def stp2 (cs ds : List (List Int)) (p : Pr) (c : Nat) : Pr := (stp cs p.1 c, stp ds p.2 c)
def UP (n k : Int) : List Pr := (List.range n.toNat).flatMap fun (a : Nat) => (List.range k.toNat).map fun (b : Nat) => ((a : Int), (b : Int))
theorem mem_UP {n k : Int} {p : Pr} : p ∈ UP n k ↔ In n p.1 ∧ In k p.2 := by
  unfold UP In
  rw [List.mem_flatMap]
  constructor
  · rintro ⟨a, ha, h⟩
    obtain ⟨b, hb, rfl⟩ := List.mem_map.mp h
    have := List.mem_range.mp ha; have := List.mem_range.mp hb
    dsimp only; omega
  · rintro ⟨⟨h1, h2⟩, h3, h4⟩
    refine ⟨p.1.toNat, List.mem_range.mpr (by omega), List.mem_map.mpr ⟨p.2.toNat, List.mem_range.mpr (by omega), ?_⟩⟩
    exact Prod.ext (by show ((p.1.toNat : Nat) : Int) = p.1; omega) (by show ((p.2.toNat : Nat) : Int) = p.2; omega)
theorem len_UP (n k : Int) : (UP n k).length = n.toNat * k.toNat := by
  unfold UP
  rw [List.length_flatMap]
  simp [List.map_const']
theorem stays2 {n k : Int} {cs ds : List (List Int)} (h1 : ∀ c ∈ cs, GC n c) (h2 : ∀ c ∈ ds, GC k c) (hl : ds.length = cs.length) : Stays (UP n k) (stp2 cs ds) cs.length := by
  intro p hp c hc
  rw [mem_UP] at hp ⊢
  exact ⟨stp_in h1 hp.1 (show In cs.length (c : Int) from ⟨by omega, by omega⟩), stp_in h2 hp.2 (show In ds.length (c : Int) from ⟨by omega, by omega⟩)⟩
end Dn
end
section
set_option Elab.async false
set_option linter.all false
set_option maxRecDepth 100000
set_option maxHeartbeats 1000000
namespace Dn
open PySem L2
section
variable {n s0 : Int} {cs : List (List Int)} {S : Stor}
def pfB : DS := (sSeq (sSet 8 (dTup (aCons (dCall d_step (aCons (dVar 0) (aCons (d2 ixP (dVar 6) (dC (.int 0))) (aCons (dVar 7) aNil)))) (aCons (dCall d_step (aCons (dVar 0) (aCons (d2 ixP (dVar 6) (dC (.int 1))) (aCons (dVar 7) aNil)))) aNil))))
  (sIf (dT (dInO true 3 (dVar 8))) (sSeq (sPutO 3 (dVar 8) (d2 addP (dIxO 3 (dVar 6)) (dTup (aCons (dVar 7) aNil))))
  (sApp 5 (dVar 8))) sNext))
abbrev Xp := Fg Pr × List Pr
def pfJ (n s0 : Int) (cs : List (List Int)) (p1 p2 p4 p6 : Slot) (x : Xp) (e : DEnv) : Prop := ∃ x7 x8, e = [.v (sysV n s0 cs), p1, p2, .ot (enP x.1), p4, .ol (x.2.map encP), p6, x7, x8]
theorem pf_step (hm : ∀ c ∈ cs, GC n c) (hN : (UP n n).length < 100000) {p1 p2 p4 x8 : Slot} {here : Pr} (hh1 : In n here.1) (hh2 : In n here.2) {x : Xp} (hf : IG (UP n n) x.1 x.2) (hh : hasG x.1 here = true) {k : Nat} (hk : k < cs.length) :
    wpS pfB [.v (sysV n s0 cs), p1, p2, .ot (enP x.1), p4, .ol (x.2.map encP), .v (encP here), .v (.int k), x8] S fun o => ∃ e', o = .nx e' S ∧ pfJ n s0 cs p1 p2 p4 (.v (encP here)) (expG (stp2 cs cs) here x k) e' := by
  have hc : In cs.length (k : Int) := ⟨by omega, by omega⟩
  unfold pfB encP
  rw [wpS_seq]
  simp only [List.map, List.replicate, List.cons_append, List.nil_append, List.length_cons, List.length_nil, Nat.reduceAdd, bq_ok, bq_ex, wp_pure, wp_fail, wp_getS, oQ_some, oQ_ite, bqS_ok, bqS_ex, wpS_seq, sqS_nx, sqS_rt, sqS_bk, sqS_ct, sqS_ex, wpS_next, wpS_break, wpS_cont, wpS_retN, wpS_setT, stQ_some, wp_C, wp_call, wp_callv, bqF_ok, bqF_ex, wp_new, wp_newv, fqS_nx, fqS_rt, fqS_ex, wpS_for, wp_comp, wp_dVar, vQ_v, vQ_o, List.getElem?_cons_zero, List.getElem?_cons_succ, List.set_cons_zero, List.set_cons_succ, wp_d1, wp_k1, wp_d2, wp_k2, wp_k2b, wp_dT, wp_kT, wp_dTru, wp_kTru, wp_dNotT, wp_kNot, wp_dAndT, wp_kAnd, wp_dOrT, wp_kOr, wp_dAndV, wp_kAndV, wp_kAndVb, wp_dOrV, wp_kOrV, wp_kOrVb, wp_dNotV, wp_kNotV, wp_kNotVb, wp_dIf, wp_kIf, wp_dChain, wp_kCh, wp_kCh2, wp_kCh3, wp_aNil, wp_aCons, wp_kCons, wp_kCons2, wp_dTup, wp_kTup, wp_dLst, wp_kLst, wp_dN, wp_kN, wp_dLs, wp_kLs, wp_lDisp, wp_kDisp, wp_lRng, wp_kRng, wp_dItR, wp_kItR, wp_dItS, wp_kItS, wp_tTrue, wp_oNo, wp_oSome, wp_kSome, wp_dSl, wp_kSl, wp_kSl1, wp_kSl2, ws_ret, ws_kRet, ws_expr, ws_kExpr, ws_if, ws_kIfS, ws_set, ws_kSet, ws_setO, ws_kSetO, ws_kSetT, ws_setR, ws_kSetR0, ws_kSetR1, ws_kSetR2, items_t, items_ft, items_l, items_r, setAll, Bool.not_true, Bool.not_false, if_true, ite_true, ite_false, ↓reduceIte, Bool.false_eq_true, Int.reduceLT, Int.reduceLE, Nat.reduceLT, Nat.reduceLeDiff, Nat.reducePow, Int.reducePow, Int.reduceToNat, Int.reduceNeg, Int.reduceSub, Int.reduceAdd, and_self, and_true, true_and, decide_eq_true_eq, decide_true, decide_false, List.length_map, ixN_31, ixN_32, ixN_30, wipeE, restE, lcQ, Option.getD_some, add_i, add_t, add_l, sub_i, mul_i, mul_t, mul_l, fdiv_i, mod_i, pow_18, neg_i, lt_i, le_i, gt_i, ge_i, eq_i, ne_i, eq_b, len_t, len_ft, len_l, len_r, abs_i, int_i, list_t, list_ft, list_l, list_r, tuple_t, tuple_ft, tuple_l, isi_i, isi_b, isi_s, isi_t, isi_ft, isi_l, isi_r, isi_n, tru_b, tru_i, tru_t, tru_ft, tru_l, tru_n, isN_n, isN_b, isN_i, isN_s, isN_t, isN_l, ix_t, ix_ft, ix_l, ix_r, ix_ref, setS_ref, atI_0, atI_1, atI_2, Option.map_some, Option.map_none, kb0, kb1, kb2, kb3, kb4, kb5, kb6, kb7, kb8, kb9, kb10, kb11, kb12, kb13, kb14, kb15, kb16, kb17, kb18, kb19, kb20, kb21, kb22, kb23, kb24, kb25, kb26, kb27, kb28, kb29, sz0, szl0, sz1, szl1, sz2, szl2, sz3, szl3, sz4, szl4, sz5, szl5, sz6, szl6, sz7, szl7, sz8, szl8, sz9, szl9, sz10, szl10, sz11, szl11, sz12, szl12, sz13, szl13, sz14, szl14, sz15, szl15, sz16, szl16, sz17, szl17, sz18, szl18, sz19, szl19, sz20, szl20, sz21, szl21, sz22, szl22, sz23, szl23, sz24, szl24, sz25, szl25, sz26, szl26, sz27, szl27, sz28, szl28, sz29, szl29, sz30, szl30, sz31, szl31, sz32, szl32, sz33, szl33, sz34, szl34, sz35, szl35, sz36, szl36, sz37, szl37, sz38, szl38, sz39, szl39, sz40, szl40]
  refine wp_step hm hh1 hc ?_
  simp only [List.map, List.replicate, List.cons_append, List.nil_append, List.length_cons, List.length_nil, Nat.reduceAdd, bq_ok, bq_ex, wp_pure, wp_fail, wp_getS, oQ_some, oQ_ite, bqS_ok, bqS_ex, wpS_seq, sqS_nx, sqS_rt, sqS_bk, sqS_ct, sqS_ex, wpS_next, wpS_break, wpS_cont, wpS_retN, wpS_setT, stQ_some, wp_C, wp_call, wp_callv, bqF_ok, bqF_ex, wp_new, wp_newv, fqS_nx, fqS_rt, fqS_ex, wpS_for, wp_comp, wp_dVar, vQ_v, vQ_o, List.getElem?_cons_zero, List.getElem?_cons_succ, List.set_cons_zero, List.set_cons_succ, wp_d1, wp_k1, wp_d2, wp_k2, wp_k2b, wp_dT, wp_kT, wp_dTru, wp_kTru, wp_dNotT, wp_kNot, wp_dAndT, wp_kAnd, wp_dOrT, wp_kOr, wp_dAndV, wp_kAndV, wp_kAndVb, wp_dOrV, wp_kOrV, wp_kOrVb, wp_dNotV, wp_kNotV, wp_kNotVb, wp_dIf, wp_kIf, wp_dChain, wp_kCh, wp_kCh2, wp_kCh3, wp_aNil, wp_aCons, wp_kCons, wp_kCons2, wp_dTup, wp_kTup, wp_dLst, wp_kLst, wp_dN, wp_kN, wp_dLs, wp_kLs, wp_lDisp, wp_kDisp, wp_lRng, wp_kRng, wp_dItR, wp_kItR, wp_dItS, wp_kItS, wp_tTrue, wp_oNo, wp_oSome, wp_kSome, wp_dSl, wp_kSl, wp_kSl1, wp_kSl2, ws_ret, ws_kRet, ws_expr, ws_kExpr, ws_if, ws_kIfS, ws_set, ws_kSet, ws_setO, ws_kSetO, ws_kSetT, ws_setR, ws_kSetR0, ws_kSetR1, ws_kSetR2, items_t, items_ft, items_l, items_r, setAll, Bool.not_true, Bool.not_false, if_true, ite_true, ite_false, ↓reduceIte, Bool.false_eq_true, Int.reduceLT, Int.reduceLE, Nat.reduceLT, Nat.reduceLeDiff, Nat.reducePow, Int.reducePow, Int.reduceToNat, Int.reduceNeg, Int.reduceSub, Int.reduceAdd, and_self, and_true, true_and, decide_eq_true_eq, decide_true, decide_false, List.length_map, ixN_31, ixN_32, ixN_30, wipeE, restE, lcQ, Option.getD_some, add_i, add_t, add_l, sub_i, mul_i, mul_t, mul_l, fdiv_i, mod_i, pow_18, neg_i, lt_i, le_i, gt_i, ge_i, eq_i, ne_i, eq_b, len_t, len_ft, len_l, len_r, abs_i, int_i, list_t, list_ft, list_l, list_r, tuple_t, tuple_ft, tuple_l, isi_i, isi_b, isi_s, isi_t, isi_ft, isi_l, isi_r, isi_n, tru_b, tru_i, tru_t, tru_ft, tru_l, tru_n, isN_n, isN_b, isN_i, isN_s, isN_t, isN_l, ix_t, ix_ft, ix_l, ix_r, ix_ref, setS_ref, atI_0, atI_1, atI_2, Option.map_some, Option.map_none, kb0, kb1, kb2, kb3, kb4, kb5, kb6, kb7, kb8, kb9, kb10, kb11, kb12, kb13, kb14, kb15, kb16, kb17, kb18, kb19, kb20, kb21, kb22, kb23, kb24, kb25, kb26, kb27, kb28, kb29, sz0, szl0, sz1, szl1, sz2, szl2, sz3, szl3, sz4, szl4, sz5, szl5, sz6, szl6, sz7, szl7, sz8, szl8, sz9, szl9, sz10, szl10, sz11, szl11, sz12, szl12, sz13, szl13, sz14, szl14, sz15, szl15, sz16, szl16, sz17, szl17, sz18, szl18, sz19, szl19, sz20, szl20, sz21, szl21, sz22, szl22, sz23, szl23, sz24, szl24, sz25, szl25, sz26, szl26, sz27, szl27, sz28, szl28, sz29, szl29, sz30, szl30, sz31, szl31, sz32, szl32, sz33, szl33, sz34, szl34, sz35, szl35, sz36, szl36, sz37, szl37, sz38, szl38, sz39, szl39, sz40, szl40]
  refine wp_step hm hh2 hc ?_
  have e1 : (stp cs here.1 (k : Int), stp cs here.2 (k : Int)) = stp2 cs cs here k := rfl
  simp only [List.map, List.replicate, List.cons_append, List.nil_append, List.length_cons, List.length_nil, Nat.reduceAdd, bq_ok, bq_ex, wp_pure, wp_fail, wp_getS, oQ_some, oQ_ite, bqS_ok, bqS_ex, wpS_seq, sqS_nx, sqS_rt, sqS_bk, sqS_ct, sqS_ex, wpS_next, wpS_break, wpS_cont, wpS_retN, wpS_setT, stQ_some, wp_C, wp_call, wp_callv, bqF_ok, bqF_ex, wp_new, wp_newv, fqS_nx, fqS_rt, fqS_ex, wpS_for, wp_comp, wp_dVar, vQ_v, vQ_o, List.getElem?_cons_zero, List.getElem?_cons_succ, List.set_cons_zero, List.set_cons_succ, wp_d1, wp_k1, wp_d2, wp_k2, wp_k2b, wp_dT, wp_kT, wp_dTru, wp_kTru, wp_dNotT, wp_kNot, wp_dAndT, wp_kAnd, wp_dOrT, wp_kOr, wp_dAndV, wp_kAndV, wp_kAndVb, wp_dOrV, wp_kOrV, wp_kOrVb, wp_dNotV, wp_kNotV, wp_kNotVb, wp_dIf, wp_kIf, wp_dChain, wp_kCh, wp_kCh2, wp_kCh3, wp_aNil, wp_aCons, wp_kCons, wp_kCons2, wp_dTup, wp_kTup, wp_dLst, wp_kLst, wp_dN, wp_kN, wp_dLs, wp_kLs, wp_lDisp, wp_kDisp, wp_lRng, wp_kRng, wp_dItR, wp_kItR, wp_dItS, wp_kItS, wp_tTrue, wp_oNo, wp_oSome, wp_kSome, wp_dSl, wp_kSl, wp_kSl1, wp_kSl2, ws_ret, ws_kRet, ws_expr, ws_kExpr, ws_if, ws_kIfS, ws_set, ws_kSet, ws_setO, ws_kSetO, ws_kSetT, ws_setR, ws_kSetR0, ws_kSetR1, ws_kSetR2, items_t, items_ft, items_l, items_r, setAll, Bool.not_true, Bool.not_false, if_true, ite_true, ite_false, ↓reduceIte, Bool.false_eq_true, Int.reduceLT, Int.reduceLE, Nat.reduceLT, Nat.reduceLeDiff, Nat.reducePow, Int.reducePow, Int.reduceToNat, Int.reduceNeg, Int.reduceSub, Int.reduceAdd, and_self, and_true, true_and, decide_eq_true_eq, decide_true, decide_false, List.length_map, ixN_31, ixN_32, ixN_30, wipeE, restE, lcQ, Option.getD_some, add_i, add_t, add_l, sub_i, mul_i, mul_t, mul_l, fdiv_i, mod_i, pow_18, neg_i, lt_i, le_i, gt_i, ge_i, eq_i, ne_i, eq_b, len_t, len_ft, len_l, len_r, abs_i, int_i, list_t, list_ft, list_l, list_r, tuple_t, tuple_ft, tuple_l, isi_i, isi_b, isi_s, isi_t, isi_ft, isi_l, isi_r, isi_n, tru_b, tru_i, tru_t, tru_ft, tru_l, tru_n, isN_n, isN_b, isN_i, isN_s, isN_t, isN_l, ix_t, ix_ft, ix_l, ix_r, ix_ref, setS_ref, atI_0, atI_1, atI_2, Option.map_some, Option.map_none, kb0, kb1, kb2, kb3, kb4, kb5, kb6, kb7, kb8, kb9, kb10, kb11, kb12, kb13, kb14, kb15, kb16, kb17, kb18, kb19, kb20, kb21, kb22, kb23, kb24, kb25, kb26, kb27, kb28, kb29, sz0, szl0, sz1, szl1, sz2, szl2, sz3, szl3, sz4, szl4, sz5, szl5, sz6, szl6, sz7, szl7, sz8, szl8, sz9, szl9, sz10, szl10, sz11, szl11, sz12, szl12, sz13, szl13, sz14, szl14, sz15, szl15, sz16, szl16, sz17, szl17, sz18, szl18, sz19, szl19, sz20, szl20, sz21, szl21, sz22, szl22, sz23, szl23, sz24, szl24, sz25, szl25, sz26, szl26, sz27, szl27, sz28, szl28, sz29, szl29, sz30, szl30, sz31, szl31, sz32, szl32, sz33, szl33, sz34, szl34, sz35, szl35, sz36, szl36, sz37, szl37, sz38, szl38, sz39, szl39, sz40, szl40, wp_inO, wp_kInO, iQ_ot', e1]
  unfold enP
  rw [has_enD]
  unfold expG
  cases hx : hasG x.1 (stp2 cs cs here k) with
  | true =>
    simp only [List.map, List.replicate, List.cons_append, List.nil_append, List.length_cons, List.length_nil, Nat.reduceAdd, bq_ok, bq_ex, wp_pure, wp_fail, wp_getS, oQ_some, oQ_ite, bqS_ok, bqS_ex, wpS_seq, sqS_nx, sqS_rt, sqS_bk, sqS_ct, sqS_ex, wpS_next, wpS_break, wpS_cont, wpS_retN, wpS_setT, stQ_some, wp_C, wp_call, wp_callv, bqF_ok, bqF_ex, wp_new, wp_newv, fqS_nx, fqS_rt, fqS_ex, wpS_for, wp_comp, wp_dVar, vQ_v, vQ_o, List.getElem?_cons_zero, List.getElem?_cons_succ, List.set_cons_zero, List.set_cons_succ, wp_d1, wp_k1, wp_d2, wp_k2, wp_k2b, wp_dT, wp_kT, wp_dTru, wp_kTru, wp_dNotT, wp_kNot, wp_dAndT, wp_kAnd, wp_dOrT, wp_kOr, wp_dAndV, wp_kAndV, wp_kAndVb, wp_dOrV, wp_kOrV, wp_kOrVb, wp_dNotV, wp_kNotV, wp_kNotVb, wp_dIf, wp_kIf, wp_dChain, wp_kCh, wp_kCh2, wp_kCh3, wp_aNil, wp_aCons, wp_kCons, wp_kCons2, wp_dTup, wp_kTup, wp_dLst, wp_kLst, wp_dN, wp_kN, wp_dLs, wp_kLs, wp_lDisp, wp_kDisp, wp_lRng, wp_kRng, wp_dItR, wp_kItR, wp_dItS, wp_kItS, wp_tTrue, wp_oNo, wp_oSome, wp_kSome, wp_dSl, wp_kSl, wp_kSl1, wp_kSl2, ws_ret, ws_kRet, ws_expr, ws_kExpr, ws_if, ws_kIfS, ws_set, ws_kSet, ws_setO, ws_kSetO, ws_kSetT, ws_setR, ws_kSetR0, ws_kSetR1, ws_kSetR2, items_t, items_ft, items_l, items_r, setAll, Bool.not_true, Bool.not_false, if_true, ite_true, ite_false, ↓reduceIte, Bool.false_eq_true, Int.reduceLT, Int.reduceLE, Nat.reduceLT, Nat.reduceLeDiff, Nat.reducePow, Int.reducePow, Int.reduceToNat, Int.reduceNeg, Int.reduceSub, Int.reduceAdd, and_self, and_true, true_and, decide_eq_true_eq, decide_true, decide_false, List.length_map, ixN_31, ixN_32, ixN_30, wipeE, restE, lcQ, Option.getD_some, add_i, add_t, add_l, sub_i, mul_i, mul_t, mul_l, fdiv_i, mod_i, pow_18, neg_i, lt_i, le_i, gt_i, ge_i, eq_i, ne_i, eq_b, len_t, len_ft, len_l, len_r, abs_i, int_i, list_t, list_ft, list_l, list_r, tuple_t, tuple_ft, tuple_l, isi_i, isi_b, isi_s, isi_t, isi_ft, isi_l, isi_r, isi_n, tru_b, tru_i, tru_t, tru_ft, tru_l, tru_n, isN_n, isN_b, isN_i, isN_s, isN_t, isN_l, ix_t, ix_ft, ix_l, ix_r, ix_ref, setS_ref, atI_0, atI_1, atI_2, Option.map_some, Option.map_none, kb0, kb1, kb2, kb3, kb4, kb5, kb6, kb7, kb8, kb9, kb10, kb11, kb12, kb13, kb14, kb15, kb16, kb17, kb18, kb19, kb20, kb21, kb22, kb23, kb24, kb25, kb26, kb27, kb28, kb29, sz0, szl0, sz1, szl1, sz2, szl2, sz3, szl3, sz4, szl4, sz5, szl5, sz6, szl6, sz7, szl7, sz8, szl8, sz9, szl9, sz10, szl10, sz11, szl11, sz12, szl12, sz13, szl13, sz14, szl14, sz15, szl15, sz16, szl16, sz17, szl17, sz18, szl18, sz19, szl19, sz20, szl20, sz21, szl21, sz22, szl22, sz23, szl23, sz24, szl24, sz25, szl25, sz26, szl26, sz27, szl27, sz28, szl28, sz29, szl29, sz30, szl30, sz31, szl31, sz32, szl32, sz33, szl33, sz34, szl34, sz35, szl35, sz36, szl36, sz37, szl37, sz38, szl38, sz39, szl39, sz40, szl40]
    exact ⟨_, rfl, _, _, rfl⟩
  | false =>
    have fl := hf.le
    have ql := hf.qle
    have vl := hf.pl _ (valG_mem hh)
    dsimp only at vl
    simp only [List.map, List.replicate, List.cons_append, List.nil_append, List.length_cons, List.length_nil, Nat.reduceAdd, bq_ok, bq_ex, wp_pure, wp_fail, wp_getS, oQ_some, oQ_ite, bqS_ok, bqS_ex, wpS_seq, sqS_nx, sqS_rt, sqS_bk, sqS_ct, sqS_ex, wpS_next, wpS_break, wpS_cont, wpS_retN, wpS_setT, stQ_some, wp_C, wp_call, wp_callv, bqF_ok, bqF_ex, wp_new, wp_newv, fqS_nx, fqS_rt, fqS_ex, wpS_for, wp_comp, wp_dVar, vQ_v, vQ_o, List.getElem?_cons_zero, List.getElem?_cons_succ, List.set_cons_zero, List.set_cons_succ, wp_d1, wp_k1, wp_d2, wp_k2, wp_k2b, wp_dT, wp_kT, wp_dTru, wp_kTru, wp_dNotT, wp_kNot, wp_dAndT, wp_kAnd, wp_dOrT, wp_kOr, wp_dAndV, wp_kAndV, wp_kAndVb, wp_dOrV, wp_kOrV, wp_kOrVb, wp_dNotV, wp_kNotV, wp_kNotVb, wp_dIf, wp_kIf, wp_dChain, wp_kCh, wp_kCh2, wp_kCh3, wp_aNil, wp_aCons, wp_kCons, wp_kCons2, wp_dTup, wp_kTup, wp_dLst, wp_kLst, wp_dN, wp_kN, wp_dLs, wp_kLs, wp_lDisp, wp_kDisp, wp_lRng, wp_kRng, wp_dItR, wp_kItR, wp_dItS, wp_kItS, wp_tTrue, wp_oNo, wp_oSome, wp_kSome, wp_dSl, wp_kSl, wp_kSl1, wp_kSl2, ws_ret, ws_kRet, ws_expr, ws_kExpr, ws_if, ws_kIfS, ws_set, ws_kSet, ws_setO, ws_kSetO, ws_kSetT, ws_setR, ws_kSetR0, ws_kSetR1, ws_kSetR2, items_t, items_ft, items_l, items_r, setAll, Bool.not_true, Bool.not_false, if_true, ite_true, ite_false, ↓reduceIte, Bool.false_eq_true, Int.reduceLT, Int.reduceLE, Nat.reduceLT, Nat.reduceLeDiff, Nat.reducePow, Int.reducePow, Int.reduceToNat, Int.reduceNeg, Int.reduceSub, Int.reduceAdd, and_self, and_true, true_and, decide_eq_true_eq, decide_true, decide_false, List.length_map, ixN_31, ixN_32, ixN_30, wipeE, restE, lcQ, Option.getD_some, add_i, add_t, add_l, sub_i, mul_i, mul_t, mul_l, fdiv_i, mod_i, pow_18, neg_i, lt_i, le_i, gt_i, ge_i, eq_i, ne_i, eq_b, len_t, len_ft, len_l, len_r, abs_i, int_i, list_t, list_ft, list_l, list_r, tuple_t, tuple_ft, tuple_l, isi_i, isi_b, isi_s, isi_t, isi_ft, isi_l, isi_r, isi_n, tru_b, tru_i, tru_t, tru_ft, tru_l, tru_n, isN_n, isN_b, isN_i, isN_s, isN_t, isN_l, ix_t, ix_ft, ix_l, ix_r, ix_ref, setS_ref, atI_0, atI_1, atI_2, Option.map_some, Option.map_none, kb0, kb1, kb2, kb3, kb4, kb5, kb6, kb7, kb8, kb9, kb10, kb11, kb12, kb13, kb14, kb15, kb16, kb17, kb18, kb19, kb20, kb21, kb22, kb23, kb24, kb25, kb26, kb27, kb28, kb29, sz0, szl0, sz1, szl1, sz2, szl2, sz3, szl3, sz4, szl4, sz5, szl5, sz6, szl6, sz7, szl7, sz8, szl8, sz9, szl9, sz10, szl10, sz11, szl11, sz12, szl12, sz13, szl13, sz14, szl14, sz15, szl15, sz16, szl16, sz17, szl17, sz18, szl18, sz19, szl19, sz20, szl20, sz21, szl21, sz22, szl22, sz23, szl23, sz24, szl24, sz25, szl25, sz26, szl26, sz27, szl27, sz28, szl28, sz29, szl29, sz30, szl30, sz31, szl31, sz32, szl32, sz33, szl33, sz34, szl34, sz35, szl35, sz36, szl36, sz37, szl37, sz38, szl38, sz39, szl39, sz40, szl40, ws_putO]
    rw [wp_ixO rfl rfl]
    simp only [List.map, List.replicate, List.cons_append, List.nil_append, List.length_cons, List.length_nil, Nat.reduceAdd, bq_ok, bq_ex, wp_pure, wp_fail, wp_getS, oQ_some, oQ_ite, bqS_ok, bqS_ex, wpS_seq, sqS_nx, sqS_rt, sqS_bk, sqS_ct, sqS_ex, wpS_next, wpS_break, wpS_cont, wpS_retN, wpS_setT, stQ_some, wp_C, wp_call, wp_callv, bqF_ok, bqF_ex, wp_new, wp_newv, fqS_nx, fqS_rt, fqS_ex, wpS_for, wp_comp, wp_dVar, vQ_v, vQ_o, List.getElem?_cons_zero, List.getElem?_cons_succ, List.set_cons_zero, List.set_cons_succ, wp_d1, wp_k1, wp_d2, wp_k2, wp_k2b, wp_dT, wp_kT, wp_dTru, wp_kTru, wp_dNotT, wp_kNot, wp_dAndT, wp_kAnd, wp_dOrT, wp_kOr, wp_dAndV, wp_kAndV, wp_kAndVb, wp_dOrV, wp_kOrV, wp_kOrVb, wp_dNotV, wp_kNotV, wp_kNotVb, wp_dIf, wp_kIf, wp_dChain, wp_kCh, wp_kCh2, wp_kCh3, wp_aNil, wp_aCons, wp_kCons, wp_kCons2, wp_dTup, wp_kTup, wp_dLst, wp_kLst, wp_dN, wp_kN, wp_dLs, wp_kLs, wp_lDisp, wp_kDisp, wp_lRng, wp_kRng, wp_dItR, wp_kItR, wp_dItS, wp_kItS, wp_tTrue, wp_oNo, wp_oSome, wp_kSome, wp_dSl, wp_kSl, wp_kSl1, wp_kSl2, ws_ret, ws_kRet, ws_expr, ws_kExpr, ws_if, ws_kIfS, ws_set, ws_kSet, ws_setO, ws_kSetO, ws_kSetT, ws_setR, ws_kSetR0, ws_kSetR1, ws_kSetR2, items_t, items_ft, items_l, items_r, setAll, Bool.not_true, Bool.not_false, if_true, ite_true, ite_false, ↓reduceIte, Bool.false_eq_true, Int.reduceLT, Int.reduceLE, Nat.reduceLT, Nat.reduceLeDiff, Nat.reducePow, Int.reducePow, Int.reduceToNat, Int.reduceNeg, Int.reduceSub, Int.reduceAdd, and_self, and_true, true_and, decide_eq_true_eq, decide_true, decide_false, List.length_map, ixN_31, ixN_32, ixN_30, wipeE, restE, lcQ, Option.getD_some, add_i, add_t, add_l, sub_i, mul_i, mul_t, mul_l, fdiv_i, mod_i, pow_18, neg_i, lt_i, le_i, gt_i, ge_i, eq_i, ne_i, eq_b, len_t, len_ft, len_l, len_r, abs_i, int_i, list_t, list_ft, list_l, list_r, tuple_t, tuple_ft, tuple_l, isi_i, isi_b, isi_s, isi_t, isi_ft, isi_l, isi_r, isi_n, tru_b, tru_i, tru_t, tru_ft, tru_l, tru_n, isN_n, isN_b, isN_i, isN_s, isN_t, isN_l, ix_t, ix_ft, ix_l, ix_r, ix_ref, setS_ref, atI_0, atI_1, atI_2, Option.map_some, Option.map_none, kb0, kb1, kb2, kb3, kb4, kb5, kb6, kb7, kb8, kb9, kb10, kb11, kb12, kb13, kb14, kb15, kb16, kb17, kb18, kb19, kb20, kb21, kb22, kb23, kb24, kb25, kb26, kb27, kb28, kb29, sz0, szl0, sz1, szl1, sz2, szl2, sz3, szl3, sz4, szl4, sz5, szl5, sz6, szl6, sz7, szl7, sz8, szl8, sz9, szl9, sz10, szl10, sz11, szl11, sz12, szl12, sz13, szl13, sz14, szl14, sz15, szl15, sz16, szl16, sz17, szl17, sz18, szl18, sz19, szl19, sz20, szl20, sz21, szl21, sz22, szl22, sz23, szl23, sz24, szl24, sz25, szl25, sz26, szl26, sz27, szl27, sz28, szl28, sz29, szl29, sz30, szl30, sz31, szl31, sz32, szl32, sz33, szl33, sz34, szl34, sz35, szl35, sz36, szl36, sz37, szl37, sz38, szl38, sz39, szl39, sz40, szl40]
    rw [wp_kIxO rfl (show getO (.ot (enD encC x.1)) (.tup [.int here.1, .int here.2]) = some (encC (valG x.1 here)) from val_enD hh)]
    unfold encC
    simp only [List.map, List.replicate, List.cons_append, List.nil_append, List.length_cons, List.length_nil, Nat.reduceAdd, bq_ok, bq_ex, wp_pure, wp_fail, wp_getS, oQ_some, oQ_ite, bqS_ok, bqS_ex, wpS_seq, sqS_nx, sqS_rt, sqS_bk, sqS_ct, sqS_ex, wpS_next, wpS_break, wpS_cont, wpS_retN, wpS_setT, stQ_some, wp_C, wp_call, wp_callv, bqF_ok, bqF_ex, wp_new, wp_newv, fqS_nx, fqS_rt, fqS_ex, wpS_for, wp_comp, wp_dVar, vQ_v, vQ_o, List.getElem?_cons_zero, List.getElem?_cons_succ, List.set_cons_zero, List.set_cons_succ, wp_d1, wp_k1, wp_d2, wp_k2, wp_k2b, wp_dT, wp_kT, wp_dTru, wp_kTru, wp_dNotT, wp_kNot, wp_dAndT, wp_kAnd, wp_dOrT, wp_kOr, wp_dAndV, wp_kAndV, wp_kAndVb, wp_dOrV, wp_kOrV, wp_kOrVb, wp_dNotV, wp_kNotV, wp_kNotVb, wp_dIf, wp_kIf, wp_dChain, wp_kCh, wp_kCh2, wp_kCh3, wp_aNil, wp_aCons, wp_kCons, wp_kCons2, wp_dTup, wp_kTup, wp_dLst, wp_kLst, wp_dN, wp_kN, wp_dLs, wp_kLs, wp_lDisp, wp_kDisp, wp_lRng, wp_kRng, wp_dItR, wp_kItR, wp_dItS, wp_kItS, wp_tTrue, wp_oNo, wp_oSome, wp_kSome, wp_dSl, wp_kSl, wp_kSl1, wp_kSl2, ws_ret, ws_kRet, ws_expr, ws_kExpr, ws_if, ws_kIfS, ws_set, ws_kSet, ws_setO, ws_kSetO, ws_kSetT, ws_setR, ws_kSetR0, ws_kSetR1, ws_kSetR2, items_t, items_ft, items_l, items_r, setAll, Bool.not_true, Bool.not_false, if_true, ite_true, ite_false, ↓reduceIte, Bool.false_eq_true, Int.reduceLT, Int.reduceLE, Nat.reduceLT, Nat.reduceLeDiff, Nat.reducePow, Int.reducePow, Int.reduceToNat, Int.reduceNeg, Int.reduceSub, Int.reduceAdd, and_self, and_true, true_and, decide_eq_true_eq, decide_true, decide_false, List.length_map, ixN_31, ixN_32, ixN_30, wipeE, restE, lcQ, Option.getD_some, add_i, add_t, add_l, sub_i, mul_i, mul_t, mul_l, fdiv_i, mod_i, pow_18, neg_i, lt_i, le_i, gt_i, ge_i, eq_i, ne_i, eq_b, len_t, len_ft, len_l, len_r, abs_i, int_i, list_t, list_ft, list_l, list_r, tuple_t, tuple_ft, tuple_l, isi_i, isi_b, isi_s, isi_t, isi_ft, isi_l, isi_r, isi_n, tru_b, tru_i, tru_t, tru_ft, tru_l, tru_n, isN_n, isN_b, isN_i, isN_s, isN_t, isN_l, ix_t, ix_ft, ix_l, ix_r, ix_ref, setS_ref, atI_0, atI_1, atI_2, Option.map_some, Option.map_none, kb0, kb1, kb2, kb3, kb4, kb5, kb6, kb7, kb8, kb9, kb10, kb11, kb12, kb13, kb14, kb15, kb16, kb17, kb18, kb19, kb20, kb21, kb22, kb23, kb24, kb25, kb26, kb27, kb28, kb29, sz0, szl0, sz1, szl1, sz2, szl2, sz3, szl3, sz4, szl4, sz5, szl5, sz6, szl6, sz7, szl7, sz8, szl8, sz9, szl9, sz10, szl10, sz11, szl11, sz12, szl12, sz13, szl13, sz14, szl14, sz15, szl15, sz16, szl16, sz17, szl17, sz18, szl18, sz19, szl19, sz20, szl20, sz21, szl21, sz22, szl22, sz23, szl23, sz24, szl24, sz25, szl25, sz26, szl26, sz27, szl27, sz28, szl28, sz29, szl29, sz30, szl30, sz31, szl31, sz32, szl32, sz33, szl33, sz34, szl34, sz35, szl35, sz36, szl36, sz37, szl37, sz38, szl38, sz39, szl39, sz40, szl40]
    rw [if_pos (by unfold sizeLine; omega)]
    rw [ws_kPut1 rfl rfl]
    simp only [List.map, List.replicate, List.cons_append, List.nil_append, List.length_cons, List.length_nil, Nat.reduceAdd, bq_ok, bq_ex, wp_pure, wp_fail, wp_getS, oQ_some, oQ_ite, bqS_ok, bqS_ex, wpS_seq, sqS_nx, sqS_rt, sqS_bk, sqS_ct, sqS_ex, wpS_next, wpS_break, wpS_cont, wpS_retN, wpS_setT, stQ_some, wp_C, wp_call, wp_callv, bqF_ok, bqF_ex, wp_new, wp_newv, fqS_nx, fqS_rt, fqS_ex, wpS_for, wp_comp, wp_dVar, vQ_v, vQ_o, List.getElem?_cons_zero, List.getElem?_cons_succ, List.set_cons_zero, List.set_cons_succ, wp_d1, wp_k1, wp_d2, wp_k2, wp_k2b, wp_dT, wp_kT, wp_dTru, wp_kTru, wp_dNotT, wp_kNot, wp_dAndT, wp_kAnd, wp_dOrT, wp_kOr, wp_dAndV, wp_kAndV, wp_kAndVb, wp_dOrV, wp_kOrV, wp_kOrVb, wp_dNotV, wp_kNotV, wp_kNotVb, wp_dIf, wp_kIf, wp_dChain, wp_kCh, wp_kCh2, wp_kCh3, wp_aNil, wp_aCons, wp_kCons, wp_kCons2, wp_dTup, wp_kTup, wp_dLst, wp_kLst, wp_dN, wp_kN, wp_dLs, wp_kLs, wp_lDisp, wp_kDisp, wp_lRng, wp_kRng, wp_dItR, wp_kItR, wp_dItS, wp_kItS, wp_tTrue, wp_oNo, wp_oSome, wp_kSome, wp_dSl, wp_kSl, wp_kSl1, wp_kSl2, ws_ret, ws_kRet, ws_expr, ws_kExpr, ws_if, ws_kIfS, ws_set, ws_kSet, ws_setO, ws_kSetO, ws_kSetT, ws_setR, ws_kSetR0, ws_kSetR1, ws_kSetR2, items_t, items_ft, items_l, items_r, setAll, Bool.not_true, Bool.not_false, if_true, ite_true, ite_false, ↓reduceIte, Bool.false_eq_true, Int.reduceLT, Int.reduceLE, Nat.reduceLT, Nat.reduceLeDiff, Nat.reducePow, Int.reducePow, Int.reduceToNat, Int.reduceNeg, Int.reduceSub, Int.reduceAdd, and_self, and_true, true_and, decide_eq_true_eq, decide_true, decide_false, List.length_map, ixN_31, ixN_32, ixN_30, wipeE, restE, lcQ, Option.getD_some, add_i, add_t, add_l, sub_i, mul_i, mul_t, mul_l, fdiv_i, mod_i, pow_18, neg_i, lt_i, le_i, gt_i, ge_i, eq_i, ne_i, eq_b, len_t, len_ft, len_l, len_r, abs_i, int_i, list_t, list_ft, list_l, list_r, tuple_t, tuple_ft, tuple_l, isi_i, isi_b, isi_s, isi_t, isi_ft, isi_l, isi_r, isi_n, tru_b, tru_i, tru_t, tru_ft, tru_l, tru_n, isN_n, isN_b, isN_i, isN_s, isN_t, isN_l, ix_t, ix_ft, ix_l, ix_r, ix_ref, setS_ref, atI_0, atI_1, atI_2, Option.map_some, Option.map_none, kb0, kb1, kb2, kb3, kb4, kb5, kb6, kb7, kb8, kb9, kb10, kb11, kb12, kb13, kb14, kb15, kb16, kb17, kb18, kb19, kb20, kb21, kb22, kb23, kb24, kb25, kb26, kb27, kb28, kb29, sz0, szl0, sz1, szl1, sz2, szl2, sz3, szl3, sz4, szl4, sz5, szl5, sz6, szl6, sz7, szl7, sz8, szl8, sz9, szl9, sz10, szl10, sz11, szl11, sz12, szl12, sz13, szl13, sz14, szl14, sz15, szl15, sz16, szl16, sz17, szl17, sz18, szl18, sz19, szl19, sz20, szl20, sz21, szl21, sz22, szl22, sz23, szl23, sz24, szl24, sz25, szl25, sz26, szl26, sz27, szl27, sz28, szl28, sz29, szl29, sz30, szl30, sz31, szl31, sz32, szl32, sz33, szl33, sz34, szl34, sz35, szl35, sz36, szl36, sz37, szl37, sz38, szl38, sz39, szl39, sz40, szl40]
    rw [ws_kPut2 (sl2 := .ot (enD encC (x.1 ++ [(stp2 cs cs here k, valG x.1 here ++ [(k : Int)])]))) rfl ?_]
    · simp only [List.map, List.replicate, List.cons_append, List.nil_append, List.length_cons, List.length_nil, Nat.reduceAdd, bq_ok, bq_ex, wp_pure, wp_fail, wp_getS, oQ_some, oQ_ite, bqS_ok, bqS_ex, wpS_seq, sqS_nx, sqS_rt, sqS_bk, sqS_ct, sqS_ex, wpS_next, wpS_break, wpS_cont, wpS_retN, wpS_setT, stQ_some, wp_C, wp_call, wp_callv, bqF_ok, bqF_ex, wp_new, wp_newv, fqS_nx, fqS_rt, fqS_ex, wpS_for, wp_comp, wp_dVar, vQ_v, vQ_o, List.getElem?_cons_zero, List.getElem?_cons_succ, List.set_cons_zero, List.set_cons_succ, wp_d1, wp_k1, wp_d2, wp_k2, wp_k2b, wp_dT, wp_kT, wp_dTru, wp_kTru, wp_dNotT, wp_kNot, wp_dAndT, wp_kAnd, wp_dOrT, wp_kOr, wp_dAndV, wp_kAndV, wp_kAndVb, wp_dOrV, wp_kOrV, wp_kOrVb, wp_dNotV, wp_kNotV, wp_kNotVb, wp_dIf, wp_kIf, wp_dChain, wp_kCh, wp_kCh2, wp_kCh3, wp_aNil, wp_aCons, wp_kCons, wp_kCons2, wp_dTup, wp_kTup, wp_dLst, wp_kLst, wp_dN, wp_kN, wp_dLs, wp_kLs, wp_lDisp, wp_kDisp, wp_lRng, wp_kRng, wp_dItR, wp_kItR, wp_dItS, wp_kItS, wp_tTrue, wp_oNo, wp_oSome, wp_kSome, wp_dSl, wp_kSl, wp_kSl1, wp_kSl2, ws_ret, ws_kRet, ws_expr, ws_kExpr, ws_if, ws_kIfS, ws_set, ws_kSet, ws_setO, ws_kSetO, ws_kSetT, ws_setR, ws_kSetR0, ws_kSetR1, ws_kSetR2, items_t, items_ft, items_l, items_r, setAll, Bool.not_true, Bool.not_false, if_true, ite_true, ite_false, ↓reduceIte, Bool.false_eq_true, Int.reduceLT, Int.reduceLE, Nat.reduceLT, Nat.reduceLeDiff, Nat.reducePow, Int.reducePow, Int.reduceToNat, Int.reduceNeg, Int.reduceSub, Int.reduceAdd, and_self, and_true, true_and, decide_eq_true_eq, decide_true, decide_false, List.length_map, ixN_31, ixN_32, ixN_30, wipeE, restE, lcQ, Option.getD_some, add_i, add_t, add_l, sub_i, mul_i, mul_t, mul_l, fdiv_i, mod_i, pow_18, neg_i, lt_i, le_i, gt_i, ge_i, eq_i, ne_i, eq_b, len_t, len_ft, len_l, len_r, abs_i, int_i, list_t, list_ft, list_l, list_r, tuple_t, tuple_ft, tuple_l, isi_i, isi_b, isi_s, isi_t, isi_ft, isi_l, isi_r, isi_n, tru_b, tru_i, tru_t, tru_ft, tru_l, tru_n, isN_n, isN_b, isN_i, isN_s, isN_t, isN_l, ix_t, ix_ft, ix_l, ix_r, ix_ref, setS_ref, atI_0, atI_1, atI_2, Option.map_some, Option.map_none, kb0, kb1, kb2, kb3, kb4, kb5, kb6, kb7, kb8, kb9, kb10, kb11, kb12, kb13, kb14, kb15, kb16, kb17, kb18, kb19, kb20, kb21, kb22, kb23, kb24, kb25, kb26, kb27, kb28, kb29, sz0, szl0, sz1, szl1, sz2, szl2, sz3, szl3, sz4, szl4, sz5, szl5, sz6, szl6, sz7, szl7, sz8, szl8, sz9, szl9, sz10, szl10, sz11, szl11, sz12, szl12, sz13, szl13, sz14, szl14, sz15, szl15, sz16, szl16, sz17, szl17, sz18, szl18, sz19, szl19, sz20, szl20, sz21, szl21, sz22, szl22, sz23, szl23, sz24, szl24, sz25, szl25, sz26, szl26, sz27, szl27, sz28, szl28, sz29, szl29, sz30, szl30, sz31, szl31, sz32, szl32, sz33, szl33, sz34, szl34, sz35, szl35, sz36, szl36, sz37, szl37, sz38, szl38, sz39, szl39, sz40, szl40]
      rw [wpS_app rfl]
      simp only [List.map, List.replicate, List.cons_append, List.nil_append, List.length_cons, List.length_nil, Nat.reduceAdd, bq_ok, bq_ex, wp_pure, wp_fail, wp_getS, oQ_some, oQ_ite, bqS_ok, bqS_ex, wpS_seq, sqS_nx, sqS_rt, sqS_bk, sqS_ct, sqS_ex, wpS_next, wpS_break, wpS_cont, wpS_retN, wpS_setT, stQ_some, wp_C, wp_call, wp_callv, bqF_ok, bqF_ex, wp_new, wp_newv, fqS_nx, fqS_rt, fqS_ex, wpS_for, wp_comp, wp_dVar, vQ_v, vQ_o, List.getElem?_cons_zero, List.getElem?_cons_succ, List.set_cons_zero, List.set_cons_succ, wp_d1, wp_k1, wp_d2, wp_k2, wp_k2b, wp_dT, wp_kT, wp_dTru, wp_kTru, wp_dNotT, wp_kNot, wp_dAndT, wp_kAnd, wp_dOrT, wp_kOr, wp_dAndV, wp_kAndV, wp_kAndVb, wp_dOrV, wp_kOrV, wp_kOrVb, wp_dNotV, wp_kNotV, wp_kNotVb, wp_dIf, wp_kIf, wp_dChain, wp_kCh, wp_kCh2, wp_kCh3, wp_aNil, wp_aCons, wp_kCons, wp_kCons2, wp_dTup, wp_kTup, wp_dLst, wp_kLst, wp_dN, wp_kN, wp_dLs, wp_kLs, wp_lDisp, wp_kDisp, wp_lRng, wp_kRng, wp_dItR, wp_kItR, wp_dItS, wp_kItS, wp_tTrue, wp_oNo, wp_oSome, wp_kSome, wp_dSl, wp_kSl, wp_kSl1, wp_kSl2, ws_ret, ws_kRet, ws_expr, ws_kExpr, ws_if, ws_kIfS, ws_set, ws_kSet, ws_setO, ws_kSetO, ws_kSetT, ws_setR, ws_kSetR0, ws_kSetR1, ws_kSetR2, items_t, items_ft, items_l, items_r, setAll, Bool.not_true, Bool.not_false, if_true, ite_true, ite_false, ↓reduceIte, Bool.false_eq_true, Int.reduceLT, Int.reduceLE, Nat.reduceLT, Nat.reduceLeDiff, Nat.reducePow, Int.reducePow, Int.reduceToNat, Int.reduceNeg, Int.reduceSub, Int.reduceAdd, and_self, and_true, true_and, decide_eq_true_eq, decide_true, decide_false, List.length_map, ixN_31, ixN_32, ixN_30, wipeE, restE, lcQ, Option.getD_some, add_i, add_t, add_l, sub_i, mul_i, mul_t, mul_l, fdiv_i, mod_i, pow_18, neg_i, lt_i, le_i, gt_i, ge_i, eq_i, ne_i, eq_b, len_t, len_ft, len_l, len_r, abs_i, int_i, list_t, list_ft, list_l, list_r, tuple_t, tuple_ft, tuple_l, isi_i, isi_b, isi_s, isi_t, isi_ft, isi_l, isi_r, isi_n, tru_b, tru_i, tru_t, tru_ft, tru_l, tru_n, isN_n, isN_b, isN_i, isN_s, isN_t, isN_l, ix_t, ix_ft, ix_l, ix_r, ix_ref, setS_ref, atI_0, atI_1, atI_2, Option.map_some, Option.map_none, kb0, kb1, kb2, kb3, kb4, kb5, kb6, kb7, kb8, kb9, kb10, kb11, kb12, kb13, kb14, kb15, kb16, kb17, kb18, kb19, kb20, kb21, kb22, kb23, kb24, kb25, kb26, kb27, kb28, kb29, sz0, szl0, sz1, szl1, sz2, szl2, sz3, szl3, sz4, szl4, sz5, szl5, sz6, szl6, sz7, szl7, sz8, szl8, sz9, szl9, sz10, szl10, sz11, szl11, sz12, szl12, sz13, szl13, sz14, szl14, sz15, szl15, sz16, szl16, sz17, szl17, sz18, szl18, sz19, szl19, sz20, szl20, sz21, szl21, sz22, szl22, sz23, szl23, sz24, szl24, sz25, szl25, sz26, szl26, sz27, szl27, sz28, szl28, sz29, szl29, sz30, szl30, sz31, szl31, sz32, szl32, sz33, szl33, sz34, szl34, sz35, szl35, sz36, szl36, sz37, szl37, sz38, szl38, sz39, szl39, sz40, szl40]
      rw [wpS_appv rfl (by rw [List.length_map]; unfold sizeLine; omega)]
      exact ⟨_, rfl, _, _, by rw [List.map_append]; rfl⟩
    · have e2 := putO_ot (kts := enD encC x.1) (a := stp cs here.1 (k : Int)) (b := stp cs here.2 (k : Int)) (v := encC (valG x.1 here ++ [(k : Int)])) (by rw [len_enD]; unfold sizeLine; omega)
      rw [e1, put_enD hx] at e2
      unfold encC at e2 ⊢; rw [List.map_append] at e2; exact e2
def pfC : DS := sFor (dItR (dN lenP (aCons (d2 ixP (dVar 0) (dC (.int 2))) aNil))) (tgN 7) pfB
def pfK (n s0 : Int) (cs : List (List Int)) (p1 p2 p4 : Slot) (x : Xp) (e : DEnv) : Prop := ∃ x6, pfJ n s0 cs p1 p2 p4 x6 x e
theorem pf_lvl (hm : ∀ c ∈ cs, GC n c) (hcl : cs.length ≤ 1000) (hN : (UP n n).length < 100000) {p1 p2 p4 x7 x8 : Slot} {here : Pr} {x : Xp} (hf : IG (UP n n) x.1 x.2) (hh : hasG x.1 here = true) :
    wpS pfC [.v (sysV n s0 cs), p1, p2, .ot (enP x.1), p4, .ol (x.2.map encP), .v (encP here), x7, x8] S fun o => ∃ e', o = .nx e' S ∧ pfK n s0 cs p1 p2 p4 (lvlG (stp2 cs cs) cs.length x here) e' := by
  have hi := mem_UP.mp (hf.inn hh)
  have e1 : -1000000 ≤ (cs.length : Int) ∧ (cs.length : Int) ≤ 1000000 := by omega
  unfold pfC
  rw [wpS_for]
  simp only [List.map, List.replicate, List.cons_append, List.nil_append, List.length_cons, List.length_nil, Nat.reduceAdd, bq_ok, bq_ex, wp_pure, wp_fail, wp_getS, oQ_some, oQ_ite, bqS_ok, bqS_ex, wpS_seq, sqS_nx, sqS_rt, sqS_bk, sqS_ct, sqS_ex, wpS_next, wpS_break, wpS_cont, wpS_retN, wpS_setT, stQ_some, wp_C, wp_call, wp_callv, bqF_ok, bqF_ex, wp_new, wp_newv, fqS_nx, fqS_rt, fqS_ex, wpS_for, wp_comp, wp_dVar, vQ_v, vQ_o, List.getElem?_cons_zero, List.getElem?_cons_succ, List.set_cons_zero, List.set_cons_succ, wp_d1, wp_k1, wp_d2, wp_k2, wp_k2b, wp_dT, wp_kT, wp_dTru, wp_kTru, wp_dNotT, wp_kNot, wp_dAndT, wp_kAnd, wp_dOrT, wp_kOr, wp_dAndV, wp_kAndV, wp_kAndVb, wp_dOrV, wp_kOrV, wp_kOrVb, wp_dNotV, wp_kNotV, wp_kNotVb, wp_dIf, wp_kIf, wp_dChain, wp_kCh, wp_kCh2, wp_kCh3, wp_aNil, wp_aCons, wp_kCons, wp_kCons2, wp_dTup, wp_kTup, wp_dLst, wp_kLst, wp_dN, wp_kN, wp_dLs, wp_kLs, wp_lDisp, wp_kDisp, wp_lRng, wp_kRng, wp_dItR, wp_kItR, wp_dItS, wp_kItS, wp_tTrue, wp_oNo, wp_oSome, wp_kSome, wp_dSl, wp_kSl, wp_kSl1, wp_kSl2, ws_ret, ws_kRet, ws_expr, ws_kExpr, ws_if, ws_kIfS, ws_set, ws_kSet, ws_setO, ws_kSetO, ws_kSetT, ws_setR, ws_kSetR0, ws_kSetR1, ws_kSetR2, items_t, items_ft, items_l, items_r, setAll, Bool.not_true, Bool.not_false, if_true, ite_true, ite_false, ↓reduceIte, Bool.false_eq_true, Int.reduceLT, Int.reduceLE, Nat.reduceLT, Nat.reduceLeDiff, Nat.reducePow, Int.reducePow, Int.reduceToNat, Int.reduceNeg, Int.reduceSub, Int.reduceAdd, and_self, and_true, true_and, decide_eq_true_eq, decide_true, decide_false, List.length_map, ixN_31, ixN_32, ixN_30, wipeE, restE, lcQ, Option.getD_some, add_i, add_t, add_l, sub_i, mul_i, mul_t, mul_l, fdiv_i, mod_i, pow_18, neg_i, lt_i, le_i, gt_i, ge_i, eq_i, ne_i, eq_b, len_t, len_ft, len_l, len_r, abs_i, int_i, list_t, list_ft, list_l, list_r, tuple_t, tuple_ft, tuple_l, isi_i, isi_b, isi_s, isi_t, isi_ft, isi_l, isi_r, isi_n, tru_b, tru_i, tru_t, tru_ft, tru_l, tru_n, isN_n, isN_b, isN_i, isN_s, isN_t, isN_l, ix_t, ix_ft, ix_l, ix_r, ix_ref, setS_ref, atI_0, atI_1, atI_2, Option.map_some, Option.map_none, kb0, kb1, kb2, kb3, kb4, kb5, kb6, kb7, kb8, kb9, kb10, kb11, kb12, kb13, kb14, kb15, kb16, kb17, kb18, kb19, kb20, kb21, kb22, kb23, kb24, kb25, kb26, kb27, kb28, kb29, sz0, szl0, sz1, szl1, sz2, szl2, sz3, szl3, sz4, szl4, sz5, szl5, sz6, szl6, sz7, szl7, sz8, szl8, sz9, szl9, sz10, szl10, sz11, szl11, sz12, szl12, sz13, szl13, sz14, szl14, sz15, szl15, sz16, szl16, sz17, szl17, sz18, szl18, sz19, szl19, sz20, szl20, sz21, szl21, sz22, szl22, sz23, szl23, sz24, szl24, sz25, szl25, sz26, szl26, sz27, szl27, sz28, szl28, sz29, szl29, sz30, szl30, sz31, szl31, sz32, szl32, sz33, szl33, sz34, szl34, sz35, szl35, sz36, szl36, sz37, szl37, sz38, szl38, sz39, szl39, sz40, szl40, e1]
  refine forL_fold (fun k : Nat => PV.int (k : Int)) (pfJ n s0 cs p1 p2 p4 (.v (encP here))) (fun x => IG (UP n n) x.1 x.2 ∧ hasG x.1 here = true) (expG (stp2 cs cs) here) (List.range cs.length) x _ ?_ ⟨hf, hh⟩ ⟨_, _, rfl⟩ fun e' _ he => ⟨e', rfl, _, he⟩
  rintro x k e hk ⟨hf, hh⟩ ⟨x7, x8, rfl⟩
  have hk := List.mem_range.mp hk
  exact ⟨_, rfl, ⟨hf.exp (stays2 hm hm rfl) (mem_UP.mpr hi) hh hk, hasG_exp hh⟩, pf_step hm hN hi.1 hi.2 hf hh hk⟩
def pfD : DS := (sSeq (sSetO 5 (lDisp aNil)) (sSeq (sFor (dItS (dVar 4)) (tgN 6) pfC) (sSet 4 (dVar 5))))
def pfL (n s0 : Int) (cs : List (List Int)) (p1 p2 : Slot) (x : Xp) (e : DEnv) : Prop := ∃ x5 x6 x7 x8, e = [.v (sysV n s0 cs), p1, p2, .ot (enP x.1), .v (.lst (x.2.map encP)), x5, x6, x7, x8]
theorem pf_turn (hm : ∀ c ∈ cs, GC n c) (hcl : cs.length ≤ 1000) (hN : (UP n n).length < 100000) {p1 p2 : Slot} {x : Xp} {e : DEnv} (hf : IG (UP n n) x.1 x.2) (he : pfL n s0 cs p1 p2 x e) :
    wpS pfD e S fun o => ∃ e', o = .nx e' S ∧ pfL n s0 cs p1 p2 (turnG (stp2 cs cs) cs.length x) e' := by
  obtain ⟨x5, x6, x7, x8, rfl⟩ := he
  unfold pfD
  rw [wpS_seq]
  simp only [List.map, List.replicate, List.cons_append, List.nil_append, List.length_cons, List.length_nil, Nat.reduceAdd, bq_ok, bq_ex, wp_pure, wp_fail, wp_getS, oQ_some, oQ_ite, bqS_ok, bqS_ex, sqS_nx, sqS_rt, sqS_bk, sqS_ct, sqS_ex, wpS_next, wpS_break, wpS_cont, wpS_retN, wpS_setT, stQ_some, wp_C, wp_call, wp_callv, bqF_ok, bqF_ex, wp_new, wp_newv, fqS_nx, fqS_rt, fqS_ex, wpS_for, wp_comp, wp_dVar, vQ_v, vQ_o, List.getElem?_cons_zero, List.getElem?_cons_succ, List.set_cons_zero, List.set_cons_succ, wp_d1, wp_k1, wp_d2, wp_k2, wp_k2b, wp_dT, wp_kT, wp_dTru, wp_kTru, wp_dNotT, wp_kNot, wp_dAndT, wp_kAnd, wp_dOrT, wp_kOr, wp_dAndV, wp_kAndV, wp_kAndVb, wp_dOrV, wp_kOrV, wp_kOrVb, wp_dNotV, wp_kNotV, wp_kNotVb, wp_dIf, wp_kIf, wp_dChain, wp_kCh, wp_kCh2, wp_kCh3, wp_aNil, wp_aCons, wp_kCons, wp_kCons2, wp_dTup, wp_kTup, wp_dLst, wp_kLst, wp_dN, wp_kN, wp_dLs, wp_kLs, wp_lDisp, wp_kDisp, wp_lRng, wp_kRng, wp_dItR, wp_kItR, wp_dItS, wp_kItS, wp_tTrue, wp_oNo, wp_oSome, wp_kSome, wp_dSl, wp_kSl, wp_kSl1, wp_kSl2, ws_ret, ws_kRet, ws_expr, ws_kExpr, ws_if, ws_kIfS, ws_set, ws_kSet, ws_setO, ws_kSetO, ws_kSetT, ws_setR, ws_kSetR0, ws_kSetR1, ws_kSetR2, items_t, items_ft, items_l, items_r, setAll, Bool.not_true, Bool.not_false, if_true, ite_true, ite_false, ↓reduceIte, Bool.false_eq_true, Int.reduceLT, Int.reduceLE, Nat.reduceLT, Nat.reduceLeDiff, Nat.reducePow, Int.reducePow, Int.reduceToNat, Int.reduceNeg, Int.reduceSub, Int.reduceAdd, and_self, and_true, true_and, decide_eq_true_eq, decide_true, decide_false, List.length_map, ixN_31, ixN_32, ixN_30, wipeE, restE, lcQ, Option.getD_some, add_i, add_t, add_l, sub_i, mul_i, mul_t, mul_l, fdiv_i, mod_i, pow_18, neg_i, lt_i, le_i, gt_i, ge_i, eq_i, ne_i, eq_b, len_t, len_ft, len_l, len_r, abs_i, int_i, list_t, list_ft, list_l, list_r, tuple_t, tuple_ft, tuple_l, isi_i, isi_b, isi_s, isi_t, isi_ft, isi_l, isi_r, isi_n, tru_b, tru_i, tru_t, tru_ft, tru_l, tru_n, isN_n, isN_b, isN_i, isN_s, isN_t, isN_l, ix_t, ix_ft, ix_l, ix_r, ix_ref, setS_ref, atI_0, atI_1, atI_2, Option.map_some, Option.map_none, kb0, kb1, kb2, kb3, kb4, kb5, kb6, kb7, kb8, kb9, kb10, kb11, kb12, kb13, kb14, kb15, kb16, kb17, kb18, kb19, kb20, kb21, kb22, kb23, kb24, kb25, kb26, kb27, kb28, kb29, sz0, szl0, sz1, szl1, sz2, szl2, sz3, szl3, sz4, szl4, sz5, szl5, sz6, szl6, sz7, szl7, sz8, szl8, sz9, szl9, sz10, szl10, sz11, szl11, sz12, szl12, sz13, szl13, sz14, szl14, sz15, szl15, sz16, szl16, sz17, szl17, sz18, szl18, sz19, szl19, sz20, szl20, sz21, szl21, sz22, szl22, sz23, szl23, sz24, szl24, sz25, szl25, sz26, szl26, sz27, szl27, sz28, szl28, sz29, szl29, sz30, szl30, sz31, szl31, sz32, szl32, sz33, szl33, sz34, szl34, sz35, szl35, sz36, szl36, sz37, szl37, sz38, szl38, sz39, szl39, sz40, szl40]
  rw [wpS_seq]
  simp only [List.map, List.replicate, List.cons_append, List.nil_append, List.length_cons, List.length_nil, Nat.reduceAdd, bq_ok, bq_ex, wp_pure, wp_fail, wp_getS, oQ_some, oQ_ite, bqS_ok, bqS_ex, sqS_nx, sqS_rt, sqS_bk, sqS_ct, sqS_ex, wpS_next, wpS_break, wpS_cont, wpS_retN, wpS_setT, stQ_some, wp_C, wp_call, wp_callv, bqF_ok, bqF_ex, wp_new, wp_newv, fqS_nx, fqS_rt, fqS_ex, wpS_for, wp_comp, wp_dVar, vQ_v, vQ_o, List.getElem?_cons_zero, List.getElem?_cons_succ, List.set_cons_zero, List.set_cons_succ, wp_d1, wp_k1, wp_d2, wp_k2, wp_k2b, wp_dT, wp_kT, wp_dTru, wp_kTru, wp_dNotT, wp_kNot, wp_dAndT, wp_kAnd, wp_dOrT, wp_kOr, wp_dAndV, wp_kAndV, wp_kAndVb, wp_dOrV, wp_kOrV, wp_kOrVb, wp_dNotV, wp_kNotV, wp_kNotVb, wp_dIf, wp_kIf, wp_dChain, wp_kCh, wp_kCh2, wp_kCh3, wp_aNil, wp_aCons, wp_kCons, wp_kCons2, wp_dTup, wp_kTup, wp_dLst, wp_kLst, wp_dN, wp_kN, wp_dLs, wp_kLs, wp_lDisp, wp_kDisp, wp_lRng, wp_kRng, wp_dItR, wp_kItR, wp_dItS, wp_kItS, wp_tTrue, wp_oNo, wp_oSome, wp_kSome, wp_dSl, wp_kSl, wp_kSl1, wp_kSl2, ws_ret, ws_kRet, ws_expr, ws_kExpr, ws_if, ws_kIfS, ws_set, ws_kSet, ws_setO, ws_kSetO, ws_kSetT, ws_setR, ws_kSetR0, ws_kSetR1, ws_kSetR2, items_t, items_ft, items_l, items_r, setAll, Bool.not_true, Bool.not_false, if_true, ite_true, ite_false, ↓reduceIte, Bool.false_eq_true, Int.reduceLT, Int.reduceLE, Nat.reduceLT, Nat.reduceLeDiff, Nat.reducePow, Int.reducePow, Int.reduceToNat, Int.reduceNeg, Int.reduceSub, Int.reduceAdd, and_self, and_true, true_and, decide_eq_true_eq, decide_true, decide_false, List.length_map, ixN_31, ixN_32, ixN_30, wipeE, restE, lcQ, Option.getD_some, add_i, add_t, add_l, sub_i, mul_i, mul_t, mul_l, fdiv_i, mod_i, pow_18, neg_i, lt_i, le_i, gt_i, ge_i, eq_i, ne_i, eq_b, len_t, len_ft, len_l, len_r, abs_i, int_i, list_t, list_ft, list_l, list_r, tuple_t, tuple_ft, tuple_l, isi_i, isi_b, isi_s, isi_t, isi_ft, isi_l, isi_r, isi_n, tru_b, tru_i, tru_t, tru_ft, tru_l, tru_n, isN_n, isN_b, isN_i, isN_s, isN_t, isN_l, ix_t, ix_ft, ix_l, ix_r, ix_ref, setS_ref, atI_0, atI_1, atI_2, Option.map_some, Option.map_none, kb0, kb1, kb2, kb3, kb4, kb5, kb6, kb7, kb8, kb9, kb10, kb11, kb12, kb13, kb14, kb15, kb16, kb17, kb18, kb19, kb20, kb21, kb22, kb23, kb24, kb25, kb26, kb27, kb28, kb29, sz0, szl0, sz1, szl1, sz2, szl2, sz3, szl3, sz4, szl4, sz5, szl5, sz6, szl6, sz7, szl7, sz8, szl8, sz9, szl9, sz10, szl10, sz11, szl11, sz12, szl12, sz13, szl13, sz14, szl14, sz15, szl15, sz16, szl16, sz17, szl17, sz18, szl18, sz19, szl19, sz20, szl20, sz21, szl21, sz22, szl22, sz23, szl23, sz24, szl24, sz25, szl25, sz26, szl26, sz27, szl27, sz28, szl28, sz29, szl29, sz30, szl30, sz31, szl31, sz32, szl32, sz33, szl33, sz34, szl34, sz35, szl35, sz36, szl36, sz37, szl37, sz38, szl38, sz39, szl39, sz40, szl40]
  refine forL_fold encP (pfK n s0 cs p1 p2 (.v (.lst (x.2.map encP)))) (fun y => IG (UP n n) y.1 y.2 ∧ ∀ r ∈ x.2, hasG y.1 r = true) (lvlG (stp2 cs cs) cs.length) x.2 (x.1, []) _ ?_ hf.all ⟨_, _, _, rfl⟩ fun e' _ he => ?_
  · rintro y r e hr ⟨hy, hq⟩ ⟨x6, x7, x8, rfl⟩
    have hm2 := stays2 hm hm rfl
    refine ⟨_, rfl, ⟨hy.lvl1 hm2 (hq r hr), fun r' hr' => hasG_lvl1 (hq r' hr')⟩, ?_⟩
    exact pf_lvl hm hcl hN hy (hq r hr)
  · obtain ⟨x6, x7, x8, rfl⟩ := he
    simp only [List.map, List.replicate, List.cons_append, List.nil_append, List.length_cons, List.length_nil, Nat.reduceAdd, bq_ok, bq_ex, wp_pure, wp_fail, wp_getS, oQ_some, oQ_ite, bqS_ok, bqS_ex, wpS_seq, sqS_nx, sqS_rt, sqS_bk, sqS_ct, sqS_ex, wpS_next, wpS_break, wpS_cont, wpS_retN, wpS_setT, stQ_some, wp_C, wp_call, wp_callv, bqF_ok, bqF_ex, wp_new, wp_newv, fqS_nx, fqS_rt, fqS_ex, wpS_for, wp_comp, wp_dVar, vQ_v, vQ_o, List.getElem?_cons_zero, List.getElem?_cons_succ, List.set_cons_zero, List.set_cons_succ, wp_d1, wp_k1, wp_d2, wp_k2, wp_k2b, wp_dT, wp_kT, wp_dTru, wp_kTru, wp_dNotT, wp_kNot, wp_dAndT, wp_kAnd, wp_dOrT, wp_kOr, wp_dAndV, wp_kAndV, wp_kAndVb, wp_dOrV, wp_kOrV, wp_kOrVb, wp_dNotV, wp_kNotV, wp_kNotVb, wp_dIf, wp_kIf, wp_dChain, wp_kCh, wp_kCh2, wp_kCh3, wp_aNil, wp_aCons, wp_kCons, wp_kCons2, wp_dTup, wp_kTup, wp_dLst, wp_kLst, wp_dN, wp_kN, wp_dLs, wp_kLs, wp_lDisp, wp_kDisp, wp_lRng, wp_kRng, wp_dItR, wp_kItR, wp_dItS, wp_kItS, wp_tTrue, wp_oNo, wp_oSome, wp_kSome, wp_dSl, wp_kSl, wp_kSl1, wp_kSl2, ws_ret, ws_kRet, ws_expr, ws_kExpr, ws_if, ws_kIfS, ws_set, ws_kSet, ws_setO, ws_kSetO, ws_kSetT, ws_setR, ws_kSetR0, ws_kSetR1, ws_kSetR2, items_t, items_ft, items_l, items_r, setAll, Bool.not_true, Bool.not_false, if_true, ite_true, ite_false, ↓reduceIte, Bool.false_eq_true, Int.reduceLT, Int.reduceLE, Nat.reduceLT, Nat.reduceLeDiff, Nat.reducePow, Int.reducePow, Int.reduceToNat, Int.reduceNeg, Int.reduceSub, Int.reduceAdd, and_self, and_true, true_and, decide_eq_true_eq, decide_true, decide_false, List.length_map, ixN_31, ixN_32, ixN_30, wipeE, restE, lcQ, Option.getD_some, add_i, add_t, add_l, sub_i, mul_i, mul_t, mul_l, fdiv_i, mod_i, pow_18, neg_i, lt_i, le_i, gt_i, ge_i, eq_i, ne_i, eq_b, len_t, len_ft, len_l, len_r, abs_i, int_i, list_t, list_ft, list_l, list_r, tuple_t, tuple_ft, tuple_l, isi_i, isi_b, isi_s, isi_t, isi_ft, isi_l, isi_r, isi_n, tru_b, tru_i, tru_t, tru_ft, tru_l, tru_n, isN_n, isN_b, isN_i, isN_s, isN_t, isN_l, ix_t, ix_ft, ix_l, ix_r, ix_ref, setS_ref, atI_0, atI_1, atI_2, Option.map_some, Option.map_none, kb0, kb1, kb2, kb3, kb4, kb5, kb6, kb7, kb8, kb9, kb10, kb11, kb12, kb13, kb14, kb15, kb16, kb17, kb18, kb19, kb20, kb21, kb22, kb23, kb24, kb25, kb26, kb27, kb28, kb29, sz0, szl0, sz1, szl1, sz2, szl2, sz3, szl3, sz4, szl4, sz5, szl5, sz6, szl6, sz7, szl7, sz8, szl8, sz9, szl9, sz10, szl10, sz11, szl11, sz12, szl12, sz13, szl13, sz14, szl14, sz15, szl15, sz16, szl16, sz17, szl17, sz18, szl18, sz19, szl19, sz20, szl20, sz21, szl21, sz22, szl22, sz23, szl23, sz24, szl24, sz25, szl25, sz26, szl26, sz27, szl27, sz28, szl28, sz29, szl29, sz30, szl30, sz31, szl31, sz32, szl32, sz33, szl33, sz34, szl34, sz35, szl35, sz36, szl36, sz37, szl37, sz38, szl38, sz39, szl39, sz40, szl40]
    exact ⟨_, rfl, _, _, _, _, rfl⟩
theorem wp_pairs_from {Q : OutF → Prop} (hm : ∀ c ∈ cs, GC n c) (hcl : cs.length ≤ 1000) (hN : (UP n n).length < 100000) {a b : Int} (ha : In n a) (hb : In n b) (h : ∀ f, SG (UP n n) (stp2 cs cs) cs.length (a, b) f → Q (.ok (.dt (enP f)) S)) : wpF d_pairs_from [sysV n s0 cs, .int a, .int b] S Q := by
  unfold d_pairs_from
  refine wpF_go rfl ?_
  have one : lDict1 (dTup (aCons (dVar 1) (aCons (dVar 2) aNil))) (dTup aNil) ([PV.tup [.int n, .int s0, .tup (cs.map encC)], PV.int a, PV.int b].map Slot.v ++ List.replicate 6 Slot.un) S = .ok (.t [([.inl a, .inl b], .tup [])]) ([PV.tup [.int n, .int s0, .tup (cs.map encC)], PV.int a, PV.int b].map Slot.v ++ List.replicate 6 Slot.un) S := by
    unfold lDict1 dVar dTup aCons aNil Den.bind Den.pure Out.bind
    simp only [List.map, List.replicate, List.cons_append, List.nil_append, List.getElem?_cons_zero, List.getElem?_cons_succ, keyP, keysP, List.length_nil, List.length_cons, Nat.zero_add, Nat.reduceAdd, sz0, sz1, sz2, if_true]
  have hm2 := stays2 hm hm rfl
  have hs : (a, b) ∈ UP n n := mem_UP.mpr ⟨ha, hb⟩
  rw [wpS_seq, ws_setD one]
  simp only [OD.slot, List.map, List.replicate, List.cons_append, List.nil_append, List.length_cons, List.length_nil, Nat.reduceAdd, bq_ok, bq_ex, wp_pure, wp_fail, wp_getS, oQ_some, oQ_ite, bqS_ok, bqS_ex, sqS_nx, sqS_rt, sqS_bk, sqS_ct, sqS_ex, wpS_next, wpS_break, wpS_cont, wpS_retN, wpS_setT, stQ_some, wp_C, wp_call, wp_callv, bqF_ok, bqF_ex, wp_new, wp_newv, fqS_nx, fqS_rt, fqS_ex, wpS_for, wp_comp, wp_dVar, vQ_v, vQ_o, List.getElem?_cons_zero, List.getElem?_cons_succ, List.set_cons_zero, List.set_cons_succ, wp_d1, wp_k1, wp_d2, wp_k2, wp_k2b, wp_dT, wp_kT, wp_dTru, wp_kTru, wp_dNotT, wp_kNot, wp_dAndT, wp_kAnd, wp_dOrT, wp_kOr, wp_dAndV, wp_kAndV, wp_kAndVb, wp_dOrV, wp_kOrV, wp_kOrVb, wp_dNotV, wp_kNotV, wp_kNotVb, wp_dIf, wp_kIf, wp_dChain, wp_kCh, wp_kCh2, wp_kCh3, wp_aNil, wp_aCons, wp_kCons, wp_kCons2, wp_dTup, wp_kTup, wp_dLst, wp_kLst, wp_dN, wp_kN, wp_dLs, wp_kLs, wp_lDisp, wp_kDisp, wp_lRng, wp_kRng, wp_dItR, wp_kItR, wp_dItS, wp_kItS, wp_tTrue, wp_oNo, wp_oSome, wp_kSome, wp_dSl, wp_kSl, wp_kSl1, wp_kSl2, ws_ret, ws_kRet, ws_expr, ws_kExpr, ws_if, ws_kIfS, ws_set, ws_kSet, ws_setO, ws_kSetO, ws_kSetT, ws_setR, ws_kSetR0, ws_kSetR1, ws_kSetR2, items_t, items_ft, items_l, items_r, setAll, Bool.not_true, Bool.not_false, if_true, ite_true, ite_false, ↓reduceIte, Bool.false_eq_true, Int.reduceLT, Int.reduceLE, Nat.reduceLT, Nat.reduceLeDiff, Nat.reducePow, Int.reducePow, Int.reduceToNat, Int.reduceNeg, Int.reduceSub, Int.reduceAdd, and_self, and_true, true_and, decide_eq_true_eq, decide_true, decide_false, List.length_map, ixN_31, ixN_32, ixN_30, wipeE, restE, lcQ, Option.getD_some, add_i, add_t, add_l, sub_i, mul_i, mul_t, mul_l, fdiv_i, mod_i, pow_18, neg_i, lt_i, le_i, gt_i, ge_i, eq_i, ne_i, eq_b, len_t, len_ft, len_l, len_r, abs_i, int_i, list_t, list_ft, list_l, list_r, tuple_t, tuple_ft, tuple_l, isi_i, isi_b, isi_s, isi_t, isi_ft, isi_l, isi_r, isi_n, tru_b, tru_i, tru_t, tru_ft, tru_l, tru_n, isN_n, isN_b, isN_i, isN_s, isN_t, isN_l, ix_t, ix_ft, ix_l, ix_r, ix_ref, setS_ref, atI_0, atI_1, atI_2, Option.map_some, Option.map_none, kb0, kb1, kb2, kb3, kb4, kb5, kb6, kb7, kb8, kb9, kb10, kb11, kb12, kb13, kb14, kb15, kb16, kb17, kb18, kb19, kb20, kb21, kb22, kb23, kb24, kb25, kb26, kb27, kb28, kb29, sz0, szl0, sz1, szl1, sz2, szl2, sz3, szl3, sz4, szl4, sz5, szl5, sz6, szl6, sz7, szl7, sz8, szl8, sz9, szl9, sz10, szl10, sz11, szl11, sz12, szl12, sz13, szl13, sz14, szl14, sz15, szl15, sz16, szl16, sz17, szl17, sz18, szl18, sz19, szl19, sz20, szl20, sz21, szl21, sz22, szl22, sz23, szl23, sz24, szl24, sz25, szl25, sz26, szl26, sz27, szl27, sz28, szl28, sz29, szl29, sz30, szl30, sz31, szl31, sz32, szl32, sz33, szl33, sz34, szl34, sz35, szl35, sz36, szl36, sz37, szl37, sz38, szl38, sz39, szl39, sz40, szl40]
  rw [wpS_seq]
  simp only [List.map, List.replicate, List.cons_append, List.nil_append, List.length_cons, List.length_nil, Nat.reduceAdd, bq_ok, bq_ex, wp_pure, wp_fail, wp_getS, oQ_some, oQ_ite, bqS_ok, bqS_ex, sqS_nx, sqS_rt, sqS_bk, sqS_ct, sqS_ex, wpS_next, wpS_break, wpS_cont, wpS_retN, wpS_setT, stQ_some, wp_C, wp_call, wp_callv, bqF_ok, bqF_ex, wp_new, wp_newv, fqS_nx, fqS_rt, fqS_ex, wpS_for, wp_comp, wp_dVar, vQ_v, vQ_o, List.getElem?_cons_zero, List.getElem?_cons_succ, List.set_cons_zero, List.set_cons_succ, wp_d1, wp_k1, wp_d2, wp_k2, wp_k2b, wp_dT, wp_kT, wp_dTru, wp_kTru, wp_dNotT, wp_kNot, wp_dAndT, wp_kAnd, wp_dOrT, wp_kOr, wp_dAndV, wp_kAndV, wp_kAndVb, wp_dOrV, wp_kOrV, wp_kOrVb, wp_dNotV, wp_kNotV, wp_kNotVb, wp_dIf, wp_kIf, wp_dChain, wp_kCh, wp_kCh2, wp_kCh3, wp_aNil, wp_aCons, wp_kCons, wp_kCons2, wp_dTup, wp_kTup, wp_dLst, wp_kLst, wp_dN, wp_kN, wp_dLs, wp_kLs, wp_lDisp, wp_kDisp, wp_lRng, wp_kRng, wp_dItR, wp_kItR, wp_dItS, wp_kItS, wp_tTrue, wp_oNo, wp_oSome, wp_kSome, wp_dSl, wp_kSl, wp_kSl1, wp_kSl2, ws_ret, ws_kRet, ws_expr, ws_kExpr, ws_if, ws_kIfS, ws_set, ws_kSet, ws_setO, ws_kSetO, ws_kSetT, ws_setR, ws_kSetR0, ws_kSetR1, ws_kSetR2, items_t, items_ft, items_l, items_r, setAll, Bool.not_true, Bool.not_false, if_true, ite_true, ite_false, ↓reduceIte, Bool.false_eq_true, Int.reduceLT, Int.reduceLE, Nat.reduceLT, Nat.reduceLeDiff, Nat.reducePow, Int.reducePow, Int.reduceToNat, Int.reduceNeg, Int.reduceSub, Int.reduceAdd, and_self, and_true, true_and, decide_eq_true_eq, decide_true, decide_false, List.length_map, ixN_31, ixN_32, ixN_30, wipeE, restE, lcQ, Option.getD_some, add_i, add_t, add_l, sub_i, mul_i, mul_t, mul_l, fdiv_i, mod_i, pow_18, neg_i, lt_i, le_i, gt_i, ge_i, eq_i, ne_i, eq_b, len_t, len_ft, len_l, len_r, abs_i, int_i, list_t, list_ft, list_l, list_r, tuple_t, tuple_ft, tuple_l, isi_i, isi_b, isi_s, isi_t, isi_ft, isi_l, isi_r, isi_n, tru_b, tru_i, tru_t, tru_ft, tru_l, tru_n, isN_n, isN_b, isN_i, isN_s, isN_t, isN_l, ix_t, ix_ft, ix_l, ix_r, ix_ref, setS_ref, atI_0, atI_1, atI_2, Option.map_some, Option.map_none, kb0, kb1, kb2, kb3, kb4, kb5, kb6, kb7, kb8, kb9, kb10, kb11, kb12, kb13, kb14, kb15, kb16, kb17, kb18, kb19, kb20, kb21, kb22, kb23, kb24, kb25, kb26, kb27, kb28, kb29, sz0, szl0, sz1, szl1, sz2, szl2, sz3, szl3, sz4, szl4, sz5, szl5, sz6, szl6, sz7, szl7, sz8, szl8, sz9, szl9, sz10, szl10, sz11, szl11, sz12, szl12, sz13, szl13, sz14, szl14, sz15, szl15, sz16, szl16, sz17, szl17, sz18, szl18, sz19, szl19, sz20, szl20, sz21, szl21, sz22, szl22, sz23, szl23, sz24, szl24, sz25, szl25, sz26, szl26, sz27, szl27, sz28, szl28, sz29, szl29, sz30, szl30, sz31, szl31, sz32, szl32, sz33, szl33, sz34, szl34, sz35, szl35, sz36, szl36, sz37, szl37, sz38, szl38, sz39, szl39, sz40, szl40]
  rw [wpS_seq]
  unfold whN
  refine wh_turns hm2 (pfL n s0 cs (.v (.int a)) (.v (.int b))) (fun x e _ he => ?_) (fun x e hf he => pf_turn hm hcl hN hf he) 1000000000 ([((a, b), [])], [(a, b)]) _ (IG.one hs) (by simp; omega) ⟨_, _, _, _, rfl⟩ fun f e' hb he => ?_
  · obtain ⟨x5, x6, x7, x8, rfl⟩ := he
    show wp _ _ _ fun o => o = _
    simp only [List.map, List.replicate, List.cons_append, List.nil_append, List.length_cons, List.length_nil, Nat.reduceAdd, bq_ok, bq_ex, wp_pure, wp_fail, wp_getS, oQ_some, oQ_ite, bqS_ok, bqS_ex, wpS_seq, sqS_nx, sqS_rt, sqS_bk, sqS_ct, sqS_ex, wpS_next, wpS_break, wpS_cont, wpS_retN, wpS_setT, stQ_some, wp_C, wp_call, wp_callv, bqF_ok, bqF_ex, wp_new, wp_newv, fqS_nx, fqS_rt, fqS_ex, wpS_for, wp_comp, wp_dVar, vQ_v, vQ_o, List.getElem?_cons_zero, List.getElem?_cons_succ, List.set_cons_zero, List.set_cons_succ, wp_d1, wp_k1, wp_d2, wp_k2, wp_k2b, wp_dT, wp_kT, wp_dTru, wp_kTru, wp_dNotT, wp_kNot, wp_dAndT, wp_kAnd, wp_dOrT, wp_kOr, wp_dAndV, wp_kAndV, wp_kAndVb, wp_dOrV, wp_kOrV, wp_kOrVb, wp_dNotV, wp_kNotV, wp_kNotVb, wp_dIf, wp_kIf, wp_dChain, wp_kCh, wp_kCh2, wp_kCh3, wp_aNil, wp_aCons, wp_kCons, wp_kCons2, wp_dTup, wp_kTup, wp_dLst, wp_kLst, wp_dN, wp_kN, wp_dLs, wp_kLs, wp_lDisp, wp_kDisp, wp_lRng, wp_kRng, wp_dItR, wp_kItR, wp_dItS, wp_kItS, wp_tTrue, wp_oNo, wp_oSome, wp_kSome, wp_dSl, wp_kSl, wp_kSl1, wp_kSl2, ws_ret, ws_kRet, ws_expr, ws_kExpr, ws_if, ws_kIfS, ws_set, ws_kSet, ws_setO, ws_kSetO, ws_kSetT, ws_setR, ws_kSetR0, ws_kSetR1, ws_kSetR2, items_t, items_ft, items_l, items_r, setAll, Bool.not_true, Bool.not_false, if_true, ite_true, ite_false, ↓reduceIte, Bool.false_eq_true, Int.reduceLT, Int.reduceLE, Nat.reduceLT, Nat.reduceLeDiff, Nat.reducePow, Int.reducePow, Int.reduceToNat, Int.reduceNeg, Int.reduceSub, Int.reduceAdd, and_self, and_true, true_and, decide_eq_true_eq, decide_true, decide_false, List.length_map, ixN_31, ixN_32, ixN_30, wipeE, restE, lcQ, Option.getD_some, add_i, add_t, add_l, sub_i, mul_i, mul_t, mul_l, fdiv_i, mod_i, pow_18, neg_i, lt_i, le_i, gt_i, ge_i, eq_i, ne_i, eq_b, len_t, len_ft, len_l, len_r, abs_i, int_i, list_t, list_ft, list_l, list_r, tuple_t, tuple_ft, tuple_l, isi_i, isi_b, isi_s, isi_t, isi_ft, isi_l, isi_r, isi_n, tru_b, tru_i, tru_t, tru_ft, tru_l, tru_n, isN_n, isN_b, isN_i, isN_s, isN_t, isN_l, ix_t, ix_ft, ix_l, ix_r, ix_ref, setS_ref, atI_0, atI_1, atI_2, Option.map_some, Option.map_none, kb0, kb1, kb2, kb3, kb4, kb5, kb6, kb7, kb8, kb9, kb10, kb11, kb12, kb13, kb14, kb15, kb16, kb17, kb18, kb19, kb20, kb21, kb22, kb23, kb24, kb25, kb26, kb27, kb28, kb29, sz0, szl0, sz1, szl1, sz2, szl2, sz3, szl3, sz4, szl4, sz5, szl5, sz6, szl6, sz7, szl7, sz8, szl8, sz9, szl9, sz10, szl10, sz11, szl11, sz12, szl12, sz13, szl13, sz14, szl14, sz15, szl15, sz16, szl16, sz17, szl17, sz18, szl18, sz19, szl19, sz20, szl20, sz21, szl21, sz22, szl22, sz23, szl23, sz24, szl24, sz25, szl25, sz26, szl26, sz27, szl27, sz28, szl28, sz29, szl29, sz30, szl30, sz31, szl31, sz32, szl32, sz33, szl33, sz34, szl34, sz35, szl35, sz36, szl36, sz37, szl37, sz38, szl38, sz39, szl39, sz40, szl40]
    rw [List.isEmpty_map]
  · obtain ⟨x5, x6, x7, x8, rfl⟩ := he
    rw [sqS_nx, ws_ret, wp_dVar]
    simp only [List.getElem?_cons_zero, List.getElem?_cons_succ]
    show bqS kRet (fqS Q) (.ok (.dt (enP f)) _ _)
    simp only [List.map, List.replicate, List.cons_append, List.nil_append, List.length_cons, List.length_nil, Nat.reduceAdd, bq_ok, bq_ex, wp_pure, wp_fail, wp_getS, oQ_some, oQ_ite, bqS_ok, bqS_ex, wpS_seq, sqS_nx, sqS_rt, sqS_bk, sqS_ct, sqS_ex, wpS_next, wpS_break, wpS_cont, wpS_retN, wpS_setT, stQ_some, wp_C, wp_call, wp_callv, bqF_ok, bqF_ex, wp_new, wp_newv, fqS_nx, fqS_rt, fqS_ex, wpS_for, wp_comp, wp_dVar, vQ_v, vQ_o, List.getElem?_cons_zero, List.getElem?_cons_succ, List.set_cons_zero, List.set_cons_succ, wp_d1, wp_k1, wp_d2, wp_k2, wp_k2b, wp_dT, wp_kT, wp_dTru, wp_kTru, wp_dNotT, wp_kNot, wp_dAndT, wp_kAnd, wp_dOrT, wp_kOr, wp_dAndV, wp_kAndV, wp_kAndVb, wp_dOrV, wp_kOrV, wp_kOrVb, wp_dNotV, wp_kNotV, wp_kNotVb, wp_dIf, wp_kIf, wp_dChain, wp_kCh, wp_kCh2, wp_kCh3, wp_aNil, wp_aCons, wp_kCons, wp_kCons2, wp_dTup, wp_kTup, wp_dLst, wp_kLst, wp_dN, wp_kN, wp_dLs, wp_kLs, wp_lDisp, wp_kDisp, wp_lRng, wp_kRng, wp_dItR, wp_kItR, wp_dItS, wp_kItS, wp_tTrue, wp_oNo, wp_oSome, wp_kSome, wp_dSl, wp_kSl, wp_kSl1, wp_kSl2, ws_ret, ws_kRet, ws_expr, ws_kExpr, ws_if, ws_kIfS, ws_set, ws_kSet, ws_setO, ws_kSetO, ws_kSetT, ws_setR, ws_kSetR0, ws_kSetR1, ws_kSetR2, items_t, items_ft, items_l, items_r, setAll, Bool.not_true, Bool.not_false, if_true, ite_true, ite_false, ↓reduceIte, Bool.false_eq_true, Int.reduceLT, Int.reduceLE, Nat.reduceLT, Nat.reduceLeDiff, Nat.reducePow, Int.reducePow, Int.reduceToNat, Int.reduceNeg, Int.reduceSub, Int.reduceAdd, and_self, and_true, true_and, decide_eq_true_eq, decide_true, decide_false, List.length_map, ixN_31, ixN_32, ixN_30, wipeE, restE, lcQ, Option.getD_some, add_i, add_t, add_l, sub_i, mul_i, mul_t, mul_l, fdiv_i, mod_i, pow_18, neg_i, lt_i, le_i, gt_i, ge_i, eq_i, ne_i, eq_b, len_t, len_ft, len_l, len_r, abs_i, int_i, list_t, list_ft, list_l, list_r, tuple_t, tuple_ft, tuple_l, isi_i, isi_b, isi_s, isi_t, isi_ft, isi_l, isi_r, isi_n, tru_b, tru_i, tru_t, tru_ft, tru_l, tru_n, isN_n, isN_b, isN_i, isN_s, isN_t, isN_l, ix_t, ix_ft, ix_l, ix_r, ix_ref, setS_ref, atI_0, atI_1, atI_2, Option.map_some, Option.map_none, kb0, kb1, kb2, kb3, kb4, kb5, kb6, kb7, kb8, kb9, kb10, kb11, kb12, kb13, kb14, kb15, kb16, kb17, kb18, kb19, kb20, kb21, kb22, kb23, kb24, kb25, kb26, kb27, kb28, kb29, sz0, szl0, sz1, szl1, sz2, szl2, sz3, szl3, sz4, szl4, sz5, szl5, sz6, szl6, sz7, szl7, sz8, szl8, sz9, szl9, sz10, szl10, sz11, szl11, sz12, szl12, sz13, szl13, sz14, szl14, sz15, szl15, sz16, szl16, sz17, szl17, sz18, szl18, sz19, szl19, sz20, szl20, sz21, szl21, sz22, szl22, sz23, szl23, sz24, szl24, sz25, szl25, sz26, szl26, sz27, szl27, sz28, szl28, sz29, szl29, sz30, szl30, sz31, szl31, sz32, szl32, sz33, szl33, sz34, szl34, sz35, szl35, sz36, szl36, sz37, szl37, sz38, szl38, sz39, szl39, sz40, szl40]
    exact h f (SG.of hm2 hs hb)
end
end Dn
end
section
set_option Elab.async false
set_option linter.all false
set_option maxRecDepth 100000
set_option maxHeartbeats 1000000
namespace Dn
open PySem L2
theorem wp_compF {β : Type} {own : List Nat} {g : PV → DEnv → Option DEnv} {dt : Den Bool} {de : DE} {e : DEnv} {S : Stor} {Q : Out (List PV) → Prop} (enc : β → PV) (t : β → Bool) (f : β → PV) {bs : List β}
    (hn : noOwn e own = true) (hr : restE e own (wipeE e own) = e) (hl : bs.length ≤ sizeLine)
    (h : ∀ b ∈ bs, ∃ e1, g (enc b) (wipeE e own) = some e1 ∧ wp dt e1 S (fun o => o = .ok (t b) e1 S) ∧ (t b = true → wp de e1 S fun o => o = .ok (f b) e1 S) ∧ wipeE e1 own = wipeE e own)
    (hq : Q (.ok ((bs.filter t).map f) e S)) : wp (kComp own g dt de (bs.map enc)) e S Q := by
  rw [wp_compv hn]
  refine lcL_inv (fun ps acc e' S' => ∃ rest : List β, ps = rest.map enc ∧ (∀ b ∈ rest, b ∈ bs) ∧ e' = wipeE e own ∧ S' = S ∧ acc ++ (rest.filter t).map f = (bs.filter t).map f ∧ acc.length + rest.length ≤ bs.length) ?_ ?_ _ _ _ _ ⟨bs, rfl, fun b hb => hb, rfl, rfl, rfl, by simp⟩
  · rintro p ps acc e' S' ⟨rest, hp, hm, rfl, rfl, he, hl2⟩
    cases rest with
    | nil => cases hp
    | cons b rest =>
      rw [List.map_cons] at hp
      obtain ⟨rfl, rfl⟩ := List.cons.inj hp
      rw [List.length_cons] at hl2
      obtain ⟨e1, h1, h2, h3, h4⟩ := h b (hm b (List.mem_cons_self ..))
      refine ⟨e1, h1, ?_⟩
      unfold wp at h2 ⊢
      rw [h2]
      cases ht : t b with
      | true =>
        have h3 := h3 ht
        unfold wp at h3
        dsimp only
        rw [h3]
        refine ⟨by omega, rest, rfl, fun b hb => hm b (List.mem_cons_of_mem _ hb), h4, rfl, ?_, by simp; omega⟩
        rw [← he, List.filter_cons, if_pos ht, List.map_cons, List.append_assoc]; rfl
      | false =>
        dsimp only
        refine ⟨rest, rfl, fun b hb => hm b (List.mem_cons_of_mem _ hb), h4, rfl, ?_, by omega⟩
        rw [← he, List.filter_cons, ht]; rfl
  · rintro acc e' S' ⟨rest, hp, hm, rfl, rfl, he, hl2⟩
    cases rest with
    | cons b rest => cases hp
    | nil =>
      have : acc = (bs.filter t).map f := by simpa using he
      show Q (.ok acc (restE e own (wipeE e own)) _)
      rw [this, hr]; exact hq
/-- a comprehension without test -/
theorem wp_compM {β : Type} {own : List Nat} {g : PV → DEnv → Option DEnv} {de : DE} {e : DEnv} {S : Stor} {Q : Out (List PV) → Prop} (enc : β → PV) (f : β → PV) {bs : List β}
    (hn : noOwn e own = true) (hr : restE e own (wipeE e own) = e) (hl : bs.length ≤ sizeLine)
    (h : ∀ b ∈ bs, ∃ e1, g (enc b) (wipeE e own) = some e1 ∧ (wp de e1 S fun o => o = .ok (f b) e1 S) ∧ wipeE e1 own = wipeE e own)
    (hq : Q (.ok (bs.map f) e S)) : wp (kComp own g tTrue de (bs.map enc)) e S Q := by
  refine wp_compF enc (fun _ => true) f hn hr hl (fun b hb => ?_) ?_
  · obtain ⟨e1, h1, h2, h3⟩ := h b hb
    exact ⟨e1, h1, rfl, fun _ => h2, h3⟩
  · rw [List.filter_eq_self.mpr (fun _ _ => rfl)]; exact hq
theorem prKeys_enD {v : List Int → PV} : ∀ f : Fg Pr, prKeys (enD v f) = some (f.map (·.1))
  | [] => rfl
  | e :: f => by
    unfold enD kP
    rw [List.map_cons]
    unfold prKeys
    have := prKeys_enD (v := v) f
    unfold enD kP at this
    rw [this]; rfl
theorem sorted_enD {S : Stor} {v : List Int → PV} {f : Fg Pr} : sortedP S [.dt (enD v f)] = some (.lst ((sortPr (f.map (·.1))).map encPr)) := by
  unfold sortedP
  dsimp only
  rw [prKeys_enD]; rfl
end Dn
end
section
set_option Elab.async false
set_option linter.all false
set_option maxRecDepth 100000
set_option maxHeartbeats 1000000
namespace Dn
open PySem L2
/-- the counterparts of a state, ascending -/
def cpL (f : Fg Pr) (s : Int) : List Int := ((sortPr (f.map (·.1))).filter fun p => decide (p.1 = s)).map (·.2)
def cpR (f : Fg Pr) (s : Int) : PV := .tup ((cpL f s).map .int)
/-- all rows -/
def cpA (n : Int) (f : Fg Pr) : List PV := (List.range n.toNat).map fun (s : Nat) => cpR f s
section
variable {n s0 : Int} {cs : List (List Int)} {S : Stor} {Q : OutF → Prop}
theorem lrg_i {i : Int} : lrgP S (.int i) = if -1000000 ≤ i ∧ i ≤ 1000000 then some (.lst (rngPV i)) else none := id rfl
theorem wp_states_of (h0 : 0 ≤ n) (hn : n ≤ 1000) (h : Q (.ok (.lst (rngPV n)) S)) : wpF d_states_of [sysV n s0 cs] S Q := by
  unfold d_states_of
  refine wpF_go rfl ?_
  have e1 : -1000000 ≤ n ∧ n ≤ 1000000 := by omega
  simp only [List.map, List.replicate, List.cons_append, List.nil_append, List.length_cons, List.length_nil, Nat.reduceAdd, bq_ok, bq_ex, wp_pure, wp_fail, wp_getS, oQ_some, oQ_ite, bqS_ok, bqS_ex, wpS_seq, sqS_nx, sqS_rt, sqS_bk, sqS_ct, sqS_ex, wpS_next, wpS_break, wpS_cont, wpS_retN, wpS_setT, stQ_some, wp_C, wp_call, wp_callv, bqF_ok, bqF_ex, wp_new, wp_newv, fqS_nx, fqS_rt, fqS_ex, wpS_for, wp_comp, wp_dVar, vQ_v, vQ_o, List.getElem?_cons_zero, List.getElem?_cons_succ, List.set_cons_zero, List.set_cons_succ, wp_d1, wp_k1, wp_d2, wp_k2, wp_k2b, wp_dT, wp_kT, wp_dTru, wp_kTru, wp_dNotT, wp_kNot, wp_dAndT, wp_kAnd, wp_dOrT, wp_kOr, wp_dAndV, wp_kAndV, wp_kAndVb, wp_dOrV, wp_kOrV, wp_kOrVb, wp_dNotV, wp_kNotV, wp_kNotVb, wp_dIf, wp_kIf, wp_dChain, wp_kCh, wp_kCh2, wp_kCh3, wp_aNil, wp_aCons, wp_kCons, wp_kCons2, wp_dTup, wp_kTup, wp_dLst, wp_kLst, wp_dN, wp_kN, wp_dLs, wp_kLs, wp_lDisp, wp_kDisp, wp_lRng, wp_kRng, wp_dItR, wp_kItR, wp_dItS, wp_kItS, wp_tTrue, wp_oNo, wp_oSome, wp_kSome, wp_dSl, wp_kSl, wp_kSl1, wp_kSl2, ws_ret, ws_kRet, ws_expr, ws_kExpr, ws_if, ws_kIfS, ws_set, ws_kSet, ws_setO, ws_kSetO, ws_kSetT, ws_setR, ws_kSetR0, ws_kSetR1, ws_kSetR2, items_t, items_ft, items_l, items_r, setAll, Bool.not_true, Bool.not_false, if_true, ite_true, ite_false, ↓reduceIte, Bool.false_eq_true, Int.reduceLT, Int.reduceLE, Nat.reduceLT, Nat.reduceLeDiff, Nat.reducePow, Int.reducePow, Int.reduceToNat, Int.reduceNeg, Int.reduceSub, Int.reduceAdd, and_self, and_true, true_and, decide_eq_true_eq, decide_true, decide_false, List.length_map, ixN_31, ixN_32, ixN_30, wipeE, restE, lcQ, Option.getD_some, add_i, add_t, add_l, sub_i, mul_i, mul_t, mul_l, fdiv_i, mod_i, pow_18, neg_i, lt_i, le_i, gt_i, ge_i, eq_i, ne_i, eq_b, len_t, len_ft, len_l, len_r, abs_i, int_i, list_t, list_ft, list_l, list_r, tuple_t, tuple_ft, tuple_l, isi_i, isi_b, isi_s, isi_t, isi_ft, isi_l, isi_r, isi_n, tru_b, tru_i, tru_t, tru_ft, tru_l, tru_n, isN_n, isN_b, isN_i, isN_s, isN_t, isN_l, ix_t, ix_ft, ix_l, ix_r, ix_ref, setS_ref, atI_0, atI_1, atI_2, Option.map_some, Option.map_none, kb0, kb1, kb2, kb3, kb4, kb5, kb6, kb7, kb8, kb9, kb10, kb11, kb12, kb13, kb14, kb15, kb16, kb17, kb18, kb19, kb20, kb21, kb22, kb23, kb24, kb25, kb26, kb27, kb28, kb29, sz0, szl0, sz1, szl1, sz2, szl2, sz3, szl3, sz4, szl4, sz5, szl5, sz6, szl6, sz7, szl7, sz8, szl8, sz9, szl9, sz10, szl10, sz11, szl11, sz12, szl12, sz13, szl13, sz14, szl14, sz15, szl15, sz16, szl16, sz17, szl17, sz18, szl18, sz19, szl19, sz20, szl20, sz21, szl21, sz22, szl22, sz23, szl23, sz24, szl24, sz25, szl25, sz26, szl26, sz27, szl27, sz28, szl28, sz29, szl29, sz30, szl30, sz31, szl31, sz32, szl32, sz33, szl33, sz34, szl34, sz35, szl35, sz36, szl36, sz37, szl37, sz38, szl38, sz39, szl39, sz40, szl40, lrg_i, e1]
  exact h
theorem wp_counterparts_of (hm : ∀ c ∈ cs, GC n c) (hcl : cs.length ≤ 1000) (h0 : 0 ≤ n) (hn : n ≤ 1000) (hN : (UP n n).length < 100000) {a b : Int} (ha : In n a) (hb : In n b) (h : ∀ f, SG (UP n n) (stp2 cs cs) cs.length (a, b) f → Q (.ok (.lst (cpA n f)) S)) : wpF d_counterparts_of [sysV n s0 cs, .int a, .int b] S Q := by
  unfold d_counterparts_of
  refine wpF_go rfl ?_
  simp only [List.map, List.replicate, List.cons_append, List.nil_append, List.length_cons, List.length_nil, Nat.reduceAdd, bq_ok, bq_ex, wp_pure, wp_fail, wp_getS, oQ_some, oQ_ite, bqS_ok, bqS_ex, wpS_seq, sqS_nx, sqS_rt, sqS_bk, sqS_ct, sqS_ex, wpS_next, wpS_break, wpS_cont, wpS_retN, wpS_setT, stQ_some, wp_C, wp_call, wp_callv, bqF_ok, bqF_ex, wp_new, wp_newv, fqS_nx, fqS_rt, fqS_ex, wpS_for, wp_comp, wp_dVar, vQ_v, vQ_o, List.getElem?_cons_zero, List.getElem?_cons_succ, List.set_cons_zero, List.set_cons_succ, wp_d1, wp_k1, wp_d2, wp_k2, wp_k2b, wp_dT, wp_kT, wp_dTru, wp_kTru, wp_dNotT, wp_kNot, wp_dAndT, wp_kAnd, wp_dOrT, wp_kOr, wp_dAndV, wp_kAndV, wp_kAndVb, wp_dOrV, wp_kOrV, wp_kOrVb, wp_dNotV, wp_kNotV, wp_kNotVb, wp_dIf, wp_kIf, wp_dChain, wp_kCh, wp_kCh2, wp_kCh3, wp_aNil, wp_aCons, wp_kCons, wp_kCons2, wp_dTup, wp_kTup, wp_dLst, wp_kLst, wp_dN, wp_kN, wp_dLs, wp_kLs, wp_lDisp, wp_kDisp, wp_lRng, wp_kRng, wp_dItR, wp_kItR, wp_dItS, wp_kItS, wp_tTrue, wp_oNo, wp_oSome, wp_kSome, wp_dSl, wp_kSl, wp_kSl1, wp_kSl2, ws_ret, ws_kRet, ws_expr, ws_kExpr, ws_if, ws_kIfS, ws_set, ws_kSet, ws_setO, ws_kSetO, ws_kSetT, ws_setR, ws_kSetR0, ws_kSetR1, ws_kSetR2, items_t, items_ft, items_l, items_r, setAll, Bool.not_true, Bool.not_false, if_true, ite_true, ite_false, ↓reduceIte, Bool.false_eq_true, Int.reduceLT, Int.reduceLE, Nat.reduceLT, Nat.reduceLeDiff, Nat.reducePow, Int.reducePow, Int.reduceToNat, Int.reduceNeg, Int.reduceSub, Int.reduceAdd, and_self, and_true, true_and, decide_eq_true_eq, decide_true, decide_false, List.length_map, ixN_31, ixN_32, ixN_30, wipeE, restE, lcQ, Option.getD_some, add_i, add_t, add_l, sub_i, mul_i, mul_t, mul_l, fdiv_i, mod_i, pow_18, neg_i, lt_i, le_i, gt_i, ge_i, eq_i, ne_i, eq_b, len_t, len_ft, len_l, len_r, abs_i, int_i, list_t, list_ft, list_l, list_r, tuple_t, tuple_ft, tuple_l, isi_i, isi_b, isi_s, isi_t, isi_ft, isi_l, isi_r, isi_n, tru_b, tru_i, tru_t, tru_ft, tru_l, tru_n, isN_n, isN_b, isN_i, isN_s, isN_t, isN_l, ix_t, ix_ft, ix_l, ix_r, ix_ref, setS_ref, atI_0, atI_1, atI_2, Option.map_some, Option.map_none, kb0, kb1, kb2, kb3, kb4, kb5, kb6, kb7, kb8, kb9, kb10, kb11, kb12, kb13, kb14, kb15, kb16, kb17, kb18, kb19, kb20, kb21, kb22, kb23, kb24, kb25, kb26, kb27, kb28, kb29, sz0, szl0, sz1, szl1, sz2, szl2, sz3, szl3, sz4, szl4, sz5, szl5, sz6, szl6, sz7, szl7, sz8, szl8, sz9, szl9, sz10, szl10, sz11, szl11, sz12, szl12, sz13, szl13, sz14, szl14, sz15, szl15, sz16, szl16, sz17, szl17, sz18, szl18, sz19, szl19, sz20, szl20, sz21, szl21, sz22, szl22, sz23, szl23, sz24, szl24, sz25, szl25, sz26, szl26, sz27, szl27, sz28, szl28, sz29, szl29, sz30, szl30, sz31, szl31, sz32, szl32, sz33, szl33, sz34, szl34, sz35, szl35, sz36, szl36, sz37, szl37, sz38, szl38, sz39, szl39, sz40, szl40]
  refine wp_pairs_from hm hcl hN ha hb fun f hf => ?_
  unfold enP
  have fl := hf.ig.le
  simp only [List.map, List.replicate, List.cons_append, List.nil_append, List.length_cons, List.length_nil, Nat.reduceAdd, bq_ok, bq_ex, wp_pure, wp_fail, wp_getS, oQ_some, oQ_ite, bqS_ok, bqS_ex, wpS_seq, sqS_nx, sqS_rt, sqS_bk, sqS_ct, sqS_ex, wpS_next, wpS_break, wpS_cont, wpS_retN, wpS_setT, stQ_some, wp_C, wp_call, wp_callv, bqF_ok, bqF_ex, wp_new, wp_newv, fqS_nx, fqS_rt, fqS_ex, wpS_for, wp_comp, wp_dVar, vQ_v, vQ_o, List.getElem?_cons_zero, List.getElem?_cons_succ, List.set_cons_zero, List.set_cons_succ, wp_d1, wp_k1, wp_d2, wp_k2, wp_k2b, wp_dT, wp_kT, wp_dTru, wp_kTru, wp_dNotT, wp_kNot, wp_dAndT, wp_kAnd, wp_dOrT, wp_kOr, wp_dAndV, wp_kAndV, wp_kAndVb, wp_dOrV, wp_kOrV, wp_kOrVb, wp_dNotV, wp_kNotV, wp_kNotVb, wp_dIf, wp_kIf, wp_dChain, wp_kCh, wp_kCh2, wp_kCh3, wp_aNil, wp_aCons, wp_kCons, wp_kCons2, wp_dTup, wp_kTup, wp_dLst, wp_kLst, wp_dN, wp_kN, wp_dLs, wp_kLs, wp_lDisp, wp_kDisp, wp_lRng, wp_kRng, wp_dItR, wp_kItR, wp_dItS, wp_kItS, wp_tTrue, wp_oNo, wp_oSome, wp_kSome, wp_dSl, wp_kSl, wp_kSl1, wp_kSl2, ws_ret, ws_kRet, ws_expr, ws_kExpr, ws_if, ws_kIfS, ws_set, ws_kSet, ws_setO, ws_kSetO, ws_kSetT, ws_setR, ws_kSetR0, ws_kSetR1, ws_kSetR2, items_t, items_ft, items_l, items_r, setAll, Bool.not_true, Bool.not_false, if_true, ite_true, ite_false, ↓reduceIte, Bool.false_eq_true, Int.reduceLT, Int.reduceLE, Nat.reduceLT, Nat.reduceLeDiff, Nat.reducePow, Int.reducePow, Int.reduceToNat, Int.reduceNeg, Int.reduceSub, Int.reduceAdd, and_self, and_true, true_and, decide_eq_true_eq, decide_true, decide_false, List.length_map, ixN_31, ixN_32, ixN_30, wipeE, restE, lcQ, Option.getD_some, add_i, add_t, add_l, sub_i, mul_i, mul_t, mul_l, fdiv_i, mod_i, pow_18, neg_i, lt_i, le_i, gt_i, ge_i, eq_i, ne_i, eq_b, len_t, len_ft, len_l, len_r, abs_i, int_i, list_t, list_ft, list_l, list_r, tuple_t, tuple_ft, tuple_l, isi_i, isi_b, isi_s, isi_t, isi_ft, isi_l, isi_r, isi_n, tru_b, tru_i, tru_t, tru_ft, tru_l, tru_n, isN_n, isN_b, isN_i, isN_s, isN_t, isN_l, ix_t, ix_ft, ix_l, ix_r, ix_ref, setS_ref, atI_0, atI_1, atI_2, Option.map_some, Option.map_none, kb0, kb1, kb2, kb3, kb4, kb5, kb6, kb7, kb8, kb9, kb10, kb11, kb12, kb13, kb14, kb15, kb16, kb17, kb18, kb19, kb20, kb21, kb22, kb23, kb24, kb25, kb26, kb27, kb28, kb29, sz0, szl0, sz1, szl1, sz2, szl2, sz3, szl3, sz4, szl4, sz5, szl5, sz6, szl6, sz7, szl7, sz8, szl8, sz9, szl9, sz10, szl10, sz11, szl11, sz12, szl12, sz13, szl13, sz14, szl14, sz15, szl15, sz16, szl16, sz17, szl17, sz18, szl18, sz19, szl19, sz20, szl20, sz21, szl21, sz22, szl22, sz23, szl23, sz24, szl24, sz25, szl25, sz26, szl26, sz27, szl27, sz28, szl28, sz29, szl29, sz30, szl30, sz31, szl31, sz32, szl32, sz33, szl33, sz34, szl34, sz35, szl35, sz36, szl36, sz37, szl37, sz38, szl38, sz39, szl39, sz40, szl40, sorted_enD]
  refine wp_states_of h0 hn ?_
  simp only [List.map, List.replicate, List.cons_append, List.nil_append, List.length_cons, List.length_nil, Nat.reduceAdd, bq_ok, bq_ex, wp_pure, wp_fail, wp_getS, oQ_some, oQ_ite, bqS_ok, bqS_ex, wpS_seq, sqS_nx, sqS_rt, sqS_bk, sqS_ct, sqS_ex, wpS_next, wpS_break, wpS_cont, wpS_retN, wpS_setT, stQ_some, wp_C, wp_call, wp_callv, bqF_ok, bqF_ex, wp_new, wp_newv, fqS_nx, fqS_rt, fqS_ex, wpS_for, wp_comp, wp_dVar, vQ_v, vQ_o, List.getElem?_cons_zero, List.getElem?_cons_succ, List.set_cons_zero, List.set_cons_succ, wp_d1, wp_k1, wp_d2, wp_k2, wp_k2b, wp_dT, wp_kT, wp_dTru, wp_kTru, wp_dNotT, wp_kNot, wp_dAndT, wp_kAnd, wp_dOrT, wp_kOr, wp_dAndV, wp_kAndV, wp_kAndVb, wp_dOrV, wp_kOrV, wp_kOrVb, wp_dNotV, wp_kNotV, wp_kNotVb, wp_dIf, wp_kIf, wp_dChain, wp_kCh, wp_kCh2, wp_kCh3, wp_aNil, wp_aCons, wp_kCons, wp_kCons2, wp_dTup, wp_kTup, wp_dLst, wp_kLst, wp_dN, wp_kN, wp_dLs, wp_kLs, wp_lDisp, wp_kDisp, wp_lRng, wp_kRng, wp_dItR, wp_kItR, wp_dItS, wp_kItS, wp_tTrue, wp_oNo, wp_oSome, wp_kSome, wp_dSl, wp_kSl, wp_kSl1, wp_kSl2, ws_ret, ws_kRet, ws_expr, ws_kExpr, ws_if, ws_kIfS, ws_set, ws_kSet, ws_setO, ws_kSetO, ws_kSetT, ws_setR, ws_kSetR0, ws_kSetR1, ws_kSetR2, items_t, items_ft, items_l, items_r, setAll, Bool.not_true, Bool.not_false, if_true, ite_true, ite_false, ↓reduceIte, Bool.false_eq_true, Int.reduceLT, Int.reduceLE, Nat.reduceLT, Nat.reduceLeDiff, Nat.reducePow, Int.reducePow, Int.reduceToNat, Int.reduceNeg, Int.reduceSub, Int.reduceAdd, and_self, and_true, true_and, decide_eq_true_eq, decide_true, decide_false, List.length_map, ixN_31, ixN_32, ixN_30, wipeE, restE, lcQ, Option.getD_some, add_i, add_t, add_l, sub_i, mul_i, mul_t, mul_l, fdiv_i, mod_i, pow_18, neg_i, lt_i, le_i, gt_i, ge_i, eq_i, ne_i, eq_b, len_t, len_ft, len_l, len_r, abs_i, int_i, list_t, list_ft, list_l, list_r, tuple_t, tuple_ft, tuple_l, isi_i, isi_b, isi_s, isi_t, isi_ft, isi_l, isi_r, isi_n, tru_b, tru_i, tru_t, tru_ft, tru_l, tru_n, isN_n, isN_b, isN_i, isN_s, isN_t, isN_l, ix_t, ix_ft, ix_l, ix_r, ix_ref, setS_ref, atI_0, atI_1, atI_2, Option.map_some, Option.map_none, kb0, kb1, kb2, kb3, kb4, kb5, kb6, kb7, kb8, kb9, kb10, kb11, kb12, kb13, kb14, kb15, kb16, kb17, kb18, kb19, kb20, kb21, kb22, kb23, kb24, kb25, kb26, kb27, kb28, kb29, sz0, szl0, sz1, szl1, sz2, szl2, sz3, szl3, sz4, szl4, sz5, szl5, sz6, szl6, sz7, szl7, sz8, szl8, sz9, szl9, sz10, szl10, sz11, szl11, sz12, szl12, sz13, szl13, sz14, szl14, sz15, szl15, sz16, szl16, sz17, szl17, sz18, szl18, sz19, szl19, sz20, szl20, sz21, szl21, sz22, szl22, sz23, szl23, sz24, szl24, sz25, szl25, sz26, szl26, sz27, szl27, sz28, szl28, sz29, szl29, sz30, szl30, sz31, szl31, sz32, szl32, sz33, szl33, sz34, szl34, sz35, szl35, sz36, szl36, sz37, szl37, sz38, szl38, sz39, szl39, sz40, szl40]
  refine wp_compM (fun k : Nat => PV.int (k : Int)) (fun (s : Nat) => cpR f s) (bs := List.range n.toNat) rfl rfl (by rw [List.length_range]; unfold sizeLine; omega) ?_ ?_
  · intro k hk
    refine ⟨_, rfl, ?_, rfl⟩
    simp only [List.map, List.replicate, List.cons_append, List.nil_append, List.length_cons, List.length_nil, Nat.reduceAdd, bq_ok, bq_ex, wp_pure, wp_fail, wp_getS, oQ_some, oQ_ite, bqS_ok, bqS_ex, wpS_seq, sqS_nx, sqS_rt, sqS_bk, sqS_ct, sqS_ex, wpS_next, wpS_break, wpS_cont, wpS_retN, wpS_setT, stQ_some, wp_C, wp_call, wp_callv, bqF_ok, bqF_ex, wp_new, wp_newv, fqS_nx, fqS_rt, fqS_ex, wpS_for, wp_comp, wp_dVar, vQ_v, vQ_o, List.getElem?_cons_zero, List.getElem?_cons_succ, List.set_cons_zero, List.set_cons_succ, wp_d1, wp_k1, wp_d2, wp_k2, wp_k2b, wp_dT, wp_kT, wp_dTru, wp_kTru, wp_dNotT, wp_kNot, wp_dAndT, wp_kAnd, wp_dOrT, wp_kOr, wp_dAndV, wp_kAndV, wp_kAndVb, wp_dOrV, wp_kOrV, wp_kOrVb, wp_dNotV, wp_kNotV, wp_kNotVb, wp_dIf, wp_kIf, wp_dChain, wp_kCh, wp_kCh2, wp_kCh3, wp_aNil, wp_aCons, wp_kCons, wp_kCons2, wp_dTup, wp_kTup, wp_dLst, wp_kLst, wp_dN, wp_kN, wp_dLs, wp_kLs, wp_lDisp, wp_kDisp, wp_lRng, wp_kRng, wp_dItR, wp_kItR, wp_dItS, wp_kItS, wp_tTrue, wp_oNo, wp_oSome, wp_kSome, wp_dSl, wp_kSl, wp_kSl1, wp_kSl2, ws_ret, ws_kRet, ws_expr, ws_kExpr, ws_if, ws_kIfS, ws_set, ws_kSet, ws_setO, ws_kSetO, ws_kSetT, ws_setR, ws_kSetR0, ws_kSetR1, ws_kSetR2, items_t, items_ft, items_l, items_r, setAll, Bool.not_true, Bool.not_false, if_true, ite_true, ite_false, ↓reduceIte, Bool.false_eq_true, Int.reduceLT, Int.reduceLE, Nat.reduceLT, Nat.reduceLeDiff, Nat.reducePow, Int.reducePow, Int.reduceToNat, Int.reduceNeg, Int.reduceSub, Int.reduceAdd, and_self, and_true, true_and, decide_eq_true_eq, decide_true, decide_false, List.length_map, ixN_31, ixN_32, ixN_30, wipeE, restE, lcQ, Option.getD_some, add_i, add_t, add_l, sub_i, mul_i, mul_t, mul_l, fdiv_i, mod_i, pow_18, neg_i, lt_i, le_i, gt_i, ge_i, eq_i, ne_i, eq_b, len_t, len_ft, len_l, len_r, abs_i, int_i, list_t, list_ft, list_l, list_r, tuple_t, tuple_ft, tuple_l, isi_i, isi_b, isi_s, isi_t, isi_ft, isi_l, isi_r, isi_n, tru_b, tru_i, tru_t, tru_ft, tru_l, tru_n, isN_n, isN_b, isN_i, isN_s, isN_t, isN_l, ix_t, ix_ft, ix_l, ix_r, ix_ref, setS_ref, atI_0, atI_1, atI_2, Option.map_some, Option.map_none, kb0, kb1, kb2, kb3, kb4, kb5, kb6, kb7, kb8, kb9, kb10, kb11, kb12, kb13, kb14, kb15, kb16, kb17, kb18, kb19, kb20, kb21, kb22, kb23, kb24, kb25, kb26, kb27, kb28, kb29, sz0, szl0, sz1, szl1, sz2, szl2, sz3, szl3, sz4, szl4, sz5, szl5, sz6, szl6, sz7, szl7, sz8, szl8, sz9, szl9, sz10, szl10, sz11, szl11, sz12, szl12, sz13, szl13, sz14, szl14, sz15, szl15, sz16, szl16, sz17, szl17, sz18, szl18, sz19, szl19, sz20, szl20, sz21, szl21, sz22, szl22, sz23, szl23, sz24, szl24, sz25, szl25, sz26, szl26, sz27, szl27, sz28, szl28, sz29, szl29, sz30, szl30, sz31, szl31, sz32, szl32, sz33, szl33, sz34, szl34, sz35, szl35, sz36, szl36, sz37, szl37, sz38, szl38, sz39, szl39, sz40, szl40]
    refine wp_compF encPr (fun p : Pr => decide (p.1 = (k : Int))) (fun p => .int p.2) rfl rfl ?_ ?_ ?_
    · unfold sortPr; rw [(List.mergeSort_perm _ _).length_eq, List.length_map]; unfold sizeLine; omega
    · intro p hp
      refine ⟨_, rfl, ?_, fun _ => ?_, rfl⟩
      · simp only [List.map, List.replicate, List.cons_append, List.nil_append, List.length_cons, List.length_nil, Nat.reduceAdd, bq_ok, bq_ex, wp_pure, wp_fail, wp_getS, oQ_some, oQ_ite, bqS_ok, bqS_ex, wpS_seq, sqS_nx, sqS_rt, sqS_bk, sqS_ct, sqS_ex, wpS_next, wpS_break, wpS_cont, wpS_retN, wpS_setT, stQ_some, wp_C, wp_call, wp_callv, bqF_ok, bqF_ex, wp_new, wp_newv, fqS_nx, fqS_rt, fqS_ex, wpS_for, wp_comp, wp_dVar, vQ_v, vQ_o, List.getElem?_cons_zero, List.getElem?_cons_succ, List.set_cons_zero, List.set_cons_succ, wp_d1, wp_k1, wp_d2, wp_k2, wp_k2b, wp_dT, wp_kT, wp_dTru, wp_kTru, wp_dNotT, wp_kNot, wp_dAndT, wp_kAnd, wp_dOrT, wp_kOr, wp_dAndV, wp_kAndV, wp_kAndVb, wp_dOrV, wp_kOrV, wp_kOrVb, wp_dNotV, wp_kNotV, wp_kNotVb, wp_dIf, wp_kIf, wp_dChain, wp_kCh, wp_kCh2, wp_kCh3, wp_aNil, wp_aCons, wp_kCons, wp_kCons2, wp_dTup, wp_kTup, wp_dLst, wp_kLst, wp_dN, wp_kN, wp_dLs, wp_kLs, wp_lDisp, wp_kDisp, wp_lRng, wp_kRng, wp_dItR, wp_kItR, wp_dItS, wp_kItS, wp_tTrue, wp_oNo, wp_oSome, wp_kSome, wp_dSl, wp_kSl, wp_kSl1, wp_kSl2, ws_ret, ws_kRet, ws_expr, ws_kExpr, ws_if, ws_kIfS, ws_set, ws_kSet, ws_setO, ws_kSetO, ws_kSetT, ws_setR, ws_kSetR0, ws_kSetR1, ws_kSetR2, items_t, items_ft, items_l, items_r, setAll, Bool.not_true, Bool.not_false, if_true, ite_true, ite_false, ↓reduceIte, Bool.false_eq_true, Int.reduceLT, Int.reduceLE, Nat.reduceLT, Nat.reduceLeDiff, Nat.reducePow, Int.reducePow, Int.reduceToNat, Int.reduceNeg, Int.reduceSub, Int.reduceAdd, and_self, and_true, true_and, decide_eq_true_eq, decide_true, decide_false, List.length_map, ixN_31, ixN_32, ixN_30, wipeE, restE, lcQ, Option.getD_some, add_i, add_t, add_l, sub_i, mul_i, mul_t, mul_l, fdiv_i, mod_i, pow_18, neg_i, lt_i, le_i, gt_i, ge_i, eq_i, ne_i, eq_b, len_t, len_ft, len_l, len_r, abs_i, int_i, list_t, list_ft, list_l, list_r, tuple_t, tuple_ft, tuple_l, isi_i, isi_b, isi_s, isi_t, isi_ft, isi_l, isi_r, isi_n, tru_b, tru_i, tru_t, tru_ft, tru_l, tru_n, isN_n, isN_b, isN_i, isN_s, isN_t, isN_l, ix_t, ix_ft, ix_l, ix_r, ix_ref, setS_ref, atI_0, atI_1, atI_2, Option.map_some, Option.map_none, kb0, kb1, kb2, kb3, kb4, kb5, kb6, kb7, kb8, kb9, kb10, kb11, kb12, kb13, kb14, kb15, kb16, kb17, kb18, kb19, kb20, kb21, kb22, kb23, kb24, kb25, kb26, kb27, kb28, kb29, sz0, szl0, sz1, szl1, sz2, szl2, sz3, szl3, sz4, szl4, sz5, szl5, sz6, szl6, sz7, szl7, sz8, szl8, sz9, szl9, sz10, szl10, sz11, szl11, sz12, szl12, sz13, szl13, sz14, szl14, sz15, szl15, sz16, szl16, sz17, szl17, sz18, szl18, sz19, szl19, sz20, szl20, sz21, szl21, sz22, szl22, sz23, szl23, sz24, szl24, sz25, szl25, sz26, szl26, sz27, szl27, sz28, szl28, sz29, szl29, sz30, szl30, sz31, szl31, sz32, szl32, sz33, szl33, sz34, szl34, sz35, szl35, sz36, szl36, sz37, szl37, sz38, szl38, sz39, szl39, sz40, szl40, List.reverse_cons, List.zip]
      · simp only [List.map, List.replicate, List.cons_append, List.nil_append, List.length_cons, List.length_nil, Nat.reduceAdd, bq_ok, bq_ex, wp_pure, wp_fail, wp_getS, oQ_some, oQ_ite, bqS_ok, bqS_ex, wpS_seq, sqS_nx, sqS_rt, sqS_bk, sqS_ct, sqS_ex, wpS_next, wpS_break, wpS_cont, wpS_retN, wpS_setT, stQ_some, wp_C, wp_call, wp_callv, bqF_ok, bqF_ex, wp_new, wp_newv, fqS_nx, fqS_rt, fqS_ex, wpS_for, wp_comp, wp_dVar, vQ_v, vQ_o, List.getElem?_cons_zero, List.getElem?_cons_succ, List.set_cons_zero, List.set_cons_succ, wp_d1, wp_k1, wp_d2, wp_k2, wp_k2b, wp_dT, wp_kT, wp_dTru, wp_kTru, wp_dNotT, wp_kNot, wp_dAndT, wp_kAnd, wp_dOrT, wp_kOr, wp_dAndV, wp_kAndV, wp_kAndVb, wp_dOrV, wp_kOrV, wp_kOrVb, wp_dNotV, wp_kNotV, wp_kNotVb, wp_dIf, wp_kIf, wp_dChain, wp_kCh, wp_kCh2, wp_kCh3, wp_aNil, wp_aCons, wp_kCons, wp_kCons2, wp_dTup, wp_kTup, wp_dLst, wp_kLst, wp_dN, wp_kN, wp_dLs, wp_kLs, wp_lDisp, wp_kDisp, wp_lRng, wp_kRng, wp_dItR, wp_kItR, wp_dItS, wp_kItS, wp_tTrue, wp_oNo, wp_oSome, wp_kSome, wp_dSl, wp_kSl, wp_kSl1, wp_kSl2, ws_ret, ws_kRet, ws_expr, ws_kExpr, ws_if, ws_kIfS, ws_set, ws_kSet, ws_setO, ws_kSetO, ws_kSetT, ws_setR, ws_kSetR0, ws_kSetR1, ws_kSetR2, items_t, items_ft, items_l, items_r, setAll, Bool.not_true, Bool.not_false, if_true, ite_true, ite_false, ↓reduceIte, Bool.false_eq_true, Int.reduceLT, Int.reduceLE, Nat.reduceLT, Nat.reduceLeDiff, Nat.reducePow, Int.reducePow, Int.reduceToNat, Int.reduceNeg, Int.reduceSub, Int.reduceAdd, and_self, and_true, true_and, decide_eq_true_eq, decide_true, decide_false, List.length_map, ixN_31, ixN_32, ixN_30, wipeE, restE, lcQ, Option.getD_some, add_i, add_t, add_l, sub_i, mul_i, mul_t, mul_l, fdiv_i, mod_i, pow_18, neg_i, lt_i, le_i, gt_i, ge_i, eq_i, ne_i, eq_b, len_t, len_ft, len_l, len_r, abs_i, int_i, list_t, list_ft, list_l, list_r, tuple_t, tuple_ft, tuple_l, isi_i, isi_b, isi_s, isi_t, isi_ft, isi_l, isi_r, isi_n, tru_b, tru_i, tru_t, tru_ft, tru_l, tru_n, isN_n, isN_b, isN_i, isN_s, isN_t, isN_l, ix_t, ix_ft, ix_l, ix_r, ix_ref, setS_ref, atI_0, atI_1, atI_2, Option.map_some, Option.map_none, kb0, kb1, kb2, kb3, kb4, kb5, kb6, kb7, kb8, kb9, kb10, kb11, kb12, kb13, kb14, kb15, kb16, kb17, kb18, kb19, kb20, kb21, kb22, kb23, kb24, kb25, kb26, kb27, kb28, kb29, sz0, szl0, sz1, szl1, sz2, szl2, sz3, szl3, sz4, szl4, sz5, szl5, sz6, szl6, sz7, szl7, sz8, szl8, sz9, szl9, sz10, szl10, sz11, szl11, sz12, szl12, sz13, szl13, sz14, szl14, sz15, szl15, sz16, szl16, sz17, szl17, sz18, szl18, sz19, szl19, sz20, szl20, sz21, szl21, sz22, szl22, sz23, szl23, sz24, szl24, sz25, szl25, sz26, szl26, sz27, szl27, sz28, szl28, sz29, szl29, sz30, szl30, sz31, szl31, sz32, szl32, sz33, szl33, sz34, szl34, sz35, szl35, sz36, szl36, sz37, szl37, sz38, szl38, sz39, szl39, sz40, szl40]
    · simp only [List.map, List.replicate, List.cons_append, List.nil_append, List.length_cons, List.length_nil, Nat.reduceAdd, bq_ok, bq_ex, wp_pure, wp_fail, wp_getS, oQ_some, oQ_ite, bqS_ok, bqS_ex, wpS_seq, sqS_nx, sqS_rt, sqS_bk, sqS_ct, sqS_ex, wpS_next, wpS_break, wpS_cont, wpS_retN, wpS_setT, stQ_some, wp_C, wp_call, wp_callv, bqF_ok, bqF_ex, wp_new, wp_newv, fqS_nx, fqS_rt, fqS_ex, wpS_for, wp_comp, wp_dVar, vQ_v, vQ_o, List.getElem?_cons_zero, List.getElem?_cons_succ, List.set_cons_zero, List.set_cons_succ, wp_d1, wp_k1, wp_d2, wp_k2, wp_k2b, wp_dT, wp_kT, wp_dTru, wp_kTru, wp_dNotT, wp_kNot, wp_dAndT, wp_kAnd, wp_dOrT, wp_kOr, wp_dAndV, wp_kAndV, wp_kAndVb, wp_dOrV, wp_kOrV, wp_kOrVb, wp_dNotV, wp_kNotV, wp_kNotVb, wp_dIf, wp_kIf, wp_dChain, wp_kCh, wp_kCh2, wp_kCh3, wp_aNil, wp_aCons, wp_kCons, wp_kCons2, wp_dTup, wp_kTup, wp_dLst, wp_kLst, wp_dN, wp_kN, wp_dLs, wp_kLs, wp_lDisp, wp_kDisp, wp_lRng, wp_kRng, wp_dItR, wp_kItR, wp_dItS, wp_kItS, wp_tTrue, wp_oNo, wp_oSome, wp_kSome, wp_dSl, wp_kSl, wp_kSl1, wp_kSl2, ws_ret, ws_kRet, ws_expr, ws_kExpr, ws_if, ws_kIfS, ws_set, ws_kSet, ws_setO, ws_kSetO, ws_kSetT, ws_setR, ws_kSetR0, ws_kSetR1, ws_kSetR2, items_t, items_ft, items_l, items_r, setAll, Bool.not_true, Bool.not_false, if_true, ite_true, ite_false, ↓reduceIte, Bool.false_eq_true, Int.reduceLT, Int.reduceLE, Nat.reduceLT, Nat.reduceLeDiff, Nat.reducePow, Int.reducePow, Int.reduceToNat, Int.reduceNeg, Int.reduceSub, Int.reduceAdd, and_self, and_true, true_and, decide_eq_true_eq, decide_true, decide_false, List.length_map, ixN_31, ixN_32, ixN_30, wipeE, restE, lcQ, Option.getD_some, add_i, add_t, add_l, sub_i, mul_i, mul_t, mul_l, fdiv_i, mod_i, pow_18, neg_i, lt_i, le_i, gt_i, ge_i, eq_i, ne_i, eq_b, len_t, len_ft, len_l, len_r, abs_i, int_i, list_t, list_ft, list_l, list_r, tuple_t, tuple_ft, tuple_l, isi_i, isi_b, isi_s, isi_t, isi_ft, isi_l, isi_r, isi_n, tru_b, tru_i, tru_t, tru_ft, tru_l, tru_n, isN_n, isN_b, isN_i, isN_s, isN_t, isN_l, ix_t, ix_ft, ix_l, ix_r, ix_ref, setS_ref, atI_0, atI_1, atI_2, Option.map_some, Option.map_none, kb0, kb1, kb2, kb3, kb4, kb5, kb6, kb7, kb8, kb9, kb10, kb11, kb12, kb13, kb14, kb15, kb16, kb17, kb18, kb19, kb20, kb21, kb22, kb23, kb24, kb25, kb26, kb27, kb28, kb29, sz0, szl0, sz1, szl1, sz2, szl2, sz3, szl3, sz4, szl4, sz5, szl5, sz6, szl6, sz7, szl7, sz8, szl8, sz9, szl9, sz10, szl10, sz11, szl11, sz12, szl12, sz13, szl13, sz14, szl14, sz15, szl15, sz16, szl16, sz17, szl17, sz18, szl18, sz19, szl19, sz20, szl20, sz21, szl21, sz22, szl22, sz23, szl23, sz24, szl24, sz25, szl25, sz26, szl26, sz27, szl27, sz28, szl28, sz29, szl29, sz30, szl30, sz31, szl31, sz32, szl32, sz33, szl33, sz34, szl34, sz35, szl35, sz36, szl36, sz37, szl37, sz38, szl38, sz39, szl39, sz40, szl40]
      unfold cpR cpL
      rw [List.map_map]
      rfl
  · simp only [List.map, List.replicate, List.cons_append, List.nil_append, List.length_cons, List.length_nil, Nat.reduceAdd, bq_ok, bq_ex, wp_pure, wp_fail, wp_getS, oQ_some, oQ_ite, bqS_ok, bqS_ex, wpS_seq, sqS_nx, sqS_rt, sqS_bk, sqS_ct, sqS_ex, wpS_next, wpS_break, wpS_cont, wpS_retN, wpS_setT, stQ_some, wp_C, wp_call, wp_callv, bqF_ok, bqF_ex, wp_new, wp_newv, fqS_nx, fqS_rt, fqS_ex, wpS_for, wp_comp, wp_dVar, vQ_v, vQ_o, List.getElem?_cons_zero, List.getElem?_cons_succ, List.set_cons_zero, List.set_cons_succ, wp_d1, wp_k1, wp_d2, wp_k2, wp_k2b, wp_dT, wp_kT, wp_dTru, wp_kTru, wp_dNotT, wp_kNot, wp_dAndT, wp_kAnd, wp_dOrT, wp_kOr, wp_dAndV, wp_kAndV, wp_kAndVb, wp_dOrV, wp_kOrV, wp_kOrVb, wp_dNotV, wp_kNotV, wp_kNotVb, wp_dIf, wp_kIf, wp_dChain, wp_kCh, wp_kCh2, wp_kCh3, wp_aNil, wp_aCons, wp_kCons, wp_kCons2, wp_dTup, wp_kTup, wp_dLst, wp_kLst, wp_dN, wp_kN, wp_dLs, wp_kLs, wp_lDisp, wp_kDisp, wp_lRng, wp_kRng, wp_dItR, wp_kItR, wp_dItS, wp_kItS, wp_tTrue, wp_oNo, wp_oSome, wp_kSome, wp_dSl, wp_kSl, wp_kSl1, wp_kSl2, ws_ret, ws_kRet, ws_expr, ws_kExpr, ws_if, ws_kIfS, ws_set, ws_kSet, ws_setO, ws_kSetO, ws_kSetT, ws_setR, ws_kSetR0, ws_kSetR1, ws_kSetR2, items_t, items_ft, items_l, items_r, setAll, Bool.not_true, Bool.not_false, if_true, ite_true, ite_false, ↓reduceIte, Bool.false_eq_true, Int.reduceLT, Int.reduceLE, Nat.reduceLT, Nat.reduceLeDiff, Nat.reducePow, Int.reducePow, Int.reduceToNat, Int.reduceNeg, Int.reduceSub, Int.reduceAdd, and_self, and_true, true_and, decide_eq_true_eq, decide_true, decide_false, List.length_map, ixN_31, ixN_32, ixN_30, wipeE, restE, lcQ, Option.getD_some, add_i, add_t, add_l, sub_i, mul_i, mul_t, mul_l, fdiv_i, mod_i, pow_18, neg_i, lt_i, le_i, gt_i, ge_i, eq_i, ne_i, eq_b, len_t, len_ft, len_l, len_r, abs_i, int_i, list_t, list_ft, list_l, list_r, tuple_t, tuple_ft, tuple_l, isi_i, isi_b, isi_s, isi_t, isi_ft, isi_l, isi_r, isi_n, tru_b, tru_i, tru_t, tru_ft, tru_l, tru_n, isN_n, isN_b, isN_i, isN_s, isN_t, isN_l, ix_t, ix_ft, ix_l, ix_r, ix_ref, setS_ref, atI_0, atI_1, atI_2, Option.map_some, Option.map_none, kb0, kb1, kb2, kb3, kb4, kb5, kb6, kb7, kb8, kb9, kb10, kb11, kb12, kb13, kb14, kb15, kb16, kb17, kb18, kb19, kb20, kb21, kb22, kb23, kb24, kb25, kb26, kb27, kb28, kb29, sz0, szl0, sz1, szl1, sz2, szl2, sz3, szl3, sz4, szl4, sz5, szl5, sz6, szl6, sz7, szl7, sz8, szl8, sz9, szl9, sz10, szl10, sz11, szl11, sz12, szl12, sz13, szl13, sz14, szl14, sz15, szl15, sz16, szl16, sz17, szl17, sz18, szl18, sz19, szl19, sz20, szl20, sz21, szl21, sz22, szl22, sz23, szl23, sz24, szl24, sz25, szl25, sz26, szl26, sz27, szl27, sz28, szl28, sz29, szl29, sz30, szl30, sz31, szl31, sz32, szl32, sz33, szl33, sz34, szl34, sz35, szl35, sz36, szl36, sz37, szl37, sz38, szl38, sz39, szl39, sz40, szl40]
    exact h f hf
end
end Dn
end
section
set_option Elab.async false
set_option linter.all false
set_option maxRecDepth 100000
set_option maxHeartbeats 1000000
namespace Dn
open PySem L2
theorem intsP_ints : ∀ ns : List Int, intsP (ns.map .int) = some ns
  | [] => rfl
  | n :: ns => by rw [List.map_cons]; unfold intsP; rw [intsP_ints ns]; rfl
theorem max1_ints {S : Stor} {ns : List Int} (h : 0 < ns.length) : max1P S [.lst (ns.map .int)] = some (.int (maxI ns)) := by
  unfold max1P; dsimp only; rw [intsP_ints, Option.bind_some, if_pos h]
theorem maxI_le : ∀ {ns : List Int} {k : Int}, 0 < ns.length → (maxI ns ≤ k ↔ ∀ x ∈ ns, x ≤ k)
  | [a], k, _ => by unfold maxI; simp
  | a :: b :: r, k, _ => by
    have ih := maxI_le (ns := b :: r) (k := k) (by simp)
    unfold maxI
    constructor
    · intro h x hx
      rcases List.mem_cons.mp hx with rfl | hx
      · split at h <;> omega
      · refine ih.mp ?_ x hx
        split at h <;> omega
    · intro h
      have h1 := h a (List.mem_cons_self ..)
      have h2 := ih.mpr fun x hx => h x (List.mem_cons_of_mem _ hx)
      split <;> omega
/-- how many counterparts at most -/
def cpN (n : Int) (f : Fg Pr) : List Int := (List.range n.toNat).map fun (s : Nat) => ((cpL f s).length : Int)
def cpM (n : Int) (f : Fg Pr) : Int := maxI (cpN n f)
def detP (n : Int) (f : Fg Pr) : Bool := (List.range n.toNat).all fun (s : Nat) => decide ((cpL f s).length < 2)
def entP : List Int → PV
  | [] => .non
  | b :: _ => .int b
def tblA (n : Int) (f : Fg Pr) : PV := .tup ((List.range n.toNat).map fun (s : Nat) => entP (cpL f s))
def tblP (n : Int) (f : Fg Pr) : PV := if detP n f then tblA n f else .non
theorem mem_cpL {f : Fg Pr} {s b : Int} : b ∈ cpL f s ↔ hasG f (s, b) = true := by
  unfold cpL
  rw [hasG_iff, List.mem_map]
  constructor
  · rintro ⟨p, hp, rfl⟩
    rw [List.mem_filter] at hp
    have h1 := (List.mergeSort_perm _ _).mem_iff.mp hp.1
    have h2 : p.1 = s := by simpa using hp.2
    rw [← h2]; exact h1
  · intro h
    exact ⟨(s, b), List.mem_filter.mpr ⟨(List.mergeSort_perm _ _).mem_iff.mpr h, by simp⟩, rfl⟩
section
variable {n k s0 : Int} {cs ds : List (List Int)} {a b : Int} {f : Fg Pr}
theorem SG.inn {st : Pr → Nat → Pr} {m : Nat} {s p : Pr} (h : SG (UP n k) st m s f) (hp : hasG f p = true) : In n p.1 ∧ In k p.2 := mem_UP.mp (h.ig.inn hp)
theorem cpN_len (h : In n a) : 0 < (cpN n f).length := by unfold cpN; rw [List.length_map, List.length_range]; unfold In at h; omega
theorem cpM_det {st : Pr → Nat → Pr} {m : Nat} (h : SG (UP n k) st m (a, b) f) : decide (cpM n f = 1) = detP n f ∧ decide (cpM n f > 1) = !detP n f := by
  have ha := (h.inn h.me).1
  have hl := cpN_len (f := f) ha
  have h1 : cpM n f ≤ 1 ↔ detP n f = true := by
    unfold cpM detP
    rw [maxI_le hl, List.all_eq_true]
    unfold cpN
    constructor
    · intro q s hs
      have := q _ (List.mem_map.mpr ⟨s, hs, rfl⟩)
      simp only [decide_eq_true_eq]; omega
    · intro q x hx
      obtain ⟨s, hs, rfl⟩ := List.mem_map.mp hx
      have := q s hs
      simp only [decide_eq_true_eq] at this; omega
  have h2 : 1 ≤ cpM n f := by
    have hb := List.length_pos_of_mem (mem_cpL.mpr h.me)
    have q := (maxI_le (k := cpM n f) hl).mp (Int.le_refl _)
    have ha2 := ha.1; have ha3 := ha.2
    have := q ((cpL f a).length : Int) (by unfold cpN; exact List.mem_map.mpr ⟨a.toNat, List.mem_range.mpr (by omega), by rw [Int.toNat_of_nonneg ha.1]⟩)
    omega
  cases hd : detP n f with
  | true => have := h1.mpr hd; exact ⟨by rw [decide_eq_true (by omega)], by rw [decide_eq_false (by omega)]; rfl⟩
  | false =>
    have : ¬ cpM n f ≤ 1 := fun z => by rw [h1.mp z] at hd; cases hd
    exact ⟨by rw [decide_eq_false (by omega)], by rw [decide_eq_true (by omega)]; rfl⟩
end
section
variable {n s0 : Int} {cs : List (List Int)} {S : Stor} {Q : OutF → Prop}
theorem wp_determines (hm : ∀ c ∈ cs, GC n c) (hcl : cs.length ≤ 1000) (hn : n ≤ 1000) (hN : (UP n n).length < 100000) {a b : Int} (ha : In n a) (hb : In n b) (h : ∀ f, SG (UP n n) (stp2 cs cs) cs.length (a, b) f → Q (.ok (.bl (detP n f)) S)) : wpF d_determines [sysV n s0 cs, .int a, .int b] S Q := by
  unfold d_determines
  have h0 : 0 ≤ n := by unfold In at ha; omega
  refine wpF_go rfl ?_
  simp only [List.map, List.replicate, List.cons_append, List.nil_append, List.length_cons, List.length_nil, Nat.reduceAdd, bq_ok, bq_ex, wp_pure, wp_fail, wp_getS, oQ_some, oQ_ite, bqS_ok, bqS_ex, wpS_seq, sqS_nx, sqS_rt, sqS_bk, sqS_ct, sqS_ex, wpS_next, wpS_break, wpS_cont, wpS_retN, wpS_setT, stQ_some, wp_C, wp_call, wp_callv, bqF_ok, bqF_ex, wp_new, wp_newv, fqS_nx, fqS_rt, fqS_ex, wpS_for, wp_comp, wp_dVar, vQ_v, vQ_o, List.getElem?_cons_zero, List.getElem?_cons_succ, List.set_cons_zero, List.set_cons_succ, wp_d1, wp_k1, wp_d2, wp_k2, wp_k2b, wp_dT, wp_kT, wp_dTru, wp_kTru, wp_dNotT, wp_kNot, wp_dAndT, wp_kAnd, wp_dOrT, wp_kOr, wp_dAndV, wp_kAndV, wp_kAndVb, wp_dOrV, wp_kOrV, wp_kOrVb, wp_dNotV, wp_kNotV, wp_kNotVb, wp_dIf, wp_kIf, wp_dChain, wp_kCh, wp_kCh2, wp_kCh3, wp_aNil, wp_aCons, wp_kCons, wp_kCons2, wp_dTup, wp_kTup, wp_dLst, wp_kLst, wp_dN, wp_kN, wp_dLs, wp_kLs, wp_lDisp, wp_kDisp, wp_lRng, wp_kRng, wp_dItR, wp_kItR, wp_dItS, wp_kItS, wp_tTrue, wp_oNo, wp_oSome, wp_kSome, wp_dSl, wp_kSl, wp_kSl1, wp_kSl2, ws_ret, ws_kRet, ws_expr, ws_kExpr, ws_if, ws_kIfS, ws_set, ws_kSet, ws_setO, ws_kSetO, ws_kSetT, ws_setR, ws_kSetR0, ws_kSetR1, ws_kSetR2, items_t, items_ft, items_l, items_r, setAll, Bool.not_true, Bool.not_false, if_true, ite_true, ite_false, ↓reduceIte, Bool.false_eq_true, Int.reduceLT, Int.reduceLE, Nat.reduceLT, Nat.reduceLeDiff, Nat.reducePow, Int.reducePow, Int.reduceToNat, Int.reduceNeg, Int.reduceSub, Int.reduceAdd, and_self, and_true, true_and, decide_eq_true_eq, decide_true, decide_false, List.length_map, ixN_31, ixN_32, ixN_30, wipeE, restE, lcQ, Option.getD_some, add_i, add_t, add_l, sub_i, mul_i, mul_t, mul_l, fdiv_i, mod_i, pow_18, neg_i, lt_i, le_i, gt_i, ge_i, eq_i, ne_i, eq_b, len_t, len_ft, len_l, len_r, abs_i, int_i, list_t, list_ft, list_l, list_r, tuple_t, tuple_ft, tuple_l, isi_i, isi_b, isi_s, isi_t, isi_ft, isi_l, isi_r, isi_n, tru_b, tru_i, tru_t, tru_ft, tru_l, tru_n, isN_n, isN_b, isN_i, isN_s, isN_t, isN_l, ix_t, ix_ft, ix_l, ix_r, ix_ref, setS_ref, atI_0, atI_1, atI_2, Option.map_some, Option.map_none, kb0, kb1, kb2, kb3, kb4, kb5, kb6, kb7, kb8, kb9, kb10, kb11, kb12, kb13, kb14, kb15, kb16, kb17, kb18, kb19, kb20, kb21, kb22, kb23, kb24, kb25, kb26, kb27, kb28, kb29, sz0, szl0, sz1, szl1, sz2, szl2, sz3, szl3, sz4, szl4, sz5, szl5, sz6, szl6, sz7, szl7, sz8, szl8, sz9, szl9, sz10, szl10, sz11, szl11, sz12, szl12, sz13, szl13, sz14, szl14, sz15, szl15, sz16, szl16, sz17, szl17, sz18, szl18, sz19, szl19, sz20, szl20, sz21, szl21, sz22, szl22, sz23, szl23, sz24, szl24, sz25, szl25, sz26, szl26, sz27, szl27, sz28, szl28, sz29, szl29, sz30, szl30, sz31, szl31, sz32, szl32, sz33, szl33, sz34, szl34, sz35, szl35, sz36, szl36, sz37, szl37, sz38, szl38, sz39, szl39, sz40, szl40]
  refine wp_counterparts_of hm hcl h0 hn hN ha hb fun f hf => ?_
  unfold cpA
  simp only [List.map, List.replicate, List.cons_append, List.nil_append, List.length_cons, List.length_nil, Nat.reduceAdd, bq_ok, bq_ex, wp_pure, wp_fail, wp_getS, oQ_some, oQ_ite, bqS_ok, bqS_ex, wpS_seq, sqS_nx, sqS_rt, sqS_bk, sqS_ct, sqS_ex, wpS_next, wpS_break, wpS_cont, wpS_retN, wpS_setT, stQ_some, wp_C, wp_call, wp_callv, bqF_ok, bqF_ex, wp_new, wp_newv, fqS_nx, fqS_rt, fqS_ex, wpS_for, wp_comp, wp_dVar, vQ_v, vQ_o, List.getElem?_cons_zero, List.getElem?_cons_succ, List.set_cons_zero, List.set_cons_succ, wp_d1, wp_k1, wp_d2, wp_k2, wp_k2b, wp_dT, wp_kT, wp_dTru, wp_kTru, wp_dNotT, wp_kNot, wp_dAndT, wp_kAnd, wp_dOrT, wp_kOr, wp_dAndV, wp_kAndV, wp_kAndVb, wp_dOrV, wp_kOrV, wp_kOrVb, wp_dNotV, wp_kNotV, wp_kNotVb, wp_dIf, wp_kIf, wp_dChain, wp_kCh, wp_kCh2, wp_kCh3, wp_aNil, wp_aCons, wp_kCons, wp_kCons2, wp_dTup, wp_kTup, wp_dLst, wp_kLst, wp_dN, wp_kN, wp_dLs, wp_kLs, wp_lDisp, wp_kDisp, wp_lRng, wp_kRng, wp_dItR, wp_kItR, wp_dItS, wp_kItS, wp_tTrue, wp_oNo, wp_oSome, wp_kSome, wp_dSl, wp_kSl, wp_kSl1, wp_kSl2, ws_ret, ws_kRet, ws_expr, ws_kExpr, ws_if, ws_kIfS, ws_set, ws_kSet, ws_setO, ws_kSetO, ws_kSetT, ws_setR, ws_kSetR0, ws_kSetR1, ws_kSetR2, items_t, items_ft, items_l, items_r, setAll, Bool.not_true, Bool.not_false, if_true, ite_true, ite_false, ↓reduceIte, Bool.false_eq_true, Int.reduceLT, Int.reduceLE, Nat.reduceLT, Nat.reduceLeDiff, Nat.reducePow, Int.reducePow, Int.reduceToNat, Int.reduceNeg, Int.reduceSub, Int.reduceAdd, and_self, and_true, true_and, decide_eq_true_eq, decide_true, decide_false, List.length_map, ixN_31, ixN_32, ixN_30, wipeE, restE, lcQ, Option.getD_some, add_i, add_t, add_l, sub_i, mul_i, mul_t, mul_l, fdiv_i, mod_i, pow_18, neg_i, lt_i, le_i, gt_i, ge_i, eq_i, ne_i, eq_b, len_t, len_ft, len_l, len_r, abs_i, int_i, list_t, list_ft, list_l, list_r, tuple_t, tuple_ft, tuple_l, isi_i, isi_b, isi_s, isi_t, isi_ft, isi_l, isi_r, isi_n, tru_b, tru_i, tru_t, tru_ft, tru_l, tru_n, isN_n, isN_b, isN_i, isN_s, isN_t, isN_l, ix_t, ix_ft, ix_l, ix_r, ix_ref, setS_ref, atI_0, atI_1, atI_2, Option.map_some, Option.map_none, kb0, kb1, kb2, kb3, kb4, kb5, kb6, kb7, kb8, kb9, kb10, kb11, kb12, kb13, kb14, kb15, kb16, kb17, kb18, kb19, kb20, kb21, kb22, kb23, kb24, kb25, kb26, kb27, kb28, kb29, sz0, szl0, sz1, szl1, sz2, szl2, sz3, szl3, sz4, szl4, sz5, szl5, sz6, szl6, sz7, szl7, sz8, szl8, sz9, szl9, sz10, szl10, sz11, szl11, sz12, szl12, sz13, szl13, sz14, szl14, sz15, szl15, sz16, szl16, sz17, szl17, sz18, szl18, sz19, szl19, sz20, szl20, sz21, szl21, sz22, szl22, sz23, szl23, sz24, szl24, sz25, szl25, sz26, szl26, sz27, szl27, sz28, szl28, sz29, szl29, sz30, szl30, sz31, szl31, sz32, szl32, sz33, szl33, sz34, szl34, sz35, szl35, sz36, szl36, sz37, szl37, sz38, szl38, sz39, szl39, sz40, szl40]
  refine wp_compM (fun (s : Nat) => cpR f s) (fun (s : Nat) => .int ((cpL f s).length : Int)) (bs := List.range n.toNat) rfl rfl (by rw [List.length_range]; unfold sizeLine; omega) ?_ ?_
  · intro k hk
    refine ⟨_, rfl, ?_, rfl⟩
    unfold cpR
    simp only [List.map, List.replicate, List.cons_append, List.nil_append, List.length_cons, List.length_nil, Nat.reduceAdd, bq_ok, bq_ex, wp_pure, wp_fail, wp_getS, oQ_some, oQ_ite, bqS_ok, bqS_ex, wpS_seq, sqS_nx, sqS_rt, sqS_bk, sqS_ct, sqS_ex, wpS_next, wpS_break, wpS_cont, wpS_retN, wpS_setT, stQ_some, wp_C, wp_call, wp_callv, bqF_ok, bqF_ex, wp_new, wp_newv, fqS_nx, fqS_rt, fqS_ex, wpS_for, wp_comp, wp_dVar, vQ_v, vQ_o, List.getElem?_cons_zero, List.getElem?_cons_succ, List.set_cons_zero, List.set_cons_succ, wp_d1, wp_k1, wp_d2, wp_k2, wp_k2b, wp_dT, wp_kT, wp_dTru, wp_kTru, wp_dNotT, wp_kNot, wp_dAndT, wp_kAnd, wp_dOrT, wp_kOr, wp_dAndV, wp_kAndV, wp_kAndVb, wp_dOrV, wp_kOrV, wp_kOrVb, wp_dNotV, wp_kNotV, wp_kNotVb, wp_dIf, wp_kIf, wp_dChain, wp_kCh, wp_kCh2, wp_kCh3, wp_aNil, wp_aCons, wp_kCons, wp_kCons2, wp_dTup, wp_kTup, wp_dLst, wp_kLst, wp_dN, wp_kN, wp_dLs, wp_kLs, wp_lDisp, wp_kDisp, wp_lRng, wp_kRng, wp_dItR, wp_kItR, wp_dItS, wp_kItS, wp_tTrue, wp_oNo, wp_oSome, wp_kSome, wp_dSl, wp_kSl, wp_kSl1, wp_kSl2, ws_ret, ws_kRet, ws_expr, ws_kExpr, ws_if, ws_kIfS, ws_set, ws_kSet, ws_setO, ws_kSetO, ws_kSetT, ws_setR, ws_kSetR0, ws_kSetR1, ws_kSetR2, items_t, items_ft, items_l, items_r, setAll, Bool.not_true, Bool.not_false, if_true, ite_true, ite_false, ↓reduceIte, Bool.false_eq_true, Int.reduceLT, Int.reduceLE, Nat.reduceLT, Nat.reduceLeDiff, Nat.reducePow, Int.reducePow, Int.reduceToNat, Int.reduceNeg, Int.reduceSub, Int.reduceAdd, and_self, and_true, true_and, decide_eq_true_eq, decide_true, decide_false, List.length_map, ixN_31, ixN_32, ixN_30, wipeE, restE, lcQ, Option.getD_some, add_i, add_t, add_l, sub_i, mul_i, mul_t, mul_l, fdiv_i, mod_i, pow_18, neg_i, lt_i, le_i, gt_i, ge_i, eq_i, ne_i, eq_b, len_t, len_ft, len_l, len_r, abs_i, int_i, list_t, list_ft, list_l, list_r, tuple_t, tuple_ft, tuple_l, isi_i, isi_b, isi_s, isi_t, isi_ft, isi_l, isi_r, isi_n, tru_b, tru_i, tru_t, tru_ft, tru_l, tru_n, isN_n, isN_b, isN_i, isN_s, isN_t, isN_l, ix_t, ix_ft, ix_l, ix_r, ix_ref, setS_ref, atI_0, atI_1, atI_2, Option.map_some, Option.map_none, kb0, kb1, kb2, kb3, kb4, kb5, kb6, kb7, kb8, kb9, kb10, kb11, kb12, kb13, kb14, kb15, kb16, kb17, kb18, kb19, kb20, kb21, kb22, kb23, kb24, kb25, kb26, kb27, kb28, kb29, sz0, szl0, sz1, szl1, sz2, szl2, sz3, szl3, sz4, szl4, sz5, szl5, sz6, szl6, sz7, szl7, sz8, szl8, sz9, szl9, sz10, szl10, sz11, szl11, sz12, szl12, sz13, szl13, sz14, szl14, sz15, szl15, sz16, szl16, sz17, szl17, sz18, szl18, sz19, szl19, sz20, szl20, sz21, szl21, sz22, szl22, sz23, szl23, sz24, szl24, sz25, szl25, sz26, szl26, sz27, szl27, sz28, szl28, sz29, szl29, sz30, szl30, sz31, szl31, sz32, szl32, sz33, szl33, sz34, szl34, sz35, szl35, sz36, szl36, sz37, szl37, sz38, szl38, sz39, szl39, sz40, szl40]
  · have e2 : (List.range n.toNat).map (fun (s : Nat) => PV.int ((cpL f s).length : Int)) = (cpN n f).map .int := by unfold cpN; rw [List.map_map]; rfl
    simp only [List.replicate, List.cons_append, List.nil_append, List.length_cons, List.length_nil, Nat.reduceAdd, bq_ok, bq_ex, wp_pure, wp_fail, wp_getS, oQ_some, oQ_ite, bqS_ok, bqS_ex, wpS_seq, sqS_nx, sqS_rt, sqS_bk, sqS_ct, sqS_ex, wpS_next, wpS_break, wpS_cont, wpS_retN, wpS_setT, stQ_some, wp_C, wp_call, wp_callv, bqF_ok, bqF_ex, wp_new, wp_newv, fqS_nx, fqS_rt, fqS_ex, wpS_for, wp_comp, wp_dVar, vQ_v, vQ_o, List.getElem?_cons_zero, List.getElem?_cons_succ, List.set_cons_zero, List.set_cons_succ, wp_d1, wp_k1, wp_d2, wp_k2, wp_k2b, wp_dT, wp_kT, wp_dTru, wp_kTru, wp_dNotT, wp_kNot, wp_dAndT, wp_kAnd, wp_dOrT, wp_kOr, wp_dAndV, wp_kAndV, wp_kAndVb, wp_dOrV, wp_kOrV, wp_kOrVb, wp_dNotV, wp_kNotV, wp_kNotVb, wp_dIf, wp_kIf, wp_dChain, wp_kCh, wp_kCh2, wp_kCh3, wp_aNil, wp_aCons, wp_kCons, wp_kCons2, wp_dTup, wp_kTup, wp_dLst, wp_kLst, wp_dN, wp_kN, wp_dLs, wp_kLs, wp_lDisp, wp_kDisp, wp_lRng, wp_kRng, wp_dItR, wp_kItR, wp_dItS, wp_kItS, wp_tTrue, wp_oNo, wp_oSome, wp_kSome, wp_dSl, wp_kSl, wp_kSl1, wp_kSl2, ws_ret, ws_kRet, ws_expr, ws_kExpr, ws_if, ws_kIfS, ws_set, ws_kSet, ws_setO, ws_kSetO, ws_kSetT, ws_setR, ws_kSetR0, ws_kSetR1, ws_kSetR2, items_t, items_ft, items_l, items_r, setAll, Bool.not_true, Bool.not_false, if_true, ite_true, ite_false, ↓reduceIte, Bool.false_eq_true, Int.reduceLT, Int.reduceLE, Nat.reduceLT, Nat.reduceLeDiff, Nat.reducePow, Int.reducePow, Int.reduceToNat, Int.reduceNeg, Int.reduceSub, Int.reduceAdd, and_self, and_true, true_and, decide_eq_true_eq, decide_true, decide_false, List.length_map, ixN_31, ixN_32, ixN_30, wipeE, restE, lcQ, Option.getD_some, add_i, add_t, add_l, sub_i, mul_i, mul_t, mul_l, fdiv_i, mod_i, pow_18, neg_i, lt_i, le_i, gt_i, ge_i, eq_i, ne_i, eq_b, len_t, len_ft, len_l, len_r, abs_i, int_i, list_t, list_ft, list_l, list_r, tuple_t, tuple_ft, tuple_l, isi_i, isi_b, isi_s, isi_t, isi_ft, isi_l, isi_r, isi_n, tru_b, tru_i, tru_t, tru_ft, tru_l, tru_n, isN_n, isN_b, isN_i, isN_s, isN_t, isN_l, ix_t, ix_ft, ix_l, ix_r, ix_ref, setS_ref, atI_0, atI_1, atI_2, Option.map_some, Option.map_none, kb0, kb1, kb2, kb3, kb4, kb5, kb6, kb7, kb8, kb9, kb10, kb11, kb12, kb13, kb14, kb15, kb16, kb17, kb18, kb19, kb20, kb21, kb22, kb23, kb24, kb25, kb26, kb27, kb28, kb29, sz0, szl0, sz1, szl1, sz2, szl2, sz3, szl3, sz4, szl4, sz5, szl5, sz6, szl6, sz7, szl7, sz8, szl8, sz9, szl9, sz10, szl10, sz11, szl11, sz12, szl12, sz13, szl13, sz14, szl14, sz15, szl15, sz16, szl16, sz17, szl17, sz18, szl18, sz19, szl19, sz20, szl20, sz21, szl21, sz22, szl22, sz23, szl23, sz24, szl24, sz25, szl25, sz26, szl26, sz27, szl27, sz28, szl28, sz29, szl29, sz30, szl30, sz31, szl31, sz32, szl32, sz33, szl33, sz34, szl34, sz35, szl35, sz36, szl36, sz37, szl37, sz38, szl38, sz39, szl39, sz40, szl40, e2, max1_ints (cpN_len (f := f) ha)]
    have := (cpM_det hf).1
    unfold cpM at this
    rw [this]
    exact h f hf
theorem wp_table_for (hm : ∀ c ∈ cs, GC n c) (hcl : cs.length ≤ 1000) (hn : n ≤ 1000) (hN : (UP n n).length < 100000) {a b : Int} (ha : In n a) (hb : In n b) (h : ∀ f, SG (UP n n) (stp2 cs cs) cs.length (a, b) f → Q (.ok (tblP n f) S)) : wpF d_table_for [sysV n s0 cs, .int a, .int b] S Q := by
  unfold d_table_for
  have h0 : 0 ≤ n := by unfold In at ha; omega
  refine wpF_go rfl ?_
  rw [wpS_seq]
  simp only [List.map, List.replicate, List.cons_append, List.nil_append, List.length_cons, List.length_nil, Nat.reduceAdd, bq_ok, bq_ex, wp_pure, wp_fail, wp_getS, oQ_some, oQ_ite, bqS_ok, bqS_ex, sqS_nx, sqS_rt, sqS_bk, sqS_ct, sqS_ex, wpS_next, wpS_break, wpS_cont, wpS_retN, wpS_setT, stQ_some, wp_C, wp_call, wp_callv, bqF_ok, bqF_ex, wp_new, wp_newv, fqS_nx, fqS_rt, fqS_ex, wpS_for, wp_comp, wp_dVar, vQ_v, vQ_o, List.getElem?_cons_zero, List.getElem?_cons_succ, List.set_cons_zero, List.set_cons_succ, wp_d1, wp_k1, wp_d2, wp_k2, wp_k2b, wp_dT, wp_kT, wp_dTru, wp_kTru, wp_dNotT, wp_kNot, wp_dAndT, wp_kAnd, wp_dOrT, wp_kOr, wp_dAndV, wp_kAndV, wp_kAndVb, wp_dOrV, wp_kOrV, wp_kOrVb, wp_dNotV, wp_kNotV, wp_kNotVb, wp_dIf, wp_kIf, wp_dChain, wp_kCh, wp_kCh2, wp_kCh3, wp_aNil, wp_aCons, wp_kCons, wp_kCons2, wp_dTup, wp_kTup, wp_dLst, wp_kLst, wp_dN, wp_kN, wp_dLs, wp_kLs, wp_lDisp, wp_kDisp, wp_lRng, wp_kRng, wp_dItR, wp_kItR, wp_dItS, wp_kItS, wp_tTrue, wp_oNo, wp_oSome, wp_kSome, wp_dSl, wp_kSl, wp_kSl1, wp_kSl2, ws_ret, ws_kRet, ws_expr, ws_kExpr, ws_if, ws_kIfS, ws_set, ws_kSet, ws_setO, ws_kSetO, ws_kSetT, ws_setR, ws_kSetR0, ws_kSetR1, ws_kSetR2, items_t, items_ft, items_l, items_r, setAll, Bool.not_true, Bool.not_false, if_true, ite_true, ite_false, ↓reduceIte, Bool.false_eq_true, Int.reduceLT, Int.reduceLE, Nat.reduceLT, Nat.reduceLeDiff, Nat.reducePow, Int.reducePow, Int.reduceToNat, Int.reduceNeg, Int.reduceSub, Int.reduceAdd, and_self, and_true, true_and, decide_eq_true_eq, decide_true, decide_false, List.length_map, ixN_31, ixN_32, ixN_30, wipeE, restE, lcQ, Option.getD_some, add_i, add_t, add_l, sub_i, mul_i, mul_t, mul_l, fdiv_i, mod_i, pow_18, neg_i, lt_i, le_i, gt_i, ge_i, eq_i, ne_i, eq_b, len_t, len_ft, len_l, len_r, abs_i, int_i, list_t, list_ft, list_l, list_r, tuple_t, tuple_ft, tuple_l, isi_i, isi_b, isi_s, isi_t, isi_ft, isi_l, isi_r, isi_n, tru_b, tru_i, tru_t, tru_ft, tru_l, tru_n, isN_n, isN_b, isN_i, isN_s, isN_t, isN_l, ix_t, ix_ft, ix_l, ix_r, ix_ref, setS_ref, atI_0, atI_1, atI_2, Option.map_some, Option.map_none, kb0, kb1, kb2, kb3, kb4, kb5, kb6, kb7, kb8, kb9, kb10, kb11, kb12, kb13, kb14, kb15, kb16, kb17, kb18, kb19, kb20, kb21, kb22, kb23, kb24, kb25, kb26, kb27, kb28, kb29, sz0, szl0, sz1, szl1, sz2, szl2, sz3, szl3, sz4, szl4, sz5, szl5, sz6, szl6, sz7, szl7, sz8, szl8, sz9, szl9, sz10, szl10, sz11, szl11, sz12, szl12, sz13, szl13, sz14, szl14, sz15, szl15, sz16, szl16, sz17, szl17, sz18, szl18, sz19, szl19, sz20, szl20, sz21, szl21, sz22, szl22, sz23, szl23, sz24, szl24, sz25, szl25, sz26, szl26, sz27, szl27, sz28, szl28, sz29, szl29, sz30, szl30, sz31, szl31, sz32, szl32, sz33, szl33, sz34, szl34, sz35, szl35, sz36, szl36, sz37, szl37, sz38, szl38, sz39, szl39, sz40, szl40]
  refine wp_counterparts_of hm hcl h0 hn hN ha hb fun f hf => ?_
  unfold cpA
  simp only [List.map, List.replicate, List.cons_append, List.nil_append, List.length_cons, List.length_nil, Nat.reduceAdd, bq_ok, bq_ex, wp_pure, wp_fail, wp_getS, oQ_some, oQ_ite, bqS_ok, bqS_ex, sqS_nx, sqS_rt, sqS_bk, sqS_ct, sqS_ex, wpS_next, wpS_break, wpS_cont, wpS_retN, wpS_setT, stQ_some, wp_C, wp_call, wp_callv, bqF_ok, bqF_ex, wp_new, wp_newv, fqS_nx, fqS_rt, fqS_ex, wpS_for, wp_comp, wp_dVar, vQ_v, vQ_o, List.getElem?_cons_zero, List.getElem?_cons_succ, List.set_cons_zero, List.set_cons_succ, wp_d1, wp_k1, wp_d2, wp_k2, wp_k2b, wp_dT, wp_kT, wp_dTru, wp_kTru, wp_dNotT, wp_kNot, wp_dAndT, wp_kAnd, wp_dOrT, wp_kOr, wp_dAndV, wp_kAndV, wp_kAndVb, wp_dOrV, wp_kOrV, wp_kOrVb, wp_dNotV, wp_kNotV, wp_kNotVb, wp_dIf, wp_kIf, wp_dChain, wp_kCh, wp_kCh2, wp_kCh3, wp_aNil, wp_aCons, wp_kCons, wp_kCons2, wp_dTup, wp_kTup, wp_dLst, wp_kLst, wp_dN, wp_kN, wp_dLs, wp_kLs, wp_lDisp, wp_kDisp, wp_lRng, wp_kRng, wp_dItR, wp_kItR, wp_dItS, wp_kItS, wp_tTrue, wp_oNo, wp_oSome, wp_kSome, wp_dSl, wp_kSl, wp_kSl1, wp_kSl2, ws_ret, ws_kRet, ws_expr, ws_kExpr, ws_if, ws_kIfS, ws_set, ws_kSet, ws_setO, ws_kSetO, ws_kSetT, ws_setR, ws_kSetR0, ws_kSetR1, ws_kSetR2, items_t, items_ft, items_l, items_r, setAll, Bool.not_true, Bool.not_false, if_true, ite_true, ite_false, ↓reduceIte, Bool.false_eq_true, Int.reduceLT, Int.reduceLE, Nat.reduceLT, Nat.reduceLeDiff, Nat.reducePow, Int.reducePow, Int.reduceToNat, Int.reduceNeg, Int.reduceSub, Int.reduceAdd, and_self, and_true, true_and, decide_eq_true_eq, decide_true, decide_false, List.length_map, ixN_31, ixN_32, ixN_30, wipeE, restE, lcQ, Option.getD_some, add_i, add_t, add_l, sub_i, mul_i, mul_t, mul_l, fdiv_i, mod_i, pow_18, neg_i, lt_i, le_i, gt_i, ge_i, eq_i, ne_i, eq_b, len_t, len_ft, len_l, len_r, abs_i, int_i, list_t, list_ft, list_l, list_r, tuple_t, tuple_ft, tuple_l, isi_i, isi_b, isi_s, isi_t, isi_ft, isi_l, isi_r, isi_n, tru_b, tru_i, tru_t, tru_ft, tru_l, tru_n, isN_n, isN_b, isN_i, isN_s, isN_t, isN_l, ix_t, ix_ft, ix_l, ix_r, ix_ref, setS_ref, atI_0, atI_1, atI_2, Option.map_some, Option.map_none, kb0, kb1, kb2, kb3, kb4, kb5, kb6, kb7, kb8, kb9, kb10, kb11, kb12, kb13, kb14, kb15, kb16, kb17, kb18, kb19, kb20, kb21, kb22, kb23, kb24, kb25, kb26, kb27, kb28, kb29, sz0, szl0, sz1, szl1, sz2, szl2, sz3, szl3, sz4, szl4, sz5, szl5, sz6, szl6, sz7, szl7, sz8, szl8, sz9, szl9, sz10, szl10, sz11, szl11, sz12, szl12, sz13, szl13, sz14, szl14, sz15, szl15, sz16, szl16, sz17, szl17, sz18, szl18, sz19, szl19, sz20, szl20, sz21, szl21, sz22, szl22, sz23, szl23, sz24, szl24, sz25, szl25, sz26, szl26, sz27, szl27, sz28, szl28, sz29, szl29, sz30, szl30, sz31, szl31, sz32, szl32, sz33, szl33, sz34, szl34, sz35, szl35, sz36, szl36, sz37, szl37, sz38, szl38, sz39, szl39, sz40, szl40]
  rw [wpS_seq]
  simp only [List.map, List.replicate, List.cons_append, List.nil_append, List.length_cons, List.length_nil, Nat.reduceAdd, bq_ok, bq_ex, wp_pure, wp_fail, wp_getS, oQ_some, oQ_ite, bqS_ok, bqS_ex, sqS_nx, sqS_rt, sqS_bk, sqS_ct, sqS_ex, wpS_next, wpS_break, wpS_cont, wpS_retN, wpS_setT, stQ_some, wp_C, wp_call, wp_callv, bqF_ok, bqF_ex, wp_new, wp_newv, fqS_nx, fqS_rt, fqS_ex, wpS_for, wp_comp, wp_dVar, vQ_v, vQ_o, List.getElem?_cons_zero, List.getElem?_cons_succ, List.set_cons_zero, List.set_cons_succ, wp_d1, wp_k1, wp_d2, wp_k2, wp_k2b, wp_dT, wp_kT, wp_dTru, wp_kTru, wp_dNotT, wp_kNot, wp_dAndT, wp_kAnd, wp_dOrT, wp_kOr, wp_dAndV, wp_kAndV, wp_kAndVb, wp_dOrV, wp_kOrV, wp_kOrVb, wp_dNotV, wp_kNotV, wp_kNotVb, wp_dIf, wp_kIf, wp_dChain, wp_kCh, wp_kCh2, wp_kCh3, wp_aNil, wp_aCons, wp_kCons, wp_kCons2, wp_dTup, wp_kTup, wp_dLst, wp_kLst, wp_dN, wp_kN, wp_dLs, wp_kLs, wp_lDisp, wp_kDisp, wp_lRng, wp_kRng, wp_dItR, wp_kItR, wp_dItS, wp_kItS, wp_tTrue, wp_oNo, wp_oSome, wp_kSome, wp_dSl, wp_kSl, wp_kSl1, wp_kSl2, ws_ret, ws_kRet, ws_expr, ws_kExpr, ws_if, ws_kIfS, ws_set, ws_kSet, ws_setO, ws_kSetO, ws_kSetT, ws_setR, ws_kSetR0, ws_kSetR1, ws_kSetR2, items_t, items_ft, items_l, items_r, setAll, Bool.not_true, Bool.not_false, if_true, ite_true, ite_false, ↓reduceIte, Bool.false_eq_true, Int.reduceLT, Int.reduceLE, Nat.reduceLT, Nat.reduceLeDiff, Nat.reducePow, Int.reducePow, Int.reduceToNat, Int.reduceNeg, Int.reduceSub, Int.reduceAdd, and_self, and_true, true_and, decide_eq_true_eq, decide_true, decide_false, List.length_map, ixN_31, ixN_32, ixN_30, wipeE, restE, lcQ, Option.getD_some, add_i, add_t, add_l, sub_i, mul_i, mul_t, mul_l, fdiv_i, mod_i, pow_18, neg_i, lt_i, le_i, gt_i, ge_i, eq_i, ne_i, eq_b, len_t, len_ft, len_l, len_r, abs_i, int_i, list_t, list_ft, list_l, list_r, tuple_t, tuple_ft, tuple_l, isi_i, isi_b, isi_s, isi_t, isi_ft, isi_l, isi_r, isi_n, tru_b, tru_i, tru_t, tru_ft, tru_l, tru_n, isN_n, isN_b, isN_i, isN_s, isN_t, isN_l, ix_t, ix_ft, ix_l, ix_r, ix_ref, setS_ref, atI_0, atI_1, atI_2, Option.map_some, Option.map_none, kb0, kb1, kb2, kb3, kb4, kb5, kb6, kb7, kb8, kb9, kb10, kb11, kb12, kb13, kb14, kb15, kb16, kb17, kb18, kb19, kb20, kb21, kb22, kb23, kb24, kb25, kb26, kb27, kb28, kb29, sz0, szl0, sz1, szl1, sz2, szl2, sz3, szl3, sz4, szl4, sz5, szl5, sz6, szl6, sz7, szl7, sz8, szl8, sz9, szl9, sz10, szl10, sz11, szl11, sz12, szl12, sz13, szl13, sz14, szl14, sz15, szl15, sz16, szl16, sz17, szl17, sz18, szl18, sz19, szl19, sz20, szl20, sz21, szl21, sz22, szl22, sz23, szl23, sz24, szl24, sz25, szl25, sz26, szl26, sz27, szl27, sz28, szl28, sz29, szl29, sz30, szl30, sz31, szl31, sz32, szl32, sz33, szl33, sz34, szl34, sz35, szl35, sz36, szl36, sz37, szl37, sz38, szl38, sz39, szl39, sz40, szl40]
  refine wp_compM (fun (s : Nat) => cpR f s) (fun (s : Nat) => .int ((cpL f s).length : Int)) (bs := List.range n.toNat) rfl rfl (by rw [List.length_range]; unfold sizeLine; omega) ?_ ?_
  · intro k hk
    refine ⟨_, rfl, ?_, rfl⟩
    unfold cpR
    simp only [List.map, List.replicate, List.cons_append, List.nil_append, List.length_cons, List.length_nil, Nat.reduceAdd, bq_ok, bq_ex, wp_pure, wp_fail, wp_getS, oQ_some, oQ_ite, bqS_ok, bqS_ex, wpS_seq, sqS_nx, sqS_rt, sqS_bk, sqS_ct, sqS_ex, wpS_next, wpS_break, wpS_cont, wpS_retN, wpS_setT, stQ_some, wp_C, wp_call, wp_callv, bqF_ok, bqF_ex, wp_new, wp_newv, fqS_nx, fqS_rt, fqS_ex, wpS_for, wp_comp, wp_dVar, vQ_v, vQ_o, List.getElem?_cons_zero, List.getElem?_cons_succ, List.set_cons_zero, List.set_cons_succ, wp_d1, wp_k1, wp_d2, wp_k2, wp_k2b, wp_dT, wp_kT, wp_dTru, wp_kTru, wp_dNotT, wp_kNot, wp_dAndT, wp_kAnd, wp_dOrT, wp_kOr, wp_dAndV, wp_kAndV, wp_kAndVb, wp_dOrV, wp_kOrV, wp_kOrVb, wp_dNotV, wp_kNotV, wp_kNotVb, wp_dIf, wp_kIf, wp_dChain, wp_kCh, wp_kCh2, wp_kCh3, wp_aNil, wp_aCons, wp_kCons, wp_kCons2, wp_dTup, wp_kTup, wp_dLst, wp_kLst, wp_dN, wp_kN, wp_dLs, wp_kLs, wp_lDisp, wp_kDisp, wp_lRng, wp_kRng, wp_dItR, wp_kItR, wp_dItS, wp_kItS, wp_tTrue, wp_oNo, wp_oSome, wp_kSome, wp_dSl, wp_kSl, wp_kSl1, wp_kSl2, ws_ret, ws_kRet, ws_expr, ws_kExpr, ws_if, ws_kIfS, ws_set, ws_kSet, ws_setO, ws_kSetO, ws_kSetT, ws_setR, ws_kSetR0, ws_kSetR1, ws_kSetR2, items_t, items_ft, items_l, items_r, setAll, Bool.not_true, Bool.not_false, if_true, ite_true, ite_false, ↓reduceIte, Bool.false_eq_true, Int.reduceLT, Int.reduceLE, Nat.reduceLT, Nat.reduceLeDiff, Nat.reducePow, Int.reducePow, Int.reduceToNat, Int.reduceNeg, Int.reduceSub, Int.reduceAdd, and_self, and_true, true_and, decide_eq_true_eq, decide_true, decide_false, List.length_map, ixN_31, ixN_32, ixN_30, wipeE, restE, lcQ, Option.getD_some, add_i, add_t, add_l, sub_i, mul_i, mul_t, mul_l, fdiv_i, mod_i, pow_18, neg_i, lt_i, le_i, gt_i, ge_i, eq_i, ne_i, eq_b, len_t, len_ft, len_l, len_r, abs_i, int_i, list_t, list_ft, list_l, list_r, tuple_t, tuple_ft, tuple_l, isi_i, isi_b, isi_s, isi_t, isi_ft, isi_l, isi_r, isi_n, tru_b, tru_i, tru_t, tru_ft, tru_l, tru_n, isN_n, isN_b, isN_i, isN_s, isN_t, isN_l, ix_t, ix_ft, ix_l, ix_r, ix_ref, setS_ref, atI_0, atI_1, atI_2, Option.map_some, Option.map_none, kb0, kb1, kb2, kb3, kb4, kb5, kb6, kb7, kb8, kb9, kb10, kb11, kb12, kb13, kb14, kb15, kb16, kb17, kb18, kb19, kb20, kb21, kb22, kb23, kb24, kb25, kb26, kb27, kb28, kb29, sz0, szl0, sz1, szl1, sz2, szl2, sz3, szl3, sz4, szl4, sz5, szl5, sz6, szl6, sz7, szl7, sz8, szl8, sz9, szl9, sz10, szl10, sz11, szl11, sz12, szl12, sz13, szl13, sz14, szl14, sz15, szl15, sz16, szl16, sz17, szl17, sz18, szl18, sz19, szl19, sz20, szl20, sz21, szl21, sz22, szl22, sz23, szl23, sz24, szl24, sz25, szl25, sz26, szl26, sz27, szl27, sz28, szl28, sz29, szl29, sz30, szl30, sz31, szl31, sz32, szl32, sz33, szl33, sz34, szl34, sz35, szl35, sz36, szl36, sz37, szl37, sz38, szl38, sz39, szl39, sz40, szl40]
  · have e2 : (List.range n.toNat).map (fun (s : Nat) => PV.int ((cpL f s).length : Int)) = (cpN n f).map .int := by unfold cpN; rw [List.map_map]; rfl
    simp only [List.replicate, List.cons_append, List.nil_append, List.length_cons, List.length_nil, Nat.reduceAdd, bq_ok, bq_ex, wp_pure, wp_fail, wp_getS, oQ_some, oQ_ite, bqS_ok, bqS_ex, wpS_seq, sqS_nx, sqS_rt, sqS_bk, sqS_ct, sqS_ex, wpS_next, wpS_break, wpS_cont, wpS_retN, wpS_setT, stQ_some, wp_C, wp_call, wp_callv, bqF_ok, bqF_ex, wp_new, wp_newv, fqS_nx, fqS_rt, fqS_ex, wpS_for, wp_comp, wp_dVar, vQ_v, vQ_o, List.getElem?_cons_zero, List.getElem?_cons_succ, List.set_cons_zero, List.set_cons_succ, wp_d1, wp_k1, wp_d2, wp_k2, wp_k2b, wp_dT, wp_kT, wp_dTru, wp_kTru, wp_dNotT, wp_kNot, wp_dAndT, wp_kAnd, wp_dOrT, wp_kOr, wp_dAndV, wp_kAndV, wp_kAndVb, wp_dOrV, wp_kOrV, wp_kOrVb, wp_dNotV, wp_kNotV, wp_kNotVb, wp_dIf, wp_kIf, wp_dChain, wp_kCh, wp_kCh2, wp_kCh3, wp_aNil, wp_aCons, wp_kCons, wp_kCons2, wp_dTup, wp_kTup, wp_dLst, wp_kLst, wp_dN, wp_kN, wp_dLs, wp_kLs, wp_lDisp, wp_kDisp, wp_lRng, wp_kRng, wp_dItR, wp_kItR, wp_dItS, wp_kItS, wp_tTrue, wp_oNo, wp_oSome, wp_kSome, wp_dSl, wp_kSl, wp_kSl1, wp_kSl2, ws_ret, ws_kRet, ws_expr, ws_kExpr, ws_if, ws_kIfS, ws_set, ws_kSet, ws_setO, ws_kSetO, ws_kSetT, ws_setR, ws_kSetR0, ws_kSetR1, ws_kSetR2, items_t, items_ft, items_l, items_r, setAll, Bool.not_true, Bool.not_false, if_true, ite_true, ite_false, ↓reduceIte, Bool.false_eq_true, Int.reduceLT, Int.reduceLE, Nat.reduceLT, Nat.reduceLeDiff, Nat.reducePow, Int.reducePow, Int.reduceToNat, Int.reduceNeg, Int.reduceSub, Int.reduceAdd, and_self, and_true, true_and, decide_eq_true_eq, decide_true, decide_false, List.length_map, ixN_31, ixN_32, ixN_30, wipeE, restE, lcQ, Option.getD_some, add_i, add_t, add_l, sub_i, mul_i, mul_t, mul_l, fdiv_i, mod_i, pow_18, neg_i, lt_i, le_i, gt_i, ge_i, eq_i, ne_i, eq_b, len_t, len_ft, len_l, len_r, abs_i, int_i, list_t, list_ft, list_l, list_r, tuple_t, tuple_ft, tuple_l, isi_i, isi_b, isi_s, isi_t, isi_ft, isi_l, isi_r, isi_n, tru_b, tru_i, tru_t, tru_ft, tru_l, tru_n, isN_n, isN_b, isN_i, isN_s, isN_t, isN_l, ix_t, ix_ft, ix_l, ix_r, ix_ref, setS_ref, atI_0, atI_1, atI_2, Option.map_some, Option.map_none, kb0, kb1, kb2, kb3, kb4, kb5, kb6, kb7, kb8, kb9, kb10, kb11, kb12, kb13, kb14, kb15, kb16, kb17, kb18, kb19, kb20, kb21, kb22, kb23, kb24, kb25, kb26, kb27, kb28, kb29, sz0, szl0, sz1, szl1, sz2, szl2, sz3, szl3, sz4, szl4, sz5, szl5, sz6, szl6, sz7, szl7, sz8, szl8, sz9, szl9, sz10, szl10, sz11, szl11, sz12, szl12, sz13, szl13, sz14, szl14, sz15, szl15, sz16, szl16, sz17, szl17, sz18, szl18, sz19, szl19, sz20, szl20, sz21, szl21, sz22, szl22, sz23, szl23, sz24, szl24, sz25, szl25, sz26, szl26, sz27, szl27, sz28, szl28, sz29, szl29, sz30, szl30, sz31, szl31, sz32, szl32, sz33, szl33, sz34, szl34, sz35, szl35, sz36, szl36, sz37, szl37, sz38, szl38, sz39, szl39, sz40, szl40, e2, max1_ints (cpN_len (f := f) ha)]
    have e3 := (cpM_det hf).2
    unfold cpM at e3
    have h := h f hf
    unfold tblP at h
    cases hd : detP n f with
    | false =>
      rw [hd] at h e3
      rw [if_pos (of_decide_eq_true e3)]
      exact h
    | true =>
      rw [hd] at h e3
      rw [if_neg (of_decide_eq_false e3)]
      refine wp_compM (fun (s : Nat) => cpR f s) (fun (s : Nat) => entP (cpL f s)) (bs := List.range n.toNat) rfl rfl (by rw [List.length_range]; unfold sizeLine; omega) ?_ ?_
      · intro k hk
        refine ⟨_, rfl, ?_, rfl⟩
        unfold cpR
        simp only [List.map, List.replicate, List.cons_append, List.nil_append, List.length_cons, List.length_nil, Nat.reduceAdd, bq_ok, bq_ex, wp_pure, wp_fail, wp_getS, oQ_some, oQ_ite, bqS_ok, bqS_ex, wpS_seq, sqS_nx, sqS_rt, sqS_bk, sqS_ct, sqS_ex, wpS_next, wpS_break, wpS_cont, wpS_retN, wpS_setT, stQ_some, wp_C, wp_call, wp_callv, bqF_ok, bqF_ex, wp_new, wp_newv, fqS_nx, fqS_rt, fqS_ex, wpS_for, wp_comp, wp_dVar, vQ_v, vQ_o, List.getElem?_cons_zero, List.getElem?_cons_succ, List.set_cons_zero, List.set_cons_succ, wp_d1, wp_k1, wp_d2, wp_k2, wp_k2b, wp_dT, wp_kT, wp_dTru, wp_kTru, wp_dNotT, wp_kNot, wp_dAndT, wp_kAnd, wp_dOrT, wp_kOr, wp_dAndV, wp_kAndV, wp_kAndVb, wp_dOrV, wp_kOrV, wp_kOrVb, wp_dNotV, wp_kNotV, wp_kNotVb, wp_dIf, wp_kIf, wp_dChain, wp_kCh, wp_kCh2, wp_kCh3, wp_aNil, wp_aCons, wp_kCons, wp_kCons2, wp_dTup, wp_kTup, wp_dLst, wp_kLst, wp_dN, wp_kN, wp_dLs, wp_kLs, wp_lDisp, wp_kDisp, wp_lRng, wp_kRng, wp_dItR, wp_kItR, wp_dItS, wp_kItS, wp_tTrue, wp_oNo, wp_oSome, wp_kSome, wp_dSl, wp_kSl, wp_kSl1, wp_kSl2, ws_ret, ws_kRet, ws_expr, ws_kExpr, ws_if, ws_kIfS, ws_set, ws_kSet, ws_setO, ws_kSetO, ws_kSetT, ws_setR, ws_kSetR0, ws_kSetR1, ws_kSetR2, items_t, items_ft, items_l, items_r, setAll, Bool.not_true, Bool.not_false, if_true, ite_true, ite_false, ↓reduceIte, Bool.false_eq_true, Int.reduceLT, Int.reduceLE, Nat.reduceLT, Nat.reduceLeDiff, Nat.reducePow, Int.reducePow, Int.reduceToNat, Int.reduceNeg, Int.reduceSub, Int.reduceAdd, and_self, and_true, true_and, decide_eq_true_eq, decide_true, decide_false, List.length_map, ixN_31, ixN_32, ixN_30, wipeE, restE, lcQ, Option.getD_some, add_i, add_t, add_l, sub_i, mul_i, mul_t, mul_l, fdiv_i, mod_i, pow_18, neg_i, lt_i, le_i, gt_i, ge_i, eq_i, ne_i, eq_b, len_t, len_ft, len_l, len_r, abs_i, int_i, list_t, list_ft, list_l, list_r, tuple_t, tuple_ft, tuple_l, isi_i, isi_b, isi_s, isi_t, isi_ft, isi_l, isi_r, isi_n, tru_b, tru_i, tru_t, tru_ft, tru_l, tru_n, isN_n, isN_b, isN_i, isN_s, isN_t, isN_l, ix_t, ix_ft, ix_l, ix_r, ix_ref, setS_ref, atI_0, atI_1, atI_2, Option.map_some, Option.map_none, kb0, kb1, kb2, kb3, kb4, kb5, kb6, kb7, kb8, kb9, kb10, kb11, kb12, kb13, kb14, kb15, kb16, kb17, kb18, kb19, kb20, kb21, kb22, kb23, kb24, kb25, kb26, kb27, kb28, kb29, sz0, szl0, sz1, szl1, sz2, szl2, sz3, szl3, sz4, szl4, sz5, szl5, sz6, szl6, sz7, szl7, sz8, szl8, sz9, szl9, sz10, szl10, sz11, szl11, sz12, szl12, sz13, szl13, sz14, szl14, sz15, szl15, sz16, szl16, sz17, szl17, sz18, szl18, sz19, szl19, sz20, szl20, sz21, szl21, sz22, szl22, sz23, szl23, sz24, szl24, sz25, szl25, sz26, szl26, sz27, szl27, sz28, szl28, sz29, szl29, sz30, szl30, sz31, szl31, sz32, szl32, sz33, szl33, sz34, szl34, sz35, szl35, sz36, szl36, sz37, szl37, sz38, szl38, sz39, szl39, sz40, szl40]
        cases cpL f k with
        | nil => simp only [List.map, List.replicate, List.cons_append, List.nil_append, List.length_cons, List.length_nil, Nat.reduceAdd, bq_ok, bq_ex, wp_pure, wp_fail, wp_getS, oQ_some, oQ_ite, bqS_ok, bqS_ex, wpS_seq, sqS_nx, sqS_rt, sqS_bk, sqS_ct, sqS_ex, wpS_next, wpS_break, wpS_cont, wpS_retN, wpS_setT, stQ_some, wp_C, wp_call, wp_callv, bqF_ok, bqF_ex, wp_new, wp_newv, fqS_nx, fqS_rt, fqS_ex, wpS_for, wp_comp, wp_dVar, vQ_v, vQ_o, List.getElem?_cons_zero, List.getElem?_cons_succ, List.set_cons_zero, List.set_cons_succ, wp_d1, wp_k1, wp_d2, wp_k2, wp_k2b, wp_dT, wp_kT, wp_dTru, wp_kTru, wp_dNotT, wp_kNot, wp_dAndT, wp_kAnd, wp_dOrT, wp_kOr, wp_dAndV, wp_kAndV, wp_kAndVb, wp_dOrV, wp_kOrV, wp_kOrVb, wp_dNotV, wp_kNotV, wp_kNotVb, wp_dIf, wp_kIf, wp_dChain, wp_kCh, wp_kCh2, wp_kCh3, wp_aNil, wp_aCons, wp_kCons, wp_kCons2, wp_dTup, wp_kTup, wp_dLst, wp_kLst, wp_dN, wp_kN, wp_dLs, wp_kLs, wp_lDisp, wp_kDisp, wp_lRng, wp_kRng, wp_dItR, wp_kItR, wp_dItS, wp_kItS, wp_tTrue, wp_oNo, wp_oSome, wp_kSome, wp_dSl, wp_kSl, wp_kSl1, wp_kSl2, ws_ret, ws_kRet, ws_expr, ws_kExpr, ws_if, ws_kIfS, ws_set, ws_kSet, ws_setO, ws_kSetO, ws_kSetT, ws_setR, ws_kSetR0, ws_kSetR1, ws_kSetR2, items_t, items_ft, items_l, items_r, setAll, Bool.not_true, Bool.not_false, if_true, ite_true, ite_false, ↓reduceIte, Bool.false_eq_true, Int.reduceLT, Int.reduceLE, Nat.reduceLT, Nat.reduceLeDiff, Nat.reducePow, Int.reducePow, Int.reduceToNat, Int.reduceNeg, Int.reduceSub, Int.reduceAdd, and_self, and_true, true_and, decide_eq_true_eq, decide_true, decide_false, List.length_map, ixN_31, ixN_32, ixN_30, wipeE, restE, lcQ, Option.getD_some, add_i, add_t, add_l, sub_i, mul_i, mul_t, mul_l, fdiv_i, mod_i, pow_18, neg_i, lt_i, le_i, gt_i, ge_i, eq_i, ne_i, eq_b, len_t, len_ft, len_l, len_r, abs_i, int_i, list_t, list_ft, list_l, list_r, tuple_t, tuple_ft, tuple_l, isi_i, isi_b, isi_s, isi_t, isi_ft, isi_l, isi_r, isi_n, tru_b, tru_i, tru_t, tru_ft, tru_l, tru_n, isN_n, isN_b, isN_i, isN_s, isN_t, isN_l, ix_t, ix_ft, ix_l, ix_r, ix_ref, setS_ref, atI_0, atI_1, atI_2, Option.map_some, Option.map_none, kb0, kb1, kb2, kb3, kb4, kb5, kb6, kb7, kb8, kb9, kb10, kb11, kb12, kb13, kb14, kb15, kb16, kb17, kb18, kb19, kb20, kb21, kb22, kb23, kb24, kb25, kb26, kb27, kb28, kb29, sz0, szl0, sz1, szl1, sz2, szl2, sz3, szl3, sz4, szl4, sz5, szl5, sz6, szl6, sz7, szl7, sz8, szl8, sz9, szl9, sz10, szl10, sz11, szl11, sz12, szl12, sz13, szl13, sz14, szl14, sz15, szl15, sz16, szl16, sz17, szl17, sz18, szl18, sz19, szl19, sz20, szl20, sz21, szl21, sz22, szl22, sz23, szl23, sz24, szl24, sz25, szl25, sz26, szl26, sz27, szl27, sz28, szl28, sz29, szl29, sz30, szl30, sz31, szl31, sz32, szl32, sz33, szl33, sz34, szl34, sz35, szl35, sz36, szl36, sz37, szl37, sz38, szl38, sz39, szl39, sz40, szl40, List.isEmpty_nil]; rfl
        | cons x xs => simp only [List.map, List.replicate, List.cons_append, List.nil_append, List.length_cons, List.length_nil, Nat.reduceAdd, bq_ok, bq_ex, wp_pure, wp_fail, wp_getS, oQ_some, oQ_ite, bqS_ok, bqS_ex, wpS_seq, sqS_nx, sqS_rt, sqS_bk, sqS_ct, sqS_ex, wpS_next, wpS_break, wpS_cont, wpS_retN, wpS_setT, stQ_some, wp_C, wp_call, wp_callv, bqF_ok, bqF_ex, wp_new, wp_newv, fqS_nx, fqS_rt, fqS_ex, wpS_for, wp_comp, wp_dVar, vQ_v, vQ_o, List.getElem?_cons_zero, List.getElem?_cons_succ, List.set_cons_zero, List.set_cons_succ, wp_d1, wp_k1, wp_d2, wp_k2, wp_k2b, wp_dT, wp_kT, wp_dTru, wp_kTru, wp_dNotT, wp_kNot, wp_dAndT, wp_kAnd, wp_dOrT, wp_kOr, wp_dAndV, wp_kAndV, wp_kAndVb, wp_dOrV, wp_kOrV, wp_kOrVb, wp_dNotV, wp_kNotV, wp_kNotVb, wp_dIf, wp_kIf, wp_dChain, wp_kCh, wp_kCh2, wp_kCh3, wp_aNil, wp_aCons, wp_kCons, wp_kCons2, wp_dTup, wp_kTup, wp_dLst, wp_kLst, wp_dN, wp_kN, wp_dLs, wp_kLs, wp_lDisp, wp_kDisp, wp_lRng, wp_kRng, wp_dItR, wp_kItR, wp_dItS, wp_kItS, wp_tTrue, wp_oNo, wp_oSome, wp_kSome, wp_dSl, wp_kSl, wp_kSl1, wp_kSl2, ws_ret, ws_kRet, ws_expr, ws_kExpr, ws_if, ws_kIfS, ws_set, ws_kSet, ws_setO, ws_kSetO, ws_kSetT, ws_setR, ws_kSetR0, ws_kSetR1, ws_kSetR2, items_t, items_ft, items_l, items_r, setAll, Bool.not_true, Bool.not_false, if_true, ite_true, ite_false, ↓reduceIte, Bool.false_eq_true, Int.reduceLT, Int.reduceLE, Nat.reduceLT, Nat.reduceLeDiff, Nat.reducePow, Int.reducePow, Int.reduceToNat, Int.reduceNeg, Int.reduceSub, Int.reduceAdd, and_self, and_true, true_and, decide_eq_true_eq, decide_true, decide_false, List.length_map, ixN_31, ixN_32, ixN_30, wipeE, restE, lcQ, Option.getD_some, add_i, add_t, add_l, sub_i, mul_i, mul_t, mul_l, fdiv_i, mod_i, pow_18, neg_i, lt_i, le_i, gt_i, ge_i, eq_i, ne_i, eq_b, len_t, len_ft, len_l, len_r, abs_i, int_i, list_t, list_ft, list_l, list_r, tuple_t, tuple_ft, tuple_l, isi_i, isi_b, isi_s, isi_t, isi_ft, isi_l, isi_r, isi_n, tru_b, tru_i, tru_t, tru_ft, tru_l, tru_n, isN_n, isN_b, isN_i, isN_s, isN_t, isN_l, ix_t, ix_ft, ix_l, ix_r, ix_ref, setS_ref, atI_0, atI_1, atI_2, Option.map_some, Option.map_none, kb0, kb1, kb2, kb3, kb4, kb5, kb6, kb7, kb8, kb9, kb10, kb11, kb12, kb13, kb14, kb15, kb16, kb17, kb18, kb19, kb20, kb21, kb22, kb23, kb24, kb25, kb26, kb27, kb28, kb29, sz0, szl0, sz1, szl1, sz2, szl2, sz3, szl3, sz4, szl4, sz5, szl5, sz6, szl6, sz7, szl7, sz8, szl8, sz9, szl9, sz10, szl10, sz11, szl11, sz12, szl12, sz13, szl13, sz14, szl14, sz15, szl15, sz16, szl16, sz17, szl17, sz18, szl18, sz19, szl19, sz20, szl20, sz21, szl21, sz22, szl22, sz23, szl23, sz24, szl24, sz25, szl25, sz26, szl26, sz27, szl27, sz28, szl28, sz29, szl29, sz30, szl30, sz31, szl31, sz32, szl32, sz33, szl33, sz34, szl34, sz35, szl35, sz36, szl36, sz37, szl37, sz38, szl38, sz39, szl39, sz40, szl40, List.isEmpty_cons]; rfl
      · simp only [List.map, List.replicate, List.cons_append, List.nil_append, List.length_cons, List.length_nil, Nat.reduceAdd, bq_ok, bq_ex, wp_pure, wp_fail, wp_getS, oQ_some, oQ_ite, bqS_ok, bqS_ex, wpS_seq, sqS_nx, sqS_rt, sqS_bk, sqS_ct, sqS_ex, wpS_next, wpS_break, wpS_cont, wpS_retN, wpS_setT, stQ_some, wp_C, wp_call, wp_callv, bqF_ok, bqF_ex, wp_new, wp_newv, fqS_nx, fqS_rt, fqS_ex, wpS_for, wp_comp, wp_dVar, vQ_v, vQ_o, List.getElem?_cons_zero, List.getElem?_cons_succ, List.set_cons_zero, List.set_cons_succ, wp_d1, wp_k1, wp_d2, wp_k2, wp_k2b, wp_dT, wp_kT, wp_dTru, wp_kTru, wp_dNotT, wp_kNot, wp_dAndT, wp_kAnd, wp_dOrT, wp_kOr, wp_dAndV, wp_kAndV, wp_kAndVb, wp_dOrV, wp_kOrV, wp_kOrVb, wp_dNotV, wp_kNotV, wp_kNotVb, wp_dIf, wp_kIf, wp_dChain, wp_kCh, wp_kCh2, wp_kCh3, wp_aNil, wp_aCons, wp_kCons, wp_kCons2, wp_dTup, wp_kTup, wp_dLst, wp_kLst, wp_dN, wp_kN, wp_dLs, wp_kLs, wp_lDisp, wp_kDisp, wp_lRng, wp_kRng, wp_dItR, wp_kItR, wp_dItS, wp_kItS, wp_tTrue, wp_oNo, wp_oSome, wp_kSome, wp_dSl, wp_kSl, wp_kSl1, wp_kSl2, ws_ret, ws_kRet, ws_expr, ws_kExpr, ws_if, ws_kIfS, ws_set, ws_kSet, ws_setO, ws_kSetO, ws_kSetT, ws_setR, ws_kSetR0, ws_kSetR1, ws_kSetR2, items_t, items_ft, items_l, items_r, setAll, Bool.not_true, Bool.not_false, if_true, ite_true, ite_false, ↓reduceIte, Bool.false_eq_true, Int.reduceLT, Int.reduceLE, Nat.reduceLT, Nat.reduceLeDiff, Nat.reducePow, Int.reducePow, Int.reduceToNat, Int.reduceNeg, Int.reduceSub, Int.reduceAdd, and_self, and_true, true_and, decide_eq_true_eq, decide_true, decide_false, List.length_map, ixN_31, ixN_32, ixN_30, wipeE, restE, lcQ, Option.getD_some, add_i, add_t, add_l, sub_i, mul_i, mul_t, mul_l, fdiv_i, mod_i, pow_18, neg_i, lt_i, le_i, gt_i, ge_i, eq_i, ne_i, eq_b, len_t, len_ft, len_l, len_r, abs_i, int_i, list_t, list_ft, list_l, list_r, tuple_t, tuple_ft, tuple_l, isi_i, isi_b, isi_s, isi_t, isi_ft, isi_l, isi_r, isi_n, tru_b, tru_i, tru_t, tru_ft, tru_l, tru_n, isN_n, isN_b, isN_i, isN_s, isN_t, isN_l, ix_t, ix_ft, ix_l, ix_r, ix_ref, setS_ref, atI_0, atI_1, atI_2, Option.map_some, Option.map_none, kb0, kb1, kb2, kb3, kb4, kb5, kb6, kb7, kb8, kb9, kb10, kb11, kb12, kb13, kb14, kb15, kb16, kb17, kb18, kb19, kb20, kb21, kb22, kb23, kb24, kb25, kb26, kb27, kb28, kb29, sz0, szl0, sz1, szl1, sz2, szl2, sz3, szl3, sz4, szl4, sz5, szl5, sz6, szl6, sz7, szl7, sz8, szl8, sz9, szl9, sz10, szl10, sz11, szl11, sz12, szl12, sz13, szl13, sz14, szl14, sz15, szl15, sz16, szl16, sz17, szl17, sz18, szl18, sz19, szl19, sz20, szl20, sz21, szl21, sz22, szl22, sz23, szl23, sz24, szl24, sz25, szl25, sz26, szl26, sz27, szl27, sz28, szl28, sz29, szl29, sz30, szl30, sz31, szl31, sz32, szl32, sz33, szl33, sz34, szl34, sz35, szl35, sz36, szl36, sz37, szl37, sz38, szl38, sz39, szl39, sz40, szl40]
        exact h
end
end Dn
end
section
set_option Elab.async false
set_option linter.all false
set_option maxRecDepth 100000
set_option maxHeartbeats 1000000
namespace Dn
open PySem L2
section
variable {n s0 : Int} {cs : List (List Int)} {S : Stor} {Q : OutF → Prop} {st c : Int}
theorem GS.few (hg : GS 8 4 n s0 cs) : cs.length ≤ 1000 ∧ n ≤ 1000 ∧ (UP n n).length < 100000 ∧ 0 ≤ n ∧ (UP n n).length ≤ 64 := by
  have h1 := hg.len; have h2 := hg.hi; have h3 := hg.lo
  have h4 : (UP n n).length ≤ 64 := by
    rw [len_UP]
    have : n.toNat ≤ 8 := by omega
    exact Nat.mul_le_mul this this
  exact ⟨by omega, by omega, by omega, by omega, h4⟩
end
end Dn
end
section
set_option Elab.async false
set_option linter.all false
set_option maxRecDepth 100000
set_option maxHeartbeats 1000000
namespace Dn
open PySem L2
end Dn
end
section
set_option Elab.async false
set_option linter.all false
set_option maxRecDepth 100000
set_option maxHeartbeats 1000000
namespace Dn
open PySem L2
end Dn
end
section
set_option Elab.async false
set_option linter.all false
set_option maxRecDepth 100000
set_option maxHeartbeats 1000000
namespace Dn
open PySem L2
section
variable {S : Stor} {Q : OutF → Prop}
end
end Dn
end
section
set_option Elab.async false
set_option linter.all false
set_option maxRecDepth 100000
set_option maxHeartbeats 1000000
namespace Dn
open PySem L2
section
variable {n k s1 s2 : Int} {cs ds : List (List Int)} {S : Stor}
theorem IG.at {κ : Type} [DecidableEq κ] {U : List κ} {f : Fg κ} {p : κ} {q : List κ} {i : Nat} (h : IG U f (p :: q)) (hl : f.length = i + (p :: q).length) : (f.map (·.1))[i]? = some p := by
  obtain ⟨d, e⟩ := h.q
  have := congrArg List.length e
  rw [List.length_map, List.length_append] at this
  have hd : d.length = i := by omega
  rw [e, ← hd]; simp
end
end Dn
end
section
set_option Elab.async false
set_option linter.all false
set_option maxRecDepth 100000
set_option maxHeartbeats 1000000
namespace Dn
open PySem L2
/-! ### one state for each -/
section
variable {n k : Int} {S : Stor} {Q : OutF → Prop} {f : Fg Pr}
end
end Dn
end
section
set_option Elab.async false
set_option linter.all false
set_option maxRecDepth 100000
set_option maxHeartbeats 1000000
namespace Dn
open PySem L2
section
variable {e : DEnv} {S : Stor} {Q : OutS → Prop} {de : DE} {g : PV → DEnv → Option DEnv} {b : DS} {ps : List PV}
end
section
variable {n k : Int} {S : Stor} {Q : OutF → Prop} {f : Fg Pr}
end
end Dn
end
section
set_option Elab.async false
set_option linter.all false
set_option maxRecDepth 100000
set_option maxHeartbeats 1000000
namespace Dn
open PySem L2
theorem atI_rngm {n : Int} {g : Nat → PV} {i : Int} (h : In n i) : atI ((List.range n.toNat).map g) i = some (g i.toNat) := by
  have h1 := h.1; have h2 := h.2
  rw [atI_in h1 (by rw [List.length_map, List.length_range]; omega), List.getElem_map, List.getElem_range]
end Dn
end
section
set_option Elab.async false
set_option linter.all false
set_option maxRecDepth 100000
set_option maxHeartbeats 1000000
namespace Dn
open PySem L2
theorem gc_closed {n : Int} {c : List Int} (h : (decide ((c.length : Int) = n) && c.all fun x => decide (0 ≤ x) && decide (x < n)) = true) : GC n c := by
  rw [Bool.and_eq_true, List.all_eq_true] at h
  refine ⟨by simpa using h.1, fun x hx => ?_⟩
  have := h.2 x hx
  rw [Bool.and_eq_true, decide_eq_true_eq, decide_eq_true_eq] at this
  exact this
section
variable {R S : Stor} {Q : OutF → Prop}
end
end Dn
end
section
set_option Elab.async false
set_option linter.all false
set_option maxRecDepth 100000
set_option maxHeartbeats 1000000
namespace Dn
open PySem L2
section
variable {R S : Stor} {Q : OutF → Prop}
end
end Dn
end
section
set_option Elab.async false
set_option linter.all false
set_option maxRecDepth 100000
set_option maxHeartbeats 1000000
namespace Dn
open PySem L2
section
variable {n s0 : Int} {cs : List (List Int)} {S : Stor}
end
end Dn
end
section
set_option Elab.async false
set_option linter.all false
set_option maxRecDepth 100000
set_option maxHeartbeats 1000000
namespace Dn
open PySem L2
section
variable {S : Stor} {Q : OutF → Prop}
end
end Dn
end
section
set_option Elab.async false
set_option linter.all false
set_option maxRecDepth 100000
set_option maxHeartbeats 1000000
namespace Dn
open PySem L2
end Dn
end
section
set_option Elab.async false
set_option linter.all false
set_option maxRecDepth 100000
set_option maxHeartbeats 1000000
namespace Dn
open PySem L2
section
variable {S : Stor} {β : Type}
end
section
variable {e : DEnv} {S : Stor} {Q : Out PV → Prop} {da dk : DE} {g : PV → PV → Option PV} {p q : PV} {xs : List PV}
end
/-! ### fewer commands -/
/-! ### as many -/
end Dn
end
section
set_option Elab.async false
set_option linter.all false
set_option maxRecDepth 100000
set_option maxHeartbeats 1000000
namespace Dn
open PySem L2
/-! ### tables -/
end Dn
end
section
set_option Elab.async false
set_option linter.all false
set_option maxRecDepth 100000
set_option maxHeartbeats 1000000
namespace Dn
open PySem L2
section
variable {n s0 : Int} {cs : List (List Int)} {S : Stor} {Q : OutF → Prop}
end
end Dn
end
section
set_option Elab.async false
set_option linter.all false
set_option maxRecDepth 100000
set_option maxHeartbeats 1000000
namespace Dn
open PySem L2
section
variable {n s0 : Int} {cs : List (List Int)} {S : Stor} {Q : OutF → Prop}
end
end Dn
end
section
set_option Elab.async false
set_option linter.all false
set_option maxRecDepth 100000
set_option maxHeartbeats 1000000
namespace Dn
open PySem L2
section
variable {R S : Stor} {Q : OutF → Prop}
end
end Dn
end
section
set_option Elab.async false
set_option linter.all false
set_option maxRecDepth 100000
set_option maxHeartbeats 1000000
namespace Dn
open PySem L2
/-! ### the first two sequences that refute -/
end Dn
end
section
set_option Elab.async false
set_option linter.all false
set_option maxRecDepth 100000
set_option maxHeartbeats 1000000
namespace Dn
open PySem L2
section
variable {e : DEnv} {S : Stor} {Q : OutS → Prop} {de : DE} {g : PV → DEnv → Option DEnv} {b : DS} {kvs : List (List Key × PV)}
end
section
variable {n s0 : Int} {cs : List (List Int)} {S : Stor} {Q : OutF → Prop}
end
end Dn
end
section
set_option Elab.async false
set_option linter.all false
set_option maxRecDepth 100000
set_option maxHeartbeats 1000000
namespace Dn
open PySem L2
section
variable {n s0 : Int} {cs : List (List Int)} {S : Stor} {Q : OutF → Prop}
end
end Dn
end
section
set_option Elab.async false
set_option linter.all false
set_option maxRecDepth 100000
set_option maxHeartbeats 1000000
namespace Dn
open PySem L2
section
variable {n s0 : Int} {cs : List (List Int)} {S : Stor} {Q : OutF → Prop}
end
end Dn
end
section
set_option Elab.async false
set_option linter.all false
set_option maxRecDepth 100000
set_option maxHeartbeats 1000000
namespace Dn
open PySem L2
/-! ### the first pair of pairs with one first state and two second ones -/
section
variable {n k : Int} {S : Stor} {Q : OutF → Prop} {f : Fg Pr}
end
section
variable {n s0 : Int} {cs : List (List Int)} {S : Stor} {Q : OutF → Prop}
end
end Dn
end
section
set_option Elab.async false
set_option linter.all false
set_option maxRecDepth 100000
set_option maxHeartbeats 1000000
namespace Dn
open PySem L2
section
variable {R S : Stor} {Q : OutF → Prop}
end
end Dn
end
section
set_option Elab.async false
set_option linter.all false
set_option maxRecDepth 100000
set_option maxHeartbeats 1000000
namespace Dn
open PySem L2
section
variable {n s0 : Int} {cs : List (List Int)} {R S : Stor} {Q : OutF → Prop}
end
end Dn
end
section
set_option Elab.async false
set_option linter.all false
set_option maxRecDepth 100000
set_option maxHeartbeats 1000000
namespace Dn
open PySem L2
/-! ### any value as a pair of sequences -/
section
variable {n s0 : Int} {cs : List (List Int)} {S : Stor} {Q : OutF → Prop}
end
end Dn
end
section
set_option Elab.async false
set_option linter.all false
set_option maxRecDepth 100000
set_option maxHeartbeats 1000000
namespace Dn
open PySem L2
section
variable {n s0 : Int} {cs : List (List Int)} {R S : Stor} {Q : OutF → Prop}
end
end Dn
end
section
set_option Elab.async false
set_option linter.all false
set_option maxRecDepth 100000
set_option maxHeartbeats 1000000
namespace Dn
open PySem L2
section
variable {n s1 : Int} {cs : List (List Int)} {S : Stor}
end
end Dn
end
section
set_option Elab.async false
set_option linter.all false
set_option maxRecDepth 100000
set_option maxHeartbeats 1000000
namespace Dn
open PySem L2
/-! ### two systems -/
section
variable {n k s1 s2 : Int} {cs ds : List (List Int)} {S : Stor}
/-! ### told maps -/
end
end Dn
end
section
set_option Elab.async false
set_option linter.all false
set_option maxRecDepth 100000
set_option maxHeartbeats 1000000
namespace Dn
open PySem L2
/-! ### maps -/
section
variable {n k s1 s2 : Int} {cs ds : List (List Int)} {S : Stor} {Q : OutF → Prop}
end
end Dn
end
section
set_option Elab.async false
set_option linter.all false
set_option maxRecDepth 100000
set_option maxHeartbeats 1000000
namespace Dn
open PySem L2
/-! ### dicts by comprehensions, keys ints -/
def ins (ks : List Int) (k : Int) : List Int := if k ∈ ks then ks else ks ++ [k]
def dst (ks : List Int) : List Int := ks.foldl ins []
section
variable {e : DEnv} {S : Stor} {own : List Nat} {di : Den (List PV)} {g : PV → DEnv → Option DEnv} {dt : Den Bool} {dk dv : DE}
end
/-! ### most counterparts -/
end Dn
end
section
set_option Elab.async false
set_option linter.all false
set_option maxRecDepth 100000
set_option maxHeartbeats 1000000
namespace Dn
open PySem L2
/-! ### told spreads -/
section
variable {n s0 : Int} {cs : List (List Int)} {S : Stor} {Q : OutF → Prop}
/-! ### spreads by whomever -/
end
end Dn
end
section
set_option Elab.async false
set_option linter.all false
set_option maxRecDepth 100000
set_option maxHeartbeats 1000000
namespace Dn
open PySem L2
section
variable {n s0 : Int} {cs : List (List Int)} {S : Stor} {Q : OutF → Prop}
end
end Dn
end
section
set_option Elab.async false
set_option linter.all false
set_option maxRecDepth 100000
set_option maxHeartbeats 1000000
namespace Dn
open PySem L2
/-! ### the search over one system's states -/
def U1s (n : Int) : List Int := (List.range n.toNat).map fun k : Nat => (k : Int)
theorem mem_U1s {n s : Int} : s ∈ U1s n ↔ In n s := by
  unfold U1s In
  rw [List.mem_map]
  constructor
  · rintro ⟨k, hk, rfl⟩
    have := List.mem_range.mp hk
    omega
  · intro h
    exact ⟨s.toNat, List.mem_range.mpr (by omega), by omega⟩
theorem len_U1s (n : Int) : (U1s n).length = n.toNat := by unfold U1s; rw [List.length_map, List.length_range]
section
variable {n s0 : Int} {cs : List (List Int)} {S : Stor}
end
end Dn
end
section
set_option Elab.async false
set_option linter.all false
set_option maxRecDepth 100000
set_option maxHeartbeats 1000000
namespace Dn
open PySem L2
/-! ### regular systems -/
abbrev Wd (m : Nat) (u : List Int) : Prop := ∀ x ∈ u, In m x
theorem wd_app {m : Nat} {u v : List Int} (hu : Wd m u) (hv : Wd m v) : Wd m (u ++ v) := fun x hx => by
  rcases List.mem_append.mp hx with hx | hx
  · exact hu x hx
  · exact hv x hx
theorem wd_one {m : Nat} {c : Int} (hc : In m c) : Wd m [c] := fun x hx => by rw [List.mem_singleton.mp hx]; exact hc
theorem wd_nil {m : Nat} : Wd m [] := fun x hx => nomatch hx
theorem ledP_app (cs : List (List Int)) (s : Int) (u v : List Int) : ledP cs s (u ++ v) = ledP cs (ledP cs s u) v := by
  unfold ledP; rw [List.foldl_append]
theorem ledP_one (cs : List (List Int)) (s c : Int) : ledP cs s [c] = stp cs s c := rfl
def Rc (cs : List (List Int)) (s x : Int) : Prop := ∃ u : List Int, Wd cs.length u ∧ ledP cs s u = x
section
variable {n : Int} {cs : List (List Int)} {s x y a b : Int} {f : Fg Pr}
theorem Rc.in (hm : ∀ c ∈ cs, GC n c) (hs : In n s) (h : Rc cs s x) : In n x := by
  obtain ⟨u, hu, rfl⟩ := h
  exact led_in hm _ hs hu
theorem Rc.led (h : Rc cs s x) {u : List Int} (hu : Wd cs.length u) : Rc cs s (ledP cs x u) := by
  obtain ⟨v, hv, rfl⟩ := h
  exact ⟨v ++ u, wd_app hv hu, ledP_app ..⟩
theorem Rc.stp (h : Rc cs s x) {c : Int} (hc : In cs.length c) : Rc cs s (stp cs x c) := h.led (wd_one hc)
theorem Rc.me : Rc cs s s := ⟨[], wd_nil, rfl⟩
theorem Rc.trans (h : Rc cs s x) (h2 : Rc cs x y) : Rc cs s y := by
  obtain ⟨v, hv, rfl⟩ := h2
  exact h.led hv
end
end Dn
end
section
set_option Elab.async false
set_option linter.all false
set_option maxRecDepth 100000
set_option maxHeartbeats 1000000
namespace Dn
open PySem L2
/-! ### raise and try -/
def tryR (i : Nat) (Q : OutS → Prop) : OutS → Prop
  | .nx e S => Q (.nx (e.set i .un) S)
  | .bk e S => Q (.bk (e.set i .un) S)
  | .ct e S => Q (.ct (e.set i .un) S)
  | .rt p e S => Q (.rt p e S)
  | _ => Q .st
def tryQ (cs : List (Str × Bool)) (i : Nat) (su : Exc → DS) (Q : OutS → Prop) : OutS → Prop
  | .ex x e S => match cs.lookup x.cls with
    | some true => wpS (su x) (e.set i .un) S (tryR i Q)
    | some false => Q (.ex x e S)
    | none => Q .st
  | o => Q o
section
variable {cs : List (Str × Bool)} {i : Nat} {b : DS} {su : Exc → DS} {e : DEnv} {S : Stor} {Q : OutS → Prop} {p : PV} {x : Exc}
theorem wpS_try : wpS (sTry cs i b su) e S Q = wpS b e S (tryQ cs i su Q) := by
  unfold wpS sTry
  cases b e S with
  | ex x e1 S1 =>
    unfold tryQ
    dsimp only
    cases cs.lookup x.cls with
    | none => rfl
    | some bb =>
      cases bb with
      | false => rfl
      | true =>
        dsimp only
        unfold wpS tryR
        cases su x (e1.set i .un) S1 <;> rfl
  | _ => rfl
theorem tryQ_nx : tryQ cs i su Q (.nx e S) = Q (.nx e S) := id rfl
theorem lk1 {α : Type} {y : Str} {v : α} {l : List (Str × α)} : ((y, v) :: l).lookup y = some v := by
  unfold List.lookup; rw [beq_self_eq_true]
end
theorem wpF_is {f : DF} {ps : List PV} {S : Stor} {Q : OutF → Prop} {o : OutF} (h : wpF f ps S fun z => z = o) (hq : Q o) : wpF f ps S Q := by
  have h : f ps S = o := h
  unfold wpF
  rw [h]
  exact hq
theorem atI_some {xs : List PV} {i : Int} (h0 : 0 ≤ i) (h : i < xs.length) : ∃ v ∈ xs, atI xs i = some v := by
  rw [atI_in h0 h]
  exact ⟨_, List.getElem_mem _, rfl⟩
/-! ### check_action -/
section
variable {n s0 : Int} {cs : List (List Int)} {S : Stor} {Q : OutF → Prop} {st c : Int} {a b d : PV}
end
end Dn
end
section
set_option Elab.async false
set_option linter.all false
set_option maxRecDepth 100000
set_option maxHeartbeats 1000000
namespace Dn
open PySem L2
/-! ### the functions of agreeing, with what is raised -/
def tstP (cs : List (List Int)) (c a b : Int) : Bool := decide (a < b) && decide (stp cs a c = stp cs b c)
def prsF (cs : List (List Int)) (c : Int) (xs as : List Int) : List Pr := as.flatMap fun a => (xs.filter (tstP cs c a)).map fun b => (a, b)
abbrev prs (cs : List (List Int)) (c : Int) (xs : List Int) : List Pr := prsF cs c xs xs
section
variable {n s0 : Int} {cs : List (List Int)} {xs : List Int} {S : Stor} {Q : OutF → Prop} {st c c2 : Int} {p q : List Int}
end
end Dn
end
section
set_option Elab.async false
set_option linter.all false
set_option maxRecDepth 100000
set_option maxHeartbeats 1000000
namespace Dn
open PySem L2
/-! ### dicts by comprehensions, keys and values ints, the keys different -/
section
variable {e : DEnv} {S : Stor} {own : List Nat} {g : PV → DEnv → Option DEnv} {dk dv : DE}
end
/-! ### in a list, by == -/
section
variable {n s0 : Int} {cs : List (List Int)} {xs : List Int} {S : Stor} {Q : OutF → Prop} {st c c2 : Int}
/-! ### merged pairs by whomever -/
end
end Dn
end
section
set_option Elab.async false
set_option linter.all false
set_option maxRecDepth 100000
set_option maxHeartbeats 1000000
namespace Dn
open PySem L2
/-! ### the functions of groups -/
section
variable {n s : Int} {cs : List (List Int)} {S : Stor} {Q : OutF → Prop} {x y a b : Int} {f : Fg Pr}
end
end Dn
end
section
set_option Elab.async false
set_option linter.all false
set_option maxRecDepth 100000
set_option maxHeartbeats 1000000
namespace Dn
open PySem L2
/-! ### the law's side of groups -/
theorem idx_int : ∀ {l : List Int} {x : Int}, x ∈ l → idxF (.int x) (l.map .int) = some (l.idxOf x)
  | a :: l, x, h => by
    rw [List.map_cons]
    unfold idxF
    by_cases e : a = x
    · subst e
      rw [if_pos (show eqF (.int a) (.int a) = true from beq_self_eq_true a), List.idxOf_cons_self]
    · have he : eqF (.int a) (.int x) = false := by show (a == x) = false; exact beq_false_of_ne e
      rw [if_neg (by rw [he]; exact Bool.false_ne_true), idx_int (List.mem_of_ne_of_mem (fun z => e z.symm) h), List.idxOf_cons, beq_false_of_ne e]
      rfl
section
variable {n s : Int} {cs : List (List Int)} {S : Stor} {x y a b : Int}
end
section
variable {n s0 s : Int} {cs : List (List Int)} {S : Stor} {Q : OutF → Prop} {x y a b : Int}
end
end Dn
end
section
set_option Elab.async false
set_option linter.all false
set_option maxRecDepth 100000
set_option maxHeartbeats 1000000
namespace Dn
open PySem L2
/-! ### factors, with what is raised -/
section
variable {n s : Int} {cs : List (List Int)} {S : Stor} {Q : OutF → Prop} {x y a b c : Int} {p : List Int}
end
section
variable {R S : Stor} {Q : OutF → Prop}
end
end Dn
end
section
set_option Elab.async false
set_option linter.all false
set_option maxRecDepth 100000
set_option maxHeartbeats 1000000
namespace Dn
open PySem L2
/-! ### frozen tuples as tuples; _law_equal on them -/
end Dn
end
section
set_option Elab.async false
set_option linter.all false
set_option maxRecDepth 100000
set_option maxHeartbeats 1000000
namespace Dn
open PySem L2
/-! ### renamed, fewer commands, periods: plain facts -/
def nm (d : List Int) (x : Int) : Int := d.getD x.toNat 0
section
variable {n s : Int} {cs : List (List Int)} {d : List Int} {x y a b : Int}
/-! fewer commands -/
/-! periods -/
end
end Dn
end
section
set_option Elab.async false
set_option linter.all false
set_option maxRecDepth 100000
set_option maxHeartbeats 1000000
namespace Dn
open PySem L2
section
variable {n s : Int} {cs : List (List Int)} {S : Stor} {Q : OutF → Prop} {x y a b c : Int} {p : List Int}
/-! ### the law's number of turns -/
end
end Dn
end
section
set_option Elab.async false
set_option linter.all false
set_option maxRecDepth 100000
set_option maxHeartbeats 1000000
namespace Dn
open PySem L2
section
variable {n k s1 s2 : Int} {cs ds : List (List Int)} {R S : Stor} {Q : OutF → Prop}
/-! ### two drawn systems -/
end
end Dn
end
section
set_option Elab.async false
set_option linter.all false
set_option maxRecDepth 100000
set_option maxHeartbeats 1000000
namespace Dn
open PySem L2
section
variable {R S : Stor} {n k s1 s2 : Int} {cs ds : List (List Int)} {f : Fg Pr}
end
end Dn
end
section
set_option Elab.async false
set_option linter.all false
set_option maxRecDepth 100000
set_option maxHeartbeats 1000000
namespace Dn
open PySem L2
/-! ### rows with frozen rows; inverse refused; rows and columns have each state once -/
section
variable {n s : Int} {cs : List (List Int)} {S : Stor} {Q : OutF → Prop} {x y a b c : Int} {p : List Int}
end
end Dn
end
section
set_option Elab.async false
set_option linter.all false
set_option maxRecDepth 100000
set_option maxHeartbeats 1000000
namespace Dn
open PySem L2
/-! ### told rules -/
def mN (n : Int) (f : Fg Pr) : Nat := (cpM n f).toNat
def rowI (m : Nat) (xs : List Int) : List Int := xs ++ List.replicate (m - xs.length) 0
section
variable {n s0 : Int} {cs : List (List Int)} {S : Stor} {Q : OutF → Prop} {st c : Int} {f : Fg Pr}
end
end Dn
end
section
set_option Elab.async false
set_option linter.all false
set_option maxRecDepth 100000
set_option maxHeartbeats 1000000
namespace Dn
open PySem L2
/-! ### rules at work -/
abbrev Tr := Int × Int × Int
structure RV (n : Int) (m nc : Nat) (i0 : Int) (r : Int → Int → Int) (t : Int → Int → Int → Int) (rs nxs : List PV) : Prop where
  rs : ∀ x, In n x → ∃ row, atI rs x = some row ∧ ∀ k, In m k → ∀ S, ixP S row (.int k) = some (.int (r x k))
  nx : ∀ x, In n x → ∃ row, atI nxs x = some row ∧ ∀ k, In m k → ∀ S, ixP S row (.int k) = some (.tup ((List.range nc).map fun j : Nat => .int (t x k j)))
  i0 : In m i0
  t : ∀ x k j, In n x → In m k → In nc j → In m (t x k j)
def tst (cs : List (List Int)) (t : Int → Int → Int → Int) (p : Tr) (j : Int) : Tr := (stp cs p.1 j, stp cs p.2.1 j, t p.1 p.2.2 j)
def tled (cs : List (List Int)) (t : Int → Int → Int → Int) (p : Tr) (u : List Int) : Tr := u.foldl (tst cs t) p
def UT (n : Int) (m : Nat) : List Tr := (UP n n).flatMap fun p => (List.range m).map fun k : Nat => (p.1, p.2, (k : Int))
def InT (n : Int) (m : Nat) (p : Tr) : Prop := In n p.1 ∧ In n p.2.1 ∧ In m p.2.2
theorem mem_UT {n : Int} {m : Nat} {p : Tr} (h : InT n m p) : p ∈ UT n m := by
  unfold UT
  refine List.mem_flatMap.mpr ⟨(p.1, p.2.1), mem_UP.mpr ⟨h.1, h.2.1⟩, List.mem_map.mpr ⟨p.2.2.toNat, List.mem_range.mpr ?_, ?_⟩⟩
  · have := h.2.2; unfold In at this; omega
  · have := h.2.2; unfold In at this
    rw [Int.toNat_of_nonneg this.1]
/-- finding one -/
abbrev KW := List Tr × List Tr
def push (cs : List (List Int)) (t : Int → Int → Int → Int) (p : Tr) (x : KW) (j : Nat) : KW := if tst cs t p j ∈ x.1 then x else (x.1 ++ [tst cs t p j], x.2 ++ [tst cs t p j])
structure KI (n : Int) (m : Nat) (cs : List (List Int)) (t : Int → Int → Int → Int) (p0 : Tr) (x : KW) : Prop where
  nd : x.1.Nodup
  inn : ∀ p ∈ x.1, InT n m p
  sub : ∀ p ∈ x.2, p ∈ x.1
  rch : ∀ p ∈ x.1, ∃ u, Wd cs.length u ∧ tled cs t p0 u = p
  me : p0 ∈ x.1
section
variable {n : Int} {m : Nat} {cs : List (List Int)} {t : Int → Int → Int → Int} {p p0 : Tr} {x : KW}
theorem tst_in (hm : ∀ c ∈ cs, GC n c) (ht : ∀ x k j, In n x → In m k → In cs.length j → In m (t x k j)) (hp : InT n m p) {j : Int} (hj : In cs.length j) : InT n m (tst cs t p j) :=
  ⟨stp_in hm hp.1 hj, stp_in hm hp.2.1 hj, ht _ _ _ hp.1 hp.2.2 hj⟩
theorem KI.push (hm : ∀ c ∈ cs, GC n c) (ht : ∀ x k j, In n x → In m k → In cs.length j → In m (t x k j)) (h : KI n m cs t p0 x) (hp : p ∈ x.1) {j : Nat} (hj : j < cs.length) : KI n m cs t p0 (Dn.push cs t p x j) := by
  have hjc : In cs.length (j : Int) := ⟨by omega, by omega⟩
  unfold Dn.push
  split
  · exact h
  · rename_i hn
    have hin := tst_in hm ht (h.inn p hp) hjc
    obtain ⟨u, hu, eu⟩ := h.rch p hp
    refine ⟨List.nodup_append.mpr ⟨h.nd, by simp, fun a ha b hb e => ?_⟩, fun q hq => ?_, fun q hq => ?_, fun q hq => ?_, List.mem_append_left _ h.me⟩
    · rw [List.mem_singleton.mp hb] at e
      exact hn (e ▸ ha)
    · rcases List.mem_append.mp hq with hq | hq
      · exact h.inn q hq
      · rw [List.mem_singleton.mp hq]; exact hin
    · rcases List.mem_append.mp hq with hq | hq
      · exact List.mem_append_left _ (h.sub q hq)
      · exact List.mem_append_right _ hq
    · rcases List.mem_append.mp hq with hq | hq
      · exact h.rch q hq
      · rw [List.mem_singleton.mp hq]
        refine ⟨u ++ [(j : Int)], wd_app hu (wd_one hjc), ?_⟩
        unfold tled at eu ⊢
        rw [List.foldl_append, eu]; rfl
theorem KI.few (h : KI n m cs t p0 x) : x.1.length ≤ (UT n m).length := nodup_sub h.nd fun p hp => mem_UT (h.inn p hp)
end
end Dn
end
section
set_option Elab.async false
set_option linter.all false
set_option maxRecDepth 100000
set_option maxHeartbeats 1000000
namespace Dn
open PySem L2
section
variable {n s0 : Int} {m : Nat} {cs : List (List Int)} {S : Stor} {st c i0 : Int} {r : Int → Int → Int} {t : Int → Int → Int → Int} {rs nxs : List PV} {p0 : Tr}
end
end Dn
end
section
set_option Elab.async false
set_option linter.all false
set_option maxRecDepth 100000
set_option maxHeartbeats 1000000
namespace Dn
open PySem L2
/-! ### values that are rules -/
structure RW (n : Int) (m nc : Nat) (i0 : Int) (rs nxs : List PV) : Prop where
  m1 : 1 ≤ m
  m8 : m ≤ 8
  i0 : In m i0
  rl : (rs.length : Int) = n
  rr : ∀ row ∈ rs, (∀ S, isiP "tuple" S row = some (.bl true)) ∧ (∀ S, lenP S [row] = some (.int (m : Int))) ∧ ∃ ns : List Int, itemsP row = some (ns.map .int) ∧ ns.length = m ∧ ∀ x ∈ ns, In n x
  nl : (nxs.length : Int) = n
  nr : ∀ row ∈ nxs, ∃ rr : List (List Int), row = .tup (rr.map encC) ∧ rr.length = m ∧ ∀ r ∈ rr, r.length = nc ∧ ∀ x ∈ r, In m x
section
variable {n s0 : Int} {m : Nat} {cs : List (List Int)} {S : Stor} {st c i0 : Int} {rs nxs : List PV} {Q : OutF → Prop}
end
end Dn
end
section
set_option Elab.async false
set_option linter.all false
set_option maxRecDepth 100000
set_option maxHeartbeats 1000000
namespace Dn
open PySem L2
/-! ### the told rule works -/
def rr (n : Int) (f : Fg Pr) (x k : Int) : Int := (rowI (mN n f) (cpL f x)).getD k.toNat 0
section
variable {n s0 : Int} {cs : List (List Int)} {S : Stor} {Q : OutF → Prop} {st c : Int} {f : Fg Pr} {a b : Int}
/-! ### the law's told rule -/
end
end Dn
end
section
set_option Elab.async false
set_option linter.all false
set_option maxRecDepth 100000
set_option maxHeartbeats 1000000
namespace Dn
open PySem L2
/-! ### the law's walk of a rule -/
section
variable {n s0 : Int} {m : Nat} {cs : List (List Int)} {S : Stor} {st c i0 : Int} {r : Int → Int → Int} {t : Int → Int → Int → Int} {rs nxs : List PV} {p0 : Tr}
/-! ### equal rules -/
end
end Dn
end
section
set_option Elab.async false
set_option linter.all false
set_option maxRecDepth 100000
set_option maxHeartbeats 1000000
namespace Dn
open PySem L2
/-! ### rules by functions -/
def nxV (t : Int → Int → Int → Int) (m nc : Nat) (x : Nat) : PV := .tup ((List.range m).map fun k : Nat => .tup ((List.range nc).map fun j : Nat => .int (t (x : Int) (k : Int) (j : Int))))
structure RowOK (row : PV) (m : Nat) (g : Int → Int) : Prop where
  isi : ∀ S, isiP "tuple" S row = some (.bl true)
  len : ∀ S, lenP S [row] = some (.int (m : Int))
  it : itemsP row = some ((List.range m).map fun k : Nat => .int (g (k : Int)))
  ix : ∀ k, In m k → ∀ S, ixP S row (.int k) = some (.int (g k))
structure RF (n : Int) (m nc : Nat) (i0 : Int) (r : Int → Int → Int) (t : Int → Int → Int → Int) (rsF : Nat → PV) : Prop where
  m1 : 1 ≤ m
  m8 : m ≤ 8
  i0 : In m i0
  row : ∀ x : Nat, (x : Int) < n → RowOK (rsF x) m (r (x : Int))
  rin : ∀ x k, In n x → In m k → In n (r x k)
  tin : ∀ x k j, In n x → In m k → In nc j → In m (t x k j)
def rsL (n : Int) (rsF : Nat → PV) : List PV := (List.range n.toNat).map rsF
def nxL (n : Int) (t : Int → Int → Int → Int) (m nc : Nat) : List PV := (List.range n.toNat).map (nxV t m nc)
section
variable {n : Int} {m nc : Nat} {i0 : Int} {r : Int → Int → Int} {t : Int → Int → Int → Int} {rsF : Nat → PV} {cs : List (List Int)}
theorem RF.rv (h0 : 0 ≤ n) (h : RF n m nc i0 r t rsF) : RV n m nc i0 r t (rsL n rsF) (nxL n t m nc) := by
  refine ⟨fun x hx => ?_, fun x hx => ?_, h.i0, h.tin⟩
  · refine ⟨_, atI_rngm hx, fun k hk S => ?_⟩
    have hx0 := hx.1; have hx1 := hx.2
    have := (h.row x.toNat (by omega)).ix k hk S
    rw [Int.toNat_of_nonneg hx0] at this
    exact this
  · refine ⟨_, atI_rngm hx, fun k hk S => ?_⟩
    have := atI_rngm (n := ((m : Nat) : Int)) (g := fun (k : Nat) => PV.tup ((List.range nc).map fun j : Nat => .int (t ((x.toNat : Nat) : Int) (k : Int) (j : Int)))) hk
    rw [Int.toNat_natCast, Int.toNat_of_nonneg hk.1, Int.toNat_of_nonneg hx.1] at this
    unfold nxV
    rw [Int.toNat_of_nonneg hx.1]
    exact this
theorem RF.rw (h0 : 0 ≤ n) (h : RF n m nc i0 r t rsF) : RW n m nc i0 (rsL n rsF) (nxL n t m nc) := by
  refine ⟨h.m1, h.m8, h.i0, by unfold rsL; rw [List.length_map, List.length_range]; omega, fun row hr => ?_, by unfold nxL; rw [List.length_map, List.length_range]; omega, fun row hr => ?_⟩
  · unfold rsL at hr
    obtain ⟨x, hx, rfl⟩ := List.mem_map.mp hr
    have hx := List.mem_range.mp hx
    have ok := h.row x (by omega)
    refine ⟨ok.isi, ok.len, (List.range m).map fun k : Nat => r (x : Int) (k : Int), by rw [ok.it, List.map_map]; rfl, by rw [List.length_map, List.length_range], fun y hy => ?_⟩
    obtain ⟨k, hk, rfl⟩ := List.mem_map.mp hy
    have hk := List.mem_range.mp hk
    exact h.rin _ _ ⟨by omega, by omega⟩ ⟨by omega, by omega⟩
  · unfold nxL at hr
    obtain ⟨x, hx, rfl⟩ := List.mem_map.mp hr
    have hx := List.mem_range.mp hx
    refine ⟨(List.range m).map fun k : Nat => (List.range nc).map fun j : Nat => t (x : Int) (k : Int) (j : Int), ?_, by rw [List.length_map, List.length_range], fun q hq => ?_⟩
    · unfold nxV
      rw [List.map_map]
      congr 1
      refine List.map_congr_left fun k _ => ?_
      unfold encC
      show _ = PV.tup (List.map PV.int _)
      rw [List.map_map]; rfl
    · obtain ⟨k, hk, rfl⟩ := List.mem_map.mp hq
      have hk := List.mem_range.mp hk
      refine ⟨by rw [List.length_map, List.length_range], fun y hy => ?_⟩
      obtain ⟨j, hj, rfl⟩ := List.mem_map.mp hy
      have hj := List.mem_range.mp hj
      exact h.tin _ _ _ ⟨by omega, by omega⟩ ⟨by omega, by omega⟩ ⟨by omega, by omega⟩
end
end Dn
end
section
set_option Elab.async false
set_option linter.all false
set_option maxRecDepth 100000
set_option maxHeartbeats 1000000
namespace Dn
open PySem L2
section
variable {n s0 : Int} {cs : List (List Int)} {S : Stor} {Q : OutF → Prop} {st c : Int} {f : Fg Pr} {m : Nat}
/-! ### the told rule by functions -/
/-! ### a drawn rule -/
end
end Dn
end
section
set_option Elab.async false
set_option linter.all false
set_option maxRecDepth 100000
set_option maxHeartbeats 1000000
namespace Dn
open PySem L2
/-! ### loops that return False at the first bad item -/
/-! ### rows of any kind -/
section
variable {n s : Int} {cs : List (List Int)} {S : Stor} {Q : OutF → Prop} {x y a b c : Int} {R : List Int}
end
end Dn
end
section
set_option Elab.async false
set_option linter.all false
set_option maxRecDepth 100000
set_option maxHeartbeats 1000000
namespace Dn
open PySem L2
/-! ### rows that show that a system is regular -/
section
variable {n s : Int} {cs : List (List Int)} {S : Stor} {Q : OutF → Prop} {x y a b c : Int}
end
end Dn
end
section
set_option Elab.async false
set_option linter.all false
set_option maxRecDepth 100000
set_option maxHeartbeats 1000000
namespace Dn
open PySem L2
section
variable {n s : Int} {cs : List (List Int)} {S : Stor} {Q : OutF → Prop} {x y a b c : Int} {R : List Int} {M : List (List Int)}
/-! ### rows that show it are the products of a regular system -/
/-! ### effects -/
def eff (cs : List (List Int)) (R : List Int) (u : List Int) : List Int := R.map fun x => ledP cs x u
structure EI (cs : List (List Int)) (R : List Int) (fl : List (List Int)) : Prop where
  nd : fl.Nodup
  wd : ∀ e ∈ fl, ∃ u, Wd cs.length u ∧ e = eff cs R u
  me : R ∈ fl
def mvE (cs : List (List Int)) (e : List Int) (c : Int) : List Int := e.map fun x => stp cs x c
theorem mvE_eff {u : List Int} {c : Int} : mvE cs (eff cs R u) c = eff cs R (u ++ [c]) := by
  unfold mvE eff
  rw [List.map_map]
  refine List.map_congr_left fun x _ => ?_
  show stp cs (ledP cs x u) c = _
  rw [ledP_app, ledP_one]
def pushE (cs : List (List Int)) (e : List Int) (fl : List (List Int)) (c : Nat) : List (List Int) := if mvE cs e (c : Int) ∈ fl then fl else fl ++ [mvE cs e (c : Int)]
theorem EI.push {fl : List (List Int)} (h : EI cs R fl) {e : List Int} (he : ∃ u, Wd cs.length u ∧ e = eff cs R u) {c : Nat} (hc : c < cs.length) : EI cs R (pushE cs e fl c) := by
  obtain ⟨u, hu, rfl⟩ := he
  unfold pushE
  split
  · exact h
  · rename_i hn
    refine ⟨List.nodup_append.mpr ⟨h.nd, by simp, fun a ha b hb z => ?_⟩, fun e he => ?_, List.mem_append_left _ h.me⟩
    · rw [List.mem_singleton.mp hb] at z; exact hn (z ▸ ha)
    · rcases List.mem_append.mp he with he | he
      · exact h.wd e he
      · rw [List.mem_singleton.mp he, mvE_eff]
        exact ⟨_, wd_app hu (wd_one ⟨by omega, by omega⟩), rfl⟩
end
end Dn
end
section
set_option Elab.async false
set_option linter.all false
set_option maxRecDepth 100000
set_option maxHeartbeats 1000000
namespace Dn
open PySem L2
section
variable {n s : Int} {cs : List (List Int)} {S : Stor} {Q : OutF → Prop} {R : List Int}
end
end Dn
end
section
set_option Elab.async false
set_option linter.all false
set_option maxRecDepth 100000
set_option maxHeartbeats 1000000
namespace Dn
open PySem L2 PyProof
/-! ### evidence about groups -/
section
variable {n s : Int} {cs : List (List Int)} {S : Stor} {Q : OutF → Prop} {x y a b c : Int}
end
end Dn
end
section
set_option Elab.async false
set_option linter.all false
set_option maxRecDepth 100000
set_option maxHeartbeats 1000000
namespace Dn
open PySem L2 PyProof
section
variable {n s : Int} {cs : List (List Int)} {S : Stor} {Q : OutF → Prop} {x y a b c : Int}
/-! ### the law's judgement of rows -/
end
end Dn
end
section
set_option Elab.async false
set_option linter.all false
set_option maxRecDepth 100000
set_option maxHeartbeats 1000000
namespace Dn
open PySem L2 PyProof
section
variable {n s : Int} {cs : List (List Int)} {S : Stor} {Q : OutF → Prop} {x y a b c : Int}
end
section
variable {n s0 : Int} {cs : List (List Int)} {S : Stor} {Q : OutF → Prop} {x y a b c : Int}
end
end Dn
end
section
set_option Elab.async false
set_option linter.all false
set_option maxRecDepth 100000
set_option maxHeartbeats 1000000
namespace Dn
open PySem L2 PyProof
section
variable {n s : Int} {cs : List (List Int)} {S : Stor} {Q : OutF → Prop} {x y a b c : Int}
end
end Dn
end
section
set_option Elab.async false
set_option linter.all false
set_option maxRecDepth 100000
set_option maxHeartbeats 1000000
namespace Dn
open PySem L2 PyProof
/-! ### plain values of few items -/
def PS (v : PV) : Prop := plP v = true ∧ szP v = true
section
variable {n s : Int} {cs : List (List Int)} {S : Stor} {Q : OutF → Prop} {R : List Int} {M : List (List Int)}
end
end Dn
end
section
set_option Elab.async false
set_option linter.all false
set_option maxRecDepth 100000
set_option maxHeartbeats 1000000
namespace Dn
open PySem L2 PyProof
/-! ### two fors in one comprehension -/
section
variable {own vs1 : List Nat} {di : Den (List PV)} {g g1 : PV → DEnv → Option DEnv} {dt dt1 : Den Bool} {d1 de : DE} {e : DEnv} {S : Stor} {Q : Out (List PV) → Prop}
end
/-! ### ascending rows -/
end Dn
end
section
set_option Elab.async false
set_option linter.all false
set_option maxRecDepth 100000
set_option maxHeartbeats 1000000
namespace Dn
open PySem L2 PyProof
section
variable {n s st tg : Int} {cs : List (List Int)} {S : Stor} {Q : OutF → Prop}
/-! ### the program's judgement -/
end
section
variable {n s st tg : Int} {cs : List (List Int)} {S : Stor} {Q : OutF → Prop}
end
end Dn
end
section
set_option Elab.async false
set_option linter.all false
set_option maxRecDepth 100000
set_option maxHeartbeats 1000000
namespace Dn
open PySem L2 PyProof
section
variable {n s st tg : Int} {cs : List (List Int)} {S : Stor} {Q : OutF → Prop}
end
end Dn
end
section
set_option Elab.async false
set_option linter.all false
set_option maxRecDepth 100000
namespace Dn
noncomputable section
open PySem L2
end
end Dn
end
section
set_option Elab.async false
set_option linter.all false
set_option maxRecDepth 100000
set_option maxHeartbeats 1000000
namespace Dn
open PySem L2 PyProof
/-! ### different ones of a list -/
theorem ins_mem {acc : List Int} {k x : Int} : x ∈ ins acc k ↔ x ∈ acc ∨ x = k := by
  unfold ins
  by_cases h : k ∈ acc
  · rw [if_pos h]
    exact ⟨.inl, fun z => z.elim id fun z => z ▸ h⟩
  · rw [if_neg h, List.mem_append, List.mem_singleton]
theorem ins_nd {acc : List Int} {k : Int} (h : acc.Nodup) : (ins acc k).Nodup := by
  unfold ins
  by_cases hk : k ∈ acc
  · rw [if_pos hk]; exact h
  · rw [if_neg hk, List.nodup_append]
    exact ⟨h, by simp, fun a ha b hb z => hk (by rw [List.mem_singleton] at hb; rw [← hb, ← z]; exact ha)⟩
theorem inss_mem : ∀ (ks acc : List Int) {x : Int}, x ∈ ks.foldl ins acc ↔ x ∈ acc ∨ x ∈ ks
  | [], acc, x => by simp
  | k :: ks, acc, x => by
    rw [List.foldl_cons, inss_mem ks (ins acc k), ins_mem, List.mem_cons]
    constructor
    · rintro ((h | h) | h)
      · exact .inl h
      · exact .inr (.inl h)
      · exact .inr (.inr h)
    · rintro (h | h | h)
      · exact .inl (.inl h)
      · exact .inl (.inr h)
      · exact .inr h
theorem inss_nd : ∀ (ks acc : List Int), acc.Nodup → (ks.foldl ins acc).Nodup
  | [], _, h => h
  | k :: ks, acc, h => inss_nd ks _ (ins_nd h)
theorem dst_m {ks : List Int} {x : Int} : x ∈ dst ks ↔ x ∈ ks := by
  have := inss_mem ks [] (x := x)
  simpa [dst] using this
theorem dst_n (ks : List Int) : (dst ks).Nodup := inss_nd ks [] List.nodup_nil
section
variable {n s : Int} {cs : List (List Int)} {S : Stor} {Q : OutF → Prop} {x y a b c : Int}
/-! ### the law's reachable states -/
/-- how many different ones -/
def nD (F : List Int) : Nat := (dst F).length
theorem nD_grow {F G : List Int} (h : ∀ x ∈ F, x ∈ G) {y : Int} (hy : y ∈ G) (hn : y ∉ F) : nD F + 1 ≤ nD G := by
  have := nodup_sub (l := y :: dst F) (U := dst G) (List.nodup_cons.mpr ⟨fun z => hn (dst_m.mp z), dst_n F⟩) fun x hx => by
    rcases List.mem_cons.mp hx with rfl | hx
    · exact dst_m.mpr hy
    · exact dst_m.mpr (h x (dst_m.mp hx))
  rw [List.length_cons] at this
  exact this
/-- found so far: reached ones, not too long -/
structure FR (n : Int) (cs : List (List Int)) (s : Int) (F : List Int) : Prop where
  rc : ∀ x ∈ F, Rc cs s x
  st : s ∈ F
  len : F.length ≤ 4 * nD F
theorem FR.few {F : List Int} (h : FR n cs s F) (hm : ∀ c ∈ cs, GC n c) (hs : In n s) : nD F ≤ n.toNat := by
  have := nodup_sub (l := dst F) (U := U1s n) (dst_n F) fun x hx => mem_U1s.mpr ((h.rc x (dst_m.mp hx)).in hm hs)
  rw [len_U1s] at this; exact this
def Cls (cs : List (List Int)) (F : List Int) : Prop := ∀ x ∈ F, ∀ c : Nat, c < cs.length → stp cs x (c : Int) ∈ F
end
end Dn
end
section
set_option Elab.async false
set_option linter.all false
set_option maxRecDepth 100000
set_option maxHeartbeats 1000000
namespace Dn
open PySem L2 PyProof
/-! ### the law's pairs -/
section
variable {n s : Int} {cs : List (List Int)} {S : Stor} {Q : OutF → Prop} {a b : Int}
end
end Dn
end
section
set_option Elab.async false
set_option linter.all false
set_option maxRecDepth 100000
set_option maxHeartbeats 1000000
namespace Dn
open PySem L2 PyProof
section
variable {n s : Int} {cs : List (List Int)} {S : Stor} {Q : OutF → Prop} {b : Int → Int} {V : PV}
/-! ### the program's keeps -/
end
end Dn
end
section
set_option Elab.async false
set_option linter.all false
set_option maxRecDepth 100000
set_option maxHeartbeats 1000000
namespace Dn
open PySem L2 PyProof
section
variable {n s : Int} {cs : List (List Int)} {S : Stor} {Q : OutF → Prop} {b : Int → Int} {V : PV}
end
end Dn
end
section
set_option Elab.async false
set_option linter.all false
set_option maxRecDepth 100000
set_option maxHeartbeats 1000000
namespace Dn
open PySem L2 PyProof
/-- the action of c at x keeps b -/
def TA (cs : List (List Int)) (b : Int → Int) (x c : Int) : Prop := ∀ u v : List Int, Wd cs.length u → Wd cs.length v → b (ledP cs (stp cs x c) u) = b (ledP cs (stp cs x c) v) → b (ledP cs x u) = b (ledP cs x v)
section
variable {n s : Int} {cs : List (List Int)} {S : Stor} {Q : OutF → Prop} {b : Int → Int} {V : PV}
/-! ### the program's judgement -/
end
end Dn
end
section
set_option Elab.async false
set_option linter.all false
set_option maxRecDepth 100000
set_option maxHeartbeats 1000000
namespace Dn
open PySem L2 PyProof
section
variable {n s : Int} {cs : List (List Int)} {S : Stor} {Q : OutF → Prop} {b : Int → Int} {v : PV}
end
end Dn
end
section
set_option Elab.async false
set_option linter.all false
set_option maxRecDepth 100000
set_option maxHeartbeats 1000000
namespace Dn
open PySem L2 PyProof
/-! ### the program's blocks: a list of numbers -/
def bl (B : List Int) (x : Int) : Int := B.getD x.toNat 0
def jn (B : List Int) (a c : Int) : List Int := if bl B a = bl B c then B else B.map fun k => if k = bl B c then bl B a else k
structure RevP (cs : List (List Int)) (s : Int) (b : Int → Int) : Prop where
  cm : ∀ c, In cs.length c → ∀ x y, Rc cs s x → Rc cs s y → b x = b y → b (stp cs x c) = b (stp cs y c)
  ta : ∀ x c, Rc cs s x → In cs.length c → TA cs b x c
/-- a step that the program finds: its item and the pair that it joins -/
inductive StO (cs : List (List Int)) (s : Int) (b : Int → Int) : PV → Pr → Prop
  | cmd {x y c : Int} : Rc cs s x → Rc cs s y → In cs.length c → b x = b y → b (stp cs x c) ≠ b (stp cs y c) → StO cs s b (.tup [.str "command", .int x, .int y, .int c]) (stp cs x c, stp cs y c)
  | act {x c : Int} {u v : List Int} : Rc cs s x → In cs.length c → Wd cs.length u → Wd cs.length v → u.length ≤ 64 → v.length ≤ 64 → b (ledP cs (stp cs x c) u) = b (ledP cs (stp cs x c) v) → b (ledP cs x u) ≠ b (ledP cs x v) →
      StO cs s b (.tup [.str "action", .int x, .int c, .tup (u.map .int), .tup (v.map .int)]) (ledP cs x u, ledP cs x v)
theorem StO.rc {cs : List (List Int)} {s : Int} {b : Int → Int} {v : PV} {p : Pr} (h : StO cs s b v p) : Rc cs s p.1 ∧ Rc cs s p.2 ∧ b p.1 ≠ b p.2 := by
  cases h with
  | cmd h1 h2 h3 _ h5 => exact ⟨h1.stp h3, h2.stp h3, h5⟩
  | act h1 h2 h3 h4 _ _ _ h8 => exact ⟨h1.led h3, h1.led h4, h8⟩
/-- what is revocable joins them, too -/
theorem StO.min {cs : List (List Int)} {s : Int} {b b' : Int → Int} {v : PV} {p : Pr} (h : StO cs s b v p) (hr : RevP cs s b') (hle : ∀ x y, Rc cs s x → Rc cs s y → b x = b y → b' x = b' y) : b' p.1 = b' p.2 := by
  cases h with
  | cmd h1 h2 h3 h4 h5 => exact hr.cm _ h3 _ _ h1 h2 (hle _ _ h1 h2 h4)
  | act h1 h2 h3 h4 _ _ h7 h8 => exact hr.ta _ _ h1 h2 _ _ h3 h4 (hle _ _ ((h1.stp h2).led h3) ((h1.stp h2).led h4) h7)
section
variable {n s : Int} {cs : List (List Int)} {S : Stor} {Q : OutF → Prop} {B : List Int} {a c : Int}
theorem bl_mem (hl : (B.length : Int) = n) {x : Int} (hx : In n x) : bl B x ∈ B := by
  unfold bl
  rw [List.getD_eq_getElem?_getD, List.getElem?_eq_getElem (by unfold In at hx; omega)]
  exact List.getElem_mem _
theorem bl_jn (hl : (B.length : Int) = n) {x : Int} (hx : In n x) : bl (jn B a c) x = if bl B x = bl B c then bl B a else bl B x := by
  unfold jn
  by_cases h : bl B a = bl B c
  · rw [if_pos h, h]
    by_cases h2 : bl B x = bl B c
    · rw [if_pos h2, h2]
    · rw [if_neg h2]
  · rw [if_neg h]
    have e : bl (B.map fun k => if k = bl B c then bl B a else k) x = (fun k => if k = bl B c then bl B a else k) (bl B x) := by
      show (B.map fun k => if k = bl B c then bl B a else k).getD x.toNat 0 = (fun k => if k = bl B c then bl B a else k) (B.getD x.toNat 0)
      have hlt : x.toNat < B.length := by unfold In at hx; omega
      rw [List.getD_eq_getElem?_getD, List.getElem?_map, List.getElem?_eq_getElem hlt, List.getD_eq_getElem?_getD, List.getElem?_eq_getElem hlt]
      rfl
    exact e
theorem jn_len : (jn B a c).length = B.length := by
  unfold jn
  split
  · rfl
  · exact List.length_map ..
theorem jn_nD (hl : (B.length : Int) = n) (ha : In n a) (hc : In n c) (h : bl B a ≠ bl B c) : nD (jn B a c) + 1 ≤ nD B := by
  have e : jn B a c = B.map fun k => if k = bl B c then bl B a else k := by unfold jn; rw [if_neg h]
  refine nD_grow (y := bl B c) (fun x hx => ?_) (bl_mem hl hc) fun hx => ?_
  · rw [e] at hx
    obtain ⟨k, hk, rfl⟩ := List.mem_map.mp hx
    by_cases h2 : k = bl B c
    · rw [if_pos h2]; exact bl_mem hl ha
    · rw [if_neg h2]; exact hk
  · rw [e] at hx
    obtain ⟨k, hk, h2⟩ := List.mem_map.mp hx
    by_cases h3 : k = bl B c
    · rw [if_pos h3] at h2; exact h h2
    · rw [if_neg h3] at h2; exact h3 h2
end
end Dn
end
section
set_option Elab.async false
set_option linter.all false
set_option maxRecDepth 100000
set_option maxHeartbeats 1000000
namespace Dn
open PySem L2 PyProof
def AllSt (cs : List (List Int)) (s : Int) (b : Int → Int) (acc : List (PV × Pr)) : Prop := ∀ e ∈ acc, StO cs s b e.1 e.2
section
variable {n s : Int} {cs : List (List Int)} {S : Stor} {Q : OutF → Prop} {B : List Int} {a c : Int}
theorem AllSt.snoc {b : Int → Int} {acc : List (PV × Pr)} {v : PV} {p : Pr} (h : AllSt cs s b acc) (h2 : StO cs s b v p) : AllSt cs s b (acc ++ [(v, p)]) := fun e he => by
  rcases List.mem_append.mp he with he | he
  · exact h e he
  · rw [List.mem_singleton.mp he]; exact h2
end
end Dn
end
section
set_option Elab.async false
set_option linter.all false
set_option maxRecDepth 100000
set_option maxHeartbeats 1000000
namespace Dn
open PySem L2 PyProof
/-! ### dicts of pairs by ints -/
section
variable {n s : Int} {cs : List (List Int)} {S : Stor} {Q : OutF → Prop} {B : List Int} {a c : Int} {f : Fg Pr}
end
end Dn
end
section
set_option Elab.async false
set_option linter.all false
set_option maxRecDepth 100000
set_option maxHeartbeats 1000000
namespace Dn
open PySem L2 PyProof
section
variable {n s : Int} {cs : List (List Int)} {S : Stor} {Q : OutF → Prop} {B : List Int}
end
end Dn
end
section
set_option Elab.async false
set_option linter.all false
set_option maxRecDepth 100000
set_option maxHeartbeats 1000000
namespace Dn
open PySem L2 PyProof
/-- steps one after the other, from each state alone -/
inductive Chn (n : Int) (cs : List (List Int)) (s : Int) : List (PV × Pr) → List Int → Prop
  | nil : Chn n cs s [] (U1s n)
  | snoc {l : List (PV × Pr)} {B : List Int} {v : PV} {p : Pr} : Chn n cs s l B → StO cs s (bl B) v p → Chn n cs s (l ++ [(v, p)]) (jn B p.1 p.2)
/-- least of all that are revocable -/
def Mn (cs : List (List Int)) (s : Int) (b : Int → Int) : Prop := ∀ b', RevP cs s b' → ∀ x y, Rc cs s x → Rc cs s y → b x = b y → b' x = b' y
section
variable {n s : Int} {cs : List (List Int)} {S : Stor} {Q : OutF → Prop} {B : List Int}
theorem bl_U1 {x : Int} (hx : In n x) : bl (U1s n) x = x := by
  unfold bl U1s
  have hlt : x.toNat < n.toNat := by unfold In at hx; omega
  rw [List.getD_eq_getElem?_getD, List.getElem?_map, List.getElem?_range hlt]
  show ((x.toNat : Nat) : Int) = x
  unfold In at hx; omega
structure CI (n : Int) (cs : List (List Int)) (s : Int) (l : List (PV × Pr)) (B : List Int) : Prop where
  ch : Chn n cs s l B
  len : (B.length : Int) = n
  mn : Mn cs s (bl B)
  few : l.length + nD B ≤ n.toNat
theorem CI.one (hm : ∀ c ∈ cs, GC n c) (hs : In n s) (hn : 0 ≤ n) : CI n cs s [] (U1s n) := by
  refine ⟨.nil, by rw [len_U1s]; omega, fun b' _ x y hx hy e => ?_, ?_⟩
  · rw [bl_U1 (hx.in hm hs), bl_U1 (hy.in hm hs)] at e
    rw [e]
  · have : nD (U1s n) ≤ (U1s n).length := nodup_sub (dst_n _) fun x hx => dst_m.mp hx
    rw [len_U1s] at this
    simpa using this
theorem CI.snoc (hm : ∀ c ∈ cs, GC n c) (hs : In n s) {l : List (PV × Pr)} {v : PV} {p : Pr} (h : CI n cs s l B) (h2 : StO cs s (bl B) v p) : CI n cs s (l ++ [(v, p)]) (jn B p.1 p.2) := by
  obtain ⟨r1, r2, r3⟩ := h2.rc
  refine ⟨.snoc h.ch h2, by rw [jn_len]; exact h.len, fun b' hb' x y hx hy e => ?_, ?_⟩
  · have e0 := h2.min hb' (h.mn b' hb')
    rw [bl_jn h.len (hx.in hm hs), bl_jn h.len (hy.in hm hs)] at e
    have go := h.mn b' hb'
    by_cases hx2 : bl B x = bl B p.2
    · rw [if_pos hx2] at e
      by_cases hy2 : bl B y = bl B p.2
      · exact go x y hx hy (hx2.trans hy2.symm)
      · rw [if_neg hy2] at e
        exact (go x p.2 hx r2 hx2).trans (e0.symm.trans (go p.1 y r1 hy e))
    · rw [if_neg hx2] at e
      by_cases hy2 : bl B y = bl B p.2
      · rw [if_pos hy2] at e
        exact (go x p.1 hx r1 e).trans (e0.trans (go y p.2 hy r2 hy2).symm)
      · rw [if_neg hy2] at e
        exact go x y hx hy e
  · have := jn_nD h.len (r1.in hm hs) (r2.in hm hs) r3
    have := h.few
    rw [List.length_append, List.length_singleton]
    omega
/-! ### the finest blocks -/
end
end Dn
end
section
set_option Elab.async false
set_option linter.all false
set_option maxRecDepth 100000
set_option maxHeartbeats 1000000
namespace Dn
open PySem L2 PyProof
/-! ### drawn systems -/
end Dn
end
section
set_option Elab.async false
set_option linter.all false
set_option maxRecDepth 100000
set_option maxHeartbeats 1000000
namespace Dn
open PySem L2 PyProof
/-! ### entries, the states along them -/
abbrev En := Int × Bool
def enE (p : En) : PV := .tup [.int p.1, .bl p.2]
def eV (es : List En) : PV := .tup (es.map enE)
def alo (cs : List (List Int)) : Int → List En → List Int
  | s, [] => [s]
  | s, p :: es => if p.2 = true then s :: alo cs (stp cs s p.1) es else alo cs s es
def sof (cs : List (List Int)) : Int → List En → Int
  | s, [] => s
  | s, p :: es => sof cs (if p.2 = true then stp cs s p.1 else s) es
def EnOk (m : Nat) (es : List En) : Prop := ∀ p ∈ es, In m p.1
theorem alo_cons {cs : List (List Int)} {s : Int} {p : En} {es : List En} : alo cs s (p :: es) = if p.2 = true then s :: alo cs (stp cs s p.1) es else alo cs s es := rfl
theorem alo_last (cs : List (List Int)) : ∀ (es : List En) (s : Int), ∃ xs, alo cs s es = xs ++ [sof cs s es]
  | [], s => ⟨[], rfl⟩
  | p :: es, s => by
    unfold alo sof
    cases p.2 with
    | false => simp only [Bool.false_eq_true, if_false]; exact alo_last cs es s
    | true =>
      simp only [if_true]
      obtain ⟨xs, e⟩ := alo_last cs es (stp cs s p.1)
      exact ⟨s :: xs, by rw [e]; rfl⟩
theorem EnOk.tail {m : Nat} {p : En} {es : List En} (h : EnOk m (p :: es)) : EnOk m es := fun q hq => h q (List.mem_cons_of_mem _ hq)
theorem EnOk.head {m : Nat} {p : En} {es : List En} (h : EnOk m (p :: es)) : In m p.1 := h p (List.mem_cons_self ..)
section
variable {n s : Int} {cs : List (List Int)} {S : Stor} {Q : OutF → Prop} {es : List En}
theorem sof_in (hm : ∀ c ∈ cs, GC n c) : ∀ (es : List En) {s : Int}, In n s → EnOk cs.length es → In n (sof cs s es)
  | [], s, hs, _ => hs
  | p :: es, s, hs, he => by
    unfold sof
    refine sof_in hm es ?_ he.tail
    split
    · exact stp_in hm hs he.head
    · exact hs
theorem alo_pick {s : Int} {es : List En} : atI ((alo cs s es).map PV.int) (-1) = some (.int (sof cs s es)) := by
  obtain ⟨xs, e⟩ := alo_last cs es s
  rw [e, List.map_append, atI_last (by simp)]
  simp
theorem snoc_pick {xs : List Int} {t : Int} : atI ((xs ++ [t]).map PV.int) (-1) = some (.int t) := by
  rw [List.map_append, atI_last (by simp)]
  simp
theorem wp_along (hm : ∀ c ∈ cs, GC n c) (hs : In n s) (he : EnOk cs.length es) (hl : es.length ≤ 1000) (hq : Q (.ok (.tup ((alo cs s es).map .int)) S)) : wpF d_states_along [encS n s cs, eV es] S Q := by
  unfold d_states_along
  refine wpF_go rfl ?_
  unfold encS eV
  rw [wpS_seq]
  simp only [List.map, List.replicate, List.cons_append, List.nil_append, List.length_cons, List.length_nil, Nat.reduceAdd, bq_ok, bq_ex, wp_pure, wp_fail, wp_getS, oQ_some, oQ_ite, bqS_ok, bqS_ex, sqS_nx, sqS_rt, sqS_bk, sqS_ct, sqS_ex, wpS_next, wpS_break, wpS_cont, wpS_retN, wpS_setT, stQ_some, wp_C, wp_call, wp_callv, bqF_ok, bqF_ex, wp_new, wp_newv, fqS_nx, fqS_rt, fqS_ex, wpS_for, wp_comp, wp_dVar, vQ_v, vQ_o, List.getElem?_cons_zero, List.getElem?_cons_succ, List.set_cons_zero, List.set_cons_succ, wp_d1, wp_k1, wp_d2, wp_k2, wp_k2b, wp_dT, wp_kT, wp_dTru, wp_kTru, wp_dNotT, wp_kNot, wp_dAndT, wp_kAnd, wp_dOrT, wp_kOr, wp_dAndV, wp_kAndV, wp_kAndVb, wp_dOrV, wp_kOrV, wp_kOrVb, wp_dNotV, wp_kNotV, wp_kNotVb, wp_dIf, wp_kIf, wp_dChain, wp_kCh, wp_kCh2, wp_kCh3, wp_aNil, wp_aCons, wp_kCons, wp_kCons2, wp_dTup, wp_kTup, wp_dLst, wp_kLst, wp_dN, wp_kN, wp_dLs, wp_kLs, wp_lDisp, wp_kDisp, wp_lRng, wp_kRng, wp_dItR, wp_kItR, wp_dItS, wp_kItS, wp_tTrue, wp_oNo, wp_oSome, wp_kSome, wp_dSl, wp_kSl, wp_kSl1, wp_kSl2, ws_ret, ws_kRet, ws_expr, ws_kExpr, ws_if, ws_kIfS, ws_set, ws_kSet, ws_setO, ws_kSetO, ws_kSetT, ws_setR, ws_kSetR0, ws_kSetR1, ws_kSetR2, items_t, items_ft, items_l, items_r, setAll, Bool.not_true, Bool.not_false, if_true, ite_true, ite_false, ↓reduceIte, Bool.false_eq_true, Int.reduceLT, Int.reduceLE, Nat.reduceLT, Nat.reduceLeDiff, Nat.reducePow, Int.reducePow, Int.reduceToNat, Int.reduceNeg, Int.reduceSub, Int.reduceAdd, and_self, and_true, true_and, decide_eq_true_eq, decide_true, decide_false, List.length_map, ixN_31, ixN_32, ixN_30, wipeE, restE, lcQ, Option.getD_some, add_i, add_t, add_l, sub_i, mul_i, mul_t, mul_l, fdiv_i, mod_i, pow_18, neg_i, lt_i, le_i, gt_i, ge_i, eq_i, ne_i, eq_b, len_t, len_ft, len_l, len_r, abs_i, int_i, list_t, list_ft, list_l, list_r, tuple_t, tuple_ft, tuple_l, isi_i, isi_b, isi_s, isi_t, isi_ft, isi_l, isi_r, isi_n, tru_b, tru_i, tru_t, tru_ft, tru_l, tru_n, isN_n, isN_b, isN_i, isN_s, isN_t, isN_l, ix_t, ix_ft, ix_l, ix_r, ix_ref, setS_ref, atI_0, atI_1, atI_2, Option.map_some, Option.map_none, kb0, kb1, kb2, kb3, kb4, kb5, kb6, kb7, kb8, kb9, kb10, kb11, kb12, kb13, kb14, kb15, kb16, kb17, kb18, kb19, kb20, kb21, kb22, kb23, kb24, kb25, kb26, kb27, kb28, kb29, sz0, szl0, sz1, szl1, sz2, szl2, sz3, szl3, sz4, szl4, sz5, szl5, sz6, szl6, sz7, szl7, sz8, szl8, sz9, szl9, sz10, szl10, sz11, szl11, sz12, szl12, sz13, szl13, sz14, szl14, sz15, szl15, sz16, szl16, sz17, szl17, sz18, szl18, sz19, szl19, sz20, szl20, sz21, szl21, sz22, szl22, sz23, szl23, sz24, szl24, sz25, szl25, sz26, szl26, sz27, szl27, sz28, szl28, sz29, szl29, sz30, szl30, sz31, szl31, sz32, szl32, sz33, szl33, sz34, szl34, sz35, szl35, sz36, szl36, sz37, szl37, sz38, szl38, sz39, szl39, sz40, szl40]
  rw [wpS_seq]
  simp only [List.map, List.replicate, List.cons_append, List.nil_append, List.length_cons, List.length_nil, Nat.reduceAdd, bq_ok, bq_ex, wp_pure, wp_fail, wp_getS, oQ_some, oQ_ite, bqS_ok, bqS_ex, sqS_nx, sqS_rt, sqS_bk, sqS_ct, sqS_ex, wpS_next, wpS_break, wpS_cont, wpS_retN, wpS_setT, stQ_some, wp_C, wp_call, wp_callv, bqF_ok, bqF_ex, wp_new, wp_newv, fqS_nx, fqS_rt, fqS_ex, wpS_for, wp_comp, wp_dVar, vQ_v, vQ_o, List.getElem?_cons_zero, List.getElem?_cons_succ, List.set_cons_zero, List.set_cons_succ, wp_d1, wp_k1, wp_d2, wp_k2, wp_k2b, wp_dT, wp_kT, wp_dTru, wp_kTru, wp_dNotT, wp_kNot, wp_dAndT, wp_kAnd, wp_dOrT, wp_kOr, wp_dAndV, wp_kAndV, wp_kAndVb, wp_dOrV, wp_kOrV, wp_kOrVb, wp_dNotV, wp_kNotV, wp_kNotVb, wp_dIf, wp_kIf, wp_dChain, wp_kCh, wp_kCh2, wp_kCh3, wp_aNil, wp_aCons, wp_kCons, wp_kCons2, wp_dTup, wp_kTup, wp_dLst, wp_kLst, wp_dN, wp_kN, wp_dLs, wp_kLs, wp_lDisp, wp_kDisp, wp_lRng, wp_kRng, wp_dItR, wp_kItR, wp_dItS, wp_kItS, wp_tTrue, wp_oNo, wp_oSome, wp_kSome, wp_dSl, wp_kSl, wp_kSl1, wp_kSl2, ws_ret, ws_kRet, ws_expr, ws_kExpr, ws_if, ws_kIfS, ws_set, ws_kSet, ws_setO, ws_kSetO, ws_kSetT, ws_setR, ws_kSetR0, ws_kSetR1, ws_kSetR2, items_t, items_ft, items_l, items_r, setAll, Bool.not_true, Bool.not_false, if_true, ite_true, ite_false, ↓reduceIte, Bool.false_eq_true, Int.reduceLT, Int.reduceLE, Nat.reduceLT, Nat.reduceLeDiff, Nat.reducePow, Int.reducePow, Int.reduceToNat, Int.reduceNeg, Int.reduceSub, Int.reduceAdd, and_self, and_true, true_and, decide_eq_true_eq, decide_true, decide_false, List.length_map, ixN_31, ixN_32, ixN_30, wipeE, restE, lcQ, Option.getD_some, add_i, add_t, add_l, sub_i, mul_i, mul_t, mul_l, fdiv_i, mod_i, pow_18, neg_i, lt_i, le_i, gt_i, ge_i, eq_i, ne_i, eq_b, len_t, len_ft, len_l, len_r, abs_i, int_i, list_t, list_ft, list_l, list_r, tuple_t, tuple_ft, tuple_l, isi_i, isi_b, isi_s, isi_t, isi_ft, isi_l, isi_r, isi_n, tru_b, tru_i, tru_t, tru_ft, tru_l, tru_n, isN_n, isN_b, isN_i, isN_s, isN_t, isN_l, ix_t, ix_ft, ix_l, ix_r, ix_ref, setS_ref, atI_0, atI_1, atI_2, Option.map_some, Option.map_none, kb0, kb1, kb2, kb3, kb4, kb5, kb6, kb7, kb8, kb9, kb10, kb11, kb12, kb13, kb14, kb15, kb16, kb17, kb18, kb19, kb20, kb21, kb22, kb23, kb24, kb25, kb26, kb27, kb28, kb29, sz0, szl0, sz1, szl1, sz2, szl2, sz3, szl3, sz4, szl4, sz5, szl5, sz6, szl6, sz7, szl7, sz8, szl8, sz9, szl9, sz10, szl10, sz11, szl11, sz12, szl12, sz13, szl13, sz14, szl14, sz15, szl15, sz16, szl16, sz17, szl17, sz18, szl18, sz19, szl19, sz20, szl20, sz21, szl21, sz22, szl22, sz23, szl23, sz24, szl24, sz25, szl25, sz26, szl26, sz27, szl27, sz28, szl28, sz29, szl29, sz30, szl30, sz31, szl31, sz32, szl32, sz33, szl33, sz34, szl34, sz35, szl35, sz36, szl36, sz37, szl37, sz38, szl38, sz39, szl39, sz40, szl40]
  refine forL_inv (fun ps e S' => S' = S ∧ ∃ (es' : List En) (xs : List Int) (t : Int) (x3 x4 : Slot), ps = es'.map enE ∧ EnOk cs.length es' ∧ In n t ∧ e = [.v (.tup [.int n, .int s, .tup (cs.map encC)]), .v (.tup (es.map enE)), .ol ((xs ++ [t]).map .int), x3, x4] ∧ xs ++ alo cs t es' = alo cs s es ∧ xs.length + es'.length ≤ es.length) ?_ ?_ _ _ _ ⟨rfl, es, [], s, _, _, rfl, he, hs, rfl, rfl, Nat.le_of_eq (Nat.zero_add _)⟩
  · rintro p ps e S' ⟨rfl, es', xs, t, x3, x4, h1, h2, h3, rfl, h4, h5⟩
    cases es' with
    | nil => cases h1
    | cons q es' =>
      rw [List.map_cons] at h1
      injection h1 with h1 h1'
      subst h1 h1'
      rw [List.length_cons] at h5
      refine ⟨_, rfl, ?_⟩
      rw [alo_cons] at h4
      cases hb : q.2 with
      | false =>
        rw [hb] at h4
        simp only [Bool.false_eq_true, if_false] at h4
        simp only [List.map, List.replicate, List.cons_append, List.nil_append, List.length_cons, List.length_nil, Nat.reduceAdd, bq_ok, bq_ex, wp_pure, wp_fail, wp_getS, oQ_some, oQ_ite, bqS_ok, bqS_ex, wpS_seq, sqS_nx, sqS_rt, sqS_bk, sqS_ct, sqS_ex, wpS_next, wpS_break, wpS_cont, wpS_retN, wpS_setT, stQ_some, wp_C, wp_call, wp_callv, bqF_ok, bqF_ex, wp_new, wp_newv, fqS_nx, fqS_rt, fqS_ex, wpS_for, wp_comp, wp_dVar, vQ_v, vQ_o, List.getElem?_cons_zero, List.getElem?_cons_succ, List.set_cons_zero, List.set_cons_succ, wp_d1, wp_k1, wp_d2, wp_k2, wp_k2b, wp_dT, wp_kT, wp_dTru, wp_kTru, wp_dNotT, wp_kNot, wp_dAndT, wp_kAnd, wp_dOrT, wp_kOr, wp_dAndV, wp_kAndV, wp_kAndVb, wp_dOrV, wp_kOrV, wp_kOrVb, wp_dNotV, wp_kNotV, wp_kNotVb, wp_dIf, wp_kIf, wp_dChain, wp_kCh, wp_kCh2, wp_kCh3, wp_aNil, wp_aCons, wp_kCons, wp_kCons2, wp_dTup, wp_kTup, wp_dLst, wp_kLst, wp_dN, wp_kN, wp_dLs, wp_kLs, wp_lDisp, wp_kDisp, wp_lRng, wp_kRng, wp_dItR, wp_kItR, wp_dItS, wp_kItS, wp_tTrue, wp_oNo, wp_oSome, wp_kSome, wp_dSl, wp_kSl, wp_kSl1, wp_kSl2, ws_ret, ws_kRet, ws_expr, ws_kExpr, ws_if, ws_kIfS, ws_set, ws_kSet, ws_setO, ws_kSetO, ws_kSetT, ws_setR, ws_kSetR0, ws_kSetR1, ws_kSetR2, items_t, items_ft, items_l, items_r, setAll, Bool.not_true, Bool.not_false, if_true, ite_true, ite_false, ↓reduceIte, Bool.false_eq_true, Int.reduceLT, Int.reduceLE, Nat.reduceLT, Nat.reduceLeDiff, Nat.reducePow, Int.reducePow, Int.reduceToNat, Int.reduceNeg, Int.reduceSub, Int.reduceAdd, and_self, and_true, true_and, decide_eq_true_eq, decide_true, decide_false, List.length_map, ixN_31, ixN_32, ixN_30, wipeE, restE, lcQ, Option.getD_some, add_i, add_t, add_l, sub_i, mul_i, mul_t, mul_l, fdiv_i, mod_i, pow_18, neg_i, lt_i, le_i, gt_i, ge_i, eq_i, ne_i, eq_b, len_t, len_ft, len_l, len_r, abs_i, int_i, list_t, list_ft, list_l, list_r, tuple_t, tuple_ft, tuple_l, isi_i, isi_b, isi_s, isi_t, isi_ft, isi_l, isi_r, isi_n, tru_b, tru_i, tru_t, tru_ft, tru_l, tru_n, isN_n, isN_b, isN_i, isN_s, isN_t, isN_l, ix_t, ix_ft, ix_l, ix_r, ix_ref, setS_ref, atI_0, atI_1, atI_2, Option.map_some, Option.map_none, kb0, kb1, kb2, kb3, kb4, kb5, kb6, kb7, kb8, kb9, kb10, kb11, kb12, kb13, kb14, kb15, kb16, kb17, kb18, kb19, kb20, kb21, kb22, kb23, kb24, kb25, kb26, kb27, kb28, kb29, sz0, szl0, sz1, szl1, sz2, szl2, sz3, szl3, sz4, szl4, sz5, szl5, sz6, szl6, sz7, szl7, sz8, szl8, sz9, szl9, sz10, szl10, sz11, szl11, sz12, szl12, sz13, szl13, sz14, szl14, sz15, szl15, sz16, szl16, sz17, szl17, sz18, szl18, sz19, szl19, sz20, szl20, sz21, szl21, sz22, szl22, sz23, szl23, sz24, szl24, sz25, szl25, sz26, szl26, sz27, szl27, sz28, szl28, sz29, szl29, sz30, szl30, sz31, szl31, sz32, szl32, sz33, szl33, sz34, szl34, sz35, szl35, sz36, szl36, sz37, szl37, sz38, szl38, sz39, szl39, sz40, szl40, hb]
        exact ⟨es', xs, t, _, _, rfl, h2.tail, h3, rfl, h4, by omega⟩
      | true =>
        rw [hb] at h4
        simp only [if_true] at h4
        simp only [List.map, List.replicate, List.cons_append, List.nil_append, List.length_cons, List.length_nil, Nat.reduceAdd, bq_ok, bq_ex, wp_pure, wp_fail, wp_getS, oQ_some, oQ_ite, bqS_ok, bqS_ex, wpS_seq, sqS_nx, sqS_rt, sqS_bk, sqS_ct, sqS_ex, wpS_next, wpS_break, wpS_cont, wpS_retN, wpS_setT, stQ_some, wp_C, wp_call, wp_callv, bqF_ok, bqF_ex, wp_new, wp_newv, fqS_nx, fqS_rt, fqS_ex, wpS_for, wp_comp, wp_dVar, vQ_v, vQ_o, List.getElem?_cons_zero, List.getElem?_cons_succ, List.set_cons_zero, List.set_cons_succ, wp_d1, wp_k1, wp_d2, wp_k2, wp_k2b, wp_dT, wp_kT, wp_dTru, wp_kTru, wp_dNotT, wp_kNot, wp_dAndT, wp_kAnd, wp_dOrT, wp_kOr, wp_dAndV, wp_kAndV, wp_kAndVb, wp_dOrV, wp_kOrV, wp_kOrVb, wp_dNotV, wp_kNotV, wp_kNotVb, wp_dIf, wp_kIf, wp_dChain, wp_kCh, wp_kCh2, wp_kCh3, wp_aNil, wp_aCons, wp_kCons, wp_kCons2, wp_dTup, wp_kTup, wp_dLst, wp_kLst, wp_dN, wp_kN, wp_dLs, wp_kLs, wp_lDisp, wp_kDisp, wp_lRng, wp_kRng, wp_dItR, wp_kItR, wp_dItS, wp_kItS, wp_tTrue, wp_oNo, wp_oSome, wp_kSome, wp_dSl, wp_kSl, wp_kSl1, wp_kSl2, ws_ret, ws_kRet, ws_expr, ws_kExpr, ws_if, ws_kIfS, ws_set, ws_kSet, ws_setO, ws_kSetO, ws_kSetT, ws_setR, ws_kSetR0, ws_kSetR1, ws_kSetR2, items_t, items_ft, items_l, items_r, setAll, Bool.not_true, Bool.not_false, if_true, ite_true, ite_false, ↓reduceIte, Bool.false_eq_true, Int.reduceLT, Int.reduceLE, Nat.reduceLT, Nat.reduceLeDiff, Nat.reducePow, Int.reducePow, Int.reduceToNat, Int.reduceNeg, Int.reduceSub, Int.reduceAdd, and_self, and_true, true_and, decide_eq_true_eq, decide_true, decide_false, List.length_map, ixN_31, ixN_32, ixN_30, wipeE, restE, lcQ, Option.getD_some, add_i, add_t, add_l, sub_i, mul_i, mul_t, mul_l, fdiv_i, mod_i, pow_18, neg_i, lt_i, le_i, gt_i, ge_i, eq_i, ne_i, eq_b, len_t, len_ft, len_l, len_r, abs_i, int_i, list_t, list_ft, list_l, list_r, tuple_t, tuple_ft, tuple_l, isi_i, isi_b, isi_s, isi_t, isi_ft, isi_l, isi_r, isi_n, tru_b, tru_i, tru_t, tru_ft, tru_l, tru_n, isN_n, isN_b, isN_i, isN_s, isN_t, isN_l, ix_t, ix_ft, ix_l, ix_r, ix_ref, setS_ref, atI_0, atI_1, atI_2, Option.map_some, Option.map_none, kb0, kb1, kb2, kb3, kb4, kb5, kb6, kb7, kb8, kb9, kb10, kb11, kb12, kb13, kb14, kb15, kb16, kb17, kb18, kb19, kb20, kb21, kb22, kb23, kb24, kb25, kb26, kb27, kb28, kb29, sz0, szl0, sz1, szl1, sz2, szl2, sz3, szl3, sz4, szl4, sz5, szl5, sz6, szl6, sz7, szl7, sz8, szl8, sz9, szl9, sz10, szl10, sz11, szl11, sz12, szl12, sz13, szl13, sz14, szl14, sz15, szl15, sz16, szl16, sz17, szl17, sz18, szl18, sz19, szl19, sz20, szl20, sz21, szl21, sz22, szl22, sz23, szl23, sz24, szl24, sz25, szl25, sz26, szl26, sz27, szl27, sz28, szl28, sz29, szl29, sz30, szl30, sz31, szl31, sz32, szl32, sz33, szl33, sz34, szl34, sz35, szl35, sz36, szl36, sz37, szl37, sz38, szl38, sz39, szl39, sz40, szl40, hb]
        rw [wpS_app rfl]
        simp only [List.map, List.replicate, List.cons_append, List.nil_append, List.length_cons, List.length_nil, Nat.reduceAdd, bq_ok, bq_ex, wp_pure, wp_fail, wp_getS, oQ_some, oQ_ite, bqS_ok, bqS_ex, wpS_seq, sqS_nx, sqS_rt, sqS_bk, sqS_ct, sqS_ex, wpS_next, wpS_break, wpS_cont, wpS_retN, wpS_setT, stQ_some, wp_C, wp_call, wp_callv, bqF_ok, bqF_ex, wp_new, wp_newv, fqS_nx, fqS_rt, fqS_ex, wpS_for, wp_comp, wp_dVar, vQ_v, vQ_o, List.getElem?_cons_zero, List.getElem?_cons_succ, List.set_cons_zero, List.set_cons_succ, wp_d1, wp_k1, wp_d2, wp_k2, wp_k2b, wp_dT, wp_kT, wp_dTru, wp_kTru, wp_dNotT, wp_kNot, wp_dAndT, wp_kAnd, wp_dOrT, wp_kOr, wp_dAndV, wp_kAndV, wp_kAndVb, wp_dOrV, wp_kOrV, wp_kOrVb, wp_dNotV, wp_kNotV, wp_kNotVb, wp_dIf, wp_kIf, wp_dChain, wp_kCh, wp_kCh2, wp_kCh3, wp_aNil, wp_aCons, wp_kCons, wp_kCons2, wp_dTup, wp_kTup, wp_dLst, wp_kLst, wp_dN, wp_kN, wp_dLs, wp_kLs, wp_lDisp, wp_kDisp, wp_lRng, wp_kRng, wp_dItR, wp_kItR, wp_dItS, wp_kItS, wp_tTrue, wp_oNo, wp_oSome, wp_kSome, wp_dSl, wp_kSl, wp_kSl1, wp_kSl2, ws_ret, ws_kRet, ws_expr, ws_kExpr, ws_if, ws_kIfS, ws_set, ws_kSet, ws_setO, ws_kSetO, ws_kSetT, ws_setR, ws_kSetR0, ws_kSetR1, ws_kSetR2, items_t, items_ft, items_l, items_r, setAll, Bool.not_true, Bool.not_false, if_true, ite_true, ite_false, ↓reduceIte, Bool.false_eq_true, Int.reduceLT, Int.reduceLE, Nat.reduceLT, Nat.reduceLeDiff, Nat.reducePow, Int.reducePow, Int.reduceToNat, Int.reduceNeg, Int.reduceSub, Int.reduceAdd, and_self, and_true, true_and, decide_eq_true_eq, decide_true, decide_false, List.length_map, ixN_31, ixN_32, ixN_30, wipeE, restE, lcQ, Option.getD_some, add_i, add_t, add_l, sub_i, mul_i, mul_t, mul_l, fdiv_i, mod_i, pow_18, neg_i, lt_i, le_i, gt_i, ge_i, eq_i, ne_i, eq_b, len_t, len_ft, len_l, len_r, abs_i, int_i, list_t, list_ft, list_l, list_r, tuple_t, tuple_ft, tuple_l, isi_i, isi_b, isi_s, isi_t, isi_ft, isi_l, isi_r, isi_n, tru_b, tru_i, tru_t, tru_ft, tru_l, tru_n, isN_n, isN_b, isN_i, isN_s, isN_t, isN_l, ix_t, ix_ft, ix_l, ix_r, ix_ref, setS_ref, atI_0, atI_1, atI_2, Option.map_some, Option.map_none, kb0, kb1, kb2, kb3, kb4, kb5, kb6, kb7, kb8, kb9, kb10, kb11, kb12, kb13, kb14, kb15, kb16, kb17, kb18, kb19, kb20, kb21, kb22, kb23, kb24, kb25, kb26, kb27, kb28, kb29, sz0, szl0, sz1, szl1, sz2, szl2, sz3, szl3, sz4, szl4, sz5, szl5, sz6, szl6, sz7, szl7, sz8, szl8, sz9, szl9, sz10, szl10, sz11, szl11, sz12, szl12, sz13, szl13, sz14, szl14, sz15, szl15, sz16, szl16, sz17, szl17, sz18, szl18, sz19, szl19, sz20, szl20, sz21, szl21, sz22, szl22, sz23, szl23, sz24, szl24, sz25, szl25, sz26, szl26, sz27, szl27, sz28, szl28, sz29, szl29, sz30, szl30, sz31, szl31, sz32, szl32, sz33, szl33, sz34, szl34, sz35, szl35, sz36, szl36, sz37, szl37, sz38, szl38, sz39, szl39, sz40, szl40]
        rw [wp_ixO rfl rfl]
        simp only [List.map, List.replicate, List.cons_append, List.nil_append, List.length_cons, List.length_nil, Nat.reduceAdd, bq_ok, bq_ex, wp_pure, wp_fail, wp_getS, oQ_some, oQ_ite, bqS_ok, bqS_ex, wpS_seq, sqS_nx, sqS_rt, sqS_bk, sqS_ct, sqS_ex, wpS_next, wpS_break, wpS_cont, wpS_retN, wpS_setT, stQ_some, wp_C, wp_call, wp_callv, bqF_ok, bqF_ex, wp_new, wp_newv, fqS_nx, fqS_rt, fqS_ex, wpS_for, wp_comp, wp_dVar, vQ_v, vQ_o, List.getElem?_cons_zero, List.getElem?_cons_succ, List.set_cons_zero, List.set_cons_succ, wp_d1, wp_k1, wp_d2, wp_k2, wp_k2b, wp_dT, wp_kT, wp_dTru, wp_kTru, wp_dNotT, wp_kNot, wp_dAndT, wp_kAnd, wp_dOrT, wp_kOr, wp_dAndV, wp_kAndV, wp_kAndVb, wp_dOrV, wp_kOrV, wp_kOrVb, wp_dNotV, wp_kNotV, wp_kNotVb, wp_dIf, wp_kIf, wp_dChain, wp_kCh, wp_kCh2, wp_kCh3, wp_aNil, wp_aCons, wp_kCons, wp_kCons2, wp_dTup, wp_kTup, wp_dLst, wp_kLst, wp_dN, wp_kN, wp_dLs, wp_kLs, wp_lDisp, wp_kDisp, wp_lRng, wp_kRng, wp_dItR, wp_kItR, wp_dItS, wp_kItS, wp_tTrue, wp_oNo, wp_oSome, wp_kSome, wp_dSl, wp_kSl, wp_kSl1, wp_kSl2, ws_ret, ws_kRet, ws_expr, ws_kExpr, ws_if, ws_kIfS, ws_set, ws_kSet, ws_setO, ws_kSetO, ws_kSetT, ws_setR, ws_kSetR0, ws_kSetR1, ws_kSetR2, items_t, items_ft, items_l, items_r, setAll, Bool.not_true, Bool.not_false, if_true, ite_true, ite_false, ↓reduceIte, Bool.false_eq_true, Int.reduceLT, Int.reduceLE, Nat.reduceLT, Nat.reduceLeDiff, Nat.reducePow, Int.reducePow, Int.reduceToNat, Int.reduceNeg, Int.reduceSub, Int.reduceAdd, and_self, and_true, true_and, decide_eq_true_eq, decide_true, decide_false, List.length_map, ixN_31, ixN_32, ixN_30, wipeE, restE, lcQ, Option.getD_some, add_i, add_t, add_l, sub_i, mul_i, mul_t, mul_l, fdiv_i, mod_i, pow_18, neg_i, lt_i, le_i, gt_i, ge_i, eq_i, ne_i, eq_b, len_t, len_ft, len_l, len_r, abs_i, int_i, list_t, list_ft, list_l, list_r, tuple_t, tuple_ft, tuple_l, isi_i, isi_b, isi_s, isi_t, isi_ft, isi_l, isi_r, isi_n, tru_b, tru_i, tru_t, tru_ft, tru_l, tru_n, isN_n, isN_b, isN_i, isN_s, isN_t, isN_l, ix_t, ix_ft, ix_l, ix_r, ix_ref, setS_ref, atI_0, atI_1, atI_2, Option.map_some, Option.map_none, kb0, kb1, kb2, kb3, kb4, kb5, kb6, kb7, kb8, kb9, kb10, kb11, kb12, kb13, kb14, kb15, kb16, kb17, kb18, kb19, kb20, kb21, kb22, kb23, kb24, kb25, kb26, kb27, kb28, kb29, sz0, szl0, sz1, szl1, sz2, szl2, sz3, szl3, sz4, szl4, sz5, szl5, sz6, szl6, sz7, szl7, sz8, szl8, sz9, szl9, sz10, szl10, sz11, szl11, sz12, szl12, sz13, szl13, sz14, szl14, sz15, szl15, sz16, szl16, sz17, szl17, sz18, szl18, sz19, szl19, sz20, szl20, sz21, szl21, sz22, szl22, sz23, szl23, sz24, szl24, sz25, szl25, sz26, szl26, sz27, szl27, sz28, szl28, sz29, szl29, sz30, szl30, sz31, szl31, sz32, szl32, sz33, szl33, sz34, szl34, sz35, szl35, sz36, szl36, sz37, szl37, sz38, szl38, sz39, szl39, sz40, szl40]
        rw [wp_kIxO rfl (show getO (.ol ((xs ++ [t]).map PV.int)) (.int (-1)) = some (.int t) from snoc_pick)]
        simp only [List.map, List.replicate, List.cons_append, List.nil_append, List.length_cons, List.length_nil, Nat.reduceAdd, bq_ok, bq_ex, wp_pure, wp_fail, wp_getS, oQ_some, oQ_ite, bqS_ok, bqS_ex, wpS_seq, sqS_nx, sqS_rt, sqS_bk, sqS_ct, sqS_ex, wpS_next, wpS_break, wpS_cont, wpS_retN, wpS_setT, stQ_some, wp_C, wp_call, wp_callv, bqF_ok, bqF_ex, wp_new, wp_newv, fqS_nx, fqS_rt, fqS_ex, wpS_for, wp_comp, wp_dVar, vQ_v, vQ_o, List.getElem?_cons_zero, List.getElem?_cons_succ, List.set_cons_zero, List.set_cons_succ, wp_d1, wp_k1, wp_d2, wp_k2, wp_k2b, wp_dT, wp_kT, wp_dTru, wp_kTru, wp_dNotT, wp_kNot, wp_dAndT, wp_kAnd, wp_dOrT, wp_kOr, wp_dAndV, wp_kAndV, wp_kAndVb, wp_dOrV, wp_kOrV, wp_kOrVb, wp_dNotV, wp_kNotV, wp_kNotVb, wp_dIf, wp_kIf, wp_dChain, wp_kCh, wp_kCh2, wp_kCh3, wp_aNil, wp_aCons, wp_kCons, wp_kCons2, wp_dTup, wp_kTup, wp_dLst, wp_kLst, wp_dN, wp_kN, wp_dLs, wp_kLs, wp_lDisp, wp_kDisp, wp_lRng, wp_kRng, wp_dItR, wp_kItR, wp_dItS, wp_kItS, wp_tTrue, wp_oNo, wp_oSome, wp_kSome, wp_dSl, wp_kSl, wp_kSl1, wp_kSl2, ws_ret, ws_kRet, ws_expr, ws_kExpr, ws_if, ws_kIfS, ws_set, ws_kSet, ws_setO, ws_kSetO, ws_kSetT, ws_setR, ws_kSetR0, ws_kSetR1, ws_kSetR2, items_t, items_ft, items_l, items_r, setAll, Bool.not_true, Bool.not_false, if_true, ite_true, ite_false, ↓reduceIte, Bool.false_eq_true, Int.reduceLT, Int.reduceLE, Nat.reduceLT, Nat.reduceLeDiff, Nat.reducePow, Int.reducePow, Int.reduceToNat, Int.reduceNeg, Int.reduceSub, Int.reduceAdd, and_self, and_true, true_and, decide_eq_true_eq, decide_true, decide_false, List.length_map, ixN_31, ixN_32, ixN_30, wipeE, restE, lcQ, Option.getD_some, add_i, add_t, add_l, sub_i, mul_i, mul_t, mul_l, fdiv_i, mod_i, pow_18, neg_i, lt_i, le_i, gt_i, ge_i, eq_i, ne_i, eq_b, len_t, len_ft, len_l, len_r, abs_i, int_i, list_t, list_ft, list_l, list_r, tuple_t, tuple_ft, tuple_l, isi_i, isi_b, isi_s, isi_t, isi_ft, isi_l, isi_r, isi_n, tru_b, tru_i, tru_t, tru_ft, tru_l, tru_n, isN_n, isN_b, isN_i, isN_s, isN_t, isN_l, ix_t, ix_ft, ix_l, ix_r, ix_ref, setS_ref, atI_0, atI_1, atI_2, Option.map_some, Option.map_none, kb0, kb1, kb2, kb3, kb4, kb5, kb6, kb7, kb8, kb9, kb10, kb11, kb12, kb13, kb14, kb15, kb16, kb17, kb18, kb19, kb20, kb21, kb22, kb23, kb24, kb25, kb26, kb27, kb28, kb29, sz0, szl0, sz1, szl1, sz2, szl2, sz3, szl3, sz4, szl4, sz5, szl5, sz6, szl6, sz7, szl7, sz8, szl8, sz9, szl9, sz10, szl10, sz11, szl11, sz12, szl12, sz13, szl13, sz14, szl14, sz15, szl15, sz16, szl16, sz17, szl17, sz18, szl18, sz19, szl19, sz20, szl20, sz21, szl21, sz22, szl22, sz23, szl23, sz24, szl24, sz25, szl25, sz26, szl26, sz27, szl27, sz28, szl28, sz29, szl29, sz30, szl30, sz31, szl31, sz32, szl32, sz33, szl33, sz34, szl34, sz35, szl35, sz36, szl36, sz37, szl37, sz38, szl38, sz39, szl39, sz40, szl40]
        refine wp_step hm h3 h2.head ?_
        simp only [List.map, List.replicate, List.cons_append, List.nil_append, List.length_cons, List.length_nil, Nat.reduceAdd, bq_ok, bq_ex, wp_pure, wp_fail, wp_getS, oQ_some, oQ_ite, bqS_ok, bqS_ex, wpS_seq, sqS_nx, sqS_rt, sqS_bk, sqS_ct, sqS_ex, wpS_next, wpS_break, wpS_cont, wpS_retN, wpS_setT, stQ_some, wp_C, wp_call, wp_callv, bqF_ok, bqF_ex, wp_new, wp_newv, fqS_nx, fqS_rt, fqS_ex, wpS_for, wp_comp, wp_dVar, vQ_v, vQ_o, List.getElem?_cons_zero, List.getElem?_cons_succ, List.set_cons_zero, List.set_cons_succ, wp_d1, wp_k1, wp_d2, wp_k2, wp_k2b, wp_dT, wp_kT, wp_dTru, wp_kTru, wp_dNotT, wp_kNot, wp_dAndT, wp_kAnd, wp_dOrT, wp_kOr, wp_dAndV, wp_kAndV, wp_kAndVb, wp_dOrV, wp_kOrV, wp_kOrVb, wp_dNotV, wp_kNotV, wp_kNotVb, wp_dIf, wp_kIf, wp_dChain, wp_kCh, wp_kCh2, wp_kCh3, wp_aNil, wp_aCons, wp_kCons, wp_kCons2, wp_dTup, wp_kTup, wp_dLst, wp_kLst, wp_dN, wp_kN, wp_dLs, wp_kLs, wp_lDisp, wp_kDisp, wp_lRng, wp_kRng, wp_dItR, wp_kItR, wp_dItS, wp_kItS, wp_tTrue, wp_oNo, wp_oSome, wp_kSome, wp_dSl, wp_kSl, wp_kSl1, wp_kSl2, ws_ret, ws_kRet, ws_expr, ws_kExpr, ws_if, ws_kIfS, ws_set, ws_kSet, ws_setO, ws_kSetO, ws_kSetT, ws_setR, ws_kSetR0, ws_kSetR1, ws_kSetR2, items_t, items_ft, items_l, items_r, setAll, Bool.not_true, Bool.not_false, if_true, ite_true, ite_false, ↓reduceIte, Bool.false_eq_true, Int.reduceLT, Int.reduceLE, Nat.reduceLT, Nat.reduceLeDiff, Nat.reducePow, Int.reducePow, Int.reduceToNat, Int.reduceNeg, Int.reduceSub, Int.reduceAdd, and_self, and_true, true_and, decide_eq_true_eq, decide_true, decide_false, List.length_map, ixN_31, ixN_32, ixN_30, wipeE, restE, lcQ, Option.getD_some, add_i, add_t, add_l, sub_i, mul_i, mul_t, mul_l, fdiv_i, mod_i, pow_18, neg_i, lt_i, le_i, gt_i, ge_i, eq_i, ne_i, eq_b, len_t, len_ft, len_l, len_r, abs_i, int_i, list_t, list_ft, list_l, list_r, tuple_t, tuple_ft, tuple_l, isi_i, isi_b, isi_s, isi_t, isi_ft, isi_l, isi_r, isi_n, tru_b, tru_i, tru_t, tru_ft, tru_l, tru_n, isN_n, isN_b, isN_i, isN_s, isN_t, isN_l, ix_t, ix_ft, ix_l, ix_r, ix_ref, setS_ref, atI_0, atI_1, atI_2, Option.map_some, Option.map_none, kb0, kb1, kb2, kb3, kb4, kb5, kb6, kb7, kb8, kb9, kb10, kb11, kb12, kb13, kb14, kb15, kb16, kb17, kb18, kb19, kb20, kb21, kb22, kb23, kb24, kb25, kb26, kb27, kb28, kb29, sz0, szl0, sz1, szl1, sz2, szl2, sz3, szl3, sz4, szl4, sz5, szl5, sz6, szl6, sz7, szl7, sz8, szl8, sz9, szl9, sz10, szl10, sz11, szl11, sz12, szl12, sz13, szl13, sz14, szl14, sz15, szl15, sz16, szl16, sz17, szl17, sz18, szl18, sz19, szl19, sz20, szl20, sz21, szl21, sz22, szl22, sz23, szl23, sz24, szl24, sz25, szl25, sz26, szl26, sz27, szl27, sz28, szl28, sz29, szl29, sz30, szl30, sz31, szl31, sz32, szl32, sz33, szl33, sz34, szl34, sz35, szl35, sz36, szl36, sz37, szl37, sz38, szl38, sz39, szl39, sz40, szl40]
        rw [wpS_appv rfl (by rw [List.length_map, List.length_append, List.length_singleton]; unfold sizeLine; omega)]
        exact ⟨rfl, es', xs ++ [t], stp cs t q.1, _, _, rfl, h2.tail, stp_in hm h3 h2.head, by rw [List.map_append (l₁ := xs ++ [t])]; rfl, by rw [List.append_assoc]; exact h4, by rw [List.length_append, List.length_singleton]; omega⟩
  · rintro e S' ⟨rfl, es', xs, t, x3, x4, h1, h2, h3, rfl, h4, h5⟩
    have h1 := List.map_eq_nil_iff.mp h1.symm
    subst h1
    simp only [List.replicate, List.cons_append, List.nil_append, List.length_cons, List.length_nil, Nat.reduceAdd, bq_ok, bq_ex, wp_pure, wp_fail, wp_getS, oQ_some, oQ_ite, bqS_ok, bqS_ex, wpS_seq, sqS_nx, sqS_rt, sqS_bk, sqS_ct, sqS_ex, wpS_next, wpS_break, wpS_cont, wpS_retN, wpS_setT, stQ_some, wp_C, wp_call, wp_callv, bqF_ok, bqF_ex, wp_new, wp_newv, fqS_nx, fqS_rt, fqS_ex, wpS_for, wp_comp, wp_dVar, vQ_v, vQ_o, List.getElem?_cons_zero, List.getElem?_cons_succ, List.set_cons_zero, List.set_cons_succ, wp_d1, wp_k1, wp_d2, wp_k2, wp_k2b, wp_dT, wp_kT, wp_dTru, wp_kTru, wp_dNotT, wp_kNot, wp_dAndT, wp_kAnd, wp_dOrT, wp_kOr, wp_dAndV, wp_kAndV, wp_kAndVb, wp_dOrV, wp_kOrV, wp_kOrVb, wp_dNotV, wp_kNotV, wp_kNotVb, wp_dIf, wp_kIf, wp_dChain, wp_kCh, wp_kCh2, wp_kCh3, wp_aNil, wp_aCons, wp_kCons, wp_kCons2, wp_dTup, wp_kTup, wp_dLst, wp_kLst, wp_dN, wp_kN, wp_dLs, wp_kLs, wp_lDisp, wp_kDisp, wp_lRng, wp_kRng, wp_dItR, wp_kItR, wp_dItS, wp_kItS, wp_tTrue, wp_oNo, wp_oSome, wp_kSome, wp_dSl, wp_kSl, wp_kSl1, wp_kSl2, ws_ret, ws_kRet, ws_expr, ws_kExpr, ws_if, ws_kIfS, ws_set, ws_kSet, ws_setO, ws_kSetO, ws_kSetT, ws_setR, ws_kSetR0, ws_kSetR1, ws_kSetR2, items_t, items_ft, items_l, items_r, setAll, Bool.not_true, Bool.not_false, if_true, ite_true, ite_false, ↓reduceIte, Bool.false_eq_true, Int.reduceLT, Int.reduceLE, Nat.reduceLT, Nat.reduceLeDiff, Nat.reducePow, Int.reducePow, Int.reduceToNat, Int.reduceNeg, Int.reduceSub, Int.reduceAdd, and_self, and_true, true_and, decide_eq_true_eq, decide_true, decide_false, List.length_map, ixN_31, ixN_32, ixN_30, wipeE, restE, lcQ, Option.getD_some, add_i, add_t, add_l, sub_i, mul_i, mul_t, mul_l, fdiv_i, mod_i, pow_18, neg_i, lt_i, le_i, gt_i, ge_i, eq_i, ne_i, eq_b, len_t, len_ft, len_l, len_r, abs_i, int_i, list_t, list_ft, list_l, list_r, tuple_t, tuple_ft, tuple_l, isi_i, isi_b, isi_s, isi_t, isi_ft, isi_l, isi_r, isi_n, tru_b, tru_i, tru_t, tru_ft, tru_l, tru_n, isN_n, isN_b, isN_i, isN_s, isN_t, isN_l, ix_t, ix_ft, ix_l, ix_r, ix_ref, setS_ref, atI_0, atI_1, atI_2, Option.map_some, Option.map_none, kb0, kb1, kb2, kb3, kb4, kb5, kb6, kb7, kb8, kb9, kb10, kb11, kb12, kb13, kb14, kb15, kb16, kb17, kb18, kb19, kb20, kb21, kb22, kb23, kb24, kb25, kb26, kb27, kb28, kb29, sz0, szl0, sz1, szl1, sz2, szl2, sz3, szl3, sz4, szl4, sz5, szl5, sz6, szl6, sz7, szl7, sz8, szl8, sz9, szl9, sz10, szl10, sz11, szl11, sz12, szl12, sz13, szl13, sz14, szl14, sz15, szl15, sz16, szl16, sz17, szl17, sz18, szl18, sz19, szl19, sz20, szl20, sz21, szl21, sz22, szl22, sz23, szl23, sz24, szl24, sz25, szl25, sz26, szl26, sz27, szl27, sz28, szl28, sz29, szl29, sz30, szl30, sz31, szl31, sz32, szl32, sz33, szl33, sz34, szl34, sz35, szl35, sz36, szl36, sz37, szl37, sz38, szl38, sz39, szl39, sz40, szl40]
    have h4 : xs ++ [t] = alo cs s es := h4
    rw [h4]
    exact hq
theorem wp_state_of (hm : ∀ c ∈ cs, GC n c) (hs : In n s) (he : EnOk cs.length es) (hl : es.length ≤ 1000) (hq : Q (.ok (.int (sof cs s es)) S)) : wpF d_state_of [encS n s cs, eV es] S Q := by
  unfold d_state_of
  refine wpF_go rfl ?_
  simp only [List.map, List.replicate, List.cons_append, List.nil_append, List.length_cons, List.length_nil, Nat.reduceAdd, bq_ok, bq_ex, wp_pure, wp_fail, wp_getS, oQ_some, oQ_ite, bqS_ok, bqS_ex, wpS_seq, sqS_nx, sqS_rt, sqS_bk, sqS_ct, sqS_ex, wpS_next, wpS_break, wpS_cont, wpS_retN, wpS_setT, stQ_some, wp_C, wp_call, wp_callv, bqF_ok, bqF_ex, wp_new, wp_newv, fqS_nx, fqS_rt, fqS_ex, wpS_for, wp_comp, wp_dVar, vQ_v, vQ_o, List.getElem?_cons_zero, List.getElem?_cons_succ, List.set_cons_zero, List.set_cons_succ, wp_d1, wp_k1, wp_d2, wp_k2, wp_k2b, wp_dT, wp_kT, wp_dTru, wp_kTru, wp_dNotT, wp_kNot, wp_dAndT, wp_kAnd, wp_dOrT, wp_kOr, wp_dAndV, wp_kAndV, wp_kAndVb, wp_dOrV, wp_kOrV, wp_kOrVb, wp_dNotV, wp_kNotV, wp_kNotVb, wp_dIf, wp_kIf, wp_dChain, wp_kCh, wp_kCh2, wp_kCh3, wp_aNil, wp_aCons, wp_kCons, wp_kCons2, wp_dTup, wp_kTup, wp_dLst, wp_kLst, wp_dN, wp_kN, wp_dLs, wp_kLs, wp_lDisp, wp_kDisp, wp_lRng, wp_kRng, wp_dItR, wp_kItR, wp_dItS, wp_kItS, wp_tTrue, wp_oNo, wp_oSome, wp_kSome, wp_dSl, wp_kSl, wp_kSl1, wp_kSl2, ws_ret, ws_kRet, ws_expr, ws_kExpr, ws_if, ws_kIfS, ws_set, ws_kSet, ws_setO, ws_kSetO, ws_kSetT, ws_setR, ws_kSetR0, ws_kSetR1, ws_kSetR2, items_t, items_ft, items_l, items_r, setAll, Bool.not_true, Bool.not_false, if_true, ite_true, ite_false, ↓reduceIte, Bool.false_eq_true, Int.reduceLT, Int.reduceLE, Nat.reduceLT, Nat.reduceLeDiff, Nat.reducePow, Int.reducePow, Int.reduceToNat, Int.reduceNeg, Int.reduceSub, Int.reduceAdd, and_self, and_true, true_and, decide_eq_true_eq, decide_true, decide_false, List.length_map, ixN_31, ixN_32, ixN_30, wipeE, restE, lcQ, Option.getD_some, add_i, add_t, add_l, sub_i, mul_i, mul_t, mul_l, fdiv_i, mod_i, pow_18, neg_i, lt_i, le_i, gt_i, ge_i, eq_i, ne_i, eq_b, len_t, len_ft, len_l, len_r, abs_i, int_i, list_t, list_ft, list_l, list_r, tuple_t, tuple_ft, tuple_l, isi_i, isi_b, isi_s, isi_t, isi_ft, isi_l, isi_r, isi_n, tru_b, tru_i, tru_t, tru_ft, tru_l, tru_n, isN_n, isN_b, isN_i, isN_s, isN_t, isN_l, ix_t, ix_ft, ix_l, ix_r, ix_ref, setS_ref, atI_0, atI_1, atI_2, Option.map_some, Option.map_none, kb0, kb1, kb2, kb3, kb4, kb5, kb6, kb7, kb8, kb9, kb10, kb11, kb12, kb13, kb14, kb15, kb16, kb17, kb18, kb19, kb20, kb21, kb22, kb23, kb24, kb25, kb26, kb27, kb28, kb29, sz0, szl0, sz1, szl1, sz2, szl2, sz3, szl3, sz4, szl4, sz5, szl5, sz6, szl6, sz7, szl7, sz8, szl8, sz9, szl9, sz10, szl10, sz11, szl11, sz12, szl12, sz13, szl13, sz14, szl14, sz15, szl15, sz16, szl16, sz17, szl17, sz18, szl18, sz19, szl19, sz20, szl20, sz21, szl21, sz22, szl22, sz23, szl23, sz24, szl24, sz25, szl25, sz26, szl26, sz27, szl27, sz28, szl28, sz29, szl29, sz30, szl30, sz31, szl31, sz32, szl32, sz33, szl33, sz34, szl34, sz35, szl35, sz36, szl36, sz37, szl37, sz38, szl38, sz39, szl39, sz40, szl40]
  refine wp_along hm hs he hl ?_
  simp only [List.replicate, List.cons_append, List.nil_append, List.length_cons, List.length_nil, Nat.reduceAdd, bq_ok, bq_ex, wp_pure, wp_fail, wp_getS, oQ_some, oQ_ite, bqS_ok, bqS_ex, wpS_seq, sqS_nx, sqS_rt, sqS_bk, sqS_ct, sqS_ex, wpS_next, wpS_break, wpS_cont, wpS_retN, wpS_setT, stQ_some, wp_C, wp_call, wp_callv, bqF_ok, bqF_ex, wp_new, wp_newv, fqS_nx, fqS_rt, fqS_ex, wpS_for, wp_comp, wp_dVar, vQ_v, vQ_o, List.getElem?_cons_zero, List.getElem?_cons_succ, List.set_cons_zero, List.set_cons_succ, wp_d1, wp_k1, wp_d2, wp_k2, wp_k2b, wp_dT, wp_kT, wp_dTru, wp_kTru, wp_dNotT, wp_kNot, wp_dAndT, wp_kAnd, wp_dOrT, wp_kOr, wp_dAndV, wp_kAndV, wp_kAndVb, wp_dOrV, wp_kOrV, wp_kOrVb, wp_dNotV, wp_kNotV, wp_kNotVb, wp_dIf, wp_kIf, wp_dChain, wp_kCh, wp_kCh2, wp_kCh3, wp_aNil, wp_aCons, wp_kCons, wp_kCons2, wp_dTup, wp_kTup, wp_dLst, wp_kLst, wp_dN, wp_kN, wp_dLs, wp_kLs, wp_lDisp, wp_kDisp, wp_lRng, wp_kRng, wp_dItR, wp_kItR, wp_dItS, wp_kItS, wp_tTrue, wp_oNo, wp_oSome, wp_kSome, wp_dSl, wp_kSl, wp_kSl1, wp_kSl2, ws_ret, ws_kRet, ws_expr, ws_kExpr, ws_if, ws_kIfS, ws_set, ws_kSet, ws_setO, ws_kSetO, ws_kSetT, ws_setR, ws_kSetR0, ws_kSetR1, ws_kSetR2, items_t, items_ft, items_l, items_r, setAll, Bool.not_true, Bool.not_false, if_true, ite_true, ite_false, ↓reduceIte, Bool.false_eq_true, Int.reduceLT, Int.reduceLE, Nat.reduceLT, Nat.reduceLeDiff, Nat.reducePow, Int.reducePow, Int.reduceToNat, Int.reduceNeg, Int.reduceSub, Int.reduceAdd, and_self, and_true, true_and, decide_eq_true_eq, decide_true, decide_false, List.length_map, ixN_31, ixN_32, ixN_30, wipeE, restE, lcQ, Option.getD_some, add_i, add_t, add_l, sub_i, mul_i, mul_t, mul_l, fdiv_i, mod_i, pow_18, neg_i, lt_i, le_i, gt_i, ge_i, eq_i, ne_i, eq_b, len_t, len_ft, len_l, len_r, abs_i, int_i, list_t, list_ft, list_l, list_r, tuple_t, tuple_ft, tuple_l, isi_i, isi_b, isi_s, isi_t, isi_ft, isi_l, isi_r, isi_n, tru_b, tru_i, tru_t, tru_ft, tru_l, tru_n, isN_n, isN_b, isN_i, isN_s, isN_t, isN_l, ix_t, ix_ft, ix_l, ix_r, ix_ref, setS_ref, atI_0, atI_1, atI_2, Option.map_some, Option.map_none, kb0, kb1, kb2, kb3, kb4, kb5, kb6, kb7, kb8, kb9, kb10, kb11, kb12, kb13, kb14, kb15, kb16, kb17, kb18, kb19, kb20, kb21, kb22, kb23, kb24, kb25, kb26, kb27, kb28, kb29, sz0, szl0, sz1, szl1, sz2, szl2, sz3, szl3, sz4, szl4, sz5, szl5, sz6, szl6, sz7, szl7, sz8, szl8, sz9, szl9, sz10, szl10, sz11, szl11, sz12, szl12, sz13, szl13, sz14, szl14, sz15, szl15, sz16, szl16, sz17, szl17, sz18, szl18, sz19, szl19, sz20, szl20, sz21, szl21, sz22, szl22, sz23, szl23, sz24, szl24, sz25, szl25, sz26, szl26, sz27, szl27, sz28, szl28, sz29, szl29, sz30, szl30, sz31, szl31, sz32, szl32, sz33, szl33, sz34, szl34, sz35, szl35, sz36, szl36, sz37, szl37, sz38, szl38, sz39, szl39, sz40, szl40, alo_pick]
  exact hq
theorem eV_cut {es : List En} {i : Int} (h0 : 0 ≤ i) (h : i < es.length) : (es.map enE).take i.toNat ++ (es.map enE).drop (i + 1).toNat = (es.eraseIdx i.toNat).map enE := by
  rw [← List.map_take, ← List.map_drop, ← List.map_append, show (i + 1).toNat = i.toNat + 1 by omega, List.eraseIdx_eq_take_drop_succ]
theorem EnOk.erase {m : Nat} {es : List En} (h : EnOk m es) (i : Nat) : EnOk m (es.eraseIdx i) := fun p hp => h p (List.mem_of_mem_eraseIdx hp)
theorem wp_state_without {i : Int} (hm : ∀ c ∈ cs, GC n c) (hs : In n s) (he : EnOk cs.length es) (hl : es.length ≤ 1000) (h0 : 0 ≤ i) (hi : i < es.length) (hq : Q (.ok (.int (sof cs s (es.eraseIdx i.toNat))) S)) : wpF d_state_without [encS n s cs, eV es, .int i] S Q := by
  unfold d_state_without
  refine wpF_go rfl ?_
  unfold eV
  simp only [List.map, List.replicate, List.cons_append, List.nil_append, List.length_cons, List.length_nil, Nat.reduceAdd, bq_ok, bq_ex, wp_pure, wp_fail, wp_getS, oQ_some, oQ_ite, bqS_ok, bqS_ex, wpS_seq, sqS_nx, sqS_rt, sqS_bk, sqS_ct, sqS_ex, wpS_next, wpS_break, wpS_cont, wpS_retN, wpS_setT, stQ_some, wp_C, wp_call, wp_callv, bqF_ok, bqF_ex, wp_new, wp_newv, fqS_nx, fqS_rt, fqS_ex, wpS_for, wp_comp, wp_dVar, vQ_v, vQ_o, List.getElem?_cons_zero, List.getElem?_cons_succ, List.set_cons_zero, List.set_cons_succ, wp_d1, wp_k1, wp_d2, wp_k2, wp_k2b, wp_dT, wp_kT, wp_dTru, wp_kTru, wp_dNotT, wp_kNot, wp_dAndT, wp_kAnd, wp_dOrT, wp_kOr, wp_dAndV, wp_kAndV, wp_kAndVb, wp_dOrV, wp_kOrV, wp_kOrVb, wp_dNotV, wp_kNotV, wp_kNotVb, wp_dIf, wp_kIf, wp_dChain, wp_kCh, wp_kCh2, wp_kCh3, wp_aNil, wp_aCons, wp_kCons, wp_kCons2, wp_dTup, wp_kTup, wp_dLst, wp_kLst, wp_dN, wp_kN, wp_dLs, wp_kLs, wp_lDisp, wp_kDisp, wp_lRng, wp_kRng, wp_dItR, wp_kItR, wp_dItS, wp_kItS, wp_tTrue, wp_oNo, wp_oSome, wp_kSome, wp_dSl, wp_kSl, wp_kSl1, wp_kSl2, ws_ret, ws_kRet, ws_expr, ws_kExpr, ws_if, ws_kIfS, ws_set, ws_kSet, ws_setO, ws_kSetO, ws_kSetT, ws_setR, ws_kSetR0, ws_kSetR1, ws_kSetR2, items_t, items_ft, items_l, items_r, setAll, Bool.not_true, Bool.not_false, if_true, ite_true, ite_false, ↓reduceIte, Bool.false_eq_true, Int.reduceLT, Int.reduceLE, Nat.reduceLT, Nat.reduceLeDiff, Nat.reducePow, Int.reducePow, Int.reduceToNat, Int.reduceNeg, Int.reduceSub, Int.reduceAdd, and_self, and_true, true_and, decide_eq_true_eq, decide_true, decide_false, List.length_map, ixN_31, ixN_32, ixN_30, wipeE, restE, lcQ, Option.getD_some, add_i, add_t, add_l, sub_i, mul_i, mul_t, mul_l, fdiv_i, mod_i, pow_18, neg_i, lt_i, le_i, gt_i, ge_i, eq_i, ne_i, eq_b, len_t, len_ft, len_l, len_r, abs_i, int_i, list_t, list_ft, list_l, list_r, tuple_t, tuple_ft, tuple_l, isi_i, isi_b, isi_s, isi_t, isi_ft, isi_l, isi_r, isi_n, tru_b, tru_i, tru_t, tru_ft, tru_l, tru_n, isN_n, isN_b, isN_i, isN_s, isN_t, isN_l, ix_t, ix_ft, ix_l, ix_r, ix_ref, setS_ref, atI_0, atI_1, atI_2, Option.map_some, Option.map_none, kb0, kb1, kb2, kb3, kb4, kb5, kb6, kb7, kb8, kb9, kb10, kb11, kb12, kb13, kb14, kb15, kb16, kb17, kb18, kb19, kb20, kb21, kb22, kb23, kb24, kb25, kb26, kb27, kb28, kb29, sz0, szl0, sz1, szl1, sz2, szl2, sz3, szl3, sz4, szl4, sz5, szl5, sz6, szl6, sz7, szl7, sz8, szl8, sz9, szl9, sz10, szl10, sz11, szl11, sz12, szl12, sz13, szl13, sz14, szl14, sz15, szl15, sz16, szl16, sz17, szl17, sz18, szl18, sz19, szl19, sz20, szl20, sz21, szl21, sz22, szl22, sz23, szl23, sz24, szl24, sz25, szl25, sz26, szl26, sz27, szl27, sz28, szl28, sz29, szl29, sz30, szl30, sz31, szl31, sz32, szl32, sz33, szl33, sz34, szl34, sz35, szl35, sz36, szl36, sz37, szl37, sz38, szl38, sz39, szl39, sz40, szl40, sl_to h0, sl_from (show 0 ≤ i + 1 by omega)]
  rw [if_pos (by rw [List.length_take, List.length_drop, List.length_map]; unfold sizeLine; omega), eV_cut h0 hi]
  refine wp_state_of hm hs (he.erase _) (by have := List.length_eraseIdx_le es i.toNat; omega) ?_
  simp only [List.map, List.replicate, List.cons_append, List.nil_append, List.length_cons, List.length_nil, Nat.reduceAdd, bq_ok, bq_ex, wp_pure, wp_fail, wp_getS, oQ_some, oQ_ite, bqS_ok, bqS_ex, wpS_seq, sqS_nx, sqS_rt, sqS_bk, sqS_ct, sqS_ex, wpS_next, wpS_break, wpS_cont, wpS_retN, wpS_setT, stQ_some, wp_C, wp_call, wp_callv, bqF_ok, bqF_ex, wp_new, wp_newv, fqS_nx, fqS_rt, fqS_ex, wpS_for, wp_comp, wp_dVar, vQ_v, vQ_o, List.getElem?_cons_zero, List.getElem?_cons_succ, List.set_cons_zero, List.set_cons_succ, wp_d1, wp_k1, wp_d2, wp_k2, wp_k2b, wp_dT, wp_kT, wp_dTru, wp_kTru, wp_dNotT, wp_kNot, wp_dAndT, wp_kAnd, wp_dOrT, wp_kOr, wp_dAndV, wp_kAndV, wp_kAndVb, wp_dOrV, wp_kOrV, wp_kOrVb, wp_dNotV, wp_kNotV, wp_kNotVb, wp_dIf, wp_kIf, wp_dChain, wp_kCh, wp_kCh2, wp_kCh3, wp_aNil, wp_aCons, wp_kCons, wp_kCons2, wp_dTup, wp_kTup, wp_dLst, wp_kLst, wp_dN, wp_kN, wp_dLs, wp_kLs, wp_lDisp, wp_kDisp, wp_lRng, wp_kRng, wp_dItR, wp_kItR, wp_dItS, wp_kItS, wp_tTrue, wp_oNo, wp_oSome, wp_kSome, wp_dSl, wp_kSl, wp_kSl1, wp_kSl2, ws_ret, ws_kRet, ws_expr, ws_kExpr, ws_if, ws_kIfS, ws_set, ws_kSet, ws_setO, ws_kSetO, ws_kSetT, ws_setR, ws_kSetR0, ws_kSetR1, ws_kSetR2, items_t, items_ft, items_l, items_r, setAll, Bool.not_true, Bool.not_false, if_true, ite_true, ite_false, ↓reduceIte, Bool.false_eq_true, Int.reduceLT, Int.reduceLE, Nat.reduceLT, Nat.reduceLeDiff, Nat.reducePow, Int.reducePow, Int.reduceToNat, Int.reduceNeg, Int.reduceSub, Int.reduceAdd, and_self, and_true, true_and, decide_eq_true_eq, decide_true, decide_false, List.length_map, ixN_31, ixN_32, ixN_30, wipeE, restE, lcQ, Option.getD_some, add_i, add_t, add_l, sub_i, mul_i, mul_t, mul_l, fdiv_i, mod_i, pow_18, neg_i, lt_i, le_i, gt_i, ge_i, eq_i, ne_i, eq_b, len_t, len_ft, len_l, len_r, abs_i, int_i, list_t, list_ft, list_l, list_r, tuple_t, tuple_ft, tuple_l, isi_i, isi_b, isi_s, isi_t, isi_ft, isi_l, isi_r, isi_n, tru_b, tru_i, tru_t, tru_ft, tru_l, tru_n, isN_n, isN_b, isN_i, isN_s, isN_t, isN_l, ix_t, ix_ft, ix_l, ix_r, ix_ref, setS_ref, atI_0, atI_1, atI_2, Option.map_some, Option.map_none, kb0, kb1, kb2, kb3, kb4, kb5, kb6, kb7, kb8, kb9, kb10, kb11, kb12, kb13, kb14, kb15, kb16, kb17, kb18, kb19, kb20, kb21, kb22, kb23, kb24, kb25, kb26, kb27, kb28, kb29, sz0, szl0, sz1, szl1, sz2, szl2, sz3, szl3, sz4, szl4, sz5, szl5, sz6, szl6, sz7, szl7, sz8, szl8, sz9, szl9, sz10, szl10, sz11, szl11, sz12, szl12, sz13, szl13, sz14, szl14, sz15, szl15, sz16, szl16, sz17, szl17, sz18, szl18, sz19, szl19, sz20, szl20, sz21, szl21, sz22, szl22, sz23, szl23, sz24, szl24, sz25, szl25, sz26, szl26, sz27, szl27, sz28, szl28, sz29, szl29, sz30, szl30, sz31, szl31, sz32, szl32, sz33, szl33, sz34, szl34, sz35, szl35, sz36, szl36, sz37, szl37, sz38, szl38, sz39, szl39, sz40, szl40]
  exact hq
end
end Dn
end
section
set_option Elab.async false
set_option linter.all false
set_option maxRecDepth 100000
set_option maxHeartbeats 1000000
namespace Dn
open PySem L2 PyProof
/-! ### operations -/
inductive OpK where
  | ex | rv | rs
def OpK.w : OpK → Str
  | .ex => "execute"
  | .rv => "revoke"
  | .rs => "restore"
abbrev Op := OpK × Int
def enA (es : List En) (i : Int) : En := es.getD i.toNat (0, false)
def whyB (es : List En) : Op → Str
  | (.ex, _) => if es.length ≥ 16 then "full" else ""
  | (.rv, i) => if (es.length : Int) ≤ i then "missing" else if (enA es i).2 = true then "" else "revoked"
  | (.rs, i) => if (es.length : Int) ≤ i then "missing" else if (enA es i).2 = true then "effect" else ""
def behB (es : List En) : Op → List En
  | (.ex, i) => es ++ [(i, true)]
  | (.rv, i) => es.take i.toNat ++ [((enA es i).1, false)] ++ es.drop (i + 1).toNat
  | (.rs, i) => es.take i.toNat ++ [((enA es i).1, true)] ++ es.drop (i + 1).toNat
section
variable {S : Stor}
end
theorem enA_at {es : List En} {i : Int} (h0 : 0 ≤ i) (h : i < es.length) : atI (es.map enE) i = some (enE (enA es i)) := by
  rw [atI_in h0 (by rw [List.length_map]; exact h), List.getElem_map]
  unfold enA
  rw [List.getD_eq_getElem?_getD, List.getElem?_eq_getElem (by omega)]
  rfl
section
variable {n s : Int} {cs : List (List Int)} {S : Stor} {Q : OutF → Prop} {es : List En}
end
end Dn
end
section
set_option Elab.async false
set_option linter.all false
set_option maxRecDepth 100000
set_option maxHeartbeats 1000000
namespace Dn
open PySem L2 PyProof
/-! ### an editor in the store -/
def edF (sy : PV) (r : Nat) (ops : List PV) : List (Str × PV) := [("system", sy), ("rows", .ref r), ("operations", .tup ops)]
structure EdAt (S : Stor) (k r : Nat) (sy : PV) (rows ops : List PV) : Prop where
  ins : S[k]? = some (.ins "Editor" (edF sy r ops))
  lst : S[r]? = some (.lst rows)
  ne : k ≠ r
section
variable {S : Stor} {k r : Nat} {sy : PV} {rows ops rows' ops' : List PV}
theorem ed_sys : (edF sy r ops).lookup ("system" : Str) = some sy := by unfold edF; exact lk1
theorem ed_rows : (edF sy r ops).lookup ("rows" : Str) = some (.ref r) := by
  unfold edF
  rw [List.lookup_cons, show (("rows" : Str) == "system") = false by decide +kernel]
  exact lk1
theorem ed_no {m : Str} (h1 : (m == "system") = false) (h2 : (m == "rows") = false) (h3 : (m == "operations") = false) : (edF sy r ops).lookup m = none := by
  unfold edF
  rw [List.lookup_cons, h1]; dsimp only
  rw [List.lookup_cons, h2]; dsimp only
  rw [List.lookup_cons, h3]; rfl
theorem EdAt.fsys (h : EdAt S k r sy rows ops) : fldP "Editor" "system" S (.ref k) = some sy := by rw [fld_at h.ins, ed_sys]
theorem EdAt.frows (h : EdAt S k r sy rows ops) : fldP "Editor" "rows" S (.ref k) = some (.ref r) := by rw [fld_at h.ins, ed_rows]
theorem EdAt.last {rs : List PV} {p : PV} (h : EdAt S k r sy (rs ++ [p]) ops) : ixP S (.ref r) (.int (-1)) = some p := by
  rw [ix_ref, h.lst]
  dsimp only
  rw [atI_last (by simp)]
  simp
end
def OpOk (m : Nat) (o : Op) : Prop := 0 ≤ o.2 ∧ match o.1 with
  | .ex => o.2 < m
  | _ => o.2 ≤ 15
section
variable {n s : Int} {cs : List (List Int)} {S : Stor} {Q : OutF → Prop} {es : List En} {k r : Nat} {rs ops : List PV} {o : Op}
theorem wp_ed_state (h : EdAt S k r (encS n s cs) (rs ++ [eV es]) ops) (hm : ∀ c ∈ cs, GC n c) (hs : In n s) (he : EnOk cs.length es) (hl : es.length ≤ 1000) (hq : Q (.ok (.int (sof cs s es)) S)) : wpF d_Editor_state [.ref k] S Q := by
  unfold d_Editor_state
  refine wpF_go rfl ?_
  simp only [List.map, List.replicate, List.cons_append, List.nil_append, List.length_cons, List.length_nil, Nat.reduceAdd, bq_ok, bq_ex, wp_pure, wp_fail, wp_getS, oQ_some, oQ_ite, bqS_ok, bqS_ex, wpS_seq, sqS_nx, sqS_rt, sqS_bk, sqS_ct, sqS_ex, wpS_next, wpS_break, wpS_cont, wpS_retN, wpS_setT, stQ_some, wp_C, wp_call, wp_callv, bqF_ok, bqF_ex, wp_new, wp_newv, fqS_nx, fqS_rt, fqS_ex, wpS_for, wp_comp, wp_dVar, vQ_v, vQ_o, List.getElem?_cons_zero, List.getElem?_cons_succ, List.set_cons_zero, List.set_cons_succ, wp_d1, wp_k1, wp_d2, wp_k2, wp_k2b, wp_dT, wp_kT, wp_dTru, wp_kTru, wp_dNotT, wp_kNot, wp_dAndT, wp_kAnd, wp_dOrT, wp_kOr, wp_dAndV, wp_kAndV, wp_kAndVb, wp_dOrV, wp_kOrV, wp_kOrVb, wp_dNotV, wp_kNotV, wp_kNotVb, wp_dIf, wp_kIf, wp_dChain, wp_kCh, wp_kCh2, wp_kCh3, wp_aNil, wp_aCons, wp_kCons, wp_kCons2, wp_dTup, wp_kTup, wp_dLst, wp_kLst, wp_dN, wp_kN, wp_dLs, wp_kLs, wp_lDisp, wp_kDisp, wp_lRng, wp_kRng, wp_dItR, wp_kItR, wp_dItS, wp_kItS, wp_tTrue, wp_oNo, wp_oSome, wp_kSome, wp_dSl, wp_kSl, wp_kSl1, wp_kSl2, ws_ret, ws_kRet, ws_expr, ws_kExpr, ws_if, ws_kIfS, ws_set, ws_kSet, ws_setO, ws_kSetO, ws_kSetT, ws_setR, ws_kSetR0, ws_kSetR1, ws_kSetR2, items_t, items_ft, items_l, items_r, setAll, Bool.not_true, Bool.not_false, if_true, ite_true, ite_false, ↓reduceIte, Bool.false_eq_true, Int.reduceLT, Int.reduceLE, Nat.reduceLT, Nat.reduceLeDiff, Nat.reducePow, Int.reducePow, Int.reduceToNat, Int.reduceNeg, Int.reduceSub, Int.reduceAdd, and_self, and_true, true_and, decide_eq_true_eq, decide_true, decide_false, List.length_map, ixN_31, ixN_32, ixN_30, wipeE, restE, lcQ, Option.getD_some, add_i, add_t, add_l, sub_i, mul_i, mul_t, mul_l, fdiv_i, mod_i, pow_18, neg_i, lt_i, le_i, gt_i, ge_i, eq_i, ne_i, eq_b, len_t, len_ft, len_l, len_r, abs_i, int_i, list_t, list_ft, list_l, list_r, tuple_t, tuple_ft, tuple_l, isi_i, isi_b, isi_s, isi_t, isi_ft, isi_l, isi_r, isi_n, tru_b, tru_i, tru_t, tru_ft, tru_l, tru_n, isN_n, isN_b, isN_i, isN_s, isN_t, isN_l, ix_t, ix_ft, ix_l, ix_r, setS_ref, atI_0, atI_1, atI_2, Option.map_some, Option.map_none, kb0, kb1, kb2, kb3, kb4, kb5, kb6, kb7, kb8, kb9, kb10, kb11, kb12, kb13, kb14, kb15, kb16, kb17, kb18, kb19, kb20, kb21, kb22, kb23, kb24, kb25, kb26, kb27, kb28, kb29, sz0, szl0, sz1, szl1, sz2, szl2, sz3, szl3, sz4, szl4, sz5, szl5, sz6, szl6, sz7, szl7, sz8, szl8, sz9, szl9, sz10, szl10, sz11, szl11, sz12, szl12, sz13, szl13, sz14, szl14, sz15, szl15, sz16, szl16, sz17, szl17, sz18, szl18, sz19, szl19, sz20, szl20, sz21, szl21, sz22, szl22, sz23, szl23, sz24, szl24, sz25, szl25, sz26, szl26, sz27, szl27, sz28, szl28, sz29, szl29, sz30, szl30, sz31, szl31, sz32, szl32, sz33, szl33, sz34, szl34, sz35, szl35, sz36, szl36, sz37, szl37, sz38, szl38, sz39, szl39, sz40, szl40, h.fsys, h.frows, h.last]
  refine wp_state_of hm hs he hl ?_
  simp only [List.map, List.replicate, List.cons_append, List.nil_append, List.length_cons, List.length_nil, Nat.reduceAdd, bq_ok, bq_ex, wp_pure, wp_fail, wp_getS, oQ_some, oQ_ite, bqS_ok, bqS_ex, wpS_seq, sqS_nx, sqS_rt, sqS_bk, sqS_ct, sqS_ex, wpS_next, wpS_break, wpS_cont, wpS_retN, wpS_setT, stQ_some, wp_C, wp_call, wp_callv, bqF_ok, bqF_ex, wp_new, wp_newv, fqS_nx, fqS_rt, fqS_ex, wpS_for, wp_comp, wp_dVar, vQ_v, vQ_o, List.getElem?_cons_zero, List.getElem?_cons_succ, List.set_cons_zero, List.set_cons_succ, wp_d1, wp_k1, wp_d2, wp_k2, wp_k2b, wp_dT, wp_kT, wp_dTru, wp_kTru, wp_dNotT, wp_kNot, wp_dAndT, wp_kAnd, wp_dOrT, wp_kOr, wp_dAndV, wp_kAndV, wp_kAndVb, wp_dOrV, wp_kOrV, wp_kOrVb, wp_dNotV, wp_kNotV, wp_kNotVb, wp_dIf, wp_kIf, wp_dChain, wp_kCh, wp_kCh2, wp_kCh3, wp_aNil, wp_aCons, wp_kCons, wp_kCons2, wp_dTup, wp_kTup, wp_dLst, wp_kLst, wp_dN, wp_kN, wp_dLs, wp_kLs, wp_lDisp, wp_kDisp, wp_lRng, wp_kRng, wp_dItR, wp_kItR, wp_dItS, wp_kItS, wp_tTrue, wp_oNo, wp_oSome, wp_kSome, wp_dSl, wp_kSl, wp_kSl1, wp_kSl2, ws_ret, ws_kRet, ws_expr, ws_kExpr, ws_if, ws_kIfS, ws_set, ws_kSet, ws_setO, ws_kSetO, ws_kSetT, ws_setR, ws_kSetR0, ws_kSetR1, ws_kSetR2, items_t, items_ft, items_l, items_r, setAll, Bool.not_true, Bool.not_false, if_true, ite_true, ite_false, ↓reduceIte, Bool.false_eq_true, Int.reduceLT, Int.reduceLE, Nat.reduceLT, Nat.reduceLeDiff, Nat.reducePow, Int.reducePow, Int.reduceToNat, Int.reduceNeg, Int.reduceSub, Int.reduceAdd, and_self, and_true, true_and, decide_eq_true_eq, decide_true, decide_false, List.length_map, ixN_31, ixN_32, ixN_30, wipeE, restE, lcQ, Option.getD_some, add_i, add_t, add_l, sub_i, mul_i, mul_t, mul_l, fdiv_i, mod_i, pow_18, neg_i, lt_i, le_i, gt_i, ge_i, eq_i, ne_i, eq_b, len_t, len_ft, len_l, len_r, abs_i, int_i, list_t, list_ft, list_l, list_r, tuple_t, tuple_ft, tuple_l, isi_i, isi_b, isi_s, isi_t, isi_ft, isi_l, isi_r, isi_n, tru_b, tru_i, tru_t, tru_ft, tru_l, tru_n, isN_n, isN_b, isN_i, isN_s, isN_t, isN_l, ix_t, ix_ft, ix_l, ix_r, ix_ref, setS_ref, atI_0, atI_1, atI_2, Option.map_some, Option.map_none, kb0, kb1, kb2, kb3, kb4, kb5, kb6, kb7, kb8, kb9, kb10, kb11, kb12, kb13, kb14, kb15, kb16, kb17, kb18, kb19, kb20, kb21, kb22, kb23, kb24, kb25, kb26, kb27, kb28, kb29, sz0, szl0, sz1, szl1, sz2, szl2, sz3, szl3, sz4, szl4, sz5, szl5, sz6, szl6, sz7, szl7, sz8, szl8, sz9, szl9, sz10, szl10, sz11, szl11, sz12, szl12, sz13, szl13, sz14, szl14, sz15, szl15, sz16, szl16, sz17, szl17, sz18, szl18, sz19, szl19, sz20, szl20, sz21, szl21, sz22, szl22, sz23, szl23, sz24, szl24, sz25, szl25, sz26, szl26, sz27, szl27, sz28, szl28, sz29, szl29, sz30, szl30, sz31, szl31, sz32, szl32, sz33, szl33, sz34, szl34, sz35, szl35, sz36, szl36, sz37, szl37, sz38, szl38, sz39, szl39, sz40, szl40]
  exact hq
theorem why_lt {w : OpK} {i : Int} (hk : w ≠ .ex) (hw : whyB es (w, i) = "") : i < es.length := by
  apply Decidable.byContradiction
  intro hn
  have n2 : ¬ (("missing" : Str) = "") := by decide +kernel
  cases w with
  | ex => exact hk rfl
  | rv => exact n2 ((if_pos (show (es.length : Int) ≤ i by omega)).symm.trans hw)
  | rs => exact n2 ((if_pos (show (es.length : Int) ≤ i by omega)).symm.trans hw)
theorem why_few {i : Int} (hw : whyB es (.ex, i) = "") : es.length < 16 := by
  apply Decidable.byContradiction
  intro hn
  have n1 : ¬ (("full" : Str) = "") := by decide +kernel
  exact n1 ((if_pos (show es.length ≥ 16 by omega)).symm.trans hw)
theorem EnOk.behind {m : Nat} (he : EnOk m es) (ho : OpOk m o) (hw : whyB es o = "") : EnOk m (behB es o) := by
  obtain ⟨w, i⟩ := o
  obtain ⟨h0, h1⟩ := ho
  have h0 : 0 ≤ i := h0
  have at_ : (i < es.length) → In m (enA es i).1 := fun h => by
    unfold enA
    rw [List.getD_eq_getElem?_getD, List.getElem?_eq_getElem (by omega)]
    exact he _ (List.getElem_mem _)
  cases w with
  | ex =>
    intro p hp
    rcases List.mem_append.mp hp with hp | hp
    · exact he p hp
    · rw [List.mem_singleton.mp hp]; exact ⟨h0, h1⟩
  | rv =>
    have hi : i < es.length := why_lt (w := .rv) (fun z => nomatch z) hw
    intro p hp
    rcases List.mem_append.mp hp with hp | hp
    · rcases List.mem_append.mp hp with hp | hp
      · exact he p (List.mem_of_mem_take hp)
      · rw [List.mem_singleton.mp hp]; exact at_ hi
    · exact he p (List.mem_of_mem_drop hp)
  | rs =>
    have hi : i < es.length := why_lt (w := .rs) (fun z => nomatch z) hw
    intro p hp
    rcases List.mem_append.mp hp with hp | hp
    · rcases List.mem_append.mp hp with hp | hp
      · exact he p (List.mem_of_mem_take hp)
      · rw [List.mem_singleton.mp hp]; exact at_ hi
    · exact he p (List.mem_of_mem_drop hp)
theorem behB_len (h : es.length ≤ 16) (ho : 0 ≤ o.2) (hw : whyB es o = "") : (behB es o).length ≤ 16 := by
  obtain ⟨w, i⟩ := o
  have ho : 0 ≤ i := ho
  cases w with
  | ex =>
    have := why_few hw
    show (es ++ [(i, true)]).length ≤ 16
    rw [List.length_append, List.length_singleton]; omega
  | rv =>
    have hi : i < es.length := why_lt (w := .rv) (fun z => nomatch z) hw
    show (es.take i.toNat ++ [((enA es i).1, false)] ++ es.drop (i + 1).toNat).length ≤ 16
    rw [List.length_append, List.length_append, List.length_take, List.length_drop, List.length_singleton]; omega
  | rs =>
    have hi : i < es.length := why_lt (w := .rs) (fun z => nomatch z) hw
    show (es.take i.toNat ++ [((enA es i).1, true)] ++ es.drop (i + 1).toNat).length ≤ 16
    rw [List.length_append, List.length_append, List.length_take, List.length_drop, List.length_singleton]; omega
end
end Dn
end
section
set_option Elab.async false
set_option linter.all false
set_option maxRecDepth 100000
set_option maxHeartbeats 1000000
namespace Dn
open PySem L2 PyProof
/-! ### an editor is made, entries are asked, the law's side -/
def newS (S0 : Stor) (sy : PV) : Stor := S0 ++ [.ins "Editor" (edF sy (S0.length + 1) []), .lst [eV []]]
section
variable {S0 : Stor} {sy : PV}
end
section
variable {n s : Int} {cs : List (List Int)} {S S0 : Stor} {Q : OutF → Prop} {es : List En} {k r : Nat} {rs ops : List PV} {o : Op}
theorem wp_check_entry {i : Int} {sy : PV} (h : EdAt S k r sy (rs ++ [eV es]) ops) (h0 : 0 ≤ i) (h1 : i < es.length) (hl : es.length ≤ 16) (hq : Q (.ok .non S)) : wpF d_Editor_check_entry [.ref k, .int i] S Q := by
  unfold d_Editor_check_entry
  refine wpF_go rfl ?_
  simp only [List.map, List.replicate, List.cons_append, List.nil_append, List.length_cons, List.length_nil, Nat.reduceAdd, bq_ok, bq_ex, wp_pure, wp_fail, wp_getS, oQ_some, oQ_ite, bqS_ok, bqS_ex, wpS_seq, sqS_nx, sqS_rt, sqS_bk, sqS_ct, sqS_ex, wpS_next, wpS_break, wpS_cont, wpS_retN, wpS_setT, stQ_some, wp_C, wp_call, wp_callv, bqF_ok, bqF_ex, wp_new, wp_newv, fqS_nx, fqS_rt, fqS_ex, wpS_for, wp_comp, wp_dVar, vQ_v, vQ_o, List.getElem?_cons_zero, List.getElem?_cons_succ, List.set_cons_zero, List.set_cons_succ, wp_d1, wp_k1, wp_d2, wp_k2, wp_k2b, wp_dT, wp_kT, wp_dTru, wp_kTru, wp_dNotT, wp_kNot, wp_dAndT, wp_kAnd, wp_dOrT, wp_kOr, wp_dAndV, wp_kAndV, wp_kAndVb, wp_dOrV, wp_kOrV, wp_kOrVb, wp_dNotV, wp_kNotV, wp_kNotVb, wp_dIf, wp_kIf, wp_dChain, wp_kCh, wp_kCh2, wp_kCh3, wp_aNil, wp_aCons, wp_kCons, wp_kCons2, wp_dTup, wp_kTup, wp_dLst, wp_kLst, wp_dN, wp_kN, wp_dLs, wp_kLs, wp_lDisp, wp_kDisp, wp_lRng, wp_kRng, wp_dItR, wp_kItR, wp_dItS, wp_kItS, wp_tTrue, wp_oNo, wp_oSome, wp_kSome, wp_dSl, wp_kSl, wp_kSl1, wp_kSl2, ws_ret, ws_kRet, ws_expr, ws_kExpr, ws_if, ws_kIfS, ws_set, ws_kSet, ws_setO, ws_kSetO, ws_kSetT, ws_setR, ws_kSetR0, ws_kSetR1, ws_kSetR2, items_t, items_ft, items_l, items_r, setAll, Bool.not_true, Bool.not_false, if_true, ite_true, ite_false, ↓reduceIte, Bool.false_eq_true, Int.reduceLT, Int.reduceLE, Nat.reduceLT, Nat.reduceLeDiff, Nat.reducePow, Int.reducePow, Int.reduceToNat, Int.reduceNeg, Int.reduceSub, Int.reduceAdd, and_self, and_true, true_and, decide_eq_true_eq, decide_true, decide_false, List.length_map, ixN_31, ixN_32, ixN_30, wipeE, restE, lcQ, Option.getD_some, add_i, add_t, add_l, sub_i, mul_i, mul_t, mul_l, fdiv_i, mod_i, pow_18, neg_i, lt_i, le_i, gt_i, ge_i, eq_i, ne_i, eq_b, len_t, len_ft, len_l, len_r, abs_i, int_i, list_t, list_ft, list_l, list_r, tuple_t, tuple_ft, tuple_l, isi_i, isi_b, isi_s, isi_t, isi_ft, isi_l, isi_r, isi_n, tru_b, tru_i, tru_t, tru_ft, tru_l, tru_n, isN_n, isN_b, isN_i, isN_s, isN_t, isN_l, ix_t, ix_ft, ix_l, ix_r, setS_ref, atI_0, atI_1, atI_2, Option.map_some, Option.map_none, kb0, kb1, kb2, kb3, kb4, kb5, kb6, kb7, kb8, kb9, kb10, kb11, kb12, kb13, kb14, kb15, kb16, kb17, kb18, kb19, kb20, kb21, kb22, kb23, kb24, kb25, kb26, kb27, kb28, kb29, sz0, szl0, sz1, szl1, sz2, szl2, sz3, szl3, sz4, szl4, sz5, szl5, sz6, szl6, sz7, szl7, sz8, szl8, sz9, szl9, sz10, szl10, sz11, szl11, sz12, szl12, sz13, szl13, sz14, szl14, sz15, szl15, sz16, szl16, sz17, szl17, sz18, szl18, sz19, szl19, sz20, szl20, sz21, szl21, sz22, szl22, sz23, szl23, sz24, szl24, sz25, szl25, sz26, szl26, sz27, szl27, sz28, szl28, sz29, szl29, sz30, szl30, sz31, szl31, sz32, szl32, sz33, szl33, sz34, szl34, sz35, szl35, sz36, szl36, sz37, szl37, sz38, szl38, sz39, szl39, sz40, szl40]
  refine wp_is_whole (by simp [plP]) ?_
  have e : wholeP (.int i) 0 15 = true := by unfold wholeP; simp; omega
  have h' : ¬ i ≥ (es.length : Int) := by omega
  simp only [List.map, List.replicate, List.cons_append, List.nil_append, List.length_cons, List.length_nil, Nat.reduceAdd, bq_ok, bq_ex, wp_pure, wp_fail, wp_getS, oQ_some, oQ_ite, bqS_ok, bqS_ex, wpS_seq, sqS_nx, sqS_rt, sqS_bk, sqS_ct, sqS_ex, wpS_next, wpS_break, wpS_cont, wpS_retN, wpS_setT, stQ_some, wp_C, wp_call, wp_callv, bqF_ok, bqF_ex, wp_new, wp_newv, fqS_nx, fqS_rt, fqS_ex, wpS_for, wp_comp, wp_dVar, vQ_v, vQ_o, List.getElem?_cons_zero, List.getElem?_cons_succ, List.set_cons_zero, List.set_cons_succ, wp_d1, wp_k1, wp_d2, wp_k2, wp_k2b, wp_dT, wp_kT, wp_dTru, wp_kTru, wp_dNotT, wp_kNot, wp_dAndT, wp_kAnd, wp_dOrT, wp_kOr, wp_dAndV, wp_kAndV, wp_kAndVb, wp_dOrV, wp_kOrV, wp_kOrVb, wp_dNotV, wp_kNotV, wp_kNotVb, wp_dIf, wp_kIf, wp_dChain, wp_kCh, wp_kCh2, wp_kCh3, wp_aNil, wp_aCons, wp_kCons, wp_kCons2, wp_dTup, wp_kTup, wp_dLst, wp_kLst, wp_dN, wp_kN, wp_dLs, wp_kLs, wp_lDisp, wp_kDisp, wp_lRng, wp_kRng, wp_dItR, wp_kItR, wp_dItS, wp_kItS, wp_tTrue, wp_oNo, wp_oSome, wp_kSome, wp_dSl, wp_kSl, wp_kSl1, wp_kSl2, ws_ret, ws_kRet, ws_expr, ws_kExpr, ws_if, ws_kIfS, ws_set, ws_kSet, ws_setO, ws_kSetO, ws_kSetT, ws_setR, ws_kSetR0, ws_kSetR1, ws_kSetR2, items_t, items_ft, items_l, items_r, setAll, Bool.not_true, Bool.not_false, if_true, ite_true, ite_false, ↓reduceIte, Bool.false_eq_true, Int.reduceLT, Int.reduceLE, Nat.reduceLT, Nat.reduceLeDiff, Nat.reducePow, Int.reducePow, Int.reduceToNat, Int.reduceNeg, Int.reduceSub, Int.reduceAdd, and_self, and_true, true_and, decide_eq_true_eq, decide_true, decide_false, List.length_map, ixN_31, ixN_32, ixN_30, wipeE, restE, lcQ, Option.getD_some, add_i, add_t, add_l, sub_i, mul_i, mul_t, mul_l, fdiv_i, mod_i, pow_18, neg_i, lt_i, le_i, gt_i, ge_i, eq_i, ne_i, eq_b, len_t, len_ft, len_l, len_r, abs_i, int_i, list_t, list_ft, list_l, list_r, tuple_t, tuple_ft, tuple_l, isi_i, isi_b, isi_s, isi_t, isi_ft, isi_l, isi_r, isi_n, tru_b, tru_i, tru_t, tru_ft, tru_l, tru_n, isN_n, isN_b, isN_i, isN_s, isN_t, isN_l, ix_t, ix_ft, ix_l, ix_r, setS_ref, atI_0, atI_1, atI_2, Option.map_some, Option.map_none, kb0, kb1, kb2, kb3, kb4, kb5, kb6, kb7, kb8, kb9, kb10, kb11, kb12, kb13, kb14, kb15, kb16, kb17, kb18, kb19, kb20, kb21, kb22, kb23, kb24, kb25, kb26, kb27, kb28, kb29, sz0, szl0, sz1, szl1, sz2, szl2, sz3, szl3, sz4, szl4, sz5, szl5, sz6, szl6, sz7, szl7, sz8, szl8, sz9, szl9, sz10, szl10, sz11, szl11, sz12, szl12, sz13, szl13, sz14, szl14, sz15, szl15, sz16, szl16, sz17, szl17, sz18, szl18, sz19, szl19, sz20, szl20, sz21, szl21, sz22, szl22, sz23, szl23, sz24, szl24, sz25, szl25, sz26, szl26, sz27, szl27, sz28, szl28, sz29, szl29, sz30, szl30, sz31, szl31, sz32, szl32, sz33, szl33, sz34, szl34, sz35, szl35, sz36, szl36, sz37, szl37, sz38, szl38, sz39, szl39, sz40, szl40, e, h.frows, h.last, eV, h']
  exact hq
theorem wp_ed_without {i : Int} (h : EdAt S k r (encS n s cs) (rs ++ [eV es]) ops) (hm : ∀ c ∈ cs, GC n c) (hs : In n s) (he : EnOk cs.length es) (hl : es.length ≤ 16) (h0 : 0 ≤ i) (h1 : i < es.length) (hq : Q (.ok (.int (sof cs s (es.eraseIdx i.toNat))) S)) : wpF d_Editor_without [.ref k, .int i] S Q := by
  unfold d_Editor_without
  refine wpF_go rfl ?_
  simp only [List.map, List.replicate, List.cons_append, List.nil_append, List.length_cons, List.length_nil, Nat.reduceAdd, bq_ok, bq_ex, wp_pure, wp_fail, wp_getS, oQ_some, oQ_ite, bqS_ok, bqS_ex, wpS_seq, sqS_nx, sqS_rt, sqS_bk, sqS_ct, sqS_ex, wpS_next, wpS_break, wpS_cont, wpS_retN, wpS_setT, stQ_some, wp_C, wp_call, wp_callv, bqF_ok, bqF_ex, wp_new, wp_newv, fqS_nx, fqS_rt, fqS_ex, wpS_for, wp_comp, wp_dVar, vQ_v, vQ_o, List.getElem?_cons_zero, List.getElem?_cons_succ, List.set_cons_zero, List.set_cons_succ, wp_d1, wp_k1, wp_d2, wp_k2, wp_k2b, wp_dT, wp_kT, wp_dTru, wp_kTru, wp_dNotT, wp_kNot, wp_dAndT, wp_kAnd, wp_dOrT, wp_kOr, wp_dAndV, wp_kAndV, wp_kAndVb, wp_dOrV, wp_kOrV, wp_kOrVb, wp_dNotV, wp_kNotV, wp_kNotVb, wp_dIf, wp_kIf, wp_dChain, wp_kCh, wp_kCh2, wp_kCh3, wp_aNil, wp_aCons, wp_kCons, wp_kCons2, wp_dTup, wp_kTup, wp_dLst, wp_kLst, wp_dN, wp_kN, wp_dLs, wp_kLs, wp_lDisp, wp_kDisp, wp_lRng, wp_kRng, wp_dItR, wp_kItR, wp_dItS, wp_kItS, wp_tTrue, wp_oNo, wp_oSome, wp_kSome, wp_dSl, wp_kSl, wp_kSl1, wp_kSl2, ws_ret, ws_kRet, ws_expr, ws_kExpr, ws_if, ws_kIfS, ws_set, ws_kSet, ws_setO, ws_kSetO, ws_kSetT, ws_setR, ws_kSetR0, ws_kSetR1, ws_kSetR2, items_t, items_ft, items_l, items_r, setAll, Bool.not_true, Bool.not_false, if_true, ite_true, ite_false, ↓reduceIte, Bool.false_eq_true, Int.reduceLT, Int.reduceLE, Nat.reduceLT, Nat.reduceLeDiff, Nat.reducePow, Int.reducePow, Int.reduceToNat, Int.reduceNeg, Int.reduceSub, Int.reduceAdd, and_self, and_true, true_and, decide_eq_true_eq, decide_true, decide_false, List.length_map, ixN_31, ixN_32, ixN_30, wipeE, restE, lcQ, Option.getD_some, add_i, add_t, add_l, sub_i, mul_i, mul_t, mul_l, fdiv_i, mod_i, pow_18, neg_i, lt_i, le_i, gt_i, ge_i, eq_i, ne_i, eq_b, len_t, len_ft, len_l, len_r, abs_i, int_i, list_t, list_ft, list_l, list_r, tuple_t, tuple_ft, tuple_l, isi_i, isi_b, isi_s, isi_t, isi_ft, isi_l, isi_r, isi_n, tru_b, tru_i, tru_t, tru_ft, tru_l, tru_n, isN_n, isN_b, isN_i, isN_s, isN_t, isN_l, ix_t, ix_ft, ix_l, ix_r, setS_ref, atI_0, atI_1, atI_2, Option.map_some, Option.map_none, kb0, kb1, kb2, kb3, kb4, kb5, kb6, kb7, kb8, kb9, kb10, kb11, kb12, kb13, kb14, kb15, kb16, kb17, kb18, kb19, kb20, kb21, kb22, kb23, kb24, kb25, kb26, kb27, kb28, kb29, sz0, szl0, sz1, szl1, sz2, szl2, sz3, szl3, sz4, szl4, sz5, szl5, sz6, szl6, sz7, szl7, sz8, szl8, sz9, szl9, sz10, szl10, sz11, szl11, sz12, szl12, sz13, szl13, sz14, szl14, sz15, szl15, sz16, szl16, sz17, szl17, sz18, szl18, sz19, szl19, sz20, szl20, sz21, szl21, sz22, szl22, sz23, szl23, sz24, szl24, sz25, szl25, sz26, szl26, sz27, szl27, sz28, szl28, sz29, szl29, sz30, szl30, sz31, szl31, sz32, szl32, sz33, szl33, sz34, szl34, sz35, szl35, sz36, szl36, sz37, szl37, sz38, szl38, sz39, szl39, sz40, szl40, wp_meth]
  rw [wp_methv h.ins (ed_no (by decide +kernel) (by decide +kernel) (by decide +kernel))]
  simp only [List.map, List.replicate, List.cons_append, List.nil_append, List.length_cons, List.length_nil, Nat.reduceAdd, bq_ok, bq_ex, wp_pure, wp_fail, wp_getS, oQ_some, oQ_ite, bqS_ok, bqS_ex, wpS_seq, sqS_nx, sqS_rt, sqS_bk, sqS_ct, sqS_ex, wpS_next, wpS_break, wpS_cont, wpS_retN, wpS_setT, stQ_some, wp_C, wp_call, wp_callv, bqF_ok, bqF_ex, wp_new, wp_newv, fqS_nx, fqS_rt, fqS_ex, wpS_for, wp_comp, wp_dVar, vQ_v, vQ_o, List.getElem?_cons_zero, List.getElem?_cons_succ, List.set_cons_zero, List.set_cons_succ, wp_d1, wp_k1, wp_d2, wp_k2, wp_k2b, wp_dT, wp_kT, wp_dTru, wp_kTru, wp_dNotT, wp_kNot, wp_dAndT, wp_kAnd, wp_dOrT, wp_kOr, wp_dAndV, wp_kAndV, wp_kAndVb, wp_dOrV, wp_kOrV, wp_kOrVb, wp_dNotV, wp_kNotV, wp_kNotVb, wp_dIf, wp_kIf, wp_dChain, wp_kCh, wp_kCh2, wp_kCh3, wp_aNil, wp_aCons, wp_kCons, wp_kCons2, wp_dTup, wp_kTup, wp_dLst, wp_kLst, wp_dN, wp_kN, wp_dLs, wp_kLs, wp_lDisp, wp_kDisp, wp_lRng, wp_kRng, wp_dItR, wp_kItR, wp_dItS, wp_kItS, wp_tTrue, wp_oNo, wp_oSome, wp_kSome, wp_dSl, wp_kSl, wp_kSl1, wp_kSl2, ws_ret, ws_kRet, ws_expr, ws_kExpr, ws_if, ws_kIfS, ws_set, ws_kSet, ws_setO, ws_kSetO, ws_kSetT, ws_setR, ws_kSetR0, ws_kSetR1, ws_kSetR2, items_t, items_ft, items_l, items_r, setAll, Bool.not_true, Bool.not_false, if_true, ite_true, ite_false, ↓reduceIte, Bool.false_eq_true, Int.reduceLT, Int.reduceLE, Nat.reduceLT, Nat.reduceLeDiff, Nat.reducePow, Int.reducePow, Int.reduceToNat, Int.reduceNeg, Int.reduceSub, Int.reduceAdd, and_self, and_true, true_and, decide_eq_true_eq, decide_true, decide_false, List.length_map, ixN_31, ixN_32, ixN_30, wipeE, restE, lcQ, Option.getD_some, add_i, add_t, add_l, sub_i, mul_i, mul_t, mul_l, fdiv_i, mod_i, pow_18, neg_i, lt_i, le_i, gt_i, ge_i, eq_i, ne_i, eq_b, len_t, len_ft, len_l, len_r, abs_i, int_i, list_t, list_ft, list_l, list_r, tuple_t, tuple_ft, tuple_l, isi_i, isi_b, isi_s, isi_t, isi_ft, isi_l, isi_r, isi_n, tru_b, tru_i, tru_t, tru_ft, tru_l, tru_n, isN_n, isN_b, isN_i, isN_s, isN_t, isN_l, ix_t, ix_ft, ix_l, ix_r, setS_ref, atI_0, atI_1, atI_2, Option.map_some, Option.map_none, kb0, kb1, kb2, kb3, kb4, kb5, kb6, kb7, kb8, kb9, kb10, kb11, kb12, kb13, kb14, kb15, kb16, kb17, kb18, kb19, kb20, kb21, kb22, kb23, kb24, kb25, kb26, kb27, kb28, kb29, sz0, szl0, sz1, szl1, sz2, szl2, sz3, szl3, sz4, szl4, sz5, szl5, sz6, szl6, sz7, szl7, sz8, szl8, sz9, szl9, sz10, szl10, sz11, szl11, sz12, szl12, sz13, szl13, sz14, szl14, sz15, szl15, sz16, szl16, sz17, szl17, sz18, szl18, sz19, szl19, sz20, szl20, sz21, szl21, sz22, szl22, sz23, szl23, sz24, szl24, sz25, szl25, sz26, szl26, sz27, szl27, sz28, szl28, sz29, szl29, sz30, szl30, sz31, szl31, sz32, szl32, sz33, szl33, sz34, szl34, sz35, szl35, sz36, szl36, sz37, szl37, sz38, szl38, sz39, szl39, sz40, szl40]
  rw [wp_methB]
  refine wp_check_entry h h0 h1 hl ?_
  simp only [List.map, List.replicate, List.cons_append, List.nil_append, List.length_cons, List.length_nil, Nat.reduceAdd, bq_ok, bq_ex, wp_pure, wp_fail, wp_getS, oQ_some, oQ_ite, bqS_ok, bqS_ex, wpS_seq, sqS_nx, sqS_rt, sqS_bk, sqS_ct, sqS_ex, wpS_next, wpS_break, wpS_cont, wpS_retN, wpS_setT, stQ_some, wp_C, wp_call, wp_callv, bqF_ok, bqF_ex, wp_new, wp_newv, fqS_nx, fqS_rt, fqS_ex, wpS_for, wp_comp, wp_dVar, vQ_v, vQ_o, List.getElem?_cons_zero, List.getElem?_cons_succ, List.set_cons_zero, List.set_cons_succ, wp_d1, wp_k1, wp_d2, wp_k2, wp_k2b, wp_dT, wp_kT, wp_dTru, wp_kTru, wp_dNotT, wp_kNot, wp_dAndT, wp_kAnd, wp_dOrT, wp_kOr, wp_dAndV, wp_kAndV, wp_kAndVb, wp_dOrV, wp_kOrV, wp_kOrVb, wp_dNotV, wp_kNotV, wp_kNotVb, wp_dIf, wp_kIf, wp_dChain, wp_kCh, wp_kCh2, wp_kCh3, wp_aNil, wp_aCons, wp_kCons, wp_kCons2, wp_dTup, wp_kTup, wp_dLst, wp_kLst, wp_dN, wp_kN, wp_dLs, wp_kLs, wp_lDisp, wp_kDisp, wp_lRng, wp_kRng, wp_dItR, wp_kItR, wp_dItS, wp_kItS, wp_tTrue, wp_oNo, wp_oSome, wp_kSome, wp_dSl, wp_kSl, wp_kSl1, wp_kSl2, ws_ret, ws_kRet, ws_expr, ws_kExpr, ws_if, ws_kIfS, ws_set, ws_kSet, ws_setO, ws_kSetO, ws_kSetT, ws_setR, ws_kSetR0, ws_kSetR1, ws_kSetR2, items_t, items_ft, items_l, items_r, setAll, Bool.not_true, Bool.not_false, if_true, ite_true, ite_false, ↓reduceIte, Bool.false_eq_true, Int.reduceLT, Int.reduceLE, Nat.reduceLT, Nat.reduceLeDiff, Nat.reducePow, Int.reducePow, Int.reduceToNat, Int.reduceNeg, Int.reduceSub, Int.reduceAdd, and_self, and_true, true_and, decide_eq_true_eq, decide_true, decide_false, List.length_map, ixN_31, ixN_32, ixN_30, wipeE, restE, lcQ, Option.getD_some, add_i, add_t, add_l, sub_i, mul_i, mul_t, mul_l, fdiv_i, mod_i, pow_18, neg_i, lt_i, le_i, gt_i, ge_i, eq_i, ne_i, eq_b, len_t, len_ft, len_l, len_r, abs_i, int_i, list_t, list_ft, list_l, list_r, tuple_t, tuple_ft, tuple_l, isi_i, isi_b, isi_s, isi_t, isi_ft, isi_l, isi_r, isi_n, tru_b, tru_i, tru_t, tru_ft, tru_l, tru_n, isN_n, isN_b, isN_i, isN_s, isN_t, isN_l, ix_t, ix_ft, ix_l, ix_r, setS_ref, atI_0, atI_1, atI_2, Option.map_some, Option.map_none, kb0, kb1, kb2, kb3, kb4, kb5, kb6, kb7, kb8, kb9, kb10, kb11, kb12, kb13, kb14, kb15, kb16, kb17, kb18, kb19, kb20, kb21, kb22, kb23, kb24, kb25, kb26, kb27, kb28, kb29, sz0, szl0, sz1, szl1, sz2, szl2, sz3, szl3, sz4, szl4, sz5, szl5, sz6, szl6, sz7, szl7, sz8, szl8, sz9, szl9, sz10, szl10, sz11, szl11, sz12, szl12, sz13, szl13, sz14, szl14, sz15, szl15, sz16, szl16, sz17, szl17, sz18, szl18, sz19, szl19, sz20, szl20, sz21, szl21, sz22, szl22, sz23, szl23, sz24, szl24, sz25, szl25, sz26, szl26, sz27, szl27, sz28, szl28, sz29, szl29, sz30, szl30, sz31, szl31, sz32, szl32, sz33, szl33, sz34, szl34, sz35, szl35, sz36, szl36, sz37, szl37, sz38, szl38, sz39, szl39, sz40, szl40, h.fsys, h.frows, h.last]
  refine wp_state_without hm hs he (by omega) h0 h1 ?_
  simp only [List.map, List.replicate, List.cons_append, List.nil_append, List.length_cons, List.length_nil, Nat.reduceAdd, bq_ok, bq_ex, wp_pure, wp_fail, wp_getS, oQ_some, oQ_ite, bqS_ok, bqS_ex, wpS_seq, sqS_nx, sqS_rt, sqS_bk, sqS_ct, sqS_ex, wpS_next, wpS_break, wpS_cont, wpS_retN, wpS_setT, stQ_some, wp_C, wp_call, wp_callv, bqF_ok, bqF_ex, wp_new, wp_newv, fqS_nx, fqS_rt, fqS_ex, wpS_for, wp_comp, wp_dVar, vQ_v, vQ_o, List.getElem?_cons_zero, List.getElem?_cons_succ, List.set_cons_zero, List.set_cons_succ, wp_d1, wp_k1, wp_d2, wp_k2, wp_k2b, wp_dT, wp_kT, wp_dTru, wp_kTru, wp_dNotT, wp_kNot, wp_dAndT, wp_kAnd, wp_dOrT, wp_kOr, wp_dAndV, wp_kAndV, wp_kAndVb, wp_dOrV, wp_kOrV, wp_kOrVb, wp_dNotV, wp_kNotV, wp_kNotVb, wp_dIf, wp_kIf, wp_dChain, wp_kCh, wp_kCh2, wp_kCh3, wp_aNil, wp_aCons, wp_kCons, wp_kCons2, wp_dTup, wp_kTup, wp_dLst, wp_kLst, wp_dN, wp_kN, wp_dLs, wp_kLs, wp_lDisp, wp_kDisp, wp_lRng, wp_kRng, wp_dItR, wp_kItR, wp_dItS, wp_kItS, wp_tTrue, wp_oNo, wp_oSome, wp_kSome, wp_dSl, wp_kSl, wp_kSl1, wp_kSl2, ws_ret, ws_kRet, ws_expr, ws_kExpr, ws_if, ws_kIfS, ws_set, ws_kSet, ws_setO, ws_kSetO, ws_kSetT, ws_setR, ws_kSetR0, ws_kSetR1, ws_kSetR2, items_t, items_ft, items_l, items_r, setAll, Bool.not_true, Bool.not_false, if_true, ite_true, ite_false, ↓reduceIte, Bool.false_eq_true, Int.reduceLT, Int.reduceLE, Nat.reduceLT, Nat.reduceLeDiff, Nat.reducePow, Int.reducePow, Int.reduceToNat, Int.reduceNeg, Int.reduceSub, Int.reduceAdd, and_self, and_true, true_and, decide_eq_true_eq, decide_true, decide_false, List.length_map, ixN_31, ixN_32, ixN_30, wipeE, restE, lcQ, Option.getD_some, add_i, add_t, add_l, sub_i, mul_i, mul_t, mul_l, fdiv_i, mod_i, pow_18, neg_i, lt_i, le_i, gt_i, ge_i, eq_i, ne_i, eq_b, len_t, len_ft, len_l, len_r, abs_i, int_i, list_t, list_ft, list_l, list_r, tuple_t, tuple_ft, tuple_l, isi_i, isi_b, isi_s, isi_t, isi_ft, isi_l, isi_r, isi_n, tru_b, tru_i, tru_t, tru_ft, tru_l, tru_n, isN_n, isN_b, isN_i, isN_s, isN_t, isN_l, ix_t, ix_ft, ix_l, ix_r, ix_ref, setS_ref, atI_0, atI_1, atI_2, Option.map_some, Option.map_none, kb0, kb1, kb2, kb3, kb4, kb5, kb6, kb7, kb8, kb9, kb10, kb11, kb12, kb13, kb14, kb15, kb16, kb17, kb18, kb19, kb20, kb21, kb22, kb23, kb24, kb25, kb26, kb27, kb28, kb29, sz0, szl0, sz1, szl1, sz2, szl2, sz3, szl3, sz4, szl4, sz5, szl5, sz6, szl6, sz7, szl7, sz8, szl8, sz9, szl9, sz10, szl10, sz11, szl11, sz12, szl12, sz13, szl13, sz14, szl14, sz15, szl15, sz16, szl16, sz17, szl17, sz18, szl18, sz19, szl19, sz20, szl20, sz21, szl21, sz22, szl22, sz23, szl23, sz24, szl24, sz25, szl25, sz26, szl26, sz27, szl27, sz28, szl28, sz29, szl29, sz30, szl30, sz31, szl31, sz32, szl32, sz33, szl33, sz34, szl34, sz35, szl35, sz36, szl36, sz37, szl37, sz38, szl38, sz39, szl39, sz40, szl40]
  exact hq
end
section
variable {n s : Int} {cs : List (List Int)} {R S : Stor} {Q : OutF → Prop} {es : List En}
end
end Dn
end
section
set_option Elab.async false
set_option linter.all false
set_option maxRecDepth 100000
set_option maxHeartbeats 1000000
namespace Dn
open PySem L2 PyProof
/-! ### runs of operations, undoing, replaying -/
def endE : List En → List Op → List En
  | es, [] => es
  | es, o :: js => endE (behB es o) js
def Can (m : Nat) : List En → List Op → Prop
  | _, [] => True
  | es, o :: js => OpOk m o ∧ whyB es o = "" ∧ Can m (behB es o) js
theorem Can.snoc {m : Nat} : ∀ {js : List Op} {es : List En} {o : Op}, Can m es js → OpOk m o → whyB (endE es js) o = "" → Can m es (js ++ [o])
  | [], _, _, _, h1, h2 => ⟨h1, h2, trivial⟩
  | _ :: _, _, _, h, h1, h2 => ⟨h.1, h.2.1, Can.snoc h.2.2 h1 h2⟩
theorem Can.init {m : Nat} : ∀ {js : List Op} {es : List En} {o : Op}, Can m es (js ++ [o]) → Can m es js ∧ OpOk m o ∧ whyB (endE es js) o = ""
  | [], _, _, h => ⟨trivial, h.1, h.2.1⟩
  | _ :: _, _, _, h => by
    obtain ⟨h1, h2, h3⟩ := Can.init h.2.2
    exact ⟨⟨h.1, h.2.1, h1⟩, h2, h3⟩
theorem Can.ops {m : Nat} : ∀ {js : List Op} {es : List En}, Can m es js → ∀ o ∈ js, OpOk m o
  | p :: js, es, h, o, ho => by
    rcases List.mem_cons.mp ho with rfl | ho
    · exact h.1
    · exact Can.ops h.2.2 o ho
theorem Can.ok {m : Nat} : ∀ {js : List Op} {es : List En}, Can m es js → EnOk m es → EnOk m (endE es js)
  | [], _, _, he => he
  | o :: js, es, h, he => Can.ok (js := js) (es := behB es o) h.2.2 (he.behind h.1 h.2.1)
theorem Can.few {m : Nat} : ∀ {js : List Op} {es : List En}, Can m es js → es.length ≤ 16 → (endE es js).length ≤ 16
  | [], _, _, he => he
  | o :: js, es, h, he => Can.few (js := js) (es := behB es o) h.2.2 (behB_len he h.1.1 h.2.1)
structure Fr (k r : Nat) (S S' : Stor) : Prop where
  len : S'.length = S.length
  at_ : ∀ j, j ≠ k → j ≠ r → S'[j]? = S[j]?
theorem Fr.refl {k r : Nat} {S : Stor} : Fr k r S S := ⟨rfl, fun _ _ _ => rfl⟩
theorem Fr.trans {k r : Nat} {S S1 S2 : Stor} (a : Fr k r S S1) (b : Fr k r S1 S2) : Fr k r S S2 := ⟨b.len.trans a.len, fun j h1 h2 => (b.at_ j h1 h2).trans (a.at_ j h1 h2)⟩
section
variable {n s : Int} {cs : List (List Int)} {Q : OutF → Prop} {k r : Nat}
theorem new_old {S0 : Stor} {sy : PV} {j : Nat} (h : j < S0.length) : (newS S0 sy)[j]? = S0[j]? := by unfold newS; rw [List.getElem?_append_left h]
theorem new_len {S0 : Stor} {sy : PV} : (newS S0 sy).length = S0.length + 2 := by unfold newS; rw [List.length_append]; rfl
/-- what stood before stands still -/
structure Up (d : Nat) (S S' : Stor) : Prop where
  len : S'.length = S.length + d
  at_ : ∀ j, j < S.length → S'[j]? = S[j]?
theorem Up.new {S0 S' : Stor} {sy : PV} (f : Fr S0.length (S0.length + 1) (newS S0 sy) S') : Up 2 S0 S' := ⟨by rw [f.len, new_len], fun j h => by rw [f.at_ j (by omega) (by omega), new_old h]⟩
end
end Dn
end
section
set_option Elab.async false
set_option linter.all false
set_option maxRecDepth 100000
set_option maxHeartbeats 1000000
namespace Dn
open PySem L2 PyProof
/-! ### the forms of entries and operations; equality with oneself -/
/-! ### the store's parts -/
def SI (S : Stor) : Prop := ∃ R, SInv R S
theorem SI.of {S S' : Stor} (h : SI S) (e : S'[0]? = S[0]?) : SI S' := by
  obtain ⟨R, ns, d, i, rfl, h1, h2⟩ := h
  cases S' with
  | nil => cases e
  | cons x R' =>
    have e : some x = some _ := e
    cases e
    exact ⟨R', ns, d, i, rfl, h1, h2⟩
theorem EdAt.up {S S' : Stor} {k r d : Nat} {sy : PV} {rows ops : List PV} (h : EdAt S k r sy rows ops) (f : Up d S S') : EdAt S' k r sy rows ops :=
  ⟨by rw [f.at_ _ (List.getElem?_eq_some_iff.mp h.ins).1]; exact h.ins, by rw [f.at_ _ (List.getElem?_eq_some_iff.mp h.lst).1]; exact h.lst, h.ne⟩
end Dn
end
section
set_option Elab.async false
set_option linter.all false
set_option maxRecDepth 100000
set_option maxHeartbeats 1000000
namespace Dn
open PySem L2 PyProof
/-! ### histories, with the entries behind each operation in a list of the store; a journal that can't be replayed -/
section
variable {n s : Int} {cs : List (List Int)} {Q : OutF → Prop}
end
end Dn
end
section
set_option Elab.async false
set_option linter.all false
set_option maxRecDepth 100000
set_option maxHeartbeats 1000000
namespace Dn
open PySem L2 PyProof
/-! ### entries that are revocable, their tables -/
section
variable {n s : Int} {cs : List (List Int)} {S : Stor} {Q : OutF → Prop} {es : List En} {k r : Nat} {rs ops : List PV} {i : Int}
abbrev SGx (n : Int) (cs : List (List Int)) (p : Pr) (f : Fg Pr) : Prop := SG (UP n n) (stp2 cs cs) cs.length p f
/-- the pair of an entry: with it, without it -/
def prE (cs : List (List Int)) (s : Int) (es : List En) (i : Int) : Pr := (sof cs s es, sof cs s (es.eraseIdx i.toNat))
theorem UP_few (h0 : 0 ≤ n) (hn : n ≤ 8) : (UP n n).length < 100000 := by
  have := len_UP n n
  have h1 : n.toNat ≤ 8 := by omega
  have : n.toNat * n.toNat ≤ 8 * 8 := Nat.mul_le_mul h1 h1
  omega
theorem wp_ed_isrev (h : EdAt S k r (encS n s cs) (rs ++ [eV es]) ops) (hg : GS 8 4 n s cs) (he : EnOk cs.length es) (hl : es.length ≤ 16) (h0 : 0 ≤ i) (h1 : i < es.length) (hq0 : (enA es i).2 = false → Q (.ok (.bl false) S))
    (hq1 : (enA es i).2 = true → ∀ f, SGx n cs (prE cs s es i) f → Q (.ok (.bl (detP n f)) S)) : wpF d_Editor_is_revocable_v2 [.ref k, .int i] S Q := by
  have hm := hg.mem
  have hn1 := hg.lo; have hn8 := hg.hi
  unfold d_Editor_is_revocable_v2
  refine wpF_go rfl ?_
  have ha := enA_at h0 h1
  rw [wpS_seq]
  simp only [List.map, List.replicate, List.cons_append, List.nil_append, List.length_cons, List.length_nil, Nat.reduceAdd, bq_ok, bq_ex, wp_pure, wp_fail, wp_getS, oQ_some, oQ_ite, bqS_ok, bqS_ex, sqS_nx, sqS_rt, sqS_bk, sqS_ct, sqS_ex, wpS_next, wpS_break, wpS_cont, wpS_retN, wpS_setT, stQ_some, wp_C, wp_call, wp_callv, bqF_ok, bqF_ex, wp_new, wp_newv, fqS_nx, fqS_rt, fqS_ex, wpS_for, wp_comp, wp_dVar, vQ_v, vQ_o, List.getElem?_cons_zero, List.getElem?_cons_succ, List.set_cons_zero, List.set_cons_succ, wp_d1, wp_k1, wp_d2, wp_k2, wp_k2b, wp_dT, wp_kT, wp_dTru, wp_kTru, wp_dNotT, wp_kNot, wp_dAndT, wp_kAnd, wp_dOrT, wp_kOr, wp_dAndV, wp_kAndV, wp_kAndVb, wp_dOrV, wp_kOrV, wp_kOrVb, wp_dNotV, wp_kNotV, wp_kNotVb, wp_dIf, wp_kIf, wp_dChain, wp_kCh, wp_kCh2, wp_kCh3, wp_aNil, wp_aCons, wp_kCons, wp_kCons2, wp_dTup, wp_kTup, wp_dLst, wp_kLst, wp_dN, wp_kN, wp_dLs, wp_kLs, wp_lDisp, wp_kDisp, wp_lRng, wp_kRng, wp_dItR, wp_kItR, wp_dItS, wp_kItS, wp_tTrue, wp_oNo, wp_oSome, wp_kSome, wp_dSl, wp_kSl, wp_kSl1, wp_kSl2, ws_ret, ws_kRet, ws_expr, ws_kExpr, ws_if, ws_kIfS, ws_set, ws_kSet, ws_setO, ws_kSetO, ws_kSetT, ws_setR, ws_kSetR0, ws_kSetR1, ws_kSetR2, items_t, items_ft, items_l, items_r, setAll, Bool.not_true, Bool.not_false, if_true, ite_true, ite_false, ↓reduceIte, Bool.false_eq_true, Int.reduceLT, Int.reduceLE, Nat.reduceLT, Nat.reduceLeDiff, Nat.reducePow, Int.reducePow, Int.reduceToNat, Int.reduceNeg, Int.reduceSub, Int.reduceAdd, and_self, and_true, true_and, decide_eq_true_eq, decide_true, decide_false, List.length_map, ixN_31, ixN_32, ixN_30, wipeE, restE, lcQ, Option.getD_some, add_i, add_t, add_l, sub_i, mul_i, mul_t, mul_l, fdiv_i, mod_i, pow_18, neg_i, lt_i, le_i, gt_i, ge_i, eq_i, ne_i, eq_b, len_t, len_ft, len_l, len_r, abs_i, int_i, list_t, list_ft, list_l, list_r, tuple_t, tuple_ft, tuple_l, isi_i, isi_b, isi_s, isi_t, isi_ft, isi_l, isi_r, isi_n, tru_b, tru_i, tru_t, tru_ft, tru_l, tru_n, isN_n, isN_b, isN_i, isN_s, isN_t, isN_l, ix_t, ix_ft, ix_l, ix_r, setS_ref, atI_0, atI_1, atI_2, Option.map_some, Option.map_none, kb0, kb1, kb2, kb3, kb4, kb5, kb6, kb7, kb8, kb9, kb10, kb11, kb12, kb13, kb14, kb15, kb16, kb17, kb18, kb19, kb20, kb21, kb22, kb23, kb24, kb25, kb26, kb27, kb28, kb29, sz0, szl0, sz1, szl1, sz2, szl2, sz3, szl3, sz4, szl4, sz5, szl5, sz6, szl6, sz7, szl7, sz8, szl8, sz9, szl9, sz10, szl10, sz11, szl11, sz12, szl12, sz13, szl13, sz14, szl14, sz15, szl15, sz16, szl16, sz17, szl17, sz18, szl18, sz19, szl19, sz20, szl20, sz21, szl21, sz22, szl22, sz23, szl23, sz24, szl24, sz25, szl25, sz26, szl26, sz27, szl27, sz28, szl28, sz29, szl29, sz30, szl30, sz31, szl31, sz32, szl32, sz33, szl33, sz34, szl34, sz35, szl35, sz36, szl36, sz37, szl37, sz38, szl38, sz39, szl39, sz40, szl40, h.fsys, h.frows, h.last]
  refine wp_state_without hm hg.st he (by omega) h0 h1 ?_
  simp only [List.map, List.replicate, List.cons_append, List.nil_append, List.length_cons, List.length_nil, Nat.reduceAdd, bq_ok, bq_ex, wp_pure, wp_fail, wp_getS, oQ_some, oQ_ite, bqS_ok, bqS_ex, sqS_nx, sqS_rt, sqS_bk, sqS_ct, sqS_ex, wpS_next, wpS_break, wpS_cont, wpS_retN, wpS_setT, stQ_some, wp_C, wp_call, wp_callv, bqF_ok, bqF_ex, wp_new, wp_newv, fqS_nx, fqS_rt, fqS_ex, wpS_for, wp_comp, wp_dVar, vQ_v, vQ_o, List.getElem?_cons_zero, List.getElem?_cons_succ, List.set_cons_zero, List.set_cons_succ, wp_d1, wp_k1, wp_d2, wp_k2, wp_k2b, wp_dT, wp_kT, wp_dTru, wp_kTru, wp_dNotT, wp_kNot, wp_dAndT, wp_kAnd, wp_dOrT, wp_kOr, wp_dAndV, wp_kAndV, wp_kAndVb, wp_dOrV, wp_kOrV, wp_kOrVb, wp_dNotV, wp_kNotV, wp_kNotVb, wp_dIf, wp_kIf, wp_dChain, wp_kCh, wp_kCh2, wp_kCh3, wp_aNil, wp_aCons, wp_kCons, wp_kCons2, wp_dTup, wp_kTup, wp_dLst, wp_kLst, wp_dN, wp_kN, wp_dLs, wp_kLs, wp_lDisp, wp_kDisp, wp_lRng, wp_kRng, wp_dItR, wp_kItR, wp_dItS, wp_kItS, wp_tTrue, wp_oNo, wp_oSome, wp_kSome, wp_dSl, wp_kSl, wp_kSl1, wp_kSl2, ws_ret, ws_kRet, ws_expr, ws_kExpr, ws_if, ws_kIfS, ws_set, ws_kSet, ws_setO, ws_kSetO, ws_kSetT, ws_setR, ws_kSetR0, ws_kSetR1, ws_kSetR2, items_t, items_ft, items_l, items_r, setAll, Bool.not_true, Bool.not_false, if_true, ite_true, ite_false, ↓reduceIte, Bool.false_eq_true, Int.reduceLT, Int.reduceLE, Nat.reduceLT, Nat.reduceLeDiff, Nat.reducePow, Int.reducePow, Int.reduceToNat, Int.reduceNeg, Int.reduceSub, Int.reduceAdd, and_self, and_true, true_and, decide_eq_true_eq, decide_true, decide_false, List.length_map, ixN_31, ixN_32, ixN_30, wipeE, restE, lcQ, Option.getD_some, add_i, add_t, add_l, sub_i, mul_i, mul_t, mul_l, fdiv_i, mod_i, pow_18, neg_i, lt_i, le_i, gt_i, ge_i, eq_i, ne_i, eq_b, len_t, len_ft, len_l, len_r, abs_i, int_i, list_t, list_ft, list_l, list_r, tuple_t, tuple_ft, tuple_l, isi_i, isi_b, isi_s, isi_t, isi_ft, isi_l, isi_r, isi_n, tru_b, tru_i, tru_t, tru_ft, tru_l, tru_n, isN_n, isN_b, isN_i, isN_s, isN_t, isN_l, ix_t, ix_ft, ix_l, ix_r, setS_ref, atI_0, atI_1, atI_2, Option.map_some, Option.map_none, kb0, kb1, kb2, kb3, kb4, kb5, kb6, kb7, kb8, kb9, kb10, kb11, kb12, kb13, kb14, kb15, kb16, kb17, kb18, kb19, kb20, kb21, kb22, kb23, kb24, kb25, kb26, kb27, kb28, kb29, sz0, szl0, sz1, szl1, sz2, szl2, sz3, szl3, sz4, szl4, sz5, szl5, sz6, szl6, sz7, szl7, sz8, szl8, sz9, szl9, sz10, szl10, sz11, szl11, sz12, szl12, sz13, szl13, sz14, szl14, sz15, szl15, sz16, szl16, sz17, szl17, sz18, szl18, sz19, szl19, sz20, szl20, sz21, szl21, sz22, szl22, sz23, szl23, sz24, szl24, sz25, szl25, sz26, szl26, sz27, szl27, sz28, szl28, sz29, szl29, sz30, szl30, sz31, szl31, sz32, szl32, sz33, szl33, sz34, szl34, sz35, szl35, sz36, szl36, sz37, szl37, sz38, szl38, sz39, szl39, sz40, szl40, h.frows, h.last, eV, ha, enE]
  cases hb : (enA es i).2 with
  | false =>
    simp only [List.map, List.replicate, List.cons_append, List.nil_append, List.length_cons, List.length_nil, Nat.reduceAdd, bq_ok, bq_ex, wp_pure, wp_fail, wp_getS, oQ_some, oQ_ite, bqS_ok, bqS_ex, sqS_nx, sqS_rt, sqS_bk, sqS_ct, sqS_ex, wpS_next, wpS_break, wpS_cont, wpS_retN, wpS_setT, stQ_some, wp_C, wp_call, wp_callv, bqF_ok, bqF_ex, wp_new, wp_newv, fqS_nx, fqS_rt, fqS_ex, wpS_for, wp_comp, wp_dVar, vQ_v, vQ_o, List.getElem?_cons_zero, List.getElem?_cons_succ, List.set_cons_zero, List.set_cons_succ, wp_d1, wp_k1, wp_d2, wp_k2, wp_k2b, wp_dT, wp_kT, wp_dTru, wp_kTru, wp_dNotT, wp_kNot, wp_dAndT, wp_kAnd, wp_dOrT, wp_kOr, wp_dAndV, wp_kAndV, wp_kAndVb, wp_dOrV, wp_kOrV, wp_kOrVb, wp_dNotV, wp_kNotV, wp_kNotVb, wp_dIf, wp_kIf, wp_dChain, wp_kCh, wp_kCh2, wp_kCh3, wp_aNil, wp_aCons, wp_kCons, wp_kCons2, wp_dTup, wp_kTup, wp_dLst, wp_kLst, wp_dN, wp_kN, wp_dLs, wp_kLs, wp_lDisp, wp_kDisp, wp_lRng, wp_kRng, wp_dItR, wp_kItR, wp_dItS, wp_kItS, wp_tTrue, wp_oNo, wp_oSome, wp_kSome, wp_dSl, wp_kSl, wp_kSl1, wp_kSl2, ws_ret, ws_kRet, ws_expr, ws_kExpr, ws_if, ws_kIfS, ws_set, ws_kSet, ws_setO, ws_kSetO, ws_kSetT, ws_setR, ws_kSetR0, ws_kSetR1, ws_kSetR2, items_t, items_ft, items_l, items_r, setAll, Bool.not_true, Bool.not_false, if_true, ite_true, ite_false, ↓reduceIte, Bool.false_eq_true, Int.reduceLT, Int.reduceLE, Nat.reduceLT, Nat.reduceLeDiff, Nat.reducePow, Int.reducePow, Int.reduceToNat, Int.reduceNeg, Int.reduceSub, Int.reduceAdd, and_self, and_true, true_and, decide_eq_true_eq, decide_true, decide_false, List.length_map, ixN_31, ixN_32, ixN_30, wipeE, restE, lcQ, Option.getD_some, add_i, add_t, add_l, sub_i, mul_i, mul_t, mul_l, fdiv_i, mod_i, pow_18, neg_i, lt_i, le_i, gt_i, ge_i, eq_i, ne_i, eq_b, len_t, len_ft, len_l, len_r, abs_i, int_i, list_t, list_ft, list_l, list_r, tuple_t, tuple_ft, tuple_l, isi_i, isi_b, isi_s, isi_t, isi_ft, isi_l, isi_r, isi_n, tru_b, tru_i, tru_t, tru_ft, tru_l, tru_n, isN_n, isN_b, isN_i, isN_s, isN_t, isN_l, ix_t, ix_ft, ix_l, ix_r, setS_ref, atI_0, atI_1, atI_2, Option.map_some, Option.map_none, kb0, kb1, kb2, kb3, kb4, kb5, kb6, kb7, kb8, kb9, kb10, kb11, kb12, kb13, kb14, kb15, kb16, kb17, kb18, kb19, kb20, kb21, kb22, kb23, kb24, kb25, kb26, kb27, kb28, kb29, sz0, szl0, sz1, szl1, sz2, szl2, sz3, szl3, sz4, szl4, sz5, szl5, sz6, szl6, sz7, szl7, sz8, szl8, sz9, szl9, sz10, szl10, sz11, szl11, sz12, szl12, sz13, szl13, sz14, szl14, sz15, szl15, sz16, szl16, sz17, szl17, sz18, szl18, sz19, szl19, sz20, szl20, sz21, szl21, sz22, szl22, sz23, szl23, sz24, szl24, sz25, szl25, sz26, szl26, sz27, szl27, sz28, szl28, sz29, szl29, sz30, szl30, sz31, szl31, sz32, szl32, sz33, szl33, sz34, szl34, sz35, szl35, sz36, szl36, sz37, szl37, sz38, szl38, sz39, szl39, sz40, szl40]
    exact hq0 hb
  | true =>
    simp only [List.map, List.replicate, List.cons_append, List.nil_append, List.length_cons, List.length_nil, Nat.reduceAdd, bq_ok, bq_ex, wp_pure, wp_fail, wp_getS, oQ_some, oQ_ite, bqS_ok, bqS_ex, sqS_nx, sqS_rt, sqS_bk, sqS_ct, sqS_ex, wpS_next, wpS_break, wpS_cont, wpS_retN, wpS_setT, stQ_some, wp_C, wp_call, wp_callv, bqF_ok, bqF_ex, wp_new, wp_newv, fqS_nx, fqS_rt, fqS_ex, wpS_for, wp_comp, wp_dVar, vQ_v, vQ_o, List.getElem?_cons_zero, List.getElem?_cons_succ, List.set_cons_zero, List.set_cons_succ, wp_d1, wp_k1, wp_d2, wp_k2, wp_k2b, wp_dT, wp_kT, wp_dTru, wp_kTru, wp_dNotT, wp_kNot, wp_dAndT, wp_kAnd, wp_dOrT, wp_kOr, wp_dAndV, wp_kAndV, wp_kAndVb, wp_dOrV, wp_kOrV, wp_kOrVb, wp_dNotV, wp_kNotV, wp_kNotVb, wp_dIf, wp_kIf, wp_dChain, wp_kCh, wp_kCh2, wp_kCh3, wp_aNil, wp_aCons, wp_kCons, wp_kCons2, wp_dTup, wp_kTup, wp_dLst, wp_kLst, wp_dN, wp_kN, wp_dLs, wp_kLs, wp_lDisp, wp_kDisp, wp_lRng, wp_kRng, wp_dItR, wp_kItR, wp_dItS, wp_kItS, wp_tTrue, wp_oNo, wp_oSome, wp_kSome, wp_dSl, wp_kSl, wp_kSl1, wp_kSl2, ws_ret, ws_kRet, ws_expr, ws_kExpr, ws_if, ws_kIfS, ws_set, ws_kSet, ws_setO, ws_kSetO, ws_kSetT, ws_setR, ws_kSetR0, ws_kSetR1, ws_kSetR2, items_t, items_ft, items_l, items_r, setAll, Bool.not_true, Bool.not_false, if_true, ite_true, ite_false, ↓reduceIte, Bool.false_eq_true, Int.reduceLT, Int.reduceLE, Nat.reduceLT, Nat.reduceLeDiff, Nat.reducePow, Int.reducePow, Int.reduceToNat, Int.reduceNeg, Int.reduceSub, Int.reduceAdd, and_self, and_true, true_and, decide_eq_true_eq, decide_true, decide_false, List.length_map, ixN_31, ixN_32, ixN_30, wipeE, restE, lcQ, Option.getD_some, add_i, add_t, add_l, sub_i, mul_i, mul_t, mul_l, fdiv_i, mod_i, pow_18, neg_i, lt_i, le_i, gt_i, ge_i, eq_i, ne_i, eq_b, len_t, len_ft, len_l, len_r, abs_i, int_i, list_t, list_ft, list_l, list_r, tuple_t, tuple_ft, tuple_l, isi_i, isi_b, isi_s, isi_t, isi_ft, isi_l, isi_r, isi_n, tru_b, tru_i, tru_t, tru_ft, tru_l, tru_n, isN_n, isN_b, isN_i, isN_s, isN_t, isN_l, ix_t, ix_ft, ix_l, ix_r, setS_ref, atI_0, atI_1, atI_2, Option.map_some, Option.map_none, kb0, kb1, kb2, kb3, kb4, kb5, kb6, kb7, kb8, kb9, kb10, kb11, kb12, kb13, kb14, kb15, kb16, kb17, kb18, kb19, kb20, kb21, kb22, kb23, kb24, kb25, kb26, kb27, kb28, kb29, sz0, szl0, sz1, szl1, sz2, szl2, sz3, szl3, sz4, szl4, sz5, szl5, sz6, szl6, sz7, szl7, sz8, szl8, sz9, szl9, sz10, szl10, sz11, szl11, sz12, szl12, sz13, szl13, sz14, szl14, sz15, szl15, sz16, szl16, sz17, szl17, sz18, szl18, sz19, szl19, sz20, szl20, sz21, szl21, sz22, szl22, sz23, szl23, sz24, szl24, sz25, szl25, sz26, szl26, sz27, szl27, sz28, szl28, sz29, szl29, sz30, szl30, sz31, szl31, sz32, szl32, sz33, szl33, sz34, szl34, sz35, szl35, sz36, szl36, sz37, szl37, sz38, szl38, sz39, szl39, sz40, szl40, h.fsys, wp_meth]
    rw [wp_methv h.ins (ed_no (by decide +kernel) (by decide +kernel) (by decide +kernel))]
    simp only [List.map, List.replicate, List.cons_append, List.nil_append, List.length_cons, List.length_nil, Nat.reduceAdd, bq_ok, bq_ex, wp_pure, wp_fail, wp_getS, oQ_some, oQ_ite, bqS_ok, bqS_ex, sqS_nx, sqS_rt, sqS_bk, sqS_ct, sqS_ex, wpS_next, wpS_break, wpS_cont, wpS_retN, wpS_setT, stQ_some, wp_C, wp_call, wp_callv, bqF_ok, bqF_ex, wp_new, wp_newv, fqS_nx, fqS_rt, fqS_ex, wpS_for, wp_comp, wp_dVar, vQ_v, vQ_o, List.getElem?_cons_zero, List.getElem?_cons_succ, List.set_cons_zero, List.set_cons_succ, wp_d1, wp_k1, wp_d2, wp_k2, wp_k2b, wp_dT, wp_kT, wp_dTru, wp_kTru, wp_dNotT, wp_kNot, wp_dAndT, wp_kAnd, wp_dOrT, wp_kOr, wp_dAndV, wp_kAndV, wp_kAndVb, wp_dOrV, wp_kOrV, wp_kOrVb, wp_dNotV, wp_kNotV, wp_kNotVb, wp_dIf, wp_kIf, wp_dChain, wp_kCh, wp_kCh2, wp_kCh3, wp_aNil, wp_aCons, wp_kCons, wp_kCons2, wp_dTup, wp_kTup, wp_dLst, wp_kLst, wp_dN, wp_kN, wp_dLs, wp_kLs, wp_lDisp, wp_kDisp, wp_lRng, wp_kRng, wp_dItR, wp_kItR, wp_dItS, wp_kItS, wp_tTrue, wp_oNo, wp_oSome, wp_kSome, wp_dSl, wp_kSl, wp_kSl1, wp_kSl2, ws_ret, ws_kRet, ws_expr, ws_kExpr, ws_if, ws_kIfS, ws_set, ws_kSet, ws_setO, ws_kSetO, ws_kSetT, ws_setR, ws_kSetR0, ws_kSetR1, ws_kSetR2, items_t, items_ft, items_l, items_r, setAll, Bool.not_true, Bool.not_false, if_true, ite_true, ite_false, ↓reduceIte, Bool.false_eq_true, Int.reduceLT, Int.reduceLE, Nat.reduceLT, Nat.reduceLeDiff, Nat.reducePow, Int.reducePow, Int.reduceToNat, Int.reduceNeg, Int.reduceSub, Int.reduceAdd, and_self, and_true, true_and, decide_eq_true_eq, decide_true, decide_false, List.length_map, ixN_31, ixN_32, ixN_30, wipeE, restE, lcQ, Option.getD_some, add_i, add_t, add_l, sub_i, mul_i, mul_t, mul_l, fdiv_i, mod_i, pow_18, neg_i, lt_i, le_i, gt_i, ge_i, eq_i, ne_i, eq_b, len_t, len_ft, len_l, len_r, abs_i, int_i, list_t, list_ft, list_l, list_r, tuple_t, tuple_ft, tuple_l, isi_i, isi_b, isi_s, isi_t, isi_ft, isi_l, isi_r, isi_n, tru_b, tru_i, tru_t, tru_ft, tru_l, tru_n, isN_n, isN_b, isN_i, isN_s, isN_t, isN_l, ix_t, ix_ft, ix_l, ix_r, setS_ref, atI_0, atI_1, atI_2, Option.map_some, Option.map_none, kb0, kb1, kb2, kb3, kb4, kb5, kb6, kb7, kb8, kb9, kb10, kb11, kb12, kb13, kb14, kb15, kb16, kb17, kb18, kb19, kb20, kb21, kb22, kb23, kb24, kb25, kb26, kb27, kb28, kb29, sz0, szl0, sz1, szl1, sz2, szl2, sz3, szl3, sz4, szl4, sz5, szl5, sz6, szl6, sz7, szl7, sz8, szl8, sz9, szl9, sz10, szl10, sz11, szl11, sz12, szl12, sz13, szl13, sz14, szl14, sz15, szl15, sz16, szl16, sz17, szl17, sz18, szl18, sz19, szl19, sz20, szl20, sz21, szl21, sz22, szl22, sz23, szl23, sz24, szl24, sz25, szl25, sz26, szl26, sz27, szl27, sz28, szl28, sz29, szl29, sz30, szl30, sz31, szl31, sz32, szl32, sz33, szl33, sz34, szl34, sz35, szl35, sz36, szl36, sz37, szl37, sz38, szl38, sz39, szl39, sz40, szl40]
    rw [wp_methB]
    refine wp_ed_state h hm hg.st he (by omega) ?_
    simp only [List.map, List.replicate, List.cons_append, List.nil_append, List.length_cons, List.length_nil, Nat.reduceAdd, bq_ok, bq_ex, wp_pure, wp_fail, wp_getS, oQ_some, oQ_ite, bqS_ok, bqS_ex, sqS_nx, sqS_rt, sqS_bk, sqS_ct, sqS_ex, wpS_next, wpS_break, wpS_cont, wpS_retN, wpS_setT, stQ_some, wp_C, wp_call, wp_callv, bqF_ok, bqF_ex, wp_new, wp_newv, fqS_nx, fqS_rt, fqS_ex, wpS_for, wp_comp, wp_dVar, vQ_v, vQ_o, List.getElem?_cons_zero, List.getElem?_cons_succ, List.set_cons_zero, List.set_cons_succ, wp_d1, wp_k1, wp_d2, wp_k2, wp_k2b, wp_dT, wp_kT, wp_dTru, wp_kTru, wp_dNotT, wp_kNot, wp_dAndT, wp_kAnd, wp_dOrT, wp_kOr, wp_dAndV, wp_kAndV, wp_kAndVb, wp_dOrV, wp_kOrV, wp_kOrVb, wp_dNotV, wp_kNotV, wp_kNotVb, wp_dIf, wp_kIf, wp_dChain, wp_kCh, wp_kCh2, wp_kCh3, wp_aNil, wp_aCons, wp_kCons, wp_kCons2, wp_dTup, wp_kTup, wp_dLst, wp_kLst, wp_dN, wp_kN, wp_dLs, wp_kLs, wp_lDisp, wp_kDisp, wp_lRng, wp_kRng, wp_dItR, wp_kItR, wp_dItS, wp_kItS, wp_tTrue, wp_oNo, wp_oSome, wp_kSome, wp_dSl, wp_kSl, wp_kSl1, wp_kSl2, ws_ret, ws_kRet, ws_expr, ws_kExpr, ws_if, ws_kIfS, ws_set, ws_kSet, ws_setO, ws_kSetO, ws_kSetT, ws_setR, ws_kSetR0, ws_kSetR1, ws_kSetR2, items_t, items_ft, items_l, items_r, setAll, Bool.not_true, Bool.not_false, if_true, ite_true, ite_false, ↓reduceIte, Bool.false_eq_true, Int.reduceLT, Int.reduceLE, Nat.reduceLT, Nat.reduceLeDiff, Nat.reducePow, Int.reducePow, Int.reduceToNat, Int.reduceNeg, Int.reduceSub, Int.reduceAdd, and_self, and_true, true_and, decide_eq_true_eq, decide_true, decide_false, List.length_map, ixN_31, ixN_32, ixN_30, wipeE, restE, lcQ, Option.getD_some, add_i, add_t, add_l, sub_i, mul_i, mul_t, mul_l, fdiv_i, mod_i, pow_18, neg_i, lt_i, le_i, gt_i, ge_i, eq_i, ne_i, eq_b, len_t, len_ft, len_l, len_r, abs_i, int_i, list_t, list_ft, list_l, list_r, tuple_t, tuple_ft, tuple_l, isi_i, isi_b, isi_s, isi_t, isi_ft, isi_l, isi_r, isi_n, tru_b, tru_i, tru_t, tru_ft, tru_l, tru_n, isN_n, isN_b, isN_i, isN_s, isN_t, isN_l, ix_t, ix_ft, ix_l, ix_r, setS_ref, atI_0, atI_1, atI_2, Option.map_some, Option.map_none, kb0, kb1, kb2, kb3, kb4, kb5, kb6, kb7, kb8, kb9, kb10, kb11, kb12, kb13, kb14, kb15, kb16, kb17, kb18, kb19, kb20, kb21, kb22, kb23, kb24, kb25, kb26, kb27, kb28, kb29, sz0, szl0, sz1, szl1, sz2, szl2, sz3, szl3, sz4, szl4, sz5, szl5, sz6, szl6, sz7, szl7, sz8, szl8, sz9, szl9, sz10, szl10, sz11, szl11, sz12, szl12, sz13, szl13, sz14, szl14, sz15, szl15, sz16, szl16, sz17, szl17, sz18, szl18, sz19, szl19, sz20, szl20, sz21, szl21, sz22, szl22, sz23, szl23, sz24, szl24, sz25, szl25, sz26, szl26, sz27, szl27, sz28, szl28, sz29, szl29, sz30, szl30, sz31, szl31, sz32, szl32, sz33, szl33, sz34, szl34, sz35, szl35, sz36, szl36, sz37, szl37, sz38, szl38, sz39, szl39, sz40, szl40]
    refine wp_determines hm (by have := hg.len; omega) (by omega) (UP_few (by omega) hn8) (sof_in hm es hg.st he) (sof_in hm _ hg.st (he.erase _)) fun f hf => ?_
    simp only [List.map, List.replicate, List.cons_append, List.nil_append, List.length_cons, List.length_nil, Nat.reduceAdd, bq_ok, bq_ex, wp_pure, wp_fail, wp_getS, oQ_some, oQ_ite, bqS_ok, bqS_ex, sqS_nx, sqS_rt, sqS_bk, sqS_ct, sqS_ex, wpS_next, wpS_break, wpS_cont, wpS_retN, wpS_setT, stQ_some, wp_C, wp_call, wp_callv, bqF_ok, bqF_ex, wp_new, wp_newv, fqS_nx, fqS_rt, fqS_ex, wpS_for, wp_comp, wp_dVar, vQ_v, vQ_o, List.getElem?_cons_zero, List.getElem?_cons_succ, List.set_cons_zero, List.set_cons_succ, wp_d1, wp_k1, wp_d2, wp_k2, wp_k2b, wp_dT, wp_kT, wp_dTru, wp_kTru, wp_dNotT, wp_kNot, wp_dAndT, wp_kAnd, wp_dOrT, wp_kOr, wp_dAndV, wp_kAndV, wp_kAndVb, wp_dOrV, wp_kOrV, wp_kOrVb, wp_dNotV, wp_kNotV, wp_kNotVb, wp_dIf, wp_kIf, wp_dChain, wp_kCh, wp_kCh2, wp_kCh3, wp_aNil, wp_aCons, wp_kCons, wp_kCons2, wp_dTup, wp_kTup, wp_dLst, wp_kLst, wp_dN, wp_kN, wp_dLs, wp_kLs, wp_lDisp, wp_kDisp, wp_lRng, wp_kRng, wp_dItR, wp_kItR, wp_dItS, wp_kItS, wp_tTrue, wp_oNo, wp_oSome, wp_kSome, wp_dSl, wp_kSl, wp_kSl1, wp_kSl2, ws_ret, ws_kRet, ws_expr, ws_kExpr, ws_if, ws_kIfS, ws_set, ws_kSet, ws_setO, ws_kSetO, ws_kSetT, ws_setR, ws_kSetR0, ws_kSetR1, ws_kSetR2, items_t, items_ft, items_l, items_r, setAll, Bool.not_true, Bool.not_false, if_true, ite_true, ite_false, ↓reduceIte, Bool.false_eq_true, Int.reduceLT, Int.reduceLE, Nat.reduceLT, Nat.reduceLeDiff, Nat.reducePow, Int.reducePow, Int.reduceToNat, Int.reduceNeg, Int.reduceSub, Int.reduceAdd, and_self, and_true, true_and, decide_eq_true_eq, decide_true, decide_false, List.length_map, ixN_31, ixN_32, ixN_30, wipeE, restE, lcQ, Option.getD_some, add_i, add_t, add_l, sub_i, mul_i, mul_t, mul_l, fdiv_i, mod_i, pow_18, neg_i, lt_i, le_i, gt_i, ge_i, eq_i, ne_i, eq_b, len_t, len_ft, len_l, len_r, abs_i, int_i, list_t, list_ft, list_l, list_r, tuple_t, tuple_ft, tuple_l, isi_i, isi_b, isi_s, isi_t, isi_ft, isi_l, isi_r, isi_n, tru_b, tru_i, tru_t, tru_ft, tru_l, tru_n, isN_n, isN_b, isN_i, isN_s, isN_t, isN_l, ix_t, ix_ft, ix_l, ix_r, setS_ref, atI_0, atI_1, atI_2, Option.map_some, Option.map_none, kb0, kb1, kb2, kb3, kb4, kb5, kb6, kb7, kb8, kb9, kb10, kb11, kb12, kb13, kb14, kb15, kb16, kb17, kb18, kb19, kb20, kb21, kb22, kb23, kb24, kb25, kb26, kb27, kb28, kb29, sz0, szl0, sz1, szl1, sz2, szl2, sz3, szl3, sz4, szl4, sz5, szl5, sz6, szl6, sz7, szl7, sz8, szl8, sz9, szl9, sz10, szl10, sz11, szl11, sz12, szl12, sz13, szl13, sz14, szl14, sz15, szl15, sz16, szl16, sz17, szl17, sz18, szl18, sz19, szl19, sz20, szl20, sz21, szl21, sz22, szl22, sz23, szl23, sz24, szl24, sz25, szl25, sz26, szl26, sz27, szl27, sz28, szl28, sz29, szl29, sz30, szl30, sz31, szl31, sz32, szl32, sz33, szl33, sz34, szl34, sz35, szl35, sz36, szl36, sz37, szl37, sz38, szl38, sz39, szl39, sz40, szl40]
    exact hq1 hb f hf
theorem wp_ed_table (h : EdAt S k r (encS n s cs) (rs ++ [eV es]) ops) (hg : GS 8 4 n s cs) (he : EnOk cs.length es) (hl : es.length ≤ 16) (h0 : 0 ≤ i) (h1 : i < es.length) (hq0 : (enA es i).2 = false → Q (.ok .non S))
    (hq1 : (enA es i).2 = true → ∀ f, SGx n cs (prE cs s es i) f → Q (.ok (tblP n f) S)) : wpF d_Editor_table_v2 [.ref k, .int i] S Q := by
  have hm := hg.mem
  have hn1 := hg.lo; have hn8 := hg.hi
  unfold d_Editor_table_v2
  refine wpF_go rfl ?_
  rw [wpS_seq]
  simp only [List.map, List.replicate, List.cons_append, List.nil_append, List.length_cons, List.length_nil, Nat.reduceAdd, bq_ok, bq_ex, wp_pure, wp_fail, wp_getS, oQ_some, oQ_ite, bqS_ok, bqS_ex, sqS_nx, sqS_rt, sqS_bk, sqS_ct, sqS_ex, wpS_next, wpS_break, wpS_cont, wpS_retN, wpS_setT, stQ_some, wp_C, wp_call, wp_callv, bqF_ok, bqF_ex, wp_new, wp_newv, fqS_nx, fqS_rt, fqS_ex, wpS_for, wp_comp, wp_dVar, vQ_v, vQ_o, List.getElem?_cons_zero, List.getElem?_cons_succ, List.set_cons_zero, List.set_cons_succ, wp_d1, wp_k1, wp_d2, wp_k2, wp_k2b, wp_dT, wp_kT, wp_dTru, wp_kTru, wp_dNotT, wp_kNot, wp_dAndT, wp_kAnd, wp_dOrT, wp_kOr, wp_dAndV, wp_kAndV, wp_kAndVb, wp_dOrV, wp_kOrV, wp_kOrVb, wp_dNotV, wp_kNotV, wp_kNotVb, wp_dIf, wp_kIf, wp_dChain, wp_kCh, wp_kCh2, wp_kCh3, wp_aNil, wp_aCons, wp_kCons, wp_kCons2, wp_dTup, wp_kTup, wp_dLst, wp_kLst, wp_dN, wp_kN, wp_dLs, wp_kLs, wp_lDisp, wp_kDisp, wp_lRng, wp_kRng, wp_dItR, wp_kItR, wp_dItS, wp_kItS, wp_tTrue, wp_oNo, wp_oSome, wp_kSome, wp_dSl, wp_kSl, wp_kSl1, wp_kSl2, ws_ret, ws_kRet, ws_expr, ws_kExpr, ws_if, ws_kIfS, ws_set, ws_kSet, ws_setO, ws_kSetO, ws_kSetT, ws_setR, ws_kSetR0, ws_kSetR1, ws_kSetR2, items_t, items_ft, items_l, items_r, setAll, Bool.not_true, Bool.not_false, if_true, ite_true, ite_false, ↓reduceIte, Bool.false_eq_true, Int.reduceLT, Int.reduceLE, Nat.reduceLT, Nat.reduceLeDiff, Nat.reducePow, Int.reducePow, Int.reduceToNat, Int.reduceNeg, Int.reduceSub, Int.reduceAdd, and_self, and_true, true_and, decide_eq_true_eq, decide_true, decide_false, List.length_map, ixN_31, ixN_32, ixN_30, wipeE, restE, lcQ, Option.getD_some, add_i, add_t, add_l, sub_i, mul_i, mul_t, mul_l, fdiv_i, mod_i, pow_18, neg_i, lt_i, le_i, gt_i, ge_i, eq_i, ne_i, eq_b, len_t, len_ft, len_l, len_r, abs_i, int_i, list_t, list_ft, list_l, list_r, tuple_t, tuple_ft, tuple_l, isi_i, isi_b, isi_s, isi_t, isi_ft, isi_l, isi_r, isi_n, tru_b, tru_i, tru_t, tru_ft, tru_l, tru_n, isN_n, isN_b, isN_i, isN_s, isN_t, isN_l, ix_t, ix_ft, ix_l, ix_r, setS_ref, atI_0, atI_1, atI_2, Option.map_some, Option.map_none, kb0, kb1, kb2, kb3, kb4, kb5, kb6, kb7, kb8, kb9, kb10, kb11, kb12, kb13, kb14, kb15, kb16, kb17, kb18, kb19, kb20, kb21, kb22, kb23, kb24, kb25, kb26, kb27, kb28, kb29, sz0, szl0, sz1, szl1, sz2, szl2, sz3, szl3, sz4, szl4, sz5, szl5, sz6, szl6, sz7, szl7, sz8, szl8, sz9, szl9, sz10, szl10, sz11, szl11, sz12, szl12, sz13, szl13, sz14, szl14, sz15, szl15, sz16, szl16, sz17, szl17, sz18, szl18, sz19, szl19, sz20, szl20, sz21, szl21, sz22, szl22, sz23, szl23, sz24, szl24, sz25, szl25, sz26, szl26, sz27, szl27, sz28, szl28, sz29, szl29, sz30, szl30, sz31, szl31, sz32, szl32, sz33, szl33, sz34, szl34, sz35, szl35, sz36, szl36, sz37, szl37, sz38, szl38, sz39, szl39, sz40, szl40, wp_meth]
  rw [wp_methv h.ins (ed_no (by decide +kernel) (by decide +kernel) (by decide +kernel))]
  simp only [List.map, List.replicate, List.cons_append, List.nil_append, List.length_cons, List.length_nil, Nat.reduceAdd, bq_ok, bq_ex, wp_pure, wp_fail, wp_getS, oQ_some, oQ_ite, bqS_ok, bqS_ex, sqS_nx, sqS_rt, sqS_bk, sqS_ct, sqS_ex, wpS_next, wpS_break, wpS_cont, wpS_retN, wpS_setT, stQ_some, wp_C, wp_call, wp_callv, bqF_ok, bqF_ex, wp_new, wp_newv, fqS_nx, fqS_rt, fqS_ex, wpS_for, wp_comp, wp_dVar, vQ_v, vQ_o, List.getElem?_cons_zero, List.getElem?_cons_succ, List.set_cons_zero, List.set_cons_succ, wp_d1, wp_k1, wp_d2, wp_k2, wp_k2b, wp_dT, wp_kT, wp_dTru, wp_kTru, wp_dNotT, wp_kNot, wp_dAndT, wp_kAnd, wp_dOrT, wp_kOr, wp_dAndV, wp_kAndV, wp_kAndVb, wp_dOrV, wp_kOrV, wp_kOrVb, wp_dNotV, wp_kNotV, wp_kNotVb, wp_dIf, wp_kIf, wp_dChain, wp_kCh, wp_kCh2, wp_kCh3, wp_aNil, wp_aCons, wp_kCons, wp_kCons2, wp_dTup, wp_kTup, wp_dLst, wp_kLst, wp_dN, wp_kN, wp_dLs, wp_kLs, wp_lDisp, wp_kDisp, wp_lRng, wp_kRng, wp_dItR, wp_kItR, wp_dItS, wp_kItS, wp_tTrue, wp_oNo, wp_oSome, wp_kSome, wp_dSl, wp_kSl, wp_kSl1, wp_kSl2, ws_ret, ws_kRet, ws_expr, ws_kExpr, ws_if, ws_kIfS, ws_set, ws_kSet, ws_setO, ws_kSetO, ws_kSetT, ws_setR, ws_kSetR0, ws_kSetR1, ws_kSetR2, items_t, items_ft, items_l, items_r, setAll, Bool.not_true, Bool.not_false, if_true, ite_true, ite_false, ↓reduceIte, Bool.false_eq_true, Int.reduceLT, Int.reduceLE, Nat.reduceLT, Nat.reduceLeDiff, Nat.reducePow, Int.reducePow, Int.reduceToNat, Int.reduceNeg, Int.reduceSub, Int.reduceAdd, and_self, and_true, true_and, decide_eq_true_eq, decide_true, decide_false, List.length_map, ixN_31, ixN_32, ixN_30, wipeE, restE, lcQ, Option.getD_some, add_i, add_t, add_l, sub_i, mul_i, mul_t, mul_l, fdiv_i, mod_i, pow_18, neg_i, lt_i, le_i, gt_i, ge_i, eq_i, ne_i, eq_b, len_t, len_ft, len_l, len_r, abs_i, int_i, list_t, list_ft, list_l, list_r, tuple_t, tuple_ft, tuple_l, isi_i, isi_b, isi_s, isi_t, isi_ft, isi_l, isi_r, isi_n, tru_b, tru_i, tru_t, tru_ft, tru_l, tru_n, isN_n, isN_b, isN_i, isN_s, isN_t, isN_l, ix_t, ix_ft, ix_l, ix_r, setS_ref, atI_0, atI_1, atI_2, Option.map_some, Option.map_none, kb0, kb1, kb2, kb3, kb4, kb5, kb6, kb7, kb8, kb9, kb10, kb11, kb12, kb13, kb14, kb15, kb16, kb17, kb18, kb19, kb20, kb21, kb22, kb23, kb24, kb25, kb26, kb27, kb28, kb29, sz0, szl0, sz1, szl1, sz2, szl2, sz3, szl3, sz4, szl4, sz5, szl5, sz6, szl6, sz7, szl7, sz8, szl8, sz9, szl9, sz10, szl10, sz11, szl11, sz12, szl12, sz13, szl13, sz14, szl14, sz15, szl15, sz16, szl16, sz17, szl17, sz18, szl18, sz19, szl19, sz20, szl20, sz21, szl21, sz22, szl22, sz23, szl23, sz24, szl24, sz25, szl25, sz26, szl26, sz27, szl27, sz28, szl28, sz29, szl29, sz30, szl30, sz31, szl31, sz32, szl32, sz33, szl33, sz34, szl34, sz35, szl35, sz36, szl36, sz37, szl37, sz38, szl38, sz39, szl39, sz40, szl40]
  rw [wp_methB]
  refine wp_ed_without h hm hg.st he hl h0 h1 ?_
  simp only [List.map, List.replicate, List.cons_append, List.nil_append, List.length_cons, List.length_nil, Nat.reduceAdd, bq_ok, bq_ex, wp_pure, wp_fail, wp_getS, oQ_some, oQ_ite, bqS_ok, bqS_ex, sqS_nx, sqS_rt, sqS_bk, sqS_ct, sqS_ex, wpS_next, wpS_break, wpS_cont, wpS_retN, wpS_setT, stQ_some, wp_C, wp_call, wp_callv, bqF_ok, bqF_ex, wp_new, wp_newv, fqS_nx, fqS_rt, fqS_ex, wpS_for, wp_comp, wp_dVar, vQ_v, vQ_o, List.getElem?_cons_zero, List.getElem?_cons_succ, List.set_cons_zero, List.set_cons_succ, wp_d1, wp_k1, wp_d2, wp_k2, wp_k2b, wp_dT, wp_kT, wp_dTru, wp_kTru, wp_dNotT, wp_kNot, wp_dAndT, wp_kAnd, wp_dOrT, wp_kOr, wp_dAndV, wp_kAndV, wp_kAndVb, wp_dOrV, wp_kOrV, wp_kOrVb, wp_dNotV, wp_kNotV, wp_kNotVb, wp_dIf, wp_kIf, wp_dChain, wp_kCh, wp_kCh2, wp_kCh3, wp_aNil, wp_aCons, wp_kCons, wp_kCons2, wp_dTup, wp_kTup, wp_dLst, wp_kLst, wp_dN, wp_kN, wp_dLs, wp_kLs, wp_lDisp, wp_kDisp, wp_lRng, wp_kRng, wp_dItR, wp_kItR, wp_dItS, wp_kItS, wp_tTrue, wp_oNo, wp_oSome, wp_kSome, wp_dSl, wp_kSl, wp_kSl1, wp_kSl2, ws_ret, ws_kRet, ws_expr, ws_kExpr, ws_if, ws_kIfS, ws_set, ws_kSet, ws_setO, ws_kSetO, ws_kSetT, ws_setR, ws_kSetR0, ws_kSetR1, ws_kSetR2, items_t, items_ft, items_l, items_r, setAll, Bool.not_true, Bool.not_false, if_true, ite_true, ite_false, ↓reduceIte, Bool.false_eq_true, Int.reduceLT, Int.reduceLE, Nat.reduceLT, Nat.reduceLeDiff, Nat.reducePow, Int.reducePow, Int.reduceToNat, Int.reduceNeg, Int.reduceSub, Int.reduceAdd, and_self, and_true, true_and, decide_eq_true_eq, decide_true, decide_false, List.length_map, ixN_31, ixN_32, ixN_30, wipeE, restE, lcQ, Option.getD_some, add_i, add_t, add_l, sub_i, mul_i, mul_t, mul_l, fdiv_i, mod_i, pow_18, neg_i, lt_i, le_i, gt_i, ge_i, eq_i, ne_i, eq_b, len_t, len_ft, len_l, len_r, abs_i, int_i, list_t, list_ft, list_l, list_r, tuple_t, tuple_ft, tuple_l, isi_i, isi_b, isi_s, isi_t, isi_ft, isi_l, isi_r, isi_n, tru_b, tru_i, tru_t, tru_ft, tru_l, tru_n, isN_n, isN_b, isN_i, isN_s, isN_t, isN_l, ix_t, ix_ft, ix_l, ix_r, setS_ref, atI_0, atI_1, atI_2, Option.map_some, Option.map_none, kb0, kb1, kb2, kb3, kb4, kb5, kb6, kb7, kb8, kb9, kb10, kb11, kb12, kb13, kb14, kb15, kb16, kb17, kb18, kb19, kb20, kb21, kb22, kb23, kb24, kb25, kb26, kb27, kb28, kb29, sz0, szl0, sz1, szl1, sz2, szl2, sz3, szl3, sz4, szl4, sz5, szl5, sz6, szl6, sz7, szl7, sz8, szl8, sz9, szl9, sz10, szl10, sz11, szl11, sz12, szl12, sz13, szl13, sz14, szl14, sz15, szl15, sz16, szl16, sz17, szl17, sz18, szl18, sz19, szl19, sz20, szl20, sz21, szl21, sz22, szl22, sz23, szl23, sz24, szl24, sz25, szl25, sz26, szl26, sz27, szl27, sz28, szl28, sz29, szl29, sz30, szl30, sz31, szl31, sz32, szl32, sz33, szl33, sz34, szl34, sz35, szl35, sz36, szl36, sz37, szl37, sz38, szl38, sz39, szl39, sz40, szl40, wp_meth]
  rw [wp_methv h.ins (ed_no (by decide +kernel) (by decide +kernel) (by decide +kernel))]
  simp only [List.map, List.replicate, List.cons_append, List.nil_append, List.length_cons, List.length_nil, Nat.reduceAdd, bq_ok, bq_ex, wp_pure, wp_fail, wp_getS, oQ_some, oQ_ite, bqS_ok, bqS_ex, sqS_nx, sqS_rt, sqS_bk, sqS_ct, sqS_ex, wpS_next, wpS_break, wpS_cont, wpS_retN, wpS_setT, stQ_some, wp_C, wp_call, wp_callv, bqF_ok, bqF_ex, wp_new, wp_newv, fqS_nx, fqS_rt, fqS_ex, wpS_for, wp_comp, wp_dVar, vQ_v, vQ_o, List.getElem?_cons_zero, List.getElem?_cons_succ, List.set_cons_zero, List.set_cons_succ, wp_d1, wp_k1, wp_d2, wp_k2, wp_k2b, wp_dT, wp_kT, wp_dTru, wp_kTru, wp_dNotT, wp_kNot, wp_dAndT, wp_kAnd, wp_dOrT, wp_kOr, wp_dAndV, wp_kAndV, wp_kAndVb, wp_dOrV, wp_kOrV, wp_kOrVb, wp_dNotV, wp_kNotV, wp_kNotVb, wp_dIf, wp_kIf, wp_dChain, wp_kCh, wp_kCh2, wp_kCh3, wp_aNil, wp_aCons, wp_kCons, wp_kCons2, wp_dTup, wp_kTup, wp_dLst, wp_kLst, wp_dN, wp_kN, wp_dLs, wp_kLs, wp_lDisp, wp_kDisp, wp_lRng, wp_kRng, wp_dItR, wp_kItR, wp_dItS, wp_kItS, wp_tTrue, wp_oNo, wp_oSome, wp_kSome, wp_dSl, wp_kSl, wp_kSl1, wp_kSl2, ws_ret, ws_kRet, ws_expr, ws_kExpr, ws_if, ws_kIfS, ws_set, ws_kSet, ws_setO, ws_kSetO, ws_kSetT, ws_setR, ws_kSetR0, ws_kSetR1, ws_kSetR2, items_t, items_ft, items_l, items_r, setAll, Bool.not_true, Bool.not_false, if_true, ite_true, ite_false, ↓reduceIte, Bool.false_eq_true, Int.reduceLT, Int.reduceLE, Nat.reduceLT, Nat.reduceLeDiff, Nat.reducePow, Int.reducePow, Int.reduceToNat, Int.reduceNeg, Int.reduceSub, Int.reduceAdd, and_self, and_true, true_and, decide_eq_true_eq, decide_true, decide_false, List.length_map, ixN_31, ixN_32, ixN_30, wipeE, restE, lcQ, Option.getD_some, add_i, add_t, add_l, sub_i, mul_i, mul_t, mul_l, fdiv_i, mod_i, pow_18, neg_i, lt_i, le_i, gt_i, ge_i, eq_i, ne_i, eq_b, len_t, len_ft, len_l, len_r, abs_i, int_i, list_t, list_ft, list_l, list_r, tuple_t, tuple_ft, tuple_l, isi_i, isi_b, isi_s, isi_t, isi_ft, isi_l, isi_r, isi_n, tru_b, tru_i, tru_t, tru_ft, tru_l, tru_n, isN_n, isN_b, isN_i, isN_s, isN_t, isN_l, ix_t, ix_ft, ix_l, ix_r, setS_ref, atI_0, atI_1, atI_2, Option.map_some, Option.map_none, kb0, kb1, kb2, kb3, kb4, kb5, kb6, kb7, kb8, kb9, kb10, kb11, kb12, kb13, kb14, kb15, kb16, kb17, kb18, kb19, kb20, kb21, kb22, kb23, kb24, kb25, kb26, kb27, kb28, kb29, sz0, szl0, sz1, szl1, sz2, szl2, sz3, szl3, sz4, szl4, sz5, szl5, sz6, szl6, sz7, szl7, sz8, szl8, sz9, szl9, sz10, szl10, sz11, szl11, sz12, szl12, sz13, szl13, sz14, szl14, sz15, szl15, sz16, szl16, sz17, szl17, sz18, szl18, sz19, szl19, sz20, szl20, sz21, szl21, sz22, szl22, sz23, szl23, sz24, szl24, sz25, szl25, sz26, szl26, sz27, szl27, sz28, szl28, sz29, szl29, sz30, szl30, sz31, szl31, sz32, szl32, sz33, szl33, sz34, szl34, sz35, szl35, sz36, szl36, sz37, szl37, sz38, szl38, sz39, szl39, sz40, szl40]
  rw [wp_methB]
  refine wp_ed_isrev h hg he hl h0 h1 (fun hb => ?_) fun hb f hf => ?_
  · simp only [List.map, List.replicate, List.cons_append, List.nil_append, List.length_cons, List.length_nil, Nat.reduceAdd, bq_ok, bq_ex, wp_pure, wp_fail, wp_getS, oQ_some, oQ_ite, bqS_ok, bqS_ex, sqS_nx, sqS_rt, sqS_bk, sqS_ct, sqS_ex, wpS_next, wpS_break, wpS_cont, wpS_retN, wpS_setT, stQ_some, wp_C, wp_call, wp_callv, bqF_ok, bqF_ex, wp_new, wp_newv, fqS_nx, fqS_rt, fqS_ex, wpS_for, wp_comp, wp_dVar, vQ_v, vQ_o, List.getElem?_cons_zero, List.getElem?_cons_succ, List.set_cons_zero, List.set_cons_succ, wp_d1, wp_k1, wp_d2, wp_k2, wp_k2b, wp_dT, wp_kT, wp_dTru, wp_kTru, wp_dNotT, wp_kNot, wp_dAndT, wp_kAnd, wp_dOrT, wp_kOr, wp_dAndV, wp_kAndV, wp_kAndVb, wp_dOrV, wp_kOrV, wp_kOrVb, wp_dNotV, wp_kNotV, wp_kNotVb, wp_dIf, wp_kIf, wp_dChain, wp_kCh, wp_kCh2, wp_kCh3, wp_aNil, wp_aCons, wp_kCons, wp_kCons2, wp_dTup, wp_kTup, wp_dLst, wp_kLst, wp_dN, wp_kN, wp_dLs, wp_kLs, wp_lDisp, wp_kDisp, wp_lRng, wp_kRng, wp_dItR, wp_kItR, wp_dItS, wp_kItS, wp_tTrue, wp_oNo, wp_oSome, wp_kSome, wp_dSl, wp_kSl, wp_kSl1, wp_kSl2, ws_ret, ws_kRet, ws_expr, ws_kExpr, ws_if, ws_kIfS, ws_set, ws_kSet, ws_setO, ws_kSetO, ws_kSetT, ws_setR, ws_kSetR0, ws_kSetR1, ws_kSetR2, items_t, items_ft, items_l, items_r, setAll, Bool.not_true, Bool.not_false, if_true, ite_true, ite_false, ↓reduceIte, Bool.false_eq_true, Int.reduceLT, Int.reduceLE, Nat.reduceLT, Nat.reduceLeDiff, Nat.reducePow, Int.reducePow, Int.reduceToNat, Int.reduceNeg, Int.reduceSub, Int.reduceAdd, and_self, and_true, true_and, decide_eq_true_eq, decide_true, decide_false, List.length_map, ixN_31, ixN_32, ixN_30, wipeE, restE, lcQ, Option.getD_some, add_i, add_t, add_l, sub_i, mul_i, mul_t, mul_l, fdiv_i, mod_i, pow_18, neg_i, lt_i, le_i, gt_i, ge_i, eq_i, ne_i, eq_b, len_t, len_ft, len_l, len_r, abs_i, int_i, list_t, list_ft, list_l, list_r, tuple_t, tuple_ft, tuple_l, isi_i, isi_b, isi_s, isi_t, isi_ft, isi_l, isi_r, isi_n, tru_b, tru_i, tru_t, tru_ft, tru_l, tru_n, isN_n, isN_b, isN_i, isN_s, isN_t, isN_l, ix_t, ix_ft, ix_l, ix_r, setS_ref, atI_0, atI_1, atI_2, Option.map_some, Option.map_none, kb0, kb1, kb2, kb3, kb4, kb5, kb6, kb7, kb8, kb9, kb10, kb11, kb12, kb13, kb14, kb15, kb16, kb17, kb18, kb19, kb20, kb21, kb22, kb23, kb24, kb25, kb26, kb27, kb28, kb29, sz0, szl0, sz1, szl1, sz2, szl2, sz3, szl3, sz4, szl4, sz5, szl5, sz6, szl6, sz7, szl7, sz8, szl8, sz9, szl9, sz10, szl10, sz11, szl11, sz12, szl12, sz13, szl13, sz14, szl14, sz15, szl15, sz16, szl16, sz17, szl17, sz18, szl18, sz19, szl19, sz20, szl20, sz21, szl21, sz22, szl22, sz23, szl23, sz24, szl24, sz25, szl25, sz26, szl26, sz27, szl27, sz28, szl28, sz29, szl29, sz30, szl30, sz31, szl31, sz32, szl32, sz33, szl33, sz34, szl34, sz35, szl35, sz36, szl36, sz37, szl37, sz38, szl38, sz39, szl39, sz40, szl40]
    exact hq0 hb
  · have hq := hq1 hb f hf
    cases hd : detP n f with
    | false =>
      simp only [List.map, List.replicate, List.cons_append, List.nil_append, List.length_cons, List.length_nil, Nat.reduceAdd, bq_ok, bq_ex, wp_pure, wp_fail, wp_getS, oQ_some, oQ_ite, bqS_ok, bqS_ex, sqS_nx, sqS_rt, sqS_bk, sqS_ct, sqS_ex, wpS_next, wpS_break, wpS_cont, wpS_retN, wpS_setT, stQ_some, wp_C, wp_call, wp_callv, bqF_ok, bqF_ex, wp_new, wp_newv, fqS_nx, fqS_rt, fqS_ex, wpS_for, wp_comp, wp_dVar, vQ_v, vQ_o, List.getElem?_cons_zero, List.getElem?_cons_succ, List.set_cons_zero, List.set_cons_succ, wp_d1, wp_k1, wp_d2, wp_k2, wp_k2b, wp_dT, wp_kT, wp_dTru, wp_kTru, wp_dNotT, wp_kNot, wp_dAndT, wp_kAnd, wp_dOrT, wp_kOr, wp_dAndV, wp_kAndV, wp_kAndVb, wp_dOrV, wp_kOrV, wp_kOrVb, wp_dNotV, wp_kNotV, wp_kNotVb, wp_dIf, wp_kIf, wp_dChain, wp_kCh, wp_kCh2, wp_kCh3, wp_aNil, wp_aCons, wp_kCons, wp_kCons2, wp_dTup, wp_kTup, wp_dLst, wp_kLst, wp_dN, wp_kN, wp_dLs, wp_kLs, wp_lDisp, wp_kDisp, wp_lRng, wp_kRng, wp_dItR, wp_kItR, wp_dItS, wp_kItS, wp_tTrue, wp_oNo, wp_oSome, wp_kSome, wp_dSl, wp_kSl, wp_kSl1, wp_kSl2, ws_ret, ws_kRet, ws_expr, ws_kExpr, ws_if, ws_kIfS, ws_set, ws_kSet, ws_setO, ws_kSetO, ws_kSetT, ws_setR, ws_kSetR0, ws_kSetR1, ws_kSetR2, items_t, items_ft, items_l, items_r, setAll, Bool.not_true, Bool.not_false, if_true, ite_true, ite_false, ↓reduceIte, Bool.false_eq_true, Int.reduceLT, Int.reduceLE, Nat.reduceLT, Nat.reduceLeDiff, Nat.reducePow, Int.reducePow, Int.reduceToNat, Int.reduceNeg, Int.reduceSub, Int.reduceAdd, and_self, and_true, true_and, decide_eq_true_eq, decide_true, decide_false, List.length_map, ixN_31, ixN_32, ixN_30, wipeE, restE, lcQ, Option.getD_some, add_i, add_t, add_l, sub_i, mul_i, mul_t, mul_l, fdiv_i, mod_i, pow_18, neg_i, lt_i, le_i, gt_i, ge_i, eq_i, ne_i, eq_b, len_t, len_ft, len_l, len_r, abs_i, int_i, list_t, list_ft, list_l, list_r, tuple_t, tuple_ft, tuple_l, isi_i, isi_b, isi_s, isi_t, isi_ft, isi_l, isi_r, isi_n, tru_b, tru_i, tru_t, tru_ft, tru_l, tru_n, isN_n, isN_b, isN_i, isN_s, isN_t, isN_l, ix_t, ix_ft, ix_l, ix_r, setS_ref, atI_0, atI_1, atI_2, Option.map_some, Option.map_none, kb0, kb1, kb2, kb3, kb4, kb5, kb6, kb7, kb8, kb9, kb10, kb11, kb12, kb13, kb14, kb15, kb16, kb17, kb18, kb19, kb20, kb21, kb22, kb23, kb24, kb25, kb26, kb27, kb28, kb29, sz0, szl0, sz1, szl1, sz2, szl2, sz3, szl3, sz4, szl4, sz5, szl5, sz6, szl6, sz7, szl7, sz8, szl8, sz9, szl9, sz10, szl10, sz11, szl11, sz12, szl12, sz13, szl13, sz14, szl14, sz15, szl15, sz16, szl16, sz17, szl17, sz18, szl18, sz19, szl19, sz20, szl20, sz21, szl21, sz22, szl22, sz23, szl23, sz24, szl24, sz25, szl25, sz26, szl26, sz27, szl27, sz28, szl28, sz29, szl29, sz30, szl30, sz31, szl31, sz32, szl32, sz33, szl33, sz34, szl34, sz35, szl35, sz36, szl36, sz37, szl37, sz38, szl38, sz39, szl39, sz40, szl40]
      unfold tblP at hq
      rw [hd] at hq
      exact hq
    | true =>
      simp only [List.map, List.replicate, List.cons_append, List.nil_append, List.length_cons, List.length_nil, Nat.reduceAdd, bq_ok, bq_ex, wp_pure, wp_fail, wp_getS, oQ_some, oQ_ite, bqS_ok, bqS_ex, sqS_nx, sqS_rt, sqS_bk, sqS_ct, sqS_ex, wpS_next, wpS_break, wpS_cont, wpS_retN, wpS_setT, stQ_some, wp_C, wp_call, wp_callv, bqF_ok, bqF_ex, wp_new, wp_newv, fqS_nx, fqS_rt, fqS_ex, wpS_for, wp_comp, wp_dVar, vQ_v, vQ_o, List.getElem?_cons_zero, List.getElem?_cons_succ, List.set_cons_zero, List.set_cons_succ, wp_d1, wp_k1, wp_d2, wp_k2, wp_k2b, wp_dT, wp_kT, wp_dTru, wp_kTru, wp_dNotT, wp_kNot, wp_dAndT, wp_kAnd, wp_dOrT, wp_kOr, wp_dAndV, wp_kAndV, wp_kAndVb, wp_dOrV, wp_kOrV, wp_kOrVb, wp_dNotV, wp_kNotV, wp_kNotVb, wp_dIf, wp_kIf, wp_dChain, wp_kCh, wp_kCh2, wp_kCh3, wp_aNil, wp_aCons, wp_kCons, wp_kCons2, wp_dTup, wp_kTup, wp_dLst, wp_kLst, wp_dN, wp_kN, wp_dLs, wp_kLs, wp_lDisp, wp_kDisp, wp_lRng, wp_kRng, wp_dItR, wp_kItR, wp_dItS, wp_kItS, wp_tTrue, wp_oNo, wp_oSome, wp_kSome, wp_dSl, wp_kSl, wp_kSl1, wp_kSl2, ws_ret, ws_kRet, ws_expr, ws_kExpr, ws_if, ws_kIfS, ws_set, ws_kSet, ws_setO, ws_kSetO, ws_kSetT, ws_setR, ws_kSetR0, ws_kSetR1, ws_kSetR2, items_t, items_ft, items_l, items_r, setAll, Bool.not_true, Bool.not_false, if_true, ite_true, ite_false, ↓reduceIte, Bool.false_eq_true, Int.reduceLT, Int.reduceLE, Nat.reduceLT, Nat.reduceLeDiff, Nat.reducePow, Int.reducePow, Int.reduceToNat, Int.reduceNeg, Int.reduceSub, Int.reduceAdd, and_self, and_true, true_and, decide_eq_true_eq, decide_true, decide_false, List.length_map, ixN_31, ixN_32, ixN_30, wipeE, restE, lcQ, Option.getD_some, add_i, add_t, add_l, sub_i, mul_i, mul_t, mul_l, fdiv_i, mod_i, pow_18, neg_i, lt_i, le_i, gt_i, ge_i, eq_i, ne_i, eq_b, len_t, len_ft, len_l, len_r, abs_i, int_i, list_t, list_ft, list_l, list_r, tuple_t, tuple_ft, tuple_l, isi_i, isi_b, isi_s, isi_t, isi_ft, isi_l, isi_r, isi_n, tru_b, tru_i, tru_t, tru_ft, tru_l, tru_n, isN_n, isN_b, isN_i, isN_s, isN_t, isN_l, ix_t, ix_ft, ix_l, ix_r, setS_ref, atI_0, atI_1, atI_2, Option.map_some, Option.map_none, kb0, kb1, kb2, kb3, kb4, kb5, kb6, kb7, kb8, kb9, kb10, kb11, kb12, kb13, kb14, kb15, kb16, kb17, kb18, kb19, kb20, kb21, kb22, kb23, kb24, kb25, kb26, kb27, kb28, kb29, sz0, szl0, sz1, szl1, sz2, szl2, sz3, szl3, sz4, szl4, sz5, szl5, sz6, szl6, sz7, szl7, sz8, szl8, sz9, szl9, sz10, szl10, sz11, szl11, sz12, szl12, sz13, szl13, sz14, szl14, sz15, szl15, sz16, szl16, sz17, szl17, sz18, szl18, sz19, szl19, sz20, szl20, sz21, szl21, sz22, szl22, sz23, szl23, sz24, szl24, sz25, szl25, sz26, szl26, sz27, szl27, sz28, szl28, sz29, szl29, sz30, szl30, sz31, szl31, sz32, szl32, sz33, szl33, sz34, szl34, sz35, szl35, sz36, szl36, sz37, szl37, sz38, szl38, sz39, szl39, sz40, szl40, h.fsys, wp_meth]
      rw [wp_methv h.ins (ed_no (by decide +kernel) (by decide +kernel) (by decide +kernel))]
      simp only [List.map, List.replicate, List.cons_append, List.nil_append, List.length_cons, List.length_nil, Nat.reduceAdd, bq_ok, bq_ex, wp_pure, wp_fail, wp_getS, oQ_some, oQ_ite, bqS_ok, bqS_ex, sqS_nx, sqS_rt, sqS_bk, sqS_ct, sqS_ex, wpS_next, wpS_break, wpS_cont, wpS_retN, wpS_setT, stQ_some, wp_C, wp_call, wp_callv, bqF_ok, bqF_ex, wp_new, wp_newv, fqS_nx, fqS_rt, fqS_ex, wpS_for, wp_comp, wp_dVar, vQ_v, vQ_o, List.getElem?_cons_zero, List.getElem?_cons_succ, List.set_cons_zero, List.set_cons_succ, wp_d1, wp_k1, wp_d2, wp_k2, wp_k2b, wp_dT, wp_kT, wp_dTru, wp_kTru, wp_dNotT, wp_kNot, wp_dAndT, wp_kAnd, wp_dOrT, wp_kOr, wp_dAndV, wp_kAndV, wp_kAndVb, wp_dOrV, wp_kOrV, wp_kOrVb, wp_dNotV, wp_kNotV, wp_kNotVb, wp_dIf, wp_kIf, wp_dChain, wp_kCh, wp_kCh2, wp_kCh3, wp_aNil, wp_aCons, wp_kCons, wp_kCons2, wp_dTup, wp_kTup, wp_dLst, wp_kLst, wp_dN, wp_kN, wp_dLs, wp_kLs, wp_lDisp, wp_kDisp, wp_lRng, wp_kRng, wp_dItR, wp_kItR, wp_dItS, wp_kItS, wp_tTrue, wp_oNo, wp_oSome, wp_kSome, wp_dSl, wp_kSl, wp_kSl1, wp_kSl2, ws_ret, ws_kRet, ws_expr, ws_kExpr, ws_if, ws_kIfS, ws_set, ws_kSet, ws_setO, ws_kSetO, ws_kSetT, ws_setR, ws_kSetR0, ws_kSetR1, ws_kSetR2, items_t, items_ft, items_l, items_r, setAll, Bool.not_true, Bool.not_false, if_true, ite_true, ite_false, ↓reduceIte, Bool.false_eq_true, Int.reduceLT, Int.reduceLE, Nat.reduceLT, Nat.reduceLeDiff, Nat.reducePow, Int.reducePow, Int.reduceToNat, Int.reduceNeg, Int.reduceSub, Int.reduceAdd, and_self, and_true, true_and, decide_eq_true_eq, decide_true, decide_false, List.length_map, ixN_31, ixN_32, ixN_30, wipeE, restE, lcQ, Option.getD_some, add_i, add_t, add_l, sub_i, mul_i, mul_t, mul_l, fdiv_i, mod_i, pow_18, neg_i, lt_i, le_i, gt_i, ge_i, eq_i, ne_i, eq_b, len_t, len_ft, len_l, len_r, abs_i, int_i, list_t, list_ft, list_l, list_r, tuple_t, tuple_ft, tuple_l, isi_i, isi_b, isi_s, isi_t, isi_ft, isi_l, isi_r, isi_n, tru_b, tru_i, tru_t, tru_ft, tru_l, tru_n, isN_n, isN_b, isN_i, isN_s, isN_t, isN_l, ix_t, ix_ft, ix_l, ix_r, setS_ref, atI_0, atI_1, atI_2, Option.map_some, Option.map_none, kb0, kb1, kb2, kb3, kb4, kb5, kb6, kb7, kb8, kb9, kb10, kb11, kb12, kb13, kb14, kb15, kb16, kb17, kb18, kb19, kb20, kb21, kb22, kb23, kb24, kb25, kb26, kb27, kb28, kb29, sz0, szl0, sz1, szl1, sz2, szl2, sz3, szl3, sz4, szl4, sz5, szl5, sz6, szl6, sz7, szl7, sz8, szl8, sz9, szl9, sz10, szl10, sz11, szl11, sz12, szl12, sz13, szl13, sz14, szl14, sz15, szl15, sz16, szl16, sz17, szl17, sz18, szl18, sz19, szl19, sz20, szl20, sz21, szl21, sz22, szl22, sz23, szl23, sz24, szl24, sz25, szl25, sz26, szl26, sz27, szl27, sz28, szl28, sz29, szl29, sz30, szl30, sz31, szl31, sz32, szl32, sz33, szl33, sz34, szl34, sz35, szl35, sz36, szl36, sz37, szl37, sz38, szl38, sz39, szl39, sz40, szl40]
      rw [wp_methB]
      refine wp_ed_state h hm hg.st he (by omega) ?_
      simp only [List.map, List.replicate, List.cons_append, List.nil_append, List.length_cons, List.length_nil, Nat.reduceAdd, bq_ok, bq_ex, wp_pure, wp_fail, wp_getS, oQ_some, oQ_ite, bqS_ok, bqS_ex, sqS_nx, sqS_rt, sqS_bk, sqS_ct, sqS_ex, wpS_next, wpS_break, wpS_cont, wpS_retN, wpS_setT, stQ_some, wp_C, wp_call, wp_callv, bqF_ok, bqF_ex, wp_new, wp_newv, fqS_nx, fqS_rt, fqS_ex, wpS_for, wp_comp, wp_dVar, vQ_v, vQ_o, List.getElem?_cons_zero, List.getElem?_cons_succ, List.set_cons_zero, List.set_cons_succ, wp_d1, wp_k1, wp_d2, wp_k2, wp_k2b, wp_dT, wp_kT, wp_dTru, wp_kTru, wp_dNotT, wp_kNot, wp_dAndT, wp_kAnd, wp_dOrT, wp_kOr, wp_dAndV, wp_kAndV, wp_kAndVb, wp_dOrV, wp_kOrV, wp_kOrVb, wp_dNotV, wp_kNotV, wp_kNotVb, wp_dIf, wp_kIf, wp_dChain, wp_kCh, wp_kCh2, wp_kCh3, wp_aNil, wp_aCons, wp_kCons, wp_kCons2, wp_dTup, wp_kTup, wp_dLst, wp_kLst, wp_dN, wp_kN, wp_dLs, wp_kLs, wp_lDisp, wp_kDisp, wp_lRng, wp_kRng, wp_dItR, wp_kItR, wp_dItS, wp_kItS, wp_tTrue, wp_oNo, wp_oSome, wp_kSome, wp_dSl, wp_kSl, wp_kSl1, wp_kSl2, ws_ret, ws_kRet, ws_expr, ws_kExpr, ws_if, ws_kIfS, ws_set, ws_kSet, ws_setO, ws_kSetO, ws_kSetT, ws_setR, ws_kSetR0, ws_kSetR1, ws_kSetR2, items_t, items_ft, items_l, items_r, setAll, Bool.not_true, Bool.not_false, if_true, ite_true, ite_false, ↓reduceIte, Bool.false_eq_true, Int.reduceLT, Int.reduceLE, Nat.reduceLT, Nat.reduceLeDiff, Nat.reducePow, Int.reducePow, Int.reduceToNat, Int.reduceNeg, Int.reduceSub, Int.reduceAdd, and_self, and_true, true_and, decide_eq_true_eq, decide_true, decide_false, List.length_map, ixN_31, ixN_32, ixN_30, wipeE, restE, lcQ, Option.getD_some, add_i, add_t, add_l, sub_i, mul_i, mul_t, mul_l, fdiv_i, mod_i, pow_18, neg_i, lt_i, le_i, gt_i, ge_i, eq_i, ne_i, eq_b, len_t, len_ft, len_l, len_r, abs_i, int_i, list_t, list_ft, list_l, list_r, tuple_t, tuple_ft, tuple_l, isi_i, isi_b, isi_s, isi_t, isi_ft, isi_l, isi_r, isi_n, tru_b, tru_i, tru_t, tru_ft, tru_l, tru_n, isN_n, isN_b, isN_i, isN_s, isN_t, isN_l, ix_t, ix_ft, ix_l, ix_r, setS_ref, atI_0, atI_1, atI_2, Option.map_some, Option.map_none, kb0, kb1, kb2, kb3, kb4, kb5, kb6, kb7, kb8, kb9, kb10, kb11, kb12, kb13, kb14, kb15, kb16, kb17, kb18, kb19, kb20, kb21, kb22, kb23, kb24, kb25, kb26, kb27, kb28, kb29, sz0, szl0, sz1, szl1, sz2, szl2, sz3, szl3, sz4, szl4, sz5, szl5, sz6, szl6, sz7, szl7, sz8, szl8, sz9, szl9, sz10, szl10, sz11, szl11, sz12, szl12, sz13, szl13, sz14, szl14, sz15, szl15, sz16, szl16, sz17, szl17, sz18, szl18, sz19, szl19, sz20, szl20, sz21, szl21, sz22, szl22, sz23, szl23, sz24, szl24, sz25, szl25, sz26, szl26, sz27, szl27, sz28, szl28, sz29, szl29, sz30, szl30, sz31, szl31, sz32, szl32, sz33, szl33, sz34, szl34, sz35, szl35, sz36, szl36, sz37, szl37, sz38, szl38, sz39, szl39, sz40, szl40]
      refine wp_table_for hm (by have := hg.len; omega) (by omega) (UP_few (by omega) hn8) (sof_in hm es hg.st he) (sof_in hm _ hg.st (he.erase _)) fun g hgg => ?_
      obtain rfl := hf.det hgg.bg
      unfold tblP at hq ⊢
      rw [hd, if_pos rfl] at hq ⊢
      unfold tblA at hq ⊢
      simp only [List.replicate, List.cons_append, List.nil_append, List.length_cons, List.length_nil, Nat.reduceAdd, bq_ok, bq_ex, wp_pure, wp_fail, wp_getS, oQ_some, oQ_ite, bqS_ok, bqS_ex, sqS_nx, sqS_rt, sqS_bk, sqS_ct, sqS_ex, wpS_next, wpS_break, wpS_cont, wpS_retN, wpS_setT, stQ_some, wp_C, wp_call, wp_callv, bqF_ok, bqF_ex, wp_new, wp_newv, fqS_nx, fqS_rt, fqS_ex, wpS_for, wp_comp, wp_dVar, vQ_v, vQ_o, List.getElem?_cons_zero, List.getElem?_cons_succ, List.set_cons_zero, List.set_cons_succ, wp_d1, wp_k1, wp_d2, wp_k2, wp_k2b, wp_dT, wp_kT, wp_dTru, wp_kTru, wp_dNotT, wp_kNot, wp_dAndT, wp_kAnd, wp_dOrT, wp_kOr, wp_dAndV, wp_kAndV, wp_kAndVb, wp_dOrV, wp_kOrV, wp_kOrVb, wp_dNotV, wp_kNotV, wp_kNotVb, wp_dIf, wp_kIf, wp_dChain, wp_kCh, wp_kCh2, wp_kCh3, wp_aNil, wp_aCons, wp_kCons, wp_kCons2, wp_dTup, wp_kTup, wp_dLst, wp_kLst, wp_dN, wp_kN, wp_dLs, wp_kLs, wp_lDisp, wp_kDisp, wp_lRng, wp_kRng, wp_dItR, wp_kItR, wp_dItS, wp_kItS, wp_tTrue, wp_oNo, wp_oSome, wp_kSome, wp_dSl, wp_kSl, wp_kSl1, wp_kSl2, ws_ret, ws_kRet, ws_expr, ws_kExpr, ws_if, ws_kIfS, ws_set, ws_kSet, ws_setO, ws_kSetO, ws_kSetT, ws_setR, ws_kSetR0, ws_kSetR1, ws_kSetR2, items_t, items_ft, items_l, items_r, setAll, Bool.not_true, Bool.not_false, if_true, ite_true, ite_false, ↓reduceIte, Bool.false_eq_true, Int.reduceLT, Int.reduceLE, Nat.reduceLT, Nat.reduceLeDiff, Nat.reducePow, Int.reducePow, Int.reduceToNat, Int.reduceNeg, Int.reduceSub, Int.reduceAdd, and_self, and_true, true_and, decide_eq_true_eq, decide_true, decide_false, List.length_map, ixN_31, ixN_32, ixN_30, wipeE, restE, lcQ, Option.getD_some, add_i, add_t, add_l, sub_i, mul_i, mul_t, mul_l, fdiv_i, mod_i, pow_18, neg_i, lt_i, le_i, gt_i, ge_i, eq_i, ne_i, eq_b, len_t, len_ft, len_l, len_r, abs_i, int_i, list_t, list_ft, list_l, list_r, tuple_t, tuple_ft, tuple_l, isi_i, isi_b, isi_s, isi_t, isi_ft, isi_l, isi_r, isi_n, tru_b, tru_i, tru_t, tru_ft, tru_l, tru_n, isN_n, isN_b, isN_i, isN_s, isN_t, isN_l, ix_t, ix_ft, ix_l, ix_r, setS_ref, atI_0, atI_1, atI_2, Option.map_some, Option.map_none, kb0, kb1, kb2, kb3, kb4, kb5, kb6, kb7, kb8, kb9, kb10, kb11, kb12, kb13, kb14, kb15, kb16, kb17, kb18, kb19, kb20, kb21, kb22, kb23, kb24, kb25, kb26, kb27, kb28, kb29, sz0, szl0, sz1, szl1, sz2, szl2, sz3, szl3, sz4, szl4, sz5, szl5, sz6, szl6, sz7, szl7, sz8, szl8, sz9, szl9, sz10, szl10, sz11, szl11, sz12, szl12, sz13, szl13, sz14, szl14, sz15, szl15, sz16, szl16, sz17, szl17, sz18, szl18, sz19, szl19, sz20, szl20, sz21, szl21, sz22, szl22, sz23, szl23, sz24, szl24, sz25, szl25, sz26, szl26, sz27, szl27, sz28, szl28, sz29, szl29, sz30, szl30, sz31, szl31, sz32, szl32, sz33, szl33, sz34, szl34, sz35, szl35, sz36, szl36, sz37, szl37, sz38, szl38, sz39, szl39, sz40, szl40]
      exact hq
end
end Dn
end
section
set_option Elab.async false
set_option linter.all false
set_option maxRecDepth 100000
set_option maxHeartbeats 1000000
namespace Dn
open PySem L2 PyProof
def QT78 : OutF → Prop := fun o => ∃ S', o = .ok (.bl true) S'
def sysQ : PV := .tup [.int 3, .int 0, .tup [.tup [.int 1, .int 2, .int 0], .tup [.int 0, .int 2, .int 1]]]
def exQ (c : Int) : PV := .tup [.str "execute", .int c]
def rvQ (c : Int) : PV := .tup [.str "revoke", .int c]
def rsQ (c : Int) : PV := .tup [.str "restore", .int c]
def insI : SO := .ins "Editor" []
def edQ (r : Nat) (ops : List PV) : SO := .ins "Editor" (edF sysQ r ops)
def rowsQ (k : Nat) : List PV := (List.range (k + 1)).map fun i => eV (List.replicate i (0, true))
def rowQ (k : Nat) : SO := .lst (rowsQ k)
def C0 : Stor := [insI, insI, edQ 4 [], rowQ 0, insI, insI, edQ 8 [], rowQ 0]
def C3 : Stor := C0 ++ [edQ 10 [], rowQ 0, edQ 12 (List.replicate 16 (exQ 0)), rowQ 16, edQ 14 (List.replicate 16 (exQ 0)), rowQ 16]
def C4 : Stor := C3 ++ [edQ 16 [], rowQ 0]
def C5 : Stor := C3 ++ [edQ 16 (List.replicate 16 (exQ 0)), rowQ 16]
def b1Q : List PV := [eV (List.replicate 15 (0, true) ++ [(0, false)]), eV ((0, false) :: List.replicate 14 (0, true) ++ [(0, false)]), eV ((0, false) :: List.replicate 15 (0, true))]
def C6 : Stor := C3 ++ [edQ 16 (List.replicate 16 (exQ 0) ++ [rvQ 15, rvQ 0, rsQ 15]), .lst (rowsQ 16 ++ b1Q)]
def C7 : Stor := C3 ++ [edQ 16 (List.replicate 16 (exQ 0) ++ [rvQ 15, rvQ 0, rsQ 15, rsQ 0]), .lst (rowsQ 16 ++ b1Q ++ [eV (List.replicate 16 (0, true))])]
def wrQ0 : List PV := [.non, .lst [.int 3, .int 0, .tup [.tup [.int 1, .int 2, .int 0], .tup [.int 0, .int 2, .int 1]]], .tup [.int 3, .int 0], .tup [.int 0, .int 0, .tup []], .tup [.int 9, .int 0, .tup []], .tup [.int 3, .int 3, .tup []], .tup [.bl true, .int 0, .tup []], .tup [.int 3, .int 0, .lst [.tup [.int 0, .int 1, .int 2]]]]
def wrQ : List PV := wrQ0 ++ [.tup [.int 3, .int 0, .tup [.tup [.int 0, .int 1]]], .tup [.int 3, .int 0, .tup [.tup [.int 0, .int 1, .int 3]]], .tup [.int 3, .int 0, .tup [.tup [.int 0, .int 1, .bl true]]], .tup [.int 2, .int 0, .tup (List.replicate 5 (.tup [.int 0, .int 1]))]]
def opQ0 : List PV := [.non, .tup [], .tup [.str "execute"], exQ 2, exQ (-1), .tup [.str "execute", .bl true], .tup [.str "execute", .non], .tup [.str "execute", .int 0, .int 0], .lst [.str "execute", .int 0], .str "execute"]
def opQ : List PV := opQ0 ++ [.tup [.str "revoke"], rvQ 16, rvQ (-1), .tup [.str "revoke", .bl false], rsQ 16, .tup [.str "restore", .str "0"], .tup [.str "Execute", .int 0], .tup [.non, .int 0]]
def noQ : List PV := [.int (-1), .int 16, .bl true, .non, .str "0"]
def joQ (op : PV) : List PV := [.non, .lst [exQ 0], .tup [exQ 0, op, exQ 0], .tup [op], .tup [exQ 0, op], .tup (List.replicate 21 (exQ 0))]
def pairQ : List PV := [.tup [rvQ 0, .int 0], .tup [rsQ 0, .int 1]]
def recQ : PV := .tup [exQ 0, .int 1]
def oddQ (op : PV) : List PV := [.non, .lst [], .tup [.non], .tup [exQ 0], .tup [.tup [op, .int 1]], .tup [.tup [exQ 0, .int 1, .int 0]], .lst [recQ], .tup [.tup [exQ 0, .int 2]], .tup [.tup [exQ 0, .bl true]], .tup [.tup [rvQ 0, .int 0]], .tup (recQ :: (List.replicate 10 pairQ).flatten)]
def E78 (sc : PV) (s3 s4 s5 s6 s7 s8 s9 s10 s11 s12 s13 s14 s15 s16 : Slot) : DEnv := [.v sc, .v (.ref 0), .v sysQ, s3, s4, s5, s6, s7, s8, s9, s10, s11, s12, s13, s14, s15, s16]
theorem wpS_at {d : DS} {e e' : DEnv} {S S' : Stor} {Q : OutS → Prop} (h : d e S = .nx e' S') (hq : Q (.nx e' S')) : wpS d e S Q := by unfold wpS; rw [h]; exact hq
section
variable {x : SO} {sc op j y : PV} {s3 s4 s5 s6 s7 s8 s9 s10 s11 s12 s13 s14 s15 s16 : Slot}
theorem q_s2 : d_law_k78_s2 (E78 sc s3 s4 s5 s6 s7 s8 s9 s10 s11 s12 s13 s14 s15 s16) [x] = .nx (E78 sc (.v (.lst wrQ0)) s4 s5 s6 s7 s8 s9 s10 s11 s12 s13 s14 s15 s16) [x] := by kernel_rfl
theorem q_s3 : d_law_k78_s3 (E78 sc (.v (.lst wrQ0)) s4 s5 s6 s7 s8 s9 s10 s11 s12 s13 s14 s15 s16) [x] = .nx (E78 sc (.v (.lst wrQ)) s4 s5 s6 s7 s8 s9 s10 s11 s12 s13 s14 s15 s16) [x] := by kernel_rfl
theorem q_s5 : d_law_k78_s5 (E78 sc s3 s4 s5 s6 s7 s8 s9 s10 s11 s12 s13 s14 s15 s16) [x] = .nx (E78 sc s3 s4 (.v (.lst opQ0)) s6 s7 s8 s9 s10 s11 s12 s13 s14 s15 s16) [x] := by kernel_rfl
theorem q_s6 : d_law_k78_s6 (E78 sc s3 s4 (.v (.lst opQ0)) s6 s7 s8 s9 s10 s11 s12 s13 s14 s15 s16) [x] = .nx (E78 sc s3 s4 (.v (.lst opQ)) s6 s7 s8 s9 s10 s11 s12 s13 s14 s15 s16) [x] := by kernel_rfl
theorem q_s8 : d_law_k78_s8 (E78 sc s3 s4 s5 s6 s7 s8 s9 s10 s11 s12 s13 s14 s15 s16) [x] = .nx (E78 sc s3 s4 s5 s6 (.v (exQ 0)) s8 s9 s10 s11 s12 s13 s14 s15 s16) [x] := by kernel_rfl
theorem q_s10 : ∀ ns ∈ wrQ, d_law_k78_s10 (E78 sc s3 (.v ns) s5 s6 s7 (.v j) .un s10 s11 s12 s13 s14 s15 s16) [x] = .nx (E78 sc s3 (.v ns) s5 s6 s7 (.v j) (.v (.int 2)) s10 s11 s12 s13 s14 s15 s16) (x :: C0) := by
  intro ns h
  unfold wrQ wrQ0 at h
  simp only [List.cons_append, List.nil_append, List.mem_cons, List.not_mem_nil, or_false] at h
  rcases h with rfl | rfl | rfl | rfl | rfl | rfl | rfl | rfl | rfl | rfl | rfl | rfl <;> kernel_rfl
theorem q_j : ∀ op ∈ opQ, ∀ j ∈ joQ op, d__law_told_v19 [.int 1, sysQ, j] (x :: C0) = .ok (.str "journal") (x :: (C0 ++ [edQ 10 [], rowQ 0])) := by
  intro op h j hj
  unfold opQ opQ0 at h
  simp only [List.cons_append, List.nil_append, List.mem_cons, List.not_mem_nil, or_false] at h
  unfold joQ at hj
  simp only [List.mem_cons, List.not_mem_nil, or_false] at hj
  rcases h with rfl | rfl | rfl | rfl | rfl | rfl | rfl | rfl | rfl | rfl | rfl | rfl | rfl | rfl | rfl | rfl | rfl | rfl <;> rcases hj with rfl | rfl | rfl | rfl | rfl | rfl <;> kernel_rfl
theorem q_11b : d__law_told_v19 [.int 1, sysQ, .tup (List.replicate 16 (exQ 0))] (x :: (C0 ++ [edQ 10 [], rowQ 0])) = .ok (.str "") (x :: (C0 ++ [edQ 10 [], rowQ 0, edQ 12 (List.replicate 16 (exQ 0)), rowQ 16])) := by kernel_rfl
theorem q_11c : d__law_told_v19 [.int 1, sysQ, .tup (List.replicate 17 (exQ 0))] (x :: (C0 ++ [edQ 10 [], rowQ 0, edQ 12 (List.replicate 16 (exQ 0)), rowQ 16])) = .ok (.tup [.str "full"]) (x :: C3) := by kernel_rfl
theorem q_s12 : d_law_k78_s12 (E78 sc s3 s4 s5 s6 s7 s8 s9 .un s11 s12 s13 s14 s15 s16) (x :: C3) = .nx (E78 sc s3 s4 s5 s6 s7 s8 s9 (.v (.ref 15)) s11 s12 s13 s14 s15 s16) (x :: C4) := by kernel_rfl
theorem q_s14 : ∀ y ∈ noQ, d_law_k78_s14 (E78 sc s3 s4 s5 s6 s7 s8 s9 (.v (.ref 15)) (.v y) s12 s13 s14 s15 s16) (x :: C4) = .nx (E78 sc s3 s4 s5 s6 s7 s8 (.v (.int 5)) (.v (.ref 15)) (.v y) s12 s13 s14 s15 s16) (x :: C4) := by
  intro y h
  unfold noQ at h
  simp only [List.mem_cons, List.not_mem_nil, or_false] at h
  rcases h with rfl | rfl | rfl | rfl | rfl <;> kernel_rfl
theorem q_s15 : ∀ op ∈ opQ, d_law_k78_s15 (E78 sc s3 s4 s5 (.v op) s7 s8 s9 (.v (.ref 15)) s11 s12 s13 s14 s15 s16) (x :: C4) = .nx (E78 sc s3 s4 s5 (.v op) s7 s8 s9 (.v (.ref 15)) s11 s12 s13 s14 s15 s16) (x :: C4) := by
  intro op h
  unfold opQ opQ0 at h
  simp only [List.cons_append, List.nil_append, List.mem_cons, List.not_mem_nil, or_false] at h
  rcases h with rfl | rfl | rfl | rfl | rfl | rfl | rfl | rfl | rfl | rfl | rfl | rfl | rfl | rfl | rfl | rfl | rfl | rfl <;> kernel_rfl
theorem q_s16 : ∀ op ∈ opQ, d_law_k78_s16 (E78 sc s3 s4 s5 (.v op) (.v (exQ 0)) s8 s9 (.v (.ref 15)) s11 .un s13 s14 s15 s16) (x :: C4) = .nx (E78 sc s3 s4 s5 (.v op) (.v (exQ 0)) s8 s9 (.v (.ref 15)) s11 (.v (.int 15)) s13 s14 s15 s16) (x :: C5) := by
  intro op h
  unfold opQ opQ0 at h
  simp only [List.cons_append, List.nil_append, List.mem_cons, List.not_mem_nil, or_false] at h
  rcases h with rfl | rfl | rfl | rfl | rfl | rfl | rfl | rfl | rfl | rfl | rfl | rfl | rfl | rfl | rfl | rfl | rfl | rfl <;> kernel_rfl
theorem q_s17 : d_law_k78_s17 (E78 sc s3 s4 s5 s6 s7 s8 s9 (.v (.ref 15)) s11 s12 s13 s14 s15 s16) (x :: C5) = .nx (E78 sc s3 s4 s5 s6 s7 s8 s9 (.v (.ref 15)) s11 s12 s13 s14 s15 s16) (x :: C5) := by kernel_rfl
theorem q_s18 : d_law_k78_s18 (E78 sc s3 s4 s5 s6 s7 s8 s9 (.v (.ref 15)) s11 s12 s13 s14 s15 s16) (x :: C5) = .nx (E78 sc s3 s4 s5 s6 s7 s8 s9 (.v (.ref 15)) s11 s12 s13 s14 s15 s16) (x :: C6) := by kernel_rfl
theorem q_s19 : d_law_k78_s19 (E78 sc s3 s4 s5 s6 s7 s8 s9 (.v (.ref 15)) s11 s12 s13 s14 s15 s16) (x :: C6) = .nx (E78 sc s3 s4 s5 s6 s7 s8 s9 (.v (.ref 15)) s11 s12 s13 s14 s15 s16) (x :: C7) := by kernel_rfl
theorem q_s20 : ∀ op ∈ opQ, d_law_k78_s20 (E78 sc s3 s4 s5 (.v op) (.v (exQ 0)) s8 s9 (.v (.ref 15)) s11 s12 s13 s14 s15 s16) (x :: C7) = .nx (E78 sc s3 s4 s5 (.v op) (.v (exQ 0)) s8 s9 (.v (.ref 15)) s11 s12 s13 s14 s15 s16) (x :: C7) := by
  intro op h
  unfold opQ opQ0 at h
  simp only [List.cons_append, List.nil_append, List.mem_cons, List.not_mem_nil, or_false] at h
  rcases h with rfl | rfl | rfl | rfl | rfl | rfl | rfl | rfl | rfl | rfl | rfl | rfl | rfl | rfl | rfl | rfl | rfl | rfl <;> kernel_rfl
theorem q_21a : d__law_told_v19 [.int 4, .ref 15, .int 15] (x :: C7) = .ok (.str "") (x :: C7) := by kernel_rfl
theorem q_21c : ∀ y ∈ noQ, d__law_told_v19 [.int 4, .ref 15, y] (x :: C7) = .ok (.str "entry") (x :: C7) := by
  intro y h
  unfold noQ at h
  simp only [List.mem_cons, List.not_mem_nil, or_false] at h
  rcases h with rfl | rfl | rfl | rfl | rfl <;> kernel_rfl
theorem q_s22 : d_law_k78_s22 (E78 sc s3 s4 s5 s6 (.v (exQ 0)) s8 s9 s10 s11 s12 s13 s14 s15 s16) (x :: C7) = .nx (E78 sc s3 s4 s5 s6 (.v (exQ 0)) s8 s9 s10 s11 s12 (.v recQ) s14 s15 s16) (x :: C7) := by kernel_rfl
theorem q_s23 : d_law_k78_s23 (E78 sc s3 s4 s5 s6 s7 s8 s9 s10 s11 s12 s13 s14 s15 s16) (x :: C7) = .nx (E78 sc s3 s4 s5 s6 s7 s8 s9 s10 s11 s12 s13 (.v (.tup pairQ)) s15 s16) (x :: C7) := by kernel_rfl
theorem q_s24 : d_law_k78_s24 (E78 sc s3 s4 s5 (.v op) (.v (exQ 0)) s8 s9 s10 s11 s12 (.v recQ) (.v (.tup pairQ)) s15 s16) (x :: C7) = .nx (E78 sc s3 s4 s5 (.v op) (.v (exQ 0)) s8 s9 s10 s11 s12 (.v recQ) (.v (.tup pairQ)) (.v (.lst (oddQ op))) s16) (x :: C7) := by kernel_rfl
theorem q_s25 : ∀ op ∈ opQ, d_law_k78_s25 (E78 sc s3 s4 s5 s6 s7 s8 s9 s10 s11 s12 s13 s14 (.v (.lst (oddQ op))) .un) (x :: C7) = .nx (E78 sc s3 s4 s5 s6 s7 s8 s9 s10 s11 s12 s13 s14 (.v (.lst (oddQ op))) .un) (x :: C7) := by
  intro op h
  unfold opQ opQ0 at h
  simp only [List.cons_append, List.nil_append, List.mem_cons, List.not_mem_nil, or_false] at h
  rcases h with rfl | rfl | rfl | rfl | rfl | rfl | rfl | rfl | rfl | rfl | rfl | rfl | rfl | rfl | rfl | rfl | rfl | rfl <;> kernel_rfl
theorem q_s26 : d_law_k78_s26 (E78 sc s3 s4 s5 s6 s7 s8 s9 s10 s11 s12 (.v recQ) (.v (.tup pairQ)) s15 s16) (x :: C7) = .rt (.bl true) (E78 sc s3 s4 s5 s6 s7 s8 s9 s10 s11 s12 (.v recQ) (.v (.tup pairQ)) s15 s16) (x :: C7) := by kernel_rfl
theorem gsQ : GS 8 4 3 0 [[1, 2, 0], [0, 2, 1]] := by
  refine ⟨by decide, by decide, ⟨by decide, by decide⟩, by decide, fun c hc => ?_⟩
  simp only [List.mem_cons, List.not_mem_nil, or_false] at hc
  rcases hc with rfl | rfl <;> exact gc_closed (by decide)
theorem edAtQ : EdAt (x :: C7) 15 16 (encS 3 0 [[1, 2, 0], [0, 2, 1]]) ((rowsQ 16 ++ b1Q) ++ [eV (List.replicate 16 (0, true))]) (List.replicate 16 (exQ 0) ++ [rvQ 15, rvQ 0, rsQ 15, rsQ 0]) := ⟨by kernel_rfl, by kernel_rfl, by decide⟩
theorem q_21b {Q : OutF → Prop} (hq : Q (.ok (.str "") (x :: C7))) : wpF d__law_told_v19 [.int 5, .ref 15, .int 15] (x :: C7) Q := by
  have hE := edAtQ (x := x)
  unfold d__law_told_v19
  refine wpF_go rfl ?_
  have e0 : decide ((5 : Int) = 0) = false := by decide
  have e1 : decide ((5 : Int) = 1) = false := by decide
  have e2 : decide ((5 : Int) = 2) = false := by decide
  have e3 : decide ((5 : Int) = 3) = false := by decide
  have e4 : decide ((5 : Int) = 4) = false := by decide
  rw [wpS_seq, wpS_try]
  simp only [List.map, List.replicate, List.cons_append, List.nil_append, List.length_cons, List.length_nil, Nat.reduceAdd, bq_ok, bq_ex, wp_pure, wp_fail, wp_getS, oQ_some, oQ_ite, bqS_ok, bqS_ex, sqS_nx, sqS_rt, sqS_bk, sqS_ct, sqS_ex, wpS_next, wpS_break, wpS_cont, wpS_retN, wpS_setT, stQ_some, wp_C, wp_call, wp_callv, bqF_ok, bqF_ex, wp_new, wp_newv, fqS_nx, fqS_rt, fqS_ex, wpS_for, wp_comp, wp_dVar, vQ_v, vQ_o, List.getElem?_cons_zero, List.getElem?_cons_succ, List.set_cons_zero, List.set_cons_succ, wp_d1, wp_k1, wp_d2, wp_k2, wp_k2b, wp_dT, wp_kT, wp_dTru, wp_kTru, wp_dNotT, wp_kNot, wp_dAndT, wp_kAnd, wp_dOrT, wp_kOr, wp_dAndV, wp_kAndV, wp_kAndVb, wp_dOrV, wp_kOrV, wp_kOrVb, wp_dNotV, wp_kNotV, wp_kNotVb, wp_dIf, wp_kIf, wp_dChain, wp_kCh, wp_kCh2, wp_kCh3, wp_aNil, wp_aCons, wp_kCons, wp_kCons2, wp_dTup, wp_kTup, wp_dLst, wp_kLst, wp_dN, wp_kN, wp_dLs, wp_kLs, wp_lDisp, wp_kDisp, wp_lRng, wp_kRng, wp_dItR, wp_kItR, wp_dItS, wp_kItS, wp_tTrue, wp_oNo, wp_oSome, wp_kSome, wp_dSl, wp_kSl, wp_kSl1, wp_kSl2, ws_ret, ws_kRet, ws_expr, ws_kExpr, ws_if, ws_kIfS, ws_set, ws_kSet, ws_setO, ws_kSetO, ws_kSetT, ws_setR, ws_kSetR0, ws_kSetR1, ws_kSetR2, items_t, items_ft, items_l, items_r, setAll, Bool.not_true, Bool.not_false, if_true, ite_true, ite_false, ↓reduceIte, Bool.false_eq_true, Int.reduceLT, Int.reduceLE, Nat.reduceLT, Nat.reduceLeDiff, Nat.reducePow, Int.reducePow, Int.reduceToNat, Int.reduceNeg, Int.reduceSub, Int.reduceAdd, and_self, and_true, true_and, decide_eq_true_eq, decide_true, decide_false, List.length_map, ixN_31, ixN_32, ixN_30, wipeE, restE, lcQ, Option.getD_some, add_i, add_t, add_l, sub_i, mul_i, mul_t, mul_l, fdiv_i, mod_i, pow_18, neg_i, lt_i, le_i, gt_i, ge_i, eq_i, ne_i, eq_b, len_t, len_ft, len_l, len_r, abs_i, int_i, list_t, list_ft, list_l, list_r, tuple_t, tuple_ft, tuple_l, isi_i, isi_b, isi_s, isi_t, isi_ft, isi_l, isi_r, isi_n, tru_b, tru_i, tru_t, tru_ft, tru_l, tru_n, isN_n, isN_b, isN_i, isN_s, isN_t, isN_l, ix_t, ix_ft, ix_l, ix_r, ix_ref, setS_ref, atI_0, atI_1, atI_2, Option.map_some, Option.map_none, kb0, kb1, kb2, kb3, kb4, kb5, kb6, kb7, kb8, kb9, kb10, kb11, kb12, kb13, kb14, kb15, kb16, kb17, kb18, kb19, kb20, kb21, kb22, kb23, kb24, kb25, kb26, kb27, kb28, kb29, sz0, szl0, sz1, szl1, sz2, szl2, sz3, szl3, sz4, szl4, sz5, szl5, sz6, szl6, sz7, szl7, sz8, szl8, sz9, szl9, sz10, szl10, sz11, szl11, sz12, szl12, sz13, szl13, sz14, szl14, sz15, szl15, sz16, szl16, sz17, szl17, sz18, szl18, sz19, szl19, sz20, szl20, sz21, szl21, sz22, szl22, sz23, szl23, sz24, szl24, sz25, szl25, sz26, szl26, sz27, szl27, sz28, szl28, sz29, szl29, sz30, szl30, sz31, szl31, sz32, szl32, sz33, szl33, sz34, szl34, sz35, szl35, sz36, szl36, sz37, szl37, sz38, szl38, sz39, szl39, sz40, szl40, e0, e1, e2, e3, e4, wp_meth]
  rw [wp_methv hE.ins (ed_no (by decide +kernel) (by decide +kernel) (by decide +kernel))]
  simp only [List.map, List.replicate, List.cons_append, List.nil_append, List.length_cons, List.length_nil, Nat.reduceAdd, bq_ok, bq_ex, wp_pure, wp_fail, wp_getS, oQ_some, oQ_ite, bqS_ok, bqS_ex, sqS_nx, sqS_rt, sqS_bk, sqS_ct, sqS_ex, wpS_next, wpS_break, wpS_cont, wpS_retN, wpS_setT, stQ_some, wp_C, wp_call, wp_callv, bqF_ok, bqF_ex, wp_new, wp_newv, fqS_nx, fqS_rt, fqS_ex, wpS_for, wp_comp, wp_dVar, vQ_v, vQ_o, List.getElem?_cons_zero, List.getElem?_cons_succ, List.set_cons_zero, List.set_cons_succ, wp_d1, wp_k1, wp_d2, wp_k2, wp_k2b, wp_dT, wp_kT, wp_dTru, wp_kTru, wp_dNotT, wp_kNot, wp_dAndT, wp_kAnd, wp_dOrT, wp_kOr, wp_dAndV, wp_kAndV, wp_kAndVb, wp_dOrV, wp_kOrV, wp_kOrVb, wp_dNotV, wp_kNotV, wp_kNotVb, wp_dIf, wp_kIf, wp_dChain, wp_kCh, wp_kCh2, wp_kCh3, wp_aNil, wp_aCons, wp_kCons, wp_kCons2, wp_dTup, wp_kTup, wp_dLst, wp_kLst, wp_dN, wp_kN, wp_dLs, wp_kLs, wp_lDisp, wp_kDisp, wp_lRng, wp_kRng, wp_dItR, wp_kItR, wp_dItS, wp_kItS, wp_tTrue, wp_oNo, wp_oSome, wp_kSome, wp_dSl, wp_kSl, wp_kSl1, wp_kSl2, ws_ret, ws_kRet, ws_expr, ws_kExpr, ws_if, ws_kIfS, ws_set, ws_kSet, ws_setO, ws_kSetO, ws_kSetT, ws_setR, ws_kSetR0, ws_kSetR1, ws_kSetR2, items_t, items_ft, items_l, items_r, setAll, Bool.not_true, Bool.not_false, if_true, ite_true, ite_false, ↓reduceIte, Bool.false_eq_true, Int.reduceLT, Int.reduceLE, Nat.reduceLT, Nat.reduceLeDiff, Nat.reducePow, Int.reducePow, Int.reduceToNat, Int.reduceNeg, Int.reduceSub, Int.reduceAdd, and_self, and_true, true_and, decide_eq_true_eq, decide_true, decide_false, List.length_map, ixN_31, ixN_32, ixN_30, wipeE, restE, lcQ, Option.getD_some, add_i, add_t, add_l, sub_i, mul_i, mul_t, mul_l, fdiv_i, mod_i, pow_18, neg_i, lt_i, le_i, gt_i, ge_i, eq_i, ne_i, eq_b, len_t, len_ft, len_l, len_r, abs_i, int_i, list_t, list_ft, list_l, list_r, tuple_t, tuple_ft, tuple_l, isi_i, isi_b, isi_s, isi_t, isi_ft, isi_l, isi_r, isi_n, tru_b, tru_i, tru_t, tru_ft, tru_l, tru_n, isN_n, isN_b, isN_i, isN_s, isN_t, isN_l, ix_t, ix_ft, ix_l, ix_r, ix_ref, setS_ref, atI_0, atI_1, atI_2, Option.map_some, Option.map_none, kb0, kb1, kb2, kb3, kb4, kb5, kb6, kb7, kb8, kb9, kb10, kb11, kb12, kb13, kb14, kb15, kb16, kb17, kb18, kb19, kb20, kb21, kb22, kb23, kb24, kb25, kb26, kb27, kb28, kb29, sz0, szl0, sz1, szl1, sz2, szl2, sz3, szl3, sz4, szl4, sz5, szl5, sz6, szl6, sz7, szl7, sz8, szl8, sz9, szl9, sz10, szl10, sz11, szl11, sz12, szl12, sz13, szl13, sz14, szl14, sz15, szl15, sz16, szl16, sz17, szl17, sz18, szl18, sz19, szl19, sz20, szl20, sz21, szl21, sz22, szl22, sz23, szl23, sz24, szl24, sz25, szl25, sz26, szl26, sz27, szl27, sz28, szl28, sz29, szl29, sz30, szl30, sz31, szl31, sz32, szl32, sz33, szl33, sz34, szl34, sz35, szl35, sz36, szl36, sz37, szl37, sz38, szl38, sz39, szl39, sz40, szl40]
  rw [wp_methB]
  refine wp_ed_table (i := 15) hE gsQ (fun p hp => ?_) (by rw [List.length_replicate]; omega) (by omega) (by rw [List.length_replicate]; omega) (fun _ => ?_) (fun _ f _ => ?_)
  · rw [(List.mem_replicate.mp hp).2]; exact ⟨by decide, by decide⟩
  · simp only [List.map, List.replicate, List.cons_append, List.nil_append, List.length_cons, List.length_nil, Nat.reduceAdd, bq_ok, bq_ex, wp_pure, wp_fail, wp_getS, oQ_some, oQ_ite, bqS_ok, bqS_ex, sqS_nx, sqS_rt, sqS_bk, sqS_ct, sqS_ex, wpS_next, wpS_break, wpS_cont, wpS_retN, wpS_setT, stQ_some, wp_C, wp_call, wp_callv, bqF_ok, bqF_ex, wp_new, wp_newv, fqS_nx, fqS_rt, fqS_ex, wpS_for, wp_comp, wp_dVar, vQ_v, vQ_o, List.getElem?_cons_zero, List.getElem?_cons_succ, List.set_cons_zero, List.set_cons_succ, wp_d1, wp_k1, wp_d2, wp_k2, wp_k2b, wp_dT, wp_kT, wp_dTru, wp_kTru, wp_dNotT, wp_kNot, wp_dAndT, wp_kAnd, wp_dOrT, wp_kOr, wp_dAndV, wp_kAndV, wp_kAndVb, wp_dOrV, wp_kOrV, wp_kOrVb, wp_dNotV, wp_kNotV, wp_kNotVb, wp_dIf, wp_kIf, wp_dChain, wp_kCh, wp_kCh2, wp_kCh3, wp_aNil, wp_aCons, wp_kCons, wp_kCons2, wp_dTup, wp_kTup, wp_dLst, wp_kLst, wp_dN, wp_kN, wp_dLs, wp_kLs, wp_lDisp, wp_kDisp, wp_lRng, wp_kRng, wp_dItR, wp_kItR, wp_dItS, wp_kItS, wp_tTrue, wp_oNo, wp_oSome, wp_kSome, wp_dSl, wp_kSl, wp_kSl1, wp_kSl2, ws_ret, ws_kRet, ws_expr, ws_kExpr, ws_if, ws_kIfS, ws_set, ws_kSet, ws_setO, ws_kSetO, ws_kSetT, ws_setR, ws_kSetR0, ws_kSetR1, ws_kSetR2, items_t, items_ft, items_l, items_r, setAll, Bool.not_true, Bool.not_false, if_true, ite_true, ite_false, ↓reduceIte, Bool.false_eq_true, Int.reduceLT, Int.reduceLE, Nat.reduceLT, Nat.reduceLeDiff, Nat.reducePow, Int.reducePow, Int.reduceToNat, Int.reduceNeg, Int.reduceSub, Int.reduceAdd, and_self, and_true, true_and, decide_eq_true_eq, decide_true, decide_false, List.length_map, ixN_31, ixN_32, ixN_30, wipeE, restE, lcQ, Option.getD_some, add_i, add_t, add_l, sub_i, mul_i, mul_t, mul_l, fdiv_i, mod_i, pow_18, neg_i, lt_i, le_i, gt_i, ge_i, eq_i, ne_i, eq_b, len_t, len_ft, len_l, len_r, abs_i, int_i, list_t, list_ft, list_l, list_r, tuple_t, tuple_ft, tuple_l, isi_i, isi_b, isi_s, isi_t, isi_ft, isi_l, isi_r, isi_n, tru_b, tru_i, tru_t, tru_ft, tru_l, tru_n, isN_n, isN_b, isN_i, isN_s, isN_t, isN_l, ix_t, ix_ft, ix_l, ix_r, ix_ref, setS_ref, atI_0, atI_1, atI_2, Option.map_some, Option.map_none, kb0, kb1, kb2, kb3, kb4, kb5, kb6, kb7, kb8, kb9, kb10, kb11, kb12, kb13, kb14, kb15, kb16, kb17, kb18, kb19, kb20, kb21, kb22, kb23, kb24, kb25, kb26, kb27, kb28, kb29, sz0, szl0, sz1, szl1, sz2, szl2, sz3, szl3, sz4, szl4, sz5, szl5, sz6, szl6, sz7, szl7, sz8, szl8, sz9, szl9, sz10, szl10, sz11, szl11, sz12, szl12, sz13, szl13, sz14, szl14, sz15, szl15, sz16, szl16, sz17, szl17, sz18, szl18, sz19, szl19, sz20, szl20, sz21, szl21, sz22, szl22, sz23, szl23, sz24, szl24, sz25, szl25, sz26, szl26, sz27, szl27, sz28, szl28, sz29, szl29, sz30, szl30, sz31, szl31, sz32, szl32, sz33, szl33, sz34, szl34, sz35, szl35, sz36, szl36, sz37, szl37, sz38, szl38, sz39, szl39, sz40, szl40, tryQ_nx]
    exact hq
  · simp only [List.map, List.replicate, List.cons_append, List.nil_append, List.length_cons, List.length_nil, Nat.reduceAdd, bq_ok, bq_ex, wp_pure, wp_fail, wp_getS, oQ_some, oQ_ite, bqS_ok, bqS_ex, sqS_nx, sqS_rt, sqS_bk, sqS_ct, sqS_ex, wpS_next, wpS_break, wpS_cont, wpS_retN, wpS_setT, stQ_some, wp_C, wp_call, wp_callv, bqF_ok, bqF_ex, wp_new, wp_newv, fqS_nx, fqS_rt, fqS_ex, wpS_for, wp_comp, wp_dVar, vQ_v, vQ_o, List.getElem?_cons_zero, List.getElem?_cons_succ, List.set_cons_zero, List.set_cons_succ, wp_d1, wp_k1, wp_d2, wp_k2, wp_k2b, wp_dT, wp_kT, wp_dTru, wp_kTru, wp_dNotT, wp_kNot, wp_dAndT, wp_kAnd, wp_dOrT, wp_kOr, wp_dAndV, wp_kAndV, wp_kAndVb, wp_dOrV, wp_kOrV, wp_kOrVb, wp_dNotV, wp_kNotV, wp_kNotVb, wp_dIf, wp_kIf, wp_dChain, wp_kCh, wp_kCh2, wp_kCh3, wp_aNil, wp_aCons, wp_kCons, wp_kCons2, wp_dTup, wp_kTup, wp_dLst, wp_kLst, wp_dN, wp_kN, wp_dLs, wp_kLs, wp_lDisp, wp_kDisp, wp_lRng, wp_kRng, wp_dItR, wp_kItR, wp_dItS, wp_kItS, wp_tTrue, wp_oNo, wp_oSome, wp_kSome, wp_dSl, wp_kSl, wp_kSl1, wp_kSl2, ws_ret, ws_kRet, ws_expr, ws_kExpr, ws_if, ws_kIfS, ws_set, ws_kSet, ws_setO, ws_kSetO, ws_kSetT, ws_setR, ws_kSetR0, ws_kSetR1, ws_kSetR2, items_t, items_ft, items_l, items_r, setAll, Bool.not_true, Bool.not_false, if_true, ite_true, ite_false, ↓reduceIte, Bool.false_eq_true, Int.reduceLT, Int.reduceLE, Nat.reduceLT, Nat.reduceLeDiff, Nat.reducePow, Int.reducePow, Int.reduceToNat, Int.reduceNeg, Int.reduceSub, Int.reduceAdd, and_self, and_true, true_and, decide_eq_true_eq, decide_true, decide_false, List.length_map, ixN_31, ixN_32, ixN_30, wipeE, restE, lcQ, Option.getD_some, add_i, add_t, add_l, sub_i, mul_i, mul_t, mul_l, fdiv_i, mod_i, pow_18, neg_i, lt_i, le_i, gt_i, ge_i, eq_i, ne_i, eq_b, len_t, len_ft, len_l, len_r, abs_i, int_i, list_t, list_ft, list_l, list_r, tuple_t, tuple_ft, tuple_l, isi_i, isi_b, isi_s, isi_t, isi_ft, isi_l, isi_r, isi_n, tru_b, tru_i, tru_t, tru_ft, tru_l, tru_n, isN_n, isN_b, isN_i, isN_s, isN_t, isN_l, ix_t, ix_ft, ix_l, ix_r, ix_ref, setS_ref, atI_0, atI_1, atI_2, Option.map_some, Option.map_none, kb0, kb1, kb2, kb3, kb4, kb5, kb6, kb7, kb8, kb9, kb10, kb11, kb12, kb13, kb14, kb15, kb16, kb17, kb18, kb19, kb20, kb21, kb22, kb23, kb24, kb25, kb26, kb27, kb28, kb29, sz0, szl0, sz1, szl1, sz2, szl2, sz3, szl3, sz4, szl4, sz5, szl5, sz6, szl6, sz7, szl7, sz8, szl8, sz9, szl9, sz10, szl10, sz11, szl11, sz12, szl12, sz13, szl13, sz14, szl14, sz15, szl15, sz16, szl16, sz17, szl17, sz18, szl18, sz19, szl19, sz20, szl20, sz21, szl21, sz22, szl22, sz23, szl23, sz24, szl24, sz25, szl25, sz26, szl26, sz27, szl27, sz28, szl28, sz29, szl29, sz30, szl30, sz31, szl31, sz32, szl32, sz33, szl33, sz34, szl34, sz35, szl35, sz36, szl36, sz37, szl37, sz38, szl38, sz39, szl39, sz40, szl40, tryQ_nx]
    exact hq
theorem q_s11 : ∀ op ∈ opQ, ∀ j ∈ joQ op, d_law_k78_s11 (E78 sc s3 s4 s5 s6 (.v (exQ 0)) (.v j) s9 s10 s11 s12 s13 s14 s15 s16) (x :: C0) = .nx (E78 sc s3 s4 s5 s6 (.v (exQ 0)) (.v j) s9 s10 s11 s12 s13 s14 s15 s16) (x :: C3) := by
  intro op ho j hj
  suffices h : wpS d_law_k78_s11 (E78 sc s3 s4 s5 s6 (.v (exQ 0)) (.v j) s9 s10 s11 s12 s13 s14 s15 s16) (x :: C0) fun o => o = .nx (E78 sc s3 s4 s5 s6 (.v (exQ 0)) (.v j) s9 s10 s11 s12 s13 s14 s15 s16) (x :: C3) from h
  have m1 : ∀ S : Stor, mulP' S (.tup [exQ 0]) (.int 16) = some (.tup (List.replicate 16 (exQ 0))) := fun S => by kernel_rfl
  have m2 : ∀ S : Stor, mulP' S (.tup [exQ 0]) (.int 17) = some (.tup (List.replicate 17 (exQ 0))) := fun S => by kernel_rfl
  have n1 : ∀ S : Stor, neP S (.str "journal") (.str "journal") = some (.bl false) := fun S => by kernel_rfl
  have n2 : ∀ S : Stor, neP S (.str "") (.str "") = some (.bl false) := fun S => by kernel_rfl
  have n3 : ∀ S : Stor, neP S (.tup [.str "full"]) (.tup [.str "full"]) = some (.bl false) := fun S => by kernel_rfl
  unfold d_law_k78_s11 E78
  simp only [List.map, List.cons_append, List.nil_append, List.length_cons, List.length_nil, Nat.reduceAdd, bq_ok, bq_ex, wp_pure, wp_fail, wp_getS, oQ_some, oQ_ite, bqS_ok, bqS_ex, wpS_seq, sqS_nx, sqS_rt, sqS_bk, sqS_ct, sqS_ex, wpS_next, wpS_break, wpS_cont, wpS_retN, wpS_setT, stQ_some, wp_C, wp_call, wp_callv, bqF_ok, bqF_ex, wp_new, wp_newv, fqS_nx, fqS_rt, fqS_ex, wpS_for, wp_comp, wp_dVar, vQ_v, vQ_o, List.getElem?_cons_zero, List.getElem?_cons_succ, List.set_cons_zero, List.set_cons_succ, wp_d1, wp_k1, wp_d2, wp_k2, wp_k2b, wp_dT, wp_kT, wp_dTru, wp_kTru, wp_dNotT, wp_kNot, wp_dAndT, wp_kAnd, wp_dOrT, wp_kOr, wp_dAndV, wp_kAndV, wp_kAndVb, wp_dOrV, wp_kOrV, wp_kOrVb, wp_dNotV, wp_kNotV, wp_kNotVb, wp_dIf, wp_kIf, wp_dChain, wp_kCh, wp_kCh2, wp_kCh3, wp_aNil, wp_aCons, wp_kCons, wp_kCons2, wp_dTup, wp_kTup, wp_dLst, wp_kLst, wp_dN, wp_kN, wp_dLs, wp_kLs, wp_lDisp, wp_kDisp, wp_lRng, wp_kRng, wp_dItR, wp_kItR, wp_dItS, wp_kItS, wp_tTrue, wp_oNo, wp_oSome, wp_kSome, wp_dSl, wp_kSl, wp_kSl1, wp_kSl2, ws_ret, ws_kRet, ws_expr, ws_kExpr, ws_if, ws_kIfS, ws_set, ws_kSet, ws_setO, ws_kSetO, ws_kSetT, ws_setR, ws_kSetR0, ws_kSetR1, ws_kSetR2, items_t, items_ft, items_l, items_r, setAll, Bool.not_true, Bool.not_false, if_true, ite_true, ite_false, ↓reduceIte, Bool.false_eq_true, Int.reduceLT, Int.reduceLE, Nat.reduceLT, Nat.reduceLeDiff, Nat.reducePow, Int.reducePow, Int.reduceToNat, Int.reduceNeg, Int.reduceSub, Int.reduceAdd, and_self, and_true, true_and, decide_eq_true_eq, decide_true, decide_false, List.length_map, ixN_31, ixN_32, ixN_30, wipeE, restE, lcQ, Option.getD_some, add_i, add_t, add_l, sub_i, mul_i, mul_l, fdiv_i, mod_i, pow_18, neg_i, lt_i, le_i, gt_i, ge_i, eq_i, ne_i, eq_b, len_t, len_ft, len_l, len_r, abs_i, int_i, list_t, list_ft, list_l, list_r, tuple_t, tuple_ft, tuple_l, isi_i, isi_b, isi_s, isi_t, isi_ft, isi_l, isi_r, isi_n, tru_b, tru_i, tru_t, tru_ft, tru_l, tru_n, isN_n, isN_b, isN_i, isN_s, isN_t, isN_l, ix_t, ix_ft, ix_l, ix_r, ix_ref, setS_ref, atI_0, atI_1, atI_2, Option.map_some, Option.map_none, kb0, kb1, kb2, kb3, kb4, kb5, kb6, kb7, kb8, kb9, kb10, kb11, kb12, kb13, kb14, kb15, kb16, kb17, kb18, kb19, kb20, kb21, kb22, kb23, kb24, kb25, kb26, kb27, kb28, kb29, sz0, szl0, sz1, szl1, sz2, szl2, sz3, szl3, sz4, szl4, sz5, szl5, sz6, szl6, sz7, szl7, sz8, szl8, sz9, szl9, sz10, szl10, sz11, szl11, sz12, szl12, sz13, szl13, sz14, szl14, sz15, szl15, sz16, szl16, sz17, szl17, sz18, szl18, sz19, szl19, sz20, szl20, sz21, szl21, sz22, szl22, sz23, szl23, sz24, szl24, sz25, szl25, sz26, szl26, sz27, szl27, sz28, szl28, sz29, szl29, sz30, szl30, sz31, szl31, sz32, szl32, sz33, szl33, sz34, szl34, sz35, szl35, sz36, szl36, sz37, szl37, sz38, szl38, sz39, szl39, sz40, szl40, n1, n2, n3]
  refine wpF_is (q_j op ho j hj) ?_
  simp only [List.map, List.cons_append, List.nil_append, List.length_cons, List.length_nil, Nat.reduceAdd, bq_ok, bq_ex, wp_pure, wp_fail, wp_getS, oQ_some, oQ_ite, bqS_ok, bqS_ex, wpS_seq, sqS_nx, sqS_rt, sqS_bk, sqS_ct, sqS_ex, wpS_next, wpS_break, wpS_cont, wpS_retN, wpS_setT, stQ_some, wp_C, wp_call, wp_callv, bqF_ok, bqF_ex, wp_new, wp_newv, fqS_nx, fqS_rt, fqS_ex, wpS_for, wp_comp, wp_dVar, vQ_v, vQ_o, List.getElem?_cons_zero, List.getElem?_cons_succ, List.set_cons_zero, List.set_cons_succ, wp_d1, wp_k1, wp_d2, wp_k2, wp_k2b, wp_dT, wp_kT, wp_dTru, wp_kTru, wp_dNotT, wp_kNot, wp_dAndT, wp_kAnd, wp_dOrT, wp_kOr, wp_dAndV, wp_kAndV, wp_kAndVb, wp_dOrV, wp_kOrV, wp_kOrVb, wp_dNotV, wp_kNotV, wp_kNotVb, wp_dIf, wp_kIf, wp_dChain, wp_kCh, wp_kCh2, wp_kCh3, wp_aNil, wp_aCons, wp_kCons, wp_kCons2, wp_dTup, wp_kTup, wp_dLst, wp_kLst, wp_dN, wp_kN, wp_dLs, wp_kLs, wp_lDisp, wp_kDisp, wp_lRng, wp_kRng, wp_dItR, wp_kItR, wp_dItS, wp_kItS, wp_tTrue, wp_oNo, wp_oSome, wp_kSome, wp_dSl, wp_kSl, wp_kSl1, wp_kSl2, ws_ret, ws_kRet, ws_expr, ws_kExpr, ws_if, ws_kIfS, ws_set, ws_kSet, ws_setO, ws_kSetO, ws_kSetT, ws_setR, ws_kSetR0, ws_kSetR1, ws_kSetR2, items_t, items_ft, items_l, items_r, setAll, Bool.not_true, Bool.not_false, if_true, ite_true, ite_false, ↓reduceIte, Bool.false_eq_true, Int.reduceLT, Int.reduceLE, Nat.reduceLT, Nat.reduceLeDiff, Nat.reducePow, Int.reducePow, Int.reduceToNat, Int.reduceNeg, Int.reduceSub, Int.reduceAdd, and_self, and_true, true_and, decide_eq_true_eq, decide_true, decide_false, List.length_map, ixN_31, ixN_32, ixN_30, wipeE, restE, lcQ, Option.getD_some, add_i, add_t, add_l, sub_i, mul_i, mul_l, fdiv_i, mod_i, pow_18, neg_i, lt_i, le_i, gt_i, ge_i, eq_i, ne_i, eq_b, len_t, len_ft, len_l, len_r, abs_i, int_i, list_t, list_ft, list_l, list_r, tuple_t, tuple_ft, tuple_l, isi_i, isi_b, isi_s, isi_t, isi_ft, isi_l, isi_r, isi_n, tru_b, tru_i, tru_t, tru_ft, tru_l, tru_n, isN_n, isN_b, isN_i, isN_s, isN_t, isN_l, ix_t, ix_ft, ix_l, ix_r, ix_ref, setS_ref, atI_0, atI_1, atI_2, Option.map_some, Option.map_none, kb0, kb1, kb2, kb3, kb4, kb5, kb6, kb7, kb8, kb9, kb10, kb11, kb12, kb13, kb14, kb15, kb16, kb17, kb18, kb19, kb20, kb21, kb22, kb23, kb24, kb25, kb26, kb27, kb28, kb29, sz0, szl0, sz1, szl1, sz2, szl2, sz3, szl3, sz4, szl4, sz5, szl5, sz6, szl6, sz7, szl7, sz8, szl8, sz9, szl9, sz10, szl10, sz11, szl11, sz12, szl12, sz13, szl13, sz14, szl14, sz15, szl15, sz16, szl16, sz17, szl17, sz18, szl18, sz19, szl19, sz20, szl20, sz21, szl21, sz22, szl22, sz23, szl23, sz24, szl24, sz25, szl25, sz26, szl26, sz27, szl27, sz28, szl28, sz29, szl29, sz30, szl30, sz31, szl31, sz32, szl32, sz33, szl33, sz34, szl34, sz35, szl35, sz36, szl36, sz37, szl37, sz38, szl38, sz39, szl39, sz40, szl40, n1, n2, n3, m1]
  refine wpF_is q_11b ?_
  simp only [List.map, List.cons_append, List.nil_append, List.length_cons, List.length_nil, Nat.reduceAdd, bq_ok, bq_ex, wp_pure, wp_fail, wp_getS, oQ_some, oQ_ite, bqS_ok, bqS_ex, wpS_seq, sqS_nx, sqS_rt, sqS_bk, sqS_ct, sqS_ex, wpS_next, wpS_break, wpS_cont, wpS_retN, wpS_setT, stQ_some, wp_C, wp_call, wp_callv, bqF_ok, bqF_ex, wp_new, wp_newv, fqS_nx, fqS_rt, fqS_ex, wpS_for, wp_comp, wp_dVar, vQ_v, vQ_o, List.getElem?_cons_zero, List.getElem?_cons_succ, List.set_cons_zero, List.set_cons_succ, wp_d1, wp_k1, wp_d2, wp_k2, wp_k2b, wp_dT, wp_kT, wp_dTru, wp_kTru, wp_dNotT, wp_kNot, wp_dAndT, wp_kAnd, wp_dOrT, wp_kOr, wp_dAndV, wp_kAndV, wp_kAndVb, wp_dOrV, wp_kOrV, wp_kOrVb, wp_dNotV, wp_kNotV, wp_kNotVb, wp_dIf, wp_kIf, wp_dChain, wp_kCh, wp_kCh2, wp_kCh3, wp_aNil, wp_aCons, wp_kCons, wp_kCons2, wp_dTup, wp_kTup, wp_dLst, wp_kLst, wp_dN, wp_kN, wp_dLs, wp_kLs, wp_lDisp, wp_kDisp, wp_lRng, wp_kRng, wp_dItR, wp_kItR, wp_dItS, wp_kItS, wp_tTrue, wp_oNo, wp_oSome, wp_kSome, wp_dSl, wp_kSl, wp_kSl1, wp_kSl2, ws_ret, ws_kRet, ws_expr, ws_kExpr, ws_if, ws_kIfS, ws_set, ws_kSet, ws_setO, ws_kSetO, ws_kSetT, ws_setR, ws_kSetR0, ws_kSetR1, ws_kSetR2, items_t, items_ft, items_l, items_r, setAll, Bool.not_true, Bool.not_false, if_true, ite_true, ite_false, ↓reduceIte, Bool.false_eq_true, Int.reduceLT, Int.reduceLE, Nat.reduceLT, Nat.reduceLeDiff, Nat.reducePow, Int.reducePow, Int.reduceToNat, Int.reduceNeg, Int.reduceSub, Int.reduceAdd, and_self, and_true, true_and, decide_eq_true_eq, decide_true, decide_false, List.length_map, ixN_31, ixN_32, ixN_30, wipeE, restE, lcQ, Option.getD_some, add_i, add_t, add_l, sub_i, mul_i, mul_l, fdiv_i, mod_i, pow_18, neg_i, lt_i, le_i, gt_i, ge_i, eq_i, ne_i, eq_b, len_t, len_ft, len_l, len_r, abs_i, int_i, list_t, list_ft, list_l, list_r, tuple_t, tuple_ft, tuple_l, isi_i, isi_b, isi_s, isi_t, isi_ft, isi_l, isi_r, isi_n, tru_b, tru_i, tru_t, tru_ft, tru_l, tru_n, isN_n, isN_b, isN_i, isN_s, isN_t, isN_l, ix_t, ix_ft, ix_l, ix_r, ix_ref, setS_ref, atI_0, atI_1, atI_2, Option.map_some, Option.map_none, kb0, kb1, kb2, kb3, kb4, kb5, kb6, kb7, kb8, kb9, kb10, kb11, kb12, kb13, kb14, kb15, kb16, kb17, kb18, kb19, kb20, kb21, kb22, kb23, kb24, kb25, kb26, kb27, kb28, kb29, sz0, szl0, sz1, szl1, sz2, szl2, sz3, szl3, sz4, szl4, sz5, szl5, sz6, szl6, sz7, szl7, sz8, szl8, sz9, szl9, sz10, szl10, sz11, szl11, sz12, szl12, sz13, szl13, sz14, szl14, sz15, szl15, sz16, szl16, sz17, szl17, sz18, szl18, sz19, szl19, sz20, szl20, sz21, szl21, sz22, szl22, sz23, szl23, sz24, szl24, sz25, szl25, sz26, szl26, sz27, szl27, sz28, szl28, sz29, szl29, sz30, szl30, sz31, szl31, sz32, szl32, sz33, szl33, sz34, szl34, sz35, szl35, sz36, szl36, sz37, szl37, sz38, szl38, sz39, szl39, sz40, szl40, n1, n2, n3, m2]
  refine wpF_is q_11c ?_
  simp only [List.map, List.cons_append, List.nil_append, List.length_cons, List.length_nil, Nat.reduceAdd, bq_ok, bq_ex, wp_pure, wp_fail, wp_getS, oQ_some, oQ_ite, bqS_ok, bqS_ex, wpS_seq, sqS_nx, sqS_rt, sqS_bk, sqS_ct, sqS_ex, wpS_next, wpS_break, wpS_cont, wpS_retN, wpS_setT, stQ_some, wp_C, wp_call, wp_callv, bqF_ok, bqF_ex, wp_new, wp_newv, fqS_nx, fqS_rt, fqS_ex, wpS_for, wp_comp, wp_dVar, vQ_v, vQ_o, List.getElem?_cons_zero, List.getElem?_cons_succ, List.set_cons_zero, List.set_cons_succ, wp_d1, wp_k1, wp_d2, wp_k2, wp_k2b, wp_dT, wp_kT, wp_dTru, wp_kTru, wp_dNotT, wp_kNot, wp_dAndT, wp_kAnd, wp_dOrT, wp_kOr, wp_dAndV, wp_kAndV, wp_kAndVb, wp_dOrV, wp_kOrV, wp_kOrVb, wp_dNotV, wp_kNotV, wp_kNotVb, wp_dIf, wp_kIf, wp_dChain, wp_kCh, wp_kCh2, wp_kCh3, wp_aNil, wp_aCons, wp_kCons, wp_kCons2, wp_dTup, wp_kTup, wp_dLst, wp_kLst, wp_dN, wp_kN, wp_dLs, wp_kLs, wp_lDisp, wp_kDisp, wp_lRng, wp_kRng, wp_dItR, wp_kItR, wp_dItS, wp_kItS, wp_tTrue, wp_oNo, wp_oSome, wp_kSome, wp_dSl, wp_kSl, wp_kSl1, wp_kSl2, ws_ret, ws_kRet, ws_expr, ws_kExpr, ws_if, ws_kIfS, ws_set, ws_kSet, ws_setO, ws_kSetO, ws_kSetT, ws_setR, ws_kSetR0, ws_kSetR1, ws_kSetR2, items_t, items_ft, items_l, items_r, setAll, Bool.not_true, Bool.not_false, if_true, ite_true, ite_false, ↓reduceIte, Bool.false_eq_true, Int.reduceLT, Int.reduceLE, Nat.reduceLT, Nat.reduceLeDiff, Nat.reducePow, Int.reducePow, Int.reduceToNat, Int.reduceNeg, Int.reduceSub, Int.reduceAdd, and_self, and_true, true_and, decide_eq_true_eq, decide_true, decide_false, List.length_map, ixN_31, ixN_32, ixN_30, wipeE, restE, lcQ, Option.getD_some, add_i, add_t, add_l, sub_i, mul_i, mul_l, fdiv_i, mod_i, pow_18, neg_i, lt_i, le_i, gt_i, ge_i, eq_i, ne_i, eq_b, len_t, len_ft, len_l, len_r, abs_i, int_i, list_t, list_ft, list_l, list_r, tuple_t, tuple_ft, tuple_l, isi_i, isi_b, isi_s, isi_t, isi_ft, isi_l, isi_r, isi_n, tru_b, tru_i, tru_t, tru_ft, tru_l, tru_n, isN_n, isN_b, isN_i, isN_s, isN_t, isN_l, ix_t, ix_ft, ix_l, ix_r, ix_ref, setS_ref, atI_0, atI_1, atI_2, Option.map_some, Option.map_none, kb0, kb1, kb2, kb3, kb4, kb5, kb6, kb7, kb8, kb9, kb10, kb11, kb12, kb13, kb14, kb15, kb16, kb17, kb18, kb19, kb20, kb21, kb22, kb23, kb24, kb25, kb26, kb27, kb28, kb29, sz0, szl0, sz1, szl1, sz2, szl2, sz3, szl3, sz4, szl4, sz5, szl5, sz6, szl6, sz7, szl7, sz8, szl8, sz9, szl9, sz10, szl10, sz11, szl11, sz12, szl12, sz13, szl13, sz14, szl14, sz15, szl15, sz16, szl16, sz17, szl17, sz18, szl18, sz19, szl19, sz20, szl20, sz21, szl21, sz22, szl22, sz23, szl23, sz24, szl24, sz25, szl25, sz26, szl26, sz27, szl27, sz28, szl28, sz29, szl29, sz30, szl30, sz31, szl31, sz32, szl32, sz33, szl33, sz34, szl34, sz35, szl35, sz36, szl36, sz37, szl37, sz38, szl38, sz39, szl39, sz40, szl40, n1, n2, n3]
theorem q_s21 : ∀ y ∈ noQ, d_law_k78_s21 (E78 sc s3 s4 s5 s6 s7 s8 s9 (.v (.ref 15)) (.v y) s12 s13 s14 s15 s16) (x :: C7) = .nx (E78 sc s3 s4 s5 s6 s7 s8 s9 (.v (.ref 15)) (.v y) s12 s13 s14 s15 s16) (x :: C7) := by
  intro y hy
  suffices h : wpS d_law_k78_s21 (E78 sc s3 s4 s5 s6 s7 s8 s9 (.v (.ref 15)) (.v y) s12 s13 s14 s15 s16) (x :: C7) fun o => o = .nx (E78 sc s3 s4 s5 s6 s7 s8 s9 (.v (.ref 15)) (.v y) s12 s13 s14 s15 s16) (x :: C7) from h
  have n1 : ∀ S : Stor, neP S (.str "entry") (.str "entry") = some (.bl false) := fun S => by kernel_rfl
  have n2 : ∀ S : Stor, neP S (.str "") (.str "") = some (.bl false) := fun S => by kernel_rfl
  unfold d_law_k78_s21 E78
  simp only [List.map, List.replicate, List.cons_append, List.nil_append, List.length_cons, List.length_nil, Nat.reduceAdd, bq_ok, bq_ex, wp_pure, wp_fail, wp_getS, oQ_some, oQ_ite, bqS_ok, bqS_ex, wpS_seq, sqS_nx, sqS_rt, sqS_bk, sqS_ct, sqS_ex, wpS_next, wpS_break, wpS_cont, wpS_retN, wpS_setT, stQ_some, wp_C, wp_call, wp_callv, bqF_ok, bqF_ex, wp_new, wp_newv, fqS_nx, fqS_rt, fqS_ex, wpS_for, wp_comp, wp_dVar, vQ_v, vQ_o, List.getElem?_cons_zero, List.getElem?_cons_succ, List.set_cons_zero, List.set_cons_succ, wp_d1, wp_k1, wp_d2, wp_k2, wp_k2b, wp_dT, wp_kT, wp_dTru, wp_kTru, wp_dNotT, wp_kNot, wp_dAndT, wp_kAnd, wp_dOrT, wp_kOr, wp_dAndV, wp_kAndV, wp_kAndVb, wp_dOrV, wp_kOrV, wp_kOrVb, wp_dNotV, wp_kNotV, wp_kNotVb, wp_dIf, wp_kIf, wp_dChain, wp_kCh, wp_kCh2, wp_kCh3, wp_aNil, wp_aCons, wp_kCons, wp_kCons2, wp_dTup, wp_kTup, wp_dLst, wp_kLst, wp_dN, wp_kN, wp_dLs, wp_kLs, wp_lDisp, wp_kDisp, wp_lRng, wp_kRng, wp_dItR, wp_kItR, wp_dItS, wp_kItS, wp_tTrue, wp_oNo, wp_oSome, wp_kSome, wp_dSl, wp_kSl, wp_kSl1, wp_kSl2, ws_ret, ws_kRet, ws_expr, ws_kExpr, ws_if, ws_kIfS, ws_set, ws_kSet, ws_setO, ws_kSetO, ws_kSetT, ws_setR, ws_kSetR0, ws_kSetR1, ws_kSetR2, items_t, items_ft, items_l, items_r, setAll, Bool.not_true, Bool.not_false, if_true, ite_true, ite_false, ↓reduceIte, Bool.false_eq_true, Int.reduceLT, Int.reduceLE, Nat.reduceLT, Nat.reduceLeDiff, Nat.reducePow, Int.reducePow, Int.reduceToNat, Int.reduceNeg, Int.reduceSub, Int.reduceAdd, and_self, and_true, true_and, decide_eq_true_eq, decide_true, decide_false, List.length_map, ixN_31, ixN_32, ixN_30, wipeE, restE, lcQ, Option.getD_some, add_i, add_t, add_l, sub_i, mul_i, mul_t, mul_l, fdiv_i, mod_i, pow_18, neg_i, lt_i, le_i, gt_i, ge_i, eq_i, ne_i, eq_b, len_t, len_ft, len_l, len_r, abs_i, int_i, list_t, list_ft, list_l, list_r, tuple_t, tuple_ft, tuple_l, isi_i, isi_b, isi_s, isi_t, isi_ft, isi_l, isi_r, isi_n, tru_b, tru_i, tru_t, tru_ft, tru_l, tru_n, isN_n, isN_b, isN_i, isN_s, isN_t, isN_l, ix_t, ix_ft, ix_l, ix_r, ix_ref, setS_ref, atI_0, atI_1, atI_2, Option.map_some, Option.map_none, kb0, kb1, kb2, kb3, kb4, kb5, kb6, kb7, kb8, kb9, kb10, kb11, kb12, kb13, kb14, kb15, kb16, kb17, kb18, kb19, kb20, kb21, kb22, kb23, kb24, kb25, kb26, kb27, kb28, kb29, sz0, szl0, sz1, szl1, sz2, szl2, sz3, szl3, sz4, szl4, sz5, szl5, sz6, szl6, sz7, szl7, sz8, szl8, sz9, szl9, sz10, szl10, sz11, szl11, sz12, szl12, sz13, szl13, sz14, szl14, sz15, szl15, sz16, szl16, sz17, szl17, sz18, szl18, sz19, szl19, sz20, szl20, sz21, szl21, sz22, szl22, sz23, szl23, sz24, szl24, sz25, szl25, sz26, szl26, sz27, szl27, sz28, szl28, sz29, szl29, sz30, szl30, sz31, szl31, sz32, szl32, sz33, szl33, sz34, szl34, sz35, szl35, sz36, szl36, sz37, szl37, sz38, szl38, sz39, szl39, sz40, szl40, n1, n2]
  refine wpF_is q_21a ?_
  simp only [List.map, List.replicate, List.cons_append, List.nil_append, List.length_cons, List.length_nil, Nat.reduceAdd, bq_ok, bq_ex, wp_pure, wp_fail, wp_getS, oQ_some, oQ_ite, bqS_ok, bqS_ex, wpS_seq, sqS_nx, sqS_rt, sqS_bk, sqS_ct, sqS_ex, wpS_next, wpS_break, wpS_cont, wpS_retN, wpS_setT, stQ_some, wp_C, wp_call, wp_callv, bqF_ok, bqF_ex, wp_new, wp_newv, fqS_nx, fqS_rt, fqS_ex, wpS_for, wp_comp, wp_dVar, vQ_v, vQ_o, List.getElem?_cons_zero, List.getElem?_cons_succ, List.set_cons_zero, List.set_cons_succ, wp_d1, wp_k1, wp_d2, wp_k2, wp_k2b, wp_dT, wp_kT, wp_dTru, wp_kTru, wp_dNotT, wp_kNot, wp_dAndT, wp_kAnd, wp_dOrT, wp_kOr, wp_dAndV, wp_kAndV, wp_kAndVb, wp_dOrV, wp_kOrV, wp_kOrVb, wp_dNotV, wp_kNotV, wp_kNotVb, wp_dIf, wp_kIf, wp_dChain, wp_kCh, wp_kCh2, wp_kCh3, wp_aNil, wp_aCons, wp_kCons, wp_kCons2, wp_dTup, wp_kTup, wp_dLst, wp_kLst, wp_dN, wp_kN, wp_dLs, wp_kLs, wp_lDisp, wp_kDisp, wp_lRng, wp_kRng, wp_dItR, wp_kItR, wp_dItS, wp_kItS, wp_tTrue, wp_oNo, wp_oSome, wp_kSome, wp_dSl, wp_kSl, wp_kSl1, wp_kSl2, ws_ret, ws_kRet, ws_expr, ws_kExpr, ws_if, ws_kIfS, ws_set, ws_kSet, ws_setO, ws_kSetO, ws_kSetT, ws_setR, ws_kSetR0, ws_kSetR1, ws_kSetR2, items_t, items_ft, items_l, items_r, setAll, Bool.not_true, Bool.not_false, if_true, ite_true, ite_false, ↓reduceIte, Bool.false_eq_true, Int.reduceLT, Int.reduceLE, Nat.reduceLT, Nat.reduceLeDiff, Nat.reducePow, Int.reducePow, Int.reduceToNat, Int.reduceNeg, Int.reduceSub, Int.reduceAdd, and_self, and_true, true_and, decide_eq_true_eq, decide_true, decide_false, List.length_map, ixN_31, ixN_32, ixN_30, wipeE, restE, lcQ, Option.getD_some, add_i, add_t, add_l, sub_i, mul_i, mul_t, mul_l, fdiv_i, mod_i, pow_18, neg_i, lt_i, le_i, gt_i, ge_i, eq_i, ne_i, eq_b, len_t, len_ft, len_l, len_r, abs_i, int_i, list_t, list_ft, list_l, list_r, tuple_t, tuple_ft, tuple_l, isi_i, isi_b, isi_s, isi_t, isi_ft, isi_l, isi_r, isi_n, tru_b, tru_i, tru_t, tru_ft, tru_l, tru_n, isN_n, isN_b, isN_i, isN_s, isN_t, isN_l, ix_t, ix_ft, ix_l, ix_r, ix_ref, setS_ref, atI_0, atI_1, atI_2, Option.map_some, Option.map_none, kb0, kb1, kb2, kb3, kb4, kb5, kb6, kb7, kb8, kb9, kb10, kb11, kb12, kb13, kb14, kb15, kb16, kb17, kb18, kb19, kb20, kb21, kb22, kb23, kb24, kb25, kb26, kb27, kb28, kb29, sz0, szl0, sz1, szl1, sz2, szl2, sz3, szl3, sz4, szl4, sz5, szl5, sz6, szl6, sz7, szl7, sz8, szl8, sz9, szl9, sz10, szl10, sz11, szl11, sz12, szl12, sz13, szl13, sz14, szl14, sz15, szl15, sz16, szl16, sz17, szl17, sz18, szl18, sz19, szl19, sz20, szl20, sz21, szl21, sz22, szl22, sz23, szl23, sz24, szl24, sz25, szl25, sz26, szl26, sz27, szl27, sz28, szl28, sz29, szl29, sz30, szl30, sz31, szl31, sz32, szl32, sz33, szl33, sz34, szl34, sz35, szl35, sz36, szl36, sz37, szl37, sz38, szl38, sz39, szl39, sz40, szl40, n1, n2]
  refine q_21b ?_
  simp only [List.map, List.replicate, List.cons_append, List.nil_append, List.length_cons, List.length_nil, Nat.reduceAdd, bq_ok, bq_ex, wp_pure, wp_fail, wp_getS, oQ_some, oQ_ite, bqS_ok, bqS_ex, wpS_seq, sqS_nx, sqS_rt, sqS_bk, sqS_ct, sqS_ex, wpS_next, wpS_break, wpS_cont, wpS_retN, wpS_setT, stQ_some, wp_C, wp_call, wp_callv, bqF_ok, bqF_ex, wp_new, wp_newv, fqS_nx, fqS_rt, fqS_ex, wpS_for, wp_comp, wp_dVar, vQ_v, vQ_o, List.getElem?_cons_zero, List.getElem?_cons_succ, List.set_cons_zero, List.set_cons_succ, wp_d1, wp_k1, wp_d2, wp_k2, wp_k2b, wp_dT, wp_kT, wp_dTru, wp_kTru, wp_dNotT, wp_kNot, wp_dAndT, wp_kAnd, wp_dOrT, wp_kOr, wp_dAndV, wp_kAndV, wp_kAndVb, wp_dOrV, wp_kOrV, wp_kOrVb, wp_dNotV, wp_kNotV, wp_kNotVb, wp_dIf, wp_kIf, wp_dChain, wp_kCh, wp_kCh2, wp_kCh3, wp_aNil, wp_aCons, wp_kCons, wp_kCons2, wp_dTup, wp_kTup, wp_dLst, wp_kLst, wp_dN, wp_kN, wp_dLs, wp_kLs, wp_lDisp, wp_kDisp, wp_lRng, wp_kRng, wp_dItR, wp_kItR, wp_dItS, wp_kItS, wp_tTrue, wp_oNo, wp_oSome, wp_kSome, wp_dSl, wp_kSl, wp_kSl1, wp_kSl2, ws_ret, ws_kRet, ws_expr, ws_kExpr, ws_if, ws_kIfS, ws_set, ws_kSet, ws_setO, ws_kSetO, ws_kSetT, ws_setR, ws_kSetR0, ws_kSetR1, ws_kSetR2, items_t, items_ft, items_l, items_r, setAll, Bool.not_true, Bool.not_false, if_true, ite_true, ite_false, ↓reduceIte, Bool.false_eq_true, Int.reduceLT, Int.reduceLE, Nat.reduceLT, Nat.reduceLeDiff, Nat.reducePow, Int.reducePow, Int.reduceToNat, Int.reduceNeg, Int.reduceSub, Int.reduceAdd, and_self, and_true, true_and, decide_eq_true_eq, decide_true, decide_false, List.length_map, ixN_31, ixN_32, ixN_30, wipeE, restE, lcQ, Option.getD_some, add_i, add_t, add_l, sub_i, mul_i, mul_t, mul_l, fdiv_i, mod_i, pow_18, neg_i, lt_i, le_i, gt_i, ge_i, eq_i, ne_i, eq_b, len_t, len_ft, len_l, len_r, abs_i, int_i, list_t, list_ft, list_l, list_r, tuple_t, tuple_ft, tuple_l, isi_i, isi_b, isi_s, isi_t, isi_ft, isi_l, isi_r, isi_n, tru_b, tru_i, tru_t, tru_ft, tru_l, tru_n, isN_n, isN_b, isN_i, isN_s, isN_t, isN_l, ix_t, ix_ft, ix_l, ix_r, ix_ref, setS_ref, atI_0, atI_1, atI_2, Option.map_some, Option.map_none, kb0, kb1, kb2, kb3, kb4, kb5, kb6, kb7, kb8, kb9, kb10, kb11, kb12, kb13, kb14, kb15, kb16, kb17, kb18, kb19, kb20, kb21, kb22, kb23, kb24, kb25, kb26, kb27, kb28, kb29, sz0, szl0, sz1, szl1, sz2, szl2, sz3, szl3, sz4, szl4, sz5, szl5, sz6, szl6, sz7, szl7, sz8, szl8, sz9, szl9, sz10, szl10, sz11, szl11, sz12, szl12, sz13, szl13, sz14, szl14, sz15, szl15, sz16, szl16, sz17, szl17, sz18, szl18, sz19, szl19, sz20, szl20, sz21, szl21, sz22, szl22, sz23, szl23, sz24, szl24, sz25, szl25, sz26, szl26, sz27, szl27, sz28, szl28, sz29, szl29, sz30, szl30, sz31, szl31, sz32, szl32, sz33, szl33, sz34, szl34, sz35, szl35, sz36, szl36, sz37, szl37, sz38, szl38, sz39, szl39, sz40, szl40, n1, n2]
  refine wpF_is (q_21c y hy) ?_
  simp only [List.map, List.replicate, List.cons_append, List.nil_append, List.length_cons, List.length_nil, Nat.reduceAdd, bq_ok, bq_ex, wp_pure, wp_fail, wp_getS, oQ_some, oQ_ite, bqS_ok, bqS_ex, wpS_seq, sqS_nx, sqS_rt, sqS_bk, sqS_ct, sqS_ex, wpS_next, wpS_break, wpS_cont, wpS_retN, wpS_setT, stQ_some, wp_C, wp_call, wp_callv, bqF_ok, bqF_ex, wp_new, wp_newv, fqS_nx, fqS_rt, fqS_ex, wpS_for, wp_comp, wp_dVar, vQ_v, vQ_o, List.getElem?_cons_zero, List.getElem?_cons_succ, List.set_cons_zero, List.set_cons_succ, wp_d1, wp_k1, wp_d2, wp_k2, wp_k2b, wp_dT, wp_kT, wp_dTru, wp_kTru, wp_dNotT, wp_kNot, wp_dAndT, wp_kAnd, wp_dOrT, wp_kOr, wp_dAndV, wp_kAndV, wp_kAndVb, wp_dOrV, wp_kOrV, wp_kOrVb, wp_dNotV, wp_kNotV, wp_kNotVb, wp_dIf, wp_kIf, wp_dChain, wp_kCh, wp_kCh2, wp_kCh3, wp_aNil, wp_aCons, wp_kCons, wp_kCons2, wp_dTup, wp_kTup, wp_dLst, wp_kLst, wp_dN, wp_kN, wp_dLs, wp_kLs, wp_lDisp, wp_kDisp, wp_lRng, wp_kRng, wp_dItR, wp_kItR, wp_dItS, wp_kItS, wp_tTrue, wp_oNo, wp_oSome, wp_kSome, wp_dSl, wp_kSl, wp_kSl1, wp_kSl2, ws_ret, ws_kRet, ws_expr, ws_kExpr, ws_if, ws_kIfS, ws_set, ws_kSet, ws_setO, ws_kSetO, ws_kSetT, ws_setR, ws_kSetR0, ws_kSetR1, ws_kSetR2, items_t, items_ft, items_l, items_r, setAll, Bool.not_true, Bool.not_false, if_true, ite_true, ite_false, ↓reduceIte, Bool.false_eq_true, Int.reduceLT, Int.reduceLE, Nat.reduceLT, Nat.reduceLeDiff, Nat.reducePow, Int.reducePow, Int.reduceToNat, Int.reduceNeg, Int.reduceSub, Int.reduceAdd, and_self, and_true, true_and, decide_eq_true_eq, decide_true, decide_false, List.length_map, ixN_31, ixN_32, ixN_30, wipeE, restE, lcQ, Option.getD_some, add_i, add_t, add_l, sub_i, mul_i, mul_t, mul_l, fdiv_i, mod_i, pow_18, neg_i, lt_i, le_i, gt_i, ge_i, eq_i, ne_i, eq_b, len_t, len_ft, len_l, len_r, abs_i, int_i, list_t, list_ft, list_l, list_r, tuple_t, tuple_ft, tuple_l, isi_i, isi_b, isi_s, isi_t, isi_ft, isi_l, isi_r, isi_n, tru_b, tru_i, tru_t, tru_ft, tru_l, tru_n, isN_n, isN_b, isN_i, isN_s, isN_t, isN_l, ix_t, ix_ft, ix_l, ix_r, ix_ref, setS_ref, atI_0, atI_1, atI_2, Option.map_some, Option.map_none, kb0, kb1, kb2, kb3, kb4, kb5, kb6, kb7, kb8, kb9, kb10, kb11, kb12, kb13, kb14, kb15, kb16, kb17, kb18, kb19, kb20, kb21, kb22, kb23, kb24, kb25, kb26, kb27, kb28, kb29, sz0, szl0, sz1, szl1, sz2, szl2, sz3, szl3, sz4, szl4, sz5, szl5, sz6, szl6, sz7, szl7, sz8, szl8, sz9, szl9, sz10, szl10, sz11, szl11, sz12, szl12, sz13, szl13, sz14, szl14, sz15, szl15, sz16, szl16, sz17, szl17, sz18, szl18, sz19, szl19, sz20, szl20, sz21, szl21, sz22, szl22, sz23, szl23, sz24, szl24, sz25, szl25, sz26, szl26, sz27, szl27, sz28, szl28, sz29, szl29, sz30, szl30, sz31, szl31, sz32, szl32, sz33, szl33, sz34, szl34, sz35, szl35, sz36, szl36, sz37, szl37, sz38, szl38, sz39, szl39, sz40, szl40, n1, n2]
end
theorem law_true : ∀ ns : List Int, ns.length ≤ 63 → ∃ S', d_law_k78 [.rol (ns.map PV.int)] [] = .ok (.bl true) S' := by
  intro ns _
  suffices h : wpF d_law_k78 [.rol (ns.map PV.int)] [] QT78 from h
  unfold d_law_k78
  refine wpF_go rfl ?_
  unfold d_law_k78_b0; rw [wpS_seq]; unfold d_law_k78_s0
  simp only [List.map, List.replicate, List.cons_append, List.nil_append, List.length_cons, List.length_nil, Nat.reduceAdd, bq_ok, bq_ex, wp_pure, wp_fail, wp_getS, oQ_some, oQ_ite, bqS_ok, bqS_ex, wpS_seq, sqS_nx, sqS_rt, sqS_bk, sqS_ct, sqS_ex, wpS_next, wpS_break, wpS_cont, wpS_retN, wpS_setT, stQ_some, wp_C, wp_call, wp_callv, bqF_ok, bqF_ex, wp_new, wp_newv, fqS_nx, fqS_rt, fqS_ex, wpS_for, wp_comp, wp_dVar, vQ_v, vQ_o, List.getElem?_cons_zero, List.getElem?_cons_succ, List.set_cons_zero, List.set_cons_succ, wp_d1, wp_k1, wp_d2, wp_k2, wp_k2b, wp_dT, wp_kT, wp_dTru, wp_kTru, wp_dNotT, wp_kNot, wp_dAndT, wp_kAnd, wp_dOrT, wp_kOr, wp_dAndV, wp_kAndV, wp_kAndVb, wp_dOrV, wp_kOrV, wp_kOrVb, wp_dNotV, wp_kNotV, wp_kNotVb, wp_dIf, wp_kIf, wp_dChain, wp_kCh, wp_kCh2, wp_kCh3, wp_aNil, wp_aCons, wp_kCons, wp_kCons2, wp_dTup, wp_kTup, wp_dLst, wp_kLst, wp_dN, wp_kN, wp_dLs, wp_kLs, wp_lDisp, wp_kDisp, wp_lRng, wp_kRng, wp_dItR, wp_kItR, wp_dItS, wp_kItS, wp_tTrue, wp_oNo, wp_oSome, wp_kSome, wp_dSl, wp_kSl, wp_kSl1, wp_kSl2, ws_ret, ws_kRet, ws_expr, ws_kExpr, ws_if, ws_kIfS, ws_set, ws_kSet, ws_setO, ws_kSetO, ws_kSetT, ws_setR, ws_kSetR0, ws_kSetR1, ws_kSetR2, items_t, items_ft, items_l, items_r, setAll, Bool.not_true, Bool.not_false, if_true, ite_true, ite_false, ↓reduceIte, Bool.false_eq_true, Int.reduceLT, Int.reduceLE, Nat.reduceLT, Nat.reduceLeDiff, Nat.reducePow, Int.reducePow, Int.reduceToNat, Int.reduceNeg, Int.reduceSub, Int.reduceAdd, and_self, and_true, true_and, decide_eq_true_eq, decide_true, decide_false, List.length_map, ixN_31, ixN_32, ixN_30, wipeE, restE, lcQ, Option.getD_some, add_i, add_t, add_l, sub_i, mul_i, mul_t, mul_l, fdiv_i, mod_i, pow_18, neg_i, lt_i, le_i, gt_i, ge_i, eq_i, ne_i, eq_b, len_t, len_ft, len_l, len_r, abs_i, int_i, list_t, list_ft, list_l, list_r, tuple_t, tuple_ft, tuple_l, isi_i, isi_b, isi_s, isi_t, isi_ft, isi_l, isi_r, isi_n, tru_b, tru_i, tru_t, tru_ft, tru_l, tru_n, isN_n, isN_b, isN_i, isN_s, isN_t, isN_l, ix_t, ix_ft, ix_l, ix_r, ix_ref, setS_ref, atI_0, atI_1, atI_2, Option.map_some, Option.map_none, kb0, kb1, kb2, kb3, kb4, kb5, kb6, kb7, kb8, kb9, kb10, kb11, kb12, kb13, kb14, kb15, kb16, kb17, kb18, kb19, kb20, kb21, kb22, kb23, kb24, kb25, kb26, kb27, kb28, kb29, sz0, szl0, sz1, szl1, sz2, szl2, sz3, szl3, sz4, szl4, sz5, szl5, sz6, szl6, sz7, szl7, sz8, szl8, sz9, szl9, sz10, szl10, sz11, szl11, sz12, szl12, sz13, szl13, sz14, szl14, sz15, szl15, sz16, szl16, sz17, szl17, sz18, szl18, sz19, szl19, sz20, szl20, sz21, szl21, sz22, szl22, sz23, szl23, sz24, szl24, sz25, szl25, sz26, szl26, sz27, szl27, sz28, szl28, sz29, szl29, sz30, szl30, sz31, szl31, sz32, szl32, sz33, szl33, sz34, szl34, sz35, szl35, sz36, szl36, sz37, szl37, sz38, szl38, sz39, szl39, sz40, szl40]
  refine wp_stream fun S1 h1 => ?_
  simp only [List.map, List.replicate, List.cons_append, List.nil_append, List.length_cons, List.length_nil, Nat.reduceAdd, bq_ok, bq_ex, wp_pure, wp_fail, wp_getS, oQ_some, oQ_ite, bqS_ok, bqS_ex, wpS_seq, sqS_nx, sqS_rt, sqS_bk, sqS_ct, sqS_ex, wpS_next, wpS_break, wpS_cont, wpS_retN, wpS_setT, stQ_some, wp_C, wp_call, wp_callv, bqF_ok, bqF_ex, wp_new, wp_newv, fqS_nx, fqS_rt, fqS_ex, wpS_for, wp_comp, wp_dVar, vQ_v, vQ_o, List.getElem?_cons_zero, List.getElem?_cons_succ, List.set_cons_zero, List.set_cons_succ, wp_d1, wp_k1, wp_d2, wp_k2, wp_k2b, wp_dT, wp_kT, wp_dTru, wp_kTru, wp_dNotT, wp_kNot, wp_dAndT, wp_kAnd, wp_dOrT, wp_kOr, wp_dAndV, wp_kAndV, wp_kAndVb, wp_dOrV, wp_kOrV, wp_kOrVb, wp_dNotV, wp_kNotV, wp_kNotVb, wp_dIf, wp_kIf, wp_dChain, wp_kCh, wp_kCh2, wp_kCh3, wp_aNil, wp_aCons, wp_kCons, wp_kCons2, wp_dTup, wp_kTup, wp_dLst, wp_kLst, wp_dN, wp_kN, wp_dLs, wp_kLs, wp_lDisp, wp_kDisp, wp_lRng, wp_kRng, wp_dItR, wp_kItR, wp_dItS, wp_kItS, wp_tTrue, wp_oNo, wp_oSome, wp_kSome, wp_dSl, wp_kSl, wp_kSl1, wp_kSl2, ws_ret, ws_kRet, ws_expr, ws_kExpr, ws_if, ws_kIfS, ws_set, ws_kSet, ws_setO, ws_kSetO, ws_kSetT, ws_setR, ws_kSetR0, ws_kSetR1, ws_kSetR2, items_t, items_ft, items_l, items_r, setAll, Bool.not_true, Bool.not_false, if_true, ite_true, ite_false, ↓reduceIte, Bool.false_eq_true, Int.reduceLT, Int.reduceLE, Nat.reduceLT, Nat.reduceLeDiff, Nat.reducePow, Int.reducePow, Int.reduceToNat, Int.reduceNeg, Int.reduceSub, Int.reduceAdd, and_self, and_true, true_and, decide_eq_true_eq, decide_true, decide_false, List.length_map, ixN_31, ixN_32, ixN_30, wipeE, restE, lcQ, Option.getD_some, add_i, add_t, add_l, sub_i, mul_i, mul_t, mul_l, fdiv_i, mod_i, pow_18, neg_i, lt_i, le_i, gt_i, ge_i, eq_i, ne_i, eq_b, len_t, len_ft, len_l, len_r, abs_i, int_i, list_t, list_ft, list_l, list_r, tuple_t, tuple_ft, tuple_l, isi_i, isi_b, isi_s, isi_t, isi_ft, isi_l, isi_r, isi_n, tru_b, tru_i, tru_t, tru_ft, tru_l, tru_n, isN_n, isN_b, isN_i, isN_s, isN_t, isN_l, ix_t, ix_ft, ix_l, ix_r, ix_ref, setS_ref, atI_0, atI_1, atI_2, Option.map_some, Option.map_none, kb0, kb1, kb2, kb3, kb4, kb5, kb6, kb7, kb8, kb9, kb10, kb11, kb12, kb13, kb14, kb15, kb16, kb17, kb18, kb19, kb20, kb21, kb22, kb23, kb24, kb25, kb26, kb27, kb28, kb29, sz0, szl0, sz1, szl1, sz2, szl2, sz3, szl3, sz4, szl4, sz5, szl5, sz6, szl6, sz7, szl7, sz8, szl8, sz9, szl9, sz10, szl10, sz11, szl11, sz12, szl12, sz13, szl13, sz14, szl14, sz15, szl15, sz16, szl16, sz17, szl17, sz18, szl18, sz19, szl19, sz20, szl20, sz21, szl21, sz22, szl22, sz23, szl23, sz24, szl24, sz25, szl25, sz26, szl26, sz27, szl27, sz28, szl28, sz29, szl29, sz30, szl30, sz31, szl31, sz32, szl32, sz33, szl33, sz34, szl34, sz35, szl35, sz36, szl36, sz37, szl37, sz38, szl38, sz39, szl39, sz40, szl40]
  have one : ∀ {S : Stor}, SInv [] S → ∃ x, S = [x] := fun h => by obtain ⟨_, _, _, rfl, _⟩ := h; exact ⟨_, rfl⟩
  unfold d_law_k78_b1; rw [wpS_seq]; unfold d_law_k78_s1
  simp only [List.map, List.replicate, List.cons_append, List.nil_append, List.length_cons, List.length_nil, Nat.reduceAdd, bq_ok, bq_ex, wp_pure, wp_fail, wp_getS, oQ_some, oQ_ite, bqS_ok, bqS_ex, wpS_seq, sqS_nx, sqS_rt, sqS_bk, sqS_ct, sqS_ex, wpS_next, wpS_break, wpS_cont, wpS_retN, wpS_setT, stQ_some, wp_C, wp_call, wp_callv, bqF_ok, bqF_ex, wp_new, wp_newv, fqS_nx, fqS_rt, fqS_ex, wpS_for, wp_comp, wp_dVar, vQ_v, vQ_o, List.getElem?_cons_zero, List.getElem?_cons_succ, List.set_cons_zero, List.set_cons_succ, wp_d1, wp_k1, wp_d2, wp_k2, wp_k2b, wp_dT, wp_kT, wp_dTru, wp_kTru, wp_dNotT, wp_kNot, wp_dAndT, wp_kAnd, wp_dOrT, wp_kOr, wp_dAndV, wp_kAndV, wp_kAndVb, wp_dOrV, wp_kOrV, wp_kOrVb, wp_dNotV, wp_kNotV, wp_kNotVb, wp_dIf, wp_kIf, wp_dChain, wp_kCh, wp_kCh2, wp_kCh3, wp_aNil, wp_aCons, wp_kCons, wp_kCons2, wp_dTup, wp_kTup, wp_dLst, wp_kLst, wp_dN, wp_kN, wp_dLs, wp_kLs, wp_lDisp, wp_kDisp, wp_lRng, wp_kRng, wp_dItR, wp_kItR, wp_dItS, wp_kItS, wp_tTrue, wp_oNo, wp_oSome, wp_kSome, wp_dSl, wp_kSl, wp_kSl1, wp_kSl2, ws_ret, ws_kRet, ws_expr, ws_kExpr, ws_if, ws_kIfS, ws_set, ws_kSet, ws_setO, ws_kSetO, ws_kSetT, ws_setR, ws_kSetR0, ws_kSetR1, ws_kSetR2, items_t, items_ft, items_l, items_r, setAll, Bool.not_true, Bool.not_false, if_true, ite_true, ite_false, ↓reduceIte, Bool.false_eq_true, Int.reduceLT, Int.reduceLE, Nat.reduceLT, Nat.reduceLeDiff, Nat.reducePow, Int.reducePow, Int.reduceToNat, Int.reduceNeg, Int.reduceSub, Int.reduceAdd, and_self, and_true, true_and, decide_eq_true_eq, decide_true, decide_false, List.length_map, ixN_31, ixN_32, ixN_30, wipeE, restE, lcQ, Option.getD_some, add_i, add_t, add_l, sub_i, mul_i, mul_t, mul_l, fdiv_i, mod_i, pow_18, neg_i, lt_i, le_i, gt_i, ge_i, eq_i, ne_i, eq_b, len_t, len_ft, len_l, len_r, abs_i, int_i, list_t, list_ft, list_l, list_r, tuple_t, tuple_ft, tuple_l, isi_i, isi_b, isi_s, isi_t, isi_ft, isi_l, isi_r, isi_n, tru_b, tru_i, tru_t, tru_ft, tru_l, tru_n, isN_n, isN_b, isN_i, isN_s, isN_t, isN_l, ix_t, ix_ft, ix_l, ix_r, ix_ref, setS_ref, atI_0, atI_1, atI_2, Option.map_some, Option.map_none, kb0, kb1, kb2, kb3, kb4, kb5, kb6, kb7, kb8, kb9, kb10, kb11, kb12, kb13, kb14, kb15, kb16, kb17, kb18, kb19, kb20, kb21, kb22, kb23, kb24, kb25, kb26, kb27, kb28, kb29, sz0, szl0, sz1, szl1, sz2, szl2, sz3, szl3, sz4, szl4, sz5, szl5, sz6, szl6, sz7, szl7, sz8, szl8, sz9, szl9, sz10, szl10, sz11, szl11, sz12, szl12, sz13, szl13, sz14, szl14, sz15, szl15, sz16, szl16, sz17, szl17, sz18, szl18, sz19, szl19, sz20, szl20, sz21, szl21, sz22, szl22, sz23, szl23, sz24, szl24, sz25, szl25, sz26, szl26, sz27, szl27, sz28, szl28, sz29, szl29, sz30, szl30, sz31, szl31, sz32, szl32, sz33, szl33, sz34, szl34, sz35, szl35, sz36, szl36, sz37, szl37, sz38, szl38, sz39, szl39, sz40, szl40]
  obtain ⟨x1, rfl⟩ := one h1
  unfold d_law_k78_b2; rw [wpS_seq]
  refine (wpS_at (q_s2 (sc := .rol (ns.map PV.int)) (s3 := .un) (s4 := .un) (s5 := .un) (s6 := .un) (s7 := .un) (s8 := .un) (s9 := .un) (s10 := .un) (s11 := .un) (s12 := .un) (s13 := .un) (s14 := .un) (s15 := .un) (s16 := .un)) ?_ :)
  rw [sqS_nx]
  unfold d_law_k78_b3; rw [wpS_seq]
  refine wpS_at q_s3 ?_
  rw [sqS_nx]
  unfold d_law_k78_b4; rw [wpS_seq]; unfold d_law_k78_s4 E78
  simp only [List.map, List.replicate, List.cons_append, List.nil_append, List.length_cons, List.length_nil, Nat.reduceAdd, bq_ok, bq_ex, wp_pure, wp_fail, wp_getS, oQ_some, oQ_ite, bqS_ok, bqS_ex, wpS_seq, sqS_nx, sqS_rt, sqS_bk, sqS_ct, sqS_ex, wpS_next, wpS_break, wpS_cont, wpS_retN, wpS_setT, stQ_some, wp_C, wp_call, wp_callv, bqF_ok, bqF_ex, wp_new, wp_newv, fqS_nx, fqS_rt, fqS_ex, wpS_for, wp_comp, wp_dVar, vQ_v, vQ_o, List.getElem?_cons_zero, List.getElem?_cons_succ, List.set_cons_zero, List.set_cons_succ, wp_d1, wp_k1, wp_d2, wp_k2, wp_k2b, wp_dT, wp_kT, wp_dTru, wp_kTru, wp_dNotT, wp_kNot, wp_dAndT, wp_kAnd, wp_dOrT, wp_kOr, wp_dAndV, wp_kAndV, wp_kAndVb, wp_dOrV, wp_kOrV, wp_kOrVb, wp_dNotV, wp_kNotV, wp_kNotVb, wp_dIf, wp_kIf, wp_dChain, wp_kCh, wp_kCh2, wp_kCh3, wp_aNil, wp_aCons, wp_kCons, wp_kCons2, wp_dTup, wp_kTup, wp_dLst, wp_kLst, wp_dN, wp_kN, wp_dLs, wp_kLs, wp_lDisp, wp_kDisp, wp_lRng, wp_kRng, wp_dItR, wp_kItR, wp_dItS, wp_kItS, wp_tTrue, wp_oNo, wp_oSome, wp_kSome, wp_dSl, wp_kSl, wp_kSl1, wp_kSl2, ws_ret, ws_kRet, ws_expr, ws_kExpr, ws_if, ws_kIfS, ws_set, ws_kSet, ws_setO, ws_kSetO, ws_kSetT, ws_setR, ws_kSetR0, ws_kSetR1, ws_kSetR2, items_t, items_ft, items_l, items_r, setAll, Bool.not_true, Bool.not_false, if_true, ite_true, ite_false, ↓reduceIte, Bool.false_eq_true, Int.reduceLT, Int.reduceLE, Nat.reduceLT, Nat.reduceLeDiff, Nat.reducePow, Int.reducePow, Int.reduceToNat, Int.reduceNeg, Int.reduceSub, Int.reduceAdd, and_self, and_true, true_and, decide_eq_true_eq, decide_true, decide_false, List.length_map, ixN_31, ixN_32, ixN_30, wipeE, restE, lcQ, Option.getD_some, add_i, add_t, add_l, sub_i, mul_i, mul_t, mul_l, fdiv_i, mod_i, pow_18, neg_i, lt_i, le_i, gt_i, ge_i, eq_i, ne_i, eq_b, len_t, len_ft, len_l, len_r, abs_i, int_i, list_t, list_ft, list_l, list_r, tuple_t, tuple_ft, tuple_l, isi_i, isi_b, isi_s, isi_t, isi_ft, isi_l, isi_r, isi_n, tru_b, tru_i, tru_t, tru_ft, tru_l, tru_n, isN_n, isN_b, isN_i, isN_s, isN_t, isN_l, ix_t, ix_ft, ix_l, ix_r, ix_ref, setS_ref, atI_0, atI_1, atI_2, Option.map_some, Option.map_none, kb0, kb1, kb2, kb3, kb4, kb5, kb6, kb7, kb8, kb9, kb10, kb11, kb12, kb13, kb14, kb15, kb16, kb17, kb18, kb19, kb20, kb21, kb22, kb23, kb24, kb25, kb26, kb27, kb28, kb29, sz0, szl0, sz1, szl1, sz2, szl2, sz3, szl3, sz4, szl4, sz5, szl5, sz6, szl6, sz7, szl7, sz8, szl8, sz9, szl9, sz10, szl10, sz11, szl11, sz12, szl12, sz13, szl13, sz14, szl14, sz15, szl15, sz16, szl16, sz17, szl17, sz18, szl18, sz19, szl19, sz20, szl20, sz21, szl21, sz22, szl22, sz23, szl23, sz24, szl24, sz25, szl25, sz26, szl26, sz27, szl27, sz28, szl28, sz29, szl29, sz30, szl30, sz31, szl31, sz32, szl32, sz33, szl33, sz34, szl34, sz35, szl35, sz36, szl36, sz37, szl37, sz38, szl38, sz39, szl39, sz40, szl40]
  refine wp_next h1 (by omega) (by omega) fun a S2 ha0 ha1 h2 => ?_
  obtain ⟨nos, hnos, ea⟩ := atI_some (xs := wrQ) ha0 (by show a < ((12 : Nat) : Int); exact ha1)
  simp only [List.map, List.replicate, List.cons_append, List.nil_append, List.length_cons, List.length_nil, Nat.reduceAdd, bq_ok, bq_ex, wp_pure, wp_fail, wp_getS, oQ_some, oQ_ite, bqS_ok, bqS_ex, wpS_seq, sqS_nx, sqS_rt, sqS_bk, sqS_ct, sqS_ex, wpS_next, wpS_break, wpS_cont, wpS_retN, wpS_setT, stQ_some, wp_C, wp_call, wp_callv, bqF_ok, bqF_ex, wp_new, wp_newv, fqS_nx, fqS_rt, fqS_ex, wpS_for, wp_comp, wp_dVar, vQ_v, vQ_o, List.getElem?_cons_zero, List.getElem?_cons_succ, List.set_cons_zero, List.set_cons_succ, wp_d1, wp_k1, wp_d2, wp_k2, wp_k2b, wp_dT, wp_kT, wp_dTru, wp_kTru, wp_dNotT, wp_kNot, wp_dAndT, wp_kAnd, wp_dOrT, wp_kOr, wp_dAndV, wp_kAndV, wp_kAndVb, wp_dOrV, wp_kOrV, wp_kOrVb, wp_dNotV, wp_kNotV, wp_kNotVb, wp_dIf, wp_kIf, wp_dChain, wp_kCh, wp_kCh2, wp_kCh3, wp_aNil, wp_aCons, wp_kCons, wp_kCons2, wp_dTup, wp_kTup, wp_dLst, wp_kLst, wp_dN, wp_kN, wp_dLs, wp_kLs, wp_lDisp, wp_kDisp, wp_lRng, wp_kRng, wp_dItR, wp_kItR, wp_dItS, wp_kItS, wp_tTrue, wp_oNo, wp_oSome, wp_kSome, wp_dSl, wp_kSl, wp_kSl1, wp_kSl2, ws_ret, ws_kRet, ws_expr, ws_kExpr, ws_if, ws_kIfS, ws_set, ws_kSet, ws_setO, ws_kSetO, ws_kSetT, ws_setR, ws_kSetR0, ws_kSetR1, ws_kSetR2, items_t, items_ft, items_l, items_r, setAll, Bool.not_true, Bool.not_false, if_true, ite_true, ite_false, ↓reduceIte, Bool.false_eq_true, Int.reduceLT, Int.reduceLE, Nat.reduceLT, Nat.reduceLeDiff, Nat.reducePow, Int.reducePow, Int.reduceToNat, Int.reduceNeg, Int.reduceSub, Int.reduceAdd, and_self, and_true, true_and, decide_eq_true_eq, decide_true, decide_false, List.length_map, ixN_31, ixN_32, ixN_30, wipeE, restE, lcQ, Option.getD_some, add_i, add_t, add_l, sub_i, mul_i, mul_t, mul_l, fdiv_i, mod_i, pow_18, neg_i, lt_i, le_i, gt_i, ge_i, eq_i, ne_i, eq_b, len_t, len_ft, len_l, len_r, abs_i, int_i, list_t, list_ft, list_l, list_r, tuple_t, tuple_ft, tuple_l, isi_i, isi_b, isi_s, isi_t, isi_ft, isi_l, isi_r, isi_n, tru_b, tru_i, tru_t, tru_ft, tru_l, tru_n, isN_n, isN_b, isN_i, isN_s, isN_t, isN_l, ix_t, ix_ft, ix_l, ix_r, ix_ref, setS_ref, atI_0, atI_1, atI_2, Option.map_some, Option.map_none, kb0, kb1, kb2, kb3, kb4, kb5, kb6, kb7, kb8, kb9, kb10, kb11, kb12, kb13, kb14, kb15, kb16, kb17, kb18, kb19, kb20, kb21, kb22, kb23, kb24, kb25, kb26, kb27, kb28, kb29, sz0, szl0, sz1, szl1, sz2, szl2, sz3, szl3, sz4, szl4, sz5, szl5, sz6, szl6, sz7, szl7, sz8, szl8, sz9, szl9, sz10, szl10, sz11, szl11, sz12, szl12, sz13, szl13, sz14, szl14, sz15, szl15, sz16, szl16, sz17, szl17, sz18, szl18, sz19, szl19, sz20, szl20, sz21, szl21, sz22, szl22, sz23, szl23, sz24, szl24, sz25, szl25, sz26, szl26, sz27, szl27, sz28, szl28, sz29, szl29, sz30, szl30, sz31, szl31, sz32, szl32, sz33, szl33, sz34, szl34, sz35, szl35, sz36, szl36, sz37, szl37, sz38, szl38, sz39, szl39, sz40, szl40, ea]
  obtain ⟨x2, rfl⟩ := one h2
  unfold d_law_k78_b5; rw [wpS_seq]
  refine (wpS_at (q_s5 (sc := .rol (ns.map PV.int)) (s3 := .v (.lst wrQ)) (s4 := .v nos) (s5 := .un) (s6 := .un) (s7 := .un) (s8 := .un) (s9 := .un) (s10 := .un) (s11 := .un) (s12 := .un) (s13 := .un) (s14 := .un) (s15 := .un) (s16 := .un)) ?_ :)
  rw [sqS_nx]
  unfold d_law_k78_b6; rw [wpS_seq]
  refine wpS_at q_s6 ?_
  rw [sqS_nx]
  unfold d_law_k78_b7; rw [wpS_seq]; unfold d_law_k78_s7 E78
  simp only [List.map, List.replicate, List.cons_append, List.nil_append, List.length_cons, List.length_nil, Nat.reduceAdd, bq_ok, bq_ex, wp_pure, wp_fail, wp_getS, oQ_some, oQ_ite, bqS_ok, bqS_ex, wpS_seq, sqS_nx, sqS_rt, sqS_bk, sqS_ct, sqS_ex, wpS_next, wpS_break, wpS_cont, wpS_retN, wpS_setT, stQ_some, wp_C, wp_call, wp_callv, bqF_ok, bqF_ex, wp_new, wp_newv, fqS_nx, fqS_rt, fqS_ex, wpS_for, wp_comp, wp_dVar, vQ_v, vQ_o, List.getElem?_cons_zero, List.getElem?_cons_succ, List.set_cons_zero, List.set_cons_succ, wp_d1, wp_k1, wp_d2, wp_k2, wp_k2b, wp_dT, wp_kT, wp_dTru, wp_kTru, wp_dNotT, wp_kNot, wp_dAndT, wp_kAnd, wp_dOrT, wp_kOr, wp_dAndV, wp_kAndV, wp_kAndVb, wp_dOrV, wp_kOrV, wp_kOrVb, wp_dNotV, wp_kNotV, wp_kNotVb, wp_dIf, wp_kIf, wp_dChain, wp_kCh, wp_kCh2, wp_kCh3, wp_aNil, wp_aCons, wp_kCons, wp_kCons2, wp_dTup, wp_kTup, wp_dLst, wp_kLst, wp_dN, wp_kN, wp_dLs, wp_kLs, wp_lDisp, wp_kDisp, wp_lRng, wp_kRng, wp_dItR, wp_kItR, wp_dItS, wp_kItS, wp_tTrue, wp_oNo, wp_oSome, wp_kSome, wp_dSl, wp_kSl, wp_kSl1, wp_kSl2, ws_ret, ws_kRet, ws_expr, ws_kExpr, ws_if, ws_kIfS, ws_set, ws_kSet, ws_setO, ws_kSetO, ws_kSetT, ws_setR, ws_kSetR0, ws_kSetR1, ws_kSetR2, items_t, items_ft, items_l, items_r, setAll, Bool.not_true, Bool.not_false, if_true, ite_true, ite_false, ↓reduceIte, Bool.false_eq_true, Int.reduceLT, Int.reduceLE, Nat.reduceLT, Nat.reduceLeDiff, Nat.reducePow, Int.reducePow, Int.reduceToNat, Int.reduceNeg, Int.reduceSub, Int.reduceAdd, and_self, and_true, true_and, decide_eq_true_eq, decide_true, decide_false, List.length_map, ixN_31, ixN_32, ixN_30, wipeE, restE, lcQ, Option.getD_some, add_i, add_t, add_l, sub_i, mul_i, mul_t, mul_l, fdiv_i, mod_i, pow_18, neg_i, lt_i, le_i, gt_i, ge_i, eq_i, ne_i, eq_b, len_t, len_ft, len_l, len_r, abs_i, int_i, list_t, list_ft, list_l, list_r, tuple_t, tuple_ft, tuple_l, isi_i, isi_b, isi_s, isi_t, isi_ft, isi_l, isi_r, isi_n, tru_b, tru_i, tru_t, tru_ft, tru_l, tru_n, isN_n, isN_b, isN_i, isN_s, isN_t, isN_l, ix_t, ix_ft, ix_l, ix_r, ix_ref, setS_ref, atI_0, atI_1, atI_2, Option.map_some, Option.map_none, kb0, kb1, kb2, kb3, kb4, kb5, kb6, kb7, kb8, kb9, kb10, kb11, kb12, kb13, kb14, kb15, kb16, kb17, kb18, kb19, kb20, kb21, kb22, kb23, kb24, kb25, kb26, kb27, kb28, kb29, sz0, szl0, sz1, szl1, sz2, szl2, sz3, szl3, sz4, szl4, sz5, szl5, sz6, szl6, sz7, szl7, sz8, szl8, sz9, szl9, sz10, szl10, sz11, szl11, sz12, szl12, sz13, szl13, sz14, szl14, sz15, szl15, sz16, szl16, sz17, szl17, sz18, szl18, sz19, szl19, sz20, szl20, sz21, szl21, sz22, szl22, sz23, szl23, sz24, szl24, sz25, szl25, sz26, szl26, sz27, szl27, sz28, szl28, sz29, szl29, sz30, szl30, sz31, szl31, sz32, szl32, sz33, szl33, sz34, szl34, sz35, szl35, sz36, szl36, sz37, szl37, sz38, szl38, sz39, szl39, sz40, szl40]
  refine wp_next h2 (by omega) (by omega) fun b S3 hb0 hb1 h3 => ?_
  obtain ⟨op, hop, eb⟩ := atI_some (xs := opQ) hb0 (by show b < ((18 : Nat) : Int); exact hb1)
  simp only [List.map, List.replicate, List.cons_append, List.nil_append, List.length_cons, List.length_nil, Nat.reduceAdd, bq_ok, bq_ex, wp_pure, wp_fail, wp_getS, oQ_some, oQ_ite, bqS_ok, bqS_ex, wpS_seq, sqS_nx, sqS_rt, sqS_bk, sqS_ct, sqS_ex, wpS_next, wpS_break, wpS_cont, wpS_retN, wpS_setT, stQ_some, wp_C, wp_call, wp_callv, bqF_ok, bqF_ex, wp_new, wp_newv, fqS_nx, fqS_rt, fqS_ex, wpS_for, wp_comp, wp_dVar, vQ_v, vQ_o, List.getElem?_cons_zero, List.getElem?_cons_succ, List.set_cons_zero, List.set_cons_succ, wp_d1, wp_k1, wp_d2, wp_k2, wp_k2b, wp_dT, wp_kT, wp_dTru, wp_kTru, wp_dNotT, wp_kNot, wp_dAndT, wp_kAnd, wp_dOrT, wp_kOr, wp_dAndV, wp_kAndV, wp_kAndVb, wp_dOrV, wp_kOrV, wp_kOrVb, wp_dNotV, wp_kNotV, wp_kNotVb, wp_dIf, wp_kIf, wp_dChain, wp_kCh, wp_kCh2, wp_kCh3, wp_aNil, wp_aCons, wp_kCons, wp_kCons2, wp_dTup, wp_kTup, wp_dLst, wp_kLst, wp_dN, wp_kN, wp_dLs, wp_kLs, wp_lDisp, wp_kDisp, wp_lRng, wp_kRng, wp_dItR, wp_kItR, wp_dItS, wp_kItS, wp_tTrue, wp_oNo, wp_oSome, wp_kSome, wp_dSl, wp_kSl, wp_kSl1, wp_kSl2, ws_ret, ws_kRet, ws_expr, ws_kExpr, ws_if, ws_kIfS, ws_set, ws_kSet, ws_setO, ws_kSetO, ws_kSetT, ws_setR, ws_kSetR0, ws_kSetR1, ws_kSetR2, items_t, items_ft, items_l, items_r, setAll, Bool.not_true, Bool.not_false, if_true, ite_true, ite_false, ↓reduceIte, Bool.false_eq_true, Int.reduceLT, Int.reduceLE, Nat.reduceLT, Nat.reduceLeDiff, Nat.reducePow, Int.reducePow, Int.reduceToNat, Int.reduceNeg, Int.reduceSub, Int.reduceAdd, and_self, and_true, true_and, decide_eq_true_eq, decide_true, decide_false, List.length_map, ixN_31, ixN_32, ixN_30, wipeE, restE, lcQ, Option.getD_some, add_i, add_t, add_l, sub_i, mul_i, mul_t, mul_l, fdiv_i, mod_i, pow_18, neg_i, lt_i, le_i, gt_i, ge_i, eq_i, ne_i, eq_b, len_t, len_ft, len_l, len_r, abs_i, int_i, list_t, list_ft, list_l, list_r, tuple_t, tuple_ft, tuple_l, isi_i, isi_b, isi_s, isi_t, isi_ft, isi_l, isi_r, isi_n, tru_b, tru_i, tru_t, tru_ft, tru_l, tru_n, isN_n, isN_b, isN_i, isN_s, isN_t, isN_l, ix_t, ix_ft, ix_l, ix_r, ix_ref, setS_ref, atI_0, atI_1, atI_2, Option.map_some, Option.map_none, kb0, kb1, kb2, kb3, kb4, kb5, kb6, kb7, kb8, kb9, kb10, kb11, kb12, kb13, kb14, kb15, kb16, kb17, kb18, kb19, kb20, kb21, kb22, kb23, kb24, kb25, kb26, kb27, kb28, kb29, sz0, szl0, sz1, szl1, sz2, szl2, sz3, szl3, sz4, szl4, sz5, szl5, sz6, szl6, sz7, szl7, sz8, szl8, sz9, szl9, sz10, szl10, sz11, szl11, sz12, szl12, sz13, szl13, sz14, szl14, sz15, szl15, sz16, szl16, sz17, szl17, sz18, szl18, sz19, szl19, sz20, szl20, sz21, szl21, sz22, szl22, sz23, szl23, sz24, szl24, sz25, szl25, sz26, szl26, sz27, szl27, sz28, szl28, sz29, szl29, sz30, szl30, sz31, szl31, sz32, szl32, sz33, szl33, sz34, szl34, sz35, szl35, sz36, szl36, sz37, szl37, sz38, szl38, sz39, szl39, sz40, szl40, eb]
  obtain ⟨x3, rfl⟩ := one h3
  unfold d_law_k78_b8; rw [wpS_seq]
  refine (wpS_at (q_s8 (sc := .rol (ns.map PV.int)) (s3 := .v (.lst wrQ)) (s4 := .v nos) (s5 := .v (.lst opQ)) (s6 := .v op) (s7 := .un) (s8 := .un) (s9 := .un) (s10 := .un) (s11 := .un) (s12 := .un) (s13 := .un) (s14 := .un) (s15 := .un) (s16 := .un)) ?_ :)
  rw [sqS_nx]
  unfold d_law_k78_b9; rw [wpS_seq]; unfold d_law_k78_s9 E78
  have m0 : ∀ S : Stor, mulP' S (.tup [exQ 0]) (.int 21) = some (.tup (List.replicate 21 (exQ 0))) := fun S => by kernel_rfl
  simp only [List.map, List.cons_append, List.nil_append, List.length_cons, List.length_nil, Nat.reduceAdd, bq_ok, bq_ex, wp_pure, wp_fail, wp_getS, oQ_some, oQ_ite, bqS_ok, bqS_ex, wpS_seq, sqS_nx, sqS_rt, sqS_bk, sqS_ct, sqS_ex, wpS_next, wpS_break, wpS_cont, wpS_retN, wpS_setT, stQ_some, wp_C, wp_call, wp_callv, bqF_ok, bqF_ex, wp_new, wp_newv, fqS_nx, fqS_rt, fqS_ex, wpS_for, wp_comp, wp_dVar, vQ_v, vQ_o, List.getElem?_cons_zero, List.getElem?_cons_succ, List.set_cons_zero, List.set_cons_succ, wp_d1, wp_k1, wp_d2, wp_k2, wp_k2b, wp_dT, wp_kT, wp_dTru, wp_kTru, wp_dNotT, wp_kNot, wp_dAndT, wp_kAnd, wp_dOrT, wp_kOr, wp_dAndV, wp_kAndV, wp_kAndVb, wp_dOrV, wp_kOrV, wp_kOrVb, wp_dNotV, wp_kNotV, wp_kNotVb, wp_dIf, wp_kIf, wp_dChain, wp_kCh, wp_kCh2, wp_kCh3, wp_aNil, wp_aCons, wp_kCons, wp_kCons2, wp_dTup, wp_kTup, wp_dLst, wp_kLst, wp_dN, wp_kN, wp_dLs, wp_kLs, wp_lDisp, wp_kDisp, wp_lRng, wp_kRng, wp_dItR, wp_kItR, wp_dItS, wp_kItS, wp_tTrue, wp_oNo, wp_oSome, wp_kSome, wp_dSl, wp_kSl, wp_kSl1, wp_kSl2, ws_ret, ws_kRet, ws_expr, ws_kExpr, ws_if, ws_kIfS, ws_set, ws_kSet, ws_setO, ws_kSetO, ws_kSetT, ws_setR, ws_kSetR0, ws_kSetR1, ws_kSetR2, items_t, items_ft, items_l, items_r, setAll, Bool.not_true, Bool.not_false, if_true, ite_true, ite_false, ↓reduceIte, Bool.false_eq_true, Int.reduceLT, Int.reduceLE, Nat.reduceLT, Nat.reduceLeDiff, Nat.reducePow, Int.reducePow, Int.reduceToNat, Int.reduceNeg, Int.reduceSub, Int.reduceAdd, and_self, and_true, true_and, decide_eq_true_eq, decide_true, decide_false, List.length_map, ixN_31, ixN_32, ixN_30, wipeE, restE, lcQ, Option.getD_some, add_i, add_t, add_l, sub_i, mul_i, mul_l, fdiv_i, mod_i, pow_18, neg_i, lt_i, le_i, gt_i, ge_i, eq_i, ne_i, eq_b, len_t, len_ft, len_l, len_r, abs_i, int_i, list_t, list_ft, list_l, list_r, tuple_t, tuple_ft, tuple_l, isi_i, isi_b, isi_s, isi_t, isi_ft, isi_l, isi_r, isi_n, tru_b, tru_i, tru_t, tru_ft, tru_l, tru_n, isN_n, isN_b, isN_i, isN_s, isN_t, isN_l, ix_t, ix_ft, ix_l, ix_r, ix_ref, setS_ref, atI_0, atI_1, atI_2, Option.map_some, Option.map_none, kb0, kb1, kb2, kb3, kb4, kb5, kb6, kb7, kb8, kb9, kb10, kb11, kb12, kb13, kb14, kb15, kb16, kb17, kb18, kb19, kb20, kb21, kb22, kb23, kb24, kb25, kb26, kb27, kb28, kb29, sz0, szl0, sz1, szl1, sz2, szl2, sz3, szl3, sz4, szl4, sz5, szl5, sz6, szl6, sz7, szl7, sz8, szl8, sz9, szl9, sz10, szl10, sz11, szl11, sz12, szl12, sz13, szl13, sz14, szl14, sz15, szl15, sz16, szl16, sz17, szl17, sz18, szl18, sz19, szl19, sz20, szl20, sz21, szl21, sz22, szl22, sz23, szl23, sz24, szl24, sz25, szl25, sz26, szl26, sz27, szl27, sz28, szl28, sz29, szl29, sz30, szl30, sz31, szl31, sz32, szl32, sz33, szl33, sz34, szl34, sz35, szl35, sz36, szl36, sz37, szl37, sz38, szl38, sz39, szl39, sz40, szl40, m0]
  refine wp_next h3 (by omega) (by omega) fun c S4 hc0 hc1 h4 => ?_
  obtain ⟨j, hj, ec⟩ := atI_some (xs := joQ op) hc0 (by show c < ((6 : Nat) : Int); exact hc1)
  unfold joQ at ec
  simp only [List.map, List.cons_append, List.nil_append, List.length_cons, List.length_nil, Nat.reduceAdd, bq_ok, bq_ex, wp_pure, wp_fail, wp_getS, oQ_some, oQ_ite, bqS_ok, bqS_ex, wpS_seq, sqS_nx, sqS_rt, sqS_bk, sqS_ct, sqS_ex, wpS_next, wpS_break, wpS_cont, wpS_retN, wpS_setT, stQ_some, wp_C, wp_call, wp_callv, bqF_ok, bqF_ex, wp_new, wp_newv, fqS_nx, fqS_rt, fqS_ex, wpS_for, wp_comp, wp_dVar, vQ_v, vQ_o, List.getElem?_cons_zero, List.getElem?_cons_succ, List.set_cons_zero, List.set_cons_succ, wp_d1, wp_k1, wp_d2, wp_k2, wp_k2b, wp_dT, wp_kT, wp_dTru, wp_kTru, wp_dNotT, wp_kNot, wp_dAndT, wp_kAnd, wp_dOrT, wp_kOr, wp_dAndV, wp_kAndV, wp_kAndVb, wp_dOrV, wp_kOrV, wp_kOrVb, wp_dNotV, wp_kNotV, wp_kNotVb, wp_dIf, wp_kIf, wp_dChain, wp_kCh, wp_kCh2, wp_kCh3, wp_aNil, wp_aCons, wp_kCons, wp_kCons2, wp_dTup, wp_kTup, wp_dLst, wp_kLst, wp_dN, wp_kN, wp_dLs, wp_kLs, wp_lDisp, wp_kDisp, wp_lRng, wp_kRng, wp_dItR, wp_kItR, wp_dItS, wp_kItS, wp_tTrue, wp_oNo, wp_oSome, wp_kSome, wp_dSl, wp_kSl, wp_kSl1, wp_kSl2, ws_ret, ws_kRet, ws_expr, ws_kExpr, ws_if, ws_kIfS, ws_set, ws_kSet, ws_setO, ws_kSetO, ws_kSetT, ws_setR, ws_kSetR0, ws_kSetR1, ws_kSetR2, items_t, items_ft, items_l, items_r, setAll, Bool.not_true, Bool.not_false, if_true, ite_true, ite_false, ↓reduceIte, Bool.false_eq_true, Int.reduceLT, Int.reduceLE, Nat.reduceLT, Nat.reduceLeDiff, Nat.reducePow, Int.reducePow, Int.reduceToNat, Int.reduceNeg, Int.reduceSub, Int.reduceAdd, and_self, and_true, true_and, decide_eq_true_eq, decide_true, decide_false, List.length_map, ixN_31, ixN_32, ixN_30, wipeE, restE, lcQ, Option.getD_some, add_i, add_t, add_l, sub_i, mul_i, mul_l, fdiv_i, mod_i, pow_18, neg_i, lt_i, le_i, gt_i, ge_i, eq_i, ne_i, eq_b, len_t, len_ft, len_l, len_r, abs_i, int_i, list_t, list_ft, list_l, list_r, tuple_t, tuple_ft, tuple_l, isi_i, isi_b, isi_s, isi_t, isi_ft, isi_l, isi_r, isi_n, tru_b, tru_i, tru_t, tru_ft, tru_l, tru_n, isN_n, isN_b, isN_i, isN_s, isN_t, isN_l, ix_t, ix_ft, ix_l, ix_r, ix_ref, setS_ref, atI_0, atI_1, atI_2, Option.map_some, Option.map_none, kb0, kb1, kb2, kb3, kb4, kb5, kb6, kb7, kb8, kb9, kb10, kb11, kb12, kb13, kb14, kb15, kb16, kb17, kb18, kb19, kb20, kb21, kb22, kb23, kb24, kb25, kb26, kb27, kb28, kb29, sz0, szl0, sz1, szl1, sz2, szl2, sz3, szl3, sz4, szl4, sz5, szl5, sz6, szl6, sz7, szl7, sz8, szl8, sz9, szl9, sz10, szl10, sz11, szl11, sz12, szl12, sz13, szl13, sz14, szl14, sz15, szl15, sz16, szl16, sz17, szl17, sz18, szl18, sz19, szl19, sz20, szl20, sz21, szl21, sz22, szl22, sz23, szl23, sz24, szl24, sz25, szl25, sz26, szl26, sz27, szl27, sz28, szl28, sz29, szl29, sz30, szl30, sz31, szl31, sz32, szl32, sz33, szl33, sz34, szl34, sz35, szl35, sz36, szl36, sz37, szl37, sz38, szl38, sz39, szl39, sz40, szl40, ec]
  obtain ⟨x4, rfl⟩ := one h4
  unfold d_law_k78_b10; rw [wpS_seq]
  refine (wpS_at (q_s10 (x := x4) (sc := .rol (ns.map PV.int)) (j := j) (s3 := .v (.lst wrQ)) (s5 := .v (.lst opQ)) (s6 := .v op) (s7 := .v (exQ 0)) (s10 := .un) (s11 := .un) (s12 := .un) (s13 := .un) (s14 := .un) (s15 := .un) (s16 := .un) nos hnos) ?_ :)
  rw [sqS_nx]
  unfold d_law_k78_b11; rw [wpS_seq]
  refine wpS_at (q_s11 op hop j hj) ?_
  rw [sqS_nx]
  unfold d_law_k78_b12; rw [wpS_seq]
  refine wpS_at q_s12 ?_
  rw [sqS_nx]
  unfold d_law_k78_b13; rw [wpS_seq]; unfold d_law_k78_s13 E78
  have h5 : SInv C4 (x4 :: C4) := by
    obtain ⟨ns', d', i', e', h1', h2'⟩ := h4
    injection e' with e'
    exact ⟨ns', d', i', by rw [e'], h1', h2'⟩
  simp only [List.map, List.replicate, List.cons_append, List.nil_append, List.length_cons, List.length_nil, Nat.reduceAdd, bq_ok, bq_ex, wp_pure, wp_fail, wp_getS, oQ_some, oQ_ite, bqS_ok, bqS_ex, wpS_seq, sqS_nx, sqS_rt, sqS_bk, sqS_ct, sqS_ex, wpS_next, wpS_break, wpS_cont, wpS_retN, wpS_setT, stQ_some, wp_C, wp_call, wp_callv, bqF_ok, bqF_ex, wp_new, wp_newv, fqS_nx, fqS_rt, fqS_ex, wpS_for, wp_comp, wp_dVar, vQ_v, vQ_o, List.getElem?_cons_zero, List.getElem?_cons_succ, List.set_cons_zero, List.set_cons_succ, wp_d1, wp_k1, wp_d2, wp_k2, wp_k2b, wp_dT, wp_kT, wp_dTru, wp_kTru, wp_dNotT, wp_kNot, wp_dAndT, wp_kAnd, wp_dOrT, wp_kOr, wp_dAndV, wp_kAndV, wp_kAndVb, wp_dOrV, wp_kOrV, wp_kOrVb, wp_dNotV, wp_kNotV, wp_kNotVb, wp_dIf, wp_kIf, wp_dChain, wp_kCh, wp_kCh2, wp_kCh3, wp_aNil, wp_aCons, wp_kCons, wp_kCons2, wp_dTup, wp_kTup, wp_dLst, wp_kLst, wp_dN, wp_kN, wp_dLs, wp_kLs, wp_lDisp, wp_kDisp, wp_lRng, wp_kRng, wp_dItR, wp_kItR, wp_dItS, wp_kItS, wp_tTrue, wp_oNo, wp_oSome, wp_kSome, wp_dSl, wp_kSl, wp_kSl1, wp_kSl2, ws_ret, ws_kRet, ws_expr, ws_kExpr, ws_if, ws_kIfS, ws_set, ws_kSet, ws_setO, ws_kSetO, ws_kSetT, ws_setR, ws_kSetR0, ws_kSetR1, ws_kSetR2, items_t, items_ft, items_l, items_r, setAll, Bool.not_true, Bool.not_false, if_true, ite_true, ite_false, ↓reduceIte, Bool.false_eq_true, Int.reduceLT, Int.reduceLE, Nat.reduceLT, Nat.reduceLeDiff, Nat.reducePow, Int.reducePow, Int.reduceToNat, Int.reduceNeg, Int.reduceSub, Int.reduceAdd, and_self, and_true, true_and, decide_eq_true_eq, decide_true, decide_false, List.length_map, ixN_31, ixN_32, ixN_30, wipeE, restE, lcQ, Option.getD_some, add_i, add_t, add_l, sub_i, mul_i, mul_t, mul_l, fdiv_i, mod_i, pow_18, neg_i, lt_i, le_i, gt_i, ge_i, eq_i, ne_i, eq_b, len_t, len_ft, len_l, len_r, abs_i, int_i, list_t, list_ft, list_l, list_r, tuple_t, tuple_ft, tuple_l, isi_i, isi_b, isi_s, isi_t, isi_ft, isi_l, isi_r, isi_n, tru_b, tru_i, tru_t, tru_ft, tru_l, tru_n, isN_n, isN_b, isN_i, isN_s, isN_t, isN_l, ix_t, ix_ft, ix_l, ix_r, ix_ref, setS_ref, atI_0, atI_1, atI_2, Option.map_some, Option.map_none, kb0, kb1, kb2, kb3, kb4, kb5, kb6, kb7, kb8, kb9, kb10, kb11, kb12, kb13, kb14, kb15, kb16, kb17, kb18, kb19, kb20, kb21, kb22, kb23, kb24, kb25, kb26, kb27, kb28, kb29, sz0, szl0, sz1, szl1, sz2, szl2, sz3, szl3, sz4, szl4, sz5, szl5, sz6, szl6, sz7, szl7, sz8, szl8, sz9, szl9, sz10, szl10, sz11, szl11, sz12, szl12, sz13, szl13, sz14, szl14, sz15, szl15, sz16, szl16, sz17, szl17, sz18, szl18, sz19, szl19, sz20, szl20, sz21, szl21, sz22, szl22, sz23, szl23, sz24, szl24, sz25, szl25, sz26, szl26, sz27, szl27, sz28, szl28, sz29, szl29, sz30, szl30, sz31, szl31, sz32, szl32, sz33, szl33, sz34, szl34, sz35, szl35, sz36, szl36, sz37, szl37, sz38, szl38, sz39, szl39, sz40, szl40]
  refine wp_next h5 (by omega) (by omega) fun d S5 hd0 hd1 h6 => ?_
  obtain ⟨y, hy, ed⟩ := atI_some (xs := noQ) hd0 (by show d < ((5 : Nat) : Int); exact hd1)
  unfold noQ at ed
  simp only [List.map, List.replicate, List.cons_append, List.nil_append, List.length_cons, List.length_nil, Nat.reduceAdd, bq_ok, bq_ex, wp_pure, wp_fail, wp_getS, oQ_some, oQ_ite, bqS_ok, bqS_ex, wpS_seq, sqS_nx, sqS_rt, sqS_bk, sqS_ct, sqS_ex, wpS_next, wpS_break, wpS_cont, wpS_retN, wpS_setT, stQ_some, wp_C, wp_call, wp_callv, bqF_ok, bqF_ex, wp_new, wp_newv, fqS_nx, fqS_rt, fqS_ex, wpS_for, wp_comp, wp_dVar, vQ_v, vQ_o, List.getElem?_cons_zero, List.getElem?_cons_succ, List.set_cons_zero, List.set_cons_succ, wp_d1, wp_k1, wp_d2, wp_k2, wp_k2b, wp_dT, wp_kT, wp_dTru, wp_kTru, wp_dNotT, wp_kNot, wp_dAndT, wp_kAnd, wp_dOrT, wp_kOr, wp_dAndV, wp_kAndV, wp_kAndVb, wp_dOrV, wp_kOrV, wp_kOrVb, wp_dNotV, wp_kNotV, wp_kNotVb, wp_dIf, wp_kIf, wp_dChain, wp_kCh, wp_kCh2, wp_kCh3, wp_aNil, wp_aCons, wp_kCons, wp_kCons2, wp_dTup, wp_kTup, wp_dLst, wp_kLst, wp_dN, wp_kN, wp_dLs, wp_kLs, wp_lDisp, wp_kDisp, wp_lRng, wp_kRng, wp_dItR, wp_kItR, wp_dItS, wp_kItS, wp_tTrue, wp_oNo, wp_oSome, wp_kSome, wp_dSl, wp_kSl, wp_kSl1, wp_kSl2, ws_ret, ws_kRet, ws_expr, ws_kExpr, ws_if, ws_kIfS, ws_set, ws_kSet, ws_setO, ws_kSetO, ws_kSetT, ws_setR, ws_kSetR0, ws_kSetR1, ws_kSetR2, items_t, items_ft, items_l, items_r, setAll, Bool.not_true, Bool.not_false, if_true, ite_true, ite_false, ↓reduceIte, Bool.false_eq_true, Int.reduceLT, Int.reduceLE, Nat.reduceLT, Nat.reduceLeDiff, Nat.reducePow, Int.reducePow, Int.reduceToNat, Int.reduceNeg, Int.reduceSub, Int.reduceAdd, and_self, and_true, true_and, decide_eq_true_eq, decide_true, decide_false, List.length_map, ixN_31, ixN_32, ixN_30, wipeE, restE, lcQ, Option.getD_some, add_i, add_t, add_l, sub_i, mul_i, mul_t, mul_l, fdiv_i, mod_i, pow_18, neg_i, lt_i, le_i, gt_i, ge_i, eq_i, ne_i, eq_b, len_t, len_ft, len_l, len_r, abs_i, int_i, list_t, list_ft, list_l, list_r, tuple_t, tuple_ft, tuple_l, isi_i, isi_b, isi_s, isi_t, isi_ft, isi_l, isi_r, isi_n, tru_b, tru_i, tru_t, tru_ft, tru_l, tru_n, isN_n, isN_b, isN_i, isN_s, isN_t, isN_l, ix_t, ix_ft, ix_l, ix_r, ix_ref, setS_ref, atI_0, atI_1, atI_2, Option.map_some, Option.map_none, kb0, kb1, kb2, kb3, kb4, kb5, kb6, kb7, kb8, kb9, kb10, kb11, kb12, kb13, kb14, kb15, kb16, kb17, kb18, kb19, kb20, kb21, kb22, kb23, kb24, kb25, kb26, kb27, kb28, kb29, sz0, szl0, sz1, szl1, sz2, szl2, sz3, szl3, sz4, szl4, sz5, szl5, sz6, szl6, sz7, szl7, sz8, szl8, sz9, szl9, sz10, szl10, sz11, szl11, sz12, szl12, sz13, szl13, sz14, szl14, sz15, szl15, sz16, szl16, sz17, szl17, sz18, szl18, sz19, szl19, sz20, szl20, sz21, szl21, sz22, szl22, sz23, szl23, sz24, szl24, sz25, szl25, sz26, szl26, sz27, szl27, sz28, szl28, sz29, szl29, sz30, szl30, sz31, szl31, sz32, szl32, sz33, szl33, sz34, szl34, sz35, szl35, sz36, szl36, sz37, szl37, sz38, szl38, sz39, szl39, sz40, szl40, ed]
  obtain ⟨x5, rfl⟩ : ∃ x, S5 = x :: C4 := by obtain ⟨_, _, _, rfl, _⟩ := h6; exact ⟨_, rfl⟩
  unfold d_law_k78_b14; rw [wpS_seq]
  refine (wpS_at (q_s14 (x := x5) (sc := .rol (ns.map PV.int)) (s3 := .v (.lst wrQ)) (s4 := .v nos) (s5 := .v (.lst opQ)) (s6 := .v op) (s7 := .v (exQ 0)) (s8 := .v j) (s9 := .v (.int 2)) (s12 := .un) (s13 := .un) (s14 := .un) (s15 := .un) (s16 := .un) y hy) ?_ :)
  rw [sqS_nx]
  unfold d_law_k78_b15; rw [wpS_seq]
  refine wpS_at (q_s15 op hop) ?_
  rw [sqS_nx]
  unfold d_law_k78_b16; rw [wpS_seq]
  refine wpS_at (q_s16 op hop) ?_
  rw [sqS_nx]
  unfold d_law_k78_b17; rw [wpS_seq]
  refine wpS_at q_s17 ?_
  rw [sqS_nx]
  unfold d_law_k78_b18; rw [wpS_seq]
  refine wpS_at q_s18 ?_
  rw [sqS_nx]
  unfold d_law_k78_b19; rw [wpS_seq]
  refine wpS_at q_s19 ?_
  rw [sqS_nx]
  unfold d_law_k78_b20; rw [wpS_seq]
  refine wpS_at (q_s20 op hop) ?_
  rw [sqS_nx]
  unfold d_law_k78_b21; rw [wpS_seq]
  refine wpS_at (q_s21 y hy) ?_
  rw [sqS_nx]
  unfold d_law_k78_b22; rw [wpS_seq]
  refine wpS_at q_s22 ?_
  rw [sqS_nx]
  unfold d_law_k78_b23; rw [wpS_seq]
  refine wpS_at q_s23 ?_
  rw [sqS_nx]
  unfold d_law_k78_b24; rw [wpS_seq]
  refine wpS_at q_s24 ?_
  rw [sqS_nx]
  unfold d_law_k78_b25; rw [wpS_seq]
  refine wpS_at (q_s25 op hop) ?_
  rw [sqS_nx]
  unfold d_law_k78_b26
  unfold wpS
  rw [q_s26]
  exact ⟨_, rfl⟩
end Dn
end
section
set_option Elab.async false
set_option linter.all false
set_option maxRecDepth 100000
set_option maxHeartbeats 4000000
namespace Rw
open PySem L2 Dn
def top (i : Nat) : Stmt := PySem.Challenge.pw_undobystate_k78_refusals_of_editors.main.body.getD i (.Pass ⟨0, 0, 0, 0⟩)
structure Txt (K : PySem.W.Frag) (mg : Str → Option Value) : Prop where
  kk : True
  n_ValueError : mg "ValueError" = none
  n_abs : mg "abs" = none
  n_all : mg "all" = none
  n_bool : mg "bool" = none
  n_int : mg "int" = none
  n_isinstance : mg "isinstance" = none
  n_len : mg "len" = none
  n_list : mg "list" = none
  n_max : mg "max" = none
  n_range : mg "range" = none
  n_sorted : mg "sorted" = none
  n_str : mg "str" = none
  n_tuple : mg "tuple" = none
  c_MOST_COMMANDS : ∃ t, mg "MOST_COMMANDS" = some (.int 4 t)
  c_MOST_ENTRIES : ∃ t, mg "MOST_ENTRIES" = some (.int 16 t)
  c_MOST_OPERATIONS : ∃ t, mg "MOST_OPERATIONS" = some (.int 20 t)
  c_MOST_STATES : ∃ t, mg "MOST_STATES" = some (.int 8 t)
section
variable {P : Program} {w : World} {K : PySem.W.Frag} {mg : Str → Option Value} {base : Heap}
theorem sc_is_whole : FnScope ["value", "low", "high"] ["value", "low", "high"] (defScope (top 9)) := ⟨rfl, rfl, rfl, by decide +kernel, rfl, by decide +kernel, by decide +kernel⟩
theorem ok_is_whole {f : Addr} {fd : FuncData} (T : Txt K mg) (F : Fun K "is_whole" "is_whole" (top 9) f fd) (hm : mg "is_whole" = some (.ref f)) (hb : Binds K fd ["value", "low", "high"] [])  : FOk P w K mg base 1 "is_whole" ["value", "low", "high"] d_is_whole :=
  fok (u := 0) F sc_is_whole rfl hm hb fun cdv A outer s H E c hX tk => (k_one (k_ret (r_and hX (r_isi hX rfl T.n_isinstance rfl T.n_int bt_int (r_var 0)) (r_and hX (r_not hX (r_isi hX rfl T.n_isinstance rfl T.n_bool bt_bool (r_var 0))) (r_one (r_chain hX o_le o_le (r_var 1) (r_var 0) (r_var 2)))))))
theorem sc_is_system : FnScope ["value", "states", "start", "commands", "command", "state"] ["value"] (defScope (top 10)) := ⟨rfl, rfl, rfl, by decide +kernel, rfl, by decide +kernel, by decide +kernel⟩
theorem ok_is_system {f : Addr} {fd : FuncData} (T : Txt K mg) (F : Fun K "is_system" "is_system" (top 10) f fd) (hm : mg "is_system" = some (.ref f)) (hb : Binds K fd ["value"] []) (G_is_whole : FOk P w K mg base 1 "is_whole" ["value", "low", "high"] d_is_whole) : FOk P w K mg base 2 "is_system" ["value"] d_is_system :=
  fok (u := 5) F sc_is_system rfl hm hb fun cdv A outer s H E c hX tk => (k_cons (k_if (t_w (w_or (t_not (t_tru hX (r_isi hX rfl T.n_isinstance rfl T.n_tuple bt_tuple (r_var 0)))) (w_or (t_cmp hX (o_ne hX.room) (r_callB hX b_len rfl T.n_len bt_len (a_cons (r_var 0) a_nil)) r_int (nomark _)) (w_or1 (t_not (t_tru hX (r_call hX G_is_whole (by omega) rfl (a_cons (r_ix hX (r_var 0) r_int) (a_cons r_int (a_cons (r_globI rfl T.c_MOST_STATES) a_nil)))))))))) (k_one (k_ret r_bl)) k_nil)
  (k_cons (k_setT (g_tup hX (gs_cons 1 hX rfl (by first | exact Or.inl rfl | exact Or.inr rfl) (gs_cons 2 hX rfl (by first | exact Or.inl rfl | exact Or.inr rfl) (gs_cons 3 hX rfl (by first | exact Or.inl rfl | exact Or.inr rfl) gs_nil)))) (r_var 0))
  (k_cons (k_if (t_w (w_or (t_not (t_tru hX (r_call hX G_is_whole (by omega) rfl (a_cons (r_var 2) (a_cons r_int (a_cons (r_bin hX o_sub (r_var 1) r_int) a_nil)))))) (w_or (t_not (t_tru hX (r_isi hX rfl T.n_isinstance rfl T.n_tuple bt_tuple (r_var 3)))) (w_or1 (t_cmp hX o_gt (r_callB hX b_len rfl T.n_len bt_len (a_cons (r_var 3) a_nil)) (r_globI rfl T.c_MOST_COMMANDS) (nomark _)))))) (k_one (k_ret r_bl)) k_nil)
  (k_cons (k_for hX (passes_of rfl) (i_seq hX (r_var 3)) (g_name 4 hX rfl (by first | exact Or.inl rfl | exact Or.inr rfl)) (k_cons (k_if (t_w (w_or (t_not (t_tru hX (r_isi hX rfl T.n_isinstance rfl T.n_tuple bt_tuple (r_var 4)))) (w_or1 (t_cmp hX (o_ne hX.room) (r_callB hX b_len rfl T.n_len bt_len (a_cons (r_var 4) a_nil)) (r_var 1) (nomark _))))) (k_one (k_ret r_bl)) k_nil)
  (k_one (k_if (t_not (t_tru hX (r_callB hX (b_all hX.calm) rfl T.n_all bt_all (a_cons (o_val (o_comp hX (blkOk_by (own := [("state", 5)]) (by show blkC ["value", "states", "start", "commands", "command", "state"] (defScope (top 10)) _ _ = true; decide +kernel)) (i_seq hX (r_var 4)) (by decide) (fun c s H C cl fp hX => (g_name 5 hX rfl (by first | exact Or.inl rfl | exact Or.inr rfl))) (fun c s H C cl fp hX => ts_nil) (fun c s H C cl fp hX => (r_call hX G_is_whole (by omega) rfl (a_cons (r_var 5) (a_cons r_int (a_cons (r_bin hX o_sub (r_var 1) r_int) a_nil))))))) a_nil)))) (k_one (k_ret r_bl)) k_nil))))
  (k_one (k_ret r_bl))))))
theorem sc_is_state : FnScope ["system", "value"] ["system", "value"] (defScope (top 11)) := ⟨rfl, rfl, rfl, by decide +kernel, rfl, by decide +kernel, by decide +kernel⟩
theorem ok_is_state {f : Addr} {fd : FuncData} (T : Txt K mg) (F : Fun K "is_state" "is_state" (top 11) f fd) (hm : mg "is_state" = some (.ref f)) (hb : Binds K fd ["system", "value"] []) (G_is_whole : FOk P w K mg base 1 "is_whole" ["value", "low", "high"] d_is_whole) : FOk P w K mg base 2 "is_state" ["system", "value"] d_is_state :=
  fok (u := 0) F sc_is_state rfl hm hb fun cdv A outer s H E c hX tk => (k_one (k_ret (r_call hX G_is_whole (by omega) rfl (a_cons (r_var 1) (a_cons r_int (a_cons (r_bin hX o_sub (r_ix hX (r_var 0) r_int) r_int) a_nil))))))
theorem sc_is_command : FnScope ["system", "value"] ["system", "value"] (defScope (top 12)) := ⟨rfl, rfl, rfl, by decide +kernel, rfl, by decide +kernel, by decide +kernel⟩
theorem ok_is_command {f : Addr} {fd : FuncData} (T : Txt K mg) (F : Fun K "is_command" "is_command" (top 12) f fd) (hm : mg "is_command" = some (.ref f)) (hb : Binds K fd ["system", "value"] []) (G_is_whole : FOk P w K mg base 1 "is_whole" ["value", "low", "high"] d_is_whole) : FOk P w K mg base 2 "is_command" ["system", "value"] d_is_command :=
  fok (u := 0) F sc_is_command rfl hm hb fun cdv A outer s H E c hX tk => (k_one (k_ret (r_call hX G_is_whole (by omega) rfl (a_cons (r_var 1) (a_cons r_int (a_cons (r_bin hX o_sub (r_callB hX b_len rfl T.n_len bt_len (a_cons (r_ix hX (r_var 0) r_int) a_nil)) r_int) a_nil))))))
theorem sc_states_of : FnScope ["system"] ["system"] (defScope (top 13)) := ⟨rfl, rfl, rfl, by decide +kernel, rfl, by decide +kernel, by decide +kernel⟩
theorem ok_states_of {f : Addr} {fd : FuncData} (T : Txt K mg) (F : Fun K "states_of" "states_of" (top 13) f fd) (hm : mg "states_of" = some (.ref f)) (hb : Binds K fd ["system"] [])  : FOk P w K mg base 1 "states_of" ["system"] d_states_of :=
  fok (u := 0) F sc_states_of rfl hm hb fun cdv A outer s H E c hX tk => (k_one (k_ret (by refine r_lrg hX rfl T.n_list rfl T.n_range ?_; exact (r_ix hX (r_var 0) r_int))))
theorem sc_step : FnScope ["system", "state", "command"] ["system", "state", "command"] (defScope (top 14)) := ⟨rfl, rfl, rfl, by decide +kernel, rfl, by decide +kernel, by decide +kernel⟩
theorem ok_step {f : Addr} {fd : FuncData} (T : Txt K mg) (F : Fun K "step" "step" (top 14) f fd) (hm : mg "step" = some (.ref f)) (hb : Binds K fd ["system", "state", "command"] [])  : FOk P w K mg base 1 "step" ["system", "state", "command"] d_step :=
  fok (u := 0) F sc_step rfl hm hb fun cdv A outer s H E c hX tk => (k_one (k_ret (r_ix hX (r_ix hX (r_ix hX (r_var 0) r_int) (r_var 2)) (r_var 1))))
theorem sc_check_system : FnScope ["system"] ["system"] (defScope (top 15)) := ⟨rfl, rfl, rfl, by decide +kernel, rfl, by decide +kernel, by decide +kernel⟩
theorem ok_check_system {f : Addr} {fd : FuncData} (T : Txt K mg) (F : Fun K "check_system" "check_system" (top 15) f fd) (hm : mg "check_system" = some (.ref f)) (hb : Binds K fd ["system"] []) (G_is_system : FOk P w K mg base 2 "is_system" ["value"] d_is_system) (E_BadValue : ExOk P w K mg base "BadValue" "name") : FOk P w K mg base 3 "check_system" ["system"] d_check_system_v2 :=
  fok (u := 0) F sc_check_system rfl hm hb fun cdv A outer s H E c hX tk => (k_one (k_if (t_not (t_tru hX (r_call hX G_is_system (by omega) rfl (a_cons (r_var 0) a_nil)))) (k_one (k_raise hX (by omega) tk E_BadValue rfl r_str)) k_nil))
theorem sc_pairs_from : FnScope ["system", "one", "other", "found", "waiting", "fresh", "pair", "command", "later"] ["system", "one", "other"] (defScope (top 17)) := ⟨rfl, rfl, rfl, by decide +kernel, rfl, by decide +kernel, by decide +kernel⟩
theorem ok_pairs_from {f : Addr} {fd : FuncData} (T : Txt K mg) (F : Fun K "pairs_from" "pairs_from" (top 17) f fd) (hm : mg "pairs_from" = some (.ref f)) (hb : Binds K fd ["system", "one", "other"] []) (G_step : FOk P w K mg base 1 "step" ["system", "state", "command"] d_step) : FOk P w K mg base 2 "pairs_from" ["system", "one", "other"] d_pairs_from :=
  fok (u := 6) F sc_pairs_from rfl hm hb fun cdv A outer s H E c hX tk => (k_cons (k_setD 3 hX rfl (by first | exact Or.inl rfl | exact Or.inr rfl) (od_1 hX (fun c hX => (r_tup (a_cons (r_var 1) (a_cons (r_var 2) a_nil)))) (fun c hX => (r_tup a_nil))))
  (k_cons (k_set 4 hX rfl (by first | exact Or.inl rfl | exact Or.inr rfl) (r_lst (a_cons (r_tup (a_cons (r_var 1) (a_cons (r_var 2) a_nil))) a_nil)))
  (k_cons (k_whN (passes_of rfl) (t_tru hX (r_var 4)) (k_cons (k_setO 5 hX rfl (by first | exact Or.inl rfl | exact Or.inr rfl) (o_disp a_nil))
  (k_cons (k_for hX (passes_of rfl) (i_seq hX (r_var 4)) (g_name 6 hX rfl (by first | exact Or.inl rfl | exact Or.inr rfl)) (k_one (k_for hX (passes_of rfl) (i_rng hX rfl T.n_range (r_callB hX b_len rfl T.n_len bt_len (a_cons (r_ix hX (r_var 0) r_int) a_nil))) (g_name 7 hX rfl (by first | exact Or.inl rfl | exact Or.inr rfl)) (k_cons (k_set 8 hX rfl (by first | exact Or.inl rfl | exact Or.inr rfl) (r_tup (a_cons (r_call hX G_step (by omega) rfl (a_cons (r_var 0) (a_cons (r_ix hX (r_var 6) r_int) (a_cons (r_var 7) a_nil)))) (a_cons (r_call hX G_step (by omega) rfl (a_cons (r_var 0) (a_cons (r_ix hX (r_var 6) r_int) (a_cons (r_var 7) a_nil)))) a_nil))))
  (k_one (k_if (t_notInO 3 hX rfl (by first | exact Or.inl rfl | exact Or.inr (Or.inl rfl) | exact Or.inr (Or.inr rfl)) (r_var 8)) (k_cons (k_putO 3 hX rfl (by first | exact Or.inl rfl | exact Or.inr (Or.inl rfl) | exact Or.inr (Or.inr rfl)) (r_var 8) (r_bin hX o_add (r_ixO 3 hX rfl (by first | exact Or.inl rfl | exact Or.inr (Or.inl rfl) | exact Or.inr (Or.inr rfl)) (r_var 6)) (r_tup (a_cons (r_var 7) a_nil))))
  (k_one (k_app 5 hX rfl (by first | exact Or.inl rfl | exact Or.inr (Or.inl rfl) | exact Or.inr (Or.inr rfl)) (r_var 8)))) k_nil))))))
  (k_one (k_set 4 hX rfl (by first | exact Or.inl rfl | exact Or.inr rfl) (r_var 5))))))
  (k_one (k_ret (r_var 3))))))
theorem sc_counterparts_of : FnScope ["system", "one", "other", "found", "state", "first", "second"] ["system", "one", "other"] (defScope (top 18)) := ⟨rfl, rfl, rfl, by decide +kernel, rfl, by decide +kernel, by decide +kernel⟩
theorem ok_counterparts_of {f : Addr} {fd : FuncData} (T : Txt K mg) (F : Fun K "counterparts_of" "counterparts_of" (top 18) f fd) (hm : mg "counterparts_of" = some (.ref f)) (hb : Binds K fd ["system", "one", "other"] []) (G_pairs_from : FOk P w K mg base 2 "pairs_from" ["system", "one", "other"] d_pairs_from) (G_states_of : FOk P w K mg base 1 "states_of" ["system"] d_states_of) : FOk P w K mg base 3 "counterparts_of" ["system", "one", "other"] d_counterparts_of :=
  fok (u := 4) F sc_counterparts_of rfl hm hb fun cdv A outer s H E c hX tk => (k_cons (k_set 3 hX rfl (by first | exact Or.inl rfl | exact Or.inr rfl) (r_callB hX (b_sorted hX) rfl T.n_sorted bt_sorted (a_cons (r_call hX G_pairs_from (by omega) rfl (a_cons (r_var 0) (a_cons (r_var 1) (a_cons (r_var 2) a_nil)))) a_nil)))
  (k_one (k_ret (o_val (o_comp hX (blkOk_by (own := [("state", 4)]) (by show blkC ["system", "one", "other", "found", "state", "first", "second"] (defScope (top 18)) _ _ = true; decide +kernel)) (i_seq hX (r_call hX G_states_of (by omega) rfl (a_cons (r_var 0) a_nil))) (by decide) (fun c s H C cl fp hX => (g_name 4 hX rfl (by first | exact Or.inl rfl | exact Or.inr rfl))) (fun c s H C cl fp hX => ts_nil) (fun c s H C cl fp hX => (r_callTy hX b_tuple rfl T.n_tuple bt_tuple (a_cons (o_val (o_comp hX (blkOk_by (own := [("first", 5), ("second", 6)]) (by first | rfl | kernel_rfl)) (i_seq hX (r_var 3)) (by decide) (fun c s H C cl fp hX => (g_tup hX (gs_cons 5 hX rfl (by first | exact Or.inl rfl | exact Or.inr rfl) (gs_cons 6 hX rfl (by first | exact Or.inl rfl | exact Or.inr rfl) gs_nil)))) (fun c s H C cl fp hX => (ts_one (t_cmp hX (o_eq hX.room) (r_var 5) (r_var 4) (nomark _)))) (fun c s H C cl fp hX => (r_var 6)))) a_nil))))))))
theorem sc_determines : FnScope ["system", "one", "other", "row"] ["system", "one", "other"] (defScope (top 19)) := ⟨rfl, rfl, rfl, by decide +kernel, rfl, by decide +kernel, by decide +kernel⟩
theorem ok_determines {f : Addr} {fd : FuncData} (T : Txt K mg) (F : Fun K "determines" "determines" (top 19) f fd) (hm : mg "determines" = some (.ref f)) (hb : Binds K fd ["system", "one", "other"] []) (G_counterparts_of : FOk P w K mg base 3 "counterparts_of" ["system", "one", "other"] d_counterparts_of) : FOk P w K mg base 4 "determines" ["system", "one", "other"] d_determines :=
  fok (u := 1) F sc_determines rfl hm hb fun cdv A outer s H E c hX tk => (k_one (k_ret (r_cmp hX (o_eq hX.room) (r_callB hX (b_max1 hX.calm) rfl T.n_max bt_max (a_cons (o_val (o_comp hX (blkOk_by (own := [("row", 3)]) (by show blkC ["system", "one", "other", "row"] (defScope (top 19)) _ _ = true; decide +kernel)) (i_seq hX (r_call hX G_counterparts_of (by omega) rfl (a_cons (r_var 0) (a_cons (r_var 1) (a_cons (r_var 2) a_nil))))) (by decide) (fun c s H C cl fp hX => (g_name 3 hX rfl (by first | exact Or.inl rfl | exact Or.inr rfl))) (fun c s H C cl fp hX => ts_nil) (fun c s H C cl fp hX => (r_callB hX b_len rfl T.n_len bt_len (a_cons (r_var 3) a_nil))))) a_nil)) r_int (nomark _))))
theorem sc_table_for : FnScope ["system", "one", "other", "found", "row"] ["system", "one", "other"] (defScope (top 20)) := ⟨rfl, rfl, rfl, by decide +kernel, rfl, by decide +kernel, by decide +kernel⟩
theorem ok_table_for {f : Addr} {fd : FuncData} (T : Txt K mg) (F : Fun K "table_for" "table_for" (top 20) f fd) (hm : mg "table_for" = some (.ref f)) (hb : Binds K fd ["system", "one", "other"] []) (G_counterparts_of : FOk P w K mg base 3 "counterparts_of" ["system", "one", "other"] d_counterparts_of) : FOk P w K mg base 4 "table_for" ["system", "one", "other"] d_table_for :=
  fok (u := 2) F sc_table_for rfl hm hb fun cdv A outer s H E c hX tk => (k_cons (k_set 3 hX rfl (by first | exact Or.inl rfl | exact Or.inr rfl) (r_call hX G_counterparts_of (by omega) rfl (a_cons (r_var 0) (a_cons (r_var 1) (a_cons (r_var 2) a_nil)))))
  (k_cons (k_if (t_cmp hX o_gt (r_callB hX (b_max1 hX.calm) rfl T.n_max bt_max (a_cons (o_val (o_comp hX (blkOk_by (own := [("row", 4)]) (by show blkC ["system", "one", "other", "found", "row"] (defScope (top 20)) _ _ = true; decide +kernel)) (i_seq hX (r_var 3)) (by decide) (fun c s H C cl fp hX => (g_name 4 hX rfl (by first | exact Or.inl rfl | exact Or.inr rfl))) (fun c s H C cl fp hX => ts_nil) (fun c s H C cl fp hX => (r_callB hX b_len rfl T.n_len bt_len (a_cons (r_var 4) a_nil))))) a_nil)) r_int (nomark _)) (k_one (k_ret r_non)) k_nil)
  (k_one (k_ret (r_callTy hX b_tuple rfl T.n_tuple bt_tuple (a_cons (o_val (o_comp hX (blkOk_by (own := [("row", 4)]) (by show blkC ["system", "one", "other", "found", "row"] (defScope (top 20)) _ _ = true; decide +kernel)) (i_seq hX (r_var 3)) (by decide) (fun c s H C cl fp hX => (g_name 4 hX rfl (by first | exact Or.inl rfl | exact Or.inr rfl))) (fun c s H C cl fp hX => ts_nil) (fun c s H C cl fp hX => (r_if (t_tru hX (r_var 4)) (r_ix hX (r_var 4) r_int) r_non)))) a_nil))))))
theorem sc_is_operation : FnScope ["value", "system"] ["value", "system"] (defScope (top 24)) := ⟨rfl, rfl, rfl, by decide +kernel, rfl, by decide +kernel, by decide +kernel⟩
theorem ok_is_operation {f : Addr} {fd : FuncData} (T : Txt K mg) (F : Fun K "is_operation" "is_operation" (top 24) f fd) (hm : mg "is_operation" = some (.ref f)) (hb : Binds K fd ["value", "system"] []) (G_is_command : FOk P w K mg base 2 "is_command" ["system", "value"] d_is_command) (G_is_whole : FOk P w K mg base 1 "is_whole" ["value", "low", "high"] d_is_whole) : FOk P w K mg base 3 "is_operation" ["value", "system"] d_is_operation :=
  fok (u := 0) F sc_is_operation rfl hm hb fun cdv A outer s H E c hX tk => (k_cons (k_if (t_w (w_or (t_not (t_tru hX (r_isi hX rfl T.n_isinstance rfl T.n_tuple bt_tuple (r_var 0)))) (w_or (t_cmp hX (o_ne hX.room) (r_callB hX b_len rfl T.n_len bt_len (a_cons (r_var 0) a_nil)) r_int (nomark _)) (w_or1 (t_not (t_tru hX (r_isi hX rfl T.n_isinstance rfl T.n_str bt_str (r_ix hX (r_var 0) r_int)))))))) (k_one (k_ret r_bl)) k_nil)
  (k_cons (k_if (t_cmp hX (o_eq hX.room) (r_ix hX (r_var 0) r_int) r_str (nomark _)) (k_one (k_ret (r_call hX G_is_command (by omega) rfl (a_cons (r_var 1) (a_cons (r_ix hX (r_var 0) r_int) a_nil))))) k_nil)
  (k_one (k_ret (r_and hX (r_cmp hX (o_in hX.room) (r_ix hX (r_var 0) r_int) (r_tup (a_cons r_str (a_cons r_str a_nil))) rfl) (r_one (r_call hX G_is_whole (by omega) rfl (a_cons (r_ix hX (r_var 0) r_int) (a_cons r_int (a_cons (r_bin hX o_sub (r_globI rfl T.c_MOST_ENTRIES) r_int) a_nil))))))))))
theorem sc_behind : FnScope ["entries", "operation", "word", "number", "command", "holds"] ["entries", "operation"] (defScope (top 25)) := ⟨rfl, rfl, rfl, by decide +kernel, rfl, by decide +kernel, by decide +kernel⟩
theorem ok_behind {f : Addr} {fd : FuncData} (T : Txt K mg) (F : Fun K "behind" "behind" (top 25) f fd) (hm : mg "behind" = some (.ref f)) (hb : Binds K fd ["entries", "operation"] []) (E_NotPossible : ExOk P w K mg base "NotPossible" "why") : FOk P w K mg base 3 "behind" ["entries", "operation"] d_behind_v2 :=
  fok (u := 4) F sc_behind rfl hm hb fun cdv A outer s H E c hX tk => (k_cons (k_setT (g_tup hX (gs_cons 2 hX rfl (by first | exact Or.inl rfl | exact Or.inr rfl) (gs_cons 3 hX rfl (by first | exact Or.inl rfl | exact Or.inr rfl) gs_nil))) (r_var 1))
  (k_cons (k_if (t_cmp hX (o_eq hX.room) (r_var 2) r_str (nomark _)) (k_cons (k_if (t_cmp hX o_ge (r_callB hX b_len rfl T.n_len bt_len (a_cons (r_var 0) a_nil)) (r_globI rfl T.c_MOST_ENTRIES) (nomark _)) (k_one (k_raise hX (by omega) tk E_NotPossible rfl r_str)) k_nil)
  (k_one (k_ret (r_bin hX o_add (r_var 0) (r_tup (a_cons (r_tup (a_cons (r_var 3) (a_cons r_bl a_nil))) a_nil)))))) k_nil)
  (k_cons (k_if (t_cmp hX o_ge (r_var 3) (r_callB hX b_len rfl T.n_len bt_len (a_cons (r_var 0) a_nil)) (nomark _)) (k_one (k_raise hX (by omega) tk E_NotPossible rfl r_str)) k_nil)
  (k_cons (k_setT (g_tup hX (gs_cons 4 hX rfl (by first | exact Or.inl rfl | exact Or.inr rfl) (gs_cons 5 hX rfl (by first | exact Or.inl rfl | exact Or.inr rfl) gs_nil))) (r_ix hX (r_var 0) (r_var 3)))
  (k_cons (k_if (t_cmp hX (o_ne hX.room) (r_var 5) (r_cmp hX (o_eq hX.room) (r_var 2) r_str (nomark _)) (nomark _)) (k_one (k_raise hX (by omega) tk E_NotPossible rfl (r_if (t_tru hX (r_var 5)) r_str r_str))) k_nil)
  (k_one (k_ret (r_bin hX o_add (r_bin hX o_add (r_sl hX (r_var 0) po_no (po_yes (r_var 3))) (r_tup (a_cons (r_tup (a_cons (r_var 4) (a_cons (r_not hX (r_var 5)) a_nil))) a_nil))) (r_sl hX (r_var 0) (po_yes (r_bin hX o_add (r_var 3) r_int)) po_no)))))))))
theorem sc_states_along : FnScope ["system", "entries", "found", "command", "holds"] ["system", "entries"] (defScope (top 26)) := ⟨rfl, rfl, rfl, by decide +kernel, rfl, by decide +kernel, by decide +kernel⟩
theorem ok_states_along {f : Addr} {fd : FuncData} (T : Txt K mg) (F : Fun K "states_along" "states_along" (top 26) f fd) (hm : mg "states_along" = some (.ref f)) (hb : Binds K fd ["system", "entries"] []) (G_step : FOk P w K mg base 1 "step" ["system", "state", "command"] d_step) : FOk P w K mg base 2 "states_along" ["system", "entries"] d_states_along :=
  fok (u := 3) F sc_states_along rfl hm hb fun cdv A outer s H E c hX tk => (k_cons (k_setO 2 hX rfl (by first | exact Or.inl rfl | exact Or.inr rfl) (o_disp (a_cons (r_ix hX (r_var 0) r_int) a_nil)))
  (k_cons (k_for hX (passes_of rfl) (i_seq hX (r_var 1)) (g_tup hX (gs_cons 3 hX rfl (by first | exact Or.inl rfl | exact Or.inr rfl) (gs_cons 4 hX rfl (by first | exact Or.inl rfl | exact Or.inr rfl) gs_nil))) (k_one (k_if (t_tru hX (r_var 4)) (k_one (k_app 2 hX rfl (by first | exact Or.inl rfl | exact Or.inr (Or.inl rfl) | exact Or.inr (Or.inr rfl)) (r_call hX G_step (by omega) rfl (a_cons (r_var 0) (a_cons (r_ixO 2 hX rfl (by first | exact Or.inl rfl | exact Or.inr (Or.inl rfl) | exact Or.inr (Or.inr rfl)) (r_un hX o_neg r_int)) (a_cons (r_var 3) a_nil)))))) k_nil)))
  (k_one (k_ret (r_callTy hX b_tuple rfl T.n_tuple bt_tuple (a_cons (r_var 2) a_nil))))))
theorem sc_state_of : FnScope ["system", "entries"] ["system", "entries"] (defScope (top 27)) := ⟨rfl, rfl, rfl, by decide +kernel, rfl, by decide +kernel, by decide +kernel⟩
theorem ok_state_of {f : Addr} {fd : FuncData} (T : Txt K mg) (F : Fun K "state_of" "state_of" (top 27) f fd) (hm : mg "state_of" = some (.ref f)) (hb : Binds K fd ["system", "entries"] []) (G_states_along : FOk P w K mg base 2 "states_along" ["system", "entries"] d_states_along) : FOk P w K mg base 3 "state_of" ["system", "entries"] d_state_of :=
  fok (u := 0) F sc_state_of rfl hm hb fun cdv A outer s H E c hX tk => (k_one (k_ret (r_ix hX (r_call hX G_states_along (by omega) rfl (a_cons (r_var 0) (a_cons (r_var 1) a_nil))) (r_un hX o_neg r_int))))
theorem sc_state_without : FnScope ["system", "entries", "number"] ["system", "entries", "number"] (defScope (top 28)) := ⟨rfl, rfl, rfl, by decide +kernel, rfl, by decide +kernel, by decide +kernel⟩
theorem ok_state_without {f : Addr} {fd : FuncData} (T : Txt K mg) (F : Fun K "state_without" "state_without" (top 28) f fd) (hm : mg "state_without" = some (.ref f)) (hb : Binds K fd ["system", "entries", "number"] []) (G_state_of : FOk P w K mg base 3 "state_of" ["system", "entries"] d_state_of) : FOk P w K mg base 4 "state_without" ["system", "entries", "number"] d_state_without :=
  fok (u := 0) F sc_state_without rfl hm hb fun cdv A outer s H E c hX tk => (k_one (k_ret (r_call hX G_state_of (by omega) rfl (a_cons (r_var 0) (a_cons (r_bin hX o_add (r_sl hX (r_var 1) po_no (po_yes (r_var 2))) (r_sl hX (r_var 1) (po_yes (r_bin hX o_add (r_var 2) r_int)) po_no)) a_nil)))))
theorem sc_Editor___init__ : FnScope ["self", "system"] ["self", "system"] (defScope (inCls (top 29) 0)) := ⟨rfl, rfl, rfl, by decide +kernel, rfl, by decide +kernel, by decide +kernel⟩
theorem ok_Editor___init__ {Ca f : Addr} {fd : FuncData} (T : Txt K mg) (F : Fun K "__init__" "Editor.__init__" (inCls (top 29) 0) f fd) (hC : mg "Editor" = some (.ref Ca)) (cl : L2.Cls K Ca) (hm : L2.Meth K Ca "__init__" f) (hb : Binds K fd ["self", "system"] []) (G_check_system : FOk P w K mg base 3 "check_system" ["system"] d_check_system_v2) (L_Editor : ClOk K mg "Editor" ["system", "rows", "operations"]) : MethOk P w K mg base 4 "Editor" "__init__" ["self", "system"] d_Editor___init__ :=
  mok (u := 0) F sc_Editor___init__ rfl hC cl hm hb fun cdv A outer s H E c hX tk => (k_cons (k_expr (r_call hX G_check_system (by omega) rfl (a_cons (r_var 1) a_nil)))
  (k_cons (k_setF hX L_Editor (.head _) (r_var 0) (r_var 1))
  (k_cons (k_setF hX L_Editor (.tail _ (.head _)) (r_var 0) (o_new (o_disp (a_cons (r_tup a_nil) a_nil))))
  (k_one (k_setF hX L_Editor (.tail _ (.tail _ (.head _))) (r_var 0) (r_tup a_nil))))))
theorem sc_Editor_state : FnScope ["self"] ["self"] (defScope (inCls (top 29) 3)) := ⟨rfl, rfl, rfl, by decide +kernel, rfl, by decide +kernel, by decide +kernel⟩
theorem ok_Editor_state {Ca f : Addr} {fd : FuncData} (T : Txt K mg) (F : Fun K "state" "Editor.state" (inCls (top 29) 3) f fd) (hC : mg "Editor" = some (.ref Ca)) (cl : L2.Cls K Ca) (hm : L2.Meth K Ca "state" f) (hb : Binds K fd ["self"] []) (G_state_of : FOk P w K mg base 3 "state_of" ["system", "entries"] d_state_of) (L_Editor : ClOk K mg "Editor" ["system", "rows", "operations"]) : MethOk P w K mg base 4 "Editor" "state" ["self"] d_Editor_state :=
  mok (u := 0) F sc_Editor_state rfl hC cl hm hb fun cdv A outer s H E c hX tk => (k_one (k_ret (r_call hX G_state_of (by omega) rfl (a_cons (r_fld hX L_Editor (.head _) (r_var 0)) (a_cons (r_ix hX (r_fld hX L_Editor (.tail _ (.head _)) (r_var 0)) (r_un hX o_neg r_int)) a_nil)))))
theorem sc_Editor_act : FnScope ["self", "operation", "entries"] ["self", "operation"] (defScope (inCls (top 29) 1)) := ⟨rfl, rfl, rfl, by decide +kernel, rfl, by decide +kernel, by decide +kernel⟩
theorem ok_Editor_act {Ca f : Addr} {fd : FuncData} (T : Txt K mg) (F : Fun K "act" "Editor.act" (inCls (top 29) 1) f fd) (hC : mg "Editor" = some (.ref Ca)) (cl : L2.Cls K Ca) (hm : L2.Meth K Ca "act" f) (hb : Binds K fd ["self", "operation"] []) (G_is_operation : FOk P w K mg base 3 "is_operation" ["value", "system"] d_is_operation) (G_behind : FOk P w K mg base 3 "behind" ["entries", "operation"] d_behind_v2) (G_Editor_state : MethOk P w K mg base 4 "Editor" "state" ["self"] d_Editor_state) (L_Editor : ClOk K mg "Editor" ["system", "rows", "operations"]) (E_BadValue : ExOk P w K mg base "BadValue" "name") (E_TooLarge : ExOk P w K mg base "TooLarge" "what") : MethOk P w K mg base 5 "Editor" "act" ["self", "operation"] d_Editor_act :=
  mok (u := 1) F sc_Editor_act rfl hC cl hm hb fun cdv A outer s H E c hX tk => (k_cons (k_if (t_not (t_tru hX (r_call hX G_is_operation (by omega) rfl (a_cons (r_var 1) (a_cons (r_fld hX L_Editor (.head _) (r_var 0)) a_nil))))) (k_one (k_raise hX (by omega) tk E_BadValue rfl r_str)) k_nil)
  (k_cons (k_set 2 hX rfl (by first | exact Or.inl rfl | exact Or.inr rfl) (r_call hX G_behind (by omega) rfl (a_cons (r_ix hX (r_fld hX L_Editor (.tail _ (.head _)) (r_var 0)) (r_un hX o_neg r_int)) (a_cons (r_var 1) a_nil))))
  (k_cons (k_if (t_cmp hX o_ge (r_callB hX b_len rfl T.n_len bt_len (a_cons (r_fld hX L_Editor (.tail _ (.tail _ (.head _))) (r_var 0)) a_nil)) (r_globI rfl T.c_MOST_OPERATIONS) (nomark _)) (k_one (k_raise hX (by omega) tk E_TooLarge rfl r_str)) k_nil)
  (k_cons (k_appR hX (r_fld hX L_Editor (.tail _ (.head _)) (r_var 0)) (r_var 2))
  (k_cons (k_setF hX L_Editor (.tail _ (.tail _ (.head _))) (r_var 0) (r_bin hX o_add (r_fld hX L_Editor (.tail _ (.tail _ (.head _))) (r_var 0)) (r_tup (a_cons (r_var 1) a_nil))))
  (k_one (k_ret (r_meth0 hX G_Editor_state (by omega) (r_var 0)))))))))
theorem sc_replayed : FnScope ["system", "journal", "editor", "operation"] ["system", "journal"] (defScope (top 31)) := ⟨rfl, rfl, rfl, by decide +kernel, rfl, by decide +kernel, by decide +kernel⟩
theorem ok_replayed {f : Addr} {fd : FuncData} (T : Txt K mg) (F : Fun K "replayed" "replayed" (top 31) f fd) (hm : mg "replayed" = some (.ref f)) (hb : Binds K fd ["system", "journal"] []) (G_Editor___init__ : MakeOk P w K mg base 4 "Editor" ["self", "system"] d_Editor___init__) (G_is_operation : FOk P w K mg base 3 "is_operation" ["value", "system"] d_is_operation) (G_Editor_act : MethOk P w K mg base 5 "Editor" "act" ["self", "operation"] d_Editor_act) (E_BadValue : ExOk P w K mg base "BadValue" "name") : FOk P w K mg base 6 "replayed" ["system", "journal"] d_replayed :=
  fok (u := 2) F sc_replayed rfl hm hb fun cdv A outer s H E c hX tk => (k_cons (k_set 2 hX rfl (by first | exact Or.inl rfl | exact Or.inr rfl) (r_make hX G_Editor___init__ (by omega) rfl (a_cons (r_var 0) a_nil)))
  (k_cons (k_if (t_w (w_or (t_not (t_tru hX (r_isi hX rfl T.n_isinstance rfl T.n_tuple bt_tuple (r_var 1)))) (w_or1 (t_cmp hX o_gt (r_callB hX b_len rfl T.n_len bt_len (a_cons (r_var 1) a_nil)) (r_globI rfl T.c_MOST_OPERATIONS) (nomark _))))) (k_one (k_raise hX (by omega) tk E_BadValue rfl r_str)) k_nil)
  (k_cons (k_if (t_not (t_tru hX (r_callB hX (b_all hX.calm) rfl T.n_all bt_all (a_cons (o_val (o_comp hX (blkOk_by (own := [("operation", 3)]) (by show blkC ["system", "journal", "editor", "operation"] (defScope (top 31)) _ _ = true; decide +kernel)) (i_seq hX (r_var 1)) (by decide) (fun c s H C cl fp hX => (g_name 3 hX rfl (by first | exact Or.inl rfl | exact Or.inr rfl))) (fun c s H C cl fp hX => ts_nil) (fun c s H C cl fp hX => (r_call hX G_is_operation (by omega) rfl (a_cons (r_var 3) (a_cons (r_var 0) a_nil)))))) a_nil)))) (k_one (k_raise hX (by omega) tk E_BadValue rfl r_str)) k_nil)
  (k_cons (k_for hX (passes_of rfl) (i_seq hX (r_var 1)) (g_name 3 hX rfl (by first | exact Or.inl rfl | exact Or.inr rfl)) (k_one (k_expr (r_meth hX G_Editor_act (by omega) (r_var 2) (a_cons (r_var 3) a_nil)))))
  (k_one (k_ret (r_var 2)))))))
theorem sc_entries_behind : FnScope ["system", "entries", "record", "later"] ["system", "entries", "record"] (defScope (top 32)) := ⟨rfl, rfl, rfl, by decide +kernel, rfl, by decide +kernel, by decide +kernel⟩
theorem ok_entries_behind {f : Addr} {fd : FuncData} (T : Txt K mg) (F : Fun K "entries_behind" "entries_behind" (top 32) f fd) (hm : mg "entries_behind" = some (.ref f)) (hb : Binds K fd ["system", "entries", "record"] []) (G_is_operation : FOk P w K mg base 3 "is_operation" ["value", "system"] d_is_operation) (G_behind : FOk P w K mg base 3 "behind" ["entries", "operation"] d_behind_v2) (G_is_state : FOk P w K mg base 2 "is_state" ["system", "value"] d_is_state) (G_state_of : FOk P w K mg base 3 "state_of" ["system", "entries"] d_state_of) (H_NotPossible : TryOk K mg "NotPossible" [("BadValue", false), ("NotPossible", true), ("TooLarge", false)] ["name", "what", "why"]) : FOk P w K mg base 4 "entries_behind" ["system", "entries", "record"] d_entries_behind :=
  fok (u := 1) F sc_entries_behind rfl hm hb fun cdv A outer s H E c hX tk => (k_cons (k_if (t_w (w_or (t_not (t_tru hX (r_isi hX rfl T.n_isinstance rfl T.n_tuple bt_tuple (r_var 2)))) (w_or (t_cmp hX (o_ne hX.room) (r_callB hX b_len rfl T.n_len bt_len (a_cons (r_var 2) a_nil)) r_int (nomark _)) (w_or1 (t_not (t_tru hX (r_call hX G_is_operation (by omega) rfl (a_cons (r_ix hX (r_var 2) r_int) (a_cons (r_var 0) a_nil))))))))) (k_one (k_ret r_non)) k_nil)
  (k_cons (k_tryN [("BadValue", false), ("NotPossible", true), ("TooLarge", false)] ["name", "what", "why"] hX tk H_NotPossible rfl rfl rfl (fun W pn xe hX tk => (k_one (k_set 3 hX rfl (by first | exact Or.inl rfl | exact Or.inr rfl) (r_call hX G_behind (by omega) rfl (a_cons (r_var 1) (a_cons (r_ix hX (r_var 2) r_int) a_nil)))))) (fun a oe pn => (k_one (k_ret r_non))))
  (k_one (k_ret (r_if (t_w (w_and (t_tru hX (r_call hX G_is_state (by omega) rfl (a_cons (r_var 0) (a_cons (r_ix hX (r_var 2) r_int) a_nil)))) (w_and1 (t_cmp hX (o_eq hX.room) (r_ix hX (r_var 2) r_int) (r_call hX G_state_of (by omega) rfl (a_cons (r_var 0) (a_cons (r_var 3) a_nil))) (nomark _))))) (r_var 3) r_non)))))
theorem sc_are_right : FnScope ["system", "records", "entries", "record"] ["system", "records"] (defScope (top 33)) := ⟨rfl, rfl, rfl, by decide +kernel, rfl, by decide +kernel, by decide +kernel⟩
theorem ok_are_right {f : Addr} {fd : FuncData} (T : Txt K mg) (F : Fun K "are_right" "are_right" (top 33) f fd) (hm : mg "are_right" = some (.ref f)) (hb : Binds K fd ["system", "records"] []) (G_check_system : FOk P w K mg base 3 "check_system" ["system"] d_check_system_v2) (G_entries_behind : FOk P w K mg base 4 "entries_behind" ["system", "entries", "record"] d_entries_behind) : FOk P w K mg base 5 "are_right" ["system", "records"] d_are_right_v2 :=
  fok (u := 2) F sc_are_right rfl hm hb fun cdv A outer s H E c hX tk => (k_cons (k_expr (r_call hX G_check_system (by omega) rfl (a_cons (r_var 0) a_nil)))
  (k_cons (k_if (t_w (w_or (t_not (t_tru hX (r_isi hX rfl T.n_isinstance rfl T.n_tuple bt_tuple (r_var 1)))) (w_or1 (t_cmp hX o_gt (r_callB hX b_len rfl T.n_len bt_len (a_cons (r_var 1) a_nil)) (r_globI rfl T.c_MOST_OPERATIONS) (nomark _))))) (k_one (k_ret r_bl)) k_nil)
  (k_cons (k_set 2 hX rfl (by first | exact Or.inl rfl | exact Or.inr rfl) (r_tup a_nil))
  (k_cons (k_for hX (passes_of rfl) (i_seq hX (r_var 1)) (g_name 3 hX rfl (by first | exact Or.inl rfl | exact Or.inr rfl)) (k_cons (k_set 2 hX rfl (by first | exact Or.inl rfl | exact Or.inr rfl) (r_call hX G_entries_behind (by omega) rfl (a_cons (r_var 0) (a_cons (r_var 2) (a_cons (r_var 3) a_nil)))))
  (k_one (k_if (t_cmp hX o_is (r_var 2) r_non (nomark _)) (k_one (k_ret r_bl)) k_nil))))
  (k_one (k_ret r_bl))))))
theorem sc__law_stream : FnScope ["_law_script"] ["_law_script"] (defScope (top 35)) := ⟨rfl, rfl, rfl, by decide +kernel, rfl, by decide +kernel, by decide +kernel⟩
theorem ok__law_stream {f : Addr} {fd : FuncData} (T : Txt K mg) (F : Fun K "_law_stream" "_law_stream" (top 35) f fd) (hm : mg "_law_stream" = some (.ref f)) (hb : Binds K fd ["_law_script"] [])  : FOk P w K mg base 1 "_law_stream" ["_law_script"] d__law_stream :=
  fok (u := 0) F sc__law_stream rfl hm hb fun cdv A outer s H E c hX tk => (k_one (k_ret (o_new (o_disp (a_cons (r_callTy hX b_list rfl T.n_list bt_list (a_cons (r_var 0) a_nil)) (a_cons r_int (a_cons r_int a_nil)))))))
theorem sc__law_next : FnScope ["_law_stream_here", "_law_many", "_law_k", "_law_cell", "_law_digit"] ["_law_stream_here", "_law_many"] (defScope (top 36)) := ⟨rfl, rfl, rfl, by decide +kernel, rfl, by decide +kernel, by decide +kernel⟩
theorem ok__law_next {f : Addr} {fd : FuncData} (T : Txt K mg) (F : Fun K "_law_next" "_law_next" (top 36) f fd) (hm : mg "_law_next" = some (.ref f)) (hb : Binds K fd ["_law_stream_here", "_law_many"] [])  : FOk P w K mg base 1 "_law_next" ["_law_stream_here", "_law_many"] d__law_next :=
  fok (u := 3) F sc__law_next rfl hm hb fun cdv A outer s H E c hX tk => (k_cons (k_if (t_cmp hX (o_eq hX.room) (r_ix hX (r_var 0) r_int) r_int (nomark _)) (k_cons (k_set 2 hX rfl (by first | exact Or.inl rfl | exact Or.inr rfl) (r_ix hX (r_var 0) r_int))
  (k_cons (k_set 3 hX rfl (by first | exact Or.inl rfl | exact Or.inr rfl) (r_bin hX o_add r_int (r_var 2)))
  (k_cons (k_if (t_cmp hX o_lt (r_var 2) (r_callB hX b_len rfl T.n_len bt_len (a_cons (r_ix hX (r_var 0) r_int) a_nil)) (nomark _)) (k_one (k_set 3 hX rfl (by first | exact Or.inl rfl | exact Or.inr rfl) (r_callB hX b_abs rfl T.n_abs bt_abs (a_cons (r_ix hX (r_ix hX (r_var 0) r_int) (r_var 2)) a_nil)))) k_nil)
  (k_cons (k_if (t_cmp hX o_lt (r_var 3) (r_bin hX o_pow r_int r_int) (nomark _)) (k_cons (k_set 3 hX rfl (by first | exact Or.inl rfl | exact Or.inr rfl) (r_bin hX o_mod (r_callTy hX b_int rfl T.n_int bt_int (a_cons (r_bin hX o_add (r_bin hX o_add (r_bin hX o_mul' (r_var 3) r_int) (r_bin hX o_mul' (r_var 2) r_int)) r_int) a_nil)) r_int))
  (k_one (k_set 3 hX rfl (by first | exact Or.inl rfl | exact Or.inr rfl) (r_bin hX o_add (r_bin hX o_mul' (r_bin hX o_mod (r_callTy hX b_int rfl T.n_int bt_int (a_cons (r_bin hX o_add (r_bin hX o_mul' (r_var 3) r_int) r_int) a_nil)) r_int) r_int) (r_var 3))))) k_nil)
  (k_cons (k_setR hX (r_var 3) (r_var 0) r_int)
  (k_one (k_setR hX (r_bin hX o_add (r_var 2) r_int) (r_var 0) r_int))))))) k_nil)
  (k_cons (k_set 4 hX rfl (by first | exact Or.inl rfl | exact Or.inr rfl) (r_bin hX o_mod (r_callTy hX b_int rfl T.n_int bt_int (a_cons (r_ix hX (r_var 0) r_int) a_nil)) (r_var 1)))
  (k_cons (k_setR hX (r_bin hX o_fdiv (r_ix hX (r_var 0) r_int) (r_var 1)) (r_var 0) r_int)
  (k_one (k_ret (r_var 4))))))
theorem sc_Editor_check_entry : FnScope ["self", "entry"] ["self", "entry"] (defScope (inCls (top 29) 7)) := ⟨rfl, rfl, rfl, by decide +kernel, rfl, by decide +kernel, by decide +kernel⟩
theorem ok_Editor_check_entry {Ca f : Addr} {fd : FuncData} (T : Txt K mg) (F : Fun K "check_entry" "Editor.check_entry" (inCls (top 29) 7) f fd) (hC : mg "Editor" = some (.ref Ca)) (cl : L2.Cls K Ca) (hm : L2.Meth K Ca "check_entry" f) (hb : Binds K fd ["self", "entry"] []) (G_is_whole : FOk P w K mg base 1 "is_whole" ["value", "low", "high"] d_is_whole) (L_Editor : ClOk K mg "Editor" ["system", "rows", "operations"]) (E_BadValue : ExOk P w K mg base "BadValue" "name") (E_NotPossible : ExOk P w K mg base "NotPossible" "why") : MethOk P w K mg base 3 "Editor" "check_entry" ["self", "entry"] d_Editor_check_entry :=
  mok (u := 0) F sc_Editor_check_entry rfl hC cl hm hb fun cdv A outer s H E c hX tk => (k_cons (k_if (t_not (t_tru hX (r_call hX G_is_whole (by omega) rfl (a_cons (r_var 1) (a_cons r_int (a_cons (r_bin hX o_sub (r_globI rfl T.c_MOST_ENTRIES) r_int) a_nil)))))) (k_one (k_raise hX (by omega) tk E_BadValue rfl r_str)) k_nil)
  (k_one (k_if (t_cmp hX o_ge (r_var 1) (r_callB hX b_len rfl T.n_len bt_len (a_cons (r_ix hX (r_fld hX L_Editor (.tail _ (.head _)) (r_var 0)) (r_un hX o_neg r_int)) a_nil)) (nomark _)) (k_one (k_raise hX (by omega) tk E_NotPossible rfl r_str)) k_nil)))
theorem sc_Editor_without : FnScope ["self", "entry"] ["self", "entry"] (defScope (inCls (top 29) 8)) := ⟨rfl, rfl, rfl, by decide +kernel, rfl, by decide +kernel, by decide +kernel⟩
theorem ok_Editor_without {Ca f : Addr} {fd : FuncData} (T : Txt K mg) (F : Fun K "without" "Editor.without" (inCls (top 29) 8) f fd) (hC : mg "Editor" = some (.ref Ca)) (cl : L2.Cls K Ca) (hm : L2.Meth K Ca "without" f) (hb : Binds K fd ["self", "entry"] []) (G_Editor_check_entry : MethOk P w K mg base 3 "Editor" "check_entry" ["self", "entry"] d_Editor_check_entry) (G_state_without : FOk P w K mg base 4 "state_without" ["system", "entries", "number"] d_state_without) (L_Editor : ClOk K mg "Editor" ["system", "rows", "operations"]) : MethOk P w K mg base 5 "Editor" "without" ["self", "entry"] d_Editor_without :=
  mok (u := 0) F sc_Editor_without rfl hC cl hm hb fun cdv A outer s H E c hX tk => (k_cons (k_expr (r_meth hX G_Editor_check_entry (by omega) (r_var 0) (a_cons (r_var 1) a_nil)))
  (k_one (k_ret (r_call hX G_state_without (by omega) rfl (a_cons (r_fld hX L_Editor (.head _) (r_var 0)) (a_cons (r_ix hX (r_fld hX L_Editor (.tail _ (.head _)) (r_var 0)) (r_un hX o_neg r_int)) (a_cons (r_var 1) a_nil)))))))
theorem sc_Editor_is_revocable : FnScope ["self", "entry", "other"] ["self", "entry"] (defScope (inCls (top 29) 9)) := ⟨rfl, rfl, rfl, by decide +kernel, rfl, by decide +kernel, by decide +kernel⟩
theorem ok_Editor_is_revocable {Ca f : Addr} {fd : FuncData} (T : Txt K mg) (F : Fun K "is_revocable" "Editor.is_revocable" (inCls (top 29) 9) f fd) (hC : mg "Editor" = some (.ref Ca)) (cl : L2.Cls K Ca) (hm : L2.Meth K Ca "is_revocable" f) (hb : Binds K fd ["self", "entry"] []) (G_state_without : FOk P w K mg base 4 "state_without" ["system", "entries", "number"] d_state_without) (G_determines : FOk P w K mg base 4 "determines" ["system", "one", "other"] d_determines) (G_Editor_state : MethOk P w K mg base 4 "Editor" "state" ["self"] d_Editor_state) (L_Editor : ClOk K mg "Editor" ["system", "rows", "operations"]) : MethOk P w K mg base 5 "Editor" "is_revocable" ["self", "entry"] d_Editor_is_revocable_v2 :=
  mok (u := 1) F sc_Editor_is_revocable rfl hC cl hm hb fun cdv A outer s H E c hX tk => (k_cons (k_set 2 hX rfl (by first | exact Or.inl rfl | exact Or.inr rfl) (r_call hX G_state_without (by omega) rfl (a_cons (r_fld hX L_Editor (.head _) (r_var 0)) (a_cons (r_ix hX (r_fld hX L_Editor (.tail _ (.head _)) (r_var 0)) (r_un hX o_neg r_int)) (a_cons (r_var 1) a_nil)))))
  (k_one (k_ret (r_and hX (r_ix hX (r_ix hX (r_ix hX (r_fld hX L_Editor (.tail _ (.head _)) (r_var 0)) (r_un hX o_neg r_int)) (r_var 1)) r_int) (r_one (r_call hX G_determines (by omega) rfl (a_cons (r_fld hX L_Editor (.head _) (r_var 0)) (a_cons (r_meth0 hX G_Editor_state (by omega) (r_var 0)) (a_cons (r_var 2) a_nil)))))))))
theorem sc_Editor_table : FnScope ["self", "entry", "other"] ["self", "entry"] (defScope (inCls (top 29) 11)) := ⟨rfl, rfl, rfl, by decide +kernel, rfl, by decide +kernel, by decide +kernel⟩
theorem ok_Editor_table {Ca f : Addr} {fd : FuncData} (T : Txt K mg) (F : Fun K "table" "Editor.table" (inCls (top 29) 11) f fd) (hC : mg "Editor" = some (.ref Ca)) (cl : L2.Cls K Ca) (hm : L2.Meth K Ca "table" f) (hb : Binds K fd ["self", "entry"] []) (G_Editor_without : MethOk P w K mg base 5 "Editor" "without" ["self", "entry"] d_Editor_without) (G_Editor_is_revocable : MethOk P w K mg base 5 "Editor" "is_revocable" ["self", "entry"] d_Editor_is_revocable_v2) (G_table_for : FOk P w K mg base 4 "table_for" ["system", "one", "other"] d_table_for) (G_Editor_state : MethOk P w K mg base 4 "Editor" "state" ["self"] d_Editor_state) (L_Editor : ClOk K mg "Editor" ["system", "rows", "operations"]) : MethOk P w K mg base 6 "Editor" "table" ["self", "entry"] d_Editor_table_v2 :=
  mok (u := 1) F sc_Editor_table rfl hC cl hm hb fun cdv A outer s H E c hX tk => (k_cons (k_set 2 hX rfl (by first | exact Or.inl rfl | exact Or.inr rfl) (r_meth hX G_Editor_without (by omega) (r_var 0) (a_cons (r_var 1) a_nil)))
  (k_one (k_ret (r_if (t_tru hX (r_meth hX G_Editor_is_revocable (by omega) (r_var 0) (a_cons (r_var 1) a_nil))) (r_callTy hX b_tuple rfl T.n_tuple bt_tuple (a_cons (r_call hX G_table_for (by omega) rfl (a_cons (r_fld hX L_Editor (.head _) (r_var 0)) (a_cons (r_meth0 hX G_Editor_state (by omega) (r_var 0)) (a_cons (r_var 2) a_nil)))) a_nil)) r_non))))
theorem sc__law_told : FnScope ["_law_which", "_law_one", "_law_other", "e"] ["_law_which", "_law_one", "_law_other"] (defScope (top 37)) := ⟨rfl, rfl, rfl, by decide +kernel, rfl, by decide +kernel, by decide +kernel⟩
theorem ok__law_told {f : Addr} {fd : FuncData} (T : Txt K mg) (F : Fun K "_law_told" "_law_told" (top 37) f fd) (hm : mg "_law_told" = some (.ref f)) (hb : Binds K fd ["_law_which", "_law_one", "_law_other"] []) (G_Editor___init__ : MakeOk P w K mg base 4 "Editor" ["self", "system"] d_Editor___init__) (G_replayed : FOk P w K mg base 6 "replayed" ["system", "journal"] d_replayed) (G_are_right : FOk P w K mg base 5 "are_right" ["system", "records"] d_are_right_v2) (G_Editor_act : MethOk P w K mg base 5 "Editor" "act" ["self", "operation"] d_Editor_act) (G_Editor_without : MethOk P w K mg base 5 "Editor" "without" ["self", "entry"] d_Editor_without) (G_Editor_table : MethOk P w K mg base 6 "Editor" "table" ["self", "entry"] d_Editor_table_v2) (H_UndoError : TryOk K mg "UndoError" [("BadValue", true), ("NotPossible", true), ("TooLarge", true)] ["name", "what", "why"]) (I_BadValue : IsOwn K mg "BadValue" [("BadValue", true), ("NotPossible", false), ("TooLarge", false)]) (I_NotPossible : IsOwn K mg "NotPossible" [("BadValue", false), ("NotPossible", true), ("TooLarge", false)]) (I_TooLarge : IsOwn K mg "TooLarge" [("BadValue", false), ("NotPossible", false), ("TooLarge", true)]) (I_ValueError : IsBlt K mg "ValueError" [("BadValue", true), ("NotPossible", true), ("TooLarge", true)]) : FOk P w K mg base 7 "_law_told" ["_law_which", "_law_one", "_law_other"] d__law_told_v19 :=
  fok (u := 1) F sc__law_told rfl hm hb fun cdv A outer s H E c hX tk => (k_cons (k_try 3 [("BadValue", true), ("NotPossible", true), ("TooLarge", true)] ["name", "what", "why"] hX tk H_UndoError rfl rfl rfl rfl rfl (fun W pn xe hX tk => (k_one (k_if (t_cmp hX (o_eq hX.room) (r_var 0) r_int (nomark _)) (k_one (k_expr (r_make hX G_Editor___init__ (by omega) rfl (a_cons (r_var 1) a_nil)))) (k_one (k_if (t_cmp hX (o_eq hX.room) (r_var 0) r_int (nomark _)) (k_one (k_expr (r_call hX G_replayed (by omega) rfl (a_cons (r_var 1) (a_cons (r_var 2) a_nil))))) (k_one (k_if (t_cmp hX (o_eq hX.room) (r_var 0) r_int (nomark _)) (k_one (k_expr (r_call hX G_are_right (by omega) rfl (a_cons (r_var 1) (a_cons (r_var 2) a_nil))))) (k_one (k_if (t_cmp hX (o_eq hX.room) (r_var 0) r_int (nomark _)) (k_one (k_expr (r_meth hX G_Editor_act (by omega) (r_var 1) (a_cons (r_var 2) a_nil)))) (k_one (k_if (t_cmp hX (o_eq hX.room) (r_var 0) r_int (nomark _)) (k_one (k_expr (r_meth hX G_Editor_without (by omega) (r_var 1) (a_cons (r_var 2) a_nil)))) (k_one (k_expr (r_meth hX G_Editor_table (by omega) (r_var 1) (a_cons (r_var 2) a_nil))))))))))))))) (fun a oe cls d pn c x hK hz hd hx => (xs_cons (x_if (xt_w (xw_and (xt_bool (x_isO hK hx I_BadValue hz hd rfl rfl T.n_isinstance rfl)) (xw_and1 (xt_bool (x_isB hK hx I_ValueError hz hd rfl rfl T.n_isinstance rfl))))) (x_one (x_ret (x_fld hK hx (.head _) hz hd rfl))) xs_nil) (xs_cons (x_if (xt_bool (x_isO hK hx I_NotPossible hz hd rfl rfl T.n_isinstance rfl)) (x_one (x_ret (x_tup (xa_cons (x_fld hK hx (.tail _ (.tail _ (.head _))) hz hd rfl) xa_nil)))) xs_nil) (xs_cons (x_if (xt_bool (x_isO hK hx I_TooLarge hz hd rfl rfl T.n_isinstance rfl)) (x_one (x_ret (x_lst (xa_cons (x_fld hK hx (.tail _ (.head _)) hz hd rfl) xa_nil)))) xs_nil) (x_one (x_ret (x_tup (xa_cons (x_of r_str) xa_nil)))))))))
  (k_one (k_ret r_str)))
theorem sc_Editor_journal : FnScope ["self"] ["self"] (defScope (inCls (top 29) 6)) := ⟨rfl, rfl, rfl, by decide +kernel, rfl, by decide +kernel, by decide +kernel⟩
theorem ok_Editor_journal {Ca f : Addr} {fd : FuncData} (T : Txt K mg) (F : Fun K "journal" "Editor.journal" (inCls (top 29) 6) f fd) (hC : mg "Editor" = some (.ref Ca)) (cl : L2.Cls K Ca) (hm : L2.Meth K Ca "journal" f) (hb : Binds K fd ["self"] []) (L_Editor : ClOk K mg "Editor" ["system", "rows", "operations"]) : MethOk P w K mg base 1 "Editor" "journal" ["self"] d_Editor_journal :=
  mok (u := 0) F sc_Editor_journal rfl hC cl hm hb fun cdv A outer s H E c hX tk => (k_one (k_ret (r_fld hX L_Editor (.tail _ (.tail _ (.head _))) (r_var 0))))
theorem sc_law : FnScope ["_law_script", "_law_stream_here", "_law_system", "_law_wrong", "_law_no_system", "_law_operations", "_law_operation", "_law_good", "_law_journal", "_law_which", "_law_editor", "_law_no_entry", "_law_turn", "_law_record", "_law_pair", "_law_odd", "_law_one"] ["_law_script"] (defScope (top 38)) := ⟨rfl, rfl, rfl, by decide +kernel, rfl, by decide +kernel, by decide +kernel⟩
theorem ok_law {f : Addr} {fd : FuncData} (T : Txt K mg) (F : Fun K "law" "law" (top 38) f fd) (hm : mg "law" = some (.ref f)) (hb : Binds K fd ["_law_script"] []) (G__law_stream : FOk P w K mg base 1 "_law_stream" ["_law_script"] d__law_stream) (G__law_next : FOk P w K mg base 1 "_law_next" ["_law_stream_here", "_law_many"] d__law_next) (G__law_told : FOk P w K mg base 7 "_law_told" ["_law_which", "_law_one", "_law_other"] d__law_told_v19) (G_Editor___init__ : MakeOk P w K mg base 4 "Editor" ["self", "system"] d_Editor___init__) (G_Editor_journal : MethOk P w K mg base 1 "Editor" "journal" ["self"] d_Editor_journal) (G_Editor_state : MethOk P w K mg base 4 "Editor" "state" ["self"] d_Editor_state) (G_Editor_act : MethOk P w K mg base 5 "Editor" "act" ["self", "operation"] d_Editor_act) (G_are_right : FOk P w K mg base 5 "are_right" ["system", "records"] d_are_right_v2) : FOk P w K mg base 8 "law" ["_law_script"] d_law_k78 :=
  fok (u := 16) F sc_law rfl hm hb fun cdv A outer s H E c hX tk => (k_cons (k_set 1 hX rfl (by first | exact Or.inl rfl | exact Or.inr rfl) (r_call hX G__law_stream (by omega) rfl (a_cons (r_var 0) a_nil)))
  (k_cons (k_set 2 hX rfl (by first | exact Or.inl rfl | exact Or.inr rfl) (r_tup (a_cons r_int (a_cons r_int (a_cons (r_tup (a_cons (r_tup (a_cons r_int (a_cons r_int (a_cons r_int a_nil)))) (a_cons (r_tup (a_cons r_int (a_cons r_int (a_cons r_int a_nil)))) a_nil))) a_nil)))))
  (k_cons (k_set 3 hX rfl (by first | exact Or.inl rfl | exact Or.inr rfl) (r_lst (a_cons r_non (a_cons (r_callTy hX b_list rfl T.n_list bt_list (a_cons (r_var 2) a_nil)) (a_cons (r_sl hX (r_var 2) po_no (po_yes r_int)) (a_cons (r_tup (a_cons r_int (a_cons r_int (a_cons (r_tup a_nil) a_nil)))) (a_cons (r_tup (a_cons r_int (a_cons r_int (a_cons (r_tup a_nil) a_nil)))) (a_cons (r_tup (a_cons r_int (a_cons r_int (a_cons (r_tup a_nil) a_nil)))) (a_cons (r_tup (a_cons r_bl (a_cons r_int (a_cons (r_tup a_nil) a_nil)))) (a_cons (r_tup (a_cons r_int (a_cons r_int (a_cons (r_lst (a_cons (r_tup (a_cons r_int (a_cons r_int (a_cons r_int a_nil)))) a_nil)) a_nil)))) a_nil))))))))))
  (k_cons (k_set 3 hX rfl (by first | exact Or.inl rfl | exact Or.inr rfl) (r_bin hX o_add (r_var 3) (r_lst (a_cons (r_tup (a_cons r_int (a_cons r_int (a_cons (r_tup (a_cons (r_tup (a_cons r_int (a_cons r_int a_nil))) a_nil)) a_nil)))) (a_cons (r_tup (a_cons r_int (a_cons r_int (a_cons (r_tup (a_cons (r_tup (a_cons r_int (a_cons r_int (a_cons r_int a_nil)))) a_nil)) a_nil)))) (a_cons (r_tup (a_cons r_int (a_cons r_int (a_cons (r_tup (a_cons (r_tup (a_cons r_int (a_cons r_int (a_cons r_bl a_nil)))) a_nil)) a_nil)))) (a_cons (r_tup (a_cons r_int (a_cons r_int (a_cons (r_bin hX o_mul' (r_tup (a_cons (r_tup (a_cons r_int (a_cons r_int a_nil))) a_nil)) r_int) a_nil)))) a_nil)))))))
  (k_cons (k_set 4 hX rfl (by first | exact Or.inl rfl | exact Or.inr rfl) (r_ix hX (r_var 3) (r_call hX G__law_next (by omega) rfl (a_cons (r_var 1) (a_cons r_int a_nil)))))
  (k_cons (k_set 5 hX rfl (by first | exact Or.inl rfl | exact Or.inr rfl) (r_lst (a_cons r_non (a_cons (r_tup a_nil) (a_cons (r_tup (a_cons r_str a_nil)) (a_cons (r_tup (a_cons r_str (a_cons r_int a_nil))) (a_cons (r_tup (a_cons r_str (a_cons (r_un hX o_neg r_int) a_nil))) (a_cons (r_tup (a_cons r_str (a_cons r_bl a_nil))) (a_cons (r_tup (a_cons r_str (a_cons r_non a_nil))) (a_cons (r_tup (a_cons r_str (a_cons r_int (a_cons r_int a_nil)))) (a_cons (r_lst (a_cons r_str (a_cons r_int a_nil))) (a_cons r_str a_nil))))))))))))
  (k_cons (k_set 5 hX rfl (by first | exact Or.inl rfl | exact Or.inr rfl) (r_bin hX o_add (r_var 5) (r_lst (a_cons (r_tup (a_cons r_str a_nil)) (a_cons (r_tup (a_cons r_str (a_cons r_int a_nil))) (a_cons (r_tup (a_cons r_str (a_cons (r_un hX o_neg r_int) a_nil))) (a_cons (r_tup (a_cons r_str (a_cons r_bl a_nil))) (a_cons (r_tup (a_cons r_str (a_cons r_int a_nil))) (a_cons (r_tup (a_cons r_str (a_cons r_str a_nil))) (a_cons (r_tup (a_cons r_str (a_cons r_int a_nil))) (a_cons (r_tup (a_cons r_non (a_cons r_int a_nil))) a_nil)))))))))))
  (k_cons (k_set 6 hX rfl (by first | exact Or.inl rfl | exact Or.inr rfl) (r_ix hX (r_var 5) (r_call hX G__law_next (by omega) rfl (a_cons (r_var 1) (a_cons r_int a_nil)))))
  (k_cons (k_set 7 hX rfl (by first | exact Or.inl rfl | exact Or.inr rfl) (r_tup (a_cons r_str (a_cons r_int a_nil))))
  (k_cons (k_set 8 hX rfl (by first | exact Or.inl rfl | exact Or.inr rfl) (r_ix hX (r_lst (a_cons r_non (a_cons (r_lst (a_cons (r_var 7) a_nil)) (a_cons (r_tup (a_cons (r_var 7) (a_cons (r_var 6) (a_cons (r_var 7) a_nil)))) (a_cons (r_tup (a_cons (r_var 6) a_nil)) (a_cons (r_tup (a_cons (r_var 7) (a_cons (r_var 6) a_nil))) (a_cons (r_bin hX o_mul' (r_tup (a_cons (r_var 7) a_nil)) r_int) a_nil))))))) (r_call hX G__law_next (by omega) rfl (a_cons (r_var 1) (a_cons r_int a_nil)))))
  (k_cons (k_for hX (passes_of rfl) (i_rng hX rfl T.n_range r_int) (g_name 9 hX rfl (by first | exact Or.inl rfl | exact Or.inr rfl)) (k_one (k_if (t_w (w_or (t_cmp hX (o_ne hX.room) (r_call hX G__law_told (by omega) rfl (a_cons (r_var 9) (a_cons (r_var 4) (a_cons (r_var 8) a_nil)))) r_str (nomark _)) (w_or (t_cmp hX (o_ne hX.room) (r_call hX G__law_told (by omega) rfl (a_cons (r_var 9) (a_cons (r_var 4) (a_cons (r_tup a_nil) a_nil)))) r_str (nomark _)) (w_or1 (t_cmp hX (o_ne hX.room) (r_call hX G__law_told (by omega) rfl (a_cons (r_var 9) (a_cons (r_var 2) (a_cons (r_tup a_nil) a_nil)))) r_str (nomark _)))))) (k_one (k_ret r_bl)) k_nil)))
  (k_cons (k_if (t_w (w_or (t_cmp hX (o_ne hX.room) (r_call hX G__law_told (by omega) rfl (a_cons r_int (a_cons (r_var 2) (a_cons (r_var 8) a_nil)))) r_str (nomark _)) (w_or (t_cmp hX (o_ne hX.room) (r_call hX G__law_told (by omega) rfl (a_cons r_int (a_cons (r_var 2) (a_cons (r_bin hX o_mul' (r_tup (a_cons (r_var 7) a_nil)) r_int) a_nil)))) r_str (nomark _)) (w_or1 (t_cmp hX (o_ne hX.room) (r_call hX G__law_told (by omega) rfl (a_cons r_int (a_cons (r_var 2) (a_cons (r_bin hX o_mul' (r_tup (a_cons (r_var 7) a_nil)) r_int) a_nil)))) (r_tup (a_cons r_str a_nil)) (nomark _)))))) (k_one (k_ret r_bl)) k_nil)
  (k_cons (k_set 10 hX rfl (by first | exact Or.inl rfl | exact Or.inr rfl) (r_make hX G_Editor___init__ (by omega) rfl (a_cons (r_var 2) a_nil)))
  (k_cons (k_set 11 hX rfl (by first | exact Or.inl rfl | exact Or.inr rfl) (r_ix hX (r_lst (a_cons (r_un hX o_neg r_int) (a_cons r_int (a_cons r_bl (a_cons r_non (a_cons r_str a_nil)))))) (r_call hX G__law_next (by omega) rfl (a_cons (r_var 1) (a_cons r_int a_nil)))))
  (k_cons (k_for hX (passes_of rfl) (i_seq hX (r_lst (a_cons r_int (a_cons r_int a_nil)))) (g_name 9 hX rfl (by first | exact Or.inl rfl | exact Or.inr rfl)) (k_one (k_if (t_w (w_or (t_cmp hX (o_ne hX.room) (r_call hX G__law_told (by omega) rfl (a_cons (r_var 9) (a_cons (r_var 10) (a_cons (r_var 11) a_nil)))) r_str (nomark _)) (w_or1 (t_cmp hX (o_ne hX.room) (r_call hX G__law_told (by omega) rfl (a_cons (r_var 9) (a_cons (r_var 10) (a_cons r_int a_nil)))) (r_tup (a_cons r_str a_nil)) (nomark _))))) (k_one (k_ret r_bl)) k_nil)))
  (k_cons (k_if (t_w (w_or (t_cmp hX (o_ne hX.room) (r_call hX G__law_told (by omega) rfl (a_cons r_int (a_cons (r_var 10) (a_cons (r_var 6) a_nil)))) r_str (nomark _)) (w_or (t_cmp hX (o_ne hX.room) (r_call hX G__law_told (by omega) rfl (a_cons r_int (a_cons (r_var 10) (a_cons (r_tup (a_cons r_str (a_cons r_int a_nil))) a_nil)))) (r_tup (a_cons r_str a_nil)) (nomark _)) (w_or1 (t_cmp hX (o_ne hX.room) (r_meth0 hX G_Editor_journal (by omega) (r_var 10)) (r_tup a_nil) (nomark _)))))) (k_one (k_ret r_bl)) k_nil)
  (k_cons (k_for hX (passes_of rfl) (i_rng hX rfl T.n_range r_int) (g_name 12 hX rfl (by first | exact Or.inl rfl | exact Or.inr rfl)) (k_one (k_if (t_w (w_or (t_cmp hX (o_ne hX.room) (r_call hX G__law_told (by omega) rfl (a_cons r_int (a_cons (r_var 10) (a_cons (r_var 7) a_nil)))) r_str (nomark _)) (w_or1 (t_cmp hX (o_ne hX.room) (r_call hX G__law_told (by omega) rfl (a_cons r_int (a_cons (r_var 10) (a_cons (r_var 6) a_nil)))) r_str (nomark _))))) (k_one (k_ret r_bl)) k_nil)))
  (k_cons (k_if (t_w (w_or (t_cmp hX (o_ne hX.room) (r_call hX G__law_told (by omega) rfl (a_cons r_int (a_cons (r_var 10) (a_cons (r_tup (a_cons r_str (a_cons r_int a_nil))) a_nil)))) (r_tup (a_cons r_str a_nil)) (nomark _)) (w_or (t_cmp hX (o_ne hX.room) (r_call hX G__law_told (by omega) rfl (a_cons r_int (a_cons (r_var 10) (a_cons (r_tup (a_cons r_str (a_cons r_int a_nil))) a_nil)))) (r_tup (a_cons r_str a_nil)) (nomark _)) (w_or1 (t_cmp hX (o_ne hX.room) (r_meth0 hX G_Editor_state (by omega) (r_var 10)) r_int (nomark _)))))) (k_one (k_ret r_bl)) k_nil)
  (k_cons (k_if (t_w (w_or (t_cmp hX (o_ne hX.room) (r_meth hX G_Editor_act (by omega) (r_var 10) (a_cons (r_tup (a_cons r_str (a_cons r_int a_nil))) a_nil)) r_int (nomark _)) (w_or (t_cmp hX (o_ne hX.room) (r_call hX G__law_told (by omega) rfl (a_cons r_int (a_cons (r_var 10) (a_cons (r_tup (a_cons r_str (a_cons r_int a_nil))) a_nil)))) (r_tup (a_cons r_str a_nil)) (nomark _)) (w_or (t_cmp hX (o_ne hX.room) (r_meth hX G_Editor_act (by omega) (r_var 10) (a_cons (r_tup (a_cons r_str (a_cons r_int a_nil))) a_nil)) r_int (nomark _)) (w_or1 (t_cmp hX (o_ne hX.room) (r_meth hX G_Editor_act (by omega) (r_var 10) (a_cons (r_tup (a_cons r_str (a_cons r_int a_nil))) a_nil)) r_int (nomark _))))))) (k_one (k_ret r_bl)) k_nil)
  (k_cons (k_if (t_w (w_or (t_cmp hX (o_ne hX.room) (r_meth hX G_Editor_act (by omega) (r_var 10) (a_cons (r_tup (a_cons r_str (a_cons r_int a_nil))) a_nil)) r_int (nomark _)) (w_or (t_cmp hX (o_ne hX.room) (r_callB hX b_len rfl T.n_len bt_len (a_cons (r_meth0 hX G_Editor_journal (by omega) (r_var 10)) a_nil)) r_int (nomark _)) (w_or1 (t_cmp hX (o_ne hX.room) (r_call hX G__law_told (by omega) rfl (a_cons r_int (a_cons (r_var 10) (a_cons (r_tup (a_cons r_str (a_cons r_int a_nil))) a_nil)))) (r_lst (a_cons r_str a_nil)) (nomark _)))))) (k_one (k_ret r_bl)) k_nil)
  (k_cons (k_if (t_w (w_or (t_cmp hX (o_ne hX.room) (r_call hX G__law_told (by omega) rfl (a_cons r_int (a_cons (r_var 10) (a_cons (r_var 7) a_nil)))) (r_tup (a_cons r_str a_nil)) (nomark _)) (w_or (t_cmp hX (o_ne hX.room) (r_call hX G__law_told (by omega) rfl (a_cons r_int (a_cons (r_var 10) (a_cons (r_tup (a_cons r_str (a_cons r_int a_nil))) a_nil)))) (r_tup (a_cons r_str a_nil)) (nomark _)) (w_or (t_cmp hX (o_ne hX.room) (r_call hX G__law_told (by omega) rfl (a_cons r_int (a_cons (r_var 10) (a_cons (r_var 6) a_nil)))) r_str (nomark _)) (w_or1 (t_cmp hX (o_ne hX.room) (r_callB hX b_len rfl T.n_len bt_len (a_cons (r_meth0 hX G_Editor_journal (by omega) (r_var 10)) a_nil)) r_int (nomark _))))))) (k_one (k_ret r_bl)) k_nil)
  (k_cons (k_if (t_w (w_or (t_cmp hX (o_ne hX.room) (r_call hX G__law_told (by omega) rfl (a_cons r_int (a_cons (r_var 10) (a_cons r_int a_nil)))) r_str (nomark _)) (w_or (t_cmp hX (o_ne hX.room) (r_call hX G__law_told (by omega) rfl (a_cons r_int (a_cons (r_var 10) (a_cons r_int a_nil)))) r_str (nomark _)) (w_or1 (t_cmp hX (o_ne hX.room) (r_call hX G__law_told (by omega) rfl (a_cons r_int (a_cons (r_var 10) (a_cons (r_var 11) a_nil)))) r_str (nomark _)))))) (k_one (k_ret r_bl)) k_nil)
  (k_cons (k_set 13 hX rfl (by first | exact Or.inl rfl | exact Or.inr rfl) (r_tup (a_cons (r_var 7) (a_cons r_int a_nil))))
  (k_cons (k_set 14 hX rfl (by first | exact Or.inl rfl | exact Or.inr rfl) (r_tup (a_cons (r_tup (a_cons (r_tup (a_cons r_str (a_cons r_int a_nil))) (a_cons r_int a_nil))) (a_cons (r_tup (a_cons (r_tup (a_cons r_str (a_cons r_int a_nil))) (a_cons r_int a_nil))) a_nil))))
  (k_cons (k_set 15 hX rfl (by first | exact Or.inl rfl | exact Or.inr rfl) (r_lst (a_cons r_non (a_cons (r_lst a_nil) (a_cons (r_tup (a_cons r_non a_nil)) (a_cons (r_tup (a_cons (r_var 7) a_nil)) (a_cons (r_tup (a_cons (r_tup (a_cons (r_var 6) (a_cons r_int a_nil))) a_nil)) (a_cons (r_tup (a_cons (r_bin hX o_add (r_var 13) (r_tup (a_cons r_int a_nil))) a_nil)) (a_cons (r_lst (a_cons (r_var 13) a_nil)) (a_cons (r_tup (a_cons (r_tup (a_cons (r_var 7) (a_cons r_int a_nil))) a_nil)) (a_cons (r_tup (a_cons (r_tup (a_cons (r_var 7) (a_cons r_bl a_nil))) a_nil)) (a_cons (r_tup (a_cons (r_tup (a_cons (r_tup (a_cons r_str (a_cons r_int a_nil))) (a_cons r_int a_nil))) a_nil)) (a_cons (r_bin hX o_add (r_tup (a_cons (r_var 13) a_nil)) (r_bin hX o_mul' (r_var 14) r_int)) a_nil)))))))))))))
  (k_cons (k_if (t_not (t_tru hX (r_callB hX (b_all hX.calm) rfl T.n_all bt_all (a_cons (o_val (o_comp hX (blkOk_by (own := [("_law_one", 16)]) (by show blkC ["_law_script", "_law_stream_here", "_law_system", "_law_wrong", "_law_no_system", "_law_operations", "_law_operation", "_law_good", "_law_journal", "_law_which", "_law_editor", "_law_no_entry", "_law_turn", "_law_record", "_law_pair", "_law_odd", "_law_one"] (defScope (top 38)) _ _ = true; decide +kernel)) (i_seq hX (r_var 15)) (by decide) (fun c s H C cl fp hX => (g_name 16 hX rfl (by first | exact Or.inl rfl | exact Or.inr rfl))) (fun c s H C cl fp hX => ts_nil) (fun c s H C cl fp hX => (r_cmp hX o_isB (r_call hX G_are_right (by omega) rfl (a_cons (r_var 2) (a_cons (r_var 16) a_nil))) r_bl (nomark _))))) a_nil)))) (k_one (k_ret r_bl)) k_nil)
  (k_one (k_ret (r_and hX (r_cmp hX o_isB (r_call hX G_are_right (by omega) rfl (a_cons (r_var 2) (a_cons (r_bin hX o_add (r_bin hX o_add (r_tup (a_cons (r_var 13) a_nil)) (r_bin hX o_mul' (r_var 14) r_int)) (r_sl hX (r_var 14) po_no (po_yes r_int))) a_nil))) r_bl (nomark _)) (r_one (r_cmp hX o_isB (r_call hX G_are_right (by omega) rfl (a_cons (r_var 2) (a_cons (r_tup a_nil) a_nil))) r_bl (nomark _))))))))))))))))))))))))))))))))
theorem sc_ini_BadValue : FnScope ["self", "name"] ["self", "name"] (defScope (inCls (top 3) 0)) := ⟨rfl, rfl, rfl, by decide +kernel, rfl, by decide +kernel, by decide +kernel⟩
theorem ok_ini_BadValue {f : Addr} {fd : FuncData} (F : Fun K "__init__" "BadValue.__init__" (inCls (top 3) 0) f fd) : FnOk P w K mg base (L2.CX P w) 1 f fd ["self", "name"] (spIni K "name") :=
  F.okX sc_ini_BadValue (fun vs H Q E h => ini_len h) fun cdv A outer s H vs Q E hr h => ⟨_, pss_one (ps_ost (pv 0) (pv 1)), ini_pure h⟩
theorem sc_ini_NotPossible : FnScope ["self", "why"] ["self", "why"] (defScope (inCls (top 5) 0)) := ⟨rfl, rfl, rfl, by decide +kernel, rfl, by decide +kernel, by decide +kernel⟩
theorem ok_ini_NotPossible {f : Addr} {fd : FuncData} (F : Fun K "__init__" "NotPossible.__init__" (inCls (top 5) 0) f fd) : FnOk P w K mg base (L2.CX P w) 1 f fd ["self", "why"] (spIni K "why") :=
  F.okX sc_ini_NotPossible (fun vs H Q E h => ini_len h) fun cdv A outer s H vs Q E hr h => ⟨_, pss_one (ps_ost (pv 0) (pv 1)), ini_pure h⟩
theorem sc_ini_TooLarge : FnScope ["self", "what"] ["self", "what"] (defScope (inCls (top 4) 0)) := ⟨rfl, rfl, rfl, by decide +kernel, rfl, by decide +kernel, by decide +kernel⟩
theorem ok_ini_TooLarge {f : Addr} {fd : FuncData} (F : Fun K "__init__" "TooLarge.__init__" (inCls (top 4) 0) f fd) : FnOk P w K mg base (L2.CX P w) 1 f fd ["self", "what"] (spIni K "what") :=
  F.okX sc_ini_TooLarge (fun vs H Q E h => ini_len h) fun cdv A outer s H vs Q E hr h => ⟨_, pss_one (ps_ost (pv 0) (pv 1)), ini_pure h⟩
end
theorem all_mk {l : PySem.W.OpenLaw} {w : World} {K : PySem.W.Frag} {h : Heap} {mg : Str → Option Value} {fa : Addr} {f0 : Addr} {oc0 kV0 dc0 pm0 cd0 ct0 : Value} {od0 an0 : Option Addr} {sl0 : Array (Option Value)}
  {f1 : Addr} {oc1 kV1 dc1 pm1 cd1 ct1 : Value} {od1 an1 : Option Addr} {sl1 : Array (Option Value)}
  {f2 : Addr} {oc2 kV2 dc2 pm2 cd2 ct2 : Value} {od2 an2 : Option Addr} {sl2 : Array (Option Value)}
  {f3 : Addr} {oc3 kV3 dc3 pm3 cd3 ct3 : Value} {od3 an3 : Option Addr} {sl3 : Array (Option Value)}
  {f4 : Addr} {oc4 kV4 dc4 pm4 cd4 ct4 : Value} {od4 an4 : Option Addr} {sl4 : Array (Option Value)}
  {f5 : Addr} {oc5 kV5 dc5 pm5 cd5 ct5 : Value} {od5 an5 : Option Addr} {sl5 : Array (Option Value)}
  {f6 : Addr} {oc6 kV6 dc6 pm6 cd6 ct6 : Value} {od6 an6 : Option Addr} {sl6 : Array (Option Value)}
  {f7 : Addr} {oc7 kV7 dc7 pm7 cd7 ct7 : Value} {od7 an7 : Option Addr} {sl7 : Array (Option Value)}
  {f8 : Addr} {oc8 kV8 dc8 pm8 cd8 ct8 : Value} {od8 an8 : Option Addr} {sl8 : Array (Option Value)}
  {f9 : Addr} {oc9 kV9 dc9 pm9 cd9 ct9 : Value} {od9 an9 : Option Addr} {sl9 : Array (Option Value)}
  {f10 : Addr} {oc10 kV10 dc10 pm10 cd10 ct10 : Value} {od10 an10 : Option Addr} {sl10 : Array (Option Value)}
  {f11 : Addr} {oc11 kV11 dc11 pm11 cd11 ct11 : Value} {od11 an11 : Option Addr} {sl11 : Array (Option Value)}
  {f12 : Addr} {oc12 kV12 dc12 pm12 cd12 ct12 : Value} {od12 an12 : Option Addr} {sl12 : Array (Option Value)}
  {f13 : Addr} {oc13 kV13 dc13 pm13 cd13 ct13 : Value} {od13 an13 : Option Addr} {sl13 : Array (Option Value)}
  {f14 : Addr} {oc14 kV14 dc14 pm14 cd14 ct14 : Value} {od14 an14 : Option Addr} {sl14 : Array (Option Value)}
  {f15 : Addr} {oc15 kV15 dc15 pm15 cd15 ct15 : Value} {od15 an15 : Option Addr} {sl15 : Array (Option Value)}
  {f16 : Addr} {oc16 kV16 dc16 pm16 cd16 ct16 : Value} {od16 an16 : Option Addr} {sl16 : Array (Option Value)}
  {f17 : Addr} {oc17 kV17 dc17 pm17 cd17 ct17 : Value} {od17 an17 : Option Addr} {sl17 : Array (Option Value)}
  {f18 : Addr} {oc18 kV18 dc18 pm18 cd18 ct18 : Value} {od18 an18 : Option Addr} {sl18 : Array (Option Value)}
  {f19 : Addr} {oc19 kV19 dc19 pm19 cd19 ct19 : Value} {od19 an19 : Option Addr} {sl19 : Array (Option Value)}
  {f20 : Addr} {oc20 kV20 dc20 pm20 cd20 ct20 : Value} {od20 an20 : Option Addr} {sl20 : Array (Option Value)}
  {f21 : Addr} {oc21 kV21 dc21 pm21 cd21 ct21 : Value} {od21 an21 : Option Addr} {sl21 : Array (Option Value)}
  {f22 : Addr} {oc22 kV22 dc22 pm22 cd22 ct22 : Value} {od22 an22 : Option Addr} {sl22 : Array (Option Value)}
  {f23 : Addr} {oc23 kV23 dc23 pm23 cd23 ct23 : Value} {od23 an23 : Option Addr} {sl23 : Array (Option Value)}
  {f24 : Addr} {oc24 kV24 dc24 pm24 cd24 ct24 : Value} {od24 an24 : Option Addr} {sl24 : Array (Option Value)}
  {f25 : Addr} {oc25 kV25 dc25 pm25 cd25 ct25 : Value} {od25 an25 : Option Addr} {sl25 : Array (Option Value)}
  {f26 : Addr} {oc26 kV26 dc26 pm26 cd26 ct26 : Value} {od26 an26 : Option Addr} {sl26 : Array (Option Value)}
  {f27 : Addr} {oc27 kV27 dc27 pm27 cd27 ct27 : Value} {od27 an27 : Option Addr} {sl27 : Array (Option Value)}
  {f28 : Addr} {oc28 kV28 dc28 pm28 cd28 ct28 : Value} {od28 an28 : Option Addr} {sl28 : Array (Option Value)}
  {f29 : Addr} {oc29 kV29 dc29 pm29 cd29 ct29 : Value} {od29 an29 : Option Addr} {sl29 : Array (Option Value)}
  {f30 : Addr} {oc30 kV30 dc30 pm30 cd30 ct30 : Value} {od30 an30 : Option Addr} {sl30 : Array (Option Value)}
  {X_Editor : Addr}
  {X_UndoError : Addr}
  {X_BadValue : Addr}
  {X_TooLarge : Addr}
  {X_NotPossible : Addr}
  {I_BadValue : Addr} {nm_BadValue qn_BadValue : Str} {N_BadValue : Addr} {bs_BadValue : List Value} {sn_BadValue : List Str} {sub_BadValue : List Value} {ab_BadValue : Bool} {col_BadValue : Option Bool} {dd_BadValue : Option Addr} {m0_BadValue m1_BadValue m2_BadValue m3_BadValue m5_BadValue : Option Value}
  {oc_BadValue kV_BadValue dc_BadValue pm_BadValue cd_BadValue ct_BadValue : Value} {od_BadValue an_BadValue : Option Addr} {sl_BadValue : Array (Option Value)}
  {I_NotPossible : Addr} {nm_NotPossible qn_NotPossible : Str} {N_NotPossible : Addr} {bs_NotPossible : List Value} {sn_NotPossible : List Str} {sub_NotPossible : List Value} {ab_NotPossible : Bool} {col_NotPossible : Option Bool} {dd_NotPossible : Option Addr} {m0_NotPossible m1_NotPossible m2_NotPossible m3_NotPossible m5_NotPossible : Option Value}
  {oc_NotPossible kV_NotPossible dc_NotPossible pm_NotPossible cd_NotPossible ct_NotPossible : Value} {od_NotPossible an_NotPossible : Option Addr} {sl_NotPossible : Array (Option Value)}
  {I_TooLarge : Addr} {nm_TooLarge qn_TooLarge : Str} {N_TooLarge : Addr} {bs_TooLarge : List Value} {sn_TooLarge : List Str} {sub_TooLarge : List Value} {ab_TooLarge : Bool} {col_TooLarge : Option Bool} {dd_TooLarge : Option Addr} {m0_TooLarge m1_TooLarge m2_TooLarge m3_TooLarge m5_TooLarge : Option Value}
  {oc_TooLarge kV_TooLarge dc_TooLarge pm_TooLarge cd_TooLarge ct_TooLarge : Value} {od_TooLarge an_TooLarge : Option Addr} {sl_TooLarge : Array (Option Value)}
  {t_MOST_COMMANDS : Tok} {t_MOST_ENTRIES : Tok} {t_MOST_OPERATIONS : Tok} {t_MOST_STATES : Tok}
  (X : K.In h) (G : h.Ns mainGlobals mg) (hfa : mg "law" = some (.ref fa))
  (xa_Editor : PySem.W.nsIn K mainGlobals "Editor" = some (some (.ref X_Editor)))
  (pg_Editor : PySem.W.plainGet K X_Editor Str.empty = true)
  (hd_Editor : PySem.W.hasDictIn K X_Editor = true)
  (po_Editor : PySem.W.plainOver K X_Editor = true)
  (sa_Editor : PySem.W.findIn K (.ref X_Editor) "__setattr__" = some (some (.builtin "object.__setattr__")))
  (mk_Editor : PySem.W.makesIn K X_Editor = true)
  (kc_Editor : PySem.W.keepIn K (.ref X_Editor) = true)
  (nf_system_Editor : PySem.W.findIn K (.ref X_Editor) "system" = some none)
  (nf_rows_Editor : PySem.W.findIn K (.ref X_Editor) "rows" = some none)
  (nf_operations_Editor : PySem.W.findIn K (.ref X_Editor) "operations" = some none)
  (a0 : PySem.W.nsIn K mainGlobals "is_whole" = some (some (.ref f0)))
  (l0 : K.lookup f0 = some ⟨oc0, od0, .func (PySem.W.fnOf "is_whole" "is_whole" (defArgs (top 9)) (defBody (top 9)) (defScope (top 9)) .none kV0 dc0 pm0 an0 cd0 ct0), sl0⟩)
  (c0 : PySem.W.codeIn K cd0 "is_whole" = true) (k0 : PySem.W.keepIn K (.ref f0) = true)
  (a1 : PySem.W.nsIn K mainGlobals "is_system" = some (some (.ref f1)))
  (l1 : K.lookup f1 = some ⟨oc1, od1, .func (PySem.W.fnOf "is_system" "is_system" (defArgs (top 10)) (defBody (top 10)) (defScope (top 10)) .none kV1 dc1 pm1 an1 cd1 ct1), sl1⟩)
  (c1 : PySem.W.codeIn K cd1 "is_system" = true) (k1 : PySem.W.keepIn K (.ref f1) = true)
  (a2 : PySem.W.nsIn K mainGlobals "is_state" = some (some (.ref f2)))
  (l2 : K.lookup f2 = some ⟨oc2, od2, .func (PySem.W.fnOf "is_state" "is_state" (defArgs (top 11)) (defBody (top 11)) (defScope (top 11)) .none kV2 dc2 pm2 an2 cd2 ct2), sl2⟩)
  (c2 : PySem.W.codeIn K cd2 "is_state" = true) (k2 : PySem.W.keepIn K (.ref f2) = true)
  (a3 : PySem.W.nsIn K mainGlobals "is_command" = some (some (.ref f3)))
  (l3 : K.lookup f3 = some ⟨oc3, od3, .func (PySem.W.fnOf "is_command" "is_command" (defArgs (top 12)) (defBody (top 12)) (defScope (top 12)) .none kV3 dc3 pm3 an3 cd3 ct3), sl3⟩)
  (c3 : PySem.W.codeIn K cd3 "is_command" = true) (k3 : PySem.W.keepIn K (.ref f3) = true)
  (a4 : PySem.W.nsIn K mainGlobals "states_of" = some (some (.ref f4)))
  (l4 : K.lookup f4 = some ⟨oc4, od4, .func (PySem.W.fnOf "states_of" "states_of" (defArgs (top 13)) (defBody (top 13)) (defScope (top 13)) .none kV4 dc4 pm4 an4 cd4 ct4), sl4⟩)
  (c4 : PySem.W.codeIn K cd4 "states_of" = true) (k4 : PySem.W.keepIn K (.ref f4) = true)
  (a5 : PySem.W.nsIn K mainGlobals "step" = some (some (.ref f5)))
  (l5 : K.lookup f5 = some ⟨oc5, od5, .func (PySem.W.fnOf "step" "step" (defArgs (top 14)) (defBody (top 14)) (defScope (top 14)) .none kV5 dc5 pm5 an5 cd5 ct5), sl5⟩)
  (c5 : PySem.W.codeIn K cd5 "step" = true) (k5 : PySem.W.keepIn K (.ref f5) = true)
  (a6 : PySem.W.nsIn K mainGlobals "check_system" = some (some (.ref f6)))
  (l6 : K.lookup f6 = some ⟨oc6, od6, .func (PySem.W.fnOf "check_system" "check_system" (defArgs (top 15)) (defBody (top 15)) (defScope (top 15)) .none kV6 dc6 pm6 an6 cd6 ct6), sl6⟩)
  (c6 : PySem.W.codeIn K cd6 "check_system" = true) (k6 : PySem.W.keepIn K (.ref f6) = true)
  (a7 : PySem.W.nsIn K mainGlobals "pairs_from" = some (some (.ref f7)))
  (l7 : K.lookup f7 = some ⟨oc7, od7, .func (PySem.W.fnOf "pairs_from" "pairs_from" (defArgs (top 17)) (defBody (top 17)) (defScope (top 17)) .none kV7 dc7 pm7 an7 cd7 ct7), sl7⟩)
  (c7 : PySem.W.codeIn K cd7 "pairs_from" = true) (k7 : PySem.W.keepIn K (.ref f7) = true)
  (a8 : PySem.W.nsIn K mainGlobals "counterparts_of" = some (some (.ref f8)))
  (l8 : K.lookup f8 = some ⟨oc8, od8, .func (PySem.W.fnOf "counterparts_of" "counterparts_of" (defArgs (top 18)) (defBody (top 18)) (defScope (top 18)) .none kV8 dc8 pm8 an8 cd8 ct8), sl8⟩)
  (c8 : PySem.W.codeIn K cd8 "counterparts_of" = true) (k8 : PySem.W.keepIn K (.ref f8) = true)
  (a9 : PySem.W.nsIn K mainGlobals "determines" = some (some (.ref f9)))
  (l9 : K.lookup f9 = some ⟨oc9, od9, .func (PySem.W.fnOf "determines" "determines" (defArgs (top 19)) (defBody (top 19)) (defScope (top 19)) .none kV9 dc9 pm9 an9 cd9 ct9), sl9⟩)
  (c9 : PySem.W.codeIn K cd9 "determines" = true) (k9 : PySem.W.keepIn K (.ref f9) = true)
  (a10 : PySem.W.nsIn K mainGlobals "table_for" = some (some (.ref f10)))
  (l10 : K.lookup f10 = some ⟨oc10, od10, .func (PySem.W.fnOf "table_for" "table_for" (defArgs (top 20)) (defBody (top 20)) (defScope (top 20)) .none kV10 dc10 pm10 an10 cd10 ct10), sl10⟩)
  (c10 : PySem.W.codeIn K cd10 "table_for" = true) (k10 : PySem.W.keepIn K (.ref f10) = true)
  (a11 : PySem.W.nsIn K mainGlobals "is_operation" = some (some (.ref f11)))
  (l11 : K.lookup f11 = some ⟨oc11, od11, .func (PySem.W.fnOf "is_operation" "is_operation" (defArgs (top 24)) (defBody (top 24)) (defScope (top 24)) .none kV11 dc11 pm11 an11 cd11 ct11), sl11⟩)
  (c11 : PySem.W.codeIn K cd11 "is_operation" = true) (k11 : PySem.W.keepIn K (.ref f11) = true)
  (a12 : PySem.W.nsIn K mainGlobals "behind" = some (some (.ref f12)))
  (l12 : K.lookup f12 = some ⟨oc12, od12, .func (PySem.W.fnOf "behind" "behind" (defArgs (top 25)) (defBody (top 25)) (defScope (top 25)) .none kV12 dc12 pm12 an12 cd12 ct12), sl12⟩)
  (c12 : PySem.W.codeIn K cd12 "behind" = true) (k12 : PySem.W.keepIn K (.ref f12) = true)
  (a13 : PySem.W.nsIn K mainGlobals "states_along" = some (some (.ref f13)))
  (l13 : K.lookup f13 = some ⟨oc13, od13, .func (PySem.W.fnOf "states_along" "states_along" (defArgs (top 26)) (defBody (top 26)) (defScope (top 26)) .none kV13 dc13 pm13 an13 cd13 ct13), sl13⟩)
  (c13 : PySem.W.codeIn K cd13 "states_along" = true) (k13 : PySem.W.keepIn K (.ref f13) = true)
  (a14 : PySem.W.nsIn K mainGlobals "state_of" = some (some (.ref f14)))
  (l14 : K.lookup f14 = some ⟨oc14, od14, .func (PySem.W.fnOf "state_of" "state_of" (defArgs (top 27)) (defBody (top 27)) (defScope (top 27)) .none kV14 dc14 pm14 an14 cd14 ct14), sl14⟩)
  (c14 : PySem.W.codeIn K cd14 "state_of" = true) (k14 : PySem.W.keepIn K (.ref f14) = true)
  (a15 : PySem.W.nsIn K mainGlobals "state_without" = some (some (.ref f15)))
  (l15 : K.lookup f15 = some ⟨oc15, od15, .func (PySem.W.fnOf "state_without" "state_without" (defArgs (top 28)) (defBody (top 28)) (defScope (top 28)) .none kV15 dc15 pm15 an15 cd15 ct15), sl15⟩)
  (c15 : PySem.W.codeIn K cd15 "state_without" = true) (k15 : PySem.W.keepIn K (.ref f15) = true)
  (a16 : PySem.W.findIn K (.ref X_Editor) "__init__" = some (some (.ref f16))) (i16 : PySem.W.isFn K (.ref f16) = true)
  (l16 : K.lookup f16 = some ⟨oc16, od16, .func (PySem.W.fnOf "__init__" "Editor.__init__" (defArgs (inCls (top 29) 0)) (defBody (inCls (top 29) 0)) (defScope (inCls (top 29) 0)) .none kV16 dc16 pm16 an16 cd16 ct16), sl16⟩)
  (c16 : PySem.W.codeIn K cd16 "Editor.__init__" = true) (k16 : PySem.W.keepIn K (.ref f16) = true)
  (a17 : PySem.W.findIn K (.ref X_Editor) "state" = some (some (.ref f17))) (i17 : PySem.W.isFn K (.ref f17) = true)
  (l17 : K.lookup f17 = some ⟨oc17, od17, .func (PySem.W.fnOf "state" "Editor.state" (defArgs (inCls (top 29) 3)) (defBody (inCls (top 29) 3)) (defScope (inCls (top 29) 3)) .none kV17 dc17 pm17 an17 cd17 ct17), sl17⟩)
  (c17 : PySem.W.codeIn K cd17 "Editor.state" = true) (k17 : PySem.W.keepIn K (.ref f17) = true)
  (a18 : PySem.W.findIn K (.ref X_Editor) "act" = some (some (.ref f18))) (i18 : PySem.W.isFn K (.ref f18) = true)
  (l18 : K.lookup f18 = some ⟨oc18, od18, .func (PySem.W.fnOf "act" "Editor.act" (defArgs (inCls (top 29) 1)) (defBody (inCls (top 29) 1)) (defScope (inCls (top 29) 1)) .none kV18 dc18 pm18 an18 cd18 ct18), sl18⟩)
  (c18 : PySem.W.codeIn K cd18 "Editor.act" = true) (k18 : PySem.W.keepIn K (.ref f18) = true)
  (a19 : PySem.W.nsIn K mainGlobals "replayed" = some (some (.ref f19)))
  (l19 : K.lookup f19 = some ⟨oc19, od19, .func (PySem.W.fnOf "replayed" "replayed" (defArgs (top 31)) (defBody (top 31)) (defScope (top 31)) .none kV19 dc19 pm19 an19 cd19 ct19), sl19⟩)
  (c19 : PySem.W.codeIn K cd19 "replayed" = true) (k19 : PySem.W.keepIn K (.ref f19) = true)
  (a20 : PySem.W.nsIn K mainGlobals "entries_behind" = some (some (.ref f20)))
  (l20 : K.lookup f20 = some ⟨oc20, od20, .func (PySem.W.fnOf "entries_behind" "entries_behind" (defArgs (top 32)) (defBody (top 32)) (defScope (top 32)) .none kV20 dc20 pm20 an20 cd20 ct20), sl20⟩)
  (c20 : PySem.W.codeIn K cd20 "entries_behind" = true) (k20 : PySem.W.keepIn K (.ref f20) = true)
  (a21 : PySem.W.nsIn K mainGlobals "are_right" = some (some (.ref f21)))
  (l21 : K.lookup f21 = some ⟨oc21, od21, .func (PySem.W.fnOf "are_right" "are_right" (defArgs (top 33)) (defBody (top 33)) (defScope (top 33)) .none kV21 dc21 pm21 an21 cd21 ct21), sl21⟩)
  (c21 : PySem.W.codeIn K cd21 "are_right" = true) (k21 : PySem.W.keepIn K (.ref f21) = true)
  (a22 : PySem.W.nsIn K mainGlobals "_law_stream" = some (some (.ref f22)))
  (l22 : K.lookup f22 = some ⟨oc22, od22, .func (PySem.W.fnOf "_law_stream" "_law_stream" (defArgs (top 35)) (defBody (top 35)) (defScope (top 35)) .none kV22 dc22 pm22 an22 cd22 ct22), sl22⟩)
  (c22 : PySem.W.codeIn K cd22 "_law_stream" = true) (k22 : PySem.W.keepIn K (.ref f22) = true)
  (a23 : PySem.W.nsIn K mainGlobals "_law_next" = some (some (.ref f23)))
  (l23 : K.lookup f23 = some ⟨oc23, od23, .func (PySem.W.fnOf "_law_next" "_law_next" (defArgs (top 36)) (defBody (top 36)) (defScope (top 36)) .none kV23 dc23 pm23 an23 cd23 ct23), sl23⟩)
  (c23 : PySem.W.codeIn K cd23 "_law_next" = true) (k23 : PySem.W.keepIn K (.ref f23) = true)
  (a24 : PySem.W.findIn K (.ref X_Editor) "check_entry" = some (some (.ref f24))) (i24 : PySem.W.isFn K (.ref f24) = true)
  (l24 : K.lookup f24 = some ⟨oc24, od24, .func (PySem.W.fnOf "check_entry" "Editor.check_entry" (defArgs (inCls (top 29) 7)) (defBody (inCls (top 29) 7)) (defScope (inCls (top 29) 7)) .none kV24 dc24 pm24 an24 cd24 ct24), sl24⟩)
  (c24 : PySem.W.codeIn K cd24 "Editor.check_entry" = true) (k24 : PySem.W.keepIn K (.ref f24) = true)
  (a25 : PySem.W.findIn K (.ref X_Editor) "without" = some (some (.ref f25))) (i25 : PySem.W.isFn K (.ref f25) = true)
  (l25 : K.lookup f25 = some ⟨oc25, od25, .func (PySem.W.fnOf "without" "Editor.without" (defArgs (inCls (top 29) 8)) (defBody (inCls (top 29) 8)) (defScope (inCls (top 29) 8)) .none kV25 dc25 pm25 an25 cd25 ct25), sl25⟩)
  (c25 : PySem.W.codeIn K cd25 "Editor.without" = true) (k25 : PySem.W.keepIn K (.ref f25) = true)
  (a26 : PySem.W.findIn K (.ref X_Editor) "is_revocable" = some (some (.ref f26))) (i26 : PySem.W.isFn K (.ref f26) = true)
  (l26 : K.lookup f26 = some ⟨oc26, od26, .func (PySem.W.fnOf "is_revocable" "Editor.is_revocable" (defArgs (inCls (top 29) 9)) (defBody (inCls (top 29) 9)) (defScope (inCls (top 29) 9)) .none kV26 dc26 pm26 an26 cd26 ct26), sl26⟩)
  (c26 : PySem.W.codeIn K cd26 "Editor.is_revocable" = true) (k26 : PySem.W.keepIn K (.ref f26) = true)
  (a27 : PySem.W.findIn K (.ref X_Editor) "table" = some (some (.ref f27))) (i27 : PySem.W.isFn K (.ref f27) = true)
  (l27 : K.lookup f27 = some ⟨oc27, od27, .func (PySem.W.fnOf "table" "Editor.table" (defArgs (inCls (top 29) 11)) (defBody (inCls (top 29) 11)) (defScope (inCls (top 29) 11)) .none kV27 dc27 pm27 an27 cd27 ct27), sl27⟩)
  (c27 : PySem.W.codeIn K cd27 "Editor.table" = true) (k27 : PySem.W.keepIn K (.ref f27) = true)
  (a28 : PySem.W.nsIn K mainGlobals "_law_told" = some (some (.ref f28)))
  (l28 : K.lookup f28 = some ⟨oc28, od28, .func (PySem.W.fnOf "_law_told" "_law_told" (defArgs (top 37)) (defBody (top 37)) (defScope (top 37)) .none kV28 dc28 pm28 an28 cd28 ct28), sl28⟩)
  (c28 : PySem.W.codeIn K cd28 "_law_told" = true) (k28 : PySem.W.keepIn K (.ref f28) = true)
  (a29 : PySem.W.findIn K (.ref X_Editor) "journal" = some (some (.ref f29))) (i29 : PySem.W.isFn K (.ref f29) = true)
  (l29 : K.lookup f29 = some ⟨oc29, od29, .func (PySem.W.fnOf "journal" "Editor.journal" (defArgs (inCls (top 29) 6)) (defBody (inCls (top 29) 6)) (defScope (inCls (top 29) 6)) .none kV29 dc29 pm29 an29 cd29 ct29), sl29⟩)
  (c29 : PySem.W.codeIn K cd29 "Editor.journal" = true) (k29 : PySem.W.keepIn K (.ref f29) = true)
  (a30 : PySem.W.nsIn K mainGlobals "law" = some (some (.ref f30)))
  (l30 : K.lookup f30 = some ⟨oc30, od30, .func (PySem.W.fnOf "law" "law" (defArgs (top 38)) (defBody (top 38)) (defScope (top 38)) .none kV30 dc30 pm30 an30 cd30 ct30), sl30⟩)
  (c30 : PySem.W.codeIn K cd30 "law" = true) (k30 : PySem.W.keepIn K (.ref f30) = true)
  (xa_UndoError : PySem.W.nsIn K mainGlobals "UndoError" = some (some (.ref X_UndoError)))
  (xa_BadValue : PySem.W.nsIn K mainGlobals "BadValue" = some (some (.ref X_BadValue)))
  (xa_TooLarge : PySem.W.nsIn K mainGlobals "TooLarge" = some (some (.ref X_TooLarge)))
  (xa_NotPossible : PySem.W.nsIn K mainGlobals "NotPossible" = some (some (.ref X_NotPossible)))
  (eC_UndoError : PySem.W.subIn K (.ref X_UndoError) (.type "BaseException") = some true)
  (hC_UndoError : PySem.W.hasDictIn K X_UndoError = true)
  (tC_UndoError : PySem.W.typeIn K (.ref X_UndoError) = some (.type "type"))
  (eC_BadValue : PySem.W.subIn K (.ref X_BadValue) (.type "BaseException") = some true)
  (hC_BadValue : PySem.W.hasDictIn K X_BadValue = true)
  (tC_BadValue : PySem.W.typeIn K (.ref X_BadValue) = some (.type "type"))
  (eC_TooLarge : PySem.W.subIn K (.ref X_TooLarge) (.type "BaseException") = some true)
  (hC_TooLarge : PySem.W.hasDictIn K X_TooLarge = true)
  (tC_TooLarge : PySem.W.typeIn K (.ref X_TooLarge) = some (.type "type"))
  (eC_NotPossible : PySem.W.subIn K (.ref X_NotPossible) (.type "BaseException") = some true)
  (hC_NotPossible : PySem.W.hasDictIn K X_NotPossible = true)
  (tC_NotPossible : PySem.W.typeIn K (.ref X_NotPossible) = some (.type "type"))
  (xL_BadValue : K.lookup X_BadValue = some (excClassObj nm_BadValue qn_BadValue X_BadValue N_BadValue bs_BadValue [.ref X_UndoError, .type "ValueError", .type "Exception", .type "BaseException", .type "object"] true sn_BadValue sub_BadValue ab_BadValue col_BadValue dd_BadValue m0_BadValue m1_BadValue m2_BadValue m3_BadValue m5_BadValue "ValueError.__new__"))
  (sa_BadValue : PySem.W.findIn K (.ref X_BadValue) "__setattr__" = some (some (.builtin "object.__setattr__")))
  (ga_BadValue : PySem.W.findIn K (.ref X_BadValue) "__getattribute__" = some (some (.builtin "BaseException.__getattribute__")))
  (gg_BadValue : PySem.W.findIn K (.ref X_BadValue) "__getattr__" = some none)
  (ii_BadValue : PySem.W.findIn K (.ref X_BadValue) "__init__" = some (some (.ref I_BadValue)))
  (ti_BadValue : PySem.W.typeIn K (.ref I_BadValue) = some (.type "function"))
  (li_BadValue : K.lookup I_BadValue = some ⟨oc_BadValue, od_BadValue, .func (PySem.W.fnOf "__init__" "BadValue.__init__" (defArgs (inCls (top 3) 0)) (defBody (inCls (top 3) 0)) (defScope (inCls (top 3) 0)) .none kV_BadValue dc_BadValue pm_BadValue an_BadValue cd_BadValue ct_BadValue), sl_BadValue⟩)
  (ci_BadValue : PySem.W.codeIn K cd_BadValue "BadValue.__init__" = true)
  (ki_BadValue : PySem.W.keepIn K (.ref I_BadValue) = true)
  (kc_BadValue : PySem.W.keepIn K (.ref X_BadValue) = true)
  (nf_name_BadValue : PySem.W.findIn K (.ref X_BadValue) "name" = some none)
  (nf_what_BadValue : PySem.W.findIn K (.ref X_BadValue) "what" = some none)
  (nf_why_BadValue : PySem.W.findIn K (.ref X_BadValue) "why" = some none)
  (kl_BadValue : PySem.W.findIn K (.ref X_BadValue) "__class__" = some (some (.builtin "object.__class__")))
  (mo_BadValue : PySem.W.mroIn K X_BadValue (.type "object") = some true)
  (si_BadValue_BadValue : PySem.W.subIn K (.ref X_BadValue) (.ref X_BadValue) = some true)
  (si_NotPossible_BadValue : PySem.W.subIn K (.ref X_BadValue) (.ref X_NotPossible) = some false)
  (si_TooLarge_BadValue : PySem.W.subIn K (.ref X_BadValue) (.ref X_TooLarge) = some false)
  (si_ValueError_BadValue : PySem.W.subIn K (.ref X_BadValue) (.type "ValueError") = some true)
  (sf_BadValue : PySem.W.subIn K (.ref X_BadValue) (.ref X_BadValue) = some true)
  (sb_NotPossible_BadValue : PySem.W.subIn K (.ref X_BadValue) (.ref X_NotPossible) = some false)
  (sb_UndoError_BadValue : PySem.W.subIn K (.ref X_BadValue) (.ref X_UndoError) = some true)
  (xL_NotPossible : K.lookup X_NotPossible = some (excClassObj nm_NotPossible qn_NotPossible X_NotPossible N_NotPossible bs_NotPossible [.ref X_UndoError, .type "ValueError", .type "Exception", .type "BaseException", .type "object"] true sn_NotPossible sub_NotPossible ab_NotPossible col_NotPossible dd_NotPossible m0_NotPossible m1_NotPossible m2_NotPossible m3_NotPossible m5_NotPossible "ValueError.__new__"))
  (sa_NotPossible : PySem.W.findIn K (.ref X_NotPossible) "__setattr__" = some (some (.builtin "object.__setattr__")))
  (ga_NotPossible : PySem.W.findIn K (.ref X_NotPossible) "__getattribute__" = some (some (.builtin "BaseException.__getattribute__")))
  (gg_NotPossible : PySem.W.findIn K (.ref X_NotPossible) "__getattr__" = some none)
  (ii_NotPossible : PySem.W.findIn K (.ref X_NotPossible) "__init__" = some (some (.ref I_NotPossible)))
  (ti_NotPossible : PySem.W.typeIn K (.ref I_NotPossible) = some (.type "function"))
  (li_NotPossible : K.lookup I_NotPossible = some ⟨oc_NotPossible, od_NotPossible, .func (PySem.W.fnOf "__init__" "NotPossible.__init__" (defArgs (inCls (top 5) 0)) (defBody (inCls (top 5) 0)) (defScope (inCls (top 5) 0)) .none kV_NotPossible dc_NotPossible pm_NotPossible an_NotPossible cd_NotPossible ct_NotPossible), sl_NotPossible⟩)
  (ci_NotPossible : PySem.W.codeIn K cd_NotPossible "NotPossible.__init__" = true)
  (ki_NotPossible : PySem.W.keepIn K (.ref I_NotPossible) = true)
  (kc_NotPossible : PySem.W.keepIn K (.ref X_NotPossible) = true)
  (nf_name_NotPossible : PySem.W.findIn K (.ref X_NotPossible) "name" = some none)
  (nf_what_NotPossible : PySem.W.findIn K (.ref X_NotPossible) "what" = some none)
  (nf_why_NotPossible : PySem.W.findIn K (.ref X_NotPossible) "why" = some none)
  (kl_NotPossible : PySem.W.findIn K (.ref X_NotPossible) "__class__" = some (some (.builtin "object.__class__")))
  (mo_NotPossible : PySem.W.mroIn K X_NotPossible (.type "object") = some true)
  (si_BadValue_NotPossible : PySem.W.subIn K (.ref X_NotPossible) (.ref X_BadValue) = some false)
  (si_NotPossible_NotPossible : PySem.W.subIn K (.ref X_NotPossible) (.ref X_NotPossible) = some true)
  (si_TooLarge_NotPossible : PySem.W.subIn K (.ref X_NotPossible) (.ref X_TooLarge) = some false)
  (si_ValueError_NotPossible : PySem.W.subIn K (.ref X_NotPossible) (.type "ValueError") = some true)
  (sf_NotPossible : PySem.W.subIn K (.ref X_NotPossible) (.ref X_NotPossible) = some true)
  (sb_NotPossible_NotPossible : PySem.W.subIn K (.ref X_NotPossible) (.ref X_NotPossible) = some true)
  (sb_UndoError_NotPossible : PySem.W.subIn K (.ref X_NotPossible) (.ref X_UndoError) = some true)
  (xL_TooLarge : K.lookup X_TooLarge = some (excClassObj nm_TooLarge qn_TooLarge X_TooLarge N_TooLarge bs_TooLarge [.ref X_UndoError, .type "ValueError", .type "Exception", .type "BaseException", .type "object"] true sn_TooLarge sub_TooLarge ab_TooLarge col_TooLarge dd_TooLarge m0_TooLarge m1_TooLarge m2_TooLarge m3_TooLarge m5_TooLarge "ValueError.__new__"))
  (sa_TooLarge : PySem.W.findIn K (.ref X_TooLarge) "__setattr__" = some (some (.builtin "object.__setattr__")))
  (ga_TooLarge : PySem.W.findIn K (.ref X_TooLarge) "__getattribute__" = some (some (.builtin "BaseException.__getattribute__")))
  (gg_TooLarge : PySem.W.findIn K (.ref X_TooLarge) "__getattr__" = some none)
  (ii_TooLarge : PySem.W.findIn K (.ref X_TooLarge) "__init__" = some (some (.ref I_TooLarge)))
  (ti_TooLarge : PySem.W.typeIn K (.ref I_TooLarge) = some (.type "function"))
  (li_TooLarge : K.lookup I_TooLarge = some ⟨oc_TooLarge, od_TooLarge, .func (PySem.W.fnOf "__init__" "TooLarge.__init__" (defArgs (inCls (top 4) 0)) (defBody (inCls (top 4) 0)) (defScope (inCls (top 4) 0)) .none kV_TooLarge dc_TooLarge pm_TooLarge an_TooLarge cd_TooLarge ct_TooLarge), sl_TooLarge⟩)
  (ci_TooLarge : PySem.W.codeIn K cd_TooLarge "TooLarge.__init__" = true)
  (ki_TooLarge : PySem.W.keepIn K (.ref I_TooLarge) = true)
  (kc_TooLarge : PySem.W.keepIn K (.ref X_TooLarge) = true)
  (nf_name_TooLarge : PySem.W.findIn K (.ref X_TooLarge) "name" = some none)
  (nf_what_TooLarge : PySem.W.findIn K (.ref X_TooLarge) "what" = some none)
  (nf_why_TooLarge : PySem.W.findIn K (.ref X_TooLarge) "why" = some none)
  (kl_TooLarge : PySem.W.findIn K (.ref X_TooLarge) "__class__" = some (some (.builtin "object.__class__")))
  (mo_TooLarge : PySem.W.mroIn K X_TooLarge (.type "object") = some true)
  (si_BadValue_TooLarge : PySem.W.subIn K (.ref X_TooLarge) (.ref X_BadValue) = some false)
  (si_NotPossible_TooLarge : PySem.W.subIn K (.ref X_TooLarge) (.ref X_NotPossible) = some false)
  (si_TooLarge_TooLarge : PySem.W.subIn K (.ref X_TooLarge) (.ref X_TooLarge) = some true)
  (si_ValueError_TooLarge : PySem.W.subIn K (.ref X_TooLarge) (.type "ValueError") = some true)
  (sf_TooLarge : PySem.W.subIn K (.ref X_TooLarge) (.ref X_TooLarge) = some true)
  (sb_NotPossible_TooLarge : PySem.W.subIn K (.ref X_TooLarge) (.ref X_NotPossible) = some false)
  (sb_UndoError_TooLarge : PySem.W.subIn K (.ref X_TooLarge) (.ref X_UndoError) = some true)
  (xgt : PySem.W.specialIn K (.builtin "object.__class__") "__get__" = some (some (.builtin "getset_descriptor.__get__")))
  (xtk : PySem.W.takesIn K (.builtin "object.__class__") = some true)
  (z_ValueError : PySem.W.nsIn K mainGlobals "ValueError" = some none)
  (z_abs : PySem.W.nsIn K mainGlobals "abs" = some none)
  (z_all : PySem.W.nsIn K mainGlobals "all" = some none)
  (z_bool : PySem.W.nsIn K mainGlobals "bool" = some none)
  (z_int : PySem.W.nsIn K mainGlobals "int" = some none)
  (z_isinstance : PySem.W.nsIn K mainGlobals "isinstance" = some none)
  (z_len : PySem.W.nsIn K mainGlobals "len" = some none)
  (z_list : PySem.W.nsIn K mainGlobals "list" = some none)
  (z_max : PySem.W.nsIn K mainGlobals "max" = some none)
  (z_range : PySem.W.nsIn K mainGlobals "range" = some none)
  (z_sorted : PySem.W.nsIn K mainGlobals "sorted" = some none)
  (z_str : PySem.W.nsIn K mainGlobals "str" = some none)
  (z_tuple : PySem.W.nsIn K mainGlobals "tuple" = some none)
  (y_MOST_COMMANDS : PySem.W.nsIn K mainGlobals "MOST_COMMANDS" = some (some (.int 4 t_MOST_COMMANDS)))
  (y_MOST_ENTRIES : PySem.W.nsIn K mainGlobals "MOST_ENTRIES" = some (some (.int 16 t_MOST_ENTRIES)))
  (y_MOST_OPERATIONS : PySem.W.nsIn K mainGlobals "MOST_OPERATIONS" = some (some (.int 20 t_MOST_OPERATIONS)))
  (y_MOST_STATES : PySem.W.nsIn K mainGlobals "MOST_STATES" = some (some (.int 8 t_MOST_STATES))) :
    ∃ fd : FuncData, (∀ (s : Shared) (v : Value), BindsTo s fd ⟨[v], []⟩ [("_law_script", v)]) ∧ ∀ base : Heap, K.In base → base.Ns mainGlobals mg → FnOk l.prog w K mg base (L2.CX l.prog w) 8 fa fd ["_law_script"] (spLaw K) := by
  have T : Txt K mg := ⟨trivial, PySem.W.mg_none_of X G z_ValueError, PySem.W.mg_none_of X G z_abs, PySem.W.mg_none_of X G z_all, PySem.W.mg_none_of X G z_bool, PySem.W.mg_none_of X G z_int, PySem.W.mg_none_of X G z_isinstance, PySem.W.mg_none_of X G z_len, PySem.W.mg_none_of X G z_list, PySem.W.mg_none_of X G z_max, PySem.W.mg_none_of X G z_range, PySem.W.mg_none_of X G z_sorted, PySem.W.mg_none_of X G z_str, PySem.W.mg_none_of X G z_tuple, ⟨_, PySem.W.mg_of X G y_MOST_COMMANDS⟩, ⟨_, PySem.W.mg_of X G y_MOST_ENTRIES⟩, ⟨_, PySem.W.mg_of X G y_MOST_OPERATIONS⟩, ⟨_, PySem.W.mg_of X G y_MOST_STATES⟩⟩
  have F0 := fun_mk (st := (top 9)) l0 c0 k0
  have m0 := PySem.W.mg_of X G a0
  have b0 := F0.binds (ps := ["value", "low", "high"]) fun _ _ _ _ _ _ us hl => match us, hl with | [_, _, _], _ => rfl
  have F1 := fun_mk (st := (top 10)) l1 c1 k1
  have m1 := PySem.W.mg_of X G a1
  have b1 := F1.binds (ps := ["value"]) fun _ _ _ _ _ _ us hl => match us, hl with | [_], _ => rfl
  have F2 := fun_mk (st := (top 11)) l2 c2 k2
  have m2 := PySem.W.mg_of X G a2
  have b2 := F2.binds (ps := ["system", "value"]) fun _ _ _ _ _ _ us hl => match us, hl with | [_, _], _ => rfl
  have F3 := fun_mk (st := (top 12)) l3 c3 k3
  have m3 := PySem.W.mg_of X G a3
  have b3 := F3.binds (ps := ["system", "value"]) fun _ _ _ _ _ _ us hl => match us, hl with | [_, _], _ => rfl
  have F4 := fun_mk (st := (top 13)) l4 c4 k4
  have m4 := PySem.W.mg_of X G a4
  have b4 := F4.binds (ps := ["system"]) fun _ _ _ _ _ _ us hl => match us, hl with | [_], _ => rfl
  have F5 := fun_mk (st := (top 14)) l5 c5 k5
  have m5 := PySem.W.mg_of X G a5
  have b5 := F5.binds (ps := ["system", "state", "command"]) fun _ _ _ _ _ _ us hl => match us, hl with | [_, _, _], _ => rfl
  have F6 := fun_mk (st := (top 15)) l6 c6 k6
  have m6 := PySem.W.mg_of X G a6
  have b6 := F6.binds (ps := ["system"]) fun _ _ _ _ _ _ us hl => match us, hl with | [_], _ => rfl
  have F7 := fun_mk (st := (top 17)) l7 c7 k7
  have m7 := PySem.W.mg_of X G a7
  have b7 := F7.binds (ps := ["system", "one", "other"]) fun _ _ _ _ _ _ us hl => match us, hl with | [_, _, _], _ => rfl
  have F8 := fun_mk (st := (top 18)) l8 c8 k8
  have m8 := PySem.W.mg_of X G a8
  have b8 := F8.binds (ps := ["system", "one", "other"]) fun _ _ _ _ _ _ us hl => match us, hl with | [_, _, _], _ => rfl
  have F9 := fun_mk (st := (top 19)) l9 c9 k9
  have m9 := PySem.W.mg_of X G a9
  have b9 := F9.binds (ps := ["system", "one", "other"]) fun _ _ _ _ _ _ us hl => match us, hl with | [_, _, _], _ => rfl
  have F10 := fun_mk (st := (top 20)) l10 c10 k10
  have m10 := PySem.W.mg_of X G a10
  have b10 := F10.binds (ps := ["system", "one", "other"]) fun _ _ _ _ _ _ us hl => match us, hl with | [_, _, _], _ => rfl
  have F11 := fun_mk (st := (top 24)) l11 c11 k11
  have m11 := PySem.W.mg_of X G a11
  have b11 := F11.binds (ps := ["value", "system"]) fun _ _ _ _ _ _ us hl => match us, hl with | [_, _], _ => rfl
  have F12 := fun_mk (st := (top 25)) l12 c12 k12
  have m12 := PySem.W.mg_of X G a12
  have b12 := F12.binds (ps := ["entries", "operation"]) fun _ _ _ _ _ _ us hl => match us, hl with | [_, _], _ => rfl
  have F13 := fun_mk (st := (top 26)) l13 c13 k13
  have m13 := PySem.W.mg_of X G a13
  have b13 := F13.binds (ps := ["system", "entries"]) fun _ _ _ _ _ _ us hl => match us, hl with | [_, _], _ => rfl
  have F14 := fun_mk (st := (top 27)) l14 c14 k14
  have m14 := PySem.W.mg_of X G a14
  have b14 := F14.binds (ps := ["system", "entries"]) fun _ _ _ _ _ _ us hl => match us, hl with | [_, _], _ => rfl
  have F15 := fun_mk (st := (top 28)) l15 c15 k15
  have m15 := PySem.W.mg_of X G a15
  have b15 := F15.binds (ps := ["system", "entries", "number"]) fun _ _ _ _ _ _ us hl => match us, hl with | [_, _, _], _ => rfl
  have F16 := fun_mk (st := (inCls (top 29) 0)) l16 c16 k16
  have m16 : L2.Meth K X_Editor "__init__" f16 := ⟨a16, i16, k16⟩
  have b16 := F16.binds (ps := ["self", "system"]) fun _ _ _ _ _ _ us hl => match us, hl with | [_, _], _ => rfl
  have F17 := fun_mk (st := (inCls (top 29) 3)) l17 c17 k17
  have m17 : L2.Meth K X_Editor "state" f17 := ⟨a17, i17, k17⟩
  have b17 := F17.binds (ps := ["self"]) fun _ _ _ _ _ _ us hl => match us, hl with | [_], _ => rfl
  have F18 := fun_mk (st := (inCls (top 29) 1)) l18 c18 k18
  have m18 : L2.Meth K X_Editor "act" f18 := ⟨a18, i18, k18⟩
  have b18 := F18.binds (ps := ["self", "operation"]) fun _ _ _ _ _ _ us hl => match us, hl with | [_, _], _ => rfl
  have F19 := fun_mk (st := (top 31)) l19 c19 k19
  have m19 := PySem.W.mg_of X G a19
  have b19 := F19.binds (ps := ["system", "journal"]) fun _ _ _ _ _ _ us hl => match us, hl with | [_, _], _ => rfl
  have F20 := fun_mk (st := (top 32)) l20 c20 k20
  have m20 := PySem.W.mg_of X G a20
  have b20 := F20.binds (ps := ["system", "entries", "record"]) fun _ _ _ _ _ _ us hl => match us, hl with | [_, _, _], _ => rfl
  have F21 := fun_mk (st := (top 33)) l21 c21 k21
  have m21 := PySem.W.mg_of X G a21
  have b21 := F21.binds (ps := ["system", "records"]) fun _ _ _ _ _ _ us hl => match us, hl with | [_, _], _ => rfl
  have F22 := fun_mk (st := (top 35)) l22 c22 k22
  have m22 := PySem.W.mg_of X G a22
  have b22 := F22.binds (ps := ["_law_script"]) fun _ _ _ _ _ _ us hl => match us, hl with | [_], _ => rfl
  have F23 := fun_mk (st := (top 36)) l23 c23 k23
  have m23 := PySem.W.mg_of X G a23
  have b23 := F23.binds (ps := ["_law_stream_here", "_law_many"]) fun _ _ _ _ _ _ us hl => match us, hl with | [_, _], _ => rfl
  have F24 := fun_mk (st := (inCls (top 29) 7)) l24 c24 k24
  have m24 : L2.Meth K X_Editor "check_entry" f24 := ⟨a24, i24, k24⟩
  have b24 := F24.binds (ps := ["self", "entry"]) fun _ _ _ _ _ _ us hl => match us, hl with | [_, _], _ => rfl
  have F25 := fun_mk (st := (inCls (top 29) 8)) l25 c25 k25
  have m25 : L2.Meth K X_Editor "without" f25 := ⟨a25, i25, k25⟩
  have b25 := F25.binds (ps := ["self", "entry"]) fun _ _ _ _ _ _ us hl => match us, hl with | [_, _], _ => rfl
  have F26 := fun_mk (st := (inCls (top 29) 9)) l26 c26 k26
  have m26 : L2.Meth K X_Editor "is_revocable" f26 := ⟨a26, i26, k26⟩
  have b26 := F26.binds (ps := ["self", "entry"]) fun _ _ _ _ _ _ us hl => match us, hl with | [_, _], _ => rfl
  have F27 := fun_mk (st := (inCls (top 29) 11)) l27 c27 k27
  have m27 : L2.Meth K X_Editor "table" f27 := ⟨a27, i27, k27⟩
  have b27 := F27.binds (ps := ["self", "entry"]) fun _ _ _ _ _ _ us hl => match us, hl with | [_, _], _ => rfl
  have F28 := fun_mk (st := (top 37)) l28 c28 k28
  have m28 := PySem.W.mg_of X G a28
  have b28 := F28.binds (ps := ["_law_which", "_law_one", "_law_other"]) fun _ _ _ _ _ _ us hl => match us, hl with | [_, _, _], _ => rfl
  have F29 := fun_mk (st := (inCls (top 29) 6)) l29 c29 k29
  have m29 : L2.Meth K X_Editor "journal" f29 := ⟨a29, i29, k29⟩
  have b29 := F29.binds (ps := ["self"]) fun _ _ _ _ _ _ us hl => match us, hl with | [_], _ => rfl
  have F30 := fun_mk (st := (top 38)) l30 c30 k30
  have m30 := PySem.W.mg_of X G a30
  have b30 := F30.binds (ps := ["_law_script"]) fun _ _ _ _ _ _ us hl => match us, hl with | [_], _ => rfl
  have e := hfa.symm.trans m30
  cases e
  refine ⟨_, Dn.Fun.bindsLaw F30 fun _ _ _ _ _ _ u => rfl, fun base _ _ => ?_⟩
  have FI_BadValue := fun_mk (st := inCls (top 3) 0) li_BadValue ci_BadValue ki_BadValue
  have E_BadValue : ExOk l.prog w K mg base "BadValue" "name" := ⟨X_BadValue, I_BadValue, _, "name", PySem.W.mg_of X G xa_BadValue, ⟨⟨_, _, _, _, _, _, _, _, _, _, _, _, _, _, _, xL_BadValue, rfl⟩, sa_BadValue, eC_BadValue, tC_BadValue, kc_BadValue⟩, nf_name_BadValue, ii_BadValue, ti_BadValue, ok_ini_BadValue FI_BadValue, FI_BadValue.binds (ps := ["self", "name"]) fun _ _ _ _ _ _ us hl => match us, hl with | [_, _], _ => rfl⟩
  have FI_NotPossible := fun_mk (st := inCls (top 5) 0) li_NotPossible ci_NotPossible ki_NotPossible
  have E_NotPossible : ExOk l.prog w K mg base "NotPossible" "why" := ⟨X_NotPossible, I_NotPossible, _, "why", PySem.W.mg_of X G xa_NotPossible, ⟨⟨_, _, _, _, _, _, _, _, _, _, _, _, _, _, _, xL_NotPossible, rfl⟩, sa_NotPossible, eC_NotPossible, tC_NotPossible, kc_NotPossible⟩, nf_why_NotPossible, ii_NotPossible, ti_NotPossible, ok_ini_NotPossible FI_NotPossible, FI_NotPossible.binds (ps := ["self", "why"]) fun _ _ _ _ _ _ us hl => match us, hl with | [_, _], _ => rfl⟩
  have FI_TooLarge := fun_mk (st := inCls (top 4) 0) li_TooLarge ci_TooLarge ki_TooLarge
  have E_TooLarge : ExOk l.prog w K mg base "TooLarge" "what" := ⟨X_TooLarge, I_TooLarge, _, "what", PySem.W.mg_of X G xa_TooLarge, ⟨⟨_, _, _, _, _, _, _, _, _, _, _, _, _, _, _, xL_TooLarge, rfl⟩, sa_TooLarge, eC_TooLarge, tC_TooLarge, kc_TooLarge⟩, nf_what_TooLarge, ii_TooLarge, ti_TooLarge, ok_ini_TooLarge FI_TooLarge, FI_TooLarge.binds (ps := ["self", "what"]) fun _ _ _ _ _ _ us hl => match us, hl with | [_, _], _ => rfl⟩
  have H_NotPossible : TryOk K mg "NotPossible" [("BadValue", false), ("NotPossible", true), ("TooLarge", false)] ["name", "what", "why"] := by
    refine ⟨X_NotPossible, PySem.W.mg_of X G xa_NotPossible, ?_⟩
    refine List.forall_mem_cons.mpr ⟨⟨X_BadValue, PySem.W.mg_of X G xa_BadValue, PySem.W.exm_ref eC_NotPossible hC_NotPossible tC_NotPossible sb_NotPossible_BadValue, ⟨ga_BadValue, gg_BadValue, eC_BadValue, hC_BadValue⟩, List.forall_mem_cons.mpr ⟨nf_name_BadValue, List.forall_mem_cons.mpr ⟨nf_what_BadValue, List.forall_mem_cons.mpr ⟨nf_why_BadValue, (fun _ z => nomatch z)⟩⟩⟩⟩, ?_⟩
    refine List.forall_mem_cons.mpr ⟨⟨X_NotPossible, PySem.W.mg_of X G xa_NotPossible, PySem.W.exm_ref eC_NotPossible hC_NotPossible tC_NotPossible sb_NotPossible_NotPossible, ⟨ga_NotPossible, gg_NotPossible, eC_NotPossible, hC_NotPossible⟩, List.forall_mem_cons.mpr ⟨nf_name_NotPossible, List.forall_mem_cons.mpr ⟨nf_what_NotPossible, List.forall_mem_cons.mpr ⟨nf_why_NotPossible, (fun _ z => nomatch z)⟩⟩⟩⟩, ?_⟩
    refine List.forall_mem_cons.mpr ⟨⟨X_TooLarge, PySem.W.mg_of X G xa_TooLarge, PySem.W.exm_ref eC_NotPossible hC_NotPossible tC_NotPossible sb_NotPossible_TooLarge, ⟨ga_TooLarge, gg_TooLarge, eC_TooLarge, hC_TooLarge⟩, List.forall_mem_cons.mpr ⟨nf_name_TooLarge, List.forall_mem_cons.mpr ⟨nf_what_TooLarge, List.forall_mem_cons.mpr ⟨nf_why_TooLarge, (fun _ z => nomatch z)⟩⟩⟩⟩, ?_⟩
    exact fun _ z => nomatch z
  have H_UndoError : TryOk K mg "UndoError" [("BadValue", true), ("NotPossible", true), ("TooLarge", true)] ["name", "what", "why"] := by
    refine ⟨X_UndoError, PySem.W.mg_of X G xa_UndoError, ?_⟩
    refine List.forall_mem_cons.mpr ⟨⟨X_BadValue, PySem.W.mg_of X G xa_BadValue, PySem.W.exm_ref eC_UndoError hC_UndoError tC_UndoError sb_UndoError_BadValue, ⟨ga_BadValue, gg_BadValue, eC_BadValue, hC_BadValue⟩, List.forall_mem_cons.mpr ⟨nf_name_BadValue, List.forall_mem_cons.mpr ⟨nf_what_BadValue, List.forall_mem_cons.mpr ⟨nf_why_BadValue, (fun _ z => nomatch z)⟩⟩⟩⟩, ?_⟩
    refine List.forall_mem_cons.mpr ⟨⟨X_NotPossible, PySem.W.mg_of X G xa_NotPossible, PySem.W.exm_ref eC_UndoError hC_UndoError tC_UndoError sb_UndoError_NotPossible, ⟨ga_NotPossible, gg_NotPossible, eC_NotPossible, hC_NotPossible⟩, List.forall_mem_cons.mpr ⟨nf_name_NotPossible, List.forall_mem_cons.mpr ⟨nf_what_NotPossible, List.forall_mem_cons.mpr ⟨nf_why_NotPossible, (fun _ z => nomatch z)⟩⟩⟩⟩, ?_⟩
    refine List.forall_mem_cons.mpr ⟨⟨X_TooLarge, PySem.W.mg_of X G xa_TooLarge, PySem.W.exm_ref eC_UndoError hC_UndoError tC_UndoError sb_UndoError_TooLarge, ⟨ga_TooLarge, gg_TooLarge, eC_TooLarge, hC_TooLarge⟩, List.forall_mem_cons.mpr ⟨nf_name_TooLarge, List.forall_mem_cons.mpr ⟨nf_what_TooLarge, List.forall_mem_cons.mpr ⟨nf_why_TooLarge, (fun _ z => nomatch z)⟩⟩⟩⟩, ?_⟩
    exact fun _ z => nomatch z
  have T_BadValue : IsT K mg (.ref X_BadValue) [("BadValue", true), ("NotPossible", false), ("TooLarge", false)] := by
    refine List.forall_mem_cons.mpr ⟨⟨X_BadValue, PySem.W.mg_of X G xa_BadValue, kit_ownT hC_BadValue tC_BadValue si_BadValue_BadValue, ⟨hC_BadValue, ga_BadValue, gg_BadValue, eC_BadValue, kl_BadValue, xgt, xtk, mo_BadValue⟩⟩, ?_⟩
    refine List.forall_mem_cons.mpr ⟨⟨X_NotPossible, PySem.W.mg_of X G xa_NotPossible, kit_ownF hC_BadValue tC_BadValue si_BadValue_NotPossible sf_NotPossible, ⟨hC_NotPossible, ga_NotPossible, gg_NotPossible, eC_NotPossible, kl_NotPossible, xgt, xtk, mo_NotPossible⟩⟩, ?_⟩
    refine List.forall_mem_cons.mpr ⟨⟨X_TooLarge, PySem.W.mg_of X G xa_TooLarge, kit_ownF hC_BadValue tC_BadValue si_BadValue_TooLarge sf_TooLarge, ⟨hC_TooLarge, ga_TooLarge, gg_TooLarge, eC_TooLarge, kl_TooLarge, xgt, xtk, mo_TooLarge⟩⟩, ?_⟩
    exact fun _ z => nomatch z
  have I_BadValue : IsOwn K mg "BadValue" [("BadValue", true), ("NotPossible", false), ("TooLarge", false)] := ⟨X_BadValue, PySem.W.mg_of X G xa_BadValue, T_BadValue⟩
  have T_NotPossible : IsT K mg (.ref X_NotPossible) [("BadValue", false), ("NotPossible", true), ("TooLarge", false)] := by
    refine List.forall_mem_cons.mpr ⟨⟨X_BadValue, PySem.W.mg_of X G xa_BadValue, kit_ownF hC_NotPossible tC_NotPossible si_NotPossible_BadValue sf_BadValue, ⟨hC_BadValue, ga_BadValue, gg_BadValue, eC_BadValue, kl_BadValue, xgt, xtk, mo_BadValue⟩⟩, ?_⟩
    refine List.forall_mem_cons.mpr ⟨⟨X_NotPossible, PySem.W.mg_of X G xa_NotPossible, kit_ownT hC_NotPossible tC_NotPossible si_NotPossible_NotPossible, ⟨hC_NotPossible, ga_NotPossible, gg_NotPossible, eC_NotPossible, kl_NotPossible, xgt, xtk, mo_NotPossible⟩⟩, ?_⟩
    refine List.forall_mem_cons.mpr ⟨⟨X_TooLarge, PySem.W.mg_of X G xa_TooLarge, kit_ownF hC_NotPossible tC_NotPossible si_NotPossible_TooLarge sf_TooLarge, ⟨hC_TooLarge, ga_TooLarge, gg_TooLarge, eC_TooLarge, kl_TooLarge, xgt, xtk, mo_TooLarge⟩⟩, ?_⟩
    exact fun _ z => nomatch z
  have I_NotPossible : IsOwn K mg "NotPossible" [("BadValue", false), ("NotPossible", true), ("TooLarge", false)] := ⟨X_NotPossible, PySem.W.mg_of X G xa_NotPossible, T_NotPossible⟩
  have T_TooLarge : IsT K mg (.ref X_TooLarge) [("BadValue", false), ("NotPossible", false), ("TooLarge", true)] := by
    refine List.forall_mem_cons.mpr ⟨⟨X_BadValue, PySem.W.mg_of X G xa_BadValue, kit_ownF hC_TooLarge tC_TooLarge si_TooLarge_BadValue sf_BadValue, ⟨hC_BadValue, ga_BadValue, gg_BadValue, eC_BadValue, kl_BadValue, xgt, xtk, mo_BadValue⟩⟩, ?_⟩
    refine List.forall_mem_cons.mpr ⟨⟨X_NotPossible, PySem.W.mg_of X G xa_NotPossible, kit_ownF hC_TooLarge tC_TooLarge si_TooLarge_NotPossible sf_NotPossible, ⟨hC_NotPossible, ga_NotPossible, gg_NotPossible, eC_NotPossible, kl_NotPossible, xgt, xtk, mo_NotPossible⟩⟩, ?_⟩
    refine List.forall_mem_cons.mpr ⟨⟨X_TooLarge, PySem.W.mg_of X G xa_TooLarge, kit_ownT hC_TooLarge tC_TooLarge si_TooLarge_TooLarge, ⟨hC_TooLarge, ga_TooLarge, gg_TooLarge, eC_TooLarge, kl_TooLarge, xgt, xtk, mo_TooLarge⟩⟩, ?_⟩
    exact fun _ z => nomatch z
  have I_TooLarge : IsOwn K mg "TooLarge" [("BadValue", false), ("NotPossible", false), ("TooLarge", true)] := ⟨X_TooLarge, PySem.W.mg_of X G xa_TooLarge, T_TooLarge⟩
  have T_ValueError : IsT K mg (.type "ValueError") [("BadValue", true), ("NotPossible", true), ("TooLarge", true)] := by
    refine List.forall_mem_cons.mpr ⟨⟨X_BadValue, PySem.W.mg_of X G xa_BadValue, kit_blt si_ValueError_BadValue (by decide +kernel), ⟨hC_BadValue, ga_BadValue, gg_BadValue, eC_BadValue, kl_BadValue, xgt, xtk, mo_BadValue⟩⟩, ?_⟩
    refine List.forall_mem_cons.mpr ⟨⟨X_NotPossible, PySem.W.mg_of X G xa_NotPossible, kit_blt si_ValueError_NotPossible (by decide +kernel), ⟨hC_NotPossible, ga_NotPossible, gg_NotPossible, eC_NotPossible, kl_NotPossible, xgt, xtk, mo_NotPossible⟩⟩, ?_⟩
    refine List.forall_mem_cons.mpr ⟨⟨X_TooLarge, PySem.W.mg_of X G xa_TooLarge, kit_blt si_ValueError_TooLarge (by decide +kernel), ⟨hC_TooLarge, ga_TooLarge, gg_TooLarge, eC_TooLarge, kl_TooLarge, xgt, xtk, mo_TooLarge⟩⟩, ?_⟩
    exact fun _ z => nomatch z
  have I_ValueError : IsBlt K mg "ValueError" [("BadValue", true), ("NotPossible", true), ("TooLarge", true)] := ⟨T.n_ValueError, by decide +kernel, T_ValueError⟩
  have C_Editor : L2.Cls K X_Editor := ⟨pg_Editor, hd_Editor, po_Editor, sa_Editor⟩
  have mC_Editor := PySem.W.mg_of X G xa_Editor
  have L_Editor : ClOk K mg "Editor" ["system", "rows", "operations"] := ⟨X_Editor, mC_Editor, C_Editor, List.forall_mem_cons.mpr ⟨nf_system_Editor, List.forall_mem_cons.mpr ⟨nf_rows_Editor, List.forall_mem_cons.mpr ⟨nf_operations_Editor, (fun _ z => nomatch z)⟩⟩⟩⟩
  have G0 : FOk l.prog w K mg base 1 "is_whole" ["value", "low", "high"] d_is_whole := ok_is_whole T F0 m0 b0 
  have G1 : FOk l.prog w K mg base 2 "is_system" ["value"] d_is_system := ok_is_system T F1 m1 b1 G0
  have G2 : FOk l.prog w K mg base 2 "is_state" ["system", "value"] d_is_state := ok_is_state T F2 m2 b2 G0
  have G3 : FOk l.prog w K mg base 2 "is_command" ["system", "value"] d_is_command := ok_is_command T F3 m3 b3 G0
  have G4 : FOk l.prog w K mg base 1 "states_of" ["system"] d_states_of := ok_states_of T F4 m4 b4 
  have G5 : FOk l.prog w K mg base 1 "step" ["system", "state", "command"] d_step := ok_step T F5 m5 b5 
  have G6 : FOk l.prog w K mg base 3 "check_system" ["system"] d_check_system_v2 := ok_check_system T F6 m6 b6 G1 E_BadValue
  have G7 : FOk l.prog w K mg base 2 "pairs_from" ["system", "one", "other"] d_pairs_from := ok_pairs_from T F7 m7 b7 G5
  have G8 : FOk l.prog w K mg base 3 "counterparts_of" ["system", "one", "other"] d_counterparts_of := ok_counterparts_of T F8 m8 b8 G7 G4
  have G9 : FOk l.prog w K mg base 4 "determines" ["system", "one", "other"] d_determines := ok_determines T F9 m9 b9 G8
  have G10 : FOk l.prog w K mg base 4 "table_for" ["system", "one", "other"] d_table_for := ok_table_for T F10 m10 b10 G8
  have G11 : FOk l.prog w K mg base 3 "is_operation" ["value", "system"] d_is_operation := ok_is_operation T F11 m11 b11 G3 G0
  have G12 : FOk l.prog w K mg base 3 "behind" ["entries", "operation"] d_behind_v2 := ok_behind T F12 m12 b12 E_NotPossible
  have G13 : FOk l.prog w K mg base 2 "states_along" ["system", "entries"] d_states_along := ok_states_along T F13 m13 b13 G5
  have G14 : FOk l.prog w K mg base 3 "state_of" ["system", "entries"] d_state_of := ok_state_of T F14 m14 b14 G13
  have G15 : FOk l.prog w K mg base 4 "state_without" ["system", "entries", "number"] d_state_without := ok_state_without T F15 m15 b15 G14
  have G16 : MakeOk l.prog w K mg base 4 "Editor" ["self", "system"] d_Editor___init__ := ⟨ok_Editor___init__ T F16 mC_Editor C_Editor m16 b16 G6 L_Editor, fun Ca h => by cases mC_Editor.symm.trans h; exact ⟨mk_Editor, kc_Editor⟩⟩
  have G17 : MethOk l.prog w K mg base 4 "Editor" "state" ["self"] d_Editor_state := ok_Editor_state T F17 mC_Editor C_Editor m17 b17 G14 L_Editor
  have G18 : MethOk l.prog w K mg base 5 "Editor" "act" ["self", "operation"] d_Editor_act := ok_Editor_act T F18 mC_Editor C_Editor m18 b18 G11 G12 G17 L_Editor E_BadValue E_TooLarge
  have G19 : FOk l.prog w K mg base 6 "replayed" ["system", "journal"] d_replayed := ok_replayed T F19 m19 b19 G16 G11 G18 E_BadValue
  have G20 : FOk l.prog w K mg base 4 "entries_behind" ["system", "entries", "record"] d_entries_behind := ok_entries_behind T F20 m20 b20 G11 G12 G2 G14 H_NotPossible
  have G21 : FOk l.prog w K mg base 5 "are_right" ["system", "records"] d_are_right_v2 := ok_are_right T F21 m21 b21 G6 G20
  have G22 : FOk l.prog w K mg base 1 "_law_stream" ["_law_script"] d__law_stream := ok__law_stream T F22 m22 b22 
  have G23 : FOk l.prog w K mg base 1 "_law_next" ["_law_stream_here", "_law_many"] d__law_next := ok__law_next T F23 m23 b23 
  have G24 : MethOk l.prog w K mg base 3 "Editor" "check_entry" ["self", "entry"] d_Editor_check_entry := ok_Editor_check_entry T F24 mC_Editor C_Editor m24 b24 G0 L_Editor E_BadValue E_NotPossible
  have G25 : MethOk l.prog w K mg base 5 "Editor" "without" ["self", "entry"] d_Editor_without := ok_Editor_without T F25 mC_Editor C_Editor m25 b25 G24 G15 L_Editor
  have G26 : MethOk l.prog w K mg base 5 "Editor" "is_revocable" ["self", "entry"] d_Editor_is_revocable_v2 := ok_Editor_is_revocable T F26 mC_Editor C_Editor m26 b26 G15 G9 G17 L_Editor
  have G27 : MethOk l.prog w K mg base 6 "Editor" "table" ["self", "entry"] d_Editor_table_v2 := ok_Editor_table T F27 mC_Editor C_Editor m27 b27 G25 G26 G10 G17 L_Editor
  have G28 : FOk l.prog w K mg base 7 "_law_told" ["_law_which", "_law_one", "_law_other"] d__law_told_v19 := ok__law_told T F28 m28 b28 G16 G19 G21 G18 G25 G27 H_UndoError I_BadValue I_NotPossible I_TooLarge I_ValueError
  have G29 : MethOk l.prog w K mg base 1 "Editor" "journal" ["self"] d_Editor_journal := ok_Editor_journal T F29 mC_Editor C_Editor m29 b29 L_Editor
  have G30 : FOk l.prog w K mg base 8 "law" ["_law_script"] d_law_k78 := ok_law T F30 m30 b30 G22 G23 G28 G16 G29 G17 G18 G21
  exact fok_lawD G30 m30 F30 b30 Dn.law_true
end Rw
open PySem PySem.W PyProof.Rows in
set_option maxRecDepth 100000 in
set_option maxHeartbeats 0 in
theorem PySem.Challenge.cw_undobystate_k78_refusals_of_editors_holds : PySem.Challenge.rw_undobystate_k78_refusals_of_editors.Holds := by
  w_on; o_law; k_head; (case hw => w_witness2)
  k_fill
  refine L2.walk_of (l := PySem.Challenge.rw_undobystate_k78_refusals_of_editors) (n := 63) (k := 8) (x := "_law_script") (CX := fun w => L2.CX PySem.Challenge.rw_undobystate_k78_refusals_of_editors.prog w) (sp := fun w => Dn.spLaw _) rfl (by decide) rfl ⟨rfl, by decide, by decide⟩ (fun w h Y => PySem.W.kIn_of Y) ?F (fun _ _ a ns hl _ hS => ⟨a, ns, rfl, hS, hl, fun _ => rfl⟩) fun _ _ _ _ _ z => Dn.cx_no z
  case F =>
    intro w mg fa h KX G hmg
    refine' Rw.all_mk KX G hmg ?xa_Editor ?pg_Editor ?hd_Editor ?po_Editor ?sa_Editor ?mk_Editor ?kc_Editor ?nf_system_Editor ?nf_rows_Editor ?nf_operations_Editor ?a0 ?l0 ?c0 ?k0 ?a1 ?l1 ?c1 ?k1 ?a2 ?l2 ?c2 ?k2 ?a3 ?l3 ?c3 ?k3 ?a4 ?l4 ?c4 ?k4 ?a5 ?l5 ?c5 ?k5 ?a6 ?l6 ?c6 ?k6 ?a7 ?l7 ?c7 ?k7 ?a8 ?l8 ?c8 ?k8 ?a9 ?l9 ?c9 ?k9 ?a10 ?l10 ?c10 ?k10 ?a11 ?l11 ?c11 ?k11 ?a12 ?l12 ?c12 ?k12 ?a13 ?l13 ?c13 ?k13 ?a14 ?l14 ?c14 ?k14 ?a15 ?l15 ?c15 ?k15 ?a16 ?i16 ?l16 ?c16 ?k16 ?a17 ?i17 ?l17 ?c17 ?k17 ?a18 ?i18 ?l18 ?c18 ?k18 ?a19 ?l19 ?c19 ?k19 ?a20 ?l20 ?c20 ?k20 ?a21 ?l21 ?c21 ?k21 ?a22 ?l22 ?c22 ?k22 ?a23 ?l23 ?c23 ?k23 ?a24 ?i24 ?l24 ?c24 ?k24 ?a25 ?i25 ?l25 ?c25 ?k25 ?a26 ?i26 ?l26 ?c26 ?k26 ?a27 ?i27 ?l27 ?c27 ?k27 ?a28 ?l28 ?c28 ?k28 ?a29 ?i29 ?l29 ?c29 ?k29 ?a30 ?l30 ?c30 ?k30 ?xa_UndoError ?xa_BadValue ?xa_TooLarge ?xa_NotPossible ?eC_UndoError ?hC_UndoError ?tC_UndoError ?eC_BadValue ?hC_BadValue ?tC_BadValue ?eC_TooLarge ?hC_TooLarge ?tC_TooLarge ?eC_NotPossible ?hC_NotPossible ?tC_NotPossible ?xL_BadValue ?sa_BadValue ?ga_BadValue ?gg_BadValue ?ii_BadValue ?ti_BadValue ?li_BadValue ?ci_BadValue ?ki_BadValue ?kc_BadValue ?nf_name_BadValue ?nf_what_BadValue ?nf_why_BadValue ?kl_BadValue ?mo_BadValue ?si_BadValue_BadValue ?si_NotPossible_BadValue ?si_TooLarge_BadValue ?si_ValueError_BadValue ?sf_BadValue ?sb_NotPossible_BadValue ?sb_UndoError_BadValue ?xL_NotPossible ?sa_NotPossible ?ga_NotPossible ?gg_NotPossible ?ii_NotPossible ?ti_NotPossible ?li_NotPossible ?ci_NotPossible ?ki_NotPossible ?kc_NotPossible ?nf_name_NotPossible ?nf_what_NotPossible ?nf_why_NotPossible ?kl_NotPossible ?mo_NotPossible ?si_BadValue_NotPossible ?si_NotPossible_NotPossible ?si_TooLarge_NotPossible ?si_ValueError_NotPossible ?sf_NotPossible ?sb_NotPossible_NotPossible ?sb_UndoError_NotPossible ?xL_TooLarge ?sa_TooLarge ?ga_TooLarge ?gg_TooLarge ?ii_TooLarge ?ti_TooLarge ?li_TooLarge ?ci_TooLarge ?ki_TooLarge ?kc_TooLarge ?nf_name_TooLarge ?nf_what_TooLarge ?nf_why_TooLarge ?kl_TooLarge ?mo_TooLarge ?si_BadValue_TooLarge ?si_NotPossible_TooLarge ?si_TooLarge_TooLarge ?si_ValueError_TooLarge ?sf_TooLarge ?sb_NotPossible_TooLarge ?sb_UndoError_TooLarge ?xgt ?xtk ?z_ValueError ?z_abs ?z_all ?z_bool ?z_int ?z_isinstance ?z_len ?z_list ?z_max ?z_range ?z_sorted ?z_str ?z_tuple ?y_MOST_COMMANDS ?y_MOST_ENTRIES ?y_MOST_OPERATIONS ?y_MOST_STATES
    (case xa_Editor => k_is)
    (case pg_Editor => k_is)
    (case hd_Editor => k_is)
    (case po_Editor => k_is)
    (case sa_Editor => k_is)
    (case mk_Editor => k_is)
    (case kc_Editor => k_is)
    (case nf_system_Editor => k_is)
    (case nf_rows_Editor => k_is)
    (case nf_operations_Editor => k_is)
    (case a0 => k_is)
    (case l0 => k_is)
    (case c0 => k_is)
    (case k0 => k_is)
    (case a1 => k_is)
    (case l1 => k_is)
    (case c1 => k_is)
    (case k1 => k_is)
    (case a2 => k_is)
    (case l2 => k_is)
    (case c2 => k_is)
    (case k2 => k_is)
    (case a3 => k_is)
    (case l3 => k_is)
    (case c3 => k_is)
    (case k3 => k_is)
    (case a4 => k_is)
    (case l4 => k_is)
    (case c4 => k_is)
    (case k4 => k_is)
    (case a5 => k_is)
    (case l5 => k_is)
    (case c5 => k_is)
    (case k5 => k_is)
    (case a6 => k_is)
    (case l6 => k_is)
    (case c6 => k_is)
    (case k6 => k_is)
    (case a7 => k_is)
    (case l7 => k_is)
    (case c7 => k_is)
    (case k7 => k_is)
    (case a8 => k_is)
    (case l8 => k_is)
    (case c8 => k_is)
    (case k8 => k_is)
    (case a9 => k_is)
    (case l9 => k_is)
    (case c9 => k_is)
    (case k9 => k_is)
    (case a10 => k_is)
    (case l10 => k_is)
    (case c10 => k_is)
    (case k10 => k_is)
    (case a11 => k_is)
    (case l11 => k_is)
    (case c11 => k_is)
    (case k11 => k_is)
    (case a12 => k_is)
    (case l12 => k_is)
    (case c12 => k_is)
    (case k12 => k_is)
    (case a13 => k_is)
    (case l13 => k_is)
    (case c13 => k_is)
    (case k13 => k_is)
    (case a14 => k_is)
    (case l14 => k_is)
    (case c14 => k_is)
    (case k14 => k_is)
    (case a15 => k_is)
    (case l15 => k_is)
    (case c15 => k_is)
    (case k15 => k_is)
    (case a16 => k_is)
    (case i16 => k_is)
    (case l16 => k_is)
    (case c16 => k_is)
    (case k16 => k_is)
    (case a17 => k_is)
    (case i17 => k_is)
    (case l17 => k_is)
    (case c17 => k_is)
    (case k17 => k_is)
    (case a18 => k_is)
    (case i18 => k_is)
    (case l18 => k_is)
    (case c18 => k_is)
    (case k18 => k_is)
    (case a19 => k_is)
    (case l19 => k_is)
    (case c19 => k_is)
    (case k19 => k_is)
    (case a20 => k_is)
    (case l20 => k_is)
    (case c20 => k_is)
    (case k20 => k_is)
    (case a21 => k_is)
    (case l21 => k_is)
    (case c21 => k_is)
    (case k21 => k_is)
    (case a22 => k_is)
    (case l22 => k_is)
    (case c22 => k_is)
    (case k22 => k_is)
    (case a23 => k_is)
    (case l23 => k_is)
    (case c23 => k_is)
    (case k23 => k_is)
    (case a24 => k_is)
    (case i24 => k_is)
    (case l24 => k_is)
    (case c24 => k_is)
    (case k24 => k_is)
    (case a25 => k_is)
    (case i25 => k_is)
    (case l25 => k_is)
    (case c25 => k_is)
    (case k25 => k_is)
    (case a26 => k_is)
    (case i26 => k_is)
    (case l26 => k_is)
    (case c26 => k_is)
    (case k26 => k_is)
    (case a27 => k_is)
    (case i27 => k_is)
    (case l27 => k_is)
    (case c27 => k_is)
    (case k27 => k_is)
    (case a28 => k_is)
    (case l28 => k_is)
    (case c28 => k_is)
    (case k28 => k_is)
    (case a29 => k_is)
    (case i29 => k_is)
    (case l29 => k_is)
    (case c29 => k_is)
    (case k29 => k_is)
    (case a30 => k_is)
    (case l30 => k_is)
    (case c30 => k_is)
    (case k30 => k_is)
    (case xa_UndoError => k_is)
    (case xa_BadValue => k_is)
    (case xa_TooLarge => k_is)
    (case xa_NotPossible => k_is)
    (case eC_UndoError => k_is)
    (case hC_UndoError => k_is)
    (case tC_UndoError => k_is)
    (case eC_BadValue => k_is)
    (case hC_BadValue => k_is)
    (case tC_BadValue => k_is)
    (case eC_TooLarge => k_is)
    (case hC_TooLarge => k_is)
    (case tC_TooLarge => k_is)
    (case eC_NotPossible => k_is)
    (case hC_NotPossible => k_is)
    (case tC_NotPossible => k_is)
    (case xL_BadValue => k_is)
    (case sa_BadValue => k_is)
    (case ga_BadValue => k_is)
    (case gg_BadValue => k_is)
    (case ii_BadValue => k_is)
    (case ti_BadValue => k_is)
    (case li_BadValue => k_is)
    (case ci_BadValue => k_is)
    (case ki_BadValue => k_is)
    (case kc_BadValue => k_is)
    (case nf_name_BadValue => k_is)
    (case nf_what_BadValue => k_is)
    (case nf_why_BadValue => k_is)
    (case kl_BadValue => k_is)
    (case mo_BadValue => k_is)
    (case si_BadValue_BadValue => k_is)
    (case si_NotPossible_BadValue => k_is)
    (case si_TooLarge_BadValue => k_is)
    (case si_ValueError_BadValue => k_is)
    (case sf_BadValue => k_is)
    (case sb_NotPossible_BadValue => k_is)
    (case sb_UndoError_BadValue => k_is)
    (case xL_NotPossible => k_is)
    (case sa_NotPossible => k_is)
    (case ga_NotPossible => k_is)
    (case gg_NotPossible => k_is)
    (case ii_NotPossible => k_is)
    (case ti_NotPossible => k_is)
    (case li_NotPossible => k_is)
    (case ci_NotPossible => k_is)
    (case ki_NotPossible => k_is)
    (case kc_NotPossible => k_is)
    (case nf_name_NotPossible => k_is)
    (case nf_what_NotPossible => k_is)
    (case nf_why_NotPossible => k_is)
    (case kl_NotPossible => k_is)
    (case mo_NotPossible => k_is)
    (case si_BadValue_NotPossible => k_is)
    (case si_NotPossible_NotPossible => k_is)
    (case si_TooLarge_NotPossible => k_is)
    (case si_ValueError_NotPossible => k_is)
    (case sf_NotPossible => k_is)
    (case sb_NotPossible_NotPossible => k_is)
    (case sb_UndoError_NotPossible => k_is)
    (case xL_TooLarge => k_is)
    (case sa_TooLarge => k_is)
    (case ga_TooLarge => k_is)
    (case gg_TooLarge => k_is)
    (case ii_TooLarge => k_is)
    (case ti_TooLarge => k_is)
    (case li_TooLarge => k_is)
    (case ci_TooLarge => k_is)
    (case ki_TooLarge => k_is)
    (case kc_TooLarge => k_is)
    (case nf_name_TooLarge => k_is)
    (case nf_what_TooLarge => k_is)
    (case nf_why_TooLarge => k_is)
    (case kl_TooLarge => k_is)
    (case mo_TooLarge => k_is)
    (case si_BadValue_TooLarge => k_is)
    (case si_NotPossible_TooLarge => k_is)
    (case si_TooLarge_TooLarge => k_is)
    (case si_ValueError_TooLarge => k_is)
    (case sf_TooLarge => k_is)
    (case sb_NotPossible_TooLarge => k_is)
    (case sb_UndoError_TooLarge => k_is)
    (case xgt => k_is)
    (case xtk => k_is)
    (case z_ValueError => k_is)
    (case z_abs => k_is)
    (case z_all => k_is)
    (case z_bool => k_is)
    (case z_int => k_is)
    (case z_isinstance => k_is)
    (case z_len => k_is)
    (case z_list => k_is)
    (case z_max => k_is)
    (case z_range => k_is)
    (case z_sorted => k_is)
    (case z_str => k_is)
    (case z_tuple => k_is)
    (case y_MOST_COMMANDS => k_is)
    (case y_MOST_ENTRIES => k_is)
    (case y_MOST_OPERATIONS => k_is)
    (case y_MOST_STATES => k_is)
end
