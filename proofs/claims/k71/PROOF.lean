import PyProof.Rows.All
import Wide.All
import OpenK.AllK
import Wide.FinOn
import HandS.ForMost
import HandS.Exc
import HandS.Lambda
import HandS.Zip
import HandS.Wide
import HandS.Walk
import HandS.ForExc
import HandS.Conv
import HandS.TupAny
import HandS.RaiseMore
import HandS.Style
import HandS.Flow
import HandS.IsInst
import HandS.Defaults
import HandS.WideMore
import HandS.Deep
import HandS.Iter
import HandS.Star
import KE.GoesMore
import KE.SortData
import KE.DataMinMax
import HandS.NoneIn
import HandS.TupMul
import KE.KRevSl
import HandS.Ends
import HandS.Head0
import HandS.Head1
import HandS.Head2
import HandS.HeadEnd
import HandS.HeadHook1
import HandS.HeadHook2
import KE.DataCmp
import HandS.SetFor
import HandS.SortInts
import PyProof.TupleOfSeq
import KE.KDictPairs
import PySem.Challenge.RW_hookwide_k71_whole_halls_counted
set_option Elab.async false
set_option linter.all false
set_option maxRecDepth 100000
set_option maxHeartbeats 4000000
/-! DLa: data in place of the heap. A def's names hold data (PyData), frozen ones or own lists; readings of the hand layer that say just this. -/
namespace DL
open PySem L2

abbrev D := PyData
/-- what a name holds: nothing known; data that no one changes; a list that is read alone; an own list; the list handed in; an own dict -/
inductive Sl where
  | no
  | vl (d : D)
  | fr (ds : List D)
  | ow (ds : List D)
  | io (ds : List D)
  | od (kvs : List (D × D))
def Sl.mine : Sl → Bool
  | .ow _ => true
  | .io _ => true
  | .od _ => true
  | _ => false
abbrev En := List Sl

inductive R (α : Type) where
  | ok (a : α) (r : En)
  | ex (c : Nat) (d : Option D) (r : En)
  | st
def R.bind {α β : Type} (x : R α) (k : α → En → R β) : R β := match x with
  | .ok a r => k a r
  | .ex c d r => .ex c d r
  | .st => .st
inductive Fl where
  | nx (r : En)
  | rt (s : Sl) (r : En)
  | bk (r : En)
  | ct (r : En)
  | ex (c : Nat) (d : Option D) (r : En)
  | st

structure Gm where
  K : PySem.W.Frag
  T : List (Addr × Str)
  fns : Nat → Option Addr
  exc : Nat → Option (Value × Option Str)
  pd : Addr

def kD : Key → D
  | .inl i => .int i
  | .inr x => .str x
def kT (l : List Key) : D := .tuple (l.map kD)
/-- a def as data -/
abbrev fnD (k : Nat) : D := .dict [(.none, .int k)]

mutual
inductive RpI (K : PySem.W.Frag) (fns : Nat → Option Addr) (F : Hp) : V → D → Prop
  | non : RpI K fns F .non .none
  | bl (b : Bool) : RpI K fns F (.bl b) (.bool b)
  | int (i : Int) : RpI K fns F (.int i) (.int i)
  | str (x : Str) : RpI K fns F (.str x) (.str x)
  | lst {a : Addr} {xs : List V} {ds : List D} : F a = some (.lst xs) → RpLI K fns F xs ds → RpI K fns F (.ref a) (.list ds)
  | tup {a : Addr} {xs : List V} {ds : List D} : SqT K F a xs → RpLI K fns F xs ds → RpI K fns F (.ref a) (.tuple ds)
  | dct {a : Addr} {kvs : List (Key × V)} {ds : List D} : F a = some (.dK kvs) → RpLI K fns F (kvs.map (·.2)) ds → RpI K fns F (.ref a) (.dict ((kvs.map fun p => kD p.1).zip ds))
  | dcT {a : Addr} {kvs : List (List Key × V)} {ds : List D} : F a = some (.dT kvs) → RpLI K fns F (kvs.map (·.2)) ds → RpI K fns F (.ref a) (.dict ((kvs.map fun p => kT p.1).zip ds))
  | fn {a : Addr} {k : Nat} : fns k = some a → RpI K fns F (.ref a) (fnD k)
inductive RpLI (K : PySem.W.Frag) (fns : Nat → Option Addr) (F : Hp) : List V → List D → Prop
  | nil : RpLI K fns F [] []
  | cons {v : V} {vs : List V} {d : D} {ds : List D} : RpI K fns F v d → RpLI K fns F vs ds → RpLI K fns F (v :: vs) (d :: ds)
end
abbrev Rp (G : Gm) (F : Hp) (v : V) (d : D) : Prop := RpI G.K G.fns F v d
abbrev RpL (G : Gm) (F : Hp) (vs : List V) (ds : List D) : Prop := RpLI G.K G.fns F vs ds

def Sub (F H : Hp) : Prop := ∀ a o, F a = some o → H a = some o
theorem Sub.refl (F : Hp) : Sub F F := fun _ _ h => h
theorem Sub.trans {F G H : Hp} (a : Sub F G) (b : Sub G H) : Sub F H := fun x o h => b x o (a x o h)
theorem Sub.rd {F H : Hp} {a : Addr} {u : HO} (e : Sub F H) (h : Rd F a u) : Rd H a u := by
  rcases h with h | ⟨o, h⟩
  · exact .inl (e a _ h)
  · exact .inr ⟨o, e a _ h⟩
theorem Sub.l {K : PySem.W.Frag} {F H : Hp} {a : Addr} {xs : List V} (e : Sub F H) (h : SqL K F a xs) : SqL K H a xs := by
  rcases h with h | h
  · exact .inl (e.rd h)
  · exact .inr h
theorem Sub.t {K : PySem.W.Frag} {F H : Hp} {a : Addr} {xs : List V} (e : Sub F H) (h : SqT K F a xs) : SqT K H a xs := by
  rcases h with h | h
  · exact .inl (e.rd h)
  · exact .inr h
mutual
theorem RpI.mono {K : PySem.W.Frag} {fns : Nat → Option Addr} {F H : Hp} (e : Sub F H) : ∀ {v : V} {d : D}, RpI K fns F v d → RpI K fns H v d
  | _, _, .non => .non
  | _, _, .bl b => .bl b
  | _, _, .int i => .int i
  | _, _, .str x => .str x
  | _, _, .lst h hs => .lst (e _ _ h) (RpLI.mono e hs)
  | _, _, .tup h hs => .tup (e.t h) (RpLI.mono e hs)
  | _, _, .dct h hs => .dct (e _ _ h) (RpLI.mono e hs)
  | _, _, .dcT h hs => .dcT (e _ _ h) (RpLI.mono e hs)
  | _, _, .fn h => .fn h
theorem RpLI.mono {K : PySem.W.Frag} {fns : Nat → Option Addr} {F H : Hp} (e : Sub F H) : ∀ {vs : List V} {ds : List D}, RpLI K fns F vs ds → RpLI K fns H vs ds
  | _, _, .nil => .nil
  | _, _, .cons h hs => .cons (RpI.mono e h) (RpLI.mono e hs)
end
section
variable {K : PySem.W.Frag} {fns : Nat → Option Addr} {F : Hp}
theorem RpLI.len : ∀ {vs : List V} {ds : List D}, RpLI K fns F vs ds → vs.length = ds.length
  | _, _, .nil => rfl
  | _, _, .cons _ t => congrArg (· + 1) (RpLI.len t)
theorem RpLI.get : ∀ {vs : List V} {ds : List D} {i : Nat} {d : D}, RpLI K fns F vs ds → ds[i]? = some d → ∃ v, vs[i]? = some v ∧ RpI K fns F v d
  | _, _, _, _, .nil, e => by simp at e
  | _, _, 0, d, .cons h _, e => by simp at e; subst e; exact ⟨_, rfl, h⟩
  | _, _, i + 1, d, .cons _ t, e => by
    obtain ⟨v, h1, h2⟩ := RpLI.get (i := i) (d := d) t (by simpa using e)
    exact ⟨v, by simpa using h1, h2⟩
theorem RpLI.getV : ∀ {vs : List V} {ds : List D} {i : Nat} {v : V}, RpLI K fns F vs ds → vs[i]? = some v → ∃ d, ds[i]? = some d ∧ RpI K fns F v d
  | _, _, _, _, .nil, e => by simp at e
  | _, _, 0, d, .cons h _, e => by simp at e; subst e; exact ⟨_, rfl, h⟩
  | _, _, i + 1, d, .cons _ t, e => by
    obtain ⟨v, h1, h2⟩ := RpLI.getV (i := i) (v := d) t (by simpa using e)
    exact ⟨v, by simpa using h1, h2⟩
theorem RpLI.set {v : V} {d : D} (h : RpI K fns F v d) : ∀ {vs : List V} {ds : List D} (i : Nat), RpLI K fns F vs ds → RpLI K fns F (vs.set i v) (ds.set i d)
  | _, _, _, .nil => .nil
  | _, _, 0, .cons _ t => .cons h t
  | _, _, i + 1, .cons q t => .cons q (RpLI.set h i t)
theorem RpLI.append : ∀ {vs ws : List V} {ds es : List D}, RpLI K fns F vs ds → RpLI K fns F ws es → RpLI K fns F (vs ++ ws) (ds ++ es)
  | _, _, _, _, .nil, s => s
  | _, _, _, _, .cons r t, s => .cons r (RpLI.append t s)
theorem RpLI.take : ∀ {vs : List V} {ds : List D} (n : Nat), RpLI K fns F vs ds → RpLI K fns F (vs.take n) (ds.take n)
  | _, _, 0, _ => .nil
  | _, _, _ + 1, .nil => .nil
  | _, _, n + 1, .cons r t => .cons r (RpLI.take n t)
theorem RpLI.drop : ∀ {vs : List V} {ds : List D} (n : Nat), RpLI K fns F vs ds → RpLI K fns F (vs.drop n) (ds.drop n)
  | _, _, 0, r => r
  | _, _, _ + 1, .nil => .nil
  | _, _, n + 1, .cons _ t => RpLI.drop n t
theorem RpLI.rev : ∀ {vs : List V} {ds : List D}, RpLI K fns F vs ds → RpLI K fns F vs.reverse ds.reverse
  | _, _, .nil => .nil
  | _, _, .cons r t => by
    rw [List.reverse_cons, List.reverse_cons]
    exact (RpLI.rev t).append (.cons r .nil)
theorem RpLI.ints : ∀ (ns : List Int), RpLI K fns F (ns.map V.int) (ns.map PyData.int)
  | [] => .nil
  | n :: r => .cons (.int n) (RpLI.ints r)
end

/-! ### how the tracked part goes on: F what is frozen, O the addresses that may change -/
structure Go (F H : Hp) (O : Addr → Prop) (F' H' : Hp) (O' : Addr → Prop) : Prop where
  sub : Sub F F'
  new : ∀ a o, F' a = some o → F a = some o ∨ H a = none ∨ O a
  keep : ∀ a o, H a = some o → ¬ O a → (∀ ps, o ≠ .tbl ps) → H' a = some o
  own : ∀ a, O' a → O a ∨ H a = none
  there : ∀ a, H' a = none → H a = none
def noO : Addr → Prop := fun _ => False
theorem Go.refl {F H : Hp} {O O' : Addr → Prop} (h : ∀ a, O' a → O a) : Go F H O F H O' :=
  ⟨Sub.refl F, fun _ _ e => .inl e, fun _ _ e _ _ => e, fun a e => .inl (h a e), fun _ e => e⟩
theorem Go.trans {F H F1 H1 F2 H2 : Hp} {O O1 O2 : Addr → Prop} (a : Go F H O F1 H1 O1) (b : Go F1 H1 O1 F2 H2 O2) : Go F H O F2 H2 O2 where
  sub := a.sub.trans b.sub
  new := fun x o e => by
    rcases b.new x o e with h | h | h
    · exact a.new x o h
    · exact .inr (.inl (a.there x h))
    · rcases a.own x h with h | h
      · exact .inr (.inr h)
      · exact .inr (.inl h)
  keep := fun x o e n t => b.keep x o (a.keep x o e n t) (fun z => by
    rcases a.own x z with z | z
    · exact n z
    · rw [e] at z; cases z) t
  own := fun x e => by
    rcases b.own x e with h | h
    · exact a.own x h
    · exact .inr (a.there x h)
  there := fun x e => a.there x (b.there x e)
/-- the own addresses may be more, ahead; fewer behind -/
theorem Go.wide {F H F1 H1 : Hp} {O O1 P P1 : Addr → Prop} (a : Go F H O F1 H1 O1) (h : ∀ x, O x → P x) (h1 : ∀ x, P1 x → P x ∨ H x = none) : Go F H P F1 H1 P1 :=
  ⟨a.sub, fun x o e => (a.new x o e).imp id fun z => z.imp id (h x), fun x o e n t => a.keep x o e (fun z => n (h x z)) t, h1, a.there⟩
/-- a value is made: nothing that stood changes -/
structure Ext (F H F' H' : Hp) : Prop where
  go : Go F H noO F' H' noO
  ntb : ∀ a ps, F' a = some (.tbl ps) → F a = some (.tbl ps)
  tabs : ∀ T, LamX.Tabs T H → LamX.Tabs T H'
  sub : Sub F H → Sub F' H'
theorem Ext.refl (F H : Hp) : Ext F H F H := ⟨Go.refl fun _ e => e, fun _ _ e => e, fun _ e => e, fun e => e⟩
theorem Ext.trans {F H F1 H1 F2 H2 : Hp} (a : Ext F H F1 H1) (b : Ext F1 H1 F2 H2) : Ext F H F2 H2 :=
  ⟨a.go.trans b.go, fun x ps e => a.ntb x ps (b.ntb x ps e), fun T e => b.tabs T (a.tabs T e), fun e => b.sub (a.sub e)⟩
theorem sub_upd {H : Hp} {p : Addr} {o : HO} (h : H p = none) : Sub H (upd H p o) := fun a u e => by
  rw [upd_ne (ne_of_none e h)]
  exact e
/-- a new object is made and frozen -/
theorem Ext.new {F H : Hp} {p : Addr} {o : HO} (hs : Sub F H) (h : H p = none) (ho : ∀ ps, o ≠ .tbl ps) : Ext F H (upd F p o) (upd H p o) := by
  have hF : F p = none := by
    cases q : F p with
    | none => rfl
    | some u => rw [hs p u q] at h; cases h
  refine ⟨⟨sub_upd hF, fun a u e => ?_, fun a u e _ _ => sub_upd h a u e, fun a e => .inl e, fun a e => ?_⟩, fun a ps e => ?_, fun T t => t.ext (sub_upd h), fun e a u q => ?_⟩
  · by_cases hb : a = p
    · subst hb; exact .inr (.inl h)
    · rw [upd_ne hb] at e; exact .inl e
  · by_cases hb : a = p
    · subst hb; exact h
    · rw [upd_ne hb] at e; exact e
  · by_cases hb : a = p
    · subst hb; rw [upd_same] at e; cases e; exact absurd rfl (ho ps)
    · rw [upd_ne hb] at e; exact e
  · by_cases hb : a = p
    · subst hb; rw [upd_same] at q ⊢; exact q
    · rw [upd_ne hb] at q ⊢; exact e a u q
/-- a new object is made, not frozen -/
theorem Ext.made {F H : Hp} {p : Addr} {o : HO} (h : H p = none) (hs : Sub F H) : Ext F H F (upd H p o) := by
  refine ⟨⟨Sub.refl F, fun a u e => .inl e, fun a u e _ _ => sub_upd h a u e, fun a e => .inl e, fun a e => ?_⟩, fun _ _ e => e, fun T t => t.ext (sub_upd h), fun e a u q => sub_upd h a u (e a u q)⟩
  by_cases hb : a = p
  · subst hb; exact h
  · rw [upd_ne hb] at e; exact e

/-! ### names and data -/
def OwnL (G : Gm) (F H : Hp) (p : Addr) (ds : List D) : Prop := F p = none ∧ ∃ vs, H p = some (.lst vs) ∧ RpL G F vs ds
def OwnD (G : Gm) (F H : Hp) (p : Addr) (kvs : List (D × D)) : Prop := F p = none ∧
  ((∃ ks : List (Key × V), ∃ ds, H p = some (.dK ks) ∧ RpL G F (ks.map (·.2)) ds ∧ kvs = (ks.map fun q => kD q.1).zip ds) ∨
   ∃ ks : List (List Key × V), ∃ ds, H p = some (.dT ks) ∧ RpL G F (ks.map (·.2)) ds ∧ kvs = (ks.map fun q => kT q.1).zip ds)
def SlOk (G : Gm) (F H : Hp) (v : Option V) : Sl → Prop
  | .no => True
  | .vl d => ∃ x, v = some x ∧ Rp G F x d
  | .fr ds => ∃ p vs, v = some (.ref p) ∧ SqL G.K F p vs ∧ RpL G F vs ds
  | .ow ds => ∃ p, v = some (.ref p) ∧ OwnL G F H p ds
  | .io ds => v = some (.ref G.pd) ∧ OwnL G F H G.pd ds
  | .od kvs => ∃ p, v = some (.ref p) ∧ OwnD G F H p kvs
def oA (σ : L2.St) (r : En) : Addr → Prop := fun a => ∃ (i : Nat) (s : Sl), r[i]? = some s ∧ s.mine = true ∧ σ[i]? = some (some (V.ref a))
structure Rel (G : Gm) (F H : Hp) (σ : St) (r : En) : Prop where
  sub : Sub F H
  ntb : ∀ a ps, F a ≠ some (.tbl ps)
  tabs : LamX.Tabs G.T H
  len : σ.length = r.length
  slot : ∀ (i : Nat) (s : Sl) (v : Option V), r[i]? = some s → σ[i]? = some v → SlOk G F H v s
  apart : ∀ (i j : Nat) (s t : Sl) (p : Addr), r[i]? = some s → r[j]? = some t → s.mine = true → t.mine = true → σ[i]? = some (some (V.ref p)) → σ[j]? = some (some (V.ref p)) → i = j
theorem Rel.at {G : Gm} {F H : Hp} {σ : St} {r : En} (h : Rel G F H σ r) {i : Nat} {s : Sl} (e : r[i]? = some s) : ∃ v, σ[i]? = some v ∧ SlOk G F H v s := by
  have hi : i < σ.length := by rw [h.len]; exact (List.getElem?_eq_some_iff.mp e).1
  exact ⟨σ[i], List.getElem?_eq_getElem hi, h.slot i s _ e (List.getElem?_eq_getElem hi)⟩
theorem OwnL.mono {G : Gm} {F H F' H' : Hp} {p : Addr} {ds : List D} (h : OwnL G F H p ds) (s : Sub F F') (hn : F' p = none) (hk : ∀ o, H p = some o → (∀ ps, o ≠ .tbl ps) → H' p = some o) : OwnL G F' H' p ds := by
  obtain ⟨_, vs, h1, h2⟩ := h
  exact ⟨hn, vs, hk _ h1 (by intro ps z; cases z), h2.mono s⟩
theorem OwnD.mono {G : Gm} {F H F' H' : Hp} {p : Addr} {ds : List (D × D)} (h : OwnD G F H p ds) (s : Sub F F') (hn : F' p = none) (hk : ∀ o, H p = some o → (∀ ps, o ≠ .tbl ps) → H' p = some o) : OwnD G F' H' p ds := by
  obtain ⟨_, h⟩ := h
  refine ⟨hn, ?_⟩
  rcases h with ⟨vs, ds, h1, h2, h3⟩ | ⟨vs, ds, h1, h2, h3⟩
  · exact .inl ⟨vs, ds, hk _ h1 (by intro ps z; cases z), h2.mono s, h3⟩
  · exact .inr ⟨vs, ds, hk _ h1 (by intro ps z; cases z), h2.mono s, h3⟩
/-- an own address is tracked and not frozen -/
theorem SlOk.own {G : Gm} {F H : Hp} {v : Option V} {s : Sl} {p : Addr} (h : SlOk G F H v s) (m : s.mine = true) (e : v = some (.ref p)) : F p = none ∧ ∃ o, H p = some o ∧ (∀ ps, o ≠ .tbl ps) := by
  cases s with
  | no => cases m
  | vl d => cases m
  | fr d => cases m
  | ow ds =>
    obtain ⟨q, e1, h1, vs, h2, _⟩ := h
    rw [e] at e1; cases e1
    exact ⟨h1, _, h2, by intro ps z; cases z⟩
  | io ds =>
    obtain ⟨e1, h1, vs, h2, _⟩ := h
    rw [e] at e1; cases e1
    exact ⟨h1, _, h2, by intro ps z; cases z⟩
  | od ds =>
    obtain ⟨q, e1, h1, h2⟩ := h
    rw [e] at e1; cases e1
    refine ⟨h1, ?_⟩
    rcases h2 with ⟨vs, _, h2, _⟩ | ⟨vs, _, h2, _⟩
    · exact ⟨_, h2, by intro ps z; cases z⟩
    · exact ⟨_, h2, by intro ps z; cases z⟩
theorem SlOk.mono {G : Gm} {F H F' H' : Hp} {v : Option V} {s : Sl} (h : SlOk G F H v s) (hs : Sub F F') (hn : ∀ p, s.mine = true → v = some (.ref p) → F' p = none ∧ ∀ o, H p = some o → (∀ ps, o ≠ .tbl ps) → H' p = some o) : SlOk G F' H' v s := by
  cases s with
  | no => trivial
  | vl d => obtain ⟨x, e, q⟩ := h; exact ⟨x, e, q.mono hs⟩
  | fr d => obtain ⟨p, vs, e, q1, q2⟩ := h; exact ⟨p, vs, e, hs.l q1, q2.mono hs⟩
  | ow ds => obtain ⟨p, e, q⟩ := h; exact ⟨p, e, q.mono hs (hn p rfl e).1 (hn p rfl e).2⟩
  | io ds => obtain ⟨e, q⟩ := h; exact ⟨e, q.mono hs (hn _ rfl e).1 (hn _ rfl e).2⟩
  | od ds => obtain ⟨p, e, q⟩ := h; exact ⟨p, e, q.mono hs (hn p rfl e).1 (hn p rfl e).2⟩
theorem Rel.none_of {G : Gm} {F H : Hp} {σ : St} {r : En} (h : Rel G F H σ r) {a : Addr} (e : H a = none) : F a = none := by
  cases q : F a with
  | none => rfl
  | some u => rw [h.sub a u q] at e; cases e
theorem Rel.own {G : Gm} {F H : Hp} {σ : St} {r : En} (h : Rel G F H σ r) {a : Addr} (e : oA σ r a) : F a = none ∧ ∃ o, H a = some o ∧ (∀ ps, o ≠ .tbl ps) := by
  obtain ⟨i, s, e1, m, e2⟩ := e
  exact (h.slot i s _ e1 e2).own m rfl
/-- through what changes no own list -/
theorem Rel.ext {G : Gm} {F H F' H' : Hp} {σ : St} {r : En} (h : Rel G F H σ r) (e : Ext F H F' H') : Rel G F' H' σ r := by
  refine ⟨e.sub h.sub, fun a ps q => h.ntb a ps (e.ntb a ps q), e.tabs _ h.tabs, h.len, fun i s v e1 e2 => ?_, h.apart⟩
  refine (h.slot i s v e1 e2).mono e.go.sub fun p m ev => ?_
  obtain ⟨n1, o, n2, n3⟩ := (h.slot i s v e1 e2).own m ev
  refine ⟨?_, fun o' q1 q2 => e.go.keep p o' q1 (fun z => z) q2⟩
  cases q : F' p with
  | none => rfl
  | some u =>
    rcases e.go.new p u q with z | z | z
    · rw [n1] at z; cases z
    · rw [n2] at z; cases z
    · exact z.elim
theorem Ext.goO {F H F' H' : Hp} (e : Ext F H F' H') {O O' : Addr → Prop} (h : ∀ a, O' a → O a) : Go F H O F' H' O' := e.go.wide (fun _ z => z.elim) fun a z => .inl (h a z)
end DL
set_option maxHeartbeats 4000000
/-! DLb: the readings: a run to data, f, stands for what an expression, a statement does. -/
namespace DL
open PySem L2

def XOk (G : Gm) (F H : Hp) (c : Nat) (d : Option D) (cls : Value) (dd : Option Addr) : Prop :=
  ∃ fld, G.exc c = some (cls, fld) ∧ ((fld = none ∧ d = none) ∨ ∃ f x v p, fld = some f ∧ d = some x ∧ dd = some p ∧ H p = some (.xd [(f, v)]) ∧ Rp G F v x)
section
variable {G : Gm} {W : WX} {α β γ δ ε ζ : Type} {rel : Hp → β → α → Prop} {rel1 : Hp → δ → γ → Prop} {F H F1 H1 : Hp} {σ : L2.St} {r r1 : En} {Q Q' : β → Hp → Prop}
def Pt (G : Gm) (W : WX) (rel : Hp → β → α → Prop) (x : R α) (F H : Hp) (σ : L2.St) (r : En) (Q : β → Hp → Prop) : Prop := match x with
  | .ok a r' => ∀ F' H' b, Go F H (oA σ r) F' H' (oA σ r') → Rel G F' H' σ r' → rel F' b a → Q b H'
  | .ex c d r' => ∀ F' H' cls dd, Go F H (oA σ r) F' H' (oA σ r') → Rel G F' H' σ r' → XOk G F' H' c d cls dd → W cls dd σ H'
  | .st => False
def Ps (G : Gm) (W : WX) (rel : Hp → β → α → Prop) (f : En → R α) : L2.St → Hp → (β → Hp → Prop) → Prop := fun σ H Q => ∃ F r, Rel G F H σ r ∧ Pt G W rel (f r) F H σ r Q
theorem Pt.mono {x : R α} (h : Pt G W rel x F H σ r Q) (k : ∀ b H', Q b H' → Q' b H') : Pt G W rel x F H σ r Q' := by
  cases x with
  | ok a r' => exact fun F' H' b g e q => k _ _ (h F' H' b g e q)
  | ex c d r' => exact h
  | st => exact h
theorem Pt.from {x : R α} (g : Go F H (oA σ r) F1 H1 (oA σ r1)) (h : Pt G W rel x F H σ r Q) : Pt G W rel x F1 H1 σ r1 Q := by
  cases x with
  | ok a r' => exact fun F' H' b g' e q => h F' H' b (g.trans g') e q
  | ex c d r' => exact fun F' H' cls dd g' e q => h F' H' cls dd (g.trans g') e q
  | st => exact h
theorem Pt.bind {x : R γ} {k : γ → En → R α} (h : Pt G W rel (x.bind k) F H σ r Q) :
    Pt G W rel1 x F H σ r (fun b H1 => ∃ a F1 r1, Sub F F1 ∧ Rel G F1 H1 σ r1 ∧ rel1 F1 b a ∧ Pt G W rel (k a r1) F1 H1 σ r1 Q) := by
  cases x with
  | ok a r' => exact fun F' H' b g e q => ⟨a, F', r', g.sub, e, q, Pt.from g h⟩
  | ex c d r' => exact h
  | st => exact h
theorem Ps.mono {f : En → R α} (h : Ps G W rel f σ H Q) (k : ∀ b H', Q b H' → Q' b H') : Ps G W rel f σ H Q' := by
  obtain ⟨F, r, e, p⟩ := h
  exact ⟨F, r, e, p.mono k⟩
/-- the value is at hand -/
theorem Pt.here {a : α} {b : β} {F2 H2 : Hp} (h : Pt G W rel (.ok a r) F H σ r Q) (e : Rel G F H σ r) (x : Ext F H F2 H2) (q : rel F2 b a) : Q b H2 :=
  h F2 H2 b (x.goO fun _ z => z) (e.ext x) q
end

abbrev rV (G : Gm) : Hp → V → D → Prop := fun F v d => Rp G F v d
abbrev rB : Hp → Bool → Bool → Prop := fun _ b c => b = c
abbrev rL (G : Gm) : Hp → List V → List D → Prop := fun F vs ds => RpL G F vs ds
abbrev TEo (G : Gm) (W : WX) (f : En → R D) : TE := Ps G W (rV G) f
abbrev TTo (G : Gm) (W : WX) (f : En → R Bool) : TT := Ps G W rB f
abbrev TAo (G : Gm) (W : WX) (f : En → R (List D)) : TA := Ps G W (rL G) f
/-- a value that may be one's own -/
def TXo (G : Gm) (W : WX) (f : En → R Sl) : TE := fun σ H Q => ∃ F r, Rel G F H σ r ∧ match f r with
  | .ok s r' => ∀ F' H' v, Go F H (oA σ r) F' H' (oA (σ ++ [some v]) (r' ++ [s])) → Rel G F' H' (σ ++ [some v]) (r' ++ [s]) → Q v H'
  | .ex c d r' => ∀ F' H' cls dd, Go F H (oA σ r) F' H' (oA σ r') → Rel G F' H' σ r' → XOk G F' H' c d cls dd → W cls dd σ H'
  | .st => False

theorem pe_of {X : Cx} {e : Expr} {t t' : TE} (h : PE X e t) (k : ∀ σ H Q, t' σ H Q → t σ H Q) : PE X e t' := ⟨fun pins s σ H Q I q => h.run pins s σ H Q I (k σ H Q q)⟩
theorem pt_of {X : Cx} {e : Expr} {t t' : TT} (h : PT X e t) (k : ∀ σ H Q, t' σ H Q → t σ H Q) : PT X e t' := ⟨fun pins s σ H Q I q => h.run pins s σ H Q I (k σ H Q q)⟩
theorem pw_of {X : Cx} {e : Expr} {t t' : TT} (h : PW X e t) (k : ∀ σ H Q, t' σ H Q → t σ H Q) : PW X e t' := ⟨fun w pins s σ H Q I q => h.run w pins s σ H Q I (k σ H Q q)⟩
theorem pa_of {X : Cx} {es : List Expr} {t t' : TA} (h : PA X es t) (k : ∀ σ H Q, t' σ H Q → t σ H Q) : PA X es t' := ⟨fun pos pins s σ H Q I q => h.run pos pins s σ H Q I (k σ H Q q)⟩
theorem ps_of {X : Cx} {e : Stmt} {t t' : TS} (h : PS X e t) (k : ∀ D σ H, t' D σ H → t D σ H) : PS X e t' := ⟨fun pins s σ H D I q => h.run pins s σ H D I (k D σ H q)⟩
theorem pss_of {X : Cx} {e : List Stmt} {t t' : TS} (h : PSs X e t) (k : ∀ D σ H, t' D σ H → t D σ H) : PSs X e t' := ⟨fun pins s σ H D I q => h.run pins s σ H D I (k D σ H q)⟩

/-! ### names, constants -/
def eC (d : D) : En → R D := fun r => .ok d r
/-- a name that holds frozen data -/
def eV (i : Nat) : En → R D := fun r => match r[i]? with
  | some (.vl d) => .ok d r
  | _ => .st
section
variable {X : Cx} {G : Gm} {W : WX}
theorem de_int {i : Int} {j pos} : PE X (.Constant (.int i) j pos) (TEo G W (eC (.int i))) := pe_of pe_int fun _ _ _ ⟨_, _, e, p⟩ => Pt.here p e (Ext.refl _ _) (.int i)
theorem de_bl {i : Bool} {j pos} : PE X (.Constant (.bool i) j pos) (TEo G W (eC (.bool i))) := pe_of pe_bl fun _ _ _ ⟨_, _, e, p⟩ => Pt.here p e (Ext.refl _ _) (.bl i)
theorem de_str {i : Str} {j pos} : PE X (.Constant (.str i) j pos) (TEo G W (eC (.str i))) := pe_of pe_str fun _ _ _ ⟨_, _, e, p⟩ => Pt.here p e (Ext.refl _ _) (.str i)
theorem de_non {j pos} : PE X (.Constant .none j pos) (TEo G W (eC .none)) := pe_of pe_non fun _ _ _ ⟨_, _, e, p⟩ => Pt.here p e (Ext.refl _ _) .non
theorem de_var (i : Nat) {x : Str} {pos : Pos} (hN : X.N[i]? = some x := by rfl) (hv : Vis X.env.scope x := by first | exact Or.inl rfl | exact Or.inr (Or.inl rfl) | exact Or.inr (Or.inr rfl)) (hd : (x == ("__debug__" : Str)) = false := by decide)
    (hcd : (x == ("__classdict__" : Str)) = false := by decide) : PE X (.Name x pos) (TEo G W (eV i)) :=
  pe_of (pe_var hN hv hd hcd) fun σ H Q ⟨F, r, e, p⟩ => by
    unfold eV at p
    split at p
    · rename_i d hr
      obtain ⟨v, e1, x, e2, q⟩ := e.at hr
      subst e2
      exact ⟨x, e1, Pt.here p e (Ext.refl _ _) q⟩
    · exact p.elim
/-- a module's constant -/
theorem de_glob {x : Str} {u : Value} {v : V} {d : D} {pos : Pos} (hg : Gl X x) (hm : X.mg x = some u) (rr : RelV v u) (hd : ∀ F, Rp G F v d) (hdb : (x == ("__debug__" : Str)) = false := by decide) : PE X (.Name x pos) (TEo G W (eC d)) :=
  pe_of (pe_glob hg hm rr hdb) fun _ _ _ ⟨F, _, e, p⟩ => Pt.here p e (Ext.refl _ _) (hd F)

/-! ### two operands, one operand -/
def liftO (o : Option D) (r : En) : R D := match o with
  | some d => .ok d r
  | none => .st
def eOp (o : D → D → Option D) (f g : En → R D) : En → R D := fun r => (f r).bind fun x r1 => (g r1).bind fun y r2 => liftO (o x y) r2
def eUn (o : D → Option D) (f : En → R D) : En → R D := fun r => (f r).bind fun x r1 => liftO (o x) r1
/-- what an operation by values makes of data -/
def OpD (G : Gm) (r : R2) (o : D → D → Option D) : Prop := ∀ (x y d : D) (F H : Hp) (v w : V) (Q : VK), o x y = some d → Sub F H → Rp G F v x → Rp G F w y → (∀ F' H' z, Ext F H F' H' → Rp G F' z d → Q z H') → r v w H Q
def UnD (G : Gm) (r : V → Hp → VK → Prop) (o : D → Option D) : Prop := ∀ (x d : D) (F H : Hp) (v : V) (Q : VK), o x = some d → Sub F H → Rp G F v x → (∀ F' H' z, Ext F H F' H' → Rp G F' z d → Q z H') → r v H Q
theorem liftO_here {o : Option D} {F H : Hp} {σ : L2.St} {r : En} {Q : VK} (e : Rel G F H σ r) (p : Pt G W (rV G) (liftO o r) F H σ r Q) : ∃ d, o = some d ∧ ∀ F' H' z, Ext F H F' H' → Rp G F' z d → Q z H' := by
  cases o with
  | none => exact p.elim
  | some d => exact ⟨d, rfl, fun F' H' z x q => Pt.here p e x q⟩
theorem tOp_of {r : R2} {o : D → D → Option D} {f g : En → R D} (hd : OpD G r o) (σ : L2.St) (H : Hp) (Q : VK) : TEo G W (eOp o f g) σ H Q → tOp r (TEo G W f) (TEo G W g) σ H Q := fun ⟨F, r0, e, p⟩ =>
  ⟨F, r0, e, (Pt.bind (rel1 := rV G) p).mono fun v H1 ⟨x, F1, r1, _, e1, q1, p1⟩ => ⟨F1, r1, e1, (Pt.bind (rel1 := rV G) p1).mono fun w H2 ⟨y, F2, r2, s2, e2, q2, p2⟩ => by
    obtain ⟨d, hd', k⟩ := liftO_here e2 p2
    exact hd x y d F2 H2 v w Q hd' e2.sub (q1.mono s2) q2 k⟩⟩
theorem tUn_of {r : V → Hp → VK → Prop} {o : D → Option D} {f : En → R D} (hd : UnD G r o) (σ : L2.St) (H : Hp) (Q : VK) : TEo G W (eUn o f) σ H Q → tUn r (TEo G W f) σ H Q := fun ⟨F, r0, e, p⟩ =>
  ⟨F, r0, e, (Pt.bind (rel1 := rV G) p).mono fun v H1 ⟨x, F1, r1, _, e1, q1, p1⟩ => by
    obtain ⟨d, hd', k⟩ := liftO_here e1 p1
    exact hd x d F1 H1 v Q hd' e1.sub q1 k⟩
variable {a b c : Expr} {pos : Pos} {f g h : En → R D} {ft gt : En → R Bool}
theorem de_op {op : Operator} {r : R2} {o : D → D → Option D} (ho : OpR X (binaryOp op) r) (hd : OpD G r o) (ha : PE X a (TEo G W f)) (hb : PE X b (TEo G W g)) : PE X (.BinOp a op b pos) (TEo G W (eOp o f g)) :=
  pe_of (pe_op ho ha hb) (tOp_of hd)
theorem de_un {op : UnaryOp} {r : V → Hp → VK → Prop} {o : D → Option D} (ho : UnR X (unaryOp op) r) (hd : UnD G r o) (ha : PE X a (TEo G W f)) : PE X (.UnaryOp op a pos) (TEo G W (eUn o f)) :=
  pe_of (pe_un ho ha) (tUn_of hd)
theorem de_cmp {op : CmpOp} {r : R2} {o : D → D → Option D} (ho : OpR X (compareOp op) r) (hd : OpD G r o) (ha : PE X a (TEo G W f)) (hb : PE X b (TEo G W g)) (hm : behindInMarks op b = false := by rfl) : PE X (.Compare a [op] [b] pos) (TEo G W (eOp o f g)) :=
  pe_of (pe_cmpR ho ha hb hm) (tOp_of hd)
theorem de_ix {r : R2} {o : D → D → Option D} (ho : IxR X r) (hd : OpD G r o) (ha : PE X a (TEo G W f)) (hb : PE X b (TEo G W g)) (hs : PlainIx b := by exact fun _ _ => rfl) : PE X (.Subscript a b pos) (TEo G W (eOp o f g)) :=
  pe_of (pe_ix ho ha hb hs) (tOp_of hd)

/-! ### tests -/
/-- True or False -/
def tB1 (f : En → R D) : En → R Bool := fun r => (f r).bind fun x r1 => match x with
  | .bool k => .ok k r1
  | _ => .st
theorem tB_of (σ : L2.St) (H : Hp) (Q : Bool → Hp → Prop) : TTo G W (tB1 f) σ H Q → tB (TEo G W f) σ H Q := fun ⟨F, r0, e, p⟩ =>
  ⟨F, r0, e, (Pt.bind (rel1 := rV G) p).mono fun v H1 ⟨x, F1, r1, _, e1, q1, p1⟩ => by
    cases q1 with
    | bl k => exact ⟨k, rfl, Pt.here p1 e1 (Ext.refl _ _) rfl⟩
    | _ => exact p1.elim⟩
theorem dt_val (ha : PE X a (TEo G W f)) (he : ∀ whole, isTrue a X.env whole = (do let v ← whole; standAt a.pos; holding [v] (truthy v)) := by intro _; rfl) : PT X a (TTo G W (tB1 f)) :=
  pt_of (pt_val ha he) tB_of
/-- the truth of data -/
def truD : D → Option Bool
  | .none => some false
  | .bool _ => none
  | .int i => some (i != 0)
  | .str z => if z.length ≤ sizeLine then some (z.length != 0) else none
  | .list ds => some (!ds.isEmpty)
  | .tuple ds => some (!ds.isEmpty)
  | .dict _ => none
def tTru (f : En → R D) : En → R Bool := fun r => (f r).bind fun x r1 => match x with
  | .bool k => .ok k r1
  | x => match truD x with
    | some k => .ok k r1
    | none => .st
def tAnd1 (f g : En → R Bool) : En → R Bool := fun r => (f r).bind fun k r1 => if k = true then g r1 else .ok false r1
def tOr1 (f g : En → R Bool) : En → R Bool := fun r => (f r).bind fun k r1 => if k = true then .ok true r1 else g r1
def tNot1 (f : En → R Bool) : En → R Bool := fun r => (f r).bind fun k r1 => .ok (!k) r1
theorem dw_and1 (ha : PT X a (TTo G W ft)) : PW X (.BoolOp .And [a] pos) (TTo G W ft) := pw_and1 ha
theorem dw_or1 (ha : PT X a (TTo G W ft)) : PW X (.BoolOp .Or [a] pos) (TTo G W ft) := pw_or1 ha
theorem dw_and {rest : List Expr} (ha : PT X a (TTo G W ft)) (hb : PW X (.BoolOp .And (b :: rest) pos) (TTo G W gt)) : PW X (.BoolOp .And (a :: b :: rest) pos) (TTo G W (tAnd1 ft gt)) :=
  pw_of (pw_and ha hb) fun σ H Q ⟨F, r0, e, p⟩ => ⟨F, r0, e, (Pt.bind (rel1 := rB) p).mono fun k H1 ⟨k', F1, r1, _, e1, q1, p1⟩ => by
    have q1 : k = k' := q1
    subst q1
    cases k with
    | true => exact ⟨F1, r1, e1, p1⟩
    | false => exact Pt.here p1 e1 (Ext.refl _ _) rfl⟩
theorem dw_or {rest : List Expr} (ha : PT X a (TTo G W ft)) (hb : PW X (.BoolOp .Or (b :: rest) pos) (TTo G W gt)) : PW X (.BoolOp .Or (a :: b :: rest) pos) (TTo G W (tOr1 ft gt)) :=
  pw_of (pw_or ha hb) fun σ H Q ⟨F, r0, e, p⟩ => ⟨F, r0, e, (Pt.bind (rel1 := rB) p).mono fun k H1 ⟨k', F1, r1, _, e1, q1, p1⟩ => by
    have q1 : k = k' := q1
    subst q1
    cases k with
    | false => exact ⟨F1, r1, e1, p1⟩
    | true => exact Pt.here p1 e1 (Ext.refl _ _) rfl⟩
theorem dt_not (ha : PT X a (TTo G W ft)) : PT X (.UnaryOp .Not a pos) (TTo G W (tNot1 ft)) :=
  pt_of (pt_not ha) fun σ H Q ⟨F, r0, e, p⟩ => ⟨F, r0, e, (Pt.bind (rel1 := rB) p).mono fun k H1 ⟨k', F1, r1, _, e1, q1, p1⟩ => by
    have q1 : k = k' := q1
    subst q1
    exact Pt.here p1 e1 (Ext.refl _ _) rfl⟩
/-- and, or, not as values of truth values -/
def eAnd (f g : En → R D) : En → R D := fun r => (f r).bind fun x r1 => match x with
  | .bool true => g r1
  | .bool false => .ok (.bool false) r1
  | _ => .st
def eOr (f g : En → R D) : En → R D := fun r => (f r).bind fun x r1 => match x with
  | .bool true => .ok (.bool true) r1
  | .bool false => g r1
  | _ => .st
def eNot (f : En → R D) : En → R D := fun r => (f r).bind fun x r1 => match x with
  | .bool k => .ok (.bool (!k)) r1
  | _ => .st
theorem de_and {rest : List Expr} (ha : PE X a (TEo G W f)) (hb : PE X (.BoolOp .And (b :: rest) pos) (TEo G W g)) : PE X (.BoolOp .And (a :: b :: rest) pos) (TEo G W (eAnd f g)) :=
  pe_of (pe_and ha hb) fun σ H Q ⟨F, r0, e, p⟩ => ⟨F, r0, e, (Pt.bind (rel1 := rV G) p).mono fun v H1 ⟨x, F1, r1, _, e1, q1, p1⟩ => by
    cases q1 with
    | bl k =>
      cases k with
      | true => exact ⟨true, rfl, ⟨F1, r1, e1, p1⟩⟩
      | false => exact ⟨false, rfl, Pt.here p1 e1 (Ext.refl _ _) (.bl _)⟩
    | _ => exact p1.elim⟩
theorem de_or {rest : List Expr} (ha : PE X a (TEo G W f)) (hb : PE X (.BoolOp .Or (b :: rest) pos) (TEo G W g)) : PE X (.BoolOp .Or (a :: b :: rest) pos) (TEo G W (eOr f g)) :=
  pe_of (pe_or ha hb) fun σ H Q ⟨F, r0, e, p⟩ => ⟨F, r0, e, (Pt.bind (rel1 := rV G) p).mono fun v H1 ⟨x, F1, r1, _, e1, q1, p1⟩ => by
    cases q1 with
    | bl k =>
      cases k with
      | false => exact ⟨false, rfl, ⟨F1, r1, e1, p1⟩⟩
      | true => exact ⟨true, rfl, Pt.here p1 e1 (Ext.refl _ _) (.bl _)⟩
    | _ => exact p1.elim⟩
theorem de_one {op} (ha : PE X a (TEo G W f)) : PE X (.BoolOp op [a] pos) (TEo G W f) := pe_one ha
theorem de_not (ha : PE X a (TEo G W f)) : PE X (.UnaryOp .Not a pos) (TEo G W (eNot f)) :=
  pe_of (pe_not ha) fun σ H Q ⟨F, r0, e, p⟩ => ⟨F, r0, e, (Pt.bind (rel1 := rV G) p).mono fun v H1 ⟨x, F1, r1, _, e1, q1, p1⟩ => by
    cases q1 with
    | bl k => exact ⟨k, rfl, Pt.here p1 e1 (Ext.refl _ _) (.bl _)⟩
    | _ => exact p1.elim⟩
def eIf (c : En → R Bool) (f g : En → R D) : En → R D := fun r => (c r).bind fun k r1 => if k = true then f r1 else g r1
theorem de_if (hc : PT X c (TTo G W ft)) (ha : PE X a (TEo G W f)) (hb : PE X b (TEo G W g)) : PE X (.IfExp c a b pos) (TEo G W (eIf ft f g)) :=
  pe_of (pe_ifExp hc ha hb) fun σ H Q ⟨F, r0, e, p⟩ => ⟨F, r0, e, (Pt.bind (rel1 := rB) p).mono fun k H1 ⟨k', F1, r1, _, e1, q1, p1⟩ => by
    have q1 : k = k' := q1
    subst q1
    cases k with
    | true => exact ⟨F1, r1, e1, p1⟩
    | false => exact ⟨F1, r1, e1, p1⟩⟩
/-- a < b < c -/
def eChain (o o' : D → D → Option D) (f g h : En → R D) : En → R D := fun r => (f r).bind fun x r1 => (g r1).bind fun y r2 => match o x y with
  | some (.bool true) => (h r2).bind fun z r3 => liftO (o' y z) r3
  | some (.bool false) => .ok (.bool false) r2
  | _ => .st

/-! ### arguments -/
def aNil : En → R (List D) := fun r => .ok [] r
def aCons (f : En → R D) (g : En → R (List D)) : En → R (List D) := fun r => (f r).bind fun x r1 => (g r1).bind fun y r2 => .ok (x :: y) r2
theorem da_nil : PA X [] (TAo G W aNil) := pa_of pa_nil fun σ H Q ⟨F, r0, e, p⟩ => Pt.here p e (Ext.refl _ _) .nil
theorem da_cons {es : List Expr} {fs : En → R (List D)} (ha : PE X a (TEo G W f)) (hr : PA X es (TAo G W fs)) (hs : starEach (a :: es) X.env = (false, eval a X.env) :: starEach es X.env := by rfl) : PA X (a :: es) (TAo G W (aCons f fs)) :=
  pa_of (pa_cons ha hr hs) fun σ H Q ⟨F, r0, e, p⟩ => ⟨F, r0, e, (Pt.bind (rel1 := rV G) p).mono fun v H1 ⟨x, F1, r1, _, e1, q1, p1⟩ => ⟨F1, r1, e1, (Pt.bind (rel1 := rL G) p1).mono fun vs H2 ⟨y, F2, r2, s2, e2, q2, p2⟩ =>
    Pt.here p2 e2 (Ext.refl _ _) (.cons (q1.mono s2) q2)⟩⟩
def eTup (fs : En → R (List D)) : En → R D := fun r => (fs r).bind fun ds r1 => if ds.length ≤ 1000000 then .ok (.tuple ds) r1 else .st
theorem de_tup {es : List Expr} {fs : En → R (List D)} {x1} (h : PA X es (TAo G W fs)) : PE X (.Tuple es x1 pos) (TEo G W (eTup fs)) :=
  pe_of (pe_tup h) fun σ H Q ⟨F, r0, e, p⟩ => ⟨F, r0, e, (Pt.bind (rel1 := rL G) p).mono fun vs H1 ⟨ds, F1, r1, _, e1, q1, p1⟩ => by
    by_cases hz : ds.length ≤ 1000000
    · rw [if_pos hz] at p1
      refine ⟨Nat.le_trans (by rw [q1.len]; exact hz) (by decide), fun q hq => Pt.here p1 e1 (Ext.new e1.sub hq (by intro ps z; cases z)) (.tup (SqT.of upd_same) (q1.mono (sub_upd (e1.none_of hq))))⟩
    · rw [if_neg hz] at p1
      exact p1.elim⟩
/-- built-in functions -/
def CallD (G : Gm) (r : List V → Hp → VK → Prop) (o : List D → Option D) : Prop := ∀ (x : List D) (d : D) (F H : Hp) (v : List V) (Q : VK), o x = some d → Sub F H → RpL G F v x → (∀ F' H' z, Ext F H F' H' → Rp G F' z d → Q z H') → r v H Q
def eCB (o : List D → Option D) (fs : En → R (List D)) : En → R D := fun r => (fs r).bind fun x r1 => liftO (o x) r1
theorem tCB_of {r : List V → Hp → VK → Prop} {o : List D → Option D} {fs : En → R (List D)} (hd : CallD G r o) (σ : L2.St) (H : Hp) (Q : VK) : TEo G W (eCB o fs) σ H Q → tCB r (TAo G W fs) σ H Q := fun ⟨F, r0, e, p⟩ =>
  ⟨F, r0, e, (Pt.bind (rel1 := rL G) p).mono fun v H1 ⟨x, F1, r1, _, e1, q1, p1⟩ => by
    obtain ⟨d, hd', k⟩ := liftO_here e1 p1
    exact hd x d F1 H1 v Q hd' e1.sub q1 k⟩
theorem de_callB {id : String} {x : Str} {es : List Expr} {p : Pos} {r : List V → Hp → VK → Prop} {o : List D → Option D} {fs : En → R (List D)} (hc : CallR X (.builtin id) r) (hd : CallD G r o) (hm : X.mg x = none) (hv : bootBuiltins x = some (.builtin id)) (ha : PA X (a :: es) (TAo G W fs)) (hg : Gl X x := by rfl)
    (hn : x ≠ "__name__" := by decide) (hdb : (x == ("__debug__" : Str)) = false := by decide) (he : starEach (a :: es) X.env = (false, eval a X.env) :: starEach es X.env := by rfl) (hpl : (backTo pos (starEach es X.env)).any (·.1) = false := by rfl) :
    PE X (.Call (.Name x p) (a :: es) [] pos) (TEo G W (eCB o fs)) := pe_of (pe_callB hc hg hm hv ha hn hdb he hpl) (tCB_of hd)
theorem de_callTy {id : String} {x : Str} {es : List Expr} {p : Pos} {r : List V → Hp → VK → Prop} {o : List D → Option D} {fs : En → R (List D)} (hc : CallR X (.type id) r) (hd : CallD G r o) (hm : X.mg x = none) (hv : bootBuiltins x = some (.type id)) (ha : PA X (a :: es) (TAo G W fs)) (hg : Gl X x := by rfl)
    (hn : x ≠ "__name__" := by decide) (hdb : (x == ("__debug__" : Str)) = false := by decide) (he : starEach (a :: es) X.env = (false, eval a X.env) :: starEach es X.env := by rfl) (hpl : (backTo pos (starEach es X.env)).any (·.1) = false := by rfl) :
    PE X (.Call (.Name x p) (a :: es) [] pos) (TEo G W (eCB o fs)) := pe_of (pe_callTy hc hg hm hv ha hn hdb he hpl) (tCB_of hd)
end
end DL
set_option maxHeartbeats 4000000
/-! DLc: own values, statements, loops, comprehensions. -/
namespace DL
open PySem L2

/-! ### own values -/
section
variable {G : Gm} {W : WX} {F H F' H' : Hp} {σ : L2.St} {r : En}
theorem get_snoc {α : Type} {l : List α} {x : α} {i : Nat} (h : i < l.length) : (l ++ [x])[i]? = l[i]? := List.getElem?_append_left h
theorem get_last {α : Type} {l : List α} {x : α} : (l ++ [x])[l.length]? = some x := by simp
/-- one more name, one less -/
theorem Rel.init {v : V} {s : Sl} (h : Rel G F H (σ ++ [some v]) (r ++ [s])) : Rel G F H σ r := by
  have hl : σ.length = r.length := by have := h.len; simp at this; exact this
  refine ⟨h.sub, h.ntb, h.tabs, hl, fun i t w e1 e2 => ?_, fun i j s' t p e1 e2 m1 m2 e3 e4 => ?_⟩
  · have hi := (List.getElem?_eq_some_iff.mp e1).1
    exact h.slot i t w (by rw [get_snoc hi]; exact e1) (by rw [get_snoc (by rw [hl]; exact hi)]; exact e2)
  · have hi := (List.getElem?_eq_some_iff.mp e1).1
    have hj := (List.getElem?_eq_some_iff.mp e2).1
    exact h.apart i j s' t p (by rw [get_snoc hi]; exact e1) (by rw [get_snoc hj]; exact e2) m1 m2 (by rw [get_snoc (by rw [hl]; exact hi)]; exact e3) (by rw [get_snoc (by rw [hl]; exact hj)]; exact e4)
theorem Rel.last {v : V} {s : Sl} (h : Rel G F H (σ ++ [some v]) (r ++ [s])) : SlOk G F H (some v) s := by
  have hl : σ.length = r.length := by have := h.len; simp at this; exact this
  exact h.slot r.length s (some v) get_last (by rw [← hl]; exact get_last)
theorem own_init {v : V} {s : Sl} (hl : σ.length = r.length) : ∀ a, oA σ r a → oA (σ ++ [some v]) (r ++ [s]) a := fun a ⟨i, t, e1, m, e2⟩ => by
  have hi := (List.getElem?_eq_some_iff.mp e1).1
  exact ⟨i, t, by rw [get_snoc hi]; exact e1, m, by rw [get_snoc (by rw [hl]; exact hi)]; exact e2⟩
theorem own_snoc {v : V} {s : Sl} (hl : σ.length = r.length) {a : Addr} (h : oA (σ ++ [some v]) (r ++ [s]) a) : oA σ r a ∨ (s.mine = true ∧ v = .ref a) := by
  obtain ⟨i, t, e1, m, e2⟩ := h
  by_cases hi : i < r.length
  · rw [get_snoc hi] at e1
    rw [get_snoc (by rw [hl]; exact hi)] at e2
    exact .inl ⟨i, t, e1, m, e2⟩
  · have hi2 : i = r.length := by
      have := (List.getElem?_eq_some_iff.mp e1).1
      simp at this
      omega
    subst hi2
    rw [get_last] at e1
    cases e1
    rw [← hl, get_last] at e2
    cases e2
    exact .inr ⟨m, rfl⟩
/-- a new name -/
theorem Rel.snoc {v : V} {s : Sl} (h : Rel G F H σ r) (hs : SlOk G F H (some v) s) (hn : ∀ p, s.mine = true → v = .ref p → ¬ oA σ r p) : Rel G F H (σ ++ [some v]) (r ++ [s]) := by
  refine ⟨h.sub, h.ntb, h.tabs, by simp [h.len], fun i t w e1 e2 => ?_, fun i j s' t p e1 e2 m1 m2 e3 e4 => ?_⟩
  · by_cases hi : i < r.length
    · rw [get_snoc hi] at e1
      rw [get_snoc (by rw [h.len]; exact hi)] at e2
      exact h.slot i t w e1 e2
    · have hi2 : i = r.length := by
        have := (List.getElem?_eq_some_iff.mp e1).1
        simp at this
        omega
      subst hi2
      rw [get_last] at e1
      cases e1
      rw [← h.len, get_last] at e2
      cases e2
      exact hs
  · have bound : ∀ {k : Nat} {u : Sl}, (r ++ [s])[k]? = some u → k < r.length ∨ k = r.length := fun {k u} e => by
      have := (List.getElem?_eq_some_iff.mp e).1
      simp at this
      omega
    rcases bound e1 with hi | hi
    · rw [get_snoc hi] at e1
      rw [get_snoc (by rw [h.len]; exact hi)] at e3
      rcases bound e2 with hj | hj
      · rw [get_snoc hj] at e2
        rw [get_snoc (by rw [h.len]; exact hj)] at e4
        exact h.apart i j s' t p e1 e2 m1 m2 e3 e4
      · subst hj
        rw [get_last] at e2
        cases e2
        rw [← h.len, get_last] at e4
        cases e4
        exact absurd ⟨i, s', e1, m1, e3⟩ (hn p m2 rfl)
    · subst hi
      rw [get_last] at e1
      cases e1
      rw [← h.len, get_last] at e3
      cases e3
      rcases bound e2 with hj | hj
      · rw [get_snoc hj] at e2
        rw [get_snoc (by rw [h.len]; exact hj)] at e4
        exact absurd ⟨j, t, e2, m2, e4⟩ (hn p m1 rfl)
      · exact hj.symm
theorem Rel.val {v : V} {d : D} (h : Rel G F H σ r) (q : Rp G F v d) : Rel G F H (σ ++ [some v]) (r ++ [.vl d]) := h.snoc ⟨v, rfl, q⟩ fun p m => by cases m
theorem own_val {v : V} {d : D} (hl : σ.length = r.length) {a : Addr} (h : oA (σ ++ [some v]) (r ++ [.vl d]) a) : oA σ r a := by
  rcases own_snoc hl h with z | ⟨z, _⟩
  · exact z
  · cases z
/-- frozen, from now on -/
def fz : Sl → Option D
  | .vl d => some d
  | .ow ds => some (.list ds)
  | _ => none
def eF (f : En → R Sl) : En → R D := fun r => (f r).bind fun s r1 => liftO (fz s) r1
theorem frz_new {p : Addr} {o : HO} (hF : F p = none) (hp : H p = some o) (hs : Sub F H) : Sub (upd F p o) H := fun a u e => by
  by_cases hb : a = p
  · subst hb; rw [upd_same] at e; cases e; exact hp
  · rw [upd_ne hb] at e; exact hs a u e
/-- an own list that no name holds is frozen -/
theorem Rel.frz {v : V} {ds : List D} (h : Rel G F H (σ ++ [some v]) (r ++ [.ow ds])) : ∃ F', Sub F F' ∧ (∀ a o, F' a = some o → F a = some o ∨ v = .ref a) ∧ Rel G F' H σ r ∧ Rp G F' v (.list ds) := by
  obtain ⟨p, e, hF, vs, hp, hv⟩ := h.last
  cases e
  have hl : σ.length = r.length := by have := h.len; simp at this; exact this
  have s1 : Sub F (upd F p (.lst vs)) := sub_upd hF
  refine ⟨upd F p (.lst vs), s1, fun a o e => ?_, ?_, .lst upd_same (hv.mono s1)⟩
  · by_cases hb : a = p
    · subst hb; exact .inr rfl
    · rw [upd_ne hb] at e; exact .inl e
  · have h0 := h.init
    refine ⟨frz_new hF hp h.sub, fun a ps e => ?_, h.tabs, hl, fun i s w e1 e2 => ?_, h0.apart⟩
    · by_cases hb : a = p
      · subst hb; rw [upd_same] at e; cases e
      · rw [upd_ne hb] at e; exact h.ntb a ps e
    · refine (h0.slot i s w e1 e2).mono s1 fun q m ew => ⟨?_, fun o e _ => e⟩
      have ne : q ≠ p := by
        intro z
        subst z
        subst ew
        have hi := (List.getElem?_eq_some_iff.mp e1).1
        have z := h.apart i r.length s (.ow ds) q (by rw [get_snoc hi]; exact e1) get_last m rfl (by rw [get_snoc (by rw [hl]; exact hi)]; exact e2) (by rw [← hl]; exact get_last)
        omega
      rw [upd_ne ne]
      exact ((h0.slot i s w e1 e2).own m ew).1
theorem tF_of {f : En → R Sl} (σ : L2.St) (H : Hp) (Q : VK) : TEo G W (eF f) σ H Q → TXo G W f σ H Q := fun ⟨F, r0, e, p⟩ => by
  refine ⟨F, r0, e, ?_⟩
  unfold eF at p
  cases hf : f r0 with
  | st => rw [hf] at p; exact p
  | ex c d r' => rw [hf] at p; exact p
  | ok s r' =>
    rw [hf] at p
    intro F' H' v g e'
    have hl : σ.length = r'.length := by have := e'.len; simp at this; exact this
    have p : Pt G W (rV G) (liftO (fz s) r') F H σ r0 Q := p
    cases s with
    | no => exact p.elim
    | fr ds => exact p.elim
    | io ds => exact p.elim
    | od ds => exact p.elim
    | vl d =>
      obtain ⟨x, ex, q⟩ := e'.last
      cases ex
      refine p F' H' v (g.wide (fun _ z => z) fun x z => ?_) e'.init q
      exact g.own x (own_init hl x z)
    | ow ds =>
      obtain ⟨F2, s2, n2, e2, q2⟩ := e'.frz
      refine p F2 H' v ⟨g.sub.trans s2, fun a o ea => ?_, g.keep, fun x z => g.own x (own_init hl x z), g.there⟩ e2 q2
      rcases n2 a o ea with z | z
      · exact g.new a o z
      · subst z
        have hown : oA (σ ++ [some (.ref a)]) (r' ++ [.ow ds]) a := ⟨r'.length, .ow ds, get_last, rfl, by rw [← hl]; exact get_last⟩
        rcases g.own a hown with z | z
        · exact .inr (.inr z)
        · exact .inr (.inl z)
/-- an own value, used as frozen data -/
theorem de_frz {X : Cx} {e : Expr} {f : En → R Sl} (h : PE X e (TXo G W f)) : PE X e (TEo G W (eF f)) := pe_of h tF_of
def xV (f : En → R D) : En → R Sl := fun r => (f r).bind fun d r1 => .ok (.vl d) r1
theorem dx_val {X : Cx} {e : Expr} {f : En → R D} (h : PE X e (TEo G W f)) : PE X e (TXo G W (xV f)) := pe_of h fun σ H Q ⟨F, r0, e, p⟩ => by
  refine ⟨F, r0, e, ?_⟩
  unfold xV at p
  cases hf : f r0 with
  | st => rw [hf] at p; exact p.elim
  | ex c d r' => rw [hf] at p; exact p
  | ok d r' =>
    rw [hf] at p
    exact fun F' H' v g e' q => p F' H' v (g.wide (fun _ z => z) fun x z => g.own x (own_val e'.len z)) (e'.val q)
/-- a new list from the arguments -/
theorem Rel.newL {p : Addr} {vs : List V} {ds : List D} (h : Rel G F H σ r) (hp : H p = none) (q : RpL G F vs ds) : Go F H (oA σ r) F (upd H p (.lst vs)) (oA (σ ++ [some (.ref p)]) (r ++ [.ow ds])) ∧ Rel G F (upd H p (.lst vs)) (σ ++ [some (.ref p)]) (r ++ [.ow ds]) := by
  have x := Ext.made (o := .lst vs) hp h.sub
  refine ⟨x.go.wide (fun _ z => z.elim) fun a z => ?_, (h.ext x).snoc ⟨p, rfl, h.none_of hp, vs, upd_same, q⟩ fun a _ e z => ?_⟩
  · rcases own_snoc h.len z with z | ⟨_, z⟩
    · exact .inl z
    · cases z; exact .inr hp
  · cases e
    obtain ⟨_, o, e, _⟩ := h.own z
    rw [hp] at e; cases e
def xLst (fs : En → R (List D)) : En → R Sl := fun r => (fs r).bind fun ds r1 => if ds.length ≤ 1000000 then .ok (.ow ds) r1 else .st
/-- the end of an own value's reading: a new list -/
theorem tX_new {vs : List V} {ds : List D} {F1 H1 : Hp} {r1 : En} {p : Addr} {Q : VK} (e1 : Rel G F1 H1 σ r1) (hp : H1 p = none) (q : RpL G F1 vs ds) (g : Go F H (oA σ r) F1 H1 (oA σ r1))
    (k : ∀ F' H' v, Go F H (oA σ r) F' H' (oA (σ ++ [some v]) (r1 ++ [Sl.ow ds])) → Rel G F' H' (σ ++ [some v]) (r1 ++ [Sl.ow ds]) → Q v H') : Q (.ref p) (upd H1 p (.lst vs)) := by
  obtain ⟨g2, e2⟩ := e1.newL hp q
  exact k _ _ _ (g.trans g2) e2
theorem dx_lst {X : Cx} {es : List Expr} {fs : En → R (List D)} {pos : Pos} (h : PA X es (TAo G W fs)) : PE X (.List es pos) (TXo G W (xLst fs)) :=
  pe_of (pe_lst h) fun σ H Q ⟨F, r0, e, p⟩ => by
    refine ⟨F, r0, e, ?_⟩
    unfold xLst at p
    cases hf : fs r0 with
    | st => rw [hf] at p; exact p.elim
    | ex c d r' => rw [hf] at p; exact p
    | ok ds r' =>
      rw [hf] at p
      intro F' H' vs g e' q
      by_cases hz : ds.length ≤ 1000000
      · have p : ∀ F' H' v, Go F H (oA σ r0) F' H' (oA (σ ++ [some v]) (r' ++ [Sl.ow ds])) → Rel G F' H' (σ ++ [some v]) (r' ++ [Sl.ow ds]) → Q v H' := by
          have p' := p
          simp only [R.bind] at p'
          rw [if_pos hz] at p'
          exact p'
        exact ⟨Nat.le_trans (by rw [q.len]; exact hz) (by decide), fun a ha => tX_new e' ha q g p⟩
      · simp only [R.bind] at p
        rw [if_neg hz] at p
        exact p.elim
end

/-! ### statements -/
section
variable {G : Gm} {W : WX} {F H F1 H1 : Hp} {σ σ1 : L2.St} {r r1 : En}
def Pf (G : Gm) (W : WX) (x : Fl) (F H : Hp) (σ : L2.St) (r : En) (E : Ends) : Prop := match x with
  | .nx r' => ∀ F' H' σ', Go F H (oA σ r) F' H' (oA σ' r') → Rel G F' H' σ' r' → E.nx σ' H'
  | .bk r' => ∀ F' H' σ', Go F H (oA σ r) F' H' (oA σ' r') → Rel G F' H' σ' r' → E.bk σ' H'
  | .ct r' => ∀ F' H' σ', Go F H (oA σ r) F' H' (oA σ' r') → Rel G F' H' σ' r' → E.ct σ' H'
  | .rt s r' => ∀ F' H' σ' v, Go F H (oA σ r) F' H' (oA (σ' ++ [some v]) (r' ++ [s])) → Rel G F' H' (σ' ++ [some v]) (r' ++ [s]) → E.rt v H'
  | .ex c d r' => ∀ F' H' σ' cls dd, Go F H (oA σ r) F' H' (oA σ' r') → Rel G F' H' σ' r' → XOk G F' H' c d cls dd → W cls dd σ' H'
  | .st => False
def TSo (G : Gm) (W : WX) (f : En → Fl) : TS := fun E σ H => ∃ F r, Rel G F H σ r ∧ Pf G W (f r) F H σ r E
theorem Pf.from {x : Fl} {E : Ends} (g : Go F H (oA σ r) F1 H1 (oA σ1 r1)) (h : Pf G W x F H σ r E) : Pf G W x F1 H1 σ1 r1 E := by
  cases x with
  | nx r' => exact fun F' H' σ' g' e => h F' H' σ' (g.trans g') e
  | bk r' => exact fun F' H' σ' g' e => h F' H' σ' (g.trans g') e
  | ct r' => exact fun F' H' σ' g' e => h F' H' σ' (g.trans g') e
  | rt s r' => exact fun F' H' σ' v g' e => h F' H' σ' v (g.trans g') e
  | ex c d r' => exact fun F' H' σ' cls dd g' e => h F' H' σ' cls dd (g.trans g') e
  | st => exact h
/-- the exception of an expression is a statement's -/
theorem Pt.exF {α β : Type} {rel : Hp → β → α → Prop} {c : Nat} {d : Option D} {r' : En} {E : Ends} {Q : β → Hp → Prop} (h : Pf G W (.ex c d r') F H σ r E) : Pt G W rel (.ex c d r') F H σ r Q := fun F' H' cls dd g e x => h F' H' σ cls dd g e x
/-- an expression ahead of what goes on -/
def rF {α : Type} (x : R α) (k : α → En → Fl) : Fl := match x with
  | .ok a r => k a r
  | .ex c d r => .ex c d r
  | .st => .st
theorem Pf.ofR {α β : Type} {rel : Hp → β → α → Prop} {x : R α} {k : α → En → Fl} {E : Ends} {Q : β → Hp → Prop} (h : Pf G W (rF x k) F H σ r E) (hk : ∀ a r1 F1 H1 b, Sub F F1 → Rel G F1 H1 σ r1 → rel F1 b a → Pf G W (k a r1) F1 H1 σ r1 E → Q b H1) : Pt G W rel x F H σ r Q := by
  cases x with
  | ok a r1 => exact fun F' H' b g e q => hk a r1 F' H' b g.sub e q (Pf.from g h)
  | ex c d r' => exact fun F' H' cls dd g e x => h F' H' σ cls dd g e x
  | st => exact h
def sSeq (f g : En → Fl) : En → Fl := fun r => match f r with
  | .nx r1 => g r1
  | o => o
def sNil : En → Fl := fun r => .nx r
theorem ds_nil {X : Cx} : PSs X [] (TSo G W sNil) := pss_of pss_nil fun E σ H ⟨F, r, e, p⟩ => p F H σ (Go.refl fun _ z => z) e
theorem ds_seq {X : Cx} {st : Stmt} {rest : List Stmt} {f g : En → Fl} (h1 : PS X st (TSo G W f)) (h2 : PSs X rest (TSo G W g)) : PSs X (st :: rest) (TSo G W (sSeq f g)) :=
  pss_of (pss_cons h1 h2) fun E σ H ⟨F, r, e, p⟩ => by
    refine ⟨F, r, e, ?_⟩
    unfold sSeq at p
    cases hf : f r with
    | nx r1 => rw [hf] at p; exact fun F' H' σ' g' e' => ⟨F', r1, e', Pf.from g' p⟩
    | bk r1 => rw [hf] at p; exact p
    | ct r1 => rw [hf] at p; exact p
    | rt s r1 => rw [hf] at p; exact p
    | ex c d r1 => rw [hf] at p; exact p
    | st => rw [hf] at p; exact p
theorem ds_one {X : Cx} {st : Stmt} {f : En → Fl} (h1 : PS X st (TSo G W f)) : PSs X [st] (TSo G W f) := pss_one h1
theorem ds_pass {X : Cx} {pos : Pos} : PS X (.Pass pos) (TSo G W sNil) := ps_of ps_pass fun E σ H ⟨F, r, e, p⟩ => p F H σ (Go.refl fun _ z => z) e
def sBrk : En → Fl := fun r => .bk r
theorem ds_brk {X : Cx} {pos : Pos} : PS X (.Break pos) (TSo G W sBrk) := ps_of ps_break fun E σ H ⟨F, r, e, p⟩ => p F H σ (Go.refl fun _ z => z) e
/-- a statement that is never reached -/
def sSt : En → Fl := fun _ => .st
theorem ds_never {X : Cx} {st : Stmt} : PS X st (TSo G W sSt) := ps_of ps_never fun E σ H ⟨F, r, e, p⟩ => p
def sIf (c : En → R Bool) (f g : En → Fl) : En → Fl := fun r => rF (c r) fun k r1 => if k = true then f r1 else g r1
theorem ds_if {X : Cx} {c : Expr} {a b : List Stmt} {fc : En → R Bool} {f g : En → Fl} {pos : Pos} (hc : PT X c (TTo G W fc)) (ha : PSs X a (TSo G W f)) (hb : PSs X b (TSo G W g)) : PS X (.If c a b pos) (TSo G W (sIf fc f g)) :=
  ps_of (ps_if hc ha hb) fun E σ H ⟨F, r, e, p⟩ => ⟨F, r, e, Pf.ofR p fun a r1 F1 H1 b _ e1 q p1 => by
    have q : b = a := q
    subst q
    cases b with
    | true => exact ⟨F1, r1, e1, p1⟩
    | false => exact ⟨F1, r1, e1, p1⟩⟩
def sRet (f : En → R D) : En → Fl := fun r => rF (f r) fun d r1 => .rt (.vl d) r1
theorem ds_ret {X : Cx} {a : Expr} {f : En → R D} {pos : Pos} (ha : PE X a (TEo G W f)) : PS X (.Return (some a) pos) (TSo G W (sRet f)) :=
  ps_of (ps_ret ha) fun E σ H ⟨F, r, e, p⟩ => ⟨F, r, e, Pf.ofR p fun d r1 F1 H1 v _ e1 q p1 => p1 F1 H1 σ v (Go.refl fun a z => own_val e1.len z) (e1.val q)⟩
def sRetX (f : En → R Sl) : En → Fl := fun r => rF (f r) fun s r1 => .rt s r1
theorem ds_retX {X : Cx} {a : Expr} {f : En → R Sl} {pos : Pos} (ha : PE X a (TXo G W f)) : PS X (.Return (some a) pos) (TSo G W (sRetX f)) :=
  ps_of (ps_ret ha) fun E σ H ⟨F, r, e, p⟩ => by
    refine ⟨F, r, e, ?_⟩
    unfold sRetX rF at p
    cases hf : f r with
    | ok s r1 => rw [hf] at p; exact fun F' H' v g e' => p F' H' σ v g e'
    | ex c d r' => rw [hf] at p; exact fun F' H' cls dd g e x => p F' H' σ cls dd g e x
    | st => rw [hf] at p; exact p
def sRetN : En → Fl := fun r => .rt (.vl .none) r
theorem ds_retN {X : Cx} {pos : Pos} : PS X (.Return none pos) (TSo G W sRetN) :=
  ps_of ps_retN fun E σ H ⟨F, r, e, p⟩ => p F H σ .non (Go.refl fun a z => own_val e.len z) (e.val .non)
/-- the end of a block is None's return where nothing follows -/
def sDrop (f : En → R D) : En → Fl := fun r => rF (f r) fun _ r1 => .nx r1
theorem ds_expr {X : Cx} {a : Expr} {f : En → R D} {pos : Pos} (ha : PE X a (TEo G W f)) (hs : swapsWith a none pos.line X.env = pure false := by rfl) : PS X (.Expr a pos) (TSo G W (sDrop f)) :=
  ps_of (ps_expr ha hs) fun E σ H ⟨F, r, e, p⟩ => ⟨F, r, e, Pf.ofR p fun d r1 F1 H1 v _ e1 q p1 => p1 F1 H1 σ (Go.refl fun _ z => z) e1⟩

/-! ### stores -/
theorem get_set {α : Type} {l : List α} {i j : Nat} {x y : α} (h : (l.set i x)[j]? = some y) : (j = i ∧ y = x ∧ i < l.length) ∨ (j ≠ i ∧ l[j]? = some y) := by
  by_cases e : j = i
  · subst e
    by_cases hl : j < l.length
    · rw [List.getElem?_set_self hl] at h
      cases h
      exact .inl ⟨rfl, rfl, hl⟩
    · rw [List.getElem?_eq_none (by simpa using hl)] at h
      cases h
  · rw [List.getElem?_set_ne (Ne.symm e)] at h
    exact .inr ⟨e, h⟩
/-- a name gets what the last one holds -/
theorem Rel.store {i : Nat} {v : V} {s : Sl} (h : Rel G F H (σ ++ [some v]) (r ++ [s])) : Rel G F H (σ.set i (some v)) (r.set i s) := by
  have h0 := h.init
  refine ⟨h.sub, h.ntb, h.tabs, by simp [h0.len], fun j t w e1 e2 => ?_, fun j k s' t p e1 e2 m1 m2 e3 e4 => ?_⟩
  · rcases get_set e1 with ⟨a, b, c⟩ | ⟨a, b⟩
    · rcases get_set e2 with ⟨_, b2, _⟩ | ⟨a2, _⟩
      · subst b; subst b2; exact h.last
      · exact absurd a a2
    · rcases get_set e2 with ⟨a2, _, _⟩ | ⟨_, b2⟩
      · exact absurd a2 a
      · exact h0.slot j t w b b2
  · have hl := h0.len
    have at_last : ∀ {u : Sl} {m : Nat}, m = i → (r.set i s)[m]? = some u → (σ.set i (some v))[m]? = some (some (.ref p)) → u = s ∧ v = .ref p := fun {u m} hm e e' => by
      rcases get_set e with ⟨_, b, _⟩ | ⟨a, _⟩
      · rcases get_set e' with ⟨_, b', _⟩ | ⟨a', _⟩
        · cases b'; exact ⟨b, rfl⟩
        · exact absurd hm a'
      · exact absurd hm a
    have at_old : ∀ {u : Sl} {m : Nat}, m ≠ i → (r.set i s)[m]? = some u → (σ.set i (some v))[m]? = some (some (.ref p)) → r[m]? = some u ∧ σ[m]? = some (some (.ref p)) := fun {u m} hm e e' => by
      rcases get_set e with ⟨a, _, _⟩ | ⟨_, b⟩
      · exact absurd a hm
      · rcases get_set e' with ⟨a', _, _⟩ | ⟨_, b'⟩
        · exact absurd a' hm
        · exact ⟨b, b'⟩
    have cross : ∀ {u : Sl} {m : Nat}, m ≠ i → (r.set i s)[m]? = some u → u.mine = true → (σ.set i (some v))[m]? = some (some (.ref p)) → s.mine = true → v = .ref p → False := fun {u m} hm e mu e' ms ev => by
      obtain ⟨b, b'⟩ := at_old hm e e'
      have hi := (List.getElem?_eq_some_iff.mp b).1
      have z := h.apart m r.length u s p (by rw [get_snoc hi]; exact b) get_last mu ms (by rw [get_snoc (by rw [hl]; exact hi)]; exact b') (by rw [← hl, ev]; exact get_last)
      omega
    by_cases hj : j = i
    · by_cases hk : k = i
      · rw [hj, hk]
      · obtain ⟨u1, u2⟩ := at_last hj e1 e3
        subst u1
        exact (cross hk e2 m2 e4 m1 u2).elim
    · by_cases hk : k = i
      · obtain ⟨u1, u2⟩ := at_last hk e2 e4
        subst u1
        exact (cross hj e1 m1 e3 m2 u2).elim
      · obtain ⟨b1, c1⟩ := at_old hj e1 e3
        obtain ⟨b2, c2⟩ := at_old hk e2 e4
        exact h0.apart j k s' t p b1 b2 m1 m2 c1 c2
theorem own_store {i : Nat} {v : V} {s : Sl} (hl : σ.length = r.length) {a : Addr} (h : oA (σ.set i (some v)) (r.set i s) a) : oA (σ ++ [some v]) (r ++ [s]) a := by
  obtain ⟨j, t, e1, m, e2⟩ := h
  rcases get_set e1 with ⟨a1, b, c⟩ | ⟨a1, b⟩
  · rcases get_set e2 with ⟨_, b2, _⟩ | ⟨a2, _⟩
    · subst b; cases b2; exact ⟨r.length, t, get_last, m, by rw [← hl]; exact get_last⟩
    · exact absurd a1 a2
  · rcases get_set e2 with ⟨a2, _, _⟩ | ⟨_, b2⟩
    · exact absurd a2 a1
    · exact own_init hl a ⟨j, t, b, m, b2⟩
/-- a target: what the names hold behind it -/
def TGo (G : Gm) (ix : List Nat) (t : D → En → Option En) : TG := fun v σ H Q => ∃ F r d, Rel G F H σ r ∧ Rp G F v d ∧ ∃ r', t d r = some r' ∧ ∀ σ', Rel G F H σ' r' → (∀ a, oA σ' r' a → oA σ r a) → (σ'.length = σ.length ∧ ∀ j, j ∉ ix → σ'[j]? = σ[j]?) → Q σ' H
def TGso (G : Gm) (ix : List Nat) (t : List D → En → Option En) : TGs := fun vs σ H Q => ∃ F r ds, Rel G F H σ r ∧ RpL G F vs ds ∧ ∃ r', t ds r = some r' ∧ ∀ σ', Rel G F H σ' r' → (∀ a, oA σ' r' a → oA σ r a) → (σ'.length = σ.length ∧ ∀ j, j ∉ ix → σ'[j]? = σ[j]?) → Q σ' H
def gN (i : Nat) : D → En → Option En := fun d r => some (r.set i (.vl d))
def gsN : List D → En → Option En := fun ds r => match ds with
  | [] => some r
  | _ => none
def gsC (t : D → En → Option En) (u : List D → En → Option En) : List D → En → Option En := fun ds r => match ds with
  | d :: ds => (t d r).bind fun r1 => u ds r1
  | [] => none
def gT (n : Nat) (u : List D → En → Option En) : D → En → Option En := fun d r => match d with
  | .tuple ds => if ds.length = n then u ds r else none
  | _ => none
theorem pg_of {X : Cx} {e : Expr} {t t' : TG} (h : PG X e t) (k : ∀ v σ H Q, t' v σ H Q → t v σ H Q) : PG X e t' := ⟨fun pins s σ H v u Q I rr q => h.run pins s σ H v u Q I rr (k _ _ _ _ q)⟩
theorem pgs_of {X : Cx} {e : List Expr} {t t' : TGs} (h : PGs X e t) (k : ∀ v σ H Q, t' v σ H Q → t v σ H Q) : PGs X e t' := ⟨fun pins s σ H v u Q I rr q => h.run pins s σ H v u Q I rr (k _ _ _ _ q)⟩
theorem dg_name {X : Cx} {i : Nat} {x : Str} {pos : Pos} (hN : X.N.Nodup) (hi : X.N[i]? = some x := by rfl) (hx : Loc X.env.scope x := by first | exact Or.inl rfl | exact Or.inr rfl) (hf : X.fn x = true ∨ X.env.scope.names.lookup x = some .local := by first | exact .inl rfl | exact .inr rfl) : PG X (.Name x pos) (TGo G [i] (gN i)) :=
  pg_of (pg_name hN hi hx hf) fun v σ H Q ⟨F, r, d, e, q, r', h, k⟩ => by
    cases h
    exact k _ (e.val q).store (fun a z => own_val e.len (own_store e.len z)) ⟨List.length_set, fun j hj => List.getElem?_set_ne fun z => hj (by rw [← z]; exact List.mem_cons_self)⟩
theorem dgs_nil {X : Cx} : PGs X [] (TGso G [] gsN) := pgs_of pgs_nil fun vs σ H Q ⟨F, r, ds, e, q, r', h, k⟩ => by
  cases q with
  | nil => cases h; exact ⟨rfl, k σ e (fun _ z => z) ⟨rfl, fun _ _ => rfl⟩⟩
  | cons _ _ => cases h
theorem dgs_cons {X : Cx} {e : Expr} {es : List Expr} {i1 i2 : List Nat} {t : D → En → Option En} {u : List D → En → Option En} (h1 : PG X e (TGo G i1 t)) (h2 : PGs X es (TGso G i2 u)) (hs : (assignEach (e :: es) X.env).map (·.2) = assign e X.env :: (assignEach es X.env).map (·.2) := by rfl) : PGs X (e :: es) (TGso G (i1 ++ i2) (gsC t u)) :=
  pgs_of (pgs_cons h1 h2 hs) fun vs σ H Q ⟨F, r, ds, e, q, r', h, k⟩ => by
    cases q with
    | nil => cases h
    | @cons v vs d ds q1 q2 =>
      refine ⟨v, vs, rfl, F, r, d, e, q1, ?_⟩
      have h : (t d r).bind (fun r1 => u ds r1) = some r' := h
      cases ht : t d r with
      | none => rw [ht] at h; cases h
      | some r1 =>
        rw [ht] at h
        exact ⟨r1, rfl, fun σ1 e1 o1 w1 => ⟨F, r1, ds, e1, q2, r', h, fun σ2 e2 o2 w2 => k σ2 e2 (fun a z => o1 a (o2 a z)) ⟨w2.1.trans w1.1, fun j hj => (w2.2 j fun z => hj (List.mem_append_right _ z)).trans (w1.2 j fun z => hj (List.mem_append_left _ z))⟩⟩⟩
theorem dg_tup {X : Cx} {es : List Expr} {k : Nat} {pos : Pos} {n : Nat} {ix : List Nat} {u : List D → En → Option En} (hK : X.K = G.K) (hc : X.calm = true) (h : PGs X es (TGso G ix u)) (hn : (assignEach es X.env).length = n := by rfl) (hst : (assignEach es X.env).findIdx? (·.1) = none := by rfl) : PG X (.Tuple es k pos) (TGo G ix (gT n u)) :=
  pg_of (pg_tup hc h hn hst) fun v σ H Q ⟨F, r, d, e, q, r', hh, kk⟩ => by
    cases q with
    | @tup a xs ds hs hv =>
      have hh : (if ds.length = n then u ds r else none) = some r' := hh
      split at hh
      · rename_i hl
        exact ⟨a, xs, rfl, by rw [hK]; exact e.sub.t hs, by rw [hv.len]; exact hl, F, r, ds, e, hv, r', hh, kk⟩
      · cases hh
    | _ => cases hh
def sAsg (f : En → R D) (t : D → En → Option En) : En → Fl := fun r => rF (f r) fun d r1 => match t d r1 with
  | some r2 => .nx r2
  | none => .st
theorem Pf.asg {t : D → En → Option En} {E : Ends} {d : D} {v : V} (e1 : Rel G F H σ r) (q : Rp G F v d) {ix : List Nat} (p : Pf G W (match t d r with | some r2 => .nx r2 | none => .st) F H σ r E) : TGo G ix t v σ H E.nx := by
  refine ⟨F, r, d, e1, q, ?_⟩
  cases ht : t d r with
  | none => rw [ht] at p; exact p.elim
  | some r2 => rw [ht] at p; exact ⟨r2, rfl, fun σ' e' o _ => p F H σ' (Go.refl o) e'⟩
theorem ds_asg {X : Cx} {tg a : Expr} {f : En → R D} {ix : List Nat} {t : D → En → Option En} {pos : Pos} (ha : PE X a (TEo G W f)) (hg : PG X tg (TGo G ix t)) (hs : swapsWithSole [tg] a pos.line X.env = pure false := by rfl) (hw : swappedStores [tg] a X.env = pure none := by rfl)
    (h1 : (assignEach [tg] X.env).map (·.2) = [assign tg X.env] := by rfl) : PS X (.Assign [tg] a pos) (TSo G W (sAsg f t)) :=
  ps_of (ps_asg ha hg hs hw h1) fun E σ H ⟨F, r, e, p⟩ => ⟨F, r, e, Pf.ofR p fun d r1 F1 H1 v _ e1 q p1 => Pf.asg e1 q p1⟩
/-- name = an own value -/
def sAsgX (f : En → R Sl) (i : Nat) : En → Fl := fun r => rF (f r) fun s r1 => .nx (r1.set i s)
theorem tAsgX_of {i : Nat} {f : En → R Sl} (E : Ends) (σ : L2.St) (H : Hp) : TSo G W (sAsgX f i) E σ H → tAsg (TXo G W f) (gName i) E σ H := fun ⟨F, r, e, p⟩ => by
  refine ⟨F, r, e, ?_⟩
  unfold sAsgX rF at p
  cases hf : f r with
  | ok s r1 =>
    rw [hf] at p
    intro F' H' v g e'
    have hl : σ.length = r1.length := e'.init.len
    exact p F' H' _ (g.wide (fun _ z => z) fun x z => g.own x (own_store hl z)) e'.store
  | ex c d r' => rw [hf] at p; exact fun F' H' cls dd g e x => p F' H' σ cls dd g e x
  | st => rw [hf] at p; exact p
theorem ds_setX {X : Cx} {i : Nat} {x : Str} {a : Expr} {f : En → R Sl} {pos pos' : Pos} (hN : X.N.Nodup) (ha : PE X a (TXo G W f)) (hi : X.N[i]? = some x := by rfl) (hx : Loc X.env.scope x := by first | exact Or.inl rfl | exact Or.inr rfl) (hs : swapsWith a (some (.Name x pos')) pos.line X.env = pure false := by rfl)
    (hf : X.fn x = true ∨ X.env.scope.names.lookup x = some .local := by first | exact .inl rfl | exact .inr rfl) : PS X (.Assign [.Name x pos'] a pos) (TSo G W (sAsgX f i)) :=
  ps_of (ps_set hN hi hx ha hs hf) tAsgX_of
/-- name = data -/
def sSet (f : En → R D) (i : Nat) : En → Fl := fun r => rF (f r) fun d r1 => .nx (r1.set i (.vl d))
theorem tSet_of {i : Nat} {f : En → R D} (E : Ends) (σ : L2.St) (H : Hp) : TSo G W (sSet f i) E σ H → tAsg (TEo G W f) (gName i) E σ H := fun ⟨F, r, e, p⟩ =>
  ⟨F, r, e, Pf.ofR p fun d r1 F1 H1 v _ e1 q p1 => p1 F1 H1 _ (Go.refl fun a z => own_val e1.len (own_store e1.len z)) (e1.val q).store⟩
theorem ds_set {X : Cx} {i : Nat} {x : Str} {a : Expr} {f : En → R D} {pos pos' : Pos} (hN : X.N.Nodup) (ha : PE X a (TEo G W f)) (hi : X.N[i]? = some x := by rfl) (hx : Loc X.env.scope x := by first | exact Or.inl rfl | exact Or.inr rfl) (hs : swapsWith a (some (.Name x pos')) pos.line X.env = pure false := by rfl)
    (hf : X.fn x = true ∨ X.env.scope.names.lookup x = some .local := by first | exact .inl rfl | exact .inr rfl) : PS X (.Assign [.Name x pos'] a pos) (TSo G W (sSet f i)) :=
  ps_of (ps_set hN hi hx ha hs hf) tSet_of
end
end DL
set_option maxHeartbeats 4000000
/-! DLd: own lists read and changed; loops, comprehensions. -/
namespace DL
open PySem L2

/-- the list that a name holds, own or not -/
def Sl.items : Sl → Option (List D)
  | .ow ds => some ds
  | .io ds => some ds
  | .fr ds => some ds
  | .vl (.list ds) => some ds
  | _ => none
def Sl.mut : Sl → Option (List D)
  | .ow ds => some ds
  | .io ds => some ds
  | _ => none
def Sl.put (s : Sl) (ds : List D) : Sl := match s with
  | .ow _ => .ow ds
  | .io _ => .io ds
  | s => s
section
variable {G : Gm} {W : WX} {F H F1 H1 : Hp} {σ σ1 : L2.St} {r r1 : En}
theorem SlOk.items {v : Option V} {s : Sl} {ds : List D} (h : SlOk G F H v s) (hs : Sub F H) (e : s.items = some ds) : ∃ p vs, v = some (.ref p) ∧ SqL G.K H p vs ∧ RpL G F vs ds := by
  cases s with
  | no => cases e
  | od _ => cases e
  | ow es => cases e; obtain ⟨p, e1, _, vs, h1, h2⟩ := h; exact ⟨p, vs, e1, SqL.of h1, h2⟩
  | io es => cases e; obtain ⟨e1, _, vs, h1, h2⟩ := h; exact ⟨_, vs, e1, SqL.of h1, h2⟩
  | vl d =>
    cases d with
    | list es =>
      cases e
      obtain ⟨x, e1, q⟩ := h
      cases q with
      | lst h1 h2 => exact ⟨_, _, e1, SqL.of (hs _ _ h1), h2⟩
    | _ => cases e
  | fr es => cases e; obtain ⟨p, vs, e1, h1, h2⟩ := h; exact ⟨p, vs, e1, hs.l h1, h2⟩
theorem SlOk.mut {v : Option V} {s : Sl} {ds : List D} (h : SlOk G F H v s) (e : s.mut = some ds) : ∃ p vs, v = some (.ref p) ∧ F p = none ∧ H p = some (.lst vs) ∧ RpL G F vs ds ∧ s.mine = true := by
  cases s with
  | no => cases e
  | od _ => cases e
  | fr _ => cases e
  | vl _ => cases e
  | ow es => cases e; obtain ⟨p, e1, h0, vs, h1, h2⟩ := h; exact ⟨p, vs, e1, h0, h1, h2, rfl⟩
  | io es => cases e; obtain ⟨e1, h0, vs, h1, h2⟩ := h; exact ⟨_, vs, e1, h0, h1, h2, rfl⟩
/-- a list that a name holds is changed in place -/
theorem Rel.write {i : Nat} {s : Sl} {ds ds' : List D} {p : Addr} {vs' : List V} (h : Rel G F H σ r) (hi : r[i]? = some s) (hm : s.mut = some ds) (hp : σ[i]? = some (some (.ref p))) (q : RpL G F vs' ds') :
    Go F H (oA σ r) F (upd H p (.lst vs')) (oA σ (r.set i (s.put ds'))) ∧ Rel G F (upd H p (.lst vs')) σ (r.set i (s.put ds')) := by
  obtain ⟨p', vs, e1, hF, hH, hv, mine⟩ := (h.slot i s _ hi hp).mut hm
  cases e1
  have hil : i < r.length := (List.getElem?_eq_some_iff.mp hi).1
  have hmine : (s.put ds').mine = true := by cases s <;> first | rfl | cases hm
  have hown : oA σ r p := ⟨i, s, hi, mine, hp⟩
  have own' : ∀ a, oA σ (r.set i (s.put ds')) a → oA σ r a := fun a ⟨j, t, e1, m, e2⟩ => by
    rcases get_set e1 with ⟨a1, b, _⟩ | ⟨_, b⟩
    · subst a1; exact ⟨j, s, hi, mine, e2⟩
    · exact ⟨j, t, b, m, e2⟩
  refine ⟨⟨Sub.refl F, fun a o e => .inl e, fun a o e n _ => ?_, fun a e => .inl (own' a e), fun a e => ?_⟩, ?_⟩
  · rw [upd_ne (fun z => n (by subst z; exact hown))]
    exact e
  · by_cases hb : a = p
    · subst hb; rw [upd_same] at e; cases e
    · rw [upd_ne hb] at e; exact e
  · refine ⟨fun a u e => ?_, h.ntb, ?_, by simp [h.len], fun j t w e1 e2 => ?_, fun j k t u a e1 e2 m1 m2 e3 e4 => ?_⟩
    · rw [upd_ne (ne_of_none e hF)]
      exact h.sub a u e
    · intro c hc
      obtain ⟨ps, a1, a2, a3⟩ := h.tabs c hc
      have n1 : c.1 ≠ p := fun z => by rw [z, hH] at a1; cases a1
      refine ⟨ps, by rw [upd_ne n1]; exact a1, a2, fun pos cv hcv => ?_⟩
      obtain ⟨c0, b1, b2⟩ := a3 pos cv hcv
      have n2 : c0 ≠ p := fun z => by rw [z, hH] at b2; cases b2
      exact ⟨c0, b1, by rw [upd_ne n2]; exact b2⟩
    · rcases get_set e1 with ⟨a1, b, _⟩ | ⟨a1, b⟩
      · subst a1; subst b
        rw [hp] at e2; cases e2
        cases s with
        | no => cases hm
        | od _ => cases hm
        | fr _ => cases hm
        | vl _ => cases hm
        | ow es => exact ⟨p, rfl, hF, vs', upd_same, q⟩
        | io es =>
          obtain ⟨e5, _⟩ := h.slot j _ _ hi hp
          cases e5
          exact ⟨rfl, hF, vs', upd_same, q⟩
      · refine (h.slot j t w b e2).mono (Sub.refl F) fun a m ew => ⟨((h.slot j t w b e2).own m ew).1, fun o e _ => ?_⟩
        have ne : a ≠ p := fun z => a1 (by subst z; subst ew; exact h.apart j i t s a b hi m mine e2 hp)
        rw [upd_ne ne]
        exact e
    · have old : ∀ {m : Nat} {w : Sl}, (r.set i (s.put ds'))[m]? = some w → w.mine = true → ∃ w', r[m]? = some w' ∧ w'.mine = true := fun {m w} e mw => by
        rcases get_set e with ⟨a1, b, _⟩ | ⟨_, b⟩
        · subst a1; exact ⟨s, hi, mine⟩
        · exact ⟨w, b, mw⟩
      obtain ⟨t', b1, c1⟩ := old e1 m1
      obtain ⟨u', b2, c2⟩ := old e2 m2
      exact h.apart j k t' u' a b1 b2 c1 c2 e3 e4

/-! ### own lists read -/
/-- x[e], x a name that holds a list, own or not -/
def ixD (ds : List D) (y : D) : Option D := match y with
  | .int k => atI ds k
  | _ => none
def Sl.has : Option Sl → Bool
  | none => false
  | some .no => false
  | _ => true
theorem Rel.has {i : Nat} (h : Rel G F H σ r) (e : Sl.has r[i]? = true) : ∃ v, σ[i]? = some (some v) := by
  cases hs : r[i]? with
  | none => rw [hs] at e; cases e
  | some s =>
    obtain ⟨v, e1, q⟩ := h.at hs
    cases s with
    | no => rw [hs] at e; cases e
    | vl d => obtain ⟨x, e2, _⟩ := q; subst e2; exact ⟨x, e1⟩
    | fr d => obtain ⟨x, _, e2, _⟩ := q; subst e2; exact ⟨_, e1⟩
    | ow d => obtain ⟨x, e2, _⟩ := q; subst e2; exact ⟨_, e1⟩
    | od d => obtain ⟨x, e2, _⟩ := q; subst e2; exact ⟨_, e1⟩
    | io d => obtain ⟨e2, _⟩ := q; subst e2; exact ⟨_, e1⟩
def Sl.isM : Option Sl → Bool
  | some (.ow _) => true
  | some (.io _) => true
  | _ => false
theorem Rel.isM {i : Nat} (h : Rel G F H σ r) (e : Sl.isM r[i]? = true) : ∃ p vs, σ[i]? = some (some (.ref p)) ∧ H p = some (.lst vs) := by
  cases hs : r[i]? with
  | none => rw [hs] at e; cases e
  | some s =>
    obtain ⟨v, e1, q⟩ := h.at hs
    cases s with
    | ow d => obtain ⟨p, e2, _, vs, h1, _⟩ := q; subst e2; exact ⟨p, vs, e1, h1⟩
    | io d => obtain ⟨e2, _, vs, h1, _⟩ := q; subst e2; exact ⟨_, vs, e1, h1⟩
    | _ => rw [hs] at e; cases e
/-- what the name i holds behind g -/
def eIxO (i : Nat) (g : En → R D) : En → R D := fun r => if Sl.has r[i]? = true then (g r).bind fun y r1 => match r1[i]? with
  | some s => match s.items with
    | some ds => liftO (ixD ds y) r1
    | none => .st
  | none => .st
  else .st
theorem RpLI.atI {K : PySem.W.Frag} {fns : Nat → Option Addr} {F : Hp} {vs : List V} {ds : List D} {k : Int} {d : D} (h : RpLI K fns F vs ds) (e : atI ds k = some d) : ∃ v, atI vs k = some v ∧ RpI K fns F v d := by
  unfold L2.atI at e ⊢
  rw [h.len]
  cases hk : ixN ds.length k with
  | none => rw [hk] at e; cases e
  | some j =>
    rw [hk] at e
    exact h.get e
variable {X : Cx} {a b : Expr} {pos pos2 : Pos} {f g : En → R D}
theorem de_ixO {i : Nat} {x : Str} {p : Pos} (hK : X.K = G.K) (hb : PE X b (TEo G W g)) (hN : X.N[i]? = some x := by rfl) (hv : Vis X.env.scope x := by first | exact Or.inl rfl | exact Or.inr (Or.inl rfl) | exact Or.inr (Or.inr rfl)) (hs : PlainIx b := by exact fun _ _ => rfl)
    (hd : (x == ("__debug__" : Str)) = false := by decide) (hcd : (x == ("__classdict__" : Str)) = false := by decide) : PE X (.Subscript (.Name x p) b pos) (TEo G W (eIxO i g)) :=
  pe_of (pe_ix ix_list (pe_var hN hv hd hcd) hb hs) fun σ H Q ⟨F, r, e, q⟩ => by
    unfold eIxO at q
    by_cases hh : Sl.has r[i]? = true
    case neg => rw [if_neg hh] at q; exact q.elim
    rw [if_pos hh] at q
    obtain ⟨v, hv⟩ := e.has hh
    refine ⟨v, hv, F, r, e, (Pt.bind (rel1 := rV G) q).mono fun w H1 ⟨y, F1, r1, _, e1, q1, p1⟩ => ?_⟩
    cases hs : r1[i]? with
    | none => rw [hs] at p1; exact p1.elim
    | some s =>
      rw [hs] at p1
      cases hds : s.items with
      | none => simp only [hds] at p1; exact p1.elim
      | some ds =>
        simp only [hds] at p1
        obtain ⟨d, hd', k⟩ := liftO_here e1 p1
        obtain ⟨pa, vs, ev, h1, h2⟩ := (e1.slot i s _ hs hv).items e1.sub hds
        cases ev
        cases q1 with
        | int j =>
          obtain ⟨z, hz, qz⟩ := h2.atI hd'
          exact ⟨pa, vs, j, z, rfl, rfl, by rw [hK]; exact h1, hz, k _ _ _ (Ext.refl _ _) qz⟩
        | _ => cases hd'
/-- len(x) -/
def eLenO (i : Nat) : En → R D := fun r => match r[i]? with
  | some s => match s.items with
    | some ds => .ok (.int ds.length) r
    | none => .st
  | none => .st
theorem de_lenO {i : Nat} {x : Str} {p p2 : Pos} (hK : X.K = G.K) (hm : X.mg "len" = none) (hv0 : bootBuiltins "len" = some (.builtin "len")) (hN : X.N[i]? = some x := by rfl) (hv : Vis X.env.scope x := by first | exact Or.inl rfl | exact Or.inr (Or.inl rfl) | exact Or.inr (Or.inr rfl)) (hg : Gl X "len" := by rfl)
    (hd : (x == ("__debug__" : Str)) = false := by decide) (hcd : (x == ("__classdict__" : Str)) = false := by decide) : PE X (.Call (.Name "len" p2) [.Name x p] [] pos) (TEo G W (eLenO i)) :=
  pe_of (pe_callB call_len_seq hg hm hv0 (pa_cons (pe_var hN hv hd hcd) pa_nil)) fun σ H Q ⟨F, r, e, q⟩ => by
    unfold eLenO at q
    cases hs : r[i]? with
    | none => rw [hs] at q; exact q.elim
    | some s =>
      rw [hs] at q
      cases hds : s.items with
      | none => simp only [hds] at q; exact q.elim
      | some ds =>
        simp only [hds] at q
        obtain ⟨v, e1, ok⟩ := e.at hs
        obtain ⟨pa, vs, ev, h1, h2⟩ := ok.items e.sub hds
        subst ev
        refine ⟨_, e1, pa, vs, rfl, .inl (by rw [hK]; exact h1), ?_⟩
        rw [h2.len]
        exact Pt.here q e (Ext.refl _ _) (.int _)
/-- a name's value, frozen from now on -/
def eVF (i : Nat) : En → R D := fun r => match r[i]? with
  | some (.vl d) => .ok d r
  | some (.ow ds) => .ok (.list ds) (r.set i (.vl (.list ds)))
  | _ => .st
theorem set_id {α : Type} : ∀ {l : List α} {i : Nat} {x : α}, l[i]? = some x → l.set i x = l
  | [], _, _, h => by simp at h
  | a :: l, 0, x, h => by simp at h; subst h; rfl
  | a :: l, i + 1, x, h => by
    have := set_id (l := l) (i := i) (x := x) (by simpa using h)
    simp [this]
/-- a name's own value is handed on: the name is done with -/
theorem Rel.move {i : Nat} {s : Sl} {v : V} (h : Rel G F H σ r) (hi : r[i]? = some s) (hv : σ[i]? = some (some v)) : Rel G F H (σ ++ [some v]) (r.set i .no ++ [s]) ∧ ∀ a, oA (σ ++ [some v]) (r.set i .no ++ [s]) a → oA σ r a := by
  have h1 : Rel G F H σ (r.set i .no) := by
    refine ⟨h.sub, h.ntb, h.tabs, by simp [h.len], fun j t w e1 e2 => ?_, fun j k t u a e1 e2 m1 m2 e3 e4 => ?_⟩
    · rcases get_set e1 with ⟨_, b, _⟩ | ⟨_, b⟩
      · subst b; trivial
      · exact h.slot j t w b e2
    · rcases get_set e1 with ⟨_, b, _⟩ | ⟨_, b⟩
      · subst b; cases m1
      · rcases get_set e2 with ⟨_, b2, _⟩ | ⟨_, b2⟩
        · subst b2; cases m2
        · exact h.apart j k t u a b b2 m1 m2 e3 e4
  have sub : ∀ a, oA σ (r.set i .no) a → oA σ r a := fun a ⟨j, t, e1, m, e2⟩ => by
    rcases get_set e1 with ⟨_, b, _⟩ | ⟨_, b⟩
    · subst b; cases m
    · exact ⟨j, t, b, m, e2⟩
  refine ⟨h1.snoc (h.slot i s _ hi hv) fun p m ev z => ?_, fun a z => ?_⟩
  · obtain ⟨j, t, e1, m2, e2⟩ := z
    rcases get_set e1 with ⟨_, b, _⟩ | ⟨n, b⟩
    · subst b; cases m2
    · subst ev
      exact n (h.apart j i t s p b hi m2 m e2 hv)
  · rcases own_snoc (by rw [List.length_set]; exact h.len) z with z | ⟨m, ev⟩
    · exact sub a z
    · subst ev
      exact ⟨i, s, hi, m, hv⟩
theorem de_varF (i : Nat) {x : Str} {pos : Pos} (hN : X.N[i]? = some x := by rfl) (hv : Vis X.env.scope x := by first | exact Or.inl rfl | exact Or.inr (Or.inl rfl) | exact Or.inr (Or.inr rfl)) (hd : (x == ("__debug__" : Str)) = false := by decide)
    (hcd : (x == ("__classdict__" : Str)) = false := by decide) : PE X (.Name x pos) (TEo G W (eVF i)) :=
  pe_of (pe_var hN hv hd hcd) fun σ H Q ⟨F, r, e, p⟩ => by
    unfold eVF at p
    split at p
    · rename_i d hr
      obtain ⟨v, e1, x, e2, q⟩ := e.at hr
      subst e2
      exact ⟨x, e1, Pt.here p e (Ext.refl _ _) q⟩
    · rename_i ds hr
      obtain ⟨v, e1, ok⟩ := e.at hr
      have ok' := ok
      obtain ⟨pa, e2, _⟩ := ok'
      subst e2
      obtain ⟨m1, m2⟩ := e.move hr e1
      obtain ⟨F2, s2, n2, e3, q3⟩ := m1.frz
      refine ⟨_, e1, ?_⟩
      have e4 := (e3.val q3).store (i := i)
      rw [List.set_set] at e4
      rw [set_id e1] at e4
      have q5 : Rp G F2 (.ref pa) (.list ds) := q3
      refine p F2 H (.ref pa) ⟨s2, fun a o z => ?_, fun a o z _ _ => z, fun a z => .inl ?_, fun a z => z⟩ e4 q5
      · rcases n2 a o z with z | z
        · exact .inl z
        · cases z
          exact .inr (.inr ⟨i, .ow ds, hr, rfl, e1⟩)
      · obtain ⟨j, t, f1, m, f2⟩ := z
        rcases get_set f1 with ⟨_, b, _⟩ | ⟨_, b⟩
        · subst b; cases m
        · exact ⟨j, t, b, m, f2⟩
    · exact p.elim
def sRetV (i : Nat) : En → Fl := fun r => match r[i]? with
  | some .no => .st
  | some s => .rt s (r.set i .no)
  | none => .st
theorem ds_retV (i : Nat) {x : Str} {pos : Pos} (hN : X.N[i]? = some x := by rfl) (hv : Vis X.env.scope x := by first | exact Or.inl rfl | exact Or.inr (Or.inl rfl) | exact Or.inr (Or.inr rfl)) (hd : (x == ("__debug__" : Str)) = false := by decide)
    (hcd : (x == ("__classdict__" : Str)) = false := by decide) : PS X (.Return (some (.Name x pos)) pos2) (TSo G W (sRetV i)) :=
  ps_of (ps_ret (pe_var hN hv hd hcd)) fun E σ H ⟨F, r, e, p⟩ => by
    unfold sRetV at p
    split at p
    · exact p.elim
    · rename_i s hns hr
      have hh : Sl.has r[i]? = true := by rw [hr]; cases s <;> first | rfl | exact absurd rfl hns
      obtain ⟨v, e1⟩ := e.has hh
      obtain ⟨m1, m2⟩ := e.move hr e1
      exact ⟨v, e1, p F H σ v (Go.refl m2) m1⟩
    · exact p.elim

/-! ### own lists changed -/
def sApp (i : Nat) (f : En → R D) : En → Fl := fun r => if Sl.isM r[i]? = true then rF (f r) fun d r1 => match r1[i]? with
  | some s => match s.mut with
    | some ds => if ds.length < 1000000 then .nx (r1.set i (s.put (ds ++ [d]))) else .st
    | none => .st
  | none => .st
  else .st
theorem small6 {n : Nat} (h : n ≤ 1000000) : n ≤ sizeLine := Nat.le_trans h (by decide)
theorem small6' {n : Nat} (h : n < 1000000) : n < sizeLine := Nat.lt_of_lt_of_le h (by decide)
theorem ds_app {i : Nat} {x : Str} {p apos cpos ppos : Pos} (hK : X.K = G.K) (ha : PE X a (TEo G W f)) (hN : X.N[i]? = some x := by rfl) (hv : Vis X.env.scope x := by first | exact Or.inl rfl | exact Or.inr (Or.inl rfl) | exact Or.inr (Or.inr rfl))
    (hbase : attributeBase (.Name x p) "append" X.env (eval (.Name x p) X.env) = eval (.Name x p) X.env := by rfl)
    (hfew : ((backTo cpos (starEach [a] X.env)).all (fun x => !x.1) && (backToKw cpos (keywordEach [] X.env)).all (fun x => x.1.isSome)
      && decide ([a].length + ([] : List Keyword).length + (if ([] : List Keyword).isEmpty then 0 else 1) < 30)) = true := by rfl)
    (hline : (apos.endLine == cpos.line) = true := by rfl) (hs : starEach [a] X.env = (false, eval a X.env) :: starEach [] X.env := by rfl) (hplain : (backTo cpos (starEach [] X.env)).any (·.1) = false := by rfl)
    (hsw : swapsWith (.Call (.Attribute (.Name x p) "append" apos) [a] [] cpos) none ppos.line X.env = pure false := by rfl)
    (hd : (x == ("__debug__" : Str)) = false := by decide) (hcd : (x == ("__classdict__" : Str)) = false := by decide) : PS X (.Expr (.Call (.Attribute (.Name x p) "append" apos) [a] [] cpos) ppos) (TSo G W (sApp i f)) :=
  ps_of (ps_expr (pe_bm PySem.F.plainAttrs_list PySem.F.slot_list_append PySem.F.type_list_append mt_append (pe_var hN hv hd hcd) (pa_cons ha pa_nil hs) hbase hfew hline hs hplain) hsw) fun E σ H ⟨F, r, e, q⟩ => by
    unfold sApp at q
    by_cases hh : Sl.isM r[i]? = true
    case neg => rw [if_neg hh] at q; exact q.elim
    rw [if_pos hh] at q
    obtain ⟨pa, vs0, hv, hp0⟩ := e.isM hh
    refine ⟨_, hv, .inl ⟨rfl, _, SqL.of hp0⟩, F, r, e, ?_⟩
    refine Pf.ofR q fun d r1 F1 H1 w _ e1 q1 p1 => ?_
    cases hs : r1[i]? with
    | none => rw [hs] at p1; exact p1.elim
    | some s =>
      rw [hs] at p1
      cases hds : s.mut with
      | none => simp only [hds] at p1; exact p1.elim
      | some ds =>
        simp only [hds] at p1
        split at p1
        · rename_i hz
          obtain ⟨pa, vs, ev, h1, h2, h3, _⟩ := (e1.slot i s _ hs hv).mut hds
          cases ev
          obtain ⟨g, e2⟩ := e1.write hs hds hv (h3.append (.cons q1 .nil))
          exact ⟨pa, vs, w, rfl, rfl, h2, small6' (by rw [h3.len]; exact hz), p1 _ _ _ g e2⟩
        · exact p1.elim
/-- x.extend(e), e a new list -/
def sExt (i : Nat) (f : En → R Sl) : En → Fl := fun r => if Sl.isM r[i]? = true then rF (f r) fun s' r1 => match s' with
  | .ow es => match r1[i]? with
    | some s => match s.mut with
      | some ds => if ds.length + es.length ≤ 1000000 then .nx (r1.set i (s.put (ds ++ es))) else .st
      | none => .st
    | none => .st
  | _ => .st
  else .st
theorem ds_ext {i : Nat} {x : Str} {fx : En → R Sl} {p apos cpos ppos : Pos} (hK : X.K = G.K) (ha : PE X a (TXo G W fx)) (hN : X.N[i]? = some x := by rfl) (hv : Vis X.env.scope x := by first | exact Or.inl rfl | exact Or.inr (Or.inl rfl) | exact Or.inr (Or.inr rfl))
    (hbase : attributeBase (.Name x p) "extend" X.env (eval (.Name x p) X.env) = eval (.Name x p) X.env := by rfl)
    (hfew : ((backTo cpos (starEach [a] X.env)).all (fun x => !x.1) && (backToKw cpos (keywordEach [] X.env)).all (fun x => x.1.isSome)
      && decide ([a].length + ([] : List Keyword).length + (if ([] : List Keyword).isEmpty then 0 else 1) < 30)) = true := by rfl)
    (hline : (apos.endLine == cpos.line) = true := by rfl) (hs : starEach [a] X.env = (false, eval a X.env) :: starEach [] X.env := by rfl) (hplain : (backTo cpos (starEach [] X.env)).any (·.1) = false := by rfl)
    (hsw : swapsWith (.Call (.Attribute (.Name x p) "extend" apos) [a] [] cpos) none ppos.line X.env = pure false := by rfl)
    (hd : (x == ("__debug__" : Str)) = false := by decide) (hcd : (x == ("__classdict__" : Str)) = false := by decide) : PS X (.Expr (.Call (.Attribute (.Name x p) "extend" apos) [a] [] cpos) ppos) (TSo G W (sExt i fx)) :=
  ps_of (ps_expr (pe_bm PySem.F.plainAttrs_list PySem.F.slot_list_extend PySem.F.type_list_extend mt_extend (pe_var hN hv hd hcd) (pa_cons ha pa_nil hs) hbase hfew hline hs hplain) hsw) fun E σ H ⟨F, r, e, q⟩ => by
    unfold sExt at q
    by_cases hh : Sl.isM r[i]? = true
    case neg => rw [if_neg hh] at q; exact q.elim
    rw [if_pos hh] at q
    obtain ⟨pa, vs0, hv, hp0⟩ := e.isM hh
    refine ⟨_, hv, .inl ⟨rfl, _, SqL.of hp0⟩, F, r, e, ?_⟩
    unfold rF at q
    cases hf : fx r with
    | st => rw [hf] at q; exact q.elim
    | ex c d r' => rw [hf] at q; exact fun F' H' cls dd g e x => q F' H' σ cls dd g e x
    | ok s' r1 =>
      rw [hf] at q
      intro F1 H1 w g1 e1
      cases s' with
      | ow es =>
        simp only at q
        cases hs : r1[i]? with
        | none => rw [hs] at q; exact q.elim
        | some s =>
          rw [hs] at q
          cases hds : s.mut with
          | none => simp only [hds] at q; exact q.elim
          | some ds =>
            simp only [hds] at q
            split at q
            · rename_i hz
              obtain ⟨pb, ev, hFb, ws, hHb, hwb⟩ := e1.last
              cases ev
              have e0 := e1.init
              obtain ⟨pa, vs, ev, h1, h2, h3, _⟩ := (e0.slot i s _ hs hv).mut hds
              cases ev
              obtain ⟨g, e2⟩ := e0.write hs hds hv (h3.append hwb)
              refine ⟨pa, pb, vs, ws, rfl, rfl, h2, hHb, small6 (by rw [h3.len, hwb.len]; exact hz), q _ _ _ (Go.trans ?_ g) e2⟩
              exact g1.wide (fun _ z => z) fun a z => g1.own a (own_init (by rw [e0.len]) a z)
            · exact q.elim
      | _ => exact q.elim
/-- x[i] = e -/
def sSetIx (i : Nat) (fe fi : En → R D) : En → Fl := fun r => rF (fe r) fun d r1 => if Sl.isM r1[i]? = true then rF (fi r1) fun y r2 => match r2[i]? with
  | some s => match s.mut with
    | some ds => match y with
      | .int k => match ixN ds.length k with
        | some j => .nx (r2.set i (s.put (ds.set j d)))
        | none => .st
      | _ => .st
    | none => .st
  | none => .st
  else .st
theorem ds_setIx {i : Nat} {x : Str} {p spos : Pos} (hK : X.K = G.K) (ha : PE X a (TEo G W f)) (hb : PE X b (TEo G W g)) (hN : X.N[i]? = some x := by rfl) (hv : Vis X.env.scope x := by first | exact Or.inl rfl | exact Or.inr (Or.inl rfl) | exact Or.inr (Or.inr rfl))
    (hs : swapsWithSole [.Subscript (.Name x p) b spos] a pos.line X.env = pure false := by rfl) (hw : swappedStores [.Subscript (.Name x p) b spos] a X.env = pure none := by rfl)
    (h1 : (assignEach [.Subscript (.Name x p) b spos] X.env).map (·.2) = [assign (.Subscript (.Name x p) b spos) X.env] := by rfl)
    (hasg : ∀ v, assign (.Subscript (.Name x p) b spos) X.env v = (do
      let ov ← holding [v] (eval (.Name x p) X.env)
      let iv ← holding [v, ov] (eval b X.env)
      standAt spos
      holding [v, ov, iv] (setItem ov iv v)
      release [v, ov, iv] []) := by intro _; rfl)
    (hd : (x == ("__debug__" : Str)) = false := by decide) (hcd : (x == ("__classdict__" : Str)) = false := by decide) : PS X (.Assign [.Subscript (.Name x p) b spos] a pos) (TSo G W (sSetIx i f g)) :=
  ps_of (ps_asg ha (pg_sub (pe_var hN hv hd hcd) hb set_list hasg) hs hw h1) fun E σ H ⟨F, r, e, q⟩ => ⟨F, r, e, Pf.ofR q fun d r1 F1 H1 w s1 e1 q1 p1 => by
    by_cases hh : Sl.isM r1[i]? = true
    case neg => rw [if_neg hh] at p1; exact p1.elim
    rw [if_pos hh] at p1
    obtain ⟨pa, vs0, hv, hp0⟩ := e1.isM hh
    refine ⟨_, hv, F1, r1, e1, Pf.ofR p1 fun y r2 F2 H2 u s2 e2 q2 p2 => ?_⟩
    cases hs : r2[i]? with
    | none => rw [hs] at p2; exact p2.elim
    | some s =>
      rw [hs] at p2
      cases hds : s.mut with
      | none => simp only [hds] at p2; exact p2.elim
      | some ds =>
        simp only [hds] at p2
        cases q2 with
        | int k =>
          simp only at p2
          cases hk : ixN ds.length k with
          | none => rw [hk] at p2; exact p2.elim
          | some j =>
            rw [hk] at p2
            obtain ⟨pa, vs, ev, h1, h2, h3, _⟩ := (e2.slot i s _ hs hv).mut hds
            cases ev
            obtain ⟨g, e3⟩ := e2.write hs hds hv (h3.set (q1.mono s2) j)
            exact ⟨pa, vs, k, j, rfl, rfl, h2, by rw [h3.len]; exact hk, p2 _ _ _ g e3⟩
        | _ => exact p2.elim⟩
end

/-! ### loops -/
section
variable {G : Gm} {W : WX} {F H F1 H1 : Hp} {σ σ1 : L2.St} {r r1 : En} {X : Cx}
def whileD (c : En → R Bool) (f : En → Fl) : Nat → En → Fl
  | 0, _ => .st
  | n + 1, r => rF (c r) fun k r1 => if k = true then (match f r1 with
      | .nx r2 => whileD c f n r2
      | .ct r2 => whileD c f n r2
      | .bk r2 => .nx r2
      | o => o) else .nx r1
theorem ds_while {c : Expr} {body : List Stmt} {fc : En → R Bool} {fb : En → Fl} {pos : Pos} (n : Nat) (hp : PassesOwn (model X.prog X.w) X.A X.env X.xe) (hc : PT X c (TTo G W fc)) (hb : PSs X body (TSo G W fb)) : PS X (.While c body [] pos) (TSo G W (whileD fc fb n)) :=
  ps_of (ps_while hp hc hb) fun E σ H ⟨F, r, e, p⟩ => by
    refine ⟨fun m σ H => ∃ F r, Rel G F H σ r ∧ Pf G W (whileD fc fb m r) F H σ r E, ⟨n, F, r, e, p⟩, ?_⟩
    rintro m σ H ⟨F, r, e, p⟩
    cases m with
    | zero => exact p.elim
    | succ m =>
      refine ⟨F, r, e, Pf.ofR p fun k r1 F1 H1 b _ e1 q p1 => ?_⟩
      have q : b = k := q
      subst q
      cases b with
      | false => exact p1 F1 H1 σ (Go.refl fun _ z => z) e1
      | true =>
        rw [if_pos rfl] at p1 ⊢
        refine ⟨fun σ' H' => ∃ F r, Rel G F H' σ' r ∧ Pf G W (whileD fc fb m r) F H' σ' r E, fun σ' H' z => ⟨m, Nat.lt_succ_self m, z⟩, F1, r1, e1, ?_⟩
        cases hf : fb r1 with
        | nx r2 => rw [hf] at p1; exact fun F' H' σ' g e' => ⟨F', r2, e', Pf.from g p1⟩
        | ct r2 => rw [hf] at p1; exact fun F' H' σ' g e' => ⟨F', r2, e', Pf.from g p1⟩
        | bk r2 => rw [hf] at p1; exact p1
        | rt s r2 => rw [hf] at p1; exact p1
        | ex c d r2 => rw [hf] at p1; exact p1
        | st => rw [hf] at p1; exact p1.elim
/-- what is walked gives the data ds, one by one, as long as F0 is frozen -/
structure Yl (G : Gm) (J : It) (F0 : Hp) (ds : List D) : Prop where
  go : ∀ i F H, Sub F0 F → Sub F H → i < ds.length → J.go i H ∧ ∀ x H', J.yld i H x H' → ∃ F' d, ds[i]? = some d ∧ Ext F H F' H' ∧ Rp G F' x d
  stop : ∀ i F H, Sub F0 F → Sub F H → ds.length = i → J.stop i H
def TIo (G : Gm) (W : WX) (f : En → R (List D)) : TI := fun σ H Q => ∃ F r, Rel G F H σ r ∧ match f r with
  | .ok ds r' => ∀ F' H' J, Go F H (oA σ r) F' H' (oA σ r') → Rel G F' H' σ r' → Yl G J F' ds → Q J H'
  | .ex c d r' => ∀ F' H' cls dd, Go F H (oA σ r) F' H' (oA σ r') → Rel G F' H' σ r' → XOk G F' H' c d cls dd → W cls dd σ H'
  | .st => False
theorem pi_of {tg e : Expr} {t t' : TI} (h : PI X tg e t) (k : ∀ σ H Q, t' σ H Q → t σ H Q) : PI X tg e t' := ⟨fun pins s σ H Q I q => h.run pins s σ H Q I (k σ H Q q)⟩
def forD (t : D → En → Option En) (f : En → Fl) : List D → En → Fl
  | [], r => .nx r
  | d :: ds, r => match t d r with
    | none => .st
    | some r1 => match f r1 with
      | .nx r2 => forD t f ds r2
      | .ct r2 => forD t f ds r2
      | .bk r2 => .nx r2
      | o => o
def sFor (it : En → R (List D)) (t : D → En → Option En) (f : En → Fl) : En → Fl := fun r => rF (it r) fun ds r1 => forD t f ds r1
theorem drop_get {α : Type} {l : List α} {i : Nat} {x : α} (h : l[i]? = some x) : l.drop i = x :: l.drop (i + 1) := by
  obtain ⟨hi, e⟩ := List.getElem?_eq_some_iff.mp h
  rw [List.drop_eq_getElem_cons hi, e]
theorem ds_for {tg iter : Expr} {body : List Stmt} {fi : En → R (List D)} {ix : List Nat} {t : D → En → Option En} {fb : En → Fl} {pos : Pos} (hp : PassesOwn (model X.prog X.w) X.A X.env X.xe) (hc : X.calm = true) (hi : PI X tg iter (TIo G W fi)) (hg : PG X tg (TGo G ix t)) (hb : PSs X body (TSo G W fb))
    (hs : ∀ x, foldedSetIterable iter X.env x = pure x := by intro _; rfl) : PS X (.For tg iter body [] pos) (TSo G W (sFor fi t fb)) :=
  ps_of (ps_for hp hc hi hg hb hs) fun E σ H ⟨F, r, e, p⟩ => by
    refine ⟨F, r, e, ?_⟩
    unfold sFor rF at p
    cases hf : fi r with
    | st => rw [hf] at p; exact p
    | ex c d r' => rw [hf] at p; exact fun F' H' cls dd g e x => p F' H' σ cls dd g e x
    | ok ds r0 =>
      rw [hf] at p
      intro F0 H0 J g0 e0 y
      have p := Pf.from g0 p
      refine ⟨fun i m σ' H' => m + i = ds.length ∧ ∃ F' r', Sub F0 F' ∧ Rel G F' H' σ' r' ∧ Pf G W (forD t fb (ds.drop i) r') F' H' σ' r' E, ⟨ds.length, rfl, F0, r0, Sub.refl _, e0, p⟩, ?_⟩
      rintro i m σ' H' ⟨hm, F', r', s', e', p'⟩
      by_cases hlt : i < ds.length
      · obtain ⟨go, yl⟩ := y.go i F' H' s' e'.sub hlt
        refine .inr ⟨go, fun σ2 H2 => ∃ F2 r2, Sub F0 F2 ∧ Rel G F2 H2 σ2 r2 ∧ Pf G W (forD t fb (ds.drop (i + 1)) r2) F2 H2 σ2 r2 E, fun σ2 H2 z => ⟨m - 1, by omega, by omega, z⟩, fun x H2 hy => ?_⟩
        obtain ⟨F2, d, hd, x2, q2⟩ := yl x H2 hy
        rw [drop_get hd] at p'
        have e2 := e'.ext x2
        have p' := Pf.from (r1 := r') (x2.goO fun _ z => z) p'
        refine ⟨F2, r', d, e2, q2, ?_⟩
        unfold forD at p'
        cases ht : t d r' with
        | none => rw [ht] at p'; exact p'.elim
        | some r3 =>
          rw [ht] at p'
          refine ⟨r3, rfl, fun σ3 e3 o3 _ => ⟨F2, r3, e3, ?_⟩⟩
          have p' := Pf.from (Go.refl o3) p'
          have s2 := s'.trans x2.go.sub
          cases hb : fb r3 with
          | nx r4 => simp only [hb] at p'; exact fun F4 H4 σ4 g4 e4 => ⟨F4, r4, s2.trans g4.sub, e4, Pf.from g4 p'⟩
          | ct r4 => simp only [hb] at p'; exact fun F4 H4 σ4 g4 e4 => ⟨F4, r4, s2.trans g4.sub, e4, Pf.from g4 p'⟩
          | bk r4 => simp only [hb] at p'; exact p'
          | rt s r4 => simp only [hb] at p'; exact p'
          | ex c d r4 => simp only [hb] at p'; exact p'
          | st => simp only [hb] at p'; exact p'.elim
      · have hi : ds.length = i := by omega
        refine .inl ⟨y.stop i F' H' s' e'.sub hi, ?_⟩
        rw [List.drop_eq_nil_of_le (by omega)] at p'
        exact p' F' H' σ' (Go.refl fun _ z => z) e'
end
end DL
set_option maxHeartbeats 4000000
/-! DLe: x op= e, x[i] op= e; comprehensions; what is walked. -/
namespace DL
open PySem L2
section
variable {G : Gm} {W : WX} {F H F1 H1 : Hp} {σ σ1 : L2.St} {r r1 : En} {X : Cx} {a b : Expr} {pos : Pos} {f g : En → R D}
/-- a list's item, by values -/
theorem get_listV : PGet X (rIxL X.K) := by
  intro pins s σ H o i ov iv Q I ro ri h
  obtain ⟨p, xs, k, z, rfl, rfl, hq, he, q⟩ := h
  cases ro
  obtain ⟨t, rfl⟩ := ri
  obtain ⟨its, rr, pl, hz⟩ := I.list hq
  obtain ⟨j, e1, e2, e3, e4, e5⟩ := atI_get he
  obtain ⟨w, ew, rw'⟩ := rr.get e2
  have len := rr.length
  have big : (sizeLine : Nat) < 2 ^ 63 := line63
  by_cases up : 0 ≤ k
  · have ej : k.toNat = j := by
      rw [seqIndex_of up e5] at e1
      exact Option.some.inj e1
    exact wpAny_getItem_list pl.isList up (by omega) (by rw [ej]; simpa using ew) ⟨z, H, I, rw', q⟩
  · have ej : (k + (its.toArray.size : Int)).toNat = j := by
      rw [PySem.seqIndex_neg (by omega) e4] at e1
      rw [List.size_toArray, ← len]
      exact Option.some.inj e1
    exact wpAny_getItem_list_neg pl.isList (by omega) (by rw [List.size_toArray] <;> omega) (by omega) (by rw [ej]; simpa using ew) ⟨z, H, I, rw', q⟩
/-- an operation in place, by values -/
def IpD (G : Gm) (t : TIp) (o : D → D → Option D) : Prop := OpD G t o
def sAug (i : Nat) (o : D → D → Option D) (f : En → R D) : En → Fl := fun r => match r[i]? with
  | some (.vl x) => rF (f r) fun y r1 => match o x y with
    | some d => .nx (r1.set i (.vl d))
    | none => .st
  | _ => .st
theorem ds_aug {i : Nat} {x : Str} {op : Operator} {t : TIp} {o : D → D → Option D} {pos' : Pos} (hN : X.N.Nodup) (ho : PIp X op t) (hd : IpD G t o) (ha : PE X a (TEo G W f)) (hi : X.N[i]? = some x := by rfl) (hx : Loc X.env.scope x := by first | exact Or.inl rfl | exact Or.inr rfl)
    (hf : X.fn x = true ∨ X.env.scope.names.lookup x = some .local := by first | exact .inl rfl | exact .inr rfl) : PS X (.AugAssign (.Name x pos') op a pos) (TSo G W (sAug i o f)) :=
  ps_of (ps_aug hN hi hx ha ho hf) fun E σ H ⟨F, r, e, p⟩ => by
    unfold sAug at p
    split at p
    · rename_i d0 hr
      obtain ⟨v, e1, x, e2, q⟩ := e.at hr
      subst e2
      refine ⟨x, e1, F, r, e, Pf.ofR p fun y r1 F1 H1 w s1 e3 q1 p1 => ?_⟩
      cases ho : o d0 y with
      | none => rw [ho] at p1; exact p1.elim
      | some d =>
        rw [ho] at p1
        refine hd d0 y d F1 H1 x w _ ho e3.sub (q.mono s1) q1 fun F2 H2 z x2 q2 => ?_
        have e4 := (e3.ext x2)
        exact p1 F2 H2 _ ((x2.goO fun _ z => z).wide (fun _ z => z) fun a z => .inl (own_val e4.len (own_store e4.len z))) (e4.val q2).store
    · exact p.elim
/-- x[i] op= e -/
def sAugIx (i : Nat) (gi : En → R D) (o : D → D → Option D) (f : En → R D) : En → Fl := fun r => if Sl.isM r[i]? = true then rF (gi r) fun y r1 => match r1[i]? with
  | some s1 => match s1.items with
    | some ds1 => match ixD ds1 y with
      | some x => rF (f r1) fun z r2 => match r2[i]? with
        | some s => match s.mut with
          | some ds => match y with
            | .int k => match ixN ds.length k with
              | some j => match o x z with
                | some d => .nx (r2.set i (s.put (ds.set j d)))
                | none => .st
              | none => .st
            | _ => .st
          | none => .st
        | none => .st
      | none => .st
    | none => .st
  | none => .st
  else .st
theorem ds_augIx {i : Nat} {x : Str} {op : Operator} {t : TIp} {o : D → D → Option D} {p spos : Pos} (hK : X.K = G.K) (ho : PIp X op t) (hd : IpD G t o) (hb : PE X b (TEo G W g)) (ha : PE X a (TEo G W f)) (hN : X.N[i]? = some x := by rfl) (hv : Vis X.env.scope x := by first | exact Or.inl rfl | exact Or.inr (Or.inl rfl) | exact Or.inr (Or.inr rfl))
    (hst : ∀ ov iv new, augStore b ov iv new = (do holding [new, ov, iv] (setItem ov iv new); release [new, ov, iv] []; pure .next) := by intros; rfl)
    (hdb : (x == ("__debug__" : Str)) = false := by decide) (hcd : (x == ("__classdict__" : Str)) = false := by decide) : PS X (.AugAssign (.Subscript (.Name x p) b spos) op a pos) (TSo G W (sAugIx i g o f)) :=
  ps_of (ps_augS (pe_var hN hv hdb hcd) hb get_listV ha ho set_list hst) fun E σ H ⟨F, r, e, q⟩ => by
    unfold sAugIx at q
    by_cases hh : Sl.isM r[i]? = true
    case neg => rw [if_neg hh] at q; exact q.elim
    rw [if_pos hh] at q
    obtain ⟨pa, vs0, hv, hp0⟩ := e.isM hh
    refine ⟨_, hv, F, r, e, Pf.ofR q fun y r1 F1 H1 w s1 e1 q1 p1 => ?_⟩
    cases hs1 : r1[i]? with
    | none => rw [hs1] at p1; exact p1.elim
    | some t1 =>
      rw [hs1] at p1
      cases hds1 : t1.items with
      | none => simp only [hds1] at p1; exact p1.elim
      | some ds1 =>
        simp only [hds1] at p1
        cases hx : ixD ds1 y with
        | none => rw [hx] at p1; exact p1.elim
        | some x1 =>
          rw [hx] at p1
          obtain ⟨pb, vs1, ev, h1, h2⟩ := (e1.slot i t1 _ hs1 hv).items e1.sub hds1
          cases ev
          cases q1 with
          | int k =>
            obtain ⟨xv, hxv, qx⟩ := h2.atI hx
            refine ⟨pa, vs1, k, xv, rfl, rfl, by rw [hK]; exact h1, hxv, F1, r1, e1, Pf.ofR p1 fun z r2 F2 H2 zv s2 e2 q2 p2 => ?_⟩
            cases hs2 : r2[i]? with
            | none => rw [hs2] at p2; exact p2.elim
            | some t2 =>
              rw [hs2] at p2
              cases hds2 : t2.mut with
              | none => simp only [hds2] at p2; exact p2.elim
              | some ds =>
                simp only [hds2] at p2
                cases hk : ixN ds.length k with
                | none => rw [hk] at p2; exact p2.elim
                | some j =>
                  rw [hk] at p2
                  cases hod : o x1 z with
                  | none => simp only [hod] at p2; exact p2.elim
                  | some d =>
                    simp only [hod] at p2
                    refine hd x1 z d F2 H2 xv zv _ hod e2.sub (qx.mono s2) q2 fun F3 H3 zz x3 q3 => ?_
                    have e3 := e2.ext x3
                    obtain ⟨pc, vs, ev, h1, h2, h3, _⟩ := (e3.slot i t2 _ hs2 hv).mut hds2
                    cases ev
                    obtain ⟨g, e4⟩ := e3.write hs2 hds2 hv (h3.set q3 j)
                    exact ⟨pa, vs, k, j, rfl, rfl, h2, by rw [h3.len]; exact hk, p2 _ _ _ ((x3.goO fun _ z => z).trans g) e4⟩
          | _ => cases hx

/-! ### comprehensions -/
def wipeD (r : En) : List Nat → En
  | [] => r
  | v :: vs => (wipeD r vs).set v .no
/-- the names of the comprehension hold again what they held -/
def backD (r1 r2 : En) : List Nat → En
  | [] => r2
  | v :: vs => (backD r1 r2 vs).set v (r1.getD v .no)
theorem wipeD_length (r : En) : ∀ vs, (wipeD r vs).length = r.length
  | [] => rfl
  | v :: vs => by unfold wipeD; rw [List.length_set, wipeD_length r vs]
theorem backD_length (r1 r2 : En) : ∀ vs, (backD r1 r2 vs).length = r2.length
  | [] => rfl
  | v :: vs => by unfold backD; rw [List.length_set, backD_length r1 r2 vs]
theorem wipeD_get {r : En} {i : Nat} {s : Sl} : ∀ {vs : List Nat}, (wipeD r vs)[i]? = some s → (i ∈ vs ∧ s = .no) ∨ (i ∉ vs ∧ r[i]? = some s)
  | [], h => .inr ⟨by simp, h⟩
  | v :: vs, h => by
    unfold wipeD at h
    rcases get_set h with ⟨a, b, _⟩ | ⟨a, b⟩
    · exact .inl ⟨by rw [a]; exact List.mem_cons_self, b⟩
    · rcases wipeD_get b with ⟨c, d⟩ | ⟨c, d⟩
      · exact .inl ⟨List.mem_cons_of_mem _ c, d⟩
      · exact .inr ⟨by simp [a, c], d⟩
theorem wipe_get {σ : L2.St} {i : Nat} {v : V} : ∀ {vs : List Nat}, (wipe σ vs)[i]? = some (some v) → i ∉ vs ∧ σ[i]? = some (some v)
  | vs, h => let ⟨a, b⟩ := wipe_some h; ⟨b, a⟩
theorem wipe_out' {σ : L2.St} {i : Nat} {vs : List Nat} (h : i ∉ vs) : (wipe σ vs)[i]? = σ[i]? := wipe_out h
theorem backD_get {r1 r2 : En} {i : Nat} {s : Sl} (hl : r1.length = r2.length) : ∀ {vs : List Nat}, (backD r1 r2 vs)[i]? = some s → (i ∈ vs ∧ r1[i]? = some s) ∨ (i ∉ vs ∧ r2[i]? = some s)
  | [], h => .inr ⟨by simp, h⟩
  | v :: vs, h => by
    unfold backD at h
    rcases get_set h with ⟨a, b, c⟩ | ⟨a, b⟩
    · rw [backD_length] at c
      refine .inl ⟨by rw [a]; exact List.mem_cons_self, ?_⟩
      rw [a, b]
      rw [List.getElem?_eq_getElem (by rw [hl]; exact c), List.getD_eq_getElem?_getD, List.getElem?_eq_getElem (by rw [hl]; exact c)] <;> rfl
    · rcases backD_get hl b with ⟨c, d⟩ | ⟨c, d⟩
      · exact .inl ⟨List.mem_cons_of_mem _ c, d⟩
      · exact .inr ⟨by simp [a, c], d⟩
theorem Rel.wipe (h : Rel G F H σ r) (vs : List Nat) : Rel G F H (L2.wipe σ vs) (wipeD r vs) ∧ ∀ a, oA (L2.wipe σ vs) (wipeD r vs) a → oA σ r a := by
  refine ⟨⟨h.sub, h.ntb, h.tabs, by rw [wipe_length, wipeD_length]; exact h.len, fun i s v e1 e2 => ?_, fun i j s t p e1 e2 m1 m2 e3 e4 => ?_⟩, fun a ⟨i, s, e1, m, e2⟩ => ?_⟩
  · rcases wipeD_get e1 with ⟨_, b⟩ | ⟨a, b⟩
    · subst b; trivial
    · rw [wipe_out' a] at e2; exact h.slot i s v b e2
  · rcases wipeD_get e1 with ⟨_, b⟩ | ⟨_, b⟩
    · subst b; cases m1
    · rcases wipeD_get e2 with ⟨_, b2⟩ | ⟨_, b2⟩
      · subst b2; cases m2
      · exact h.apart i j s t p b b2 m1 m2 (wipe_get e3).2 (wipe_get e4).2
  · rcases wipeD_get e1 with ⟨_, b⟩ | ⟨_, b⟩
    · subst b; cases m
    · exact ⟨i, s, b, m, (wipe_get e2).2⟩
theorem Rel.apart_new' {p : Addr} (h : Rel G F H σ r) (hp : H p = none) : ¬ oA σ r p := fun z => by
  obtain ⟨_, o, e, _⟩ := h.own z
  rw [hp] at e; cases e
/-- behind a comprehension -/
theorem Rel.back {r2 : En} {vs : List Nat} (h : Rel G F H σ r) (g : Go F H (oA (L2.wipe σ vs) (wipeD r vs)) F1 H1 (oA (L2.wipe σ vs) r2)) (h2 : Rel G F1 H1 (L2.wipe σ vs) r2) :
    Rel G F1 H1 σ (backD r r2 vs) ∧ ∀ a, oA σ (backD r r2 vs) a → oA σ r a ∨ H a = none := by
  have hl : r.length = r2.length := by have := h2.len; rw [wipe_length] at this; rw [← h.len]; exact this
  -- what a wiped name owned is not touched within
  have far : ∀ i s p, i ∈ vs → r[i]? = some s → s.mine = true → σ[i]? = some (some (.ref p)) → ¬ oA (L2.wipe σ vs) (wipeD r vs) p := fun i s p hi e1 m e2 ⟨j, t, f1, m2, f2⟩ => by
    rcases wipeD_get f1 with ⟨_, b⟩ | ⟨n, b⟩
    · subst b; cases m2
    · have z := h.apart i j s t p e1 b m m2 e2 (wipe_get f2).2
      subst z
      exact n hi
  have far2 : ∀ i s p, i ∈ vs → r[i]? = some s → s.mine = true → σ[i]? = some (some (.ref p)) → ¬ oA (L2.wipe σ vs) r2 p := fun i s p hi e1 m e2 z => by
    rcases g.own p z with z | z
    · exact far i s p hi e1 m e2 z
    · obtain ⟨_, o, e, _⟩ := h.own ⟨i, s, e1, m, e2⟩
      rw [e] at z; cases z
  have out : ∀ {i : Nat} {s : Sl} {p : Addr}, i ∉ vs → r2[i]? = some s → s.mine = true → σ[i]? = some (some (.ref p)) → oA (L2.wipe σ vs) r2 p := fun {i s p} n e1 m e2 => ⟨i, s, e1, m, by rw [wipe_out' n]; exact e2⟩
  refine ⟨⟨h2.sub, h2.ntb, h2.tabs, by rw [backD_length, ← hl]; exact h.len, fun i s v e1 e2 => ?_, fun i j s t p e1 e2 m1 m2 e3 e4 => ?_⟩, fun a ⟨i, s, e1, m, e2⟩ => ?_⟩
  · rcases backD_get hl e1 with ⟨a, b⟩ | ⟨a, b⟩
    · refine (h.slot i s v b e2).mono g.sub fun p m ev => ?_
      subst ev
      have nf := far i s p a b m e2
      obtain ⟨n1, o, n2, n3⟩ := h.own ⟨i, s, b, m, e2⟩
      refine ⟨?_, fun o' q1 q2 => g.keep p o' q1 nf q2⟩
      cases q : F1 p with
      | none => rfl
      | some u =>
        rcases g.new p u q with z | z | z
        · rw [n1] at z; cases z
        · rw [n2] at z; cases z
        · exact absurd z nf
    · exact h2.slot i s v b (by rw [wipe_out' a]; exact e2)
  · rcases backD_get hl e1 with ⟨a1, b1⟩ | ⟨a1, b1⟩
    · rcases backD_get hl e2 with ⟨a2, b2⟩ | ⟨a2, b2⟩
      · exact h.apart i j s t p b1 b2 m1 m2 e3 e4
      · exact absurd (out a2 b2 m2 e4) (far2 i s p a1 b1 m1 e3)
    · rcases backD_get hl e2 with ⟨a2, b2⟩ | ⟨a2, b2⟩
      · exact absurd (out a1 b1 m1 e3) (far2 j t p a2 b2 m2 e4)
      · exact h2.apart i j s t p b1 b2 m1 m2 (by rw [wipe_out' a1]; exact e3) (by rw [wipe_out' a2]; exact e4)
  · rcases backD_get hl e1 with ⟨a1, b1⟩ | ⟨a1, b1⟩
    · exact .inl ⟨i, s, b1, m, e2⟩
    · rcases g.own a (out a1 b1 m e2) with z | z
      · exact .inl ((h.wipe vs).2 a z)
      · exact .inr z
/-- the last name's own list is not touched by what goes on without it -/
theorem Rel.frame {v : V} {s : Sl} {σ2 : L2.St} {r2 : En} (h : Rel G F H (σ ++ [some v]) (r ++ [s])) (g : Go F H (oA σ r) F1 H1 (oA σ2 r2)) (h2 : Rel G F1 H1 σ2 r2) :
    Rel G F1 H1 (σ2 ++ [some v]) (r2 ++ [s]) ∧ Go F H (oA (σ ++ [some v]) (r ++ [s])) F1 H1 (oA (σ2 ++ [some v]) (r2 ++ [s])) := by
  have hl : σ.length = r.length := h.init.len
  have nown : ∀ p, s.mine = true → v = .ref p → ¬ oA σ r p := fun p m ev ⟨j, t, e1, m2, e2⟩ => by
    have hj := (List.getElem?_eq_some_iff.mp e1).1
    have z := h.apart j r.length t s p (by rw [get_snoc hj]; exact e1) get_last m2 m (by rw [get_snoc (by rw [hl]; exact hj)]; exact e2) (by rw [← hl, ev]; exact get_last)
    omega
  have tr : ∀ p, s.mine = true → v = .ref p → F p = none ∧ ∃ o, H p = some o ∧ (∀ ps, o ≠ .tbl ps) := fun p m ev => h.last.own m (by rw [ev])
  have ok : SlOk G F1 H1 (some v) s := h.last.mono g.sub fun p m ev => by
    cases ev
    obtain ⟨n1, o, n2, n3⟩ := tr p m rfl
    refine ⟨?_, fun o' q1 q2 => g.keep p o' q1 (nown p m rfl) q2⟩
    cases q : F1 p with
    | none => rfl
    | some u =>
      rcases g.new p u q with z | z | z
      · rw [n1] at z; cases z
      · rw [n2] at z; cases z
      · exact absurd z (nown p m rfl)
  have n2 : ∀ p, s.mine = true → v = .ref p → ¬ oA σ2 r2 p := fun p m ev z => by
    rcases g.own p z with z | z
    · exact nown p m ev z
    · obtain ⟨_, o, e, _⟩ := tr p m ev
      rw [e] at z; cases z
  refine ⟨h2.snoc ok n2, g.wide (own_init hl) fun a z => ?_⟩
  rcases own_snoc h2.len z with z | ⟨m, ev⟩
  · rcases g.own a z with z | z
    · exact .inl (own_init hl a z)
    · exact .inr z
  · exact .inl ⟨r.length, s, get_last, m, by rw [← hl, ev]; exact get_last⟩
theorem wipe_snoc {σ : L2.St} {x : Option V} : ∀ {vs : List Nat}, (∀ v ∈ vs, v < σ.length) → L2.wipe (σ ++ [x]) vs = L2.wipe σ vs ++ [x]
  | [], _ => rfl
  | v :: vs, h => by
    unfold L2.wipe
    rw [wipe_snoc fun w hw => h w (List.mem_cons_of_mem _ hw), List.set_append_left _ _ (by rw [wipe_length]; exact h v List.mem_cons_self)]
theorem wipeD_snoc {r : En} {x : Sl} : ∀ {vs : List Nat}, (∀ v ∈ vs, v < r.length) → wipeD (r ++ [x]) vs = wipeD r vs ++ [x]
  | [], _ => rfl
  | v :: vs, h => by
    unfold wipeD
    rw [wipeD_snoc fun w hw => h w (List.mem_cons_of_mem _ hw), List.set_append_left _ _ (by rw [wipeD_length]; exact h v List.mem_cons_self)]
theorem backD_snoc {r1 r2 : En} {x y : Sl} (hl : r2.length = r1.length) : ∀ {vs : List Nat}, (∀ v ∈ vs, v < r1.length) → backD (r1 ++ [x]) (r2 ++ [y]) vs = backD r1 r2 vs ++ [y]
  | [], _ => rfl
  | v :: vs, h => by
    have hv := h v List.mem_cons_self
    unfold backD
    rw [backD_snoc hl fun w hw => h w (List.mem_cons_of_mem _ hw), List.set_append_left _ _ (by rw [backD_length, hl]; exact hv)]
    rw [List.getD_eq_getElem?_getD, List.getD_eq_getElem?_getD, List.getElem?_append_left hv]
/-- the turns of a comprehension -/
def lcD (vs : List Nat) (t : D → En → Option En) (c : En → R Bool) (f : En → R D) : List D → En → List D → R (List D)
  | [], r, acc => .ok acc r
  | d :: ds, r, acc => match t d r with
    | none => .st
    | some r1 => match c r1 with
      | .ok true r2 => match f r2 with
        | .ok y r3 => if acc.length < 1000000 then lcD vs t c f ds (wipeD r3 vs) (acc ++ [y]) else .st
        | _ => .st
      | .ok false r2 => lcD vs t c f ds (wipeD r2 vs) acc
      | _ => .st
/-- [e for target in iter if test], the names of its own wiped -/
def xLc (vs : List Nat) (it : En → R (List D)) (t : D → En → Option En) (c : En → R Bool) (f : En → R D) : En → R Sl := fun r => (it r).bind fun ds r1 => match lcD vs t c f ds (wipeD r1 vs) [] with
  | .ok ys r2 => .ok (.ow ys) (backD r1 r2 vs)
  | _ => .st
def noW : WX := fun _ _ _ _ => False
theorem wipe_eq {σ σ2 : L2.St} {vs : List Nat} (hl : σ2.length = σ.length) (h : ∀ j, j ∉ vs → σ2[j]? = σ[j]?) : L2.wipe σ2 vs = L2.wipe σ vs := by
  refine List.ext_getElem? fun j => ?_
  by_cases hj : j ∈ vs
  · by_cases hlt : j < σ.length
    · have a : ∀ {τ : L2.St}, τ.length = σ.length → (L2.wipe τ vs)[j]? = some none := fun {τ} e => by
        have b : j < (L2.wipe τ vs).length := by rw [wipe_length, e]; exact hlt
        cases q : (L2.wipe τ vs)[j]? with
        | none => rw [List.getElem?_eq_none_iff] at q; omega
        | some o =>
          cases o with
          | none => rfl
          | some v => exact absurd hj (wipe_get q).1
      rw [a hl, a rfl]
    · rw [List.getElem?_eq_none (by rw [wipe_length]; omega), List.getElem?_eq_none (by rw [wipe_length]; omega)]
  · rw [wipe_out' hj, wipe_out' hj, h j hj]
theorem tLc_of {vs ix : List Nat} {fi : En → R (List D)} {t : D → En → Option En} {fc : En → R Bool} {fe : En → R D} (hix : ∀ j ∈ ix, j ∈ vs) (σ : L2.St) (H : Hp) (Q : VK) (hvs : ∀ v ∈ vs, v < σ.length) :
    TXo G W (xLc vs fi t fc fe) σ H Q → tLc (TIo G W fi) (TGo G ix t) (TTo G noW fc) (TEo G noW fe) vs σ H Q := fun ⟨F, r, e, p⟩ => by
  refine ⟨F, r, e, ?_⟩
  unfold xLc at p
  cases hf : fi r with
  | st => rw [hf] at p; exact p
  | ex c d r' => rw [hf] at p; exact p
  | ok ds r0 =>
    rw [hf] at p
    simp only [R.bind] at p
    intro F0 H0 J g0 e0 y Dl hD
    obtain ⟨gA, eA⟩ := e0.newL (ds := []) (vs := []) hD .nil
    obtain ⟨w0, o0⟩ := (e0.ext (Ext.made (o := .lst []) hD e0.sub)).wipe vs
    have w1 : Rel G F0 (upd H0 Dl (.lst [])) (L2.wipe σ vs ++ [some (.ref Dl)]) (wipeD r0 vs ++ [.ow []]) :=
      w0.snoc eA.last fun q _ ev z => by cases ev; exact e0.apart_new' hD (o0 _ z)
    cases hr : lcD vs t fc fe ds (wipeD r0 vs) [] with
    | st => rw [hr] at p; exact p.elim
    | ex c d r' => rw [hr] at p; exact p.elim
    | ok ys rz =>
      rw [hr] at p
      simp only at p
      refine ⟨fun i m H' => m + i = ds.length ∧ ∃ F' r' acc, Go F0 (upd H0 Dl (.lst [])) (oA (L2.wipe σ vs ++ [some (.ref Dl)]) (wipeD r0 vs ++ [.ow []])) F' H' (oA (L2.wipe σ vs ++ [some (.ref Dl)]) (r' ++ [Sl.ow acc])) ∧ Rel G F' H' (L2.wipe σ vs ++ [some (.ref Dl)]) (r' ++ [Sl.ow acc]) ∧ lcD vs t fc fe (ds.drop i) r' acc = .ok ys rz,
        ⟨ds.length, rfl, F0, wipeD r0 vs, [], Go.refl fun _ z => z, w1, hr⟩, ?_⟩
      rintro i m H' ⟨hm, F', r', acc, g', e', run⟩
      by_cases hlt : i < ds.length
      · obtain ⟨go, yl⟩ := y.go i F' H' g'.sub e'.sub hlt
        refine .inr ⟨go, fun H2 => ∃ F2 r2 acc2, Go F0 (upd H0 Dl (.lst [])) (oA (L2.wipe σ vs ++ [some (.ref Dl)]) (wipeD r0 vs ++ [.ow []])) F2 H2 (oA (L2.wipe σ vs ++ [some (.ref Dl)]) (r2 ++ [Sl.ow acc2])) ∧ Rel G F2 H2 (L2.wipe σ vs ++ [some (.ref Dl)]) (r2 ++ [Sl.ow acc2]) ∧ lcD vs t fc fe (ds.drop (i + 1)) r2 acc2 = .ok ys rz,
          fun H2 z => ⟨m - 1, by omega, by omega, z⟩, fun x H2 hy => ?_⟩
        obtain ⟨F2, d, hd, x2, q2⟩ := yl x H2 hy
        have e2 := e'.ext x2
        have g2 := g'.trans (x2.goO fun _ z => z)
        rw [drop_get hd] at run
        unfold lcD at run
        cases ht : t d r' with
        | none => simp only [ht] at run; cases run
        | some r1 =>
          simp only [ht] at run
          refine ⟨F2, r', d, e2.init, q2, r1, ht, fun σ3 e3 o3 k3 => ?_⟩
          have hw : L2.wipe σ3 vs = L2.wipe (L2.wipe σ vs) vs := wipe_eq k3.1 fun j hj => k3.2 j fun z => hj (hix j z)
          have hww : L2.wipe (L2.wipe σ vs) vs = L2.wipe σ vs := wipe_eq (wipe_length _ _) fun j hj => wipe_out' hj
          rw [hww] at hw
          refine ⟨hw, F2, r1, e3, ?_⟩
          obtain ⟨e3', g3'⟩ := e2.frame (Go.refl o3) e3
          cases hc : fc r1 with
          | st => simp only [hc] at run; cases run
          | ex c d r2 => simp only [hc] at run; cases run
          | ok k r2 =>
            intro F4 H4 b g4 e4 hb
            have hb : b = k := hb
            subst hb
            obtain ⟨e4', g4'⟩ := e3'.frame g4 e4
            have gall := (g2.trans g3').trans g4'
            have fin : ∀ {F5 H5 r5 acc5}, Rel G F5 H5 (σ3 ++ [some (.ref Dl)]) (r5 ++ [Sl.ow acc5]) → Rel G F5 H5 (L2.wipe σ vs ++ [some (.ref Dl)]) (wipeD r5 vs ++ [Sl.ow acc5]) ∧ ∀ a, oA (L2.wipe σ vs ++ [some (.ref Dl)]) (wipeD r5 vs ++ [Sl.ow acc5]) a → oA (σ3 ++ [some (.ref Dl)]) (r5 ++ [Sl.ow acc5]) a := fun {F5 H5 r5 acc5} e5 => by
              obtain ⟨w5, o5⟩ := e5.init.wipe vs
              rw [hw] at w5 o5
              obtain ⟨a1, a2⟩ := e5.frame (Go.refl (F := F5) (H := H5) o5) w5
              refine ⟨a1, fun a z => ?_⟩
              rcases own_snoc w5.len z with z | ⟨m, ev⟩
              · exact own_init e5.init.len a (o5 a z)
              · exact ⟨r5.length, _, get_last, m, by rw [← e5.init.len, ev]; exact get_last⟩
            cases b with
            | false =>
              simp only [hc] at run
              obtain ⟨a1, a2⟩ := fin e4'
              exact ⟨F4, _, acc, gall.trans (Go.refl a2), a1, run⟩
            | true =>
              simp only [hc] at run
              cases hfe : fe r2 with
              | st => simp only [hfe] at run; cases run
              | ex c d r3 => simp only [hfe] at run; cases run
              | ok yv r3 =>
                simp only [hfe] at run
                refine ⟨F4, r2, e4, ?_⟩
                rw [hfe]
                intro F5 H5 u g5 e5 qu
                obtain ⟨e5', g5'⟩ := e4'.frame g5 e5
                by_cases hz : acc.length < 1000000
                · rw [if_pos hz] at run
                  obtain ⟨pd, epd, hFd, vacc, hHd, hva⟩ := e5'.last
                  cases epd
                  have hix5 : (r3 ++ [Sl.ow acc])[r3.length]? = some (.ow acc) := get_last
                  have hix6 : (σ3 ++ [some (V.ref Dl)])[r3.length]? = some (some (.ref Dl)) := by rw [← e5.len]; exact get_last
                  obtain ⟨g6, e6⟩ := e5'.write hix5 (ds := acc) rfl hix6 (hva.append (.cons qu .nil))
                  have es : (r3 ++ [Sl.ow acc]).set r3.length (Sl.put (.ow acc) (acc ++ [yv])) = r3 ++ [Sl.ow (acc ++ [yv])] := by
                    rw [List.set_append_right _ _ (Nat.le_refl _), Nat.sub_self] <;> rfl
                  rw [es] at g6 e6
                  obtain ⟨a1, a2⟩ := fin e6
                  exact ⟨vacc, hHd, small6' (by rw [hva.len]; exact hz), F5, _, acc ++ [yv], ((gall.trans g5').trans g6).trans (Go.refl a2), a1, run⟩
                · rw [if_neg hz] at run
                  cases run
      · have hi : ds.length = i := by omega
        refine .inl ⟨y.stop i F' H' g'.sub e'.sub hi, ?_⟩
        rw [List.drop_eq_nil_of_le (by omega)] at run
        cases run
        have h0 : ∀ v ∈ vs, v < r0.length := fun v hv => by rw [← e0.len]; exact hvs v hv
        have hlz : rz.length = r0.length := by have := e'.init.len; rw [wipe_length] at this; rw [← this, e0.len]
        rw [← wipe_snoc hvs, ← wipeD_snoc h0] at g'
        rw [← wipe_snoc hvs] at e'
        obtain ⟨b1, b2⟩ := eA.back g' e'
        rw [backD_snoc (by rw [hlz]) h0] at b1 b2
        refine p F' H' _ ((g0.trans gA).trans ⟨g'.sub, fun a o z => (g'.new a o z).imp id fun z => z.imp id fun z => (eA.wipe vs).2 a z, fun a o z n => g'.keep a o z fun w => n ((eA.wipe vs).2 a w), b2, g'.there⟩) b1
variable {elt tg iter : Expr} {ifs : List Expr} {scope : Scope} {ix : List Nat} {nm : List (Str × Nat)} {fi : En → R (List D)} {t : D → En → Option En} {fc : En → R Bool} {fe : En → R D}
def tT : En → R Bool := fun r => .ok true r
theorem dts_nil : PTs X [] (TTo G W tT) := ⟨fun pins s σ H Q I ⟨F, r, e, p⟩ => pts_nil.run pins s σ H Q I (Pt.here p e (Ext.refl _ _) rfl)⟩
theorem dts_one {c : Expr} (h : PT X c (TTo G W fc)) : PTs X [c] (TTo G W fc) := pts_one h
theorem dx_lc (hc : X.calm = true) (hN : X.N.Nodup) (hi : PI X tg iter (TIo G W fi)) (ok : blkC X.N X.env.scope scope nm = true) (hix : (ix.all fun j => (nm.map (·.2)).contains j) = true)
    (hg : ∀ (s : Shared) (H : Hp) (C : Addr) (cl : List (Str × Addr)) (fp : List Addr), PG (X.blk s H scope (compEnvC scope cl C X.env) fp) tg (TGo G ix t)) (ht : ∀ (s : Shared) (H : Hp) (C : Addr) (cl : List (Str × Addr)) (fp : List Addr), PTs (X.blk s H scope (compEnvC scope cl C X.env) fp) ifs (TTo G noW fc))
    (he : ∀ (s : Shared) (H : Hp) (C : Addr) (cl : List (Str × Addr)) (fp : List Addr), PE (X.blk s H scope (compEnvC scope cl C X.env) fp) elt (TEo G noW fe)) (hs : ∀ x, foldedSetIterable iter X.env x = pure x := by intro _; rfl) :
    PE X (.ListComp elt [⟨tg, iter, ifs, 0⟩] scope pos) (TXo G W (xLc (nm.map (·.2)) fi t fc fe)) := ⟨fun pins s σ H Q I h => (pe_lc hc hN hi (blkOk_by ok) hg ht he hs).run pins s σ H Q I (tLc_of (fun j hj => by
      have a := List.all_eq_true.mp hix j hj
      simpa using a) σ H Q (fun v hv => by
      obtain ⟨p, hp, e⟩ := List.mem_map.mp hv
      rw [I.len]
      subst e
      exact (List.getElem?_eq_some_iff.mp ((blkOk_by ok).ix p hp)).1) h)⟩
/-- y = [..] on one row -/
theorem ds_setLc {i : Nat} {y : Str} {py spos : Pos} (hc : X.calm = true) (hN : X.N.Nodup) (hi : PI X tg iter (TIo G W fi)) (ok : blkC X.N X.env.scope scope nm = true) (hix : (ix.all fun j => (nm.map (·.2)).contains j) = true)
    (hg : ∀ (s : Shared) (H : Hp) (C : Addr) (cl : List (Str × Addr)) (fp : List Addr), PG (X.blk s H scope (compEnvC scope cl C X.env) fp) tg (TGo G ix t)) (ht : ∀ (s : Shared) (H : Hp) (C : Addr) (cl : List (Str × Addr)) (fp : List Addr), PTs (X.blk s H scope (compEnvC scope cl C X.env) fp) ifs (TTo G noW fc))
    (he : ∀ (s : Shared) (H : Hp) (C : Addr) (cl : List (Str × Addr)) (fp : List Addr), PE (X.blk s H scope (compEnvC scope cl C X.env) fp) elt (TEo G noW fe)) (hs : ∀ x, foldedSetIterable iter X.env x = pure x := by intro _; rfl)
    (hy : X.N[i]? = some y := by rfl) (hyl : X.env.scope.names.lookup y = some .local := by rfl)
    (hsw : swapsWith (.ListComp elt [⟨tg, iter, ifs, 0⟩] scope pos) (some (.Name y py)) spos.line X.env = pure true := by exact sw_true rfl rfl rfl (by decide +kernel)) :
    PS X (.Assign [.Name y py] (.ListComp elt [⟨tg, iter, ifs, 0⟩] scope pos) spos) (TSo G W (sAsgX (xLc (nm.map (·.2)) fi t fc fe) i)) := ⟨fun pins s σ H E I h => (ps_setLc hc hN hy hyl hsw hi (blkOk_by ok) hg ht he hs).run pins s σ H E I (by
      have hvs : ∀ v ∈ nm.map (·.2), v < σ.length := fun v hv => by
        obtain ⟨p, hp, e⟩ := List.mem_map.mp hv
        rw [I.len]
        subst e
        exact (List.getElem?_eq_some_iff.mp ((blkOk_by ok).ix p hp)).1
      exact tLc_of (fun j hj => by
        have a := List.all_eq_true.mp hix j hj
        simpa using a) σ H _ hvs (tAsgX_of E σ H h))⟩
end
end DL
set_option maxHeartbeats 4000000
/-! DLf: defs and their calls; what is walked. -/
namespace DL
open PySem PyProof.Rows L2
/-! ### what is walked -/
section
variable {G : Gm} {W : WX} {F H F1 H1 : Hp} {σ σ1 : L2.St} {r r1 : En} {X : Cx} {a b c tg : Expr} {pos : Pos} {f g : En → R D}
/-- a reading that hands on what it walks -/
theorem TIo.use {fi : En → R (List D)} {Q : It → Hp → Prop} (h : TIo G W fi σ H Q) : ∃ F r, Rel G F H σ r ∧ match fi r with
  | .ok ds r' => ∀ F' H' J, Go F H (oA σ r) F' H' (oA σ r') → Rel G F' H' σ r' → Yl G J F' ds → Q J H'
  | .ex c d r' => ∀ F' H' cls dd, Go F H (oA σ r) F' H' (oA σ r') → Rel G F' H' σ r' → XOk G F' H' c d cls dd → W cls dd σ H'
  | .st => False := h
def iSeq (f : En → R D) : En → R (List D) := fun r => (f r).bind fun d r1 => match d with
  | .list ds => .ok ds r1
  | .tuple ds => .ok ds r1
  | _ => .st
theorem yl_list {K : PySem.W.Frag} {xs : List V} {ds : List D} {p : Addr} (hK : K = G.K) (h : SqL G.K F p xs) (q : RpL G F xs ds) : Yl G (Itl K p) F ds := by
  subst hK
  refine ⟨fun i F' H' s1 s2 hi => ?_, fun i F' H' s1 s2 hi => ⟨xs, s2.l (s1.l h), by rw [q.len]; omega⟩⟩
  obtain ⟨v, hv, qv⟩ := q.get (List.getElem?_eq_getElem hi)
  have hs := s2.l (s1.l h)
  exact ⟨⟨xs, v, hs, hv⟩, fun x H2 ⟨e, k⟩ => by
    subst e
    have z := k xs hs
    rw [hv] at z
    cases z
    exact ⟨F', _, List.getElem?_eq_getElem hi, Ext.refl _ _, qv.mono s1⟩⟩
theorem yl_tup {K : PySem.W.Frag} {xs : List V} {ds : List D} {p : Addr} (hK : K = G.K) (h : SqT G.K F p xs) (q : RpL G F xs ds) : Yl G (Itt K p) F ds := by
  subst hK
  refine ⟨fun i F' H' s1 s2 hi => ?_, fun i F' H' s1 s2 hi => ⟨xs, s2.t (s1.t h), by rw [q.len]; omega⟩⟩
  obtain ⟨v, hv, qv⟩ := q.get (List.getElem?_eq_getElem hi)
  have hs := s2.t (s1.t h)
  exact ⟨⟨xs, v, hs, hv⟩, fun x H2 ⟨e, k⟩ => by
    subst e
    have z := k xs hs
    rw [hv] at z
    cases z
    exact ⟨F', _, List.getElem?_eq_getElem hi, Ext.refl _ _, qv.mono s1⟩⟩
theorem di_seq (hK : X.K = G.K) (ha : PE X a (TEo G W f)) : PI X tg a (TIo G W (iSeq f)) := ⟨fun pins s σ H Q I ⟨F, r, e, p⟩ => by
  unfold iSeq at p
  cases hf : f r with
  | st => rw [hf] at p; exact p.elim
  | ex c d r' =>
    rw [hf] at p
    exact (pi_list ha).run pins s σ H Q I ⟨F, r, e, by rw [hf]; exact p⟩
  | ok d r' =>
    rw [hf] at p
    simp only [R.bind] at p
    cases d with
    | list ds =>
      refine (pi_list ha).run pins s σ H Q I ⟨F, r, e, ?_⟩
      rw [hf]
      intro F' H' v g e' q
      cases q with
      | @lst pa xs _ h q => exact ⟨pa, rfl, ⟨xs, by rw [hK]; exact SqL.of (e'.sub _ _ h)⟩, p F' H' _ g e' (yl_list hK (SqL.of h) q)⟩
    | tuple ds =>
      refine (pi_tup ha).run pins s σ H Q I ⟨F, r, e, ?_⟩
      rw [hf]
      intro F' H' v g e' q
      cases q with
      | @tup pa xs _ h q => exact ⟨pa, rfl, ⟨xs, by rw [hK]; exact e'.sub.t h⟩, p F' H' _ g e' (yl_tup hK h q)⟩
    | _ => exact p.elim⟩
/-- lo, lo + c, .. -/
def rngD (c : Int) : Int → Nat → List D
  | _, 0 => []
  | lo, n + 1 => .int lo :: rngD c (lo + c) n
theorem rngD_len (c : Int) : ∀ (lo : Int) (n : Nat), (rngD c lo n).length = n
  | _, 0 => rfl
  | lo, n + 1 => by unfold rngD; rw [List.length_cons, rngD_len c _ n]
theorem rngD_get (c : Int) : ∀ (lo : Int) (n i : Nat), i < n → (rngD c lo n)[i]? = some (.int (lo + (i : Int) * c))
  | _, 0, i, h => absurd h (Nat.not_lt_zero i)
  | lo, n + 1, 0, _ => by simp [rngD]
  | lo, n + 1, i + 1, h => by
    unfold rngD
    rw [List.getElem?_cons_succ, rngD_get c (lo + c) n i (by omega)]
    congr 2
    have e : ((i + 1 : Nat) : Int) * c = (i : Int) * c + c := by rw [Int.natCast_add, Int.add_mul]; simp
    rw [e]
    omega
theorem yl_range {lo : Int} {n : Nat} : Yl G (Itr lo n) F (rngD 1 lo n) := by
  refine ⟨fun i F' H' s1 s2 hi => ?_, fun i F' H' s1 s2 hi => by rw [rngD_len] at hi; exact Nat.le_of_eq hi⟩
  rw [rngD_len] at hi
  refine ⟨hi, fun x H2 ⟨e, k⟩ => ?_⟩
  subst e k
  refine ⟨F', _, rngD_get 1 lo n i hi, Ext.refl _ _, ?_⟩
  rw [Int.mul_one]
  exact .int _
theorem yl_rangeC {lo c : Int} {n : Nat} : Yl G (Itc lo c n) F (rngD c lo n) := by
  refine ⟨fun i F' H' s1 s2 hi => ?_, fun i F' H' s1 s2 hi => by rw [rngD_len] at hi; exact Nat.le_of_eq hi⟩
  rw [rngD_len] at hi
  refine ⟨hi, fun x H2 ⟨e, k⟩ => ?_⟩
  subst e k
  exact ⟨F', _, rngD_get c lo n i hi, Ext.refl _ _, .int _⟩
def inR (i : Int) : Bool := decide (-4611686018427387904 ≤ i) && decide (i < 4611686018427387904)
theorem inR_of {i : Int} (h : inR i = true) : -(2 ^ 62) ≤ i ∧ i < 2 ^ 62 := by
  unfold inR at h
  rw [Bool.and_eq_true, decide_eq_true_eq, decide_eq_true_eq] at h
  exact h
/-- what follows an expression in a walk's reading -/
def TIp (G : Gm) (W : WX) (x : R (List D)) (F H : Hp) (σ : L2.St) (r : En) (Q : It → Hp → Prop) : Prop := match x with
  | .ok es r' => ∀ F' H' J, Go F H (oA σ r) F' H' (oA σ r') → Rel G F' H' σ r' → Yl G J F' es → Q J H'
  | .ex c d r' => ∀ F' H' cls dd, Go F H (oA σ r) F' H' (oA σ r') → Rel G F' H' σ r' → XOk G F' H' c d cls dd → W cls dd σ H'
  | .st => False
theorem TIp.bind {α β : Type} {rel : Hp → β → α → Prop} {x : R α} {k : α → En → R (List D)} {Q : It → Hp → Prop} (h : TIp G W (x.bind k) F H σ r Q) :
    Pt G W rel x F H σ r (fun b H1 => ∃ a F1 r1, Sub F F1 ∧ Rel G F1 H1 σ r1 ∧ rel F1 b a ∧ TIp G W (k a r1) F1 H1 σ r1 Q) := by
  cases x with
  | ok a r' =>
    intro F' H' b g e q
    refine ⟨a, F', r', g.sub, e, q, ?_⟩
    have h : TIp G W (k a r') F H σ r Q := h
    cases hk : k a r' with
    | ok es r2 => rw [hk] at h; exact fun F2 H2 J g2 => h F2 H2 J (g.trans g2)
    | ex c d r2 => rw [hk] at h; exact fun F2 H2 cls dd g2 => h F2 H2 cls dd (g.trans g2)
    | st => rw [hk] at h; exact h
  | ex c d r' => exact h
  | st => exact h
theorem TIp.here {es : List D} {J : It} {Q : It → Hp → Prop} (h : TIp G W (.ok es r) F H σ r Q) (e : Rel G F H σ r) (y : Yl G J F es) : Q J H := h F H J (Go.refl fun _ z => z) e y
def iRg1 (f : En → R D) : En → R (List D) := fun r => (f r).bind fun x r1 => match x with
  | .int j => if inR j = true then .ok (rngD 1 0 j.toNat) r1 else .st
  | _ => .st
def iRg2 (f g : En → R D) : En → R (List D) := fun r => (f r).bind fun x r1 => (g r1).bind fun y r2 => match x, y with
  | .int i, .int j => if (inR i && inR j) = true then .ok (rngD 1 i (j - i).toNat) r2 else .st
  | _, _ => .st
def rgOk (i j c : Int) : Bool := decide (c ≠ 0) && decide (c.natAbs < 1073741824) && Builtin.Range.small i j c && decide (Builtin.Range.rangeSize i j c = ((Builtin.Range.rangeSize i j c).toNat : Int))
def iRg3 (f g h : En → R D) : En → R (List D) := fun r => (f r).bind fun x r1 => (g r1).bind fun y r2 => (h r2).bind fun z r3 => match x, y, z with
  | .int i, .int j, .int c => if rgOk i j c = true then .ok (rngD c i (Builtin.Range.rangeSize i j c).toNat) r3 else .st
  | _, _, _ => .st
theorem di_range1 {p : Pos} (hm : X.mg "range" = none) (ha : PE X a (TEo G W f)) (hg : Gl X "range" := by rfl) (hs : starEach [a] X.env = [(false, eval a X.env)] := by rfl) : PI X tg (.Call (.Name "range" p) [a] [] pos) (TIo G W (iRg1 f)) :=
  pi_of (pi_range1 hg hm (pa_cons ha pa_nil hs) hs) fun σ H Q ⟨F, r, e, p⟩ => by
    have p : TIp G W (iRg1 f r) F H σ r Q := p
    refine ⟨F, r, e, (TIp.bind (rel := rV G) p).mono fun v H1 ⟨x, F1, r1, _, e1, q1, p1⟩ => ?_⟩
    cases q1 with
    | int j =>
      simp only at p1
      split at p1
      · rename_i hz
        exact ⟨j, rfl, (inR_of hz).1, (inR_of hz).2, p1.here e1 yl_range⟩
      · exact p1.elim
    | _ => exact p1.elim
theorem di_range2 {p : Pos} (hm : X.mg "range" = none) (ha : PE X a (TEo G W f)) (hb : PE X b (TEo G W g)) (hg : Gl X "range" := by rfl) (hs : starEach [a, b] X.env = [(false, eval a X.env), (false, eval b X.env)] := by rfl) (hs2 : starEach [b] X.env = [(false, eval b X.env)] := by rfl) :
    PI X tg (.Call (.Name "range" p) [a, b] [] pos) (TIo G W (iRg2 f g)) :=
  pi_of (pi_range2 hg hm (pa_cons ha (pa_cons hb pa_nil hs2) (by rw [hs, hs2])) hs hs2) fun σ H Q ⟨F, r, e, p⟩ => by
    have p : TIp G W (iRg2 f g r) F H σ r Q := p
    refine ⟨F, r, e, (TIp.bind (rel := rV G) p).mono fun v H1 ⟨x, F1, r1, _, e1, q1, p1⟩ => ⟨F1, r1, e1, (TIp.bind (rel := rV G) p1).mono fun w H2 ⟨y, F2, r2, _, e2, q2, p2⟩ => ?_⟩⟩
    cases q1 with
    | int i =>
      cases q2 with
      | int j =>
        simp only at p2
        split at p2
        · rename_i hz
          rw [Bool.and_eq_true] at hz
          exact ⟨i, j, rfl, ⟨(inR_of hz.1).1, (inR_of hz.1).2, (inR_of hz.2).1, (inR_of hz.2).2⟩, p2.here e2 yl_range⟩
        · exact p2.elim
      | _ => exact p2.elim
    | _ => exact p2.elim
theorem di_range3 {h : En → R D} {p : Pos} (hm : X.mg "range" = none) (ha : PE X a (TEo G W f)) (hb : PE X b (TEo G W g)) (hc : PE X c (TEo G W h)) (hg : Gl X "range" := by rfl) (hs : starEach [a, b, c] X.env = (false, eval a X.env) :: starEach [b, c] X.env := by rfl) (hs2 : starEach [b, c] X.env = (false, eval b X.env) :: starEach [c] X.env := by rfl)
    (hs3 : starEach [c] X.env = (false, eval c X.env) :: starEach [] X.env := by rfl) (hpl : (backTo pos (starEach [b, c] X.env)).any (·.1) = false := by rfl) :
    PI X tg (.Call (.Name "range" p) [a, b, c] [] pos) (TIo G W (iRg3 f g h)) :=
  pi_of (pi_range3 hg hm (pa_cons ha (pa_cons hb (pa_cons hc pa_nil hs3) hs2) hs) hs hpl) fun σ H Q ⟨F, r, e, p⟩ => by
    have p : TIp G W (iRg3 f g h r) F H σ r Q := p
    refine ⟨F, r, e, (TIp.bind (rel := rV G) p).mono fun v H1 ⟨x, F1, r1, _, e1, q1, p1⟩ => ⟨F1, r1, e1, (TIp.bind (rel := rV G) p1).mono fun w H2 ⟨y, F2, r2, _, e2, q2, p2⟩ => ⟨F2, r2, e2, (TIp.bind (rel := rV G) p2).mono fun u H3 ⟨z, F3, r3, _, e3, q3, p3⟩ => ?_⟩⟩⟩
    cases q1 with
    | int i =>
      cases q2 with
      | int j =>
        cases q3 with
        | int k =>
          simp only at p3
          split at p3
          · rename_i hz
            unfold rgOk at hz
            simp only [Bool.and_eq_true, decide_eq_true_eq] at hz
            exact ⟨i, j, k, _, rfl, ⟨hz.1.1.1, hz.1.1.2, hz.1.2, hz.2⟩, p3.here e3 yl_rangeC⟩
          · exact p3.elim
        | _ => exact p3.elim
      | _ => exact p3.elim
    | _ => exact p3.elim
end

/-! ### defs -/
/-- what a call gives: its value, the list that was handed in as it stands behind the call -/
inductive Rf where
  | rt (s : Sl) (io : Option (List D))
  | ex (c : Nat) (d : Option D)
  | st
def ioOf : En → Option (List D)
  | [] => none
  | .io ds :: _ => some ds
  | _ :: r => ioOf r
def ioS : Option (List D) → Sl
  | some ds => .io ds
  | none => .no
def notIo : Sl → Bool
  | .io _ => false
  | .no => false
  | _ => true
def runF (n m : Nat) (f : En → Fl) (args : En) : Rf := if args.length = m then (match f (args ++ List.replicate (n - m) .no) with
  | .nx r => .rt (.vl .none) (ioOf r)
  | .rt s r => if notIo s = true then .rt s (ioOf r) else .st
  | .ex c d _ => .ex c d
  | _ => .st) else .st
def spD (G : Gm) (fD : En → Rf) : Sp := fun vs H Q E => ∃ pd F args, Rel { G with pd := pd } F H (vs.map some) args ∧ match fD args with
  | .rt s io => ∀ F' H' v, Go F H (oA (vs.map some) args) F' H' (oA [some v, some (.ref pd)] [s, ioS io]) → Rel { G with pd := pd } F' H' [some v, some (.ref pd)] [s, ioS io] → Q v H'
  | .ex c d => ∀ F' H' cls dd, Go F H (oA (vs.map some) args) F' H' noO → Rel { G with pd := pd } F' H' [] [] → XOk G F' H' c d cls dd → E cls dd H'
  | .st => False
/-- a def keeps its promise; gu: what runs around stands in no repr -/
structure FnG (gu : Bool) (P : Program) (w : World) (K : PySem.W.Frag) (mg : Str → Option Value) (base : Heap) (k : Nat) (f : Addr) (fd : FuncData) (ps : List Str) (sp : Sp) : Prop where
  len : ∀ vs H Q E, sp vs H Q E → vs.length = ps.length
  run : ∀ (A : Around) (outer : List Env) (s : Shared) (H : Hp) (args : Args) (us : List Value) (vs : List V) (Q : VK) (E : XK), (gu = true → A.guards = some []) → Room k A → Env0 P w K mg base A outer s H → BindsTo s fd args (ps.zip us) → Vals vs us → sp vs H Q E →
    codeAny (model P w) A (.call (.ref f) args) (CR (L2.CX P w) outer P w H s Q E) s
theorem ioOf_at : ∀ {r : En} {ds : List D}, ioOf r = some ds → ∃ i : Nat, r[i]? = some (Sl.io ds)
  | [], _, h => nomatch h
  | s :: r, ds, h => by
    cases s with
    | io es => cases h; exact ⟨0, rfl⟩
    | _ =>
      obtain ⟨i, e⟩ := ioOf_at (r := r) (ds := ds) h
      exact ⟨i + 1, e⟩
section
variable {G : Gm} {F H F' H' : Hp} {σ : L2.St} {r : En}
/-- what is left of the names at a def's end -/
theorem Rel.leave {v : V} {s : Sl} (h : Rel G F H (σ ++ [some v]) (r ++ [s])) (hs : notIo s = true) : Rel G F H [some v, some (.ref G.pd)] [s, ioS (ioOf r)] ∧ ∀ a, oA [some v, some (.ref G.pd)] [s, ioS (ioOf r)] a → oA (σ ++ [some v]) (r ++ [s]) a := by
  have hl := h.init.len
  have io : ∀ {ds}, ioOf r = some ds → ∃ i, i < r.length ∧ (r ++ [s])[i]? = some (.io ds) ∧ (σ ++ [some v])[i]? = some (some (.ref G.pd)) ∧ OwnL G F H G.pd ds := fun {ds} e => by
    obtain ⟨i, ei⟩ := ioOf_at e
    obtain ⟨w, e1, e2, e3⟩ := h.init.at ei
    subst e2
    have hi := (List.getElem?_eq_some_iff.mp ei).1
    exact ⟨i, hi, by rw [get_snoc hi]; exact ei, by rw [get_snoc (by rw [hl]; exact hi)]; exact e1, e3⟩
  have two : ∀ {α : Type} {x y z : α} {i : Nat}, ([x, y] : List α)[i]? = some z → (i = 0 ∧ x = z) ∨ (i = 1 ∧ y = z) := fun {α x y z i} e => by
    match i, e with
    | 0, e => exact .inl ⟨rfl, Option.some.inj e⟩
    | 1, e => exact .inr ⟨rfl, Option.some.inj e⟩
  refine ⟨⟨h.sub, h.ntb, h.tabs, rfl, fun i t w e1 e2 => ?_, fun i j t u p e1 e2 m1 m2 e3 e4 => ?_⟩, fun a ⟨i, t, e1, m, e2⟩ => ?_⟩
  · rcases two e1 with ⟨a, b⟩ | ⟨a, b⟩
    · subst a b; cases e2; exact h.last
    · subst a b
      cases e2
      cases q : ioOf r with
      | none => trivial
      | some ds => obtain ⟨_, _, _, _, k⟩ := io q; exact ⟨rfl, k⟩
  · have cross : ∀ {p : Addr}, s.mine = true → v = .ref p → (ioS (ioOf r)).mine = true → G.pd = p → False := fun {p} m ev m2 ep => by
      cases q : ioOf r with
      | none => rw [q] at m2; cases m2
      | some ds =>
        obtain ⟨i, hi, a1, a2, _⟩ := io q
        have z := h.apart i r.length (.io ds) s p a1 get_last rfl m (by rw [a2, ep]) (by rw [← hl, ev]; exact get_last)
        omega
    rcases two e1 with ⟨a, b⟩ | ⟨a, b⟩
    · rcases two e2 with ⟨a', b'⟩ | ⟨a', b'⟩
      · rw [a, a']
      · subst a a' b b'
        cases e3
        exact (cross m1 rfl m2 (by have := Option.some.inj e4; cases this; rfl)).elim
    · rcases two e2 with ⟨a', b'⟩ | ⟨a', b'⟩
      · subst a a' b b'
        cases e4
        exact (cross m2 rfl m1 (by have := Option.some.inj e3; cases this; rfl)).elim
      · rw [a, a']
  · rcases two e1 with ⟨a', b⟩ | ⟨a', b⟩
    · subst a' b
      cases e2
      exact ⟨r.length, s, get_last, m, by rw [← hl]; exact get_last⟩
    · subst a' b
      cases q : ioOf r with
      | none => rw [q] at m; cases m
      | some ds =>
        obtain ⟨i, _, a1, a2, _⟩ := io q
        cases e2
        exact ⟨i, _, a1, rfl, a2⟩
end
section
variable {P : Program} {w : World} {K : PySem.W.Frag} {mg : Str → Option Value} {base : Heap} {G : Gm}
theorem rel_start {F H : Hp} {vs : List V} {args : En} {n m : Nat} (h : Rel G F H (vs.map some) args) (hm : args.length = m) : Rel G F H (vs.map some ++ List.replicate (n - m) none) (args ++ List.replicate (n - m) .no) ∧ ∀ a, oA (vs.map some ++ List.replicate (n - m) none) (args ++ List.replicate (n - m) .no) a → oA (vs.map some) args a := by
  have old : ∀ {i : Nat} {s : Sl}, (args ++ List.replicate (n - m) Sl.no)[i]? = some s → (args[i]? = some s ∧ (vs.map some ++ List.replicate (n - m) none)[i]? = (vs.map some)[i]?) ∨ s = .no := fun {i s} e => by
    by_cases hi : i < args.length
    · rw [List.getElem?_append_left hi] at e
      exact .inl ⟨e, List.getElem?_append_left (by rw [h.len]; exact hi)⟩
    · rw [List.getElem?_append_right (by omega)] at e
      have := List.mem_of_getElem? e
      exact .inr (List.eq_of_mem_replicate this)
  refine ⟨⟨h.sub, h.ntb, h.tabs, by rw [List.length_append, List.length_append, h.len]; simp, fun i s v e1 e2 => ?_, fun i j s t p e1 e2 m1 m2 e3 e4 => ?_⟩, fun a ⟨i, s, e1, m1, e2⟩ => ?_⟩
  · rcases old e1 with ⟨a, b⟩ | a
    · rw [b] at e2; exact h.slot i s v a e2
    · subst a; trivial
  · rcases old e1 with ⟨a, b⟩ | a
    · rcases old e2 with ⟨a', b'⟩ | a'
      · rw [b] at e3; rw [b'] at e4; exact h.apart i j s t p a a' m1 m2 e3 e4
      · subst a'; cases m2
    · subst a; cases m1
  · rcases old e1 with ⟨a, b⟩ | a
    · rw [b] at e2; exact ⟨i, s, a, m1, e2⟩
    · subst a; cases m1
/-- THE RULE of a def -/
theorem fnG {gu : Bool} {x qual : Str} {st : Stmt} {f : Addr} {fd : FuncData} {N ps : List Str} {k : Nat} {fB : En → Fl} (F : Fun K x qual st f fd) (S : FnScope N ps (defScope st))
    (hbody : ∀ (pd : Addr) (cdv : Value) (A : Around) (outer : List Env) (s : Shared) (H : Hp) (E : XK), Room k (A.deeper (envOfC qual (defScope st) s.heap.objs.size f cdv)) → (gu = true → A.guards = some []) →
      PSs (cxOf (L2.CX P w) P w K mg base N qual (defScope st) f cdv A outer s H E) (defBody st) (TSo { G with pd := pd } (fun cls d _ H => E cls d H) fB)) :
    FnG gu P w K mg base (k + 1) f fd ps (spD G (runF N.length ps.length fB)) := by
  obtain ⟨oc, od, kV, doc, pm, an, cdv, ct, osl, rfl, lk, hcd⟩ := F.ex
  have len : ∀ vs H Q E, spD G (runF N.length ps.length fB) vs H Q E → vs.length = ps.length := fun vs H Q E ⟨pd, F0, args, e, p⟩ => by
    have l := e.len
    rw [List.length_map] at l
    unfold runF at p
    split at p
    · rename_i hz
      split at hz
      · rename_i h0; rw [l]; exact h0
      · cases hz
    · rename_i hz
      split at hz
      · rename_i h0; rw [l]; exact h0
      · cases hz
    · exact p.elim
  refine ⟨len, fun A outer s H args us vs Q E hgu hr e0 hb r hsp => ?_⟩
  have hl := len vs H Q E hsp
  refine LamX.run_ofS lk hcd S hr e0 hb r hl fun hr' => ?_
  obtain ⟨pd, F0, ar, e, p⟩ := hsp
  refine ⟨_, hbody pd cdv A outer s H E hr' hgu, ?_⟩
  have hal : ar.length = ps.length := by rw [← e.len, List.length_map]; exact hl
  obtain ⟨e1, o1⟩ := rel_start (n := N.length) e hal
  have es : vs.map some ++ List.replicate (N.length - ps.length) none = L2.start N vs := by unfold L2.start; rw [hl]
  rw [es] at e1 o1
  refine ⟨F0, _, e1, ?_⟩
  unfold runF at p
  rw [if_pos hal] at p
  cases hf : fB (ar ++ List.replicate (N.length - ps.length) .no) with
  | nx r' =>
    simp only [hf] at p
    intro F' H' σ' g e'
    obtain ⟨a1, a2⟩ := (e'.val .non).leave rfl
    exact p F' H' .non (g.wide o1 fun a z => (g.own a (own_val e'.len (a2 a z))).imp (o1 a) id) a1
  | rt s' r' =>
    simp only [hf] at p
    split at p
    · rename_i hq
      split at hq
      · rename_i hio
        cases hq
        intro F' H' σ' v g e'
        obtain ⟨a1, a2⟩ := e'.leave hio
        exact p F' H' v (g.wide o1 fun a z => (g.own a (a2 a z)).imp (o1 a) id) a1
      · cases hq
    · rename_i hq
      split at hq
      · cases hq
      · cases hq
    · exact p.elim
  | ex c d r' =>
    simp only [hf] at p
    intro F' H' σ' cls dd g e' x
    exact p F' H' cls dd (g.wide o1 fun a z => z.elim) ⟨e'.sub, e'.ntb, e'.tabs, rfl, fun i s v e1 => by simp at e1, fun i j s t p e1 => by simp at e1⟩ x
  | bk r' => simp only [hf] at p
  | ct r' => simp only [hf] at p
  | st => simp only [hf] at p
end
end DL
set_option maxHeartbeats 4000000
/-! DLg: calls of defs. -/
namespace DL
open PySem PyProof.Rows L2
section
variable {G : Gm} {W : WX} {F H F1 H1 F' H' : Hp} {σ σ1 : L2.St} {r r1 : En} {X : Cx} {a b c tg : Expr} {pos : Pos} {f g : En → R D}
/-- the callee runs, from a place where W is wished of exceptions -/
theorem run_fnG {gu : Bool} {k : Nat} {f : Addr} {fd : FuncData} {ps : List Str} {sp : Sp} {pins : List (Addr × Obj)} {σ : L2.St} {H : Hp} {s : Shared} {Q : VK} {us : List Value} {vs : List V} (Fn : FnG gu X.prog X.w X.K X.mg X.base k f fd ps sp) (hr : Room k X.A) (hgu : gu = true → X.A.guards = some [])
    (hb : Binds X.K fd ps []) (tk : Takes X W) (I : L2.Inv X pins σ H s) (rv : Vals vs us) (h : sp vs H Q (fun cls d H => W cls d σ H)) : wpAny (model X.prog X.w) X.A (call (.ref f) us) (EP X pins σ Q) X.xe s := by
  have hl : us.length = ps.length := by rw [← rv.length]; exact Fn.len _ _ _ _ h
  have bt := hb s us I.kIn (by rw [List.append_nil]; exact hl)
  rw [List.append_nil] at bt
  refine wpAny_call (codeAny_mono (Fn.run X.A X.stack s H ⟨us, []⟩ us vs Q _ hgu hr I.env0 bt rv h) fun res s' hq => ?_)
  cases res with
  | error e => exact passAt tk σ pins H s e s' I hq
  | ok fl =>
    cases fl with
    | ret u => exact I.after hq
    | next => exact False.elim hq
    | brk => exact False.elim hq
    | cont => exact False.elim hq
def tCallG (sp : Sp) (W : WX) (t : TA) : TE := fun σ H Q => t σ H fun vs H1 => sp vs H1 Q (fun cls d H => W cls d σ H)
theorem pe_callG {gu : Bool} {k : Nat} {f : Addr} {fd : FuncData} {ps : List Str} {sp : Sp} {x : Str} {p : Pos} {e : Expr} {es : List Expr} {t : TA} (Fn : FnG gu X.prog X.w X.K X.mg X.base k f fd ps sp) (hr : Room k X.A) (hgu : gu = true → X.A.guards = some []) (hm : X.mg x = some (.ref f)) (hk : PySem.W.keepIn X.K (.ref f) = true)
    (hb : Binds X.K fd ps []) (tk : Takes X W) (ha : PA X (e :: es) t) (hg : Gl X x := by rfl) (hdb : (x == ("__debug__" : Str)) = false := by decide) (he : starEach (e :: es) X.env = (false, eval e X.env) :: starEach es X.env := by rfl) (hpl : (backTo pos (starEach es X.env)).any (·.1) = false := by rfl) :
    PE X (.Call (.Name x p) (e :: es) [] pos) (tCallG sp W t) := ⟨fun pins s σ H Q I h => by
  refine wpAny_Call_Name_kw (ld_glob I hg hm ?_ hdb)
  exact PySem.W.callWith_K (h₀ := X.base) I.ok.mod.kin hk (thn (ha.run pos pins s σ H _ I h) fun us s1 ⟨vs, H1, I1, rv, q⟩ => ⟨I1.kIn, run_fnG Fn hr hgu hb tk I1 rv q⟩) he hpl⟩
theorem pe_callG0 {gu : Bool} {k : Nat} {f : Addr} {fd : FuncData} {ps : List Str} {sp : Sp} {x : Str} {p : Pos} (Fn : FnG gu X.prog X.w X.K X.mg X.base k f fd ps sp) (hr : Room k X.A) (hgu : gu = true → X.A.guards = some []) (hm : X.mg x = some (.ref f)) (hk : PySem.W.keepIn X.K (.ref f) = true)
    (hb : Binds X.K fd ps []) (tk : Takes X W) (hg : Gl X x := by rfl) (hdb : (x == ("__debug__" : Str)) = false := by decide) :
    PE X (.Call (.Name x p) [] [] pos) (tCallG sp W tNil) := ⟨fun pins s σ H Q I h => by
  refine wpAny_Call_Name_kw (ld_glob I hg hm ?_ hdb)
  exact PySem.W.callWith_K0 I.kIn hk (run_fnG (us := []) Fn hr hgu hb tk I .nil h)⟩
/-- behind what owns nothing of ours -/
theorem Rel.pass {O O' : Addr → Prop} (h : Rel G F H σ r) (g : Go F H O F' H' O') (hO : ∀ a, O a → ¬ oA σ r a) (hs : Sub F' H') (hn : ∀ a ps, F' a ≠ some (.tbl ps)) (ht : LamX.Tabs G.T H') : Rel G F' H' σ r := by
  refine ⟨hs, hn, ht, h.len, fun i s v e1 e2 => (h.slot i s v e1 e2).mono g.sub fun p m ev => ?_, h.apart⟩
  subst ev
  have hp : oA σ r p := ⟨i, s, e1, m, e2⟩
  obtain ⟨n1, o, n2, n3⟩ := h.own hp
  refine ⟨?_, fun o' q1 q2 => g.keep p o' q1 (fun z => hO p z hp) q2⟩
  cases q : F' p with
  | none => rfl
  | some u =>
    rcases g.new p u q with z | z | z
    · rw [n1] at z; cases z
    · rw [n2] at z; cases z
    · exact absurd hp (hO p z)
theorem rel_vals {vs : List V} {ds : List D} (h : Rel G F H σ r) (q : RpL G F vs ds) (pd : Addr) : Rel { G with pd := pd } F H (vs.map some) (ds.map Sl.vl) ∧ ∀ a, ¬ oA (vs.map some) (ds.map Sl.vl) a := by
  have nm : ∀ {i : Nat} {s : Sl}, (ds.map Sl.vl)[i]? = some s → ∃ d, ds[i]? = some d ∧ s = .vl d := fun {i s} e => by
    rw [List.getElem?_map] at e
    cases hd : ds[i]? with
    | none => rw [hd] at e; cases e
    | some d => rw [hd] at e; exact ⟨d, rfl, (Option.some.inj e).symm⟩
  refine ⟨⟨h.sub, h.ntb, h.tabs, by rw [List.length_map, List.length_map]; exact q.len, fun i s v e1 e2 => ?_, fun i j s t p e1 e2 m1 => ?_⟩, fun a ⟨i, s, e1, m, e2⟩ => ?_⟩
  · obtain ⟨d, hd, es⟩ := nm e1
    subst es
    obtain ⟨x, hx, qx⟩ := q.get hd
    rw [List.getElem?_map, hx] at e2
    cases e2
    exact ⟨x, rfl, qx⟩
  · obtain ⟨d, _, es⟩ := nm e1
    subst es
    cases m1
  · obtain ⟨d, _, es⟩ := nm e1
    subst es
    cases m
/-- f(e, ..), whose arguments are data -/
def xCall (fD : En → Rf) (fs : En → R (List D)) : En → R Sl := fun r => (fs r).bind fun ds r1 => match fD (ds.map .vl) with
  | .rt s none => .ok s r1
  | .ex c d => .ex c d r1
  | _ => .st
theorem tCallG_of {fD : En → Rf} {fs : En → R (List D)} (σ : L2.St) (H : Hp) (Q : VK) : TXo G W (xCall fD fs) σ H Q → tCallG (spD G fD) W (TAo G W fs) σ H Q := fun ⟨F, r, e, p⟩ => by
  refine ⟨F, r, e, ?_⟩
  unfold xCall at p
  cases hf : fs r with
  | st => rw [hf] at p; exact p
  | ex c d r' => rw [hf] at p; exact p
  | ok ds r1 =>
    rw [hf] at p
    simp only [R.bind] at p
    intro F1 H1 vs g1 e1 q
    obtain ⟨ea, na⟩ := rel_vals e1 q G.pd
    refine ⟨G.pd, F1, ds.map .vl, ea, ?_⟩
    cases hd : fD (ds.map .vl) with
    | st => rw [hd] at p; exact p
    | ex c d =>
      rw [hd] at p
      intro F' H' cls dd g e' x
      exact p F' H' cls dd (g1.trans (g.wide (fun a z => (na a z).elim) fun a z => .inl z)) (e1.pass g (fun a z => (na a z).elim) e'.sub e'.ntb e'.tabs) x
    | rt s io =>
      rw [hd] at p
      cases io with
      | some _ => exact p.elim
      | none =>
        simp only at p
        intro F' H' v g e'
        have e2 := e1.pass g (fun a z => (na a z).elim) e'.sub e'.ntb e'.tabs
        have hs : SlOk G F' H' (some v) s := e'.slot 0 s (some v) rfl rfl
        have own0 : ∀ p, s.mine = true → v = .ref p → H1 p = none := fun p m ev => by
          rcases g.own p ⟨0, s, rfl, m, congrArg (fun z => some (some z)) ev⟩ with z | z
          · exact (na p z).elim
          · exact z
        refine p F' H' v (g1.trans (g.wide (fun a z => (na a z).elim) fun a z => ?_)) (e2.snoc hs fun p m ev z => ?_)
        · rcases own_snoc e2.len z with z | ⟨m, ev⟩
          · exact .inl z
          · exact .inr (own0 a m ev)
        · obtain ⟨_, o, eo, _⟩ := e1.own z
          rw [own0 p m ev] at eo
          cases eo
theorem dx_call {gu : Bool} {k : Nat} {fa : Addr} {fd : FuncData} {ps : List Str} {fD : En → Rf} {x : Str} {p : Pos} {e : Expr} {es : List Expr} {fs : En → R (List D)} (Fn : FnG gu X.prog X.w X.K X.mg X.base k fa fd ps (spD G fD)) (hr : Room k X.A) (hgu : gu = true → X.A.guards = some []) (hm : X.mg x = some (.ref fa)) (hk : PySem.W.keepIn X.K (.ref fa) = true)
    (hb : Binds X.K fd ps []) (tk : Takes X W) (ha : PA X (e :: es) (TAo G W fs)) (hg : Gl X x := by rfl) (hdb : (x == ("__debug__" : Str)) = false := by decide) (he : starEach (e :: es) X.env = (false, eval e X.env) :: starEach es X.env := by rfl) (hpl : (backTo pos (starEach es X.env)).any (·.1) = false := by rfl) :
    PE X (.Call (.Name x p) (e :: es) [] pos) (TXo G W (xCall fD fs)) := pe_of (pe_callG Fn hr hgu hm hk hb tk ha hg hdb he hpl) tCallG_of
/-- f(x, e, ..), the first one a list of ours that the callee may change -/
def xCallI (i : Nat) (fD : En → Rf) (fs : En → R (List D)) : En → R Sl := fun r => if Sl.isM r[i]? = true then (fs r).bind fun es r1 => match r1[i]? with
  | some s0 => match s0.mut with
    | some ds => match fD (.io ds :: es.map .vl) with
      | .rt s (some ds') => .ok s (r1.set i (s0.put ds'))
      | _ => .st
    | none => .st
  | none => .st
  else .st
theorem tCallI_of {i : Nat} {fD : En → Rf} {fs : En → R (List D)} (σ : L2.St) (H : Hp) (Q : VK) : TXo G W (xCallI i fD fs) σ H Q → tCallG (spD G fD) W (tCons (tVar i) (TAo G W fs)) σ H Q := fun ⟨F, r, e, p⟩ => by
  unfold xCallI at p
  by_cases hh : Sl.isM r[i]? = true
  case neg => rw [if_neg hh] at p; exact p.elim
  rw [if_pos hh] at p
  obtain ⟨pa, vs0, hv, hp0⟩ := e.isM hh
  refine ⟨_, hv, F, r, e, ?_⟩
  cases hf : fs r with
  | st => rw [hf] at p; exact p
  | ex c d r' => rw [hf] at p; exact p
  | ok es r1 =>
    rw [hf] at p
    simp only [R.bind] at p
    intro F1 H1 vs g1 e1 q
    cases hs0 : r1[i]? with
    | none => rw [hs0] at p; exact p.elim
    | some s0 =>
      rw [hs0] at p
      cases hds : s0.mut with
      | none => simp only [hds] at p
      | some ds =>
        simp only [hds] at p
        obtain ⟨pa', vsl, ev, h1, h2, h3, mine⟩ := (e1.slot i s0 _ hs0 hv).mut hds
        cases ev
        have hown : oA σ r1 pa := ⟨i, s0, hs0, mine, hv⟩
        obtain ⟨ea, na⟩ := rel_vals e1 q pa
        -- the arguments
        have ea2 : Rel { G with pd := pa } F1 H1 ((V.ref pa :: vs).map some) (.io ds :: es.map .vl) := by
          refine ⟨e1.sub, e1.ntb, e1.tabs, by have := ea.len; simp only [List.map_cons, List.length_cons]; rw [this], fun j s v f1 f2 => ?_, fun j k s t p' f1 f2 m1 m2 f3 f4 => ?_⟩
          · cases j with
            | zero => cases f1; cases f2; exact ⟨rfl, h1, vsl, h2, h3⟩
            | succ j => exact ea.slot j s v f1 f2
          · cases j with
            | zero =>
              cases k with
              | zero => rfl
              | succ k => exact ((na p') ⟨k, t, f2, m2, f4⟩).elim
            | succ j => exact ((na p') ⟨j, s, f1, m1, f3⟩).elim
        have oa2 : ∀ a, oA ((V.ref pa :: vs).map some) (.io ds :: es.map .vl) a → a = pa := fun a ⟨j, s, f1, m, f2⟩ => by
          cases j with
          | zero => cases f2; rfl
          | succ j => exact ((na a) ⟨j, s, f1, m, f2⟩).elim
        refine ⟨pa, F1, _, ea2, ?_⟩
        cases hd : fD (.io ds :: es.map .vl) with
        | st => rw [hd] at p; exact p
        | ex c d => rw [hd] at p; exact p.elim
        | rt s io =>
          rw [hd] at p
          cases io with
          | none => exact p.elim
          | some ds' =>
            simp only at p
            intro F' H' v g e'
            obtain ⟨_, hF', vl', hH', hv'⟩ : SlOk { G with pd := pa } F' H' (some (.ref pa)) (.io ds') := e'.slot 1 (.io ds') _ rfl rfl
            have hs : SlOk { G with pd := pa } F' H' (some v) s := e'.slot 0 s (some v) rfl rfl
            have hil : i < r1.length := (List.getElem?_eq_some_iff.mp hs0).1
            have hmine : (s0.put ds').mine = true := by cases s0 <;> first | rfl | cases hds
            have other : ∀ j t p', j ≠ i → r1[j]? = some t → t.mine = true → σ[j]? = some (some (.ref p')) → p' ≠ pa := fun j t p' hj f1 m f2 z => by
              subst z
              exact hj (e1.apart j i t s0 p' f1 hs0 m mine f2 hv)
            have e2 : Rel G F' H' σ (r1.set i (s0.put ds')) := by
              refine ⟨e'.sub, e'.ntb, e'.tabs, by rw [List.length_set]; exact e1.len, fun j t w f1 f2 => ?_, fun j k t u p' f1 f2 m1 m2 f3 f4 => ?_⟩
              · rcases get_set f1 with ⟨a1, b1, _⟩ | ⟨a1, b1⟩
                · subst a1 b1
                  rw [hv] at f2; cases f2
                  cases s0 with
                  | no => cases hds
                  | od _ => cases hds
                  | fr _ => cases hds
                  | vl _ => cases hds
                  | ow _ => exact ⟨pa, rfl, hF', vl', hH', hv'⟩
                  | io _ =>
                    obtain ⟨e5, _⟩ := e1.slot j _ _ hs0 hv
                    cases e5
                    exact ⟨rfl, hF', vl', hH', hv'⟩
                · refine (e1.slot j t w b1 f2).mono g.sub fun p' m ew => ?_
                  subst ew
                  have hne := other j t p' a1 b1 m f2
                  obtain ⟨n1, o, n2, n3⟩ := e1.own ⟨j, t, b1, m, f2⟩
                  refine ⟨?_, fun o' q1 q2 => g.keep p' o' q1 (fun z => hne (oa2 _ z)) q2⟩
                  cases q : F' p' with
                  | none => rfl
                  | some u =>
                    rcases g.new p' u q with z | z | z
                    · rw [n1] at z; cases z
                    · rw [n2] at z; cases z
                    · exact absurd (oa2 _ z) hne
              · have old : ∀ {m : Nat} {w : Sl}, (r1.set i (s0.put ds'))[m]? = some w → w.mine = true → ∃ w', r1[m]? = some w' ∧ w'.mine = true := fun {m w} ee mw => by
                  rcases get_set ee with ⟨a1, b1, _⟩ | ⟨_, b1⟩
                  · subst a1; exact ⟨s0, hs0, mine⟩
                  · exact ⟨w, b1, mw⟩
                obtain ⟨t', b1, c1⟩ := old f1 m1
                obtain ⟨u', b2, c2⟩ := old f2 m2
                exact e1.apart j k t' u' p' b1 b2 c1 c2 f3 f4
            have oset : ∀ a, oA σ (r1.set i (s0.put ds')) a → oA σ r1 a := fun a ⟨j, t, f1, m, f2⟩ => by
              rcases get_set f1 with ⟨a1, b1, _⟩ | ⟨_, b1⟩
              · subst a1; exact ⟨j, s0, hs0, mine, f2⟩
              · exact ⟨j, t, b1, m, f2⟩
            -- the value's own list is none of ours
            have nio : ∀ p', s.mine = true → v = .ref p' → p' ≠ pa := fun p' m ev z => by
              subst ev z
              have := e'.apart 0 1 s (.io ds') p' rfl rfl m rfl rfl rfl
              cases this
            have own0 : ∀ p', s.mine = true → v = .ref p' → H1 p' = none := fun p' m ev => by
              rcases g.own p' ⟨0, s, rfl, m, congrArg (fun z => some (some z)) ev⟩ with z | z
              · exact absurd (oa2 _ z) (nio p' m ev)
              · exact z
            have hs2 : SlOk G F' H' (some v) s := by
              cases s with
              | io _ =>
                exfalso
                obtain ⟨e5, _⟩ := hs
                cases e5
                exact nio pa rfl rfl rfl
              | _ => exact hs
            refine p F' H' v (g1.trans (g.wide (fun a z => by rw [oa2 a z]; exact hown) fun a z => ?_)) (e2.snoc hs2 fun p' m ev z => ?_)
            · rcases own_snoc e2.len z with z | ⟨m, ev⟩
              · exact .inl (oset a z)
              · exact .inr (own0 a m ev)
            · obtain ⟨_, o, eo, _⟩ := e1.own (oset _ z)
              rw [own0 p' m ev] at eo
              cases eo
theorem dx_callI {i : Nat} {gu : Bool} {k : Nat} {fa : Addr} {fd : FuncData} {ps : List Str} {fD : En → Rf} {x y : Str} {p py : Pos} {es : List Expr} {fs : En → R (List D)} (Fn : FnG gu X.prog X.w X.K X.mg X.base k fa fd ps (spD G fD)) (hr : Room k X.A) (hgu : gu = true → X.A.guards = some []) (hm : X.mg x = some (.ref fa)) (hk : PySem.W.keepIn X.K (.ref fa) = true)
    (hb : Binds X.K fd ps []) (tk : Takes X W) (ha : PA X es (TAo G W fs)) (hN : X.N[i]? = some y := by rfl) (hv : Vis X.env.scope y := by first | exact Or.inl rfl | exact Or.inr (Or.inl rfl) | exact Or.inr (Or.inr rfl)) (hg : Gl X x := by rfl) (hdb : (x == ("__debug__" : Str)) = false := by decide)
    (hdy : (y == ("__debug__" : Str)) = false := by decide) (hcy : (y == ("__classdict__" : Str)) = false := by decide) (he : starEach (.Name y py :: es) X.env = (false, eval (.Name y py) X.env) :: starEach es X.env := by rfl) (hpl : (backTo pos (starEach es X.env)).any (·.1) = false := by rfl) :
    PE X (.Call (.Name x p) (.Name y py :: es) [] pos) (TXo G W (xCallI i fD fs)) := pe_of (pe_callG Fn hr hgu hm hk hb tk (pa_cons (pe_var hN hv hdy hcy) ha he) hg hdb he hpl) tCallI_of
/-- f(x, e, ..), the first one a list that is read alone -/
def xCallR (i : Nat) (fD : En → Rf) (fs : En → R (List D)) : En → R Sl := fun r => match r[i]? with
  | some (.fr xs) => (fs r).bind fun es r1 => match fD (.fr xs :: es.map .vl) with
    | .rt s none => .ok s r1
    | _ => .st
  | _ => .st
theorem tCallR_of {i : Nat} {fD : En → Rf} {fs : En → R (List D)} (σ : L2.St) (H : Hp) (Q : VK) : TXo G W (xCallR i fD fs) σ H Q → tCallG (spD G fD) W (tCons (tVar i) (TAo G W fs)) σ H Q := fun ⟨F, r, e, p⟩ => by
  unfold xCallR at p
  cases hs0 : r[i]? with
  | none => rw [hs0] at p; exact p.elim
  | some s0 =>
    rw [hs0] at p
    cases s0 with
    | fr xs =>
      simp only at p
      obtain ⟨v, hv, pa, vl, ev, h1, h2⟩ := e.at hs0
      subst ev
      refine ⟨_, hv, F, r, e, ?_⟩
      cases hf : fs r with
      | st => rw [hf] at p; exact p
      | ex c d r' => rw [hf] at p; exact p
      | ok es r1 =>
        rw [hf] at p
        simp only [R.bind] at p
        intro F1 H1 vs g1 e1 q
        obtain ⟨ea, na⟩ := rel_vals e1 q G.pd
        have ea2 : Rel { G with pd := G.pd } F1 H1 ((V.ref pa :: vs).map some) (.fr xs :: es.map .vl) := by
          refine ⟨e1.sub, e1.ntb, e1.tabs, by have := ea.len; simp only [List.map_cons, List.length_cons]; rw [this], fun j s v f1 f2 => ?_, fun j k s t p' f1 f2 m1 m2 f3 f4 => ?_⟩
          · cases j with
            | zero => cases f1; cases f2; exact ⟨pa, vl, rfl, g1.sub.l h1, h2.mono g1.sub⟩
            | succ j => exact ea.slot j s v f1 f2
          · cases j with
            | zero => cases f1; cases m1
            | succ j => exact ((na p') ⟨j, s, f1, m1, f3⟩).elim
        have oa2 : ∀ a, ¬ oA ((V.ref pa :: vs).map some) (.fr xs :: es.map .vl) a := fun a ⟨j, s, f1, m, f2⟩ => by
          cases j with
          | zero => cases f1; cases m
          | succ j => exact ((na a) ⟨j, s, f1, m, f2⟩).elim
        refine ⟨G.pd, F1, _, ea2, ?_⟩
        cases hd : fD (.fr xs :: es.map .vl) with
        | st => rw [hd] at p; exact p
        | ex c d => rw [hd] at p; exact p.elim
        | rt s io =>
          rw [hd] at p
          cases io with
          | some _ => exact p.elim
          | none =>
            simp only at p
            intro F' H' v g e'
            have e2 := e1.pass g (fun a z => (oa2 a z).elim) e'.sub e'.ntb e'.tabs
            have hs : SlOk G F' H' (some v) s := e'.slot 0 s (some v) rfl rfl
            have own0 : ∀ p, s.mine = true → v = .ref p → H1 p = none := fun p m ev => by
              rcases g.own p ⟨0, s, rfl, m, congrArg (fun z => some (some z)) ev⟩ with z | z
              · exact (oa2 p z).elim
              · exact z
            refine p F' H' v (g1.trans (g.wide (fun a z => (oa2 a z).elim) fun a z => ?_)) (e2.snoc hs fun p m ev z => ?_)
            · rcases own_snoc e2.len z with z | ⟨m, ev⟩
              · exact .inl z
              · exact .inr (own0 a m ev)
            · obtain ⟨_, o, eo, _⟩ := e1.own z
              rw [own0 p m ev] at eo
              cases eo
    | _ => exact p.elim
theorem dx_callR {i : Nat} {gu : Bool} {k : Nat} {fa : Addr} {fd : FuncData} {ps : List Str} {fD : En → Rf} {x y : Str} {p py : Pos} {es : List Expr} {fs : En → R (List D)} (Fn : FnG gu X.prog X.w X.K X.mg X.base k fa fd ps (spD G fD)) (hr : Room k X.A) (hgu : gu = true → X.A.guards = some []) (hm : X.mg x = some (.ref fa)) (hk : PySem.W.keepIn X.K (.ref fa) = true)
    (hb : Binds X.K fd ps []) (tk : Takes X W) (ha : PA X es (TAo G W fs)) (hN : X.N[i]? = some y := by rfl) (hv : Vis X.env.scope y := by first | exact Or.inl rfl | exact Or.inr (Or.inl rfl) | exact Or.inr (Or.inr rfl)) (hg : Gl X x := by rfl) (hdb : (x == ("__debug__" : Str)) = false := by decide)
    (hdy : (y == ("__debug__" : Str)) = false := by decide) (hcy : (y == ("__classdict__" : Str)) = false := by decide) (he : starEach (.Name y py :: es) X.env = (false, eval (.Name y py) X.env) :: starEach es X.env := by rfl) (hpl : (backTo pos (starEach es X.env)).any (·.1) = false := by rfl) :
    PE X (.Call (.Name x p) (.Name y py :: es) [] pos) (TXo G W (xCallR i fD fs)) := pe_of (pe_callG Fn hr hgu hm hk hb tk (pa_cons (pe_var hN hv hdy hcy) ha he) hg hdb he hpl) tCallR_of
end
end DL
set_option maxHeartbeats 4000000
/-! DLh: operations by data. -/
namespace DL
open PySem PyProof.Rows L2
section
variable {G : Gm} {X : Cx}
/-! ### numbers -/
def rAddA (K : PySem.W.Frag) : R2 := fun x y H Q => rI0 (fun i j => .int (i + j)) x y H Q ∨ (∃ i j, x = .str i ∧ y = .str j ∧ i.length + j.length ≤ sizeLine ∧ Q (.str (i ++ j)) H) ∨ rCatA K x y H Q
theorem op_addA : OpR X (binaryOp .Add) (rAddA X.K) := op_add.or (op_add_str.or op_catA)
def oAdd : D → D → Option D
  | .int i, .int j => some (.int (i + j))
  | .str x, .str y => if x.length + y.length ≤ 1000000 then some (.str (x ++ y)) else none
  | .tuple xs, .tuple ys => if xs.length + ys.length ≤ 1000000 then some (.tuple (xs ++ ys)) else none
  | _, _ => none
theorem rp_int {F : Hp} {v : V} {i : Int} (h : Rp G F v (.int i)) : v = .int i := by cases h; rfl
theorem rp_str {F : Hp} {v : V} {i : Str} (h : Rp G F v (.str i)) : v = .str i := by cases h; rfl
theorem rp_bl {F : Hp} {v : V} {i : Bool} (h : Rp G F v (.bool i)) : v = .bl i := by cases h; rfl
theorem rp_non {F : Hp} {v : V} (h : Rp G F v .none) : v = .non := by cases h; rfl
theorem rp_tup {F : Hp} {v : V} {ds : List D} (h : Rp G F v (.tuple ds)) : ∃ a xs, v = .ref a ∧ SqT G.K F a xs ∧ RpL G F xs ds := by cases h with | tup h1 h2 => exact ⟨_, _, rfl, h1, h2⟩
theorem rp_lst {F : Hp} {v : V} {ds : List D} (h : Rp G F v (.list ds)) : ∃ a xs, v = .ref a ∧ F a = some (.lst xs) ∧ RpL G F xs ds := by cases h with | lst h1 h2 => exact ⟨_, _, rfl, h1, h2⟩
theorem new_tup {F H : Hp} {Q : VK} {vs : List V} {ds : List D} {d : D} (hs : Sub F H) (q : RpL G F vs ds) (hd : d = .tuple ds) (k : ∀ F' H' z, Ext F H F' H' → Rp G F' z d → Q z H') : ∀ p, H p = none → Q (.ref p) (upd H p (.tup vs)) := fun p hp => by
  subst hd
  have hF : F p = none := by
    cases e : F p with
    | none => rfl
    | some u => rw [hs p u e] at hp; cases hp
  exact k _ _ _ (Ext.new hs hp (by intro ps z; cases z)) (.tup (SqT.of upd_same) (q.mono (sub_upd hF)))
theorem od_add : OpD G (rAddA G.K) oAdd := fun x y d F H v w Q h hs q1 q2 k => by
  unfold oAdd at h
  split at h
  · cases h
    rw [rp_int q1, rp_int q2]
    exact .inl ⟨_, _, rfl, rfl, k _ _ _ (Ext.refl _ _) (.int _)⟩
  · split at h
    · rename_i hz
      cases h
      rw [rp_str q1, rp_str q2]
      exact .inr (.inl ⟨_, _, rfl, rfl, small6 hz, k _ _ _ (Ext.refl _ _) (.str _)⟩)
    · cases h
  · split at h
    · rename_i xs ys hz
      cases h
      obtain ⟨a, vs, rfl, h1, h2⟩ := rp_tup q1
      obtain ⟨b, ws, rfl, h3, h4⟩ := rp_tup q2
      refine .inr (.inr ⟨a, b, vs, ws, rfl, rfl, hs.t h1, hs.t h3, small6 (by rw [h2.len, h4.len]; exact hz), fun e => ?_, fun e e' => ?_, fun e e' => ?_⟩)
      · subst e
        cases h2
        exact k _ _ _ (Ext.refl _ _) q2
      · subst e'
        cases h4
        rw [List.append_nil] at k
        exact k _ _ _ (Ext.refl _ _) q1
      · exact new_tup hs (h2.append h4) rfl k
    · cases h
  · cases h
def rIntD (C : Int → Int → Bool) (g : Int → Int → Int) : D → D → Option D
  | .int i, .int j => if C i j = true then some (.int (g i j)) else none
  | _, _ => none
theorem od_int {C : Int → Int → Prop} {c : Int → Int → Bool} {g : Int → Int → Int} (hc : ∀ i j, c i j = true → C i j) : OpD G (rI C fun i j => .int (g i j)) (rIntD c g) := fun x y d F H v w Q h hs q1 q2 k => by
  unfold rIntD at h
  split at h
  · split at h
    · rename_i hz
      cases h
      rw [rp_int q1, rp_int q2]
      exact ⟨_, _, rfl, rfl, hc _ _ hz, k _ _ _ (Ext.refl _ _) (.int _)⟩
    · cases h
  · cases h
def oSub : D → D → Option D
  | .int i, .int j => some (.int (i - j))
  | _, _ => none
theorem od_sub : OpD G (rI0 fun i j => .int (i - j)) oSub := fun x y d F H v w Q h hs q1 q2 k => by
  unfold oSub at h
  split at h
  · cases h
    rw [rp_int q1, rp_int q2]
    exact ⟨_, _, rfl, rfl, k _ _ _ (Ext.refl _ _) (.int _)⟩
  · cases h
/-- a product that the machine takes -/
def mulOk (i j : Int) : Bool := decide (i.natAbs < 18446744073709551616) || decide (j.natAbs < 18446744073709551616) || decide (i.natAbs.log2 + j.natAbs.log2 < 1000000)
def oMul : D → D → Option D := rIntD mulOk (· * ·)
def CMulA (i j : Int) : Prop := CMul i j ∨ CMulW i j
theorem op_mulA : OpR X (binaryOp .Mult) (rI CMulA fun i j => .int (i * j)) := opI fun _ _ _ _ _ _ _ hc q => mul_int q (hc.elim (fun z => z.ok) fun z => z.ok)
theorem mulOk_of (i j : Int) (h : mulOk i j = true) : CMulA i j := by
  unfold mulOk at h
  simp only [Bool.or_eq_true, decide_eq_true_eq] at h
  rcases h with (h | h) | h
  · exact .inl (.inl ⟨by omega, by omega⟩)
  · exact .inl (.inr ⟨by omega, by omega⟩)
  · exact .inr h
theorem od_mul : OpD G (rI CMulA fun i j => .int (i * j)) oMul := od_int mulOk_of
def divOk (j : Int) : Bool := decide (0 < j) && (decide (j < 1073741824) || decide (j.natAbs.log2 < 9000))
def rDivA : R2 := fun x y H Q => rI (fun i j => CDiv i j ∨ CDivW i j) (fun i j => .int (i / j)) x y H Q ∨ rI CDivN (fun i j => .int (i.fdiv j)) x y H Q
theorem op_div0 : OpR X (binaryOp .FloorDiv) (rI (fun i j => CDiv i j ∨ CDivW i j) fun i j => .int (i / j)) := fun pins s σ H x y v u Q I rx ry ⟨i, j, e1, e2, hc, q⟩ => by
  rcases hc with hc | hc
  · exact op_fdiv pins s σ H x y v u Q I rx ry ⟨i, j, e1, e2, hc, q⟩
  · exact op_fdivW pins s σ H x y v u Q I rx ry ⟨i, j, e1, e2, hc, q⟩
theorem op_divA : OpR X (binaryOp .FloorDiv) rDivA := op_div0.or op_fdivN
def oDiv : D → D → Option D
  | .int i, .int j => if divOk j = true then some (.int (i / j)) else if (decide (j < 0) && decide (-1073741824 < j)) = true then some (.int (i.fdiv j)) else none
  | _, _ => none
theorem od_div : OpD G rDivA oDiv := fun x y d F H v w Q h hs q1 q2 k => by
  unfold oDiv at h
  split at h
  · rename_i i j
    rw [rp_int q1, rp_int q2]
    split at h
    · rename_i hz
      cases h
      unfold divOk at hz
      simp only [Bool.and_eq_true, Bool.or_eq_true, decide_eq_true_eq] at hz
      refine .inl ⟨_, _, rfl, rfl, ?_, k _ _ _ (Ext.refl _ _) (.int _)⟩
      rcases hz.2 with z | z
      · exact .inl ⟨hz.1, z⟩
      · exact .inr ⟨hz.1, z⟩
    · split at h
      · rename_i hz
        cases h
        simp only [Bool.and_eq_true, decide_eq_true_eq] at hz
        exact .inr ⟨_, _, rfl, rfl, ⟨by omega, by omega⟩, k _ _ _ (Ext.refl _ _) (.int _)⟩
      · cases h
  · cases h
def rModA : R2 := fun x y H Q => rI (fun _ j => 0 < j) (fun i j => .int (i % j)) x y H Q ∨ rI (fun _ j => j ≠ 0) (fun i j => .int (i.fmod j)) x y H Q
theorem op_modA : OpR X (binaryOp .Mod) rModA := op_mod.or op_modN
def oMod : D → D → Option D
  | .int i, .int j => if decide (0 < j) = true then some (.int (i % j)) else if decide (j < 0) = true then some (.int (i.fmod j)) else none
  | _, _ => none
theorem od_mod : OpD G rModA oMod := fun x y d F H v w Q h hs q1 q2 k => by
  unfold oMod at h
  split at h
  · rename_i i j
    rw [rp_int q1, rp_int q2]
    split at h
    · rename_i hz
      cases h
      exact .inl ⟨_, _, rfl, rfl, of_decide_eq_true hz, k _ _ _ (Ext.refl _ _) (.int _)⟩
    · split at h
      · rename_i hz
        cases h
        have := of_decide_eq_true hz
        exact .inr ⟨_, _, rfl, rfl, by omega, k _ _ _ (Ext.refl _ _) (.int _)⟩
      · cases h
  · cases h
def powOk (i j : Int) : Bool := decide (0 ≤ j) && decide (j ≤ 1000000) && decide (i.natAbs < 18446744073709551616)
def oPow : D → D → Option D := rIntD powOk fun i j => i ^ j.toNat
theorem od_pow : OpD G (rI CPow fun i j => .int (i ^ j.toNat)) oPow := od_int fun i j h => by
  unfold powOk at h
  simp only [Bool.and_eq_true, decide_eq_true_eq] at h
  exact ⟨h.1.1, h.1.2, h.2⟩
def oNeg : D → Option D
  | .int i => some (.int (-i))
  | _ => none
theorem ud_neg : UnD G (rU fun i => .int (-i)) oNeg := fun x d F H v Q h hs q k => by
  unfold oNeg at h
  split at h
  · cases h
    rw [rp_int q]
    exact ⟨_, rfl, k _ _ _ (Ext.refl _ _) (.int _)⟩
  · cases h

/-! ### comparisons -/
def cmpD (p : Int → Int → Bool) : D → D → Option D
  | .int i, .int j => some (.bool (p i j))
  | _, _ => none
theorem od_cmp {p : Int → Int → Bool} : OpD G (rI0 fun i j => .bl (p i j)) (cmpD p) := fun x y d F H v w Q h hs q1 q2 k => by
  unfold cmpD at h
  split at h
  · cases h
    rw [rp_int q1, rp_int q2]
    exact ⟨_, _, rfl, rfl, k _ _ _ (Ext.refl _ _) (.bl _)⟩
  · cases h
def oLt : D → D → Option D := cmpD fun i j => decide (i < j)
def oLe : D → D → Option D := cmpD fun i j => decide (i ≤ j)
def oGt : D → D → Option D := cmpD fun i j => decide (j < i)
def oGe : D → D → Option D := cmpD fun i j => decide (j ≤ i)
mutual
theorem RpI.dp {K : PySem.W.Frag} {fns : Nat → Option Addr} {F H : Hp} (s : Sub F H) : ∀ {v : V} {d : D}, RpI K fns F v d → d.canLay0 = true → Dp K H v d
  | _, _, .non, _ => .non
  | _, _, .bl b, _ => .bl b
  | _, _, .int i, _ => .int i
  | _, _, .str x, _ => .str x
  | _, _, .lst h hs, c => .lst (SqL.of (s _ _ h)) (RpLI.dp s hs (by simpa [PyData.canLay0] using c))
  | _, _, .tup h hs, c => .tup (s.t h) (RpLI.dp s hs (by simpa [PyData.canLay0] using c))
  | _, _, .dct _ _, c => by simp [PyData.canLay0] at c
  | _, _, .dcT _ _, c => by simp [PyData.canLay0] at c
  | _, _, .fn _, c => by simp [PyData.canLay0] at c
theorem RpLI.dp {K : PySem.W.Frag} {fns : Nat → Option Addr} {F H : Hp} (s : Sub F H) : ∀ {vs : List V} {ds : List D}, RpLI K fns F vs ds → PyData.canLayAll0 ds = true → DpAll K H vs ds
  | _, _, .nil, _ => .nil
  | _, _, .cons h hs, c => by
    simp only [PyData.canLayAll0, Bool.and_eq_true] at c
    exact .cons (RpI.dp s h c.1) (RpLI.dp s hs c.2)
end
def oEqB (x y : D) : Option Bool := match x, y with
  | .int i, .int j => some (i == j)
  | .str i, .str j => some (i == j)
  | x, y => if (SeqAt.shaped x && SeqAt.shaped y) = true then some (PyData.eqv x y) else none
theorem oEqB_is {x y : D} {b : Bool} (h : oEqB x y = some b) : (∃ i j, x = .str i ∧ y = .str j ∧ b = (i == j)) ∨ (SeqAt.shaped x = true ∧ SeqAt.shaped y = true ∧ b = PyData.eqv x y) := by
  unfold oEqB at h
  split at h
  · cases h; exact .inr ⟨by simp [SeqAt.shaped, PyData.canLay0, PyData.depth], by simp [SeqAt.shaped, PyData.canLay0, PyData.depth], by simp only [PyData.eqv]⟩
  · cases h; exact .inl ⟨_, _, rfl, rfl, rfl⟩
  · split at h
    · rename_i hz
      rw [Bool.and_eq_true] at hz
      cases h
      exact .inr ⟨hz.1, hz.2, rfl⟩
    · cases h
def oEq (x y : D) : Option D := (oEqB x y).map fun b => .bool b
def oNe (x y : D) : Option D := (oEqB x y).map fun b => .bool (!b)
def rEqZ (K : PySem.W.Frag) : R2 := fun x y H Q => rEq x y H Q ∨ rEqD K x y H Q
def rNeZ (K : PySem.W.Frag) : R2 := fun x y H Q => rNe x y H Q ∨ rNeD K x y H Q
theorem op_eqZ (hu : X.A.units + 64 < cLine) : OpR X (compareOp .Eq) (rEqZ X.K) := op_eq.or (op_eqD hu)
theorem op_neZ (hu : X.A.units + 64 < cLine) : OpR X (compareOp .NotEq) (rNeZ X.K) := op_ne.or (op_neD hu)
theorem od_eq : OpD G (rEqZ G.K) oEq := fun x y d F H v w Q h hs q1 q2 k => by
  unfold oEq at h
  cases hb : oEqB x y with
  | none => rw [hb] at h; cases h
  | some b =>
    rw [hb] at h
    cases h
    rcases oEqB_is hb with ⟨i, j, rfl, rfl, rfl⟩ | ⟨h1, h2, rfl⟩
    · rw [rp_str q1, rp_str q2]
      exact .inl ⟨rfl, by rw [dec_str]; exact k _ _ _ (Ext.refl _ _) (.bl _)⟩
    · exact .inr ⟨x, y, q1.dp hs (SeqAt.canLay_of_shaped h1), q2.dp hs (SeqAt.canLay_of_shaped h2), h1, h2, k _ _ _ (Ext.refl _ _) (.bl _)⟩
theorem od_ne : OpD G (rNeZ G.K) oNe := fun x y d F H v w Q h hs q1 q2 k => by
  unfold oNe at h
  cases hb : oEqB x y with
  | none => rw [hb] at h; cases h
  | some b =>
    rw [hb] at h
    cases h
    rcases oEqB_is hb with ⟨i, j, rfl, rfl, rfl⟩ | ⟨h1, h2, rfl⟩
    · rw [rp_str q1, rp_str q2]
      exact .inl ⟨rfl, by rw [dec_str]; exact k _ _ _ (Ext.refl _ _) (.bl _)⟩
    · exact .inr ⟨x, y, q1.dp hs (SeqAt.canLay_of_shaped h1), q2.dp hs (SeqAt.canLay_of_shaped h2), h1, h2, k _ _ _ (Ext.refl _ _) (.bl _)⟩
def isN : D → Bool
  | .none => true
  | _ => false
theorem isN_of {F : Hp} {v : V} {d : D} (q : Rp G F v d) : decide (v = .non) = isN d := by
  cases q <;> first | rfl | exact decide_eq_false (by intro z; cases z)
def oIsN : D → D → Option D
  | x, .none => some (.bool (isN x))
  | _, _ => none
def oNotN : D → D → Option D
  | x, .none => some (.bool (!isN x))
  | _, _ => none
theorem od_isN : OpD G (fun x y H Q => y = .non ∧ Q (.bl (decide (x = .non))) H) oIsN := fun x y d F H v w Q h hs q1 q2 k => by
  unfold oIsN at h
  split at h
  · cases h
    rw [rp_non q2]
    refine ⟨rfl, ?_⟩
    rw [isN_of q1]
    exact k _ _ _ (Ext.refl _ _) (.bl _)
  · cases h
theorem od_notN : OpD G (fun x y H Q => y = .non ∧ Q (.bl (!decide (x = .non))) H) oNotN := fun x y d F H v w Q h hs q1 q2 k => by
  unfold oNotN at h
  split at h
  · cases h
    rw [rp_non q2]
    refine ⟨rfl, ?_⟩
    rw [isN_of q1]
    exact k _ _ _ (Ext.refl _ _) (.bl _)
  · cases h

/-! ### items -/
def oIx : D → D → Option D
  | .list ds, .int k => atI ds k
  | .tuple ds, .int k => atI ds k
  | .str z, .int k => if z.length ≤ 1000000 then (atI z.cps.toList k).map fun c => .str ⟨#[c]⟩ else none
  | _, _ => none
theorem od_ix : OpD G (rIx G.K) oIx := fun x y d F H v w Q h hs q1 q2 k => by
  unfold oIx at h
  split at h
  · obtain ⟨a, xs, rfl, h1, h2⟩ := rp_lst q1
    rw [rp_int q2]
    obtain ⟨z, hz, qz⟩ := h2.atI h
    exact .inl ⟨a, xs, _, z, rfl, rfl, SqL.of (hs _ _ h1), hz, k _ _ _ (Ext.refl _ _) qz⟩
  · obtain ⟨a, xs, rfl, h1, h2⟩ := rp_tup q1
    rw [rp_int q2]
    obtain ⟨z, hz, qz⟩ := h2.atI h
    exact .inr (.inl ⟨a, xs, _, z, rfl, rfl, hs.t h1, hz, k _ _ _ (Ext.refl _ _) qz⟩)
  · rw [rp_str q1, rp_int q2]
    split at h
    · rename_i hl
      cases hc : atI _ _ with
      | none => rw [hc] at h; cases h
      | some c =>
        rw [hc] at h
        cases h
        exact .inr (.inr ⟨_, _, c, rfl, rfl, small6 hl, hc, k _ _ _ (Ext.refl _ _) (.str _)⟩)
    · cases h
  · cases h

/-! ### built-in functions -/
def cLen : List D → Option D
  | [.list ds] => some (.int ds.length)
  | [.tuple ds] => some (.int ds.length)
  | [.str z] => if z.length ≤ 1000000 then some (.int z.length) else none
  | _ => none
theorem one_of {F : Hp} {vs : List V} {d : D} (q : RpL G F vs [d]) : ∃ v, vs = [v] ∧ Rp G F v d := by
  cases q with
  | cons h t => cases t; exact ⟨_, rfl, h⟩
theorem two_of {F : Hp} {vs : List V} {d e : D} (q : RpL G F vs [d, e]) : ∃ v w, vs = [v, w] ∧ Rp G F v d ∧ Rp G F w e := by
  cases q with
  | cons h t => obtain ⟨w, rfl, h2⟩ := one_of t; exact ⟨_, _, rfl, h, h2⟩
def rLenA (K : PySem.W.Frag) : List V → Hp → VK → Prop := fun xs H Q => (∃ p ys, xs = [.ref p] ∧ (SqL K H p ys ∨ SqT K H p ys) ∧ Q (.int ys.length) H) ∨ ∃ z, xs = [.str z] ∧ z.length ≤ sizeLine ∧ Q (.int z.length) H
theorem call_lenA : CallR X (.builtin "len") (rLenA X.K) := fun pins s σ H xs us Q I r h => by
  rcases h with h | h
  · exact call_len_seq pins s σ H xs us Q I r h
  · exact call_len_str pins s σ H xs us Q I r h
theorem cd_len : CallD G (rLenA G.K) cLen := fun x d F H v Q h hs q k => by
  unfold cLen at h
  split at h
  · cases h
    obtain ⟨v, rfl, qa⟩ := one_of q
    obtain ⟨a, xs, rfl, h1, h2⟩ := rp_lst qa
    refine .inl ⟨a, xs, rfl, .inl (SqL.of (hs _ _ h1)), ?_⟩
    rw [h2.len]
    exact k _ _ _ (Ext.refl _ _) (.int _)
  · cases h
    obtain ⟨v, rfl, qa⟩ := one_of q
    obtain ⟨a, xs, rfl, h1, h2⟩ := rp_tup qa
    refine .inl ⟨a, xs, rfl, .inr (hs.t h1), ?_⟩
    rw [h2.len]
    exact k _ _ _ (Ext.refl _ _) (.int _)
  · split at h
    · rename_i hl
      cases h
      obtain ⟨v, rfl, qa⟩ := one_of q
      rw [rp_str qa]
      exact .inr ⟨_, rfl, small6 hl, k _ _ _ (Ext.refl _ _) (.int _)⟩
    · cases h
  · cases h
def cAbs : List D → Option D
  | [.int i] => some (.int (if i < 0 then -i else i))
  | _ => none
theorem cd_abs : CallD G (fun xs H Q => ∃ i, xs = [.int i] ∧ Q (.int (if i < 0 then -i else i)) H) cAbs := fun x d F H v Q h hs q k => by
  unfold cAbs at h
  split at h
  · cases h
    obtain ⟨v, rfl, qa⟩ := one_of q
    rw [rp_int qa]
    exact ⟨_, rfl, k _ _ _ (Ext.refl _ _) (.int _)⟩
  · cases h
def cMax2 : List D → Option D
  | [.int i, .int j] => some (.int (if j > i then j else i))
  | _ => none
theorem cd_max2 : CallD G (fun xs H Q => ∃ i j, xs = [.int i, .int j] ∧ Q (.int (if j > i then j else i)) H) cMax2 := fun x d F H v Q h hs q k => by
  unfold cMax2 at h
  split at h
  · cases h
    obtain ⟨v, w, rfl, qa, qb⟩ := two_of q
    rw [rp_int qa, rp_int qb]
    exact ⟨_, _, rfl, k _ _ _ (Ext.refl _ _) (.int _)⟩
  · cases h
def cMin2 : List D → Option D
  | [.int i, .int j] => some (.int (if j < i then j else i))
  | _ => none
theorem cd_min2 : CallD G (fun xs H Q => ∃ i j, xs = [.int i, .int j] ∧ Q (.int (if j < i then j else i)) H) cMin2 := fun x d F H v Q h hs q k => by
  unfold cMin2 at h
  split at h
  · cases h
    obtain ⟨v, w, rfl, qa, qb⟩ := two_of q
    rw [rp_int qa, rp_int qb]
    exact ⟨_, _, rfl, k _ _ _ (Ext.refl _ _) (.int _)⟩
  · cases h
def cInt : List D → Option D
  | [.int i] => some (.int i)
  | [.bool b] => some (.int (if b then 1 else 0))
  | _ => none
theorem cd_int : CallD G (fun xs H Q => (∃ i, xs = [.int i] ∧ Q (.int i) H) ∨ ∃ k, xs = [.bl k] ∧ Q (.int (if k then 1 else 0)) H) cInt := fun x d F H v Q h hs q k => by
  unfold cInt at h
  split at h
  · cases h
    obtain ⟨v, rfl, qa⟩ := one_of q
    rw [rp_int qa]
    exact .inl ⟨_, rfl, k _ _ _ (Ext.refl _ _) (.int _)⟩
  · cases h
    obtain ⟨v, rfl, qa⟩ := one_of q
    rw [rp_bl qa]
    exact .inr ⟨_, rfl, k _ _ _ (Ext.refl _ _) (.int _)⟩
  · cases h
/-- the whole numbers of a list of such -/
def intsD : List D → Option (List Int)
  | [] => some []
  | .int i :: r => (intsD r).map (i :: ·)
  | _ :: _ => none
theorem ints_is : ∀ {ds : List D} {ns : List Int}, intsD ds = some ns → ds = ns.map PyData.int
  | [], ns, h => by cases h; rfl
  | d :: r, ns, h => by
    cases d with
    | int i =>
      unfold intsD at h
      cases hr : intsD r with
      | none => rw [hr] at h; cases h
      | some ms => rw [hr] at h; cases h; rw [ints_is hr]; rfl
    | _ => cases h
theorem rp_ints {F : Hp} : ∀ {ns : List Int} {vs : List V}, RpL G F vs (ns.map PyData.int) → vs = ns.map V.int
  | [], _, q => by cases q; rfl
  | n :: ns, _, q => by
    cases q with
    | cons h t => rw [rp_int h, rp_ints t]; rfl
theorem rp_intsO {F : Hp} {ds : List D} {ns : List Int} {vs : List V} (h : intsD ds = some ns) (q : RpL G F vs ds) : vs = ns.map V.int := by
  rw [ints_is h] at q
  exact rp_ints q
/-- a sum, from the left -/
def sumD : List D → Option Int
  | [] => some 0
  | .int i :: r => (sumD r).map (i + ·)
  | _ :: _ => none
theorem sumD_is : ∀ {ds : List D} {n : Int}, sumD ds = some n → ∃ ns : List Int, ds = ns.map PyData.int ∧ ns.sum = n
  | [], n, h => by cases h; exact ⟨[], rfl, rfl⟩
  | d :: r, n, h => by
    cases d with
    | int i =>
      unfold sumD at h
      cases hr : sumD r with
      | none => rw [hr] at h; cases h
      | some m =>
        rw [hr] at h
        cases h
        obtain ⟨ns, e1, e2⟩ := sumD_is hr
        exact ⟨i :: ns, by rw [e1]; rfl, by rw [List.sum_cons, e2]⟩
    | _ => cases h
def cSum : List D → Option D
  | [.list ds] => (sumD ds).map .int
  | _ => none
theorem cd_sum : CallD G (rSum G.K) cSum := fun x d F H v Q h hs q k => by
  unfold cSum at h
  split at h
  · rename_i ds
    obtain ⟨v, rfl, qa⟩ := one_of q
    obtain ⟨a, xs, rfl, h1, h2⟩ := rp_lst qa
    cases hn : sumD ds with
    | none => rw [hn] at h; cases h
    | some n =>
      rw [hn] at h
      cases h
      obtain ⟨ns, e1, e2⟩ := sumD_is hn
      subst e1
      rw [rp_ints h2] at h1
      refine ⟨a, ns, rfl, SqL.of (hs _ _ h1), ?_⟩
      rw [e2]
      exact k _ _ _ (Ext.refl _ _) (.int _)
  · cases h
/-- a new list from a call -/
def CallN (G : Gm) (r : List V → Hp → VK → Prop) (o : List D → Option (List D)) : Prop := ∀ (x : List D) (ds : List D) (F H : Hp) (v : List V) (Q : VK), o x = some ds → Sub F H → RpL G F v x → (∀ vs, RpL G F vs ds → ∀ p, H p = none → Q (.ref p) (upd H p (.lst vs))) → r v H Q
def OpN (G : Gm) (r : R2) (o : D → D → Option (List D)) : Prop := ∀ (x y : D) (ds : List D) (F H : Hp) (v w : V) (Q : VK), o x y = some ds → Sub F H → Rp G F v x → Rp G F w y → (∀ vs, RpL G F vs ds → ∀ p, H p = none → Q (.ref p) (upd H p (.lst vs))) → r v w H Q
def xCB (o : List D → Option (List D)) (fs : En → R (List D)) : En → R Sl := fun r => (fs r).bind fun x r1 => match o x with
  | some ds => .ok (.ow ds) r1
  | none => .st
def xOp (o : D → D → Option (List D)) (f g : En → R D) : En → R Sl := fun r => (f r).bind fun x r1 => (g r1).bind fun y r2 => match o x y with
  | some ds => .ok (.ow ds) r2
  | none => .st
variable {W : WX} {F H F1 H1 : Hp} {σ : L2.St} {r r1 : En} {a b : Expr} {pos : Pos} {f g : En → R D}
/-- an own value's reading, behind an expression -/
def TXp (G : Gm) (W : WX) (x : R Sl) (F H : Hp) (σ : L2.St) (r : En) (Q : VK) : Prop := match x with
  | .ok s r' => ∀ F' H' v, Go F H (oA σ r) F' H' (oA (σ ++ [some v]) (r' ++ [s])) → Rel G F' H' (σ ++ [some v]) (r' ++ [s]) → Q v H'
  | .ex c d r' => ∀ F' H' cls dd, Go F H (oA σ r) F' H' (oA σ r') → Rel G F' H' σ r' → XOk G F' H' c d cls dd → W cls dd σ H'
  | .st => False
theorem TXp.bind {α β : Type} {rel : Hp → β → α → Prop} {x : R α} {k : α → En → R Sl} {Q : VK} (h : TXp G W (x.bind k) F H σ r Q) :
    Pt G W rel x F H σ r (fun b H1 => ∃ a F1 r1, Sub F F1 ∧ Rel G F1 H1 σ r1 ∧ rel F1 b a ∧ TXp G W (k a r1) F1 H1 σ r1 Q) := by
  cases x with
  | ok a r' =>
    intro F' H' b g e q
    refine ⟨a, F', r', g.sub, e, q, ?_⟩
    have h : TXp G W (k a r') F H σ r Q := h
    cases hk : k a r' with
    | ok es r2 => rw [hk] at h; exact fun F2 H2 J g2 => h F2 H2 J (g.trans g2)
    | ex c d r2 => rw [hk] at h; exact fun F2 H2 cls dd g2 => h F2 H2 cls dd (g.trans g2)
    | st => rw [hk] at h; exact h
  | ex c d r' => exact h
  | st => exact h
theorem TXp.new {ds : List D} {Q : VK} (h : TXp G W (.ok (.ow ds) r) F H σ r Q) (e : Rel G F H σ r) (vs : List V) (q : RpL G F vs ds) (p : Addr) (hp : H p = none) : Q (.ref p) (upd H p (.lst vs)) := by
  obtain ⟨g, e2⟩ := e.newL hp q
  exact h _ _ _ g e2
theorem tCBn_of {rr : List V → Hp → VK → Prop} {o : List D → Option (List D)} {fs : En → R (List D)} (hd : CallN G rr o) (σ : L2.St) (H : Hp) (Q : VK) : TXo G W (xCB o fs) σ H Q → tCB rr (TAo G W fs) σ H Q := fun ⟨F, r0, e, p⟩ => by
  have p : TXp G W (xCB o fs r0) F H σ r0 Q := p
  refine ⟨F, r0, e, (TXp.bind (rel := rL G) p).mono fun v H1 ⟨x, F1, r1, _, e1, q1, p1⟩ => ?_⟩
  cases ho : o x with
  | none => simp only [ho] at p1; exact p1.elim
  | some ds =>
    simp only [ho] at p1
    exact hd x ds F1 H1 v Q ho e1.sub q1 fun vs qv p hp => p1.new e1 vs qv p hp
theorem dx_callB {id : String} {x : Str} {es : List Expr} {p : Pos} {rr : List V → Hp → VK → Prop} {o : List D → Option (List D)} {fs : En → R (List D)} (hc : CallR X (.builtin id) rr) (hd : CallN G rr o) (hm : X.mg x = none) (hv : bootBuiltins x = some (.builtin id)) (ha : PA X (a :: es) (TAo G W fs)) (hg : Gl X x := by rfl)
    (hn : x ≠ "__name__" := by decide) (hdb : (x == ("__debug__" : Str)) = false := by decide) (he : starEach (a :: es) X.env = (false, eval a X.env) :: starEach es X.env := by rfl) (hpl : (backTo pos (starEach es X.env)).any (·.1) = false := by rfl) :
    PE X (.Call (.Name x p) (a :: es) [] pos) (TXo G W (xCB o fs)) := pe_of (pe_callB hc hg hm hv ha hn hdb he hpl) (tCBn_of hd)
theorem dx_callTy {id : String} {x : Str} {es : List Expr} {p : Pos} {rr : List V → Hp → VK → Prop} {o : List D → Option (List D)} {fs : En → R (List D)} (hc : CallR X (.type id) rr) (hd : CallN G rr o) (hm : X.mg x = none) (hv : bootBuiltins x = some (.type id)) (ha : PA X (a :: es) (TAo G W fs)) (hg : Gl X x := by rfl)
    (hn : x ≠ "__name__" := by decide) (hdb : (x == ("__debug__" : Str)) = false := by decide) (he : starEach (a :: es) X.env = (false, eval a X.env) :: starEach es X.env := by rfl) (hpl : (backTo pos (starEach es X.env)).any (·.1) = false := by rfl) :
    PE X (.Call (.Name x p) (a :: es) [] pos) (TXo G W (xCB o fs)) := pe_of (pe_callTy hc hg hm hv ha hn hdb he hpl) (tCBn_of hd)
theorem dx_op {op : Operator} {rr : R2} {o : D → D → Option (List D)} (ho : OpR X (binaryOp op) rr) (hd : OpN G rr o) (ha : PE X a (TEo G W f)) (hb : PE X b (TEo G W g)) : PE X (.BinOp a op b pos) (TXo G W (xOp o f g)) :=
  pe_of (pe_op ho ha hb) fun σ H Q ⟨F, r0, e, p⟩ => by
    have p : TXp G W (xOp o f g r0) F H σ r0 Q := p
    refine ⟨F, r0, e, (TXp.bind (rel := rV G) p).mono fun v H1 ⟨x, F1, r1, _, e1, q1, p1⟩ => ⟨F1, r1, e1, (TXp.bind (rel := rV G) p1).mono fun w H2 ⟨y, F2, r2, s2, e2, q2, p2⟩ => ?_⟩⟩
    cases ho : o x y with
    | none => simp only [ho] at p2; exact p2.elim
    | some ds =>
      simp only [ho] at p2
      exact hd x y ds F2 H2 v w Q ho e2.sub (q1.mono s2) q2 fun vs qv p hp => p2.new e2 vs qv p hp
/-- two lists, one behind the other; a list many times -/
def nCat : D → D → Option (List D)
  | .list xs, .list ys => if xs.length + ys.length ≤ 1000000 then some (xs ++ ys) else none
  | _, _ => none
theorem on_cat : OpN G rCat nCat := fun x y ds F H v w Q h hs q1 q2 k => by
  unfold nCat at h
  split at h
  · split at h
    · rename_i hz
      cases h
      obtain ⟨a, xs, rfl, h1, h2⟩ := rp_lst q1
      obtain ⟨b, ys, rfl, h3, h4⟩ := rp_lst q2
      exact ⟨a, b, xs, ys, rfl, rfl, hs _ _ h1, hs _ _ h3, small6 (by rw [h2.len, h4.len]; exact hz), k _ (h2.append h4)⟩
    · cases h
  · cases h
def repD (ds : List D) : Nat → List D
  | 0 => []
  | n + 1 => ds ++ repD ds n
theorem rp_rep {F : Hp} {vs : List V} {ds : List D} (q : RpL G F vs ds) : ∀ n, RpL G F (List.replicate n vs).flatten (repD ds n)
  | 0 => .nil
  | n + 1 => by
    rw [List.replicate_succ, List.flatten_cons]
    exact q.append (rp_rep q n)
def nRep : D → D → Option (List D)
  | .list xs, .int k => if (decide (-1000000 ≤ k) && decide (k ≤ 1000000) && decide (xs.length * k.toNat ≤ 1000000)) = true then some (repD xs k.toNat) else none
  | _, _ => none
theorem on_rep : OpN G rRep nRep := fun x y ds F H v w Q h hs q1 q2 k => by
  unfold nRep at h
  split at h
  · rename_i xs n
    split at h
    · rename_i hz
      cases h
      simp only [Bool.and_eq_true, decide_eq_true_eq] at hz
      obtain ⟨a, vs, rfl, h1, h2⟩ := rp_lst q1
      rw [rp_int q2]
      exact ⟨a, n, vs, rfl, rfl, hs _ _ h1, by omega, by omega, small6 (by rw [h2.len]; exact hz.2), k _ (rp_rep h2 _)⟩
    · cases h
  · cases h
def nList : List D → Option (List D)
  | [.list ds] => some ds
  | [.tuple ds] => some ds
  | _ => none
theorem cn_list : CallN G (fun xs H Q => ∃ p ys, xs = [.ref p] ∧ (SqL G.K H p ys ∨ SqT G.K H p ys) ∧ ∀ l, H l = none → Q (.ref l) (upd H l (.lst ys))) nList := fun x ds F H v Q h hs q k => by
  unfold nList at h
  split at h
  · cases h
    obtain ⟨v, rfl, qa⟩ := one_of q
    obtain ⟨a, xs, rfl, h1, h2⟩ := rp_lst qa
    exact ⟨a, xs, rfl, .inl (SqL.of (hs _ _ h1)), k _ h2⟩
  · cases h
    obtain ⟨v, rfl, qa⟩ := one_of q
    obtain ⟨a, xs, rfl, h1, h2⟩ := rp_tup qa
    exact ⟨a, xs, rfl, .inr (hs.t h1), k _ h2⟩
  · cases h
end
end DL
set_option maxHeartbeats 4000000
/-! DLi: chains, truth, isinstance, repr of scalars, two names at once; a def as the head tells it. -/
namespace DL
open PySem PyProof.Rows L2
section
variable {G : Gm} {W : WX} {F H F1 H1 F' H' : Hp} {σ σ1 : L2.St} {r r1 : En} {X : Cx} {a b c tg : Expr} {pos : Pos} {f g h : En → R D}
theorem dt_cmp {op : CmpOp} {rr : R2} {o : D → D → Option D} (ho : OpR X (compareOp op) rr) (hd : OpD G rr o) (ha : PE X a (TEo G W f)) (hb : PE X b (TEo G W g)) (hm : behindInMarks op b = false := by rfl) : PT X (.Compare a [op] [b] pos) (TTo G W (tB1 (eOp o f g))) :=
  pt_of (pt_cmpR ho ha hb hm) fun σ H Q z => tOp_of hd σ H _ (tB_of σ H Q z)
/-- a op b op' c -/
theorem tChain_of {ra rb : R2} {o o' : D → D → Option D} (hd : OpD G ra o) (hd' : OpD G rb o') (σ : L2.St) (H : Hp) (Q : VK) : TEo G W (eChain o o' f g h) σ H Q → tChain ra rb (TEo G W f) (TEo G W g) (TEo G W h) σ H Q :=
  fun ⟨F, r0, e, p⟩ =>
    ⟨F, r0, e, (Pt.bind (rel1 := rV G) p).mono fun v H1 ⟨x, F1, r1, _, e1, q1, p1⟩ => ⟨F1, r1, e1, (Pt.bind (rel1 := rV G) p1).mono fun w H2 ⟨y, F2, r2, s2, e2, q2, p2⟩ => by
      cases hxy : o x y with
      | none => simp only [hxy] at p2; exact p2.elim
      | some d =>
        simp only [hxy] at p2
        refine hd x y d F2 H2 v w _ hxy e2.sub (q1.mono s2) q2 fun F3 H3 z x3 q3 => ?_
        cases d with
        | bool k =>
          cases q3
          have e3 := e2.ext x3
          refine ⟨k, rfl, ?_⟩
          cases k with
          | false => exact Pt.here p2 e2 x3 (.bl _)
          | true =>
            rw [if_pos rfl]
            have p2 := Pt.from (r1 := r2) (x3.goO fun _ z => z) p2
            exact ⟨F3, r2, e3, (Pt.bind (rel1 := rV G) p2).mono fun u H4 ⟨y', F4, r4, s4, e4, q4, p4⟩ => by
              obtain ⟨d', h1, h2⟩ := liftO_here e4 p4
              exact hd' y y' d' F4 H4 w u Q h1 e4.sub ((q2.mono x3.go.sub).mono s4) q4 h2⟩
        | _ => exact p2.elim⟩⟩
theorem de_chain {op op' : CmpOp} {ra rb : R2} {o o' : D → D → Option D} (ho : OpR X (compareOp op) ra) (hd : OpD G ra o) (ho' : OpR X (compareOp op') rb) (hd' : OpD G rb o') (ha : PE X a (TEo G W f)) (hb : PE X b (TEo G W g)) (hc : PE X c (TEo G W h))
    (hm : lastMarks [op, op'] [b, c] = false := by with_unfolding_all rfl) : PE X (.Compare a [op, op'] [b, c] pos) (TEo G W (eChain o o' f g h)) := pe_of (pe_chain ho ho' ha hb hc hm) (tChain_of hd hd')
theorem dt_chain {op op' : CmpOp} {ra rb : R2} {o o' : D → D → Option D} (ho : OpR X (compareOp op) ra) (hd : OpD G ra o) (ho' : OpR X (compareOp op') rb) (hd' : OpD G rb o') (ha : PE X a (TEo G W f)) (hb : PE X b (TEo G W g)) (hc : PE X c (TEo G W h))
    (hm : lastMarks [op, op'] [b, c] = false := by with_unfolding_all rfl) : PT X (.Compare a [op, op'] [b, c] pos) (TTo G W (tB1 (eChain o o' f g h))) := pt_of (pt_chain ho ho' ha hb hc hm) fun σ H Q z => tChain_of hd hd' σ H _ (tB_of σ H Q z)
/-- the truth of data, as a test -/
theorem truD_of (hK : X.K = G.K) {v : V} {d : D} {k : Bool} (s : Sub F H) (q : Rp G F v d) (h : truD d = some k) : TruV X.K v H k := by
  cases q with
  | non => cases h; exact rfl
  | bl b => cases h
  | int i => cases h; exact rfl
  | str x =>
    have h : (if x.length ≤ sizeLine then some (x.length != 0) else none) = some k := h
    split at h
    · rename_i hz
      cases h
      refine ⟨hz, ?_⟩
      rw [Bool.eq_iff_iff]
      simp
    · cases h
  | @lst a xs ds e hs =>
    cases h
    refine Or.inl ⟨xs, .inl (.inl (s _ _ e)), ?_⟩
    have := hs.len
    cases xs <;> cases ds <;> simp_all
  | @tup a xs ds e hs =>
    cases h
    refine Or.inr (Or.inl ⟨xs, by rw [hK]; exact s.t e, ?_⟩)
    have := hs.len
    cases xs <;> cases ds <;> simp_all
  | dct _ _ => cases h
  | dcT _ _ => cases h
  | fn _ => cases h
theorem dt_tru (hK : X.K = G.K) (ha : PE X a (TEo G W f)) (he : ∀ whole, isTrue a X.env whole = (do let v ← whole; standAt a.pos; holding [v] (truthy v)) := by intro _; rfl) : PT X a (TTo G W (tTru f)) :=
  pt_of (pt_truth ha he) fun σ H Q ⟨F, r0, e, p⟩ => ⟨F, r0, e, (Pt.bind (rel1 := rV G) p).mono fun v H1 ⟨x, F1, r1, _, e1, q1, p1⟩ => by
    cases hx : truD x with
    | some k =>
      have : ∀ b, x ≠ .bool b := fun b z => by subst z; cases hx
      refine ⟨k, truD_of hK e1.sub q1 hx, ?_⟩
      have p1 : Pt G W rB (.ok k r1) F1 H1 σ r1 Q := by
        cases x with
        | bool b => exact absurd rfl (this b)
        | _ => simp only [hx] at p1; exact p1
      exact Pt.here p1 e1 (Ext.refl _ _) rfl
    | none =>
      cases x with
      | bool k =>
        cases q1
        exact ⟨k, rfl, Pt.here p1 e1 (Ext.refl _ _) rfl⟩
      | _ => simp only [hx] at p1; exact p1.elim⟩
/-! ### isinstance -/
def tyD : D → Option String
  | .none => some "NoneType"
  | .bool _ => some "bool"
  | .int _ => some "int"
  | .str _ => some "str"
  | .list _ => some "list"
  | .tuple _ => some "tuple"
  | .dict ((.none, _) :: _) => none
  | .dict _ => some "dict"
theorem tyD_dict {l : List (D × D)} {t : String} (h : tyD (.dict l) = some t) : t = "dict" := by
  rcases l with _ | ⟨⟨k, v⟩, l⟩
  · cases h; rfl
  · cases k <;> first | (cases h; rfl) | cases h
def cIsi (t : String) (d : D) : Option D := match tyD d with
  | some a => (kitB a t).map .bool
  | none => none
theorem tyD_of (hK : X.K = G.K) {v : V} {d : D} {t : String} (s : Sub F H) (q : Rp G F v d) (h : tyD d = some t) : TyX X.K H v (.type t) := by
  cases q with
  | non => cases h; exact .base .non
  | bl b => cases h; exact .base (.bl b)
  | int i => cases h; exact .base (.int i)
  | str x => cases h; exact .base (.str x)
  | @lst a xs ds e hs => cases h; exact .base (.lst (s _ _ e))
  | @tup a xs ds e hs =>
    cases h
    rcases e with (e | ⟨o, e⟩) | ⟨o, its, n, e, c, _⟩
    · exact .base (.tup (s _ _ e))
    · exact .fTuple (s _ _ e)
    · exact .kTuple (by rw [hK]; exact e) c
  | @dct a kvs ds e _ =>
    have : t = "dict" := tyD_dict h
    subst this
    exact .base (.dK (s _ _ e))
  | @dcT a kvs ds e _ =>
    have : t = "dict" := tyD_dict h
    subst this
    exact .base (.dT (s _ _ e))
  | fn _ => cases h
theorem de_isi {T : Str} {t : String} {p p2 : Pos} (hK : X.K = G.K) (hm : X.mg "isinstance" = none) (hmT : X.mg T = none) (hT : bootBuiltins T = some (.type t)) (ha : PE X a (TEo G W f)) (hg : Gl X "isinstance" := by rfl) (hgT : Gl X T := by rfl)
    (hn : T ≠ "__name__" := by decide) (hdb : (T == ("__debug__" : Str)) = false := by decide) (he : starEach [a, .Name T p2] X.env = (false, eval a X.env) :: starEach [.Name T p2] X.env := by rfl) (he2 : starEach [.Name T p2] X.env = (false, eval (.Name T p2) X.env) :: starEach [] X.env := by rfl)
    (hpl : (backTo pos (starEach [.Name T p2] X.env)).any (·.1) = false := by rfl) :
    PE X (.Call (.Name "isinstance" p) [a, .Name T p2] [] pos) (TEo G W (eUn (cIsi t) f)) :=
  pe_of (pe_callB call_isi hg hm (by decide +kernel) (pa_cons ha (pa_cons (pe_bltn (v := .ty t) hgT hmT hT rfl hn hdb) pa_nil he2) he) (by decide) (by decide) he hpl) fun σ H Q ⟨F, r0, e, p⟩ =>
    ⟨F, r0, e, (Pt.bind (rel1 := rV G) p).mono fun v H1 ⟨x, F1, r1, _, e1, q1, p1⟩ => by
      obtain ⟨d, hd, k⟩ := liftO_here e1 p1
      unfold cIsi at hd
      split at hd
      · rename_i ta hta
        cases hb : kitB ta t with
        | none => rw [hb] at hd; cases hd
        | some b =>
          rw [hb] at hd
          cases hd
          exact ⟨v, .ty t, _, _, b, rfl, .ty t, tyD_of hK e1.sub q1 hta, kit_ty hb, k _ _ _ (Ext.refl _ _) (.bl b)⟩
      · cases hd⟩
/-! ### repr of numbers -/
def cRepI : List D → Option D
  | [.int i] => if i.natAbs.log2 < 1920 then some (.str (toString i)) else none
  | [.none] => some (.str "None")
  | [.bool k] => some (.str (if k then "True" else "False"))
  | [.str x] => if (reprText x).length ≤ 1000000 then some (.str (reprText x)) else none
  | _ => none
def rRepZ : List V → Hp → VK → Prop := fun xs H Q => ∃ x, xs = [x] ∧ match x with
  | .int i => i.natAbs.log2 < 1920 ∧ Q (.str (toString i)) H
  | .non => Q (.str "None") H
  | .bl k => Q (.str (if k then "True" else "False")) H
  | .str z => (reprText z).length ≤ sizeLine ∧ Q (.str (reprText z)) H
  | _ => False
theorem call_repZ : CallR X (.builtin "repr") rRepZ := fun pins s σ H xs us Q I r h => by
  obtain ⟨x, rfl, h⟩ := h
  obtain ⟨u, rfl, rx⟩ := vals1 r
  cases x with
  | int i =>
    obtain ⟨t, rfl⟩ := rx
    exact PySem.P.repr_of_int h.1 ⟨.str _, H, I.tok _, ⟨_, rfl⟩, h.2⟩
  | non =>
    cases rx
    exact PySem.P.repr_of_none ⟨.str _, H, I.tok _, ⟨_, rfl⟩, h⟩
  | bl k =>
    cases rx
    exact PySem.P.repr_of_bool ⟨.str _, H, I.tok _, ⟨_, rfl⟩, h⟩
  | str z =>
    obtain ⟨t, rfl⟩ := rx
    exact PySem.P.repr_of_str ⟨.str _, H, I.tok _, ⟨_, rfl⟩, h.2⟩ h.1
  | _ => exact h.elim
theorem cd_repI : CallD G rRepZ cRepI := fun x d F H v Q h hs q k => by
  unfold cRepI at h
  split at h
  · split at h
    · rename_i hz
      cases h
      obtain ⟨v, rfl, qa⟩ := one_of q
      rw [rp_int qa]
      exact ⟨_, rfl, hz, k _ _ _ (Ext.refl _ _) (.str _)⟩
    · cases h
  · cases h
    obtain ⟨v, rfl, qa⟩ := one_of q
    rw [rp_non qa]
    exact ⟨_, rfl, k _ _ _ (Ext.refl _ _) (.str _)⟩
  · cases h
    obtain ⟨v, rfl, qa⟩ := one_of q
    rw [rp_bl qa]
    exact ⟨_, rfl, k _ _ _ (Ext.refl _ _) (.str _)⟩
  · split at h
    · rename_i hz
      cases h
      obtain ⟨v, rfl, qa⟩ := one_of q
      rw [rp_str qa]
      exact ⟨_, rfl, small6 hz, k _ _ _ (Ext.refl _ _) (.str _)⟩
    · cases h
  · cases h
/-! ### x, y = a, b -/
def sPar (fx fy : En → R Sl) (i j : Nat) : En → Fl := fun r => rF (fx r) fun s r1 => rF (fy r1) fun t r2 => .nx ((r2.set i s).set j t)
theorem own_frame {v w : V} {s t : Sl} {i j : Nat} (hl : σ.length = r.length) {x : Addr} (h : oA ((σ.set i (some v)).set j (some w)) ((r.set i s).set j t) x) : oA (σ ++ [some w] ++ [some v]) (r ++ [t] ++ [s]) x := by
  obtain ⟨k, u, e1, m, e2⟩ := h
  have l2 : (σ ++ [some w]).length = (r ++ [t]).length := by simp [hl]
  rcases get_set e1 with ⟨a1, b1, c1⟩ | ⟨a1, b1⟩
  · rcases get_set e2 with ⟨_, b2, _⟩ | ⟨a2, _⟩
    · subst b1; cases b2
      refine own_init l2 x ⟨r.length, u, get_last, m, ?_⟩
      rw [← hl]; exact get_last
    · exact absurd a1 a2
  · rcases get_set e2 with ⟨a2, _, _⟩ | ⟨_, b2⟩
    · exact absurd a2 a1
    · rcases get_set b1 with ⟨a3, b3, c3⟩ | ⟨a3, b3⟩
      · rcases get_set b2 with ⟨_, b4, _⟩ | ⟨a4, _⟩
        · subst b3; cases b4
          exact ⟨(r ++ [t]).length, u, get_last, m, by rw [← l2]; exact get_last⟩
        · exact absurd a3 a4
      · rcases get_set b2 with ⟨a4, _, _⟩ | ⟨_, b4⟩
        · exact absurd a4 a3
        · exact own_init l2 x (own_init hl x ⟨k, u, b3, m, b4⟩)
theorem ds_par {i j : Nat} {x y : Str} {fx fy : En → R Sl} {px py pt : Pos} {kt k2 pt2} (hc : X.calm = true) (hN : X.N.Nodup) (ha : PE X a (TXo G W fx)) (hb : PE X b (TXo G W fy)) (hi : X.N[i]? = some x := by rfl) (hj : X.N[j]? = some y := by rfl) (hij : i ≠ j := by decide)
    (hx : X.env.scope.names.lookup x = some .local := by rfl) (hy : X.env.scope.names.lookup y = some .local := by rfl) (h1 : starEach [a, b] X.env = (false, eval a X.env) :: starEach [b] X.env := by rfl) (h2 : starEach [b] X.env = (false, eval b X.env) :: starEach [] X.env := by rfl)
    (hw : swappedStores [.Tuple [.Name x px, .Name y py] kt pt] (.Tuple [a, b] k2 pt2) X.env = pure (some [x, y]) := by rfl)
    (hs : swapsWithSole [.Tuple [.Name x px, .Name y py] kt pt] (.Tuple [a, b] k2 pt2) pos.line X.env = pure false := by rfl) :
    PS X (.Assign [.Tuple [.Name x px, .Name y py] kt pt] (.Tuple [a, b] k2 pt2) pos) (TSo G W (sPar fx fy i j)) :=
  ps_of (ps_par hc hN hi hj hij hx hy (pa_cons ha (pa_cons hb pa_nil h2) h1) hw hs) fun E σ H ⟨F, r, e, p⟩ => by
    refine ⟨F, r, e, ?_⟩
    unfold sPar rF at p
    cases hf : fx r with
    | st => rw [hf] at p; exact p.elim
    | ex c d r' => rw [hf] at p; exact fun F' H' cls dd g e x => p F' H' σ cls dd g e x
    | ok s r1 =>
      rw [hf] at p
      intro F1 H1 v g1 e1
      refine ⟨F1, r1, e1.init, ?_⟩
      simp only at p
      have l1 := e1.init.len
      have g0 : Go F H (oA σ r) F1 H1 (oA σ r1) := g1.wide (fun _ z => z) fun a z => g1.own a (own_init l1 a z)
      cases hg : fy r1 with
      | st => rw [hg] at p; exact p.elim
      | ex c d r' => rw [hg] at p; exact fun F' H' cls dd g e x => p F' H' σ cls dd (g0.trans g) e x
      | ok t r2 =>
        rw [hg] at p
        intro F2 H2 w g2 e2
        refine ⟨v, w, rfl, ?_⟩
        obtain ⟨e3, g3⟩ := e1.frame g2 e2
        have l2 := e2.init.len
        have e4 := e3.store (i := i)
        have hA : ∀ {α : Type} {l : List α} {z u : α} {i : Nat}, i < l.length → (l ++ [z]).set i u = l.set i u ++ [z] := fun {α l z u i} h => List.set_append_left _ _ h
        have hil : i < σ.length ∨ ¬ i < σ.length := Classical.em _
        rcases hil with hil | hil
        · rw [hA hil, hA (by rw [← l2]; exact hil)] at e4
          have e5 := e4.store (i := j)
          exact p F2 H2 _ ((g1.trans g3).wide (fun _ z => z) fun a z => (g1.trans g3).own a (own_frame l2 z)) e5
        · -- no such name: nothing is stored there
          have a1 : σ.set i (some v) = σ := List.set_eq_of_length_le (by omega)
          have a2 : r2.set i s = r2 := List.set_eq_of_length_le (by omega)
          have e5 := e2.store (i := j)
          have hown : ∀ a, oA ((σ.set i (some v)).set j (some w)) ((r2.set i s).set j t) a → oA (σ ++ [some w] ++ [some v]) (r2 ++ [t] ++ [s]) a := fun a z => own_frame l2 z
          rw [← a1, ← a2] at e5
          rw [a1, a2] at e5
          exact p F2 H2 _ ((g1.trans g3).wide (fun _ z => z) fun a z => (g1.trans g3).own a (own_frame l2 z)) (by rw [a1, a2]; exact e5)
end
/-! ### a def as the head tells it -/
section
variable {P : Program} {w : World} {K : PySem.W.Frag} {mg : Str → Option Value} {base : Heap} {G : Gm}
theorem fnD' {gu : Bool} {x qual : Str} {params : Arguments} {body : List Stmt} {scope : Scope} {dvs : List V} {kws : List (Str × V)} {f : Addr} {fd : FuncData} {N ps : List Str} {k : Nat} {fB : En → Fl} (F : FunD K x qual params body scope dvs kws f fd) (S : FnScope N ps scope)
    (hbody : ∀ (pd : Addr) (cdv : Value) (A : Around) (outer : List Env) (s : Shared) (H : Hp) (E : XK), Room k (A.deeper (envOfC qual scope s.heap.objs.size f cdv)) → (gu = true → A.guards = some []) →
      PSs (cxOf (L2.CX P w) P w K mg base N qual scope f cdv A outer s H E) body (TSo { G with pd := pd } (fun cls d _ H => E cls d H) fB)) :
    FnG gu P w K mg base (k + 1) f fd ps (spD G (runF N.length ps.length fB)) := by
  obtain ⟨oc, od, dV, kV, doc, pm, an, cdv, ct, osl, rfl, lk, hcd, _, _⟩ := F.ex
  have len : ∀ vs H Q E, spD G (runF N.length ps.length fB) vs H Q E → vs.length = ps.length := fun vs H Q E ⟨pd, F0, args, e, p⟩ => by
    have l := e.len
    rw [List.length_map] at l
    unfold runF at p
    split at p
    · rename_i hz
      split at hz
      · rename_i h0; rw [l]; exact h0
      · cases hz
    · rename_i hz
      split at hz
      · rename_i h0; rw [l]; exact h0
      · cases hz
    · exact p.elim
  refine ⟨len, fun A outer s H args us vs Q E hgu hr e0 hb r hsp => ?_⟩
  have hl := len vs H Q E hsp
  refine LamX.run_ofS lk hcd S hr e0 hb r hl fun hr' => ?_
  obtain ⟨pd, F0, ar, e, p⟩ := hsp
  refine ⟨_, hbody pd cdv A outer s H E hr' hgu, ?_⟩
  have hal : ar.length = ps.length := by rw [← e.len, List.length_map]; exact hl
  obtain ⟨e1, o1⟩ := rel_start (n := N.length) e hal
  have es : vs.map some ++ List.replicate (N.length - ps.length) none = L2.start N vs := by unfold L2.start; rw [hl]
  rw [es] at e1 o1
  refine ⟨F0, _, e1, ?_⟩
  unfold runF at p
  rw [if_pos hal] at p
  cases hf : fB (ar ++ List.replicate (N.length - ps.length) .no) with
  | nx r' =>
    simp only [hf] at p
    intro F' H' σ' g e'
    obtain ⟨a1, a2⟩ := (e'.val .non).leave rfl
    exact p F' H' .non (g.wide o1 fun a z => (g.own a (own_val e'.len (a2 a z))).imp (o1 a) id) a1
  | rt s' r' =>
    simp only [hf] at p
    split at p
    · rename_i hq
      split at hq
      · rename_i hio
        cases hq
        intro F' H' σ' v g e'
        obtain ⟨a1, a2⟩ := e'.leave hio
        exact p F' H' v (g.wide o1 fun a z => (g.own a (a2 a z)).imp (o1 a) id) a1
      · cases hq
    · rename_i hq
      split at hq
      · cases hq
      · cases hq
    · exact p.elim
  | ex c d r' =>
    simp only [hf] at p
    intro F' H' σ' cls dd g e' x
    exact p F' H' cls dd (g.wide o1 fun a z => z.elim) ⟨e'.sub, e'.ntb, e'.tabs, rfl, fun i s v e1 => by simp at e1, fun i j s t p e1 => by simp at e1⟩ x
  | bk r' => simp only [hf] at p
  | ct r' => simp only [hf] at p
  | st => simp only [hf] at p
end
end DL
set_option maxHeartbeats 4000000
/-! DLj: several names at once; facts about callees. -/
namespace DL
open PySem PyProof.Rows L2
section
variable {G : Gm} {W : WX} {F H F1 H1 F' H' : Hp} {σ σ1 : L2.St} {r r1 : En} {X : Cx} {a b c tg : Expr} {pos : Pos}
def stk : List V → L2.St
  | [] => []
  | v :: vs => stk vs ++ [some v]
def rvS : List Sl → En
  | [] => []
  | s :: ss => rvS ss ++ [s]
/-- own values, one behind the other, all of them still ours -/
def TYo (G : Gm) (W : WX) (fs : En → R (List Sl)) : TA := fun σ H Q => ∃ F r, Rel G F H σ r ∧ match fs r with
  | .ok ss r' => ∀ F' H' vs, vs.length = ss.length → Go F H (oA σ r) F' H' (oA (σ ++ stk vs) (r' ++ rvS ss)) → Rel G F' H' (σ ++ stk vs) (r' ++ rvS ss) → Q vs H'
  | .ex c d r' => ∀ F' H' cls dd, Go F H (oA σ r) F' H' (oA σ r') → Rel G F' H' σ r' → XOk G F' H' c d cls dd → W cls dd σ H'
  | .st => False
def yNil : En → R (List Sl) := fun r => .ok [] r
def yCons (f : En → R Sl) (g : En → R (List Sl)) : En → R (List Sl) := fun r => (f r).bind fun s r1 => (g r1).bind fun ss r2 => .ok (s :: ss) r2
theorem dy_nil : PA X [] (TYo G W yNil) := pa_of pa_nil fun σ H Q ⟨F, r0, e, p⟩ => by
  have p : ∀ F' H' vs, vs.length = 0 → Go F H (oA σ r0) F' H' (oA (σ ++ stk vs) (r0 ++ [])) → Rel G F' H' (σ ++ stk vs) (r0 ++ []) → Q vs H' := p
  exact p F H [] rfl (Go.refl fun a z => by simpa [stk] using z) (by simpa [stk] using e)
theorem dy_cons {es : List Expr} {f : En → R Sl} {fs : En → R (List Sl)} (ha : PE X a (TXo G W f)) (hr : PA X es (TYo G W fs)) (hs : starEach (a :: es) X.env = (false, eval a X.env) :: starEach es X.env := by rfl) : PA X (a :: es) (TYo G W (yCons f fs)) :=
  pa_of (pa_cons ha hr hs) fun σ H Q ⟨F, r, e, p⟩ => by
    refine ⟨F, r, e, ?_⟩
    unfold yCons at p
    cases hf : f r with
    | st => rw [hf] at p; exact p.elim
    | ex c d r' => rw [hf] at p; exact p
    | ok s r1 =>
      rw [hf] at p
      simp only [R.bind] at p
      intro F1 H1 v g1 e1
      refine ⟨F1, r1, e1.init, ?_⟩
      have l1 := e1.init.len
      have g0 : Go F H (oA σ r) F1 H1 (oA σ r1) := g1.wide (fun _ z => z) fun a z => g1.own a (own_init l1 a z)
      cases hg : fs r1 with
      | st => rw [hg] at p; exact p.elim
      | ex c d r' => rw [hg] at p; exact fun F' H' cls dd g e x => p F' H' cls dd (g0.trans g) e x
      | ok ss r2 =>
        rw [hg] at p
        simp only at p
        intro F2 H2 vs hl g2 e2
        obtain ⟨e3, g3⟩ := e1.frame g2 e2
        have as1 : σ ++ stk vs ++ [some v] = σ ++ stk (v :: vs) := by rw [List.append_assoc]; rfl
        have as2 : r2 ++ rvS ss ++ [s] = r2 ++ rvS (s :: ss) := by rw [List.append_assoc]; rfl
        rw [as1, as2] at e3 g3
        exact p F2 H2 (v :: vs) (by simp [hl]) (g1.trans g3) e3
def setAll : List Nat → List V → L2.St → L2.St
  | i :: is, v :: vs, σ => setAll is vs (σ.set i (some v))
  | _, _, σ => σ
def putAll : List Nat → List Sl → En → En
  | i :: is, s :: ss, r => putAll is ss (r.set i s)
  | _, _, r => r
theorem Rel.puts : ∀ {is : List Nat} {vs : List V} {ss : List Sl} {σ : L2.St} {r : En}, (∀ i ∈ is, i < r.length) → is.length = ss.length → vs.length = ss.length → Rel G F H (σ ++ stk vs) (r ++ rvS ss) → σ.length = r.length →
    Rel G F H (setAll is vs σ) (putAll is ss r) ∧ ∀ a, oA (setAll is vs σ) (putAll is ss r) a → oA (σ ++ stk vs) (r ++ rvS ss) a
  | [], [], [], σ, r, _, _, _, e, _ => by
    have e1 : σ ++ stk [] = σ := by simp [stk]
    have e2 : r ++ rvS [] = r := by simp [rvS]
    rw [e1, e2] at e ⊢
    exact ⟨e, fun _ z => z⟩
  | i :: is, v :: vs, s :: ss, σ, r, hi, h1, h2, e, hl => by
    have as1 : σ ++ stk (v :: vs) = σ ++ stk vs ++ [some v] := by rw [List.append_assoc]; rfl
    have as2 : r ++ rvS (s :: ss) = r ++ rvS ss ++ [s] := by rw [List.append_assoc]; rfl
    rw [as1, as2] at e ⊢
    have hi0 : i < r.length := hi i (List.mem_cons_self ..)
    have l2 := e.init.len
    have e3 := e.store (i := i)
    have b1 : (σ ++ stk vs).set i (some v) = σ.set i (some v) ++ stk vs := List.set_append_left _ _ (by rw [hl]; exact hi0)
    have b2 : (r ++ rvS ss).set i s = r.set i s ++ rvS ss := List.set_append_left _ _ hi0
    have own3 : ∀ a, oA ((σ ++ stk vs).set i (some v)) ((r ++ rvS ss).set i s) a → oA (σ ++ stk vs ++ [some v]) (r ++ rvS ss ++ [s]) a := fun a z => own_store l2 z
    rw [b1, b2] at e3 own3
    obtain ⟨q1, q2⟩ := Rel.puts (is := is) (vs := vs) (ss := ss) (σ := σ.set i (some v)) (r := r.set i s) (fun j hj => by rw [List.length_set]; exact hi j (List.mem_cons_of_mem _ hj)) (by simpa using h1) (by simpa using h2) e3 (by simp [hl])
    exact ⟨q1, fun a z => own3 a (q2 a z)⟩
  | [], _, _ :: _, _, _, _, h, _, _, _ => by simp at h
  | _ :: _, _, [], _, _, _, h, _, _, _ => by simp at h
  | _, [], _ :: _, _, _, _, _, h, _, _ => by simp at h
  | _, _ :: _, [], _, _, _, _, h, _, _ => by simp at h
def sPars (is : List Nat) (fs : En → R (List Sl)) : En → Fl := fun r => rF (fs r) fun ss r1 => if (decide (is.length = ss.length) && is.all fun i => decide (i < r1.length)) = true then .nx (putAll is ss r1) else .st
/-- what is read behind the values: they are stored -/
theorem pars_of {is : List Nat} {fs : En → R (List Sl)} (E : Ends) (σ : L2.St) (H : Hp) : TSo G W (sPars is fs) E σ H →
    TYo G W fs σ H fun vs H1 => vs.length = is.length ∧ (∀ H2, (∃ q, H1 q = none ∧ H2 = upd H1 q (.tup vs)) → E.nx (setAll is vs σ) H2) ∧ E.nx (setAll is vs σ) H1 := fun ⟨F, r, e, p⟩ => by
  refine ⟨F, r, e, ?_⟩
  unfold sPars rF at p
  cases hf : fs r with
  | st => rw [hf] at p; exact p.elim
  | ex c d r' => rw [hf] at p; exact fun F' H' cls dd g e x => p F' H' σ cls dd g e x
  | ok ss r1 =>
    rw [hf] at p
    simp only at p
    intro F1 H1 vs hl g1 e1
    split at p
    · rename_i hz
      rw [Bool.and_eq_true, decide_eq_true_eq, List.all_eq_true] at hz
      have hi : ∀ i ∈ is, i < r1.length := fun i m => by simpa using hz.2 i m
      have hlen : σ.length = r1.length := by
        have z := e1.len
        have a1 : ∀ l : List V, (stk l).length = l.length := fun l => by induction l with | nil => rfl | cons x l ih => simp [stk, ih]
        have a2 : ∀ l : List Sl, (rvS l).length = l.length := fun l => by induction l with | nil => rfl | cons x l ih => simp [rvS, ih]
        rw [List.length_append, List.length_append, a1, a2, hl] at z
        omega
      refine ⟨by omega, fun H2 ⟨q, hq, e2⟩ => ?_, ?_⟩
      · subst e2
        have x := Ext.made (o := .tup vs) hq e1.sub
        obtain ⟨k1, k2⟩ := Rel.puts hi hz.1 hl (e1.ext x) hlen
        exact p F1 _ _ ((g1.trans (x.goO fun _ z => z)).wide (fun _ z => z) fun a z => (g1.trans (x.goO fun _ z => z)).own a (k2 a z)) k1
      · obtain ⟨k1, k2⟩ := Rel.puts hi hz.1 hl e1 hlen
        exact p F1 H1 _ (g1.wide (fun _ z => z) fun a z => g1.own a (k2 a z)) k1
    · exact p.elim
def gNs : List Nat → TGs
  | [] => gNil
  | i :: is => gCons (gName i) (gNs is)
theorem gNs_of {Q : L2.St → Hp → Prop} : ∀ {is : List Nat} {vs : List V} {σ : L2.St} {H : Hp}, vs.length = is.length → Q (setAll is vs σ) H → gNs is vs σ H Q
  | [], [], _, _, _, q => ⟨rfl, q⟩
  | i :: is, v :: vs, σ, H, h, q => ⟨v, vs, rfl, gNs_of (is := is) (by simpa using h) q⟩
  | [], _ :: _, _, _, h, _ => by simp at h
  | _ :: _, [], _, _, h, _ => by simp at h
/-- a, b, .. = x, y, .., through a pair -/
theorem TYo.mono {fs : En → R (List Sl)} {Q Q' : List V → Hp → Prop} (h : TYo G W fs σ H Q) (k : ∀ vs H', Q vs H' → Q' vs H') : TYo G W fs σ H Q' := by
  obtain ⟨F, r, e, p⟩ := h
  refine ⟨F, r, e, ?_⟩
  cases hf : fs r with
  | st => rw [hf] at p; exact p
  | ex c d r' => rw [hf] at p; exact p
  | ok ss r1 => rw [hf] at p; exact fun F' H' vs hl g e => k _ _ (p F' H' vs hl g e)
theorem ds_pars {is : List Nat} {ts es : List Expr} {fs : En → R (List Sl)} {kt k2 : _} {pt pt2 : Pos} (hK : X.K = G.K) (hc : X.calm = true) (ha : PA X es (TYo G W fs)) (hg : PGs X ts (gNs is)) (hz : is.length ≤ 100 := by decide)
    (hn : (assignEach ts X.env).length = is.length := by rfl) (hst : (assignEach ts X.env).findIdx? (·.1) = none := by rfl)
    (hs : swapsWithSole [.Tuple ts kt pt] (.Tuple es k2 pt2) pos.line X.env = pure false := by rfl) (hw : swappedStores [.Tuple ts kt pt] (.Tuple es k2 pt2) X.env = pure none := by rfl)
    (h1 : (assignEach [.Tuple ts kt pt] X.env).map (·.2) = [assign (.Tuple ts kt pt) X.env] := by rfl) : PS X (.Assign [.Tuple ts kt pt] (.Tuple es k2 pt2) pos) (TSo G W (sPars is fs)) :=
  ps_of (ps_asg (pe_tup ha) (pg_tup hc hg hn hst) hs hw h1) fun E σ H h => (pars_of E σ H h).mono fun vs H1 ⟨hl, k, _⟩ =>
    ⟨by rw [hl]; exact Nat.le_trans hz (by decide), fun p hp => ⟨p, vs, rfl, SqT.of upd_same, hl, gNs_of hl (k _ ⟨p, hp, rfl⟩)⟩⟩
/-- two, three fast names -/
theorem ds_par2 {i j : Nat} {x y : Str} {fs : En → R (List Sl)} {px py pt : Pos} {kt k2 pt2} (hc : X.calm = true) (hN : X.N.Nodup) (ha : PA X [a, b] (TYo G W fs)) (hi : X.N[i]? = some x := by rfl) (hj : X.N[j]? = some y := by rfl) (hij : i ≠ j := by decide)
    (hx : X.env.scope.names.lookup x = some .local := by rfl) (hy : X.env.scope.names.lookup y = some .local := by rfl)
    (hw : swappedStores [.Tuple [.Name x px, .Name y py] kt pt] (.Tuple [a, b] k2 pt2) X.env = pure (some [x, y]) := by rfl)
    (hs : swapsWithSole [.Tuple [.Name x px, .Name y py] kt pt] (.Tuple [a, b] k2 pt2) pos.line X.env = pure false := by rfl) :
    PS X (.Assign [.Tuple [.Name x px, .Name y py] kt pt] (.Tuple [a, b] k2 pt2) pos) (TSo G W (sPars [i, j] fs)) :=
  ps_of (ps_par hc hN hi hj hij hx hy ha hw hs) fun E σ H h => (pars_of E σ H h).mono fun vs H1 ⟨hl, _, k⟩ => by
    match vs, hl, k with
    | [v, w], _, k => exact ⟨v, w, rfl, k⟩
theorem ds_par3 {i j l : Nat} {x y z : Str} {fs : En → R (List Sl)} {px py pz pt : Pos} {kt k2 pt2} (hc : X.calm = true) (hN : X.N.Nodup) (ha : PA X [a, b, c] (TYo G W fs)) (hi : X.N[i]? = some x := by rfl) (hj : X.N[j]? = some y := by rfl) (hl : X.N[l]? = some z := by rfl) (hij : i ≠ j := by decide) (hil : i ≠ l := by decide) (hjl : j ≠ l := by decide)
    (hx : X.env.scope.names.lookup x = some .local := by rfl) (hy : X.env.scope.names.lookup y = some .local := by rfl) (hz : X.env.scope.names.lookup z = some .local := by rfl)
    (hw : swappedStores [.Tuple [.Name x px, .Name y py, .Name z pz] kt pt] (.Tuple [a, b, c] k2 pt2) X.env = pure (some [x, y, z]) := by rfl)
    (hs : swapsWithSole [.Tuple [.Name x px, .Name y py, .Name z pz] kt pt] (.Tuple [a, b, c] k2 pt2) pos.line X.env = pure false := by rfl) :
    PS X (.Assign [.Tuple [.Name x px, .Name y py, .Name z pz] kt pt] (.Tuple [a, b, c] k2 pt2) pos) (TSo G W (sPars [i, j, l] fs)) :=
  ps_of (ps_par3 hc hN hi hj hl hij hil hjl hx hy hz ha hw hs) fun E σ H h => (pars_of E σ H h).mono fun vs H1 ⟨hl, _, k⟩ => by
    match vs, hl, k with
    | [u, v, w], _, k => exact ⟨u, v, w, rfl, k⟩
/-! ### a callee: all that a call asks of it -/
structure Cal (G : Gm) (gu : Bool) (P : Program) (w : World) (mg : Str → Option Value) (base : Heap) (k : Nat) (x : Str) (ps : List Str) (fD : En → Rf) : Prop where
  ex : ∃ f fd, FnG gu P w G.K mg base k f fd ps (spD G fD) ∧ mg x = some (.ref f) ∧ PySem.W.keepIn G.K (.ref f) = true ∧ Binds G.K fd ps []
theorem dx_callC {gu : Bool} {k : Nat} {ps : List Str} {fD : En → Rf} {x : Str} {p : Pos} {e : Expr} {es : List Expr} {fs : En → R (List D)} (hK : X.K = G.K) (C : Cal G gu X.prog X.w X.mg X.base k x ps fD) (hr : Room k X.A) (hgu : gu = true → X.A.guards = some [])
    (tk : Takes X W) (ha : PA X (e :: es) (TAo G W fs)) (hg : Gl X x := by rfl) (hdb : (x == ("__debug__" : Str)) = false := by decide) (he : starEach (e :: es) X.env = (false, eval e X.env) :: starEach es X.env := by rfl) (hpl : (backTo pos (starEach es X.env)).any (·.1) = false := by rfl) :
    PE X (.Call (.Name x p) (e :: es) [] pos) (TXo G W (xCall fD fs)) := by
  obtain ⟨f, fd, h1, h2, h3, h4⟩ := C.ex
  rw [← hK] at h1 h3 h4
  exact dx_call h1 hr hgu h2 h3 h4 tk ha hg hdb he hpl
end
end DL
set_option maxHeartbeats 4000000
/-! DLk: words that gen.py uses. -/
namespace DL
open PySem PyProof.Rows L2
section
variable {G : Gm} {W : WX} {F H F1 H1 F' H' : Hp} {σ σ1 : L2.St} {r r1 : En} {X : Cx} {a b c tg : Expr} {pos : Pos}
theorem Cal.pd {gu : Bool} {P : Program} {w : World} {mg : Str → Option Value} {base : Heap} {k : Nat} {x : Str} {ps : List Str} {fD : En → Rf} (C : Cal G gu P w mg base k x ps fD) (pd : Addr) : Cal { G with pd := pd } gu P w mg base k x ps fD := ⟨C.ex⟩
theorem dx_callIC {i : Nat} {gu : Bool} {k : Nat} {ps : List Str} {fD : En → Rf} {x y : Str} {p py : Pos} {es : List Expr} {fs : En → R (List D)} (hK : X.K = G.K) (C : Cal G gu X.prog X.w X.mg X.base k x ps fD) (hr : Room k X.A) (hgu : gu = true → X.A.guards = some [])
    (tk : Takes X W) (ha : PA X es (TAo G W fs)) (hN : X.N[i]? = some y := by rfl) (hv : Vis X.env.scope y := by first | exact Or.inl rfl | exact Or.inr (Or.inl rfl) | exact Or.inr (Or.inr rfl)) (hg : Gl X x := by rfl) (hdb : (x == ("__debug__" : Str)) = false := by decide)
    (hdy : (y == ("__debug__" : Str)) = false := by decide) (hcy : (y == ("__classdict__" : Str)) = false := by decide) (he : starEach (.Name y py :: es) X.env = (false, eval (.Name y py) X.env) :: starEach es X.env := by rfl) (hpl : (backTo pos (starEach es X.env)).any (·.1) = false := by rfl) :
    PE X (.Call (.Name x p) (.Name y py :: es) [] pos) (TXo G W (xCallI i fD fs)) := by
  obtain ⟨f, fd, h1, h2, h3, h4⟩ := C.ex
  rw [← hK] at h1 h3 h4
  exact dx_callI h1 hr hgu h2 h3 h4 tk ha hN hv hg hdb hdy hcy he hpl
theorem dx_callRC {i : Nat} {gu : Bool} {k : Nat} {ps : List Str} {fD : En → Rf} {x y : Str} {p py : Pos} {es : List Expr} {fs : En → R (List D)} (hK : X.K = G.K) (C : Cal G gu X.prog X.w X.mg X.base k x ps fD) (hr : Room k X.A) (hgu : gu = true → X.A.guards = some [])
    (tk : Takes X W) (ha : PA X es (TAo G W fs)) (hN : X.N[i]? = some y := by rfl) (hv : Vis X.env.scope y := by first | exact Or.inl rfl | exact Or.inr (Or.inl rfl) | exact Or.inr (Or.inr rfl)) (hg : Gl X x := by rfl) (hdb : (x == ("__debug__" : Str)) = false := by decide)
    (hdy : (y == ("__debug__" : Str)) = false := by decide) (hcy : (y == ("__classdict__" : Str)) = false := by decide) (he : starEach (.Name y py :: es) X.env = (false, eval (.Name y py) X.env) :: starEach es X.env := by rfl) (hpl : (backTo pos (starEach es X.env)).any (·.1) = false := by rfl) :
    PE X (.Call (.Name x p) (.Name y py :: es) [] pos) (TXo G W (xCallR i fD fs)) := by
  obtain ⟨f, fd, h1, h2, h3, h4⟩ := C.ex
  rw [← hK] at h1 h3 h4
  exact dx_callR h1 hr hgu h2 h3 h4 tk ha hN hv hg hdb hdy hcy he hpl
theorem de_globI {x : Str} {i : Int} (h : ∃ t, X.mg x = some (.int i t)) (hg : Gl X x := by rfl) (hdb : (x == ("__debug__" : Str)) = false := by decide) : PE X (.Name x pos) (TEo G W (eC (.int i))) := by
  obtain ⟨t, e⟩ := h
  exact de_glob hg e (v := .int i) ⟨t, rfl⟩ (fun F => .int i) hdb
/-! ### name op= e -/
def oAddI : D → D → Option D := rIntD (fun _ _ => true) (· + ·)
def oSubI : D → D → Option D := rIntD (fun _ _ => true) (· - ·)
theorem ipA_add : PIp X .Add (rI (fun _ _ => True) fun i j => .int (i + j)) := fun pins s σ H x y v u Q I r1 r2 ⟨i, j, e1, e2, _, q⟩ => ip_add pins s σ H x y v u Q I r1 r2 ⟨i, j, e1, e2, q⟩
theorem ipd_add : IpD G (rI (fun _ _ => True) fun i j => .int (i + j)) oAddI := od_int fun _ _ _ => trivial
theorem ipA_sub : PIp X .Sub (rI (fun _ _ => True) fun i j => .int (i - j)) := fun pins s σ H x y v u Q I r1 r2 ⟨i, j, e1, e2, _, q⟩ => ip_sub pins s σ H x y v u Q I r1 r2 ⟨i, j, e1, e2, q⟩
theorem ipd_sub : IpD G (rI (fun _ _ => True) fun i j => .int (i - j)) oSubI := od_int fun _ _ _ => trivial
theorem ipA_mul : PIp X .Mult (rI CMulA fun i j => .int (i * j)) := (opI fun _ _ _ _ _ _ _ hc q => imul_int q (hc.elim (fun z => z.ok) fun z => z.ok) : OpR X (inplaceOp .Mult) (rI CMulA fun i j => .int (i * j)))
theorem ipd_mul : IpD G (rI CMulA fun i j => .int (i * j)) oMul := od_mul
def oDivI : D → D → Option D := rIntD (fun _ j => divOk j) (· / ·)
theorem ipA_div : PIp X .FloorDiv (rI (fun i j => CDiv i j ∨ CDivW i j) fun i j => .int (i / j)) := fun pins s σ H x y v u Q I rx ry ⟨i, j, e1, e2, hc, q⟩ => by
  rcases hc with hc | hc
  · exact iop_fdiv pins s σ H x y v u Q I rx ry ⟨i, j, e1, e2, hc, q⟩
  · exact iop_fdivW pins s σ H x y v u Q I rx ry ⟨i, j, e1, e2, hc, q⟩
theorem ipd_div : IpD G (rI (fun i j => CDiv i j ∨ CDivW i j) fun i j => .int (i / j)) oDivI := od_int fun i j hz => by
  unfold divOk at hz
  simp only [Bool.and_eq_true, Bool.or_eq_true, decide_eq_true_eq] at hz
  rcases hz.2 with z | z
  · exact .inl ⟨hz.1, z⟩
  · exact .inr ⟨hz.1, z⟩
def oModI : D → D → Option D := rIntD (fun _ j => decide (0 < j)) (· % ·)
theorem ipA_mod : PIp X .Mod (rI (fun _ j => 0 < j) fun i j => .int (i % j)) := (iop_mod : OpR X (inplaceOp .Mod) _)
theorem ipd_mod : IpD G (rI (fun _ j => 0 < j) fun i j => .int (i % j)) oModI := od_int fun i j hz => of_decide_eq_true hz
end
end DL
set_option maxHeartbeats 4000000
/-! DLl: more operations. -/
namespace DL
open PySem PyProof.Rows L2
theorem _root_.L2.Room.units65 {k : Nat} {A : Around} (r : Room k A) : A.units + 65 < cLine := by have := r.un; omega
section
variable {G : Gm} {W : WX} {F H F1 H1 F' H' : Hp} {σ σ1 : L2.St} {r r1 : En} {X : Cx} {a b c tg : Expr} {pos : Pos} {f g : En → R D}
/-- tuple(x) of a list, a tuple -/
def cTup : List D → Option D
  | [.list ds] => some (.tuple ds)
  | [.tuple ds] => some (.tuple ds)
  | _ => none
theorem call_tupA : CallR X (.type "tuple") (fun xs H Q => ∃ x, xs = [x] ∧ kTup X.K x H Q) := fun pins s σ H xs us Q I r h => by
  obtain ⟨x, rfl, h⟩ := h
  obtain ⟨u, rfl, rx⟩ := vals1 r
  exact rl_tuple pins s σ H x u Q I rx h
theorem cd_tup : CallD G (fun xs H Q => ∃ x, xs = [x] ∧ kTup G.K x H Q) cTup := fun x d F H v Q h hs q k => by
  unfold cTup at h
  split at h
  · cases h
    obtain ⟨v, rfl, qa⟩ := one_of q
    obtain ⟨a, xs, rfl, h1, h2⟩ := rp_lst qa
    exact ⟨_, rfl, .inl ⟨a, xs, rfl, SqL.of (hs _ _ h1), new_tup hs h2 rfl k⟩⟩
  · cases h
    obtain ⟨v, rfl, qa⟩ := one_of q
    obtain ⟨a, xs, rfl, h1, h2⟩ := rp_tup qa
    exact ⟨_, rfl, .inr ⟨a, xs, rfl, hs.t h1, k _ _ _ (Ext.refl _ _) qa⟩⟩
  · cases h
/-! ### x in l -/
def flatD : D → Bool
  | .none => true
  | .bool _ => true
  | .int _ => true
  | .str _ => true
  | _ => false
theorem flat_of {v : V} {d : D} (q : Rp G F v d) (h : flatD d = true) : flatV v = true := by
  cases q <;> first | rfl | cases h
theorem eqV_of {v w : V} {d e : D} (q : Rp G F v d) (q2 : Rp G F w e) (h : flatD d = true) (h2 : flatD e = true) : eqV v w = PyData.eqv d e := by
  cases q with
  | lst _ _ => cases h
  | tup _ _ => cases h
  | dct _ _ => cases h
  | dcT _ _ => cases h
  | fn _ => cases h
  | _ =>
    cases q2 with
    | lst _ _ => cases h2
    | tup _ _ => cases h2
    | dct _ _ => cases h2
    | dcT _ _ => cases h2
    | fn _ => cases h2
    | _ => unfold PyData.eqv; rfl
theorem flat_all {vs : List V} {ds : List D} (q : RpL G F vs ds) (h : ds.all flatD = true) : vs.all flatV = true := by
  induction q using RpLI.rec (motive_1 := fun _ _ _ => True) with
  | nil => rfl
  | cons h1 h2 _ ih =>
    rw [List.all_cons, Bool.and_eq_true] at h
    rw [List.all_cons, Bool.and_eq_true]
    exact ⟨flat_of h1 h.1, ih h.2⟩
  | _ => trivial
theorem inV_of {v : V} {d : D} (q : Rp G F v d) (h : flatD d = true) {vs : List V} {ds : List D} (q2 : RpL G F vs ds) (h2 : ds.all flatD = true) : inV v vs = ds.any fun z => PyData.eqv z d := by
  unfold inV
  induction q2 using RpLI.rec (motive_1 := fun _ _ _ => True) with
  | nil => rfl
  | cons h1 h3 _ ih =>
    rw [List.all_cons, Bool.and_eq_true] at h2
    rw [List.any_cons, List.any_cons, eqV_of h1 q h2.1 h, ih h2.2]
  | _ => trivial
def oInB (x y : D) : Option Bool := match y with
  | .list ds => if (flatD x && ds.all flatD) = true then some (ds.any fun z => PyData.eqv z x) else if (SeqAt.shaped x && SeqAt.shaped (.list ds)) = true then some (ds.any fun z => PyData.eqv z x) else none
  | .tuple ds => if (flatD x && ds.all flatD) = true then some (ds.any fun z => PyData.eqv z x) else none
  | _ => none
def oIn (x y : D) : Option D := (oInB x y).map fun b => .bool b
def oNotIn (x y : D) : Option D := (oInB x y).map fun b => .bool (!b)
def rInZ (K : PySem.W.Frag) : R2 := fun x y H Q => rIn K false x y H Q ∨ rInD K x y H Q
def rNotInZ (K : PySem.W.Frag) : R2 := fun x y H Q => rIn K true x y H Q ∨ rNotInD K x y H Q
theorem op_inZ (hu : X.A.units + 65 < cLine) : OpR X (compareOp .In) (rInZ X.K) := op_in_seq.or (op_inD hu)
theorem op_notInZ (hu : X.A.units + 65 < cLine) : OpR X (compareOp .NotIn) (rNotInZ X.K) := op_notIn_seq.or (op_notInD hu)
theorem oInB_of {x y : D} {b : Bool} {v w : V} (hs : Sub F H) (q1 : Rp G F v x) (q2 : Rp G F w y) (h : oInB x y = some b) :
    (∃ p xs, w = .ref p ∧ (SqL G.K H p xs ∨ SqT G.K H p xs) ∧ flatV v = true ∧ xs.all flatV = true ∧ inV v xs = b) ∨ (∃ ds, Dp G.K H v x ∧ Dp G.K H w (.list ds) ∧ SeqAt.shaped x = true ∧ SeqAt.shaped (.list ds) = true ∧ b = ds.any fun z => PyData.eqv z x) := by
  unfold oInB at h
  split at h
  · split at h
    · rename_i hz
      rw [Bool.and_eq_true] at hz
      cases h
      obtain ⟨a, xs, rfl, h1, h2⟩ := rp_lst q2
      exact .inl ⟨a, xs, rfl, .inl (SqL.of (hs _ _ h1)), flat_of q1 hz.1, flat_all h2 hz.2, inV_of q1 hz.1 h2 hz.2⟩
    · split at h
      · rename_i hz
        rw [Bool.and_eq_true] at hz
        cases h
        exact .inr ⟨_, q1.dp hs (SeqAt.canLay_of_shaped hz.1), q2.dp hs (SeqAt.canLay_of_shaped hz.2), hz.1, hz.2, rfl⟩
      · cases h
  · split at h
    · rename_i hz
      rw [Bool.and_eq_true] at hz
      cases h
      obtain ⟨a, xs, rfl, h1, h2⟩ := rp_tup q2
      exact .inl ⟨a, xs, rfl, .inr (hs.t h1), flat_of q1 hz.1, flat_all h2 hz.2, inV_of q1 hz.1 h2 hz.2⟩
    · cases h
  · cases h
theorem od_in : OpD G (rInZ G.K) oIn := fun x y d F H v w Q h hs q1 q2 k => by
  unfold oIn at h
  cases hb : oInB x y with
  | none => rw [hb] at h; cases h
  | some b =>
    rw [hb] at h
    cases h
    rcases oInB_of hs q1 q2 hb with ⟨p, xs, e, h1, h2, h3, h4⟩ | ⟨ds, h1, h2, h3, h4, h5⟩
    · exact .inl ⟨p, xs, e, h1, h2, h3, by rw [if_neg (by decide), h4]; exact k _ _ _ (Ext.refl _ _) (.bl _)⟩
    · exact .inr ⟨x, ds, h1, h2, h3, h4, by rw [← h5]; exact k _ _ _ (Ext.refl _ _) (.bl _)⟩
theorem od_notIn : OpD G (rNotInZ G.K) oNotIn := fun x y d F H v w Q h hs q1 q2 k => by
  unfold oNotIn at h
  cases hb : oInB x y with
  | none => rw [hb] at h; cases h
  | some b =>
    rw [hb] at h
    cases h
    rcases oInB_of hs q1 q2 hb with ⟨p, xs, e, h1, h2, h3, h4⟩ | ⟨ds, h1, h2, h3, h4, h5⟩
    · exact .inl ⟨p, xs, e, h1, h2, h3, by rw [if_pos rfl, h4]; exact k _ _ _ (Ext.refl _ _) (.bl _)⟩
    · exact .inr ⟨x, ds, h1, h2, h3, h4, by rw [← h5]; exact k _ _ _ (Ext.refl _ _) (.bl _)⟩
/-! ### x is True -/
def oIsB : D → D → Option D
  | .bool a, .bool b => some (.bool (decide (a = b)))
  | _, _ => none
def oNotB : D → D → Option D
  | .bool a, .bool b => some (.bool (!decide (a = b)))
  | _, _ => none
theorem od_isB : OpD G rIsB oIsB := fun x y d F H v w Q h hs q1 q2 k => by
  unfold oIsB at h
  split at h
  · cases h
    rw [rp_bl q1, rp_bl q2]
    exact ⟨_, _, rfl, rfl, k _ _ _ (Ext.refl _ _) (.bl _)⟩
  · cases h
theorem od_notB : OpD G rNotB oNotB := fun x y d F H v w Q h hs q1 q2 k => by
  unfold oNotB at h
  split at h
  · cases h
    rw [rp_bl q1, rp_bl q2]
    exact ⟨_, _, rfl, rfl, k _ _ _ (Ext.refl _ _) (.bl _)⟩
  · cases h
/-! ### xs[::-1], a list -/
def xRev (f : En → R D) : En → R Sl := fun r => (f r).bind fun x r1 => match x with
  | .list ds => .ok (.ow ds.reverse) r1
  | _ => .st
theorem dx_rev {k : Nat} {p1 p2 p3 : Pos} (hK : X.K = G.K) (ha : PE X a (TEo G W f)) : PE X (.Subscript a (.Slice none none (some (.UnaryOp .USub (.Constant (.int 1) k p1) p2)) p3) pos) (TXo G W (xRev f)) :=
  pe_of (pe_revL ha) fun σ H Q ⟨F, r0, e, p⟩ => by
    have p : TXp G W (xRev f r0) F H σ r0 Q := p
    refine ⟨F, r0, e, (TXp.bind (rel := rV G) p).mono fun v H1 ⟨x, F1, r1, _, e1, q1, p1⟩ => ?_⟩
    cases q1 with
    | @lst a xs ds h1 h2 => exact ⟨a, xs, rfl, SqL.of (e1.sub _ _ h1), fun l hl => TXp.new (ds := ds.reverse) p1 e1 _ h2.rev l hl⟩
    | _ => exact p1.elim
/-! ### all, any of a list of truth values -/
def boolsD : List D → Option (List Bool)
  | [] => some []
  | .bool b :: r => (boolsD r).map (b :: ·)
  | _ :: _ => none
theorem bools_is : ∀ {ds : List D} {bs : List Bool}, boolsD ds = some bs → ds = bs.map PyData.bool
  | [], bs, h => by cases h; rfl
  | d :: r, bs, h => by
    cases d with
    | bool b =>
      unfold boolsD at h
      cases hr : boolsD r with
      | none => rw [hr] at h; cases h
      | some ms => rw [hr] at h; cases h; rw [bools_is hr]; rfl
    | _ => cases h
theorem rp_bools {F : Hp} : ∀ {bs : List Bool} {vs : List V}, RpL G F vs (bs.map PyData.bool) → vs = bs.map V.bl
  | [], _, q => by cases q; rfl
  | n :: ns, _, q => by
    cases q with
    | cons h t => rw [rp_bl h, rp_bools t]; rfl
def cAll : List D → Option D
  | [.list ds] => (boolsD ds).map fun bs => .bool (bs.all id)
  | _ => none
def cAny : List D → Option D
  | [.list ds] => (boolsD ds).map fun bs => .bool (bs.any id)
  | _ => none
theorem cd_all : CallD G (rAll G.K) cAll := fun x d F H v Q h hs q k => by
  unfold cAll at h
  split at h
  · rename_i ds
    obtain ⟨v, rfl, qa⟩ := one_of q
    obtain ⟨a, xs, rfl, h1, h2⟩ := rp_lst qa
    cases hn : boolsD ds with
    | none => rw [hn] at h; cases h
    | some bs =>
      rw [hn] at h
      cases h
      rw [bools_is hn] at h2
      rw [rp_bools h2] at h1
      exact ⟨a, bs, rfl, SqL.of (hs _ _ h1), k _ _ _ (Ext.refl _ _) (.bl _)⟩
  · cases h
theorem cd_any : CallD G (rAny G.K) cAny := fun x d F H v Q h hs q k => by
  unfold cAny at h
  split at h
  · rename_i ds
    obtain ⟨v, rfl, qa⟩ := one_of q
    obtain ⟨a, xs, rfl, h1, h2⟩ := rp_lst qa
    cases hn : boolsD ds with
    | none => rw [hn] at h; cases h
    | some bs =>
      rw [hn] at h
      cases h
      rw [bools_is hn] at h2
      rw [rp_bools h2] at h1
      exact ⟨a, bs, rfl, SqL.of (hs _ _ h1), k _ _ _ (Ext.refl _ _) (.bl _)⟩
  · cases h
/-! ### slices of tuples, lists -/
def cutD (ds : List D) (lo hi : Option Int) : List D := (ds.drop (HT.sIx ds.length 0 lo)).take (HT.sIx ds.length ds.length hi - HT.sIx ds.length 0 lo)
theorem rp_cut {vs : List V} {ds : List D} (q : RpL G F vs ds) (lo hi : Option Int) : RpL G F (cutV vs lo hi) (cutD ds lo hi) := by
  unfold cutV cutD
  rw [q.len]
  exact (q.drop _).take _
theorem cut_whole {ds : List D} {lo hi : Option Int} (h : HT.sIx ds.length 0 lo = 0 ∧ HT.sIx ds.length ds.length hi = ds.length) : cutD ds lo hi = ds := by
  unfold cutD
  rw [h.1, h.2, List.drop_zero, Nat.sub_zero, List.take_length]
abbrev rO : Hp → Option Int → Option Int → Prop := fun _ a b => a = b
abbrev TPo (G : Gm) (W : WX) (f : En → R (Option Int)) : TO := Ps G W rO f
def pNo : En → R (Option Int) := fun r => .ok none r
def pE (f : En → R D) : En → R (Option Int) := fun r => (f r).bind fun x r1 => match x with
  | .int i => .ok (some i) r1
  | _ => .st
theorem dp_no : PO X none (TPo G W pNo) := ⟨fun pins s σ H Q I ⟨F, r, e, p⟩ => po_none.run pins s σ H Q I (Pt.here p e (Ext.refl _ _) rfl)⟩
theorem dp_some (h : PE X a (TEo G W f)) : PO X (some a) (TPo G W (pE f)) := ⟨fun pins s σ H Q I ⟨F, r, e, p⟩ => (po_some h).run pins s σ H Q I ⟨F, r, e, (Pt.bind (rel1 := rV G) p).mono fun v H1 ⟨x, F1, r1, _, e1, q1, p1⟩ => by
  cases q1 with
  | int i => exact ⟨i, rfl, Pt.here p1 e1 (Ext.refl _ _) rfl⟩
  | _ => exact p1.elim⟩⟩
def xSlc (f : En → R D) (l u : En → R (Option Int)) : En → R Sl := fun r => (f r).bind fun x r1 => (l r1).bind fun lo r2 => (u r2).bind fun hi r3 => match x with
  | .tuple ds => .ok (.vl (.tuple (cutD ds lo hi))) r3
  | .list ds => .ok (.ow (cutD ds lo hi)) r3
  | _ => .st
theorem TXp.val {d : D} {Q : VK} (h : TXp G W (.ok (.vl d) r) F H σ r Q) (e : Rel G F H σ r) : ∀ F' H' z, Ext F H F' H' → Rp G F' z d → Q z H' := fun F' H' z x q =>
  h F' H' z ((x.goO fun _ z => z).wide (fun _ z => z) fun a z => .inl (own_val (e.ext x).len z)) ((e.ext x).val q)
theorem dx_slc {lo hi : Option Expr} {l u : En → R (Option Int)} {p2 : Pos} (hK : X.K = G.K) (ha : PE X a (TEo G W f)) (hl : PO X lo (TPo G W l)) (hu : PO X hi (TPo G W u)) : PE X (.Subscript a (.Slice lo hi none p2) pos) (TXo G W (xSlc f l u)) :=
  pe_of (pe_slice (sl_tupA.or sl_list) ha hl hu) fun σ H Q ⟨F, r0, e, p⟩ => by
    have p : TXp G W (xSlc f l u r0) F H σ r0 Q := p
    refine ⟨F, r0, e, (TXp.bind (rel := rV G) p).mono fun v H1 ⟨x, F1, r1, _, e1, q1, p1⟩ => ⟨F1, r1, e1, (TXp.bind (rel := rO) p1).mono fun o H2 ⟨lo', F2, r2, s2, e2, q2, p2⟩ => ⟨F2, r2, e2, (TXp.bind (rel := rO) p2).mono fun o2 H3 ⟨hi', F3, r3, s3, e3, q3, p3⟩ => ?_⟩⟩⟩
    have q2 : o = lo' := q2
    have q3 : o2 = hi' := q3
    subst q2 q3
    have q1 := (q1.mono s2).mono s3
    cases q1 with
    | @tup b xs ds h1 h2 =>
      have p3 := TXp.val p3 e3
      refine .inl ⟨b, xs, rfl, by rw [hK]; exact e3.sub.t h1, fun hw => ?_, fun hw => new_tup e3.sub (rp_cut h2 _ _) rfl p3⟩
      rw [h2.len] at hw
      exact p3 _ _ _ (Ext.refl _ _) (by rw [cut_whole hw]; exact .tup h1 h2)
    | @lst b xs ds h1 h2 => exact .inr ⟨b, xs, rfl, SqL.of (e3.sub _ _ h1), fun l hl => TXp.new (ds := cutD ds _ _) p3 e3 _ (rp_cut h2 _ _) l hl⟩
    | _ => exact p3.elim
/-! ### (*xs, ..) -/
def seqD : D → Option (List D)
  | .list ds => some ds
  | .tuple ds => some ds
  | _ => none
def aStar (f : En → R D) (g : En → R (List D)) : En → R (List D) := fun r => (f r).bind fun x r1 => match seqD x with
  | some ds => (g r1).bind fun es r2 => .ok (ds ++ es) r2
  | none => .st
theorem da_star {es : List Expr} {fs : En → R (List D)} {sp : Pos} (hK : X.K = G.K) (ha : PE X a (TEo G W f)) (hr : PA X es (TAo G W fs)) (hs : starEach (.Starred a sp :: es) X.env = (true, eval a X.env) :: starEach es X.env := by rfl) : PA X (.Starred a sp :: es) (TAo G W (aStar f fs)) :=
  pa_of (StX.pa_star ha hr hs) fun σ H Q ⟨F, r0, e, p⟩ => ⟨F, r0, e, (Pt.bind (rel1 := rV G) p).mono fun v H1 ⟨x, F1, r1, _, e1, q1, p1⟩ => by
    cases q1 with
    | @tup b xs ds h1 h2 =>
      have p1 : Pt G W (rL G) ((fs r1).bind fun es r2 => .ok (ds ++ es) r2) F1 H1 σ r1 Q := p1
      exact ⟨b, xs, rfl, .inl (by rw [hK]; exact e1.sub.t h1), F1, r1, e1, (Pt.bind (rel1 := rL G) p1).mono fun vs H2 ⟨y, F2, r2, s2, e2, q2, p2⟩ => Pt.here p2 e2 (Ext.refl _ _) ((h2.mono s2).append q2)⟩
    | @lst b xs ds h1 h2 =>
      have p1 : Pt G W (rL G) ((fs r1).bind fun es r2 => .ok (ds ++ es) r2) F1 H1 σ r1 Q := p1
      exact ⟨b, xs, rfl, .inr (SqL.of (e1.sub _ _ h1)), F1, r1, e1, (Pt.bind (rel1 := rL G) p1).mono fun vs H2 ⟨y, F2, r2, s2, e2, q2, p2⟩ => Pt.here p2 e2 (Ext.refl _ _) ((h2.mono s2).append q2)⟩
    | _ => exact p1.elim⟩
/-! ### enumerate of a list -/
def enumD : Nat → List D → List D
  | _, [] => []
  | i, d :: ds => .tuple [.int (i : Nat), d] :: enumD (i + 1) ds
theorem enumD_len : ∀ (ds : List D) (i : Nat), (enumD i ds).length = ds.length
  | [], _ => rfl
  | d :: ds, i => congrArg (· + 1) (enumD_len ds (i + 1))
theorem enumD_get : ∀ (ds : List D) (i j : Nat) (d : D), ds[j]? = some d → (enumD i ds)[j]? = some (.tuple [.int ((i + j : Nat) : Int), d])
  | [], _, _, _, e => by simp at e
  | x :: ds, i, 0, d, e => by simp at e; subst e; rfl
  | x :: ds, i, j + 1, d, e => by
    have := enumD_get ds (i + 1) j d (by simpa using e)
    rw [show i + (j + 1) = i + 1 + j from by omega]
    simpa [enumD] using this
theorem yl_enum {K : PySem.W.Frag} {xs : List V} {ds : List D} {p : Addr} (hK : K = G.K) (h : SqL G.K F p xs) (q : RpL G F xs ds) : Yl G (Ite K p) F (enumD 0 ds) := by
  subst hK
  refine ⟨fun i F' H' s1 s2 hi => ?_, fun i F' H' s1 s2 hi => ⟨xs, s2.l (s1.l h), by rw [enumD_len] at hi; rw [q.len]; omega⟩⟩
  rw [enumD_len] at hi
  obtain ⟨v, hv, qv⟩ := q.get (List.getElem?_eq_getElem hi)
  have hs := s2.l (s1.l h)
  refine ⟨⟨xs, v, hs, hv⟩, fun x H2 ⟨T, y, e, hT, e2, k⟩ => ?_⟩
  subst e e2
  have z := k xs hs
  rw [hv] at z
  cases z
  have hF : F' T = none := by
    cases z : F' T with
    | none => rfl
    | some u => rw [s2 T u z] at hT; cases hT
  refine ⟨upd F' T (.tup [.int (i : Nat), v]), .tuple [.int (i : Nat), ds[i]], ?_, Ext.new s2 hT (by intro ps z; cases z), .tup (SqT.of upd_same) (.cons (.int _) (.cons ((qv.mono s1).mono (sub_upd hF)) .nil))⟩
  have := enumD_get ds 0 i ds[i] (List.getElem?_eq_getElem hi)
  rwa [Nat.zero_add] at this
def iEnm (f : En → R D) : En → R (List D) := fun r => (f r).bind fun x r1 => match x with
  | .list ds => .ok (enumD 0 ds) r1
  | _ => .st
theorem di_enum {p tpos : Pos} {elts : List Expr} {kk : Nat} (hK : X.K = G.K) (hm : X.mg "enumerate" = none) (ha : PE X a (TEo G W f)) (hg : Gl X "enumerate" := by rfl) (hs : starEach [a] X.env = [(false, eval a X.env)] := by rfl) : PI X (.Tuple elts kk tpos) (.Call (.Name "enumerate" p) [a] [] pos) (TIo G W (iEnm f)) :=
  pi_of (pi_enum hg hm (pa_cons ha pa_nil hs) hs) fun σ H Q ⟨F, r, e, p⟩ => by
    have p : TIp G W (iEnm f r) F H σ r Q := p
    refine ⟨F, r, e, (TIp.bind (rel := rV G) p).mono fun v H1 ⟨x, F1, r1, _, e1, q1, p1⟩ => ?_⟩
    cases q1 with
    | @lst b xs ds h1 h2 => exact ⟨b, xs, rfl, by rw [hK]; exact SqL.of (e1.sub _ _ h1), TIp.here p1 e1 (yl_enum hK (SqL.of h1) h2)⟩
    | _ => exact p1.elim
/-! ### zip of two lists, two tuples -/
def zipD : List D → List D → List D
  | d :: ds, e :: es => .tuple [d, e] :: zipD ds es
  | _, _ => []
theorem zipD_len : ∀ (ds es : List D), (zipD ds es).length = min ds.length es.length
  | [], es => by simp [zipD]
  | d :: ds, [] => by simp [zipD]
  | d :: ds, e :: es => by
    simp only [zipD, List.length_cons, zipD_len ds es]
    omega
theorem zipD_get : ∀ (ds es : List D) (j : Nat) (d e : D), ds[j]? = some d → es[j]? = some e → (zipD ds es)[j]? = some (.tuple [d, e])
  | [], _, _, _, _, h, _ => by simp at h
  | _ :: _, [], _, _, _, _, h => by simp at h
  | x :: ds, y :: es, 0, d, e, h1, h2 => by simp at h1 h2; subst h1 h2; rfl
  | x :: ds, y :: es, j + 1, d, e, h1, h2 => by
    have := zipD_get ds es j d e (by simpa using h1) (by simpa using h2)
    simpa [zipD] using this
theorem pair_new {F' H' : Hp} {T : Addr} {v w : V} {d e : D} (s2 : Sub F' H') (hT : H' T = none) (q1 : Rp G F' v d) (q2 : Rp G F' w e) : Ext F' H' (upd F' T (.tup [v, w])) (upd H' T (.tup [v, w])) ∧ Rp G (upd F' T (.tup [v, w])) (.ref T) (.tuple [d, e]) := by
  have hF : F' T = none := by
    cases z : F' T with
    | none => rfl
    | some u => rw [s2 T u z] at hT; cases hT
  exact ⟨Ext.new s2 hT (by intro ps z; cases z), .tup (SqT.of upd_same) (.cons (q1.mono (sub_upd hF)) (.cons (q2.mono (sub_upd hF)) .nil))⟩
theorem yl_zip {K : PySem.W.Frag} {xs ys : List V} {ds es : List D} {p q : Addr} (hK : K = G.K) (h : SqL G.K F p xs) (h' : SqL G.K F q ys) (r : RpL G F xs ds) (r' : RpL G F ys es) : Yl G (Itz K p q) F (zipD ds es) := by
  subst hK
  refine ⟨fun i F' H' s1 s2 hi => ?_, fun i F' H' s1 s2 hi => ⟨xs, ys, s2.l (s1.l h), s2.l (s1.l h'), by rw [zipD_len] at hi; rw [r.len, r'.len]; omega⟩⟩
  rw [zipD_len] at hi
  have i1 : i < ds.length := by omega
  have i2 : i < es.length := by omega
  obtain ⟨v, hv, qv⟩ := r.get (List.getElem?_eq_getElem i1)
  obtain ⟨w, hw, qw⟩ := r'.get (List.getElem?_eq_getElem i2)
  have hs := s2.l (s1.l h)
  have hs' := s2.l (s1.l h')
  refine ⟨⟨xs, ys, v, w, hs, hs', hv, hw⟩, fun x H2 ⟨T, y, z, e, hT, e2, k, k'⟩ => ?_⟩
  subst e e2
  have a := k xs hs
  have b := k' ys hs'
  rw [hv] at a; rw [hw] at b
  cases a; cases b
  obtain ⟨c1, c2⟩ := pair_new s2 hT (qv.mono s1) (qw.mono s1)
  exact ⟨_, _, zipD_get ds es i _ _ (List.getElem?_eq_getElem i1) (List.getElem?_eq_getElem i2), c1, c2⟩
theorem yl_zipT {K : PySem.W.Frag} {xs ys : List V} {ds es : List D} {p q : Addr} (hK : K = G.K) (h : SqT G.K F p xs) (h' : SqT G.K F q ys) (r : RpL G F xs ds) (r' : RpL G F ys es) : Yl G (RZ.ItzT K p q) F (zipD ds es) := by
  subst hK
  refine ⟨fun i F' H' s1 s2 hi => ?_, fun i F' H' s1 s2 hi => ⟨xs, ys, s2.t (s1.t h), s2.t (s1.t h'), by rw [zipD_len] at hi; rw [r.len, r'.len]; omega⟩⟩
  rw [zipD_len] at hi
  have i1 : i < ds.length := by omega
  have i2 : i < es.length := by omega
  obtain ⟨v, hv, qv⟩ := r.get (List.getElem?_eq_getElem i1)
  obtain ⟨w, hw, qw⟩ := r'.get (List.getElem?_eq_getElem i2)
  have hs := s2.t (s1.t h)
  have hs' := s2.t (s1.t h')
  refine ⟨⟨xs, ys, v, w, hs, hs', hv, hw⟩, fun x H2 ⟨T, y, z, e, hT, e2, k, k'⟩ => ?_⟩
  subst e e2
  have a := k xs hs
  have b := k' ys hs'
  rw [hv] at a; rw [hw] at b
  cases a; cases b
  obtain ⟨c1, c2⟩ := pair_new s2 hT (qv.mono s1) (qw.mono s1)
  exact ⟨_, _, zipD_get ds es i _ _ (List.getElem?_eq_getElem i1) (List.getElem?_eq_getElem i2), c1, c2⟩
def iZp (f g : En → R D) : En → R (List D) := fun r => (f r).bind fun x r1 => (g r1).bind fun y r2 => match x, y with
  | .list ds, .list es => .ok (zipD ds es) r2
  | .tuple ds, .tuple es => .ok (zipD ds es) r2
  | _, _ => .st
theorem di_zip {p tpos : Pos} {elts : List Expr} {kk : Nat} (hK : X.K = G.K) (hm : X.mg "zip" = none) (ha : PE X a (TEo G W f)) (hb : PE X b (TEo G W g)) (hg : Gl X "zip" := by rfl) (hs : starEach [a, b] X.env = (false, eval a X.env) :: starEach [b] X.env := by rfl) (hs2 : starEach [b] X.env = (false, eval b X.env) :: starEach [] X.env := by rfl)
    (hpl : (backTo pos (starEach [b] X.env)).any (·.1) = false := by rfl) : PI X (.Tuple elts kk tpos) (.Call (.Name "zip" p) [a, b] [] pos) (TIo G W (iZp f g)) :=
  pi_of (RZ.pi_zipA hg hm (pa_cons ha (pa_cons hb pa_nil hs2) hs) hs hpl) fun σ H Q ⟨F, r, e, p⟩ => by
    have p : TIp G W (iZp f g r) F H σ r Q := p
    refine ⟨F, r, e, (TIp.bind (rel := rV G) p).mono fun v H1 ⟨x, F1, r1, _, e1, q1, p1⟩ => ⟨F1, r1, e1, (TIp.bind (rel := rV G) p1).mono fun w H2 ⟨y, F2, r2, s2, e2, q2, p2⟩ => ?_⟩⟩
    have q1 := q1.mono s2
    cases q1 with
    | @lst l1 xs ds h1 h2 =>
      cases q2 with
      | @lst l2 ys es h3 h4 => exact ⟨l1, l2, xs, ys, rfl, .inl ⟨by rw [hK]; exact SqL.of (e2.sub _ _ h1), by rw [hK]; exact SqL.of (e2.sub _ _ h3), TIp.here p2 e2 (yl_zip hK (SqL.of h1) (SqL.of h3) h2 h4)⟩⟩
      | _ => exact p2.elim
    | @tup l1 xs ds h1 h2 =>
      cases q2 with
      | @tup l2 ys es h3 h4 => exact ⟨l1, l2, xs, ys, rfl, .inr ⟨by rw [hK]; exact e2.sub.t h1, by rw [hK]; exact e2.sub.t h3, TIp.here p2 e2 (yl_zipT hK h1 h3 h2 h4)⟩⟩
      | _ => exact p2.elim
    | _ => exact p2.elim
end
end DL
set_option maxHeartbeats 4000000
/-! DLm: enumerate of tuples; sorted of ints, of tuples of ints; min, max of lists and tuples; x.pop(i). -/
namespace DL
open PySem PyProof.Rows L2
/-! ### enumerate of a tuple -/
abbrev tItO (t : Addr) : Obj := { cls := .type "tuple_iterator", data := .fields #[.ref t, .int 0 0] }
abbrev enO (p : Addr) : Obj := { cls := .type "enumerate", data := .fields #[.none, .bool false, .ref p, rawInt 0, .none, .none] }
theorem enum_newT {t : Addr} {its : Array Value} : Meets (Builtin.«enumerate.__new__» ⟨[.type "enumerate", .ref t], []⟩) (fun _ R s => s.heap.IsTuple t its ∧ R (.ok (.ret (.ref (s.heap.push (tItO t)).objs.size))) { s with heap := (s.heap.push (tItO t)).push (enO s.heap.objs.size) }) :=
  .of_wp fun P w A R s hh => by
    obtain ⟨hp, gg, dd, tk, os⟩ := s
    obtain ⟨ht, hh⟩ := hh
    have subE := sub_enumerate
    have it1 : ∀ {A' : Around} {E : Value → Shared → Prop} {Q : Value → Shared → Prop}, Q (.ref hp.objs.size) ⟨hp.push (tItO t), gg, dd, tk, os⟩ → wpAny (model P w) A' (pyIter (.ref t)) Q E ⟨hp, gg, dd, tk, os⟩ := fun q => wpAny_pyIter_tuple (s := ⟨hp, gg, dd, tk, os⟩) ht q
    wp_walk using it1
    refine wpAny_stack_any fun st => wpAny_pure ?_
    split
    · rename_i c _ _ _ _ _
      cases (c == Value.type "enumerate") <;> (wp_walk using it1; exact ⟨_, rfl, hh⟩)
    · wp_walk using it1; exact ⟨_, rfl, hh⟩
theorem enum_callT {P : Program} {w : World} {A : Around} {E : Value → Shared → Prop} {s : Shared} {t : Addr} {its : Array Value} {Q : Value → Shared → Prop} (ht : s.heap.IsTuple t its)
    (k : ∀ g : Heap, IsEnum g (s.heap.objs.size + 1) s.heap.objs.size 0 .none → g.IsTupleIter s.heap.objs.size t 0 → (∀ b o, s.heap.get? b = some o → g.get? b = some o) → Q (.ref (s.heap.objs.size + 1)) { s with heap := g }) :
    wpAny (model P w) A (call (.type "enumerate") [.ref t]) Q E s := by
  refine callType_new F.called_enumerate (by decide) (F.typeCall_enumerate_1 _) (F.newCall_enumerate_1 _) (fun o => F.args_object_init_2 o _) F.entry_enumerate_new (enum_newT (its := its)) ⟨ht, ?_⟩
  have hz : (s.heap.push (tItO t)).objs.size = s.heap.objs.size + 1 := Heap.size_push ..
  show _ ∧ _
  rw [hz]
  have he : IsEnum ((s.heap.push (tItO t)).push (enO s.heap.objs.size)) (s.heap.objs.size + 1) s.heap.objs.size 0 .none := by
    have q := Heap.get?_push_size (s.heap.push (tItO t)) (o := enO s.heap.objs.size) rfl
    rwa [hz] at q
  exact ⟨⟨_, he, rfl⟩, k _ he ⟨_, Heap.get?_push_of_some _ (Heap.get?_push_size _ rfl), rfl, rfl⟩ fun b o x => Heap.get?_push_of_some _ (Heap.get?_push_of_some _ x)⟩
theorem enum_endT {P : Program} {w : World} {A : Around} {E : Value → Shared → Prop} {s : Shared} {e it t : Addr} {i : Nat} {its : Array Value} {c : Int} {old : Value} {Q : Option Value → Shared → Prop} (hh : A.handled = none) (he : IsEnum s.heap e it c old) (hi : s.heap.IsTupleIter it t i) (ht : s.heap.IsTuple t its) (hx : its[i]? = none)
    (k : ∀ g, Heap.ExtBut it s.heap g → Q none { s with heap := g }) : wpAny (model P w) A (pyNext (.ref e)) Q E s := by
  have tE : s.TypeIs (.ref e) "enumerate" := ⟨_, he, rfl⟩
  unfold pyNext
  refine wpAny_bind (wpAny_attempt (wpAny_callSpecial?_slot (name := Str.ofString "__next__") tE F.slot_enumerate_next (wpAny_call_entry F.slot_enumerate_next tE F.entry_enumerate_next ?_ (F.args_enumerate_next_1 _))))
  show wpAny _ _ (field (.ref e) 2 >>= _) _ _ _
  refine wpAny_bind (wpAny_field he rfl (x := .ref it) rfl (wpAny_bind (wpAny_nextOf_tuple_end hh hi ht hx fun g x eg ⟨o, ho, hc⟩ => ?_)))
  exact wpAny_bind (wpAny_isInstance (T := "StopIteration") (b := true) ⟨o, ho, hc⟩ isSubtype_stop (wpAny_pure (k _ eg)))
def IteT (K : PySem.W.Frag) (a : Addr) : It :=
  ⟨fun i H => ∃ (xs : List V) (x : V), SqT K H a xs ∧ xs[i]? = some x,
   fun i H v H' => ∃ T x, v = .ref T ∧ H T = none ∧ H' = upd H T (.tup [.int (i : Nat), x]) ∧ ∀ xs, SqT K H a xs → xs[i]? = some x,
   fun i H => ∃ xs : List V, SqT K H a xs ∧ xs.length ≤ i⟩
theorem two_cases {b e it : Addr} (h : b ∈ [e, it]) : b = e ∨ b = it := by simpa using h
theorem turn_enumT {P : Program} {w : World} {K : PySem.W.Frag} {elts : List Expr} {kk : Nat} {tpos : Pos} (a e it : Addr) :
    Turn P w K (.Tuple elts kk tpos) (IteT K a) [e, it] e (fun i h => (∃ old, IsEnum h e it ((i : Nat) : Int) old) ∧ h.IsTupleIter it a i ∧ e ≠ it ∧ e ≠ a ∧ a ≠ it) where
  mem := by simp
  obj := fun i h st b hb => by
    obtain ⟨⟨old, he⟩, ⟨o, ho, hc, hd⟩, _⟩ := st
    rcases two_cases hb with z | z
    · subst z; exact ⟨_, he, fun v q => nomatch q⟩
    · subst z; exact ⟨o, ho, fun v q => by rw [hd] at q; cases q⟩
  keep := fun i h g st k => by
    obtain ⟨⟨old, he⟩, hi, n⟩ := st
    exact ⟨⟨old, k e (by simp) _ he⟩, hi.at fun o q => k it (by simp) o q, n⟩
  item := by
    intro X hP hw hK hc i pins s σ H E I hf st hg
    subst hP hw hK
    obtain ⟨⟨old, he⟩, hit, n1, n2, n3⟩ := st
    obtain ⟨xs, x, hq, hx⟩ := hg
    obtain ⟨its, rv, pt, _⟩ := I.tuple hq
    obtain ⟨u, hu, ru⟩ := rv.get hx
    have eL : e < s.heap.objs.size := Heap.lt_size he
    have iL : it < s.heap.objs.size := by obtain ⟨_, q, _⟩ := hit; exact Heap.lt_size q
    have hlt : i < its.toArray.size := by
      have := (List.getElem?_eq_some_iff.mp hu).1
      simpa using this
    have hef : e ∉ [it, a] := by simp [n1, n2]
    refine wpAny_pyNext_enum_itemD (Draws.tuple (A := X.A.in1) (I.ok.hd hc) it a n3 its.toArray) he ⟨hit, pt⟩ hlt n1 hef fun y g tk hy ho st2 hT hsz hk => ?_
    have ey : y = u := by
      have h1 : its.toArray[i]? = some u := by simpa using hu
      rw [hy] at h1
      exact Option.some.inj h1
    subst ey
    refine ⟨_, rfl, wpAny_letOwnedTupleGo_enum (s := { s with heap := g, toks := tk + 1 }) ho fun g2 he' sb => ?_⟩
    have hT2 : g2.get? s.heap.objs.size = some { cls := .type "tuple", data := .seq #[.int i tk, y] } := (sb.2 _ (Nat.ne_of_gt eL)).trans hT
    have new : ObjOk X.prog X.w (upd H s.heap.objs.size (.tup [.int (i : Nat), x])) g2 s.heap.objs.size (.tup [.int (i : Nat), x]) := ⟨show 2 ≤ sizeLine by decide, [.int i tk, y], .cons ⟨_, rfl⟩ (.cons ru .nil), ⟨_, hT2, rfl, _, rfl⟩⟩
    have I1 : Inv X pins σ (upd H s.heap.objs.size (.tup [.int (i : Nat), x])) { s with heap := g2, toks := tk + 1 } := I.turnedNew (ch := [e, it]) (fun b ob hb q => (sb.2 b (fun z => hb (by simp [z]))).trans (hk b ob (fun z => hb (by simp [z])) (fun z => hb (by simp [z])) q)) hf (Nat.le_refl _) new
    refine ⟨.ref s.heap.objs.size, _, I1, rfl, ⟨_, x, rfl, I.hok.fresh (Nat.le_refl _), rfl, fun ys hy => by rw [I.tuple_inj hy hq]; exact hx⟩, ⟨⟨y, ?_⟩, st2.1.at fun o q => (sb.2 it (Ne.symm n1)).trans q, n1, n2, n3⟩, fun b hb => ?_⟩
    · rw [show ((i + 1 : Nat) : Int) = (i : Int) + 1 by omega]; exact he'
    · have hb' : b < s.heap.objs.size := by
        rcases two_cases hb with z | z <;> subst z <;> assumption
      rw [upd_ne (Nat.ne_of_lt hb')]
      exact (hf b hb).1
  done := by
    intro X hP hw hK hc i pins s σ H E I hf st hg
    subst hP hw hK
    obtain ⟨⟨old, he⟩, hit, n1, n2, n3⟩ := st
    obtain ⟨xs, hq, hx⟩ := hg
    obtain ⟨its, rv, pt, _⟩ := I.tuple hq
    obtain ⟨f0, f1, f2, f3, f4, f5⟩ := hf it (by simp)
    have hl := rv.length
    exact enum_endT (I.ok.hd hc) he hit pt (by simp; omega) fun g eb => ⟨rfl, I.turned (t' := s.toks) (fun b o hb q => eb b o hb q) f0 f1 f3 f4 f5⟩
  self := fun A i s Q E st h => let ⟨⟨_, he⟩, _⟩ := st; wpAny_pyIter_enum he h
end DL
set_option maxHeartbeats 4000000
/-! DLn: sorted, min, max of ints and of tuples of ints; x.pop(i); enumerate. -/
namespace DL
open PySem PyProof.Rows L2
/-! ### a merge sort that the kernel runs -/
section
variable {α : Type} (le : α → α → Bool)
def mrgF : Nat → List α → List α → List α
  | 0, xs, ys => xs ++ ys
  | n + 1, xs, ys => match xs, ys with
    | [], ys => ys
    | xs, [] => xs
    | x :: xs, y :: ys => if le x y = true then x :: mrgF n xs (y :: ys) else y :: mrgF n (x :: xs) ys
def msF : Nat → List α → List α
  | 0, l => l
  | n + 1, l => match l with
    | [] => []
    | [x] => [x]
    | x :: y :: r => mrgF le (x :: y :: r).length (msF n ((x :: y :: r).take ((x :: y :: r).length / 2))) (msF n ((x :: y :: r).drop ((x :: y :: r).length / 2)))
variable {le}
theorem mrg_perm : ∀ (n : Nat) (xs ys : List α), (mrgF le n xs ys).Perm (xs ++ ys)
  | 0, _, _ => List.Perm.refl _
  | n + 1, [], ys => List.Perm.refl _
  | n + 1, x :: xs, [] => by simp [mrgF]
  | n + 1, x :: xs, y :: ys => by
    unfold mrgF
    dsimp only
    split
    · exact (mrg_perm n xs (y :: ys)).cons x
    · exact ((mrg_perm n (x :: xs) ys).cons y).trans (List.perm_middle (l₁ := x :: xs) (l₂ := ys) (a := y)).symm
theorem ms_perm : ∀ (n : Nat) (l : List α), (msF le n l).Perm l
  | 0, _ => List.Perm.refl _
  | n + 1, [] => List.Perm.refl _
  | n + 1, [x] => List.Perm.refl _
  | n + 1, x :: y :: r => by
    unfold msF
    dsimp only
    refine (mrg_perm _ _ _).trans (((ms_perm n _).append (ms_perm n _)).trans ?_)
    rw [List.take_append_drop]
variable {p : α → Prop}
theorem mrg_srt (tr : ∀ a b c, p a → p b → p c → le a b = true → le b c = true → le a c = true) (to : ∀ a b, p a → p b → le a b = true ∨ le b a = true) : ∀ (n : Nat) (xs ys : List α), xs.length + ys.length ≤ n → (∀ z ∈ xs ++ ys, p z) → xs.Pairwise (fun a b => le a b = true) → ys.Pairwise (fun a b => le a b = true) → (mrgF le n xs ys).Pairwise (fun a b => le a b = true)
  | 0, [], [], _, _, _, _ => List.Pairwise.nil
  | 0, [], _ :: _, h, _, _, _ => absurd h (by simp)
  | 0, _ :: _, _, h, _, _, _ => absurd h (by simp)
  | n + 1, [], ys, _, _, _, h2 => h2
  | n + 1, x :: xs, [], _, _, h1, _ => by simpa [mrgF] using h1
  | n + 1, x :: xs, y :: ys, hn, hp, h1, h2 => by
    have a1 := List.pairwise_cons.mp h1
    have a2 := List.pairwise_cons.mp h2
    have px : p x := hp x (by simp)
    have py : p y := hp y (by simp)
    unfold mrgF
    dsimp only
    split
    · rename_i hle
      refine List.pairwise_cons.mpr ⟨fun z hz => ?_, mrg_srt tr to n xs (y :: ys) (by simp at hn ⊢; omega) (fun z hz => hp z (List.mem_cons_of_mem _ hz)) a1.2 h2⟩
      have hz := (mrg_perm n xs (y :: ys)).mem_iff.mp hz
      rcases List.mem_append.mp hz with hz | hz
      · exact a1.1 z hz
      · rcases List.mem_cons.mp hz with e | hz
        · rw [e]; exact hle
        · exact tr x y z px py (hp z (by simp [hz])) hle (a2.1 z hz)
    · rename_i hle
      have hyx : le y x = true := (to x y px py).resolve_left hle
      refine List.pairwise_cons.mpr ⟨fun z hz => ?_, mrg_srt tr to n (x :: xs) ys (by simp at hn ⊢; omega) (fun z hz => hp z (by rcases List.mem_append.mp hz with q | q; exact List.mem_append_left _ q; exact List.mem_append_right _ (List.mem_cons_of_mem _ q))) h1 a2.2⟩
      have hz := (mrg_perm n (x :: xs) ys).mem_iff.mp hz
      rcases List.mem_append.mp hz with hz | hz
      · rcases List.mem_cons.mp hz with e | hz
        · rw [e]; exact hyx
        · exact tr y x z py px (hp z (by simp [hz])) hyx (a1.1 z hz)
      · exact a2.1 z hz
theorem ms_srt (tr : ∀ a b c, p a → p b → p c → le a b = true → le b c = true → le a c = true) (to : ∀ a b, p a → p b → le a b = true ∨ le b a = true) : ∀ (n : Nat) (l : List α), l.length ≤ n → (∀ z ∈ l, p z) → (msF le n l).Pairwise (fun a b => le a b = true)
  | 0, [], _, _ => List.Pairwise.nil
  | 0, _ :: _, h, _ => absurd h (by simp)
  | n + 1, [], _, _ => List.Pairwise.nil
  | n + 1, [x], _, _ => List.pairwise_singleton _ _
  | n + 1, x :: y :: r, hn, hp => by
    unfold msF
    dsimp only
    have l0 : (x :: y :: r).length = r.length + 2 := rfl
    refine mrg_srt tr to _ _ _ ?_ (fun z hz => ?_) (ms_srt tr to n _ ?_ fun z hz => hp z (List.mem_of_mem_take hz)) (ms_srt tr to n _ ?_ fun z hz => hp z (List.mem_of_mem_drop hz))
    · rw [(ms_perm n _).length_eq, (ms_perm n _).length_eq, List.length_take, List.length_drop]; omega
    · rcases List.mem_append.mp hz with q | q
      · exact hp z (List.mem_of_mem_take ((ms_perm n _).mem_iff.mp q))
      · exact hp z (List.mem_of_mem_drop ((ms_perm n _).mem_iff.mp q))
    · rw [List.length_take]; rw [l0] at hn ⊢; omega
    · rw [List.length_drop]; rw [l0] at hn ⊢; omega
end
/-! ### ints, tuples of ints -/
def isI : D → Bool
  | .int _ => true
  | _ => false
def isTI : D → Bool
  | .tuple xs => xs.all isI
  | _ => false
def ltL : List D → List D → Bool
  | [], [] => false
  | [], _ :: _ => true
  | _ :: _, [] => false
  | .int a :: xs, .int b :: ys => if a = b then ltL xs ys else decide (a < b)
  | _ :: _, _ :: _ => false
def ltD : D → D → Bool
  | .int a, .int b => decide (a < b)
  | .tuple xs, .tuple ys => ltL xs ys
  | _, _ => false
def leD (x y : D) : Bool := !ltD y x
theorem isI_is {d : D} (h : isI d = true) : ∃ i, d = .int i := by
  cases d <;> first | exact ⟨_, rfl⟩ | cases h
theorem allI_is : ∀ {ds : List D}, ds.all isI = true → ∃ ns : List Int, ds = ns.map .int
  | [], _ => ⟨[], rfl⟩
  | d :: ds, h => by
    rw [List.all_cons, Bool.and_eq_true] at h
    obtain ⟨i, rfl⟩ := isI_is h.1
    obtain ⟨ns, rfl⟩ := allI_is h.2
    exact ⟨i :: ns, rfl⟩
theorem isTI_is {d : D} (h : isTI d = true) : ∃ ns : List Int, d = .tuple (ns.map .int) := by
  cases d with
  | tuple xs => obtain ⟨ns, rfl⟩ := allI_is (show xs.all isI = true from h); exact ⟨ns, rfl⟩
  | _ => cases h
theorem ltL_ints : ∀ xs ys : List Int, ltL (xs.map .int) (ys.map .int) = decide (xs < ys)
  | [], [] => by simp [ltL]
  | [], y :: ys => by simp [ltL]
  | x :: xs, [] => by simp [ltL]
  | x :: xs, y :: ys => by
    simp only [List.map_cons, ltL, ltL_ints xs ys]
    by_cases h : x = y
    · subst h; simp [List.cons_lt_cons_iff]
    · rw [if_neg h]; simp [List.cons_lt_cons_iff, h]
/-- one kind -/
def Knd (d : D) : Prop := isI d = true
def okK (ds : List D) : Bool := ds.all isI || ds.all isTI
inductive Kd : D → D → Prop
  | i (a b : Int) : Kd (.int a) (.int b)
  | t (xs ys : List Int) : Kd (.tuple (xs.map .int)) (.tuple (ys.map .int))
theorem okK_is {ds : List D} (h : okK ds = true) : (∀ d ∈ ds, isI d = true) ∨ ∀ d ∈ ds, isTI d = true := by
  unfold okK at h
  rw [Bool.or_eq_true] at h
  exact h.imp (fun z d hd => List.all_eq_true.mp z d hd) fun z d hd => List.all_eq_true.mp z d hd
theorem okK_kd {ds : List D} (h : okK ds = true) {x y : D} (hx : x ∈ ds) (hy : y ∈ ds) : Kd x y := by
  rcases okK_is h with z | z
  · obtain ⟨i, rfl⟩ := isI_is (z x hx)
    obtain ⟨j, rfl⟩ := isI_is (z y hy)
    exact .i i j
  · obtain ⟨i, rfl⟩ := isTI_is (z x hx)
    obtain ⟨j, rfl⟩ := isTI_is (z y hy)
    exact .t i j
theorem Kd.lt {x y : D} (h : Kd x y) : PySem.W.dataLt x y = ltD x y := by
  cases h with
  | i a b => rw [PySem.W.dataLt_int]; rfl
  | t xs ys =>
    rw [PySem.W.dataLt_tuple]
    exact (PySem.W.dataLt_ints xs ys).trans (ltL_ints xs ys).symm
theorem Kd.alike {x y : D} (h : Kd x y) : PySem.W.alike x y = true := by
  cases h with
  | i a b => simp [PySem.W.alike]
  | t xs ys => simp [PySem.W.alike, PySem.W.alike_ints]
theorem isTI_depth {d : D} (h : isI d = true ∨ isTI d = true) : d.depth ≤ 1 ∧ d.canLay0 = true ∧ d ≠ .none := by
  rcases h with h | h
  · obtain ⟨i, rfl⟩ := isI_is h
    exact ⟨by simp [PyData.depth], by simp [PyData.canLay0], by simp⟩
  · obtain ⟨ns, rfl⟩ := isTI_is h
    refine ⟨by simp [PyData.depth, PySem.W.depth_ints], ?_, by simp⟩
    simp only [PyData.canLay0]
    clear h
    induction ns with
    | nil => simp [PyData.canLayAll0]
    | cons n r ih => simpa [PyData.canLayAll0, PyData.canLay0] using ih
theorem okK_each {ds : List D} (h : okK ds = true) {d : D} (hd : d ∈ ds) : d.depth ≤ 1 ∧ d.canLay0 = true ∧ d ≠ .none :=
  isTI_depth ((okK_is h).imp (fun z => z d hd) fun z => z d hd)
theorem okK_lay : ∀ {ds : List D}, (∀ d ∈ ds, d.canLay0 = true) → PyData.canLayAll0 ds = true
  | [], _ => by simp [PyData.canLayAll0]
  | d :: ds, h => by
    simp only [PyData.canLayAll0, Bool.and_eq_true]
    exact ⟨h d (by simp), okK_lay fun e he => h e (by simp [he])⟩
theorem okK_depth : ∀ {ds : List D}, (∀ d ∈ ds, d.depth ≤ 1) → PyData.depthAll ds ≤ 1
  | [], _ => by simp [PyData.depthAll]
  | d :: ds, h => by
    simp only [PyData.depthAll]
    have a := h d (by simp)
    have b := okK_depth (ds := ds) fun e he => h e (by simp [he])
    omega
theorem le_tr {a b c : D} (h1 : Kd a b) (h2 : Kd b c) (l1 : leD a b = true) (l2 : leD b c = true) : leD a c = true := by
  unfold leD at *
  cases h1 with
  | i x y =>
    generalize hb : PyData.int y = b at h2
    cases h2 with
    | i y z => cases hb; simp only [ltD, Bool.not_eq_true', decide_eq_false_iff_not] at *; omega
    | t _ _ => cases hb
  | t xs ys =>
    generalize hb : PyData.tuple (ys.map .int) = b at h2
    cases h2 with
    | i y z => cases hb
    | t ys2 zs =>
      simp only [ltD, ltL_ints, Bool.not_eq_true', decide_eq_false_iff_not, List.not_lt] at *
      have l2' : ys ≤ zs := l2
      exact List.le_trans l1 l2'
theorem le_to {a b : D} (h : Kd a b) : leD a b = true ∨ leD b a = true := by
  unfold leD
  cases h with
  | i x y => simp only [ltD, Bool.not_eq_true', decide_eq_false_iff_not]; omega
  | t xs ys =>
    simp only [ltD, ltL_ints, Bool.not_eq_true', decide_eq_false_iff_not, List.not_lt]
    exact List.le_total xs ys
theorem le_an {a b : D} (h : Kd a b) (l1 : leD a b = true) (l2 : leD b a = true) : a = b := by
  unfold leD at *
  cases h with
  | i x y => simp only [ltD, Bool.not_eq_true', decide_eq_false_iff_not] at *; exact congrArg PyData.int (by omega)
  | t xs ys =>
    simp only [ltD, ltL_ints, Bool.not_eq_true', decide_eq_false_iff_not, List.not_lt] at *
    rw [List.le_antisymm l1 l2]
def srtD (ds : List D) : List D := msF leD ds.length ds
theorem srtD_perm (ds : List D) : (srtD ds).Perm ds := ms_perm _ _
theorem dataLe_eq2 (x y : D) : PySem.W.dataLe false (fun d : D => d) x y = !PySem.W.dataLt y x := rfl
theorem srtD_is {ds : List D} (h : okK ds = true) : ds.mergeSort (PySem.W.dataLe false fun d : D => d) = srtD ds := by
  have kd : ∀ a b, a ∈ ds → b ∈ ds → Kd a b := fun a b ha hb => okK_kd h ha hb
  have e : ∀ a b, a ∈ ds → b ∈ ds → PySem.W.dataLe false (fun d : D => d) a b = leD a b := fun a b ha hb => by
    rw [dataLe_eq2, (kd b a hb ha).lt]; rfl
  have T := PySem.W.sortLe_total (listOrd itemOrd) false fun d : D => PySem.W.keyToks d
  have p1 : (ds.mergeSort (PySem.W.dataLe false fun d : D => d)).Perm ds := List.mergeSort_perm _ _
  have s1 : (ds.mergeSort (PySem.W.dataLe false fun d : D => d)).Pairwise (fun a b => PySem.W.dataLe false (fun d : D => d) a b = true) := List.pairwise_mergeSort T.trans (fun a b => by rw [Bool.or_eq_true]; exact T.total a b) ds
  have s2 : (srtD ds).Pairwise (fun a b => leD a b = true) := ms_srt (le := leD) (p := fun z => z ∈ ds) (fun a b c ha hb hc => le_tr (kd a b ha hb) (kd b c hb hc)) (fun a b ha hb => le_to (kd a b ha hb)) _ _ (Nat.le_refl _) fun z hz => hz
  have s1' : (ds.mergeSort (PySem.W.dataLe false fun d : D => d)).Pairwise (fun a b => leD a b = true) := by
    refine List.Pairwise.imp_of_mem (fun {a b} ha hb hab => ?_) s1
    rw [← e a b (p1.mem_iff.mp ha) (p1.mem_iff.mp hb)]
    exact hab
  refine List.Perm.eq_of_pairwise (le := fun a b => leD a b = true) (fun a b ha hb l1 l2 => ?_) s1' s2 (p1.trans (srtD_perm ds).symm)
  exact le_an (kd a b (p1.mem_iff.mp ha) ((srtD_perm ds).mem_iff.mp hb)) l1 l2
end DL
set_option maxHeartbeats 4000000
/-! DLo: the rules of sorted, min, max, x.pop(i), enumerate over data. -/
namespace DL
open PySem PySem.Calls PyProof.Rows L2
/-! ### what can be sorted: tuples, an empty one among them -/
section
variable {P : Program} {w : World} {A : Around} {s : Shared}
theorem map_runs {β : Type} {M : Model} {E : Value → Shared → Prop} {f : Value → Sem β} {g : Value → β} : ∀ (l : List Value) {Q : List β → Shared → Prop}, (∀ v ∈ l, ∀ Q' : β → Shared → Prop, Q' (g v) s → wpAny M A (f v) Q' E s) → Q (l.map g) s → wpAny M A (l.mapM f) Q E s
  | [], _, _, h => by rw [List.mapM_nil]; exact wpAny_pure h
  | x :: l, Q, hf, h => by
    rw [List.mapM_cons]
    refine wpAny_bind (hf x (.head _) _ (wpAny_bind (map_runs l (Q := fun bs s' => wpAny M A (pure (g x :: bs)) Q E s') (fun v hv => hf v (.tail _ hv)) (wpAny_pure h))))
/-- a tuple's first item -/
def fstV (h : Heap) : Value → Option Value
  | .ref a => match h.get? a with
    | some o => match o.data with
      | .seq xs _ => xs[0]?
      | _ => none
    | none => none
  | _ => none
theorem fst_reads {h : Heap} {v : Value} {xs : List D} {as : List Addr} (r : Reads h v (.tuple xs) as) : (fstV h v).isSome = !xs.isEmpty := by
  cases r with
  | @tuple a o vs n _ _ h1 h2 h3 h4 =>
    unfold fstV
    simp only [h1, h3]
    have e := SeqAt.ReadsAll.length _ _ _ h4
    rw [Array.length_toList] at e
    cases xs with
    | nil => simp at e; simp [e]
    | cons x xs => simp at e; simp [e]
theorem first_run {E : Value → Shared → Prop} {v : Value} {xs : List D} {as : List Addr} {Q : Option Value → Shared → Prop} (r : Reads s.heap v (.tuple xs) as) (q : Q (fstV s.heap v) s) : wpAny (model P w) A (firstOfTuple' v) Q E s := by
  have lk := PySem.W.looks_reads (M := model P w) r
  cases r with
  | @tuple a o vs n _ _ h1 h2 h3 h4 =>
    rw [PySem.W.kas_first_eq]
    refine wpAny_bind (lk.here ?_)
    rw [if_neg (by simp [PySem.W.dataType])]
    refine wpAny_bind (listItems_at h1 h3 (wpAny_pure ?_))
    have e : fstV s.heap (.ref a) = vs[0]? := by unfold fstV; simp only [h1, h3]
    rw [← e]
    exact q
theorem kind_emp {E : Value → Shared → Prop} {vs : List Value} {ds : List D} {Q : SortKind → Shared → Prop} (e : PySem.W.EachIs (fun v d => ∃ as, Reads s.heap v d as) vs ds) (ht : ∀ d ∈ ds, ∃ xs, d = .tuple xs) (h0 : PyData.tuple [] ∈ ds)
    (h : Q (if ((vs.map (fstV s.heap)).toArray[0]?.bind id).isSome then general' else oneType') s) : wpAny (model P w) A (keyKind' vs.toArray) Q E s := by
  have tv : ∀ v ∈ vs, ∃ xs as, Reads s.heap v (.tuple xs) as := fun v hv => by
    obtain ⟨d, hd, as, r⟩ := e.left v hv
    obtain ⟨xs, rfl⟩ := ht d hd
    exact ⟨xs, as, r⟩
  have right : ∀ {vs : List Value} {ds : List D}, PySem.W.EachIs (fun v d => ∃ as, Reads s.heap v d as) vs ds → ∀ d ∈ ds, ∃ v ∈ vs, ∃ as, Reads s.heap v d as := fun {vs ds} e => by
    induction e with
    | nil => intro d hd; cases hd
    | cons r _ ih =>
      intro d hd
      rcases List.mem_cons.mp hd with z | hd
      · subst z; exact ⟨_, List.mem_cons_self, r⟩
      · obtain ⟨v, hv, q⟩ := ih d hd; exact ⟨v, List.mem_cons_of_mem _ hv, q⟩
  obtain ⟨v0, hv0, as0, r0⟩ := right e _ h0
  rw [keyKind'_eq, List.mapM_toArray, map_eq_pure_bind]
  refine wpAny_bind (wpAny_bind (map_runs (g := fstV s.heap) vs (fun v hv Q' hq => ?_) (wpAny_pure ?_)))
  · obtain ⟨xs, as, r⟩ := tv v hv
    exact first_run r hq
  · have none0 : ((vs.map (fstV s.heap)).toArray.all fun x => x.isSome) = false := by
      rw [List.all_toArray, List.all_map, List.all_eq_false]
      exact ⟨v0, hv0, by have := fst_reads r0; simpa using this⟩
    rw [if_neg (by rw [none0]; decide)]
    cases hb : ((vs.map (fstV s.heap)).toArray[0]?.bind id).isSome with
    | true =>
      rw [hb] at h
      rw [if_pos rfl]
      exact wpAny_pure h
    | false =>
      rw [hb] at h
      rw [if_neg (by decide), oneTypeOnly'_eq, List.mapM_toArray, map_eq_pure_bind]
      refine wpAny_bind (wpAny_bind (wpAny_bind (map_runs (g := fun _ => Value.type "tuple") vs (fun v hv Q' hq => ?_) (wpAny_pure ?_))))
      · obtain ⟨xs, as, r⟩ := tv v hv
        exact (PySem.W.looks_reads (M := model P w) r).here hq
      · have hall : ((vs.map fun _ => Value.type "tuple").toArray.all fun x => x == Value.type "tuple") = true := by
          simp only [List.all_toArray, List.all_map, List.all_eq_true]
          intro _ _
          exact beq_self_eq_true _
        have hf : (vs.map fun _ => Value.type "tuple").toArray[0]? = some (Value.type "tuple") := by
          cases vs with
          | nil => cases hv0
          | cons v vs => simp
        rw [hf]
        simp only [hall, if_true]
        exact wpAny_pure (wpAny_pure h)
theorem call_tupLt {E : Value → Shared → Prop} {Q : Value → Shared → Prop} {l b : Addr} {xs ys : Array Value} {e r : Nat → Bool} (hl : s.heap.IsTuple l xs) (hb : s.heap.IsTuple b ys) (he : ∀ j (h1 : j < xs.size) (h2 : j < ys.size), SeqAt.EqAt A.in1 s xs[j] ys[j] (e j)) (hr : ∀ j (h1 : j < xs.size) (h2 : j < ys.size), e j = false → SeqAt.RcLt A.in1 s xs[j] ys[j] (r j))
    (q : Q (.bool (SeqAt.firstLt e r (decide (xs.size < ys.size)) (List.range (min xs.size ys.size)))) s) : wpAny (model P w) A (call (.builtin "tuple.__lt__") [.ref l, .ref b]) Q E s := by
  obtain ⟨⟨c1, d1, t1, s1⟩, o1, k1, n1, m1⟩ := hl
  obtain ⟨⟨c2, d2, t2, s2⟩, o2, k2, n2, m2⟩ := hb
  simp only at k1 m1 k2 m2
  subst k1 m1 k2 m2
  exact call_meets F.slot_tuple_lt ⟨_, o1, rfl⟩ F.entry_tuple_lt (F.args_tuple_lt_2 _ _) (SeqAt.tuple_ltAt l b xs ys n1 n2 d1 d2 s1 s2 e r) ⟨o1, o2, he, hr, q⟩
theorem one_tup {E : Value → Shared → Prop} {f : Bool} {xs ys : List D} {a b : Value} {as bs : List Addr} {Q : Bool → Shared → Prop} (ra : Reads s.heap a (.tuple xs) as) (rb : Reads s.heap b (.tuple ys) bs) (hal : PySem.W.alikeAll xs ys = true) (hu : A.units + (PyData.depthAll xs + 1) < cLine)
    (hq : Q (PySem.W.dataLt (.tuple xs) (.tuple ys)) s) : wpAny (model P w) A (oneLt' f a b) Q E s := by
  have hm : A.units + min (PyData.tuple xs).depth (PyData.tuple ys).depth < cLine := by
    have : (PyData.tuple xs).depth = PyData.depthAll xs + 1 := by simp [PyData.depth]
    have := Nat.min_le_left (PyData.tuple xs).depth (PyData.tuple ys).depth
    omega
  cases f with
  | false => exact PySem.W.oneLt_alike (fun z => nomatch z) ra rb (by simpa [PySem.W.alike] using hal) (fun z => nomatch z) hm hq
  | true =>
    cases ra with
    | @tuple l o vs n _ a1 h1 h2 h3 h4 =>
      cases rb with
      | @tuple l' o' vs' n' _ b1 k1 k2 k3 k4 =>
        have e1 : vs.size = xs.length := by simpa using SeqAt.ReadsAll.length _ _ _ h4
        have e2 : vs'.size = ys.length := by simpa using SeqAt.ReadsAll.length _ _ _ k4
        rw [PySem.W.dataLt_tuple, ← PySem.W.firstLt_toks xs ys hal, ← e1, ← e2] at hq
        rw [oneLt'_eq, if_pos rfl]
        refine wpAny_bind (wpAny_cRoomFor (SeqAt.room_here hm) ?_)
        refine wpAny_bind (wpAny_callSpecialIfBound?_slot (T := "tuple") ⟨_, h1, h2⟩ F.slot_tuple_lt (call_tupLt (e := SeqAt.pairEq xs ys) (r := fun j => PySem.W.dataLt (xs.getD j .none) (ys.getD j .none)) ⟨_, h1, h2, _, h3⟩ ⟨_, k1, k2, _, k3⟩ (fun j j1 j2 => ?_) (fun j j1 j2 hj => ?_) ?_))
        · have := PySem.W.eqAt_alikeAll xs ys A.in1 s vs.toList vs'.toList _ _ h4 k4 hal (SeqAt.room_in hm) j (by simpa using j1) (by simpa using j2)
          simpa using this
        · have := PySem.W.rcLt_alikeAll xs ys A.in1 s vs.toList vs'.toList _ _ h4 k4 hal (SeqAt.room_in hm) j (by simpa using j1) (by simpa using j2) hj
          simpa using this
        · exact wpAny_truthy_bool hq
theorem sorts_emp {vs : List Value} {ds : List D} (e : PySem.W.EachIs (fun v d => ∃ as, Reads s.heap v d as) vs ds) (hal : PySem.W.AllAlike ds) (ht : ∀ d ∈ ds, ∃ xs, d = .tuple xs) (h0 : PyData.tuple [] ∈ ds) (hu : ∀ d ∈ ds, A.units + d.depth < cLine) : PySem.W.SortsAt P w A s (PySem.W.dataKind s.heap ds) vs := by
  have lt : ∀ (f : Bool) (E : Value → Shared → Prop) (x y : Value) (a b : List (Int ⊕ List Nat)) {Q : Bool → Shared → Prop}, (PySem.W.dataKind s.heap ds).keyOf x = some a → (PySem.W.dataKind s.heap ds).keyOf y = some b → Q ((PySem.W.dataKind s.heap ds).blt a b) s → wpAny (model P w) A (oneLt' f x y) Q E s := fun f E x y a b Q ha hb hq => by
    obtain ⟨d, as, hd, ra, rfl⟩ := PySem.W.dataKind_inv ha
    obtain ⟨d', bs, hd', rb, rfl⟩ := PySem.W.dataKind_inv hb
    have hdd := hal d hd d' hd'
    have ud := hu d hd
    obtain ⟨xs, rfl⟩ := ht d hd
    obtain ⟨ys, rfl⟩ := ht d' hd'
    exact one_tup ra rb (by simpa [PySem.W.alike] using hdd) (by simpa [PyData.depth] using ud) hq
  refine ⟨fun v hv => ?_, ?_⟩
  · obtain ⟨d, hd, as, r⟩ := e.left v hv
    exact ⟨_, PySem.W.dataKind_some hal hd r⟩
  · refine ⟨if ((vs.map (fstV s.heap)).toArray[0]?.bind id).isSome then general' else oneType', ?_, fun _ E Q hq => kind_emp e ht h0 hq⟩
    split
    · intro E x y a b Q ha hb hq
      exact lt false E x y a b ha hb hq
    · intro E x y a b Q ha hb hq
      rw [keyLt'_oneType]
      exact lt true E x y a b ha hb hq
end
end DL
set_option maxHeartbeats 4000000
/-! DLp: sorted, min, max, x.pop(i), enumerate as the layer says them. -/
namespace DL
open PySem PySem.Calls PyProof.Rows L2
/-! ### pairs of lists -/
theorem each_of {G : Gm} {F : Hp} : ∀ {vs : List V} {ds : List D}, RpL G F vs ds → PySem.W.EachIs (fun v d => Rp G F v d) vs ds
  | _, _, .nil => .nil
  | _, _, .cons h t => .cons h (each_of t)
theorem of_each {G : Gm} {F : Hp} : ∀ {vs : List V} {ds : List D}, PySem.W.EachIs (fun v d => Rp G F v d) vs ds → RpL G F vs ds
  | _, _, .nil => .nil
  | _, _, .cons h t => .cons h (of_each t)
theorem each_vals {P : V → D → Prop} : ∀ {vs : List V} {ds : List D} {us : List Value}, PySem.W.EachIs P vs ds → Vals vs us → PySem.W.EachIs (fun u d => ∃ v, RelV v u ∧ P v d) us ds
  | _, _, _, .nil, .nil => .nil
  | _, _, _, .cons h t, .cons r rs => .cons ⟨_, r, h⟩ (each_vals t rs)
theorem vals_each {P : V → D → Prop} : ∀ {us : List Value} {ds : List D}, PySem.W.EachIs (fun u d => ∃ v, RelV v u ∧ P v d) us ds → ∃ vs, Vals vs us ∧ PySem.W.EachIs P vs ds
  | _, _, .nil => ⟨[], .nil, .nil⟩
  | _, _, .cons ⟨v, r, h⟩ t => by
    obtain ⟨vs, a, b⟩ := vals_each t
    exact ⟨v :: vs, .cons r a, .cons h b⟩
theorem each_reads {h : Heap} : ∀ {us : List Value} {ds : List D} {as : List Addr}, ReadsAll h us ds as → PySem.W.EachIs (fun u d => ∃ bs, Reads h u d bs) us ds
  | _, _, _, .nil => .nil
  | _, _, _, .cons r t => .cons ⟨_, r⟩ (each_reads t)
section
variable {X : Cx} {G : Gm} {W : WX} {F H F1 H1 : Hp} {σ σ1 : L2.St} {r r1 : En} {a b : Expr} {pos : Pos} {f g : En → R D}
/-! ### sorted -/
def rSrt (K : PySem.W.Frag) : List V → Hp → VK → Prop := fun vs H Q => ∃ (a : Addr) (xs : List V) (ds : List D) (P : V → D → Prop), vs = [V.ref a] ∧ SqL K H a xs ∧ PySem.W.EachIs P xs ds ∧ DpAll K H xs ds ∧ okK ds = true ∧
  ∀ ys p, PySem.W.EachIs P ys (srtD ds) → H p = none → Q (.ref p) (upd H p (.lst ys))
theorem cr_srt (hu : X.A.units + 64 < cLine) : CallR X (.builtin "sorted") (rSrt X.K) := by
  intro pins s σ H vs us Q I rr h
  obtain ⟨a, xs, ds, P, rfl, hs, he, hd, ok, q⟩ := h
  obtain ⟨its, rv, hl, hz⟩ := I.list hs
  rw [Vals.ref1 rr]
  obtain ⟨as, rd⟩ := Dp.readsAll I ds xs its hd rv
  have eR := each_vals he rv
  have eD := each_reads rd
  have al : PySem.W.AllAlike ds := fun d hd d' hd' => (okK_kd ok hd hd').alike
  have dep : ∀ d ∈ ds, d.depth ≤ 1 := fun d hd => (okK_each ok hd).1
  have lenD : ds.length = its.length := eD.length.symm
  have big : ds.length ≤ sizeLine := by rw [lenD, ← rv.length]; exact hz
  have fin : ∀ out : List Value, out.length = ds.length → PySem.W.EachIs (fun u d => ∃ v, RelV v u ∧ P v d) out (ds.mergeSort (PySem.W.dataLe false fun d : D => d)) → EP X pins σ Q (.ref (s.heap.objs.size + 1)) { s with heap := sortedAll s.heap its out.toArray } := fun out ho eo => by
    rw [srtD_is ok] at eo
    obtain ⟨ys, rv2, e2⟩ := vals_each eo
    obtain ⟨ep, hh⟩ := PyProof.Rows.sortedAll_at s.heap its out.toArray
    have hlen : ys.length ≤ sizeLine := by rw [rv2.length, ho]; exact big
    exact ⟨.ref _, upd H (s.heap.objs.size + 1) (.lst ys), I.laid (t' := s.toks) (fun _ _ => PyProof.Rows.sortedAll_old) (Nat.le_succ _) ⟨hlen, out, ep, rv2, hh⟩, rfl, q ys _ e2 (I.hok.fresh (Nat.le_succ _))⟩
  by_cases hE : (∀ d ∈ ds, ∃ x r, d = PyData.tuple (x :: r)) ∨ ∀ d ∈ ds, d ≠ .none ∧ ∀ xs, d ≠ .tuple xs
  · have eR' : PySem.W.EachIs (fun u d => ∃ v, RelV v u ∧ P v d) its (ds.map fun d : D => d) := by simpa using eR
    exact PySem.W.sorted_data (enc := fun d : D => d) (bs := ds) hl.isList eR eD (by simpa using al) (by rw [List.map_id']; exact hE) big (fun d hd => by have := dep d hd; omega) fun out ho eo => fin out ho eo
  · have tup : ∀ d ∈ ds, ∃ xs, d = PyData.tuple xs := by
      rcases okK_is ok with z | z
      · exact absurd (.inr fun d hd => by obtain ⟨i, rfl⟩ := isI_is (z d hd); exact ⟨by simp, by simp⟩) hE
      · exact fun d hd => by obtain ⟨ns, rfl⟩ := isTI_is (z d hd); exact ⟨_, rfl⟩
    have emp : PyData.tuple [] ∈ ds := by
      refine Classical.byContradiction fun no => hE (.inl fun d hd => ?_)
      obtain ⟨xs, rfl⟩ := tup d hd
      cases xs with
      | nil => exact absurd hd no
      | cons x r => exact ⟨x, r, rfl⟩
    have er : PySem.W.EachIs (fun v d => ∃ as, Reads (PySem.W.sortingHeap (PySem.W.copyHeap s.heap its) (s.heap.objs.size + 1) its) v d as) its ds := eD.mono fun _ _ ⟨as, r⟩ => ⟨as, PyProof.Rows.Reads.keeps (fun _ _ => PySem.W.sorting_copy_old) r⟩
    have out := PySem.W.sortVals_data (R := fun u d => ∃ v, RelV v u ∧ P v d) (enc := fun d : D => d) false (bs := ds) eR er (by simpa using al)
    refine PySem.W.sorted_vals hl.isList (sorts_emp (s := { s with heap := PySem.W.sortingHeap (PySem.W.copyHeap s.heap its) (s.heap.objs.size + 1) its }) er al tup emp fun d hd => ?_) (by rw [← lenD]; exact big) (fin _ (by rw [PySem.W.sortVals_length false rfl, lenD]) (by simpa using out))
    have := dep d hd
    show X.A.units + 1 + 1 + d.depth < cLine
    omega
def nSrt : List D → Option (List D)
  | [.list ds] => if okK ds = true then some (srtD ds) else none
  | _ => none
theorem cn_srt : CallN G (rSrt G.K) nSrt := fun x ds F H v Q h hs q k => by
  unfold nSrt at h
  split at h
  · split at h
    · rename_i es hok
      cases h
      obtain ⟨v, rfl, qa⟩ := one_of q
      obtain ⟨a, xs, rfl, h1, h2⟩ := rp_lst qa
      exact ⟨a, xs, es, fun v d => Rp G F v d, rfl, SqL.of (hs _ _ h1), each_of h2, RpLI.dp hs h2 (okK_lay fun d hd => (okK_each hok hd).2.1), hok, fun ys p e hp => k ys (of_each e) p hp⟩
    · cases h
  · cases h
/-! ### min, max -/
def bestD (up : Bool) (d : D) (ds : List D) : D := ds.foldl (fun a y => if (if up = true then ltD a y else ltD y a) = true then y else a) d
theorem best_mem (up : Bool) : ∀ (ds : List D) (d : D), bestD up d ds ∈ d :: ds
  | [], d => by simp [bestD]
  | y :: ys, d => by
    have e : bestD up d (y :: ys) = bestD up (if (if up = true then ltD d y else ltD y d) = true then y else d) ys := rfl
    have m := best_mem up ys (if (if up = true then ltD d y else ltD y d) = true then y else d)
    rw [e]
    rcases List.mem_cons.mp m with z | z
    · rw [z]
      by_cases hc : (if up = true then ltD d y else ltD y d) = true
      · rw [if_pos hc]; exact List.mem_cons_of_mem _ List.mem_cons_self
      · rw [if_neg hc]; exact List.mem_cons_self
    · exact List.mem_cons_of_mem _ (List.mem_cons_of_mem _ z)
theorem best_is (up : Bool) : ∀ (ds : List D) (d : D), okK (d :: ds) = true → (if up = true then PySem.W.maxD d ds else PySem.W.minD d ds) = bestD up d ds := by
  have key : ∀ (ds all : List D) (d : D), okK all = true → d ∈ all → (∀ y ∈ ds, y ∈ all) → (if up = true then PySem.W.maxD d ds else PySem.W.minD d ds) = bestD up d ds := by
    intro ds
    induction ds with
    | nil => intro all d _ _ _; unfold PySem.W.maxD PySem.W.minD bestD; split <;> rfl
    | cons y ys ih =>
      intro all d hk hd hy
      have e1 := (okK_kd hk hd (hy y (by simp))).lt
      have e2 := (okK_kd hk (hy y (by simp)) hd).lt
      unfold PySem.W.maxD PySem.W.minD bestD
      rw [List.foldl_cons, List.foldl_cons, List.foldl_cons, e1, e2]
      cases up with
      | true =>
        have := ih all (if ltD d y = true then y else d) hk (by split; exact hy y (by simp); exact hd) fun z hz => hy z (by simp [hz])
        unfold PySem.W.maxD PySem.W.minD bestD at this
        simpa using this
      | false =>
        have := ih all (if ltD y d = true then y else d) hk (by split; exact hy y (by simp); exact hd) fun z hz => hy z (by simp [hz])
        unfold PySem.W.maxD PySem.W.minD bestD at this
        simpa using this
  exact fun ds d hk => key ds (d :: ds) d hk (by simp) fun y hy => by simp [hy]
def rBest (up : Bool) (K : PySem.W.Frag) : List V → Hp → VK → Prop := fun vs H Q => ∃ (a : Addr) (xs : List V) (d : D) (ds : List D) (P : V → D → Prop), vs = [V.ref a] ∧ (SqL K H a xs ∨ SqT K H a xs) ∧ PySem.W.EachIs P xs (d :: ds) ∧ DpAll K H xs (d :: ds) ∧ okK (d :: ds) = true ∧ ∀ y, P y (bestD up d ds) → Q y H
theorem each_pos {α β : Type} {R : α → β → Prop} : ∀ {as : List α} {bs : List β} {i : Nat} {u : α}, PySem.W.EachIs R as bs → as[i]? = some u → ∃ b, bs[i]? = some b ∧ R u b
  | _, _, 0, u, .cons h _, e => by simp at e; subst e; exact ⟨_, rfl, h⟩
  | _, _, i + 1, u, .cons _ t, e => by
    obtain ⟨b, e1, e2⟩ := each_pos (i := i) t (by simpa using e)
    exact ⟨b, by simpa using e1, e2⟩
theorem best_fin {pins : List (Addr × Obj)} {s : Shared} {Q : VK} {xs : List V} {d : D} {ds : List D} {P : V → D → Prop} {its : List Value} {up : Bool} (I : Inv X pins σ H s) (he : PySem.W.EachIs P xs (d :: ds)) (hd : DpAll X.K H xs (d :: ds)) (ok : okK (d :: ds) = true) (rv : Vals xs its) (q : ∀ y, P y (bestD up d ds) → Q y H) {m : D} (hm : m = bestD up d ds) {i : Nat} {v : Value} {h' : Heap} {tk : Nat} {bs : List Addr}
    (hv : its.toArray[i]? = some v) (r : Reads h' v m bs) (hk : ∀ b o, s.heap.get? b = some o → h'.get? b = some o) : EP X pins σ Q v { s with heap := h', toks := tk } := by
  have hv : its[i]? = some v := by simpa using hv
  obtain ⟨dd, e1, w, rw', pw⟩ := each_pos (each_vals he rv) hv
  obtain ⟨as, rd⟩ := Dp.readsAll I (d :: ds) xs its hd rv
  obtain ⟨d2, e2, as2, rd2⟩ := each_pos (each_reads rd) hv
  rw [e1] at e2
  cases e2
  have mem : dd ∈ d :: ds := List.mem_of_getElem? e1
  have same : m = dd := PySem.W.alike_unique _ _ _ _ _ ((okK_kd ok (by rw [hm]; exact best_mem up ds d) mem).alike) r (PyProof.Rows.Reads.keeps hk rd2)
  subst same
  rw [hm] at pw
  exact ⟨w, H, I.kept (t' := tk) hk, rw', q w pw⟩
theorem cr_best (up : Bool) (hc : X.calm = true) (hu : X.A.units + 64 < cLine) : CallR X (.builtin (if up = true then "max" else "min")) (rBest up X.K) := by
  intro pins s σ H vs us Q I rr h
  obtain ⟨a, xs, d, ds, P, rfl, hs, he, hd, ok, q⟩ := h
  rw [Vals.ref1 rr]
  have hh := I.ok.hd hc
  have ali : PySem.W.AlikeAll (d :: ds) := ⟨fun x hx y hy => (okK_kd ok hx hy).alike, fun x hx => (okK_each ok hx).2.2⟩
  have dep : PyData.depthAll (d :: ds) ≤ 1 := okK_depth fun x hx => (okK_each ok hx).1
  have room : X.A.units + 1 + PyData.depthAll (d :: ds) < cLine := by omega
  have e := best_is up ds d ok
  rcases hs with hs | hs
  · obtain ⟨its, rv, hl, _⟩ := I.list hs
    obtain ⟨as, rd⟩ := Dp.readsAll I (d :: ds) xs its hd rv
    cases up with
    | true => exact PySem.W.max_list_data hh hl.isList (by simpa using rd) ali room fun i v h' tk bs hv r hk => best_fin I he hd ok rv q e hv r hk
    | false => exact PySem.W.min_list_data hh hl.isList (by simpa using rd) ali room fun i v h' tk bs hv r hk => best_fin I he hd ok rv q e hv r hk
  · obtain ⟨its, rv, hl, _⟩ := I.tuple hs
    obtain ⟨as, rd⟩ := Dp.readsAll I (d :: ds) xs its hd rv
    cases up with
    | true => exact PySem.W.max_tuple_data hh hl (by simpa using rd) ali room fun i v h' tk bs hv r hk => best_fin I he hd ok rv q e hv r hk
    | false => exact PySem.W.min_tuple_data hh hl (by simpa using rd) ali room fun i v h' tk bs hv r hk => best_fin I he hd ok rv q e hv r hk
theorem cr_maxS (hc : X.calm = true) (hu : X.A.units + 64 < cLine) : CallR X (.builtin "max") (rBest true X.K) := cr_best true hc hu
theorem cr_minS (hc : X.calm = true) (hu : X.A.units + 64 < cLine) : CallR X (.builtin "min") (rBest false X.K) := cr_best false hc hu
def cBest (up : Bool) : List D → Option D
  | [.list (d :: ds)] => if okK (d :: ds) = true then some (bestD up d ds) else none
  | [.tuple (d :: ds)] => if okK (d :: ds) = true then some (bestD up d ds) else none
  | _ => none
theorem cd_best {up : Bool} : CallD G (rBest up G.K) (cBest up) := fun x d F H v Q h hs q k => by
  unfold cBest at h
  split at h
  · split at h
    · rename_i d ds hok
      cases h
      obtain ⟨v, rfl, qa⟩ := one_of q
      obtain ⟨a, xs, rfl, h1, h2⟩ := rp_lst qa
      exact ⟨a, xs, d, ds, fun v d => Rp G F v d, rfl, .inl (SqL.of (hs _ _ h1)), each_of h2, RpLI.dp hs h2 (okK_lay fun d hd => (okK_each hok hd).2.1), hok, fun y p => k _ _ _ (Ext.refl _ _) p⟩
    · cases h
  · split at h
    · rename_i d ds hok
      cases h
      obtain ⟨v, rfl, qa⟩ := one_of q
      obtain ⟨a, xs, rfl, h1, h2⟩ := rp_tup qa
      exact ⟨a, xs, d, ds, fun v d => Rp G F v d, rfl, .inr (hs.t h1), each_of h2, RpLI.dp hs h2 (okK_lay fun d hd => (okK_each hok hd).2.1), hok, fun y p => k _ _ _ (Ext.refl _ _) p⟩
    · cases h
  · cases h
end
end DL
set_option maxHeartbeats 4000000
/-! DLq: x.pop(i), enumerate of lists and tuples, repr(a) != repr(b). -/
namespace DL
open PySem PySem.Calls PyProof.Rows L2
section
variable {X : Cx} {G : Gm} {W : WX} {F H F1 H1 : Hp} {σ σ1 : L2.St} {r r1 : En} {a b : Expr} {pos : Pos} {f g : En → R D}
/-! ### enumerate -/
theorem yl_enumT {K : PySem.W.Frag} {xs : List V} {ds : List D} {p : Addr} (hK : K = G.K) (h : SqT G.K F p xs) (q : RpL G F xs ds) : Yl G (IteT K p) F (enumD 0 ds) := by
  subst hK
  refine ⟨fun i F' H' s1 s2 hi => ?_, fun i F' H' s1 s2 hi => ⟨xs, s2.t (s1.t h), by rw [enumD_len] at hi; rw [q.len]; omega⟩⟩
  rw [enumD_len] at hi
  obtain ⟨v, hv, qv⟩ := q.get (List.getElem?_eq_getElem hi)
  have hs := s2.t (s1.t h)
  refine ⟨⟨xs, v, hs, hv⟩, fun x H2 ⟨T, y, e, hT, e2, k⟩ => ?_⟩
  subst e e2
  have z := k xs hs
  rw [hv] at z
  cases z
  obtain ⟨c1, c2⟩ := pair_new (v := .int (i : Nat)) (d := .int (i : Nat)) s2 hT (.int _) (qv.mono s1)
  refine ⟨_, _, ?_, c1, c2⟩
  have := enumD_get ds 0 i ds[i] (List.getElem?_eq_getElem hi)
  rwa [Nat.zero_add] at this
def tEnumA (K : PySem.W.Frag) (ta : TA) : TI := fun σ H R => ta σ H fun vs H1 => ∃ a xs, vs = [.ref a] ∧ ((SqL K H1 a xs ∧ R (Ite K a) H1) ∨ (SqT K H1 a xs ∧ R (IteT K a) H1))
theorem pi_enumB {e : Expr} {ta : TA} {p tpos : Pos} {elts : List Expr} {kk : Nat} (hg : Gl X "enumerate") (hm : X.mg "enumerate" = none) (ha : PA X [e] ta) (hs : starEach [e] X.env = [(false, eval e X.env)] := by rfl) :
    PI X (.Tuple elts kk tpos) (.Call (.Name "enumerate" p) [e] [] pos) (tEnumA X.K ta) := by
  refine ⟨fun pins s σ H R I h => Call_ (ld_blt I hg hm boot_enumerate (PyProof.Rows.callWith_type1 (thn (ha.run pos pins s σ H _ I h) fun us s1 ⟨vs, H1, I1, rr, a, xs, ex, qq⟩ => ?_) hs rfl))⟩
  subst ex
  cases rr with
  | cons r0 r2 =>
    cases r2
    cases r0
    have fresh : ∀ c ∈ [s1.heap.objs.size + 1, s1.heap.objs.size], FpOk X pins H1 c := fun c hc => by
      have hle : s1.heap.objs.size ≤ c := by
        rcases two_cases hc with z | z
        · rw [z]; exact Nat.le_succ _
        · rw [z]; exact Nat.le_refl _
      exact I1.fpOk hle (I1.hok.fresh hle)
    rcases qq with ⟨hq, q⟩ | ⟨hq, q⟩
    · obtain ⟨its, rv, pl, _⟩ := I1.list hq
      exact call_enumerate_list pl.isList fun h' he hit hsz hk => wpAny_pyIter_enum he ⟨s1.heap.objs.size + 1, [s1.heap.objs.size + 1, s1.heap.objs.size], _, _, H1, rfl, I1.kept (t' := s1.toks) hk, turn_enum a (s1.heap.objs.size + 1) s1.heap.objs.size, ⟨⟨.none, he⟩, hit, Nat.succ_ne_self _⟩, fresh, q⟩
    · obtain ⟨its, rv, pl, _⟩ := I1.tuple hq
      have al : a < s1.heap.objs.size := by obtain ⟨o, ho, _⟩ := id pl; exact Heap.lt_size ho
      exact enum_callT pl fun h' he hit hk => wpAny_pyIter_enum he ⟨s1.heap.objs.size + 1, [s1.heap.objs.size + 1, s1.heap.objs.size], _, _, H1, rfl, I1.kept (t' := s1.toks) hk, turn_enumT a (s1.heap.objs.size + 1) s1.heap.objs.size, ⟨⟨.none, he⟩, hit, Nat.succ_ne_self _, Nat.ne_of_gt (Nat.lt_succ_of_lt al), Nat.ne_of_lt al⟩, fresh, q⟩
def iEnA (f : En → R D) : En → R (List D) := fun r => (f r).bind fun x r1 => match x with
  | .list ds => .ok (enumD 0 ds) r1
  | .tuple ds => .ok (enumD 0 ds) r1
  | _ => .st
theorem di_enumA {p tpos : Pos} {elts : List Expr} {kk : Nat} (hK : X.K = G.K) (hm : X.mg "enumerate" = none) (ha : PE X a (TEo G W f)) (hg : Gl X "enumerate" := by rfl) (hs : starEach [a] X.env = [(false, eval a X.env)] := by rfl) : PI X (.Tuple elts kk tpos) (.Call (.Name "enumerate" p) [a] [] pos) (TIo G W (iEnA f)) :=
  pi_of (pi_enumB hg hm (pa_cons ha pa_nil hs) hs) fun σ H Q ⟨F, r, e, p⟩ => by
    have p : TIp G W (iEnA f r) F H σ r Q := p
    refine ⟨F, r, e, (TIp.bind (rel := rV G) p).mono fun v H1 ⟨x, F1, r1, _, e1, q1, p1⟩ => ?_⟩
    cases q1 with
    | @lst b xs ds h1 h2 => exact ⟨b, xs, rfl, .inl ⟨by rw [hK]; exact SqL.of (e1.sub _ _ h1), TIp.here p1 e1 (yl_enum hK (SqL.of h1) h2)⟩⟩
    | @tup b xs ds h1 h2 => exact ⟨b, xs, rfl, .inr ⟨by rw [hK]; exact e1.sub.t h1, TIp.here p1 e1 (yl_enumT hK h1 h2)⟩⟩
    | _ => exact p1.elim
/-! ### x.pop(e) -/
theorem RpLI.erase {K : PySem.W.Frag} {fns : Nat → Option Addr} {F : Hp} : ∀ {vs : List V} {ds : List D} (i : Nat), RpLI K fns F vs ds → RpLI K fns F (vs.eraseIdx i) (ds.eraseIdx i)
  | _, _, _, .nil => .nil
  | _, _, 0, .cons _ t => t
  | _, _, i + 1, .cons q t => .cons q (RpLI.erase i t)
def ePop (i : Nat) (g : En → R D) : En → R D := fun r => if Sl.isM r[i]? = true then (g r).bind fun y r1 => match r1[i]? with
  | some s => match s.mut with
    | some ds => match y with
      | .int k => if (decide (-1000000 ≤ k) && decide (k ≤ 1000000)) = true then match ixN ds.length k with
        | some j => match ds[j]? with
          | some d => .ok d (r1.set i (s.put (ds.eraseIdx j)))
          | none => .st
        | none => .st
        else .st
      | _ => .st
    | none => .st
  | none => .st
  else .st
theorem de_popAt {i : Nat} {x : Str} {p apos cpos : Pos} (hK : X.K = G.K) (ha : PE X a (TEo G W f)) (hN : X.N[i]? = some x := by rfl) (hv : Vis X.env.scope x := by first | exact Or.inl rfl | exact Or.inr (Or.inl rfl) | exact Or.inr (Or.inr rfl))
    (hbase : attributeBase (.Name x p) "pop" X.env (eval (.Name x p) X.env) = eval (.Name x p) X.env := by rfl)
    (hfew : ((backTo cpos (starEach [a] X.env)).all (fun x => !x.1) && (backToKw cpos (keywordEach [] X.env)).all (fun x => x.1.isSome)
      && decide ([a].length + ([] : List Keyword).length + (if ([] : List Keyword).isEmpty then 0 else 1) < 30)) = true := by rfl)
    (hline : (apos.endLine == cpos.line) = true := by rfl) (hs : starEach [a] X.env = (false, eval a X.env) :: starEach [] X.env := by rfl) (hplain : (backTo cpos (starEach [] X.env)).any (·.1) = false := by rfl)
    (hd : (x == ("__debug__" : Str)) = false := by decide) (hcd : (x == ("__classdict__" : Str)) = false := by decide) : PE X (.Call (.Attribute (.Name x p) "pop" apos) [a] [] cpos) (TEo G W (ePop i f)) :=
  pe_of (pe_bm PySem.F.plainAttrs_list PySem.F.slot_list_pop PySem.F.type_list_pop mt_popAt (pe_var hN hv hd hcd) (pa_cons ha pa_nil hs) hbase hfew hline hs hplain) fun σ H Q ⟨F, r, e, q⟩ => by
    unfold ePop at q
    by_cases hh : Sl.isM r[i]? = true
    case neg => rw [if_neg hh] at q; exact q.elim
    rw [if_pos hh] at q
    obtain ⟨pa, vs0, hv, hp0⟩ := e.isM hh
    refine ⟨_, hv, .inl ⟨rfl, _, SqL.of hp0⟩, F, r, e, (Pt.bind (rel1 := rV G) q).mono fun w H1 ⟨y, F1, r1, _, e1, q1, p1⟩ => ?_⟩
    cases hs : r1[i]? with
    | none => rw [hs] at p1; exact p1.elim
    | some s =>
      rw [hs] at p1
      cases hds : s.mut with
      | none => simp only [hds] at p1; exact p1.elim
      | some ds =>
        simp only [hds] at p1
        cases q1 with
        | int k =>
          simp only at p1
          split at p1
          · rename_i hz
            rw [Bool.and_eq_true, decide_eq_true_eq, decide_eq_true_eq] at hz
            cases hj : ixN ds.length k with
            | none => simp only [hj] at p1; exact p1.elim
            | some j =>
              simp only [hj] at p1
              cases hdj : ds[j]? with
              | none => simp only [hdj] at p1; exact p1.elim
              | some d =>
                simp only [hdj] at p1
                obtain ⟨pb, vs, ev, h1, h2, h3, _⟩ := (e1.slot i s _ hs hv).mut hds
                cases ev
                obtain ⟨gg, e2⟩ := e1.write hs hds hv (RpLI.erase j h3)
                obtain ⟨z, hz2, qz⟩ := h3.get hdj
                exact ⟨pa, vs, k, j, z, rfl, rfl, h2, by omega, by omega, (ixN_seq (by rw [h3.len]; exact hj)).1, hz2, p1 _ _ _ gg e2 qz⟩
          · exact p1.elim
        | _ => exact p1.elim
/-! ### repr(a) != repr(b), the same data -/
set_option exponentiation.threshold 3000
mutual
def repF : Nat → D → Bool
  | _, .none => true
  | _, .bool _ => true
  | _, .int i => decide (i.natAbs < 2 ^ 900)
  | n + 1, .list xs => repFs n xs
  | n + 1, .tuple xs => repFs n xs
  | _, _ => false
def repFs : Nat → List D → Bool
  | _, [] => true
  | n, x :: xs => repF n x && repFs n xs
end
mutual
def samF : D → D → Bool
  | .none, .none => true
  | .bool a, .bool b => a == b
  | .int a, .int b => decide (a = b)
  | .list xs, .list ys => samFs xs ys
  | .tuple xs, .tuple ys => samFs xs ys
  | _, _ => false
def samFs : List D → List D → Bool
  | [], [] => true
  | x :: xs, y :: ys => samF x y && samFs xs ys
  | _, _ => false
end
mutual
theorem samF_eq : ∀ x y : D, samF x y = true → x = y
  | .none, y, h => by cases y <;> first | rfl | simp [samF] at h
  | .bool a, y, h => by cases y <;> first | (simp [samF] at h; rw [h]) | simp [samF] at h
  | .int a, y, h => by cases y <;> first | (simp [samF] at h; rw [h]) | simp [samF] at h
  | .str a, y, h => by cases y <;> simp [samF] at h
  | .dict a, y, h => by cases y <;> simp [samF] at h
  | .list xs, y, h => by
    cases y with
    | list ys => rw [samFs_eq xs ys (by simpa [samF] using h)]
    | _ => simp [samF] at h
  | .tuple xs, y, h => by
    cases y with
    | tuple ys => rw [samFs_eq xs ys (by simpa [samF] using h)]
    | _ => simp [samF] at h
theorem samFs_eq : ∀ xs ys : List D, samFs xs ys = true → xs = ys
  | [], [], _ => rfl
  | [], _ :: _, h => by simp [samFs] at h
  | _ :: _, [], h => by simp [samFs] at h
  | x :: xs, y :: ys, h => by
    simp only [samFs, Bool.and_eq_true] at h
    rw [samF_eq x y h.1, samFs_eq xs ys h.2]
end
structure RepI (n : Nat) (d : D) : Prop where
  lay : d.canLay0 = true
  dep : d.depth ≤ n
  sht : d.leavesShort 901 = true
  nod : d.hasDict = false
  sho : d.showable = true
theorem int_short {i : Int} (h : i.natAbs < 2 ^ 900) : i.natAbs.log2 < 900 := by
  by_cases h0 : i.natAbs = 0
  · rw [h0]; decide
  · exact (Nat.log2_lt h0).mpr h
mutual
theorem repF_is : ∀ (n : Nat) (d : D), repF n d = true → RepI n d
  | n, .none, _ => ⟨by simp [PyData.canLay0], by simp [PyData.depth], by simp [PyData.leavesShort], by simp [PyData.hasDict], by simp [PyData.showable]⟩
  | n, .bool b, _ => ⟨by simp [PyData.canLay0], by simp [PyData.depth], by simp [PyData.leavesShort], by simp [PyData.hasDict], by simp [PyData.showable]⟩
  | n, .int i, h => by
    have h : i.natAbs < 2 ^ 900 := by cases n <;> simpa [repF] using h
    have l := int_short h
    refine ⟨by simp [PyData.canLay0], by simp [PyData.depth], ?_, by simp [PyData.hasDict], ?_⟩
    · have t := int_text_length_le (by decide) l
      have e : (Str.ofString (toString i)).length = (toString i).length := PySem.ofString_length _
      simp only [PyData.leavesShort, PyData.shown]
      exact decide_eq_true (by rw [e]; omega)
    · simp only [PyData.showable, decide_eq_true_eq]; omega
  | n, .str _, h => by cases n <;> simp [repF] at h
  | n, .dict _, h => by cases n <;> simp [repF] at h
  | 0, .list _, h => by simp [repF] at h
  | 0, .tuple _, h => by simp [repF] at h
  | n + 1, .list xs, h => by
    obtain ⟨a, b, c, d, e⟩ := repFs_is n xs (by simpa [repF] using h)
    exact ⟨by simpa [PyData.canLay0] using a, by simpa [PyData.depth] using b, by simpa [PyData.leavesShort] using c, by simpa [PyData.hasDict] using d, by simpa [PyData.showable] using e⟩
  | n + 1, .tuple xs, h => by
    obtain ⟨a, b, c, d, e⟩ := repFs_is n xs (by simpa [repF] using h)
    exact ⟨by simpa [PyData.canLay0] using a, by simpa [PyData.depth] using b, by simpa [PyData.leavesShort] using c, by simpa [PyData.hasDict] using d, by simpa [PyData.showable] using e⟩
theorem repFs_is : ∀ (n : Nat) (ds : List D), repFs n ds = true → PyData.canLayAll0 ds = true ∧ PyData.depthAll ds ≤ n ∧ PyData.leavesShortAll 901 ds = true ∧ PyData.hasDictAll ds = false ∧ PyData.showableAll ds = true
  | n, [], _ => ⟨by simp [PyData.canLayAll0], by simp [PyData.depthAll], by simp [PyData.leavesShortAll], by simp [PyData.hasDictAll], by simp [PyData.showableAll]⟩
  | n, x :: xs, h => by
    simp only [repFs, Bool.and_eq_true] at h
    obtain ⟨a, b, c, d, e⟩ := repF_is n x h.1
    obtain ⟨a2, b2, c2, d2, e2⟩ := repFs_is n xs h.2
    refine ⟨by simp [PyData.canLayAll0, a, a2], ?_, by simp [PyData.leavesShortAll, c, c2], by simp [PyData.hasDictAll, d, d2], by simp [PyData.showableAll, e, e2]⟩
    simp only [PyData.depthAll]; omega
end
def repOk (d : D) : Bool := repF 9 d && decide (d.bulk ≤ 4000)
theorem repOk_len {d : D} (h : repOk d = true) : RepI 9 d ∧ d.shown.length ≤ sizeLine := by
  unfold repOk at h
  rw [Bool.and_eq_true, decide_eq_true_eq] at h
  have q := repF_is 9 d h.1
  have l := PyData.shown_le_bulk 901 (by decide) d q.sht
  exact ⟨q, Nat.le_trans (show d.shown.length ≤ 4000000 by omega) (by decide)⟩
def rRepD (K : PySem.W.Frag) : List V → Hp → VK → Prop := fun vs H Q => ∃ v d, vs = [v] ∧ Dp K H v d ∧ repOk d = true ∧ Q (.str d.shown) H
theorem call_repD (hg : X.A.guards = some []) (hu : X.A.units + 64 < cLine) : CallR X (.builtin "repr") (rRepD X.K) := by
  intro pins s σ H xs us Q I rr h
  obtain ⟨v, d, rfl, hd, ok, q⟩ := h
  obtain ⟨u, rfl, ru⟩ := vals1 rr
  obtain ⟨as, rd⟩ := Dp.reads I d v u hd ru
  obtain ⟨⟨q1, q2, q3, q4, q5⟩, q6⟩ := repOk_len ok
  have fin : ∀ h' t tk, (∀ b o, s.heap.get? b = some o → h'.get? b = some o) → EP X pins σ Q (.str d.shown t) { s with heap := h', toks := tk } := fun h' t tk hk => ⟨.str _, H, I.kept (t' := tk) hk, ⟨_, rfl⟩, q⟩
  have box : ∀ a, u = .ref a → wpAny (model X.prog X.w) X.A (call (.builtin "repr") [u]) (EP X pins σ Q) X.xe s := fun a e => by
    subst e
    exact repr_of_reads' rd q5 (fun z => by rw [q4] at z; cases z) hg (by omega) (fun _ _ e => e) (fun h' t tk hk => fin h' t tk hk) q6
  cases rd with
  | none => exact PySem.P.repr_of_none (fin s.heap _ _ fun _ _ e => e)
  | bool b => exact PySem.P.repr_of_bool (fin s.heap _ _ fun _ _ e => e)
  | int n t => exact PySem.P.repr_of_int (by simpa [PyData.showable] using q5) (fin s.heap _ _ fun _ _ e => e)
  | str x t => exact absurd ok (by simp [repOk, repF])
  | _ => exact box _ rfl
def eRep2 (bb : Bool) (f g : En → R D) : En → R D := fun r => (f r).bind fun x r1 => if repOk x = true then (g r1).bind fun y r2 => if samF x y = true then .ok (.bool bb) r2 else .st else .st
theorem Pt.one {x : R D} {Q : List V → Hp → Prop} (h : Pt G W (rV G) x F H σ r fun v H1 => Q [v] H1) : Pt G W (rL G) (x.bind fun d r1 => .ok [d] r1) F H σ r Q := by
  cases x with
  | ok d r' =>
    intro F' H' b g e q
    cases q with
    | cons q1 q2 => cases q2; exact h F' H' _ g e q1
  | ex c d r' => exact h
  | st => exact h
theorem pe_rep {p : Pos} (hg : X.A.guards = some []) (hu : X.A.units + 64 < cLine) (hm : X.mg "repr" = none) (ha : PE X a (TEo G W f)) (gl : Gl X "repr" := by rfl) (he : starEach [a] X.env = (false, eval a X.env) :: starEach [] X.env := by rfl) (hpl : (backTo pos (starEach [] X.env)).any (·.1) = false := by rfl) :
    PE X (.Call (.Name "repr" p) [a] [] pos) (tCB (rRepD X.K) (TAo G W (aCons f aNil))) := pe_callB (call_repD hg hu) gl hm PyProof.Rows.boot_repr (da_cons ha da_nil he) (by decide) (by decide) he hpl
theorem rep_two {bb : Bool} (hK : X.K = G.K) {rr : R2} (hr : ∀ (z : Str) (H : Hp) (Q : VK), Q (.bl bb) H → rr (.str z) (.str z) H Q) (σ : L2.St) (H : Hp) (Q : VK) : TEo G W (eRep2 bb f g) σ H Q → tOp rr (tCB (rRepD X.K) (TAo G W (aCons f aNil))) (tCB (rRepD X.K) (TAo G W (aCons g aNil))) σ H Q := fun ⟨F, r0, e, p⟩ =>
  ⟨F, r0, e, Pt.one (Pt.mono (Pt.bind (rel1 := rV G) p) fun v H1 ⟨x, F1, r1, _, e1, q1, p1⟩ => by
    by_cases ok : repOk x = true
    case neg => rw [if_neg ok] at p1; exact p1.elim
    rw [if_pos ok] at p1
    refine ⟨v, x, rfl, by rw [hK]; exact q1.dp e1.sub (repOk_len ok).1.lay, ok, F1, r1, e1, Pt.one (Pt.mono (Pt.bind (rel1 := rV G) p1) fun w H2 ⟨y, F2, r2, _, e2, q2, p2⟩ => ?_)⟩
    by_cases sm : samF x y = true
    case neg => rw [if_neg sm] at p2; exact p2.elim
    rw [if_pos sm] at p2
    have exy := samF_eq x y sm
    subst exy
    exact ⟨w, x, rfl, by rw [hK]; exact q2.dp e2.sub (repOk_len ok).1.lay, ok, hr _ _ _ (Pt.here p2 e2 (Ext.refl _ _) (.bl _))⟩)⟩
theorem rep_ne (z : Str) (H : Hp) (Q : VK) (h : Q (.bl false) H) : rNe (.str z) (.str z) H Q := ⟨rfl, by simpa using h⟩
theorem rep_eq (z : Str) (H : Hp) (Q : VK) (h : Q (.bl true) H) : rEq (.str z) (.str z) H Q := ⟨rfl, by simpa using h⟩
section
variable {p q p2 q2 : Pos}
theorem de_repNe (hK : X.K = G.K) (hg : X.A.guards = some []) (hu : X.A.units + 64 < cLine) (hm : X.mg "repr" = none) (ha : PE X a (TEo G W f)) (hb : PE X b (TEo G W g)) (gl : Gl X "repr" := by rfl) (he : starEach [a] X.env = (false, eval a X.env) :: starEach [] X.env := by rfl) (he2 : starEach [b] X.env = (false, eval b X.env) :: starEach [] X.env := by rfl) (hpl : (backTo q (starEach [] X.env)).any (·.1) = false := by rfl) (hpl2 : (backTo q2 (starEach [] X.env)).any (·.1) = false := by rfl) (hmk : behindInMarks .NotEq (.Call (.Name "repr" p2) [b] [] q2) = false := by rfl) :
    PE X (.Compare (.Call (.Name "repr" p) [a] [] q) [.NotEq] [.Call (.Name "repr" p2) [b] [] q2] pos) (TEo G W (eRep2 false f g)) :=
  pe_of (pe_cmpR op_ne (pe_rep hg hu hm ha gl he hpl) (pe_rep hg hu hm hb gl he2 hpl2) hmk) (rep_two hK rep_ne)
theorem de_repEq (hK : X.K = G.K) (hg : X.A.guards = some []) (hu : X.A.units + 64 < cLine) (hm : X.mg "repr" = none) (ha : PE X a (TEo G W f)) (hb : PE X b (TEo G W g)) (gl : Gl X "repr" := by rfl) (he : starEach [a] X.env = (false, eval a X.env) :: starEach [] X.env := by rfl) (he2 : starEach [b] X.env = (false, eval b X.env) :: starEach [] X.env := by rfl) (hpl : (backTo q (starEach [] X.env)).any (·.1) = false := by rfl) (hpl2 : (backTo q2 (starEach [] X.env)).any (·.1) = false := by rfl) (hmk : behindInMarks .Eq (.Call (.Name "repr" p2) [b] [] q2) = false := by rfl) :
    PE X (.Compare (.Call (.Name "repr" p) [a] [] q) [.Eq] [.Call (.Name "repr" p2) [b] [] q2] pos) (TEo G W (eRep2 true f g)) :=
  pe_of (pe_cmpR op_eq (pe_rep hg hu hm ha gl he hpl) (pe_rep hg hu hm hb gl he2 hpl2) hmk) (rep_two hK rep_eq)
theorem dt_repNe (hK : X.K = G.K) (hg : X.A.guards = some []) (hu : X.A.units + 64 < cLine) (hm : X.mg "repr" = none) (ha : PE X a (TEo G W f)) (hb : PE X b (TEo G W g)) (gl : Gl X "repr" := by rfl) (he : starEach [a] X.env = (false, eval a X.env) :: starEach [] X.env := by rfl) (he2 : starEach [b] X.env = (false, eval b X.env) :: starEach [] X.env := by rfl) (hpl : (backTo q (starEach [] X.env)).any (·.1) = false := by rfl) (hpl2 : (backTo q2 (starEach [] X.env)).any (·.1) = false := by rfl) (hmk : behindInMarks .NotEq (.Call (.Name "repr" p2) [b] [] q2) = false := by rfl) :
    PT X (.Compare (.Call (.Name "repr" p) [a] [] q) [.NotEq] [.Call (.Name "repr" p2) [b] [] q2] pos) (TTo G W (tB1 (eRep2 false f g))) :=
  pt_of (pt_cmpR op_ne (pe_rep hg hu hm ha gl he hpl) (pe_rep hg hu hm hb gl he2 hpl2) hmk) fun σ H Q z => rep_two hK rep_ne σ H _ (tB_of σ H Q z)
theorem dt_repEq (hK : X.K = G.K) (hg : X.A.guards = some []) (hu : X.A.units + 64 < cLine) (hm : X.mg "repr" = none) (ha : PE X a (TEo G W f)) (hb : PE X b (TEo G W g)) (gl : Gl X "repr" := by rfl) (he : starEach [a] X.env = (false, eval a X.env) :: starEach [] X.env := by rfl) (he2 : starEach [b] X.env = (false, eval b X.env) :: starEach [] X.env := by rfl) (hpl : (backTo q (starEach [] X.env)).any (·.1) = false := by rfl) (hpl2 : (backTo q2 (starEach [] X.env)).any (·.1) = false := by rfl) (hmk : behindInMarks .Eq (.Call (.Name "repr" p2) [b] [] q2) = false := by rfl) :
    PT X (.Compare (.Call (.Name "repr" p) [a] [] q) [.Eq] [.Call (.Name "repr" p2) [b] [] q2] pos) (TTo G W (tB1 (eRep2 true f g))) :=
  pt_of (pt_cmpR op_eq (pe_rep hg hu hm ha gl he hpl) (pe_rep hg hu hm hb gl he2 hpl2) hmk) fun σ H Q z => rep_two hK rep_eq σ H _ (tB_of σ H Q z)
end
end
/-! ### a, b = a tuple, a list -/
def gTA (n : Nat) (u : List D → En → Option En) : D → En → Option En := fun d r => match d with
  | .tuple ds => if ds.length = n then u ds r else none
  | .list ds => if ds.length = n then u ds r else none
  | _ => none
theorem pg_two {X : Cx} {es : List Expr} {k : Nat} {pos : Pos} {t : TGs} {n : Nat} (hc : X.calm = true) (h : PGs X es t) (hn : (assignEach es X.env).length = n) (hst : (assignEach es X.env).findIdx? (·.1) = none) : PG X (.Tuple es k pos) fun v σ H Q => gTup X.K n t v σ H Q ∨ gUnl X.K n t v σ H Q :=
  ⟨fun pins s σ H v u Q I r hw => hw.elim (fun z => (pg_tup hc h hn hst).run pins s σ H v u Q I r z) fun z => (pg_unl hc h hn hst).run pins s σ H v u Q I r z⟩
theorem dg_tupA {X : Cx} {G : Gm} {es : List Expr} {k : Nat} {pos : Pos} {n : Nat} {ix : List Nat} {u : List D → En → Option En} (hK : X.K = G.K) (hc : X.calm = true) (h : PGs X es (TGso G ix u)) (hn : (assignEach es X.env).length = n := by rfl) (hst : (assignEach es X.env).findIdx? (·.1) = none := by rfl) : PG X (.Tuple es k pos) (TGo G ix (gTA n u)) :=
  pg_of (pg_two hc h hn hst) fun v σ H Q ⟨F, r, d, e, q, r', hh, kk⟩ => by
    cases q with
    | @tup a xs ds hs hv =>
      have hh : (if ds.length = n then u ds r else none) = some r' := hh
      by_cases hl : ds.length = n
      · rw [if_pos hl] at hh
        exact .inl ⟨a, xs, rfl, by rw [hK]; exact e.sub.t hs, by rw [hv.len]; exact hl, F, r, ds, e, hv, r', hh, kk⟩
      · rw [if_neg hl] at hh; cases hh
    | @lst a xs ds hs hv =>
      have hh : (if ds.length = n then u ds r else none) = some r' := hh
      by_cases hl : ds.length = n
      · rw [if_pos hl] at hh
        exact .inr ⟨a, xs, rfl, by rw [hK]; exact SqL.of (e.sub _ _ hs), by rw [hv.len]; exact hl, F, r, ds, e, hv, r', hh, kk⟩
      · rw [if_neg hl] at hh; cases hh
    | _ => cases hh
end DL
set_option maxHeartbeats 4000000
/-! DLt: t[::-1], t * k of tuples. -/
namespace DL
open PySem PySem.Calls PyProof.Rows L2
section
variable {P : Program} {w : World} {A : Around} {E : Value → Shared → Prop} {s : Shared}
theorem adjR (n : Nat) : Builtin.Slice.sliceAdjust none none (-1) (n : Int) = ((n : Int) - 1, -1) := by
  unfold Builtin.Slice.sliceAdjust
  simp
theorem plcR (n : Nat) : Builtin.Slice.slicePlaces ((n : Int) - 1) (-1) (-1) = n := by
  unfold Builtin.Slice.slicePlaces
  have h1 : ¬ ((-1 : Int) > 0) := by decide
  simp only [h1, if_false]
  by_cases h : (n : Int) - 1 > -1
  · rw [if_pos h, show (- -1 : Int) = 1 by decide, Int.ediv_one]; omega
  · rw [if_neg h]; omega
theorem appR {sl : Addr} {vs : Value} {n : Nat} {Q : Int × Int × Nat → Shared → Prop} (hs : s.heap.IsSliceOf sl .none .none vs) (ps : IsPart vs (some (-1))) (h : Q ((n : Int) - 1, -1, n) s) : wpAny (model P w) A (Builtin.Slice.sliceApplied (.ref sl) (pure (n : Int))) Q E s := by
  obtain ⟨os, hos, hcs, hds⟩ := id hs
  unfold Builtin.Slice.sliceApplied Builtin.Slice.sliceFields
  refine wpAny_bind (wpAny_bind (wpAny_field hos hds (x := .none) rfl (wpAny_bind (wpAny_field hos hds (x := .none) rfl (wpAny_bind (wpAny_field hos hds (x := vs) rfl (wpAny_pure ?_)))))))
  refine wpAny_bind (HT.slicePart_ ps ?_)
  show wpAny _ _ (if ((-1 : Int) == 0) = true then _ else _) _ _ s
  rw [if_neg (by decide)]
  refine wpAny_bind (HT.slicePart_ .none (wpAny_bind (HT.slicePart_ .none (wpAny_bind (wpAny_pure ?_)))))
  show wpAny _ _ (match Builtin.Slice.sliceAdjust none none (-1) (n : Int) with | (lo, hi) => pure (lo, (-1 : Int), Builtin.Slice.slicePlaces lo hi (-1))) _ _ s
  rw [adjR n]
  show wpAny _ _ (pure ((n : Int) - 1, (-1 : Int), Builtin.Slice.slicePlaces ((n : Int) - 1) (-1) (-1))) _ _ s
  rw [plcR n]
  exact wpAny_pure h
theorem pckR (xs : Array Value) : ((List.range xs.size).filterMap fun (k : Nat) => xs[(((xs.size : Nat) : Int) - 1 + (k : Int) * (-1)).toNat]?).toArray = xs.toList.reverse.toArray := by
  have e : (List.range xs.size).filterMap (fun (k : Nat) => xs[(((xs.size : Nat) : Int) - 1 + (k : Int) * (-1)).toNat]?) = ((List.range xs.size).map fun k => xs.size - 1 - k).filterMap (xs[·]?) := by
    rw [List.filterMap_map]
    exact congrArg (fun f => (List.range xs.size).filterMap f) (funext fun k => by
      show _ = xs[xs.size - 1 - k]?
      rw [show (((xs.size : Nat) : Int) - 1 + (k : Int) * (-1)).toNat = xs.size - 1 - k by omega])
  rw [e, PySem.W.krv_range, List.filterMap_reverse, PySem.W.krv_all]
theorem get_revT {t sl : Addr} {xs : Array Value} {vs : Value} {Q : Value → Shared → Prop} (ht : IsTup s.heap t xs) (hs : s.heap.IsSliceOf sl .none .none vs) (ps : IsPart vs (some (-1)))
    (h : Q (.ref s.heap.objs.size) { s with heap := s.heap.push { cls := .type "tuple", data := .seq xs.toList.reverse.toArray } }) (hsz : xs.size ≤ sizeLine) : wpAny (model P w) A (getItem (.ref t) (.ref sl)) Q E s := by
  have so : sizeOk (.seq xs.toList.reverse.toArray) := by
    show xs.toList.reverse.toArray.size ≤ sizeLine
    rw [List.size_toArray, List.length_reverse, Array.length_toList]; exact hsz
  obtain ⟨os, hos, hcs, hds⟩ := id hs
  have tS : s.TypeIs (.ref sl) "slice" := ⟨os, hos, hcs⟩
  unfold getItem
  try with_reducible refine wpAny_holding ?_
  first | refine wpAny_bind (wpAny_pure ?_) | skip
  refine wpAny_bind (wpAny_sequenceKey ht.typeIs (by decide) (wpAny_bind (wpAny_callSpecial?_slot (name := Str.ofString "__getitem__") ht.typeIs PyProof.Rows.slot_tuple_getitem (wpAny_call_entry PyProof.Rows.slot_tuple_getitem ht.typeIs entry_tuple_getitem ?_ (args_tuple_getitem _ _)))))
  show wpAny _ _ (Builtin.Tuple.tupleItemsOf (.ref t) >>= _) _ _ s
  refine wpAny_bind (tupleItemsOf_ ht (wpAny_bind (wpAny_typeOf tS ?_)))
  rw [if_pos (by decide)]
  refine wpAny_bind (appR (n := xs.size) hs ps ?_)
  show wpAny _ _ (if ((((xs.size : Nat) : Int) - 1) == 0 && (-1 : Int) == 1 && xs.size == xs.size) = true then _ else _) _ _ s
  rw [if_neg (by simp), pckR]
  first
    | exact wpAny_bind (m := Builtin.Tuple.tupleExact _) (wpAny_newObj_type (wpAny_pure ⟨_, rfl, wpAny_pure h⟩) so)
    | exact wpAny_bind (m := Builtin.Tuple.tupleExact _) (wpAny_newObj_type (wpAny_bind (wpAny_pure (wpAny_pure ⟨_, rfl, wpAny_pure h⟩))) so)
    | exact wpAny_bind (wpAny_bind (m := Builtin.Tuple.tupleExact _) (wpAny_newObj_type (wpAny_pure (wpAny_pure ⟨_, rfl, wpAny_pure h⟩)) so))
    | exact wpAny_bind (wpAny_bind (m := Builtin.Tuple.tupleExact _) (wpAny_newObj_type (wpAny_pure ⟨_, rfl, wpAny_pure h⟩) so))
/-! ### t * k, k at most 1 -/
theorem mul_one {l : Addr} {xs : Array Value} {n : Nat} {dd : Option Addr} {sl : Array (Option Value)} {k : Int} {u : Tok} (c0 : (decide (k < -(2 ^ 63)) || decide (k ≥ 2 ^ 63)) = false) (c1 : (xs.isEmpty || k == 1) = true) :
    Meets (Builtin.«tuple.__mul__» ⟨[.ref l, .int k u], []⟩) (fun _ R s => s.heap.get? l = some { cls := .type "tuple", dict := dd, data := .seq xs n, slots := sl } ∧ R (.ok (.ret (Value.ref l))) s) :=
  .of_wp fun prog w A R s h => by
    obtain ⟨hp, g, d, tk, os⟩ := s
    obtain ⟨hl, h⟩ := h
    have f1 := AutoSeq1.idx_int
    wp_walk using wpAny_loadPart' hl
    refine wpAny_ite_false (decide_eq_false (by rw [c0]; exact Bool.false_ne_true)) ?_
    wp_walk using wpAny_loadPart' hl
    exact ⟨_, rfl, h⟩
theorem mul_non {l : Addr} {xs : Array Value} {n : Nat} {dd : Option Addr} {sl : Array (Option Value)} {k : Int} {u : Tok} (c0 : (decide (k < -(2 ^ 63)) || decide (k ≥ 2 ^ 63)) = false) (c1 : (xs.isEmpty || k == 1) = false) (c2 : (decide (k ≤ 0) || xs.isEmpty) = true) :
    Meets (Builtin.«tuple.__mul__» ⟨[.ref l, .int k u], []⟩) (fun _ R s => s.heap.get? l = some { cls := .type "tuple", dict := dd, data := .seq xs n, slots := sl } ∧ R (.ok (.ret (Value.ref s.heap.objs.size))) { s with heap := s.heap.push { cls := Value.type "tuple", data := Data.seq #[] }, toks := s.toks }) :=
  .of_wp fun prog w A R s h => by
    obtain ⟨hp, g, d, tk, os⟩ := s
    obtain ⟨hl, h⟩ := h
    have f1 := AutoSeq1.idx_int
    wp_walk using wpAny_loadPart' hl
    refine wpAny_ite_false (decide_eq_false (by rw [c0]; exact Bool.false_ne_true)) ?_
    wp_walk using wpAny_loadPart' hl
    exact ⟨_, rfl, h⟩
end
section
variable {X : Cx} {G : Gm} {W : WX} {F H F1 H1 : Hp} {σ σ1 : L2.St} {r r1 : En} {a b : Expr} {pos : Pos} {f g : En → R D}
def rRepU (K : PySem.W.Frag) : R2 := fun x y H Q => ∃ l k xs, x = .ref l ∧ y = .int k ∧ SqT K H l xs ∧ -1000 ≤ k ∧ ((xs = [] ∨ k = 1) → k ≤ 1000 → Q (.ref l) H) ∧ (xs ≠ [] → k ≤ 0 → ∀ p, H p = none → Q (.ref p) (upd H p (.tup []))) ∧ (k ≤ 1 ∨ (xs = [] ∧ k ≤ 1000))
theorem op_repU : OpR X (binaryOp .Mult) (rRepU X.K) := by
  intro pins s σ H x y v u Q I rx ry h
  obtain ⟨l, k, xs, rfl, rfl, hT, h0, q1, q2, h1⟩ := h
  cases rx
  obtain ⟨t, rfl⟩ := ry
  obtain ⟨its, r, ⟨⟨cls, dd, data, sl⟩, ho, hc, n, hd⟩, hs⟩ := I.tuple hT
  simp only at hc hd
  subst hc hd
  have em : its.toArray.isEmpty = true ↔ xs = [] := by
    cases r <;> simp
  have c0 : (decide (k < -(2 ^ 63)) || decide (k ≥ 2 ^ 63)) = false := by
    rw [decide_eq_false (by omega), decide_eq_false (by omega)] <;> rfl
  have run : ∀ R : Value → Shared → Prop, wpAny (model X.prog X.w) X.A (call (.builtin "tuple.__mul__") [.ref l, .int k t]) R X.xe s → wpAny (model X.prog X.w) X.A (binaryOp .Mult (.ref l) (.int k t)) R X.xe s := fun R hR =>
    wpAny_binaryOp_repeat_ref (T := "tuple") (U := "int") (by decide) ⟨_, ho, rfl⟩ (fun s' => typeIs_int s' k t) noFill_tuple_mul F.fills_int_mul F.slot_int_rmul repeat_tuple F.slot_int_index.lookup
      (call_meets F.slot_int_rmul (typeIs_int s k t) F.entry_int_rmul (F.args_int_rmul_2 _ _) (int_rmul_tuple k t l its.toArray n dd sl) ⟨ho, rfl, ⟨_, ho, rfl⟩, hR⟩)
  refine run _ ?_
  by_cases hw : xs = [] ∨ k = 1
  · have c1 : (its.toArray.isEmpty || k == 1) = true := by
      rw [Bool.or_eq_true]
      exact hw.imp em.mpr fun z => by rw [z]; rfl
    exact call_meets F.slot_tuple_mul ⟨_, ho, rfl⟩ F.entry_tuple_mul (F.args_tuple_mul_2 _ _) (DL.mul_one c0 c1) ⟨ho, ⟨.ref l, H, I, rfl, q1 hw (by omega)⟩⟩
  · have ne : xs ≠ [] := fun z => hw (.inl z)
    have k0 : k ≤ 0 := by
      rcases h1 with z | z
      · have : k ≠ 1 := fun z => hw (.inr z)
        omega
      · exact absurd z.1 ne
    have hi : its.toArray.isEmpty = false := by
      cases hb : its.toArray.isEmpty with
      | false => rfl
      | true => exact absurd (em.mp hb) ne
    have c1 : (its.toArray.isEmpty || k == 1) = false := by
      rw [hi, Bool.false_or]; exact beq_eq_false_iff_ne.mpr (by omega)
    have c2 : (decide (k ≤ 0) || its.toArray.isEmpty) = true := by
      rw [decide_eq_true k0]; rfl
    refine call_meets F.slot_tuple_mul ⟨_, ho, rfl⟩ F.entry_tuple_mul (F.args_tuple_mul_2 _ _) (DL.mul_non c0 c1 c2) ⟨ho, ?_⟩
    exact ⟨.ref s.heap.objs.size, _, I.laid (t' := s.toks) (o := .tup []) (fun b ob q => Heap.get?_push_of_some _ q) (Nat.le_refl _) ⟨Nat.zero_le _, _, .nil, IsTup.new _ _⟩, rfl, q2 ne k0 _ (I.hok.fresh (Nat.le_refl _))⟩
/-- int * int, tuple * int -/
def oMulT (x y : D) : Option D := match x, y with
  | .tuple xs, .int k => if (decide (-1000 ≤ k) && decide (k ≤ 1000) && decide (xs.length ≤ 1000)) = true then some (.tuple (repD xs k.toNat)) else none
  | x, y => oMul x y
def rMulT (K : PySem.W.Frag) : R2 := fun x y H Q => rI CMulA (fun i j => .int (i * j)) x y H Q ∨ (rRepT K x y H Q ∨ rRepU K x y H Q)
theorem op_mulT : OpR X (binaryOp .Mult) (rMulT X.K) := op_mulA.or (op_repT.or op_repU)
theorem od_mulT : OpD G (rMulT G.K) oMulT := fun x y d F H v w Q h hs q1 q2 k => by
  unfold oMulT at h
  split at h
  · rename_i xs n
    split at h
    · rename_i hz
      cases h
      simp only [Bool.and_eq_true, decide_eq_true_eq] at hz
      obtain ⟨a, vs, rfl, h1, h2⟩ := rp_tup q1
      rw [rp_int q2]
      have len := h2.len
      refine .inr ?_
      by_cases h3 : 2 ≤ n ∧ vs ≠ []
      · exact .inl ⟨a, n, vs, rfl, rfl, hs.t h1, h3.2, h3.1, by omega, by omega, fun p hp => new_tup hs (rp_rep h2 n.toNat) rfl k p hp⟩
      · refine .inr ⟨a, n, vs, rfl, rfl, hs.t h1, by omega, fun hw _ => ?_, fun ne k0 p hp => ?_, ?_⟩
        · have e : repD xs n.toNat = xs := by
            rcases hw with z | z
            · have : xs = [] := List.eq_nil_of_length_eq_zero (by rw [← len, z]; rfl)
              subst this
              have : ∀ m, repD ([] : List D) m = [] := fun m => by
                induction m with
                | zero => rfl
                | succ m ih => exact ih
              exact this _
            · subst z; exact List.append_nil xs
          rw [e] at k
          exact k _ _ _ (Ext.refl _ _) (.tup h1 h2)
        · have e : n.toNat = 0 := by omega
          rw [e] at k
          exact new_tup hs (vs := []) (ds := []) .nil rfl k p hp
        · by_cases z : vs = []
          · exact .inr ⟨z, by omega⟩
          · left; by_cases z2 : 2 ≤ n
            · exact absurd ⟨z2, z⟩ h3
            · omega
    · cases h
  · exact .inl (od_mul x y d F H v w Q h hs q1 q2 k)
/-! ### x[::-1] -/
def tRevT (K : PySem.W.Frag) (te : TE) : TE := fun σ H Q => te σ H fun x H1 => ∃ a xs, x = .ref a ∧ ((SqL K H1 a xs ∧ ∀ p, H1 p = none → Q (.ref p) (upd H1 p (.lst xs.reverse))) ∨ (SqT K H1 a xs ∧ ∀ p, H1 p = none → Q (.ref p) (upd H1 p (.tup xs.reverse))))
theorem pe_revT {e : Expr} {te : TE} {k : Nat} {p1 p2 p3 : Pos} (he : PE X e te) : PE X (.Subscript e (.Slice none none (some (.UnaryOp .USub (.Constant (.int 1) k p1) p2)) p3) pos) (tRevT X.K te) := by
  refine ⟨fun pins s σ H Q I h => Subscript_ (thn (he.run pins s σ H _ I h) fun v s1 ⟨x, H1, I1, r1, a, xs, ex, q⟩ => ?_)⟩
  subst ex
  cases r1
  have st : PO X (some (.UnaryOp .USub (.Constant (.int 1) k p1) p2)) (tPart (tUn (rU fun i => .int (-i)) (tC (.int 1)))) := po_some (pe_un un_neg pe_int)
  refine wpAny_Slice (thn (po_none.run pins s1 σ H1 (fun o H2 => o = none ∧ H2 = H1) I1 ⟨rfl, rfl⟩) fun vl s2 ⟨l, H2, I2, pl, el, e2⟩ => ?_)
  subst el e2
  refine thn (po_none.run pins s2 σ H2 (fun o H3 => o = none ∧ H3 = H2) I2 ⟨rfl, rfl⟩) fun vu s3 ⟨u, H3, I3, pu, eu, e3⟩ => ?_
  subst eu e3
  refine thn (st.run pins s3 σ H3 (fun o H4 => o = some (-1) ∧ H4 = H3) I3 ⟨1, rfl, -1, rfl, rfl, rfl⟩) fun vs s4 ⟨o, H4, I4, ps, eo, e4⟩ => ?_
  subst eo e4
  cases pl
  cases pu
  have I5 : Inv X pins σ H4 { s4 with heap := s4.heap.push { cls := .type "slice", data := .fields #[.none, .none, vs] } } := I4.kept (t' := s4.toks) fun b ob z => Heap.get?_push_of_some _ z
  show wpAny (model X.prog X.w) X.A (subscriptTail e (.Slice none none (some (.UnaryOp .USub (.Constant (.int 1) k p1) p2)) p3) (.ref a) (.ref s4.heap.objs.size)) (EP X pins σ Q) X.xe { s4 with heap := s4.heap.push { cls := .type "slice", data := .fields #[.none, .none, vs] } }
  rcases q with ⟨hx, q⟩ | ⟨hx, q⟩
  · obtain ⟨its, r, ht, hz⟩ := I5.list hx
    have hlen := r.length
    refine tail_any (ops := [.ref a, .ref s4.heap.objs.size]) ht.isList.typeIs (PySem.slot_list_getitem.lookup) ?_ (by with_unfolding_all rfl)
    refine wpAny_getItem_list_slice ht.isList (Heap.IsSliceOf.new _ .none .none vs) .none .none ps (by decide) ?_ (by rw [List.size_toArray]; omega)
    rw [PySem.W.krv_pick]
    exact ⟨.ref _, _, I5.laid (t' := s4.toks) (o := .lst xs.reverse) (fun b ob z => Heap.get?_push_of_some _ z) (Nat.le_refl _) ⟨by rw [List.length_reverse]; exact hz, _, 0, r.reverse, Heap.get?_push_size _ rfl⟩, rfl, q _ (I5.hok.fresh (Nat.le_refl _))⟩
  · obtain ⟨its, r, ht, hz⟩ := I5.tuple hx
    have hlen := r.length
    refine tail_any (ops := [.ref a, .ref s4.heap.objs.size]) ht.typeIs (PyProof.Rows.slot_tuple_getitem.lookup) ?_ (by with_unfolding_all rfl)
    refine get_revT ht (Heap.IsSliceOf.new _ .none .none vs) ps ?_ (by rw [List.size_toArray]; omega)
    exact ⟨.ref _, _, I5.laid (t' := s4.toks) (o := .tup xs.reverse) (fun b ob z => Heap.get?_push_of_some _ z) (Nat.le_refl _) ⟨by rw [List.length_reverse]; exact hz, _, r.reverse, IsTup.new _ _⟩, rfl, q _ (I5.hok.fresh (Nat.le_refl _))⟩
def xRevA (f : En → R D) : En → R Sl := fun r => (f r).bind fun x r1 => match x with
  | .list ds => .ok (.ow ds.reverse) r1
  | .tuple ds => .ok (.vl (.tuple ds.reverse)) r1
  | _ => .st
theorem dx_revA {k : Nat} {p1 p2 p3 : Pos} (hK : X.K = G.K) (ha : PE X a (TEo G W f)) : PE X (.Subscript a (.Slice none none (some (.UnaryOp .USub (.Constant (.int 1) k p1) p2)) p3) pos) (TXo G W (xRevA f)) :=
  pe_of (pe_revT ha) fun σ H Q ⟨F, r0, e, p⟩ => by
    have p : TXp G W (xRevA f r0) F H σ r0 Q := p
    refine ⟨F, r0, e, (TXp.bind (rel := rV G) p).mono fun v H1 ⟨x, F1, r1, _, e1, q1, p1⟩ => ?_⟩
    cases q1 with
    | @lst a xs ds h1 h2 => exact ⟨a, xs, rfl, .inl ⟨by rw [hK]; exact SqL.of (e1.sub _ _ h1), fun l hl => TXp.new (ds := ds.reverse) p1 e1 _ h2.rev l hl⟩⟩
    | @tup a xs ds h1 h2 => exact ⟨a, xs, rfl, .inr ⟨by rw [hK]; exact e1.sub.t h1, fun l hl => new_tup e1.sub h2.rev rfl (TXp.val p1 e1) l hl⟩⟩
    | _ => exact p1.elim
end
end DL
set_option maxHeartbeats 4000000
/-! DLr: dice, rolls, picks: the same text in every law. -/
namespace DL
open PySem PyProof.Rows L2
def F__law_dice : En → Fl := sSeq (sSet (eIf (tB1 (eOp oLt (eV 1) (eLenO 0))) (eCB cInt (aCons (eIxO 0 (eV 1)) (aNil))) (eOp oAdd (eOp oMul (eC (.int 97)) (eV 1)) (eC (.int 43)))) 2) (sSeq (sSet (eOp oMod (eCB cMax2 (aCons (eC (.int 0)) (aCons (eOp oSub (eCB cAbs (aCons (eV 2) (aNil))) (eOp oPow (eC (.int 10)) (eC (.int 17)))) (aNil)))) (eOp oMul (eOp oPow (eC (.int 10)) (eC (.int 60))) (eOp oPow (eC (.int 10)) (eC (.int 60))))) 3) (sRetX (xLst (aCons (eV 3) (aCons (eOp oAdd (eOp oAdd (eOp oAdd (eOp oMul (eOp oMod (eCB cAbs (aCons (eV 2) (aNil))) (eC (.int 1152921504606846737))) (eC (.int 37))) (eOp oMul (eC (.int 859)) (eV 1))) (eOp oMul (eC (.int 31)) (eCB cInt (aCons (eOp oLt (eV 2) (eC (.int 0))) (aNil))))) (eC (.int 17))) (aCons (eC (.int 0)) (aNil)))))))
def f__law_dice : En → Rf := runF 4 2 F__law_dice
def F__law_roll : En → Fl := sSeq (sIf (tB1 (eOp oGt (eIxO 0 (eC (.int 0))) (eC (.int 0)))) (sSeq (sSet (eOp oMod (eCB cInt (aCons (eIxO 0 (eC (.int 0))) (aNil))) (eV 1)) 2) (sSeq (sSetIx 0 (eOp oDiv (eIxO 0 (eC (.int 0))) (eV 1)) (eC (.int 0))) (sRet (eV 2)))) (sNil)) (sSeq (sSetIx 0 (eOp oAdd (eIxO 0 (eC (.int 2))) (eC (.int 1))) (eC (.int 2))) (sSeq (sSet (eOp oMod (eCB cInt (aCons (eOp oAdd (eIxO 0 (eC (.int 1))) (eOp oMul (eC (.int 15486209)) (eIxO 0 (eC (.int 2))))) (aNil))) (eC (.int 2305843009213693951))) 3) (sSeq (sSet (eOp oAdd (eOp oMul (eOp oMod (eCB cInt (aCons (eOp oAdd (eOp oMul (eV 3) (eV 3)) (eOp oMul (eC (.int 199)) (eIxO 0 (eC (.int 2))))) (aNil))) (eC (.int 2305843009213693907))) (eC (.int 7368751))) (eV 3)) 4) (sRet (eOp oMod (eCB cInt (aCons (eOp oDiv (eV 4) (eC (.int 65536))) (aNil))) (eV 1))))))
def f__law_roll : En → Rf := runF 5 2 F__law_roll
def F__law_pick : En → Fl := sRet (eOp oIx (eV 1) (eF (xCallI 0 f__law_roll (aCons (eCB cLen (aCons (eV 1) (aNil))) (aNil)))))
def f__law_pick : En → Rf := runF 2 2 F__law_pick
def IsDice (ds : List D) : Prop := ∃ a b c : Int, ds = [.int a, .int b, .int c]
theorem roll_pos (a b c n : Int) (h : 0 < a) (hn : 0 < n) (h2 : n < 1073741824) : f__law_roll [.io [.int a, .int b, .int c], .vl (.int n)] = .rt (.vl (.int (a % n))) (some [.int (a / n), .int b, .int c]) := by
  simp [f__law_roll, F__law_roll, runF, sSeq, sIf, rF, tB1, eOp, eIxO, Sl.has, Sl.isM, Sl.items, Sl.mut, Sl.put, R.bind, liftO, ixD, atI, ixN, oGt, cmpD, eC, eV, eCB, aCons, aNil, cInt, oMod, oDiv, divOk, sSet, sSetIx, sRet, ioOf, notIo, h, hn, h2]
theorem roll_neg (a b c n : Int) (h : ¬ 0 < a) (hn : 0 < n) (h2 : n < 1073741824) : ∃ x : Int, f__law_roll [.io [.int a, .int b, .int c], .vl (.int n)] = .rt (.vl (.int (x % n))) (some [.int a, .int b, .int (c + 1)]) := by
  refine ⟨(((b + 15486209 * (c + 1)) % 2305843009213693951 * ((b + 15486209 * (c + 1)) % 2305843009213693951) + 199 * (c + 1)) % 2305843009213693907 * 7368751 + (b + 15486209 * (c + 1)) % 2305843009213693951) / 65536, ?_⟩
  have hm : mulOk ((b + 15486209 * (c + 1)) % 2305843009213693951) ((b + 15486209 * (c + 1)) % 2305843009213693951) = true := by
    unfold mulOk
    simp only [Bool.or_eq_true, decide_eq_true_eq]
    omega
  have hm2 : ∀ x : Int, mulOk x 7368751 = true := fun x => by simp [mulOk]
  have hm3 : ∀ x : Int, mulOk 15486209 x = true := fun x => by simp [mulOk]
  have hm4 : ∀ x : Int, mulOk 199 x = true := fun x => by simp [mulOk]
  simp [f__law_roll, F__law_roll, runF, sSeq, sIf, rF, tB1, eOp, eIxO, Sl.has, Sl.isM, Sl.items, Sl.mut, Sl.put, R.bind, liftO, ixD, atI, ixN, oGt, cmpD, eC, eV, eCB, aCons, aNil, cInt, oMod, oDiv, divOk, sSet, sSetIx, sRet, ioOf, notIo, h, hn, h2, sNil, oAdd, oMul, rIntD, hm, hm2, hm3, hm4]
/-- a roll gives some number below the total, the dice stay dice -/
theorem roll_some {ds : List D} {n : Int} (hd : IsDice ds) (hn : 0 < n) (h2 : n < 1073741824) : ∃ r ds', f__law_roll [.io ds, .vl (.int n)] = .rt (.vl (.int r)) (some ds') ∧ 0 ≤ r ∧ r < n ∧ IsDice ds' := by
  obtain ⟨a, b, c, rfl⟩ := hd
  by_cases h : 0 < a
  · exact ⟨_, _, roll_pos a b c n h hn h2, Int.emod_nonneg _ (by omega), Int.emod_lt_of_pos _ hn, _, _, _, rfl⟩
  · obtain ⟨x, hx⟩ := roll_neg a b c n h hn h2
    exact ⟨_, _, hx, Int.emod_nonneg _ (by omega), Int.emod_lt_of_pos _ hn, _, _, _, rfl⟩
/-- a pick gives some item -/
theorem pick_list {ds es : List D} (hd : IsDice ds) (h1 : 0 < es.length) (h2 : es.length < 1073741824) : ∃ x ds', f__law_pick [.io ds, .vl (.list es)] = .rt (.vl x) (some ds') ∧ x ∈ es ∧ IsDice ds' := by
  obtain ⟨r, ds', hr, a1, a2, a3⟩ := roll_some (n := es.length) hd (by omega) (by omega)
  have hlt : r.toNat < es.length := by omega
  refine ⟨es[r.toNat], ds', ?_, List.getElem_mem hlt, a3⟩
  simp [f__law_pick, F__law_pick, runF, sRet, rF, eOp, eV, R.bind, eF, xCallI, Sl.isM, aCons, eCB, aNil, cLen, liftO, Sl.mut, Sl.put, hr, fz, oIx, atI, ixN, a1, a2, ioOf, notIo, hlt]
theorem pick_tup {ds es : List D} (hd : IsDice ds) (h1 : 0 < es.length) (h2 : es.length < 1073741824) : ∃ x ds', f__law_pick [.io ds, .vl (.tuple es)] = .rt (.vl x) (some ds') ∧ x ∈ es ∧ IsDice ds' := by
  obtain ⟨r, ds', hr, a1, a2, a3⟩ := roll_some (n := es.length) hd (by omega) (by omega)
  have hlt : r.toNat < es.length := by omega
  refine ⟨es[r.toNat], ds', ?_, List.getElem_mem hlt, a3⟩
  simp [f__law_pick, F__law_pick, runF, sRet, rF, eOp, eV, R.bind, eF, xCallI, Sl.isM, aCons, eCB, aNil, cLen, liftO, Sl.mut, Sl.put, hr, fz, oIx, atI, ixN, a1, a2, ioOf, notIo, hlt]
/-- the dice of a cell -/
theorem dice_some {ns : List Int} {k : Nat} : ∃ ds, f__law_dice [.fr (ns.map .int), .vl (.int k)] = .rt (.ow ds) none ∧ IsDice ds := by
  suffices h : ∃ a b c : Int, f__law_dice [.fr (ns.map .int), .vl (.int k)] = .rt (.ow [.int a, .int b, .int c]) none by
    obtain ⟨a, b, c, h⟩ := h
    exact ⟨_, h, a, b, c, rfl⟩
  have hl : Nat.log2 1000000000000000000000000000000000000000000000000000000000000 + Nat.log2 1000000000000000000000000000000000000000000000000000000000000 < 1000000 := by decide +kernel
  by_cases hk : k < ns.length
  · simp [f__law_dice, F__law_dice, runF, sSeq, rF, eIf, tB1, eOp, eIxO, eLenO, Sl.has, Sl.isM, Sl.items, Sl.mut, Sl.put, R.bind, liftO, ixD, atI, ixN, oLt, cmpD, eC, eV, eCB, aCons, aNil, cInt, cMax2, cAbs, oMod, oSub, oPow, rIntD, powOk, oMul, mulOk, oAdd, sSet, sRetX, xLst, ioOf, notIo, hk, hl]
  · simp [f__law_dice, F__law_dice, runF, sSeq, rF, eIf, tB1, eOp, eIxO, eLenO, Sl.has, Sl.isM, Sl.items, Sl.mut, Sl.put, R.bind, liftO, ixD, atI, ixN, oLt, cmpD, eC, eV, eCB, aCons, aNil, cInt, cMax2, cAbs, oMod, oSub, oPow, rIntD, powOk, oMul, mulOk, oAdd, sSet, sRetX, xLst, ioOf, notIo, hk, hl]
end DL
set_option maxHeartbeats 4000000
/-! DLs: what loops, comprehensions, sums over data come to. -/
namespace DL
open PySem PyProof.Rows L2
theorem wipe_back_get {r : En} {i : Nat} : ∀ {vs : List Nat}, (backD r (wipeD r vs) vs)[i]? = r[i]? := by
  have len : ∀ us vs, (backD r (wipeD r us) vs).length = r.length := fun us vs => by rw [backD_length, wipeD_length]
  have inn : ∀ {us vs : List Nat} {i : Nat}, i ∈ vs → (backD r (wipeD r us) vs)[i]? = r[i]? := fun {us vs i} h => by
    induction vs with
    | nil => cases h
    | cons v vs ih =>
      unfold backD
      by_cases e : v = i
      · subst e
        by_cases hl : v < r.length
        · rw [List.getElem?_set_self (by rw [len]; exact hl), List.getElem?_eq_getElem hl, List.getD_eq_getElem?_getD, List.getElem?_eq_getElem hl]
          rfl
        · rw [List.getElem?_eq_none (by rw [List.length_set, len]; omega), List.getElem?_eq_none (by omega)]
      · rw [List.getElem?_set_ne e]
        exact ih (by rcases List.mem_cons.mp h with z | z; exact absurd z.symm e; exact z)
  have out : ∀ {us vs : List Nat} {i : Nat}, i ∉ vs → i ∉ us → (backD r (wipeD r us) vs)[i]? = r[i]? := fun {us vs i} h h2 => by
    induction vs with
    | nil =>
      show (wipeD r us)[i]? = r[i]?
      clear h
      induction us with
      | nil => rfl
      | cons v us ih =>
        unfold wipeD
        rw [List.getElem?_set_ne (fun e => h2 (by rw [e]; exact List.mem_cons_self ..))]
        exact ih fun z => h2 (List.mem_cons_of_mem _ z)
    | cons v vs ih =>
      unfold backD
      rw [List.getElem?_set_ne (fun e => h (by rw [e]; exact List.mem_cons_self ..))]
      exact ih fun z => h (List.mem_cons_of_mem _ z)
  intro vs
  by_cases h : i ∈ vs
  · exact inn h
  · exact out h h
theorem backD_wipeD (r : En) (vs : List Nat) : backD r (wipeD r vs) vs = r := List.ext_getElem? fun _ => wipe_back_get
/-- a comprehension whose turns leave the names as they were -/
theorem lcD_map {α : Type} {enc : α → D} {p : α → Bool} {g : α → D} {vs : List Nat} {t : D → En → Option En} {c : En → R Bool} {f : En → R D} {r : En} : ∀ (xs : List α) (acc : List D), (∀ x ∈ xs, ∃ r1, t (enc x) r = some r1 ∧ c r1 = .ok (p x) r1 ∧ (p x = true → f r1 = .ok (g x) r1) ∧ wipeD r1 vs = r) → acc.length + xs.length ≤ 1000000 →
    lcD vs t c f (xs.map enc) r acc = .ok (acc ++ (xs.filter p).map g) r
  | [], acc, _, _ => by simp [lcD]
  | x :: xs, acc, h, hl => by
    obtain ⟨r1, h1, h2, h3, h4⟩ := h x (List.mem_cons_self ..)
    have hl' : acc.length + (xs.length + 1) ≤ 1000000 := hl
    rw [List.map_cons]
    unfold lcD
    simp only [h1, h2]
    cases hp : p x with
    | false =>
      simp only [h4]
      rw [lcD_map xs acc (fun y hy => h y (List.mem_cons_of_mem _ hy)) (by omega), List.filter_cons_of_neg (by rw [hp]; decide)]
    | true =>
      simp only [h3 hp, h4]
      rw [if_pos (by omega), lcD_map xs (acc ++ [g x]) (fun y hy => h y (List.mem_cons_of_mem _ hy)) (by simp; omega), List.filter_cons_of_pos hp]
      simp
theorem xLc_map {α : Type} {enc : α → D} {p : α → Bool} {g : α → D} {vs : List Nat} {it : En → R (List D)} {t : D → En → Option En} {c : En → R Bool} {f : En → R D} {r r1 : En} {xs : List α} (hi : it r = .ok (xs.map enc) r1) (h : ∀ x ∈ xs, ∃ r2, t (enc x) (wipeD r1 vs) = some r2 ∧ c r2 = .ok (p x) r2 ∧ (p x = true → f r2 = .ok (g x) r2) ∧ wipeD r2 vs = wipeD r1 vs) (hl : xs.length ≤ 1000000) :
    xLc vs it t c f r = .ok (.ow ((xs.filter p).map g)) r1 := by
  unfold xLc
  rw [hi]
  simp only [R.bind]
  rw [lcD_map xs [] h (by simpa using hl)]
  simp only [List.nil_append, backD_wipeD]
/-- a loop by its state -/
theorem forD_fold {α σ : Type} {enc : α → D} {e : σ → En} {step : σ → α → σ} {t : D → En → Option En} {f : En → Fl} (P : List α → σ → Prop) (h : ∀ x rest s, P (x :: rest) s → ∃ r1, t (enc x) (e s) = some r1 ∧ f r1 = .nx (e (step s x)) ∧ P rest (step s x)) : ∀ (xs : List α) (s : σ), P xs s → forD t f (xs.map enc) (e s) = .nx (e (xs.foldl step s)) ∧ P [] (xs.foldl step s)
  | [], s, hp => ⟨rfl, hp⟩
  | x :: xs, s, hp => by
    obtain ⟨r1, h1, h2, h3⟩ := h x xs s hp
    rw [List.map_cons]
    unfold forD
    simp only [h1, h2]
    exact forD_fold P h xs (step s x) h3
/-- a loop that keeps what holds of the names -/
theorem forD_keep {t : D → En → Option En} {f : En → Fl} (I : En → Prop) : ∀ (ds : List D) (r : En), (∀ d ∈ ds, ∀ r, I r → ∃ r1 r2, t d r = some r1 ∧ f r1 = .nx r2 ∧ I r2) → I r → ∃ r', forD t f ds r = .nx r' ∧ I r'
  | [], r, _, hi => ⟨r, rfl, hi⟩
  | d :: ds, r, h, hi => by
    obtain ⟨r1, r2, h1, h2, h3⟩ := h d (List.mem_cons_self ..) r hi
    obtain ⟨r', k1, k2⟩ := forD_keep I ds r2 (fun d hd => h d (List.mem_cons_of_mem _ hd)) h3
    refine ⟨r', ?_, k2⟩
    unfold forD
    simp only [h1, h2]
    exact k1
/-- a while by what its turns come to -/
theorem whileD_seq {c : En → R Bool} {f : En → Fl} (it : Nat → En) (m : Nat) (h : ∀ j, j < m → c (it j) = .ok true (it j) ∧ f (it j) = .nx (it (j + 1))) (h2 : c (it m) = .ok false (it m)) : ∀ (fuel j : Nat), j ≤ m → m - j < fuel → whileD c f fuel (it j) = .nx (it m)
  | 0, _, _, hf => absurd hf (Nat.not_lt_zero _)
  | fuel + 1, j, hj, hf => by
    unfold whileD rF
    by_cases e : j = m
    · subst e
      simp [h2]
    · obtain ⟨a, b⟩ := h j (by omega)
      simp only [a, b, if_true]
      exact whileD_seq it m h h2 fuel (j + 1) (by omega) (by omega)
/-- a loop over range by what holds before its i-th turn -/
theorem forD_range {t : D → En → Option En} {f : En → Fl} {lo : Int} {n : Nat} (I : Nat → En → Prop) (h : ∀ i r, i < n → I i r → ∃ r1 r2, t (.int (lo + i)) r = some r1 ∧ f r1 = .nx r2 ∧ I (i + 1) r2) : ∀ {r : En}, I 0 r → ∃ r', forD t f (rngD 1 lo n) r = .nx r' ∧ I n r' := by
  have gen : ∀ (m i : Nat) (lo' : Int) (r : En), i + m = n → lo' = lo + i → I i r → ∃ r', forD t f (rngD 1 lo' m) r = .nx r' ∧ I n r' := by
    intro m
    induction m with
    | zero => intro i lo' r e _ hi; exact ⟨r, rfl, by rw [← e]; exact hi⟩
    | succ m ih =>
      intro i lo' r e el hi
      obtain ⟨r1, r2, h1, h2, h3⟩ := h i r (by omega) hi
      obtain ⟨r', k1, k2⟩ := ih (i + 1) (lo' + 1) r2 (by omega) (by rw [el]; push_cast; omega) h3
      refine ⟨r', ?_, k2⟩
      unfold rngD forD
      rw [el]
      simp only [h1, h2]
      rw [← el]
      exact k1
  intro r hi
  exact gen n 0 lo r (by omega) (by simp) hi
theorem rngD_map (lo : Int) (n : Nat) : rngD 1 lo n = (List.range n).map fun i : Nat => PyData.int (lo + i) := by
  refine List.ext_getElem? fun i => ?_
  by_cases h : i < n
  · rw [rngD_get 1 lo n i h, List.getElem?_map, List.getElem?_range h]
    simp
  · rw [List.getElem?_eq_none (by rw [rngD_len]; omega), List.getElem?_eq_none (by simp; omega)]
theorem sumD_ints : ∀ l : List Int, sumD (l.map PyData.int) = some l.sum
  | [] => rfl
  | i :: l => by
    show (sumD (l.map PyData.int)).map (i + ·) = _
    rw [sumD_ints l]
    rfl
theorem inR_ok {x : Int} (h : -1000000000 ≤ x) (h2 : x ≤ 1000000000) : DL.inR x = true := by
  unfold DL.inR
  rw [Bool.and_eq_true, decide_eq_true_eq, decide_eq_true_eq]
  exact ⟨Int.le_trans (by decide) h, Int.lt_of_le_of_lt h2 (by decide)⟩
theorem iRg1_of {f : En → R D} {r r1 : En} {j : Int} {m : Nat} (hf : f r = .ok (.int j) r1) (h1 : -1000000000 ≤ j) (h2 : j ≤ 1000000000) (hm : j.toNat = m) : iRg1 f r = .ok (rngD 1 0 m) r1 := by
  unfold iRg1
  rw [hf]
  simp only [R.bind]
  rw [if_pos (inR_ok h1 h2), hm]
theorem iRg2_of {f g : En → R D} {r r1 r2 : En} {i j : Int} {m : Nat} (hf : f r = .ok (.int i) r1) (hg : g r1 = .ok (.int j) r2) (h1 : -1000000000 ≤ i) (h2 : i ≤ 1000000000) (h3 : -1000000000 ≤ j) (h4 : j ≤ 1000000000) (hm : (j - i).toNat = m) : iRg2 f g r = .ok (rngD 1 i m) r2 := by
  unfold iRg2
  rw [hf]
  simp only [R.bind]
  rw [hg]
  simp only []
  rw [if_pos (by rw [inR_ok h1 h2, inR_ok h3 h4]; rfl), hm]
theorem sFor_of {it : En → R (List D)} {t : D → En → Option En} {f : En → Fl} {r r1 : En} {ds : List D} (h : it r = .ok ds r1) : sFor it t f r = forD t f ds r1 := by
  unfold sFor
  rw [h]
  rfl
theorem sSeq_of {f g : En → Fl} {r r1 : En} (h : f r = .nx r1) : sSeq f g r = g r1 := by
  unfold sSeq
  rw [h]
theorem runF_rt {n m : Nat} {f : En → Fl} {args r : En} {sl : Sl} {io : Option (List D)} (hm : args.length = m) (hf : f (args ++ List.replicate (n - m) .no) = .rt sl r) (hs : notIo sl = true) (hio : ioOf r = io) : runF n m f args = .rt sl io := by
  unfold runF
  rw [if_pos hm, hf]
  simp only [hs, if_true, hio]
theorem runF_nx {n m : Nat} {f : En → Fl} {args r : En} {io : Option (List D)} (hm : args.length = m) (hf : f (args ++ List.replicate (n - m) .no) = .nx r) (hio : ioOf r = io) : runF n m f args = .rt (.vl .none) io := by
  unfold runF
  rw [if_pos hm, hf]
  simp only [hio]
theorem eC_of {d : D} {r : En} : eC d r = .ok d r := rfl
theorem eVF_ow {i : Nat} {r : En} {ds : List D} (h : r[i]? = some (.ow ds)) : eVF i r = .ok (.list ds) (r.set i (.vl (.list ds))) := by
  unfold eVF
  rw [h]
theorem xCall_of {fD : En → Rf} {fs : En → R (List D)} {r r1 : En} {ds : List D} {s : Sl} (h1 : fs r = .ok ds r1) (h2 : fD (ds.map .vl) = .rt s none) : xCall fD fs r = .ok s r1 := by
  unfold xCall
  rw [h1]
  simp only [R.bind]
  rw [h2]
theorem xCallI_of {i : Nat} {fD : En → Rf} {fs : En → R (List D)} {r r1 : En} {ds xs ys : List D} {s s0 : Sl} (h0 : Sl.isM r[i]? = true) (h1 : fs r = .ok ds r1) (e : r1[i]? = some s0) (hm : s0.mut = some xs) (h2 : fD (.io xs :: ds.map .vl) = .rt s (some ys)) : xCallI i fD fs r = .ok s (r1.set i (s0.put ys)) := by
  unfold xCallI
  rw [if_pos h0, h1]
  simp only [R.bind, e, hm, h2]
theorem xCallR_of {i : Nat} {fD : En → Rf} {fs : En → R (List D)} {r r1 : En} {ds xs : List D} {s : Sl} (e : r[i]? = some (.fr xs)) (h1 : fs r = .ok ds r1) (h2 : fD (.fr xs :: ds.map .vl) = .rt s none) : xCallR i fD fs r = .ok s r1 := by
  unfold xCallR
  simp only [e, h1, R.bind, h2]
theorem eF_of {f : En → R Sl} {r r1 : En} {s : Sl} {d : D} (h : f r = .ok s r1) (h2 : fz s = some d) : eF f r = .ok d r1 := by
  unfold eF
  rw [h]
  simp only [R.bind, h2, liftO]
theorem sDrop_of {f : En → R D} {r r1 : En} {d : D} (h : f r = .ok d r1) : sDrop f r = .nx r1 := by
  unfold sDrop
  rw [h]
  rfl
theorem sSet_of {f : En → R D} {i : Nat} {r r1 : En} {d : D} (h : f r = .ok d r1) : sSet f i r = .nx (r1.set i (.vl d)) := by
  unfold sSet
  rw [h]
  rfl
theorem sAsgX_of {f : En → R Sl} {i : Nat} {r r1 : En} {s : Sl} (h : f r = .ok s r1) : sAsgX f i r = .nx (r1.set i s) := by
  unfold sAsgX
  rw [h]
  rfl
theorem sRet_of {f : En → R D} {r r1 : En} {d : D} (h : f r = .ok d r1) : sRet f r = .rt (.vl d) r1 := by
  unfold sRet
  rw [h]
  rfl
theorem sRetX_of {f : En → R Sl} {r r1 : En} {s : Sl} (h : f r = .ok s r1) : sRetX f r = .rt s r1 := by
  unfold sRetX
  rw [h]
  rfl
theorem eOp_of {o : D → D → Option D} {f g : En → R D} {r r1 r2 : En} {x y d : D} (h1 : f r = .ok x r1) (h2 : g r1 = .ok y r2) (h3 : o x y = some d) : eOp o f g r = .ok d r2 := by
  unfold eOp
  rw [h1]
  simp only [R.bind]
  rw [h2]
  simp only [h3, liftO]
theorem eUn_of {o : D → Option D} {f : En → R D} {r r1 : En} {x d : D} (h1 : f r = .ok x r1) (h3 : o x = some d) : eUn o f r = .ok d r1 := by
  unfold eUn
  rw [h1]
  simp only [R.bind, h3, liftO]
theorem eCB_of {o : List D → Option D} {fs : En → R (List D)} {r r1 : En} {x : List D} {d : D} (h1 : fs r = .ok x r1) (h3 : o x = some d) : eCB o fs r = .ok d r1 := by
  unfold eCB
  rw [h1]
  simp only [R.bind, h3, liftO]
theorem aNil_of {r : En} : aNil r = .ok [] r := rfl
theorem aCons_of {f : En → R D} {fs : En → R (List D)} {r r1 r2 : En} {d : D} {ds : List D} (h1 : f r = .ok d r1) (h2 : fs r1 = .ok ds r2) : aCons f fs r = .ok (d :: ds) r2 := by
  unfold aCons
  rw [h1]
  simp only [R.bind]
  rw [h2]
theorem tB1_of {f : En → R D} {r r1 : En} {k : Bool} (h : f r = .ok (.bool k) r1) : tB1 f r = .ok k r1 := by
  unfold tB1
  rw [h]
  rfl
theorem tTru_of {f : En → R D} {r r1 : En} {k : Bool} (h : f r = .ok (.bool k) r1) : tTru f r = .ok k r1 := by
  unfold tTru
  rw [h]
  rfl
theorem tNot1_of {f : En → R Bool} {r r1 : En} {k : Bool} (h : f r = .ok k r1) : tNot1 f r = .ok (!k) r1 := by
  unfold tNot1
  rw [h]
  rfl
theorem sIf_t {c : En → R Bool} {f g : En → Fl} {r r1 : En} (h : c r = .ok true r1) : sIf c f g r = f r1 := by
  unfold sIf
  rw [h]
  rfl
theorem sIf_f {c : En → R Bool} {f g : En → Fl} {r r1 : En} (h : c r = .ok false r1) : sIf c f g r = g r1 := by
  unfold sIf
  rw [h]
  rfl
theorem sSeq_rt {f g : En → Fl} {r r1 : En} {s : Sl} (h : f r = .rt s r1) : sSeq f g r = .rt s r1 := by
  unfold sSeq
  rw [h]
theorem xLst_of {fs : En → R (List D)} {r r1 : En} {ds : List D} (h1 : fs r = .ok ds r1) (h : ds.length ≤ 1000000) : xLst fs r = .ok (.ow ds) r1 := by
  unfold xLst
  rw [h1]
  simp only [R.bind, if_pos h]
theorem xOp_of {o : D → D → Option (List D)} {f g : En → R D} {r r1 r2 : En} {x y : D} {ds : List D} (h1 : f r = .ok x r1) (h2 : g r1 = .ok y r2) (h3 : o x y = some ds) : xOp o f g r = .ok (.ow ds) r2 := by
  unfold xOp
  rw [h1]
  simp only [R.bind]
  rw [h2]
  simp only [h3]
theorem eAnd_t {f g : En → R D} {r r1 r2 : En} {d : D} (h1 : f r = .ok (.bool true) r1) (h2 : g r1 = .ok d r2) : eAnd f g r = .ok d r2 := by
  unfold eAnd
  rw [h1]
  exact h2
theorem eOr_t {f g : En → R D} {r r1 : En} (h1 : f r = .ok (.bool true) r1) : eOr f g r = .ok (.bool true) r1 := by
  unfold eOr
  rw [h1]
  rfl
theorem eOr_f {f g : En → R D} {r r1 r2 : En} {d : D} (h1 : f r = .ok (.bool false) r1) (h2 : g r1 = .ok d r2) : eOr f g r = .ok d r2 := by
  unfold eOr
  rw [h1]
  exact h2
theorem tAnd1_f {f g : En → R Bool} {r r1 : En} (h1 : f r = .ok false r1) : tAnd1 f g r = .ok false r1 := by
  unfold tAnd1
  rw [h1]
  rfl
theorem tAnd1_t {f g : En → R Bool} {r r1 r2 : En} {k : Bool} (h1 : f r = .ok true r1) (h2 : g r1 = .ok k r2) : tAnd1 f g r = .ok k r2 := by
  unfold tAnd1
  rw [h1]
  exact h2
theorem tOr1_t {f g : En → R Bool} {r r1 : En} (h1 : f r = .ok true r1) : tOr1 f g r = .ok true r1 := by
  unfold tOr1
  rw [h1]
  rfl
theorem tOr1_f {f g : En → R Bool} {r r1 r2 : En} {k : Bool} (h1 : f r = .ok false r1) (h2 : g r1 = .ok k r2) : tOr1 f g r = .ok k r2 := by
  unfold tOr1
  rw [h1]
  exact h2
theorem iSeq_of {f : En → R D} {r r1 : En} {ds : List D} (h : f r = .ok (.tuple ds) r1) : iSeq f r = .ok ds r1 := by
  unfold iSeq
  rw [h]
  rfl
theorem iSeq_ofL {f : En → R D} {r r1 : En} {ds : List D} (h : f r = .ok (.list ds) r1) : iSeq f r = .ok ds r1 := by
  unfold iSeq
  rw [h]
  rfl
theorem eTup_of {fs : En → R (List D)} {r r1 : En} {ds : List D} (h : fs r = .ok ds r1) (hl : ds.length ≤ 1000000) : eTup fs r = .ok (.tuple ds) r1 := by
  unfold eTup
  rw [h]
  simp only [R.bind, if_pos hl]
theorem forD_two {t : D → En → Option En} {f : En → Fl} {d e : D} {r r1 r2 r3 r4 : En} (h1 : t d r = some r1) (h2 : f r1 = .nx r2) (h3 : t e r2 = some r3) (h4 : f r3 = .nx r4) : forD t f [d, e] r = .nx r4 := by
  unfold forD
  simp only [h1, h2]
  unfold forD
  simp only [h3, h4]
  rfl
theorem xV_of {f : En → R D} {r r1 : En} {d : D} (h : f r = .ok d r1) : xV f r = .ok (.vl d) r1 := by
  unfold xV
  rw [h]
  rfl
theorem yCons_of {f : En → R Sl} {g : En → R (List Sl)} {r r1 r2 : En} {s : Sl} {ss : List Sl} (h1 : f r = .ok s r1) (h2 : g r1 = .ok ss r2) : yCons f g r = .ok (s :: ss) r2 := by
  unfold yCons
  rw [h1]
  simp only [R.bind]
  rw [h2]
theorem yNil_of {r : En} : yNil r = .ok [] r := rfl
theorem sPars_of {is : List Nat} {fs : En → R (List Sl)} {r r1 : En} {ss : List Sl} (h : fs r = .ok ss r1) (h2 : (decide (is.length = ss.length) && is.all fun i => decide (i < r1.length)) = true) : sPars is fs r = .nx (DL.putAll is ss r1) := by
  unfold sPars
  rw [h]
  simp only [rF]
  rw [if_pos h2]
theorem oEq_of {x y : D} {b : Bool} (h : oEqB x y = some b) : oEq x y = some (.bool b) := by
  unfold oEq
  rw [h]
  rfl
theorem oMul_of {i j : Int} (h : mulOk i j = true) : oMul (.int i) (.int j) = some (.int (i * j)) := by
  show (if mulOk i j = true then _ else _) = _
  rw [if_pos h]
theorem mulOk_l {i : Int} (h : i.natAbs < 18446744073709551616) (j : Int) : mulOk i j = true := by
  unfold mulOk
  simp only [Bool.or_eq_true, decide_eq_true_eq]
  exact .inl (.inl h)
theorem mulOk_r {j : Int} (h : j.natAbs < 18446744073709551616) (i : Int) : mulOk i j = true := by
  unfold mulOk
  simp only [Bool.or_eq_true, decide_eq_true_eq]
  exact .inl (.inr h)
theorem oMod_of {i j : Int} (h : 0 < j) : oMod (.int i) (.int j) = some (.int (i % j)) := by
  show (if decide (0 < j) = true then _ else _) = _
  rw [if_pos (decide_eq_true h)]
theorem oDiv_of {i j : Int} (h : 0 < j) (h2 : j < 1073741824) : oDiv (.int i) (.int j) = some (.int (i / j)) := by
  show (if divOk j = true then _ else _) = _
  rw [if_pos (by unfold divOk; simp [h, h2])]
theorem oEq_int (i j : Int) : oEq (.int i) (.int j) = some (.bool (i == j)) := rfl
theorem oNe_int (i j : Int) : oNe (.int i) (.int j) = some (.bool (!(i == j))) := rfl
theorem oEq_str (x y : Str) : oEq (.str x) (.str y) = some (.bool (x == y)) := rfl
theorem oNe_str (x y : Str) : oNe (.str x) (.str y) = some (.bool (!(x == y))) := rfl
end DL
set_option maxHeartbeats 1000000
/-! DLu: more lemmas to evaluate; a drawn sequence (mixed); rolls. -/
namespace DL
open PySem PyProof.Rows L2
theorem sApp_of {i : Nat} {f : En → R D} {r r1 : En} {d : D} {s : Sl} {ds : List D} (h0 : Sl.isM r[i]? = true) (h : f r = .ok d r1) (e : r1[i]? = some s) (hm : s.mut = some ds) (hl : ds.length < 1000000) : sApp i f r = .nx (r1.set i (s.put (ds ++ [d]))) := by
  unfold sApp
  rw [if_pos h0, h]
  simp only [rF, e, hm]
  rw [if_pos hl]
theorem ePop_of {i j : Nat} {g : En → R D} {r r1 : En} {k : Int} {d : D} {s : Sl} {ds : List D} (h0 : Sl.isM r[i]? = true) (h : g r = .ok (.int k) r1) (e : r1[i]? = some s) (hm : s.mut = some ds) (hk : (decide (-1000000 ≤ k) && decide (k ≤ 1000000)) = true) (hj : ixN ds.length k = some j) (hd : ds[j]? = some d) : ePop i g r = .ok d (r1.set i (s.put (ds.eraseIdx j))) := by
  unfold ePop
  rw [if_pos h0, h]
  simp only [R.bind, e, hm]
  rw [if_pos hk]
  simp only [hj, hd]
theorem eLenO_of {i : Nat} {r : En} {s : Sl} {ds : List D} (e : r[i]? = some s) (hm : s.items = some ds) : eLenO i r = .ok (.int ds.length) r := by
  unfold eLenO
  simp only [e, hm]
theorem sAsg_of {f : En → R D} {t : D → En → Option En} {r r1 r2 : En} {d : D} (h : f r = .ok d r1) (h2 : t d r1 = some r2) : sAsg f t r = .nx r2 := by
  unfold sAsg
  rw [h]
  simp only [rF, h2]
/-- a roll in an expression, of a fixed number -/
theorem rollX {ds : List D} {r : En} {i : Nat} {n : Int} {s0 : Sl} {fr : En → Rf} (hf : fr = DL.f__law_roll) (hd : IsDice ds) (e : r[i]? = some s0) (hm : s0.mut = some ds) (h0 : Sl.isM r[i]? = true) (hn : 0 < n) (h2 : n < 1073741824) : ∃ k ds', eF (xCallI i fr (aCons (eC (.int n)) aNil)) r = .ok (.int k) (r.set i (s0.put ds')) ∧ 0 ≤ k ∧ k < n ∧ IsDice ds' := by
  subst hf
  obtain ⟨k, ds', w, a, b, c⟩ := roll_some (n := n) hd hn h2
  exact ⟨k, ds', eF_of (xCallI_of (r1 := r) (ds := [.int n]) (s0 := s0) (xs := ds) h0 (aCons_of eC_of aNil_of) e hm w) rfl, a, b, c⟩
theorem sSeq_assoc (a b c : En → Fl) : sSeq (sSeq a b) c = sSeq a (sSeq b c) := funext fun r => by
  unfold sSeq
  cases a r <;> rfl
theorem nat_of {x : Int} (h : 0 ≤ x) : ∃ n : Nat, x = n := ⟨x.toNat, by omega⟩
end DL
set_option maxHeartbeats 1000000
/-! DLv: the frame of a law: for each cell some dice, some turns with them, then what is told. -/
namespace DL
open PySem PyProof.Rows L2
def noIo : Sl → Bool
  | .io _ => false
  | _ => true
theorem ioOf_app : ∀ (r q : En), r.all noIo = true → ioOf (r ++ q) = ioOf q
  | [], _, _ => rfl
  | s :: r, q, h => by
    rw [List.all_cons, Bool.and_eq_true] at h
    have ih := ioOf_app r q h.2
    cases s <;> first | exact ih | cases h.1
section
variable {fR : En → Rf} {more : En} {K T : Int} {b1 b2 rest : En → Fl}
theorem frame1 (right : ∀ ds, IsDice ds → ∃ ds', fR [.io ds] = .rt (.vl (.bool true)) (some ds') ∧ IsDice ds') (f0 s1 s3 : Sl) (ds : List D) (hd : IsDice ds) :
    ∃ ds', sIf (tNot1 (tTru (eF (xCallI 2 fR aNil)))) (sRet (eC (.bool false))) sNil (f0 :: s1 :: .ow ds :: s3 :: more) = .nx (f0 :: s1 :: .ow ds' :: s3 :: more) ∧ IsDice ds' := by
  obtain ⟨ds', h, k⟩ := right ds hd
  exact ⟨ds', Eq.trans (sIf_f (tNot1_of (k := true) (tTru_of (eF_of (xCallI_of (i := 2) (r := f0 :: s1 :: .ow ds :: s3 :: more) (r1 := f0 :: s1 :: .ow ds :: s3 :: more) (ds := []) (s0 := .ow ds) (xs := ds) rfl rfl rfl rfl h) rfl)))) rfl, k⟩
/-- a turn: two things asked -/
theorem turn2 {fS : En → Rf} (right : ∀ ds, IsDice ds → ∃ ds', fR [.io ds] = .rt (.vl (.bool true)) (some ds') ∧ IsDice ds') (great : ∀ ds, IsDice ds → ∃ ds', fS [.io ds] = .rt (.vl (.bool true)) (some ds') ∧ IsDice ds') (f0 s1 s3 : Sl) (ds : List D) (hd : IsDice ds) :
    ∃ ds', sIf (tOr1 (tNot1 (tTru (eF (xCallI 2 fR aNil)))) (tNot1 (tTru (eF (xCallI 2 fS aNil))))) (sRet (eC (.bool false))) sNil (f0 :: s1 :: .ow ds :: s3 :: more) = .nx (f0 :: s1 :: .ow ds' :: s3 :: more) ∧ IsDice ds' := by
  obtain ⟨d1, h, k⟩ := right ds hd
  obtain ⟨d2, h2, k2⟩ := great d1 k
  refine ⟨d2, Eq.trans (sIf_f (tOr1_f (r1 := f0 :: s1 :: .ow d1 :: s3 :: more) ?_ ?_)) rfl, k2⟩
  · exact tNot1_of (k := true) (tTru_of (eF_of (xCallI_of (i := 2) (r := f0 :: s1 :: .ow ds :: s3 :: more) (r1 := f0 :: s1 :: .ow ds :: s3 :: more) (ds := []) (s0 := .ow ds) (xs := ds) rfl rfl rfl rfl h) rfl))
  · exact tNot1_of (k := true) (tTru_of (eF_of (xCallI_of (i := 2) (r := f0 :: s1 :: .ow d1 :: s3 :: more) (r1 := f0 :: s1 :: .ow d1 :: s3 :: more) (ds := []) (s0 := .ow d1) (xs := d1) rfl rfl rfl rfl h2) rfl))
abbrev TurnOk (b1 : En → Fl) (more : En) : Prop := ∀ (f0 s1 s3 : Sl) (ds : List D), IsDice ds → ∃ ds', b1 (f0 :: s1 :: .ow ds :: s3 :: more) = .nx (f0 :: s1 :: .ow ds' :: s3 :: more) ∧ IsDice ds'
theorem frame2 (hT : 0 ≤ T ∧ T ≤ 1000) (turn : TurnOk b1 more) (ns : List Int) (k : Nat) (s2 s3 : Sl) (h3 : noIo s3 = true) :
    ∃ s2' s3', noIo s2' = true ∧ noIo s3' = true ∧ sSeq (sAsgX (xCallR 0 DL.f__law_dice (aCons (eV 1) aNil)) 2) (sFor (iRg1 (eC (.int T))) (gN 3) b1) (.fr (ns.map .int) :: .vl (.int k) :: s2 :: s3 :: more) = .nx (.fr (ns.map .int) :: .vl (.int k) :: s2' :: s3' :: more) := by
  obtain ⟨ds, h1, hd⟩ := dice_some (ns := ns) (k := k)
  obtain ⟨r', k1, ds', s3', k2, k3, k4⟩ := forD_range (t := gN 3) (f := b1) (lo := 0) (n := T.toNat) (fun i r => ∃ ds s3, IsDice ds ∧ noIo s3 = true ∧ r = .fr (ns.map .int) :: .vl (.int k) :: .ow ds :: s3 :: more)
    (fun i r hi ⟨ds, s3, hd, h3, e⟩ => by
      subst e
      obtain ⟨ds', a1, a2⟩ := turn (.fr (ns.map .int)) (.vl (.int k)) (.vl (.int (0 + (i : Int)))) ds hd
      exact ⟨_, _, rfl, a1, ds', _, a2, rfl, rfl⟩) (r := .fr (ns.map .int) :: .vl (.int k) :: .ow ds :: s3 :: more) ⟨ds, s3, hd, h3, rfl⟩
  subst k4
  refine ⟨.ow ds', s3', rfl, k3, ?_⟩
  exact Eq.trans (sSeq_of (sAsgX_of (xCallR_of (i := 0) (r := .fr (ns.map .int) :: .vl (.int k) :: s2 :: s3 :: more) (r1 := .fr (ns.map .int) :: .vl (.int k) :: s2 :: s3 :: more) (ds := [.int k]) rfl rfl h1))) (Eq.trans (sFor_of (iRg1_of (j := T) (m := T.toNat) (r1 := .fr (ns.map .int) :: .vl (.int k) :: .ow ds :: s3 :: more) rfl (by omega) (by omega) rfl)) k1)
theorem frame3 (hK : 1 ≤ K ∧ K ≤ 1000) (ns : List Int) (r : En) : ∃ m : Nat, iRg1 (eCB cMax2 (aCons (eC (.int 1)) (aCons (eCB cMin2 (aCons (eC (.int K)) (aCons (eLenO 0) (aNil)))) (aNil)))) (.fr (ns.map .int) :: r) = .ok (rngD 1 0 m) (.fr (ns.map .int) :: r) := by
  have hl : eLenO 0 (.fr (ns.map .int) :: r) = .ok (.int (ns.length : Int)) (.fr (ns.map .int) :: r) := by
    simp [eLenO, Sl.items]
  generalize hL : (ns.length : Int) = L at hl
  have e1 : cMin2 [.int K, .int L] = some (.int (if L < K then L else K)) := rfl
  generalize hM : (if L < K then L else K) = M at e1
  have e2 : cMax2 [.int 1, .int M] = some (.int (if M > 1 then M else 1)) := rfl
  generalize hN : (if M > 1 then M else 1) = N at e2
  have b : 1 ≤ N ∧ N ≤ 1000 := by
    subst hN hM
    repeat' split
    all_goals omega
  exact ⟨N.toNat, iRg1_of (eCB_of (aCons_of eC_of (aCons_of (eCB_of (aCons_of eC_of (aCons_of hl aNil_of)) e1) aNil_of)) e2) (by omega) (by omega) rfl⟩
/-- the whole law: rest is what stands behind the loop -/
theorem frameT {n : Nat} (hK : 1 ≤ K ∧ K ≤ 1000) (hT : 0 ≤ T ∧ T ≤ 1000) (turn : TurnOk b1 more) (hb2 : b2 = sSeq (sAsgX (xCallR 0 DL.f__law_dice (aCons (eV 1) aNil)) 2) (sFor (iRg1 (eC (.int T))) (gN 3) b1))
    (hn : n = more.length + 4) (hm : more = List.replicate (n - 4) .no) (hrest : ∀ xs s1 s2 s3, ∃ q, q.all noIo = true ∧ rest (.fr xs :: s1 :: s2 :: s3 :: more) = .rt (.vl (.bool true)) (.fr xs :: s1 :: s2 :: s3 :: q)) (ns : List Int) :
    runF n 1 (sSeq (sFor (iRg1 (eCB cMax2 (aCons (eC (.int 1)) (aCons (eCB cMin2 (aCons (eC (.int K)) (aCons (eLenO 0) (aNil)))) (aNil))))) (gN 1) b2) rest) [.fr (ns.map .int)] = .rt (.vl (.bool true)) none := by
  subst hb2
  have e0 : ([.fr (ns.map .int)] : En) ++ List.replicate (n - 1) .no = .fr (ns.map .int) :: .no :: .no :: .no :: more := by
    have : n - 1 = (n - 4) + 1 + 1 + 1 := by omega
    rw [this, List.replicate_succ, List.replicate_succ, List.replicate_succ, ← hm]
    rfl
  obtain ⟨m, e1⟩ := frame3 hK ns (.no :: .no :: .no :: more)
  obtain ⟨r', k1, s1, s2, s3, k2, k3, k4, k5⟩ := forD_range (t := gN 1) (f := sSeq (sAsgX (xCallR 0 DL.f__law_dice (aCons (eV 1) aNil)) 2) (sFor (iRg1 (eC (.int T))) (gN 3) b1)) (lo := 0) (n := m) (fun i r => ∃ s1 s2 s3, noIo s1 = true ∧ noIo s2 = true ∧ noIo s3 = true ∧ r = .fr (ns.map .int) :: s1 :: s2 :: s3 :: more)
    (fun i r hi ⟨s1, s2, s3, h1, h2, h3, e⟩ => by
      subst e
      obtain ⟨s2', s3', a1, a2, a3⟩ := frame2 (more := more) hT turn ns i s2 s3 h3
      refine ⟨.fr (ns.map .int) :: .vl (.int i) :: s2 :: s3 :: more, _, ?_, a3, _, _, _, rfl, a1, a2, rfl⟩
      simp [gN]) (r := .fr (ns.map .int) :: .no :: .no :: .no :: more) ⟨.no, .no, .no, rfl, rfl, rfl, rfl⟩
  subst k5
  obtain ⟨q, q1, q2⟩ := hrest (ns.map .int) s1 s2 s3
  refine runF_rt rfl (by rw [e0]; exact Eq.trans (sSeq_of (Eq.trans (sFor_of e1) k1)) q2) rfl ?_
  have := ioOf_app (.fr (ns.map .int) :: s1 :: s2 :: s3 :: q) [] (by simp only [List.all_cons, k2, k3, k4, q1]; rfl)
  rw [List.append_nil] at this
  exact this
theorem frame {n : Nat} (hK : 1 ≤ K ∧ K ≤ 1000) (hT : 0 ≤ T ∧ T ≤ 1000) (hb : b1 = sIf (tNot1 (tTru (eF (xCallI 2 fR aNil)))) (sRet (eC (.bool false))) sNil) (hb2 : b2 = sSeq (sAsgX (xCallR 0 DL.f__law_dice (aCons (eV 1) aNil)) 2) (sFor (iRg1 (eC (.int T))) (gN 3) b1)) (right : ∀ ds, IsDice ds → ∃ ds', fR [.io ds] = .rt (.vl (.bool true)) (some ds') ∧ IsDice ds')
    (hn : n = more.length + 4) (hm : more = List.replicate (n - 4) .no) (hrest : ∀ xs s1 s2 s3, ∃ q, q.all noIo = true ∧ rest (.fr xs :: s1 :: s2 :: s3 :: more) = .rt (.vl (.bool true)) (.fr xs :: s1 :: s2 :: s3 :: q)) (ns : List Int) :
    runF n 1 (sSeq (sFor (iRg1 (eCB cMax2 (aCons (eC (.int 1)) (aCons (eCB cMin2 (aCons (eC (.int K)) (aCons (eLenO 0) (aNil)))) (aNil))))) (gN 1) b2) rest) [.fr (ns.map .int)] = .rt (.vl (.bool true)) none :=
  frameT hK hT (by subst hb; exact fun f0 s1 s3 ds hd => frame1 right f0 s1 s3 ds hd) hb2 hn hm hrest ns
end
end DL
set_option maxHeartbeats 4000000
/-! DLz: the law's def at the head. -/
namespace DL
open PySem PyProof.Rows L2
/-- nothing gets out -/
def spN (G : Gm) (fD : En → Rf) : Sp := fun vs H Q _ => spD G fD vs H Q fun _ _ _ => False
theorem FnG.fn {P : Program} {w : World} {K : PySem.W.Frag} {mg : Str → Option Value} {base : Heap} {G : Gm} {k : Nat} {f : Addr} {fd : FuncData} {ps : List Str} {fD : En → Rf} (F : FnG false P w K mg base k f fd ps (spD G fD)) : FnOk P w K mg base L2.CX0 k f fd ps (spN G fD) := by
  refine ⟨fun vs H Q E h => F.len vs H Q _ h, fun A outer s H args us vs Q E hr e0 hb r h => codeAny_mono (F.run A outer s H args us vs Q _ (fun z => nomatch z) hr e0 hb r h) fun res s' q => ?_⟩
  cases res with
  | ok u => cases u <;> exact q
  | error e =>
    obtain ⟨a, B, H', cls, d, _, _, _, _, _, _, _, z⟩ := q
    exact z.elim
/-- the law's own def: from the script to True -/
theorem law_sp {K : PySem.W.Frag} {G : Gm} {fD : En → Rf} {H : Hp} {a : Addr} {ns : List Int} {E : XK} (hK : G.K = K) (hT : G.T = []) (hO : Only H) (hS : SqL K H a (ns.map V.int)) (hl : fD [.fr (ns.map .int)] = .rt (.vl (.bool true)) none) : spN G fD [.ref a] H (fun v _ => v = .bl true) E := by
  subst hK
  refine ⟨G.pd, H, [.fr (ns.map .int)], ⟨Sub.refl H, fun b ps e => ?_, ?_, rfl, fun i s v e1 e2 => ?_, fun i j s t p e1 e2 m1 => ?_⟩, ?_⟩
  · rcases hO b with z | ⟨o, xs, z⟩
    · rw [z] at e; cases e
    · rw [z] at e; cases e
  · show LamX.Tabs G.T H
    rw [hT]
    intro p hp
    cases hp
  · match i, e1, e2 with
    | 0, e1, e2 =>
      cases e1
      cases e2
      exact ⟨a, ns.map V.int, rfl, hS, RpLI.ints ns⟩
  · match i, e1 with
    | 0, e1 => cases e1; cases m1
  · rw [hl]
    intro F' H' v g e
    obtain ⟨x, e1, q⟩ := e.slot 0 _ _ rfl rfl
    cases e1
    cases q
    rfl
abbrev G0 (K : PySem.W.Frag) : Gm := ⟨K, [], fun _ => none, fun _ => none, 0⟩
theorem Cal.of {P : Program} {w : World} {K : PySem.W.Frag} {h : Heap} {mg : Str → Option Value} {base : Heap} {k : Nat} {fD : En → Rf} {x : Str} {params : Arguments} {body : List Stmt} {scope : Scope} {fd : FuncData} {ps : List Str} (X : K.In h) (N : h.Ns mainGlobals mg)
    (F : FunD K x x params body scope [] [] (He.ga K x) fd) (Fn : FnG false P w K mg base k (He.ga K x) fd ps (spD (G0 K) fD)) (c : (He.Fa.glo x).ok K = true)
    (hb : ∀ (kV doc pm : Value) (an : Option Addr) (cdv ct : Value) (us : List Value), us.length = ps.length → bindArgs (PySem.W.fnOf x x params body scope .none kV doc pm an cdv ct) ⟨us, []⟩ = pure (ps.zip us)) : Cal (G0 K) false P w mg base k x ps fD :=
  ⟨_, fd, Fn, He.glo_ok X N c, F.kp, F.bindsN hb⟩
end DL
set_option maxHeartbeats 4000000
/-! DLy: the head over defs that may ask repr of lists, tuples: nothing stands around the law's own call that guards. -/
namespace DL
open PySem PyProof.Rows L2
section
variable {P : Program} {w : World} {K : PySem.W.Frag} {mg mb : Str → Option Value} {k : Nat} {fa a : Addr} {fd : FuncData} {x : Str} {fD : En → Rf} {s : Shared} {vs : List Value} {ns : List Int}
/-- what the law's own call ends with -/
abbrev Tru (s : Shared) : Result → Shared → Prop := fun r s' => r = .ok (.ret (.bool true)) ∧ OldK s.heap s'.heap ∧ s'.os = s.os ∧ AllBare s'.gens
theorem callG_core {H : Hp} (KX : K.In s.heap) (hns : s.heap.Ns mainGlobals mg) (hb : s.heap.Ns builtinsNs mb) (hbb : ∀ x : Str, x ≠ "__name__" → mb x = bootBuiltins x) (hlim : s.heap.NoLimit) (hg : s.gens = #[]) (hr : Room k callerA)
    (F : ∀ base : Heap, K.In base → base.Ns mainGlobals mg → FnG true P w K mg base k fa fd [x] (spD (G0 K) fD)) (bind : ∀ (s : Shared) (u : Value), BindsTo s fd ⟨[u], []⟩ [(x, u)]) (hsp : spD (G0 K) fD [.ref a] H (fun v _ => v = .bl true) fun _ _ _ => False)
    (hO : Only H) (ok : HOk P w H s.heap) (free : ∀ b o, s.heap.get? b = some o → (H b = none ∨ ((∀ es ep, o.data ≠ .dict es ep) ∧ K.lookup b = none))) : codeAny (model P w) callerA (.call (.ref fa) ⟨[.ref a], []⟩) (Tru s) s := by
  have low : ∀ {b : Addr} {m : Str → Option Value}, s.heap.Ns b m → (hidT s.heap H).Ns b m := fun {b m} z => by
    obtain ⟨o, es, ep, e, d, r⟩ := z
    rcases free b o e with q | q
    · exact ⟨o, es, ep, hidT_get e q, d, r⟩
    · exact absurd d (q.1 es ep)
  have KB : K.In (hidT s.heap H) := fun b o e => by
    rcases free b o (KX b o e) with q | q
    · exact hidT_get (KX b o e) q
    · rw [q.2] at e; cases e
  obtain ⟨mc, c1, c2⟩ := hlim
  have env : Env0 P w K mg (hidT s.heap H) callerA [] s H := ⟨rfl, ⟨KB, low hns, ⟨mb, low hb, hbb⟩, ⟨mc, low c1, c2⟩⟩, fun b o e => of_hidT e, Nat.le_of_eq (hidT_size _ _), trivial, fun b z => absurd z List.not_mem_nil, ok, .of_eq hg⟩
  have run := (F _ KB (low hns)).run callerA [] s H ⟨[.ref a], []⟩ [.ref a] [.ref a] _ _ (fun _ => rfl) hr env (bind s (.ref a)) (.cons rfl .nil) hsp
  refine codeAny_mono run fun res s' q => ?_
  cases res with
  | error e =>
    obtain ⟨_, _, _, _, _, _, _, _, _, _, _, _, z⟩ := q
    exact z.elim
  | ok fl =>
    cases fl with
    | ret u =>
      obtain ⟨v, H', os, bare, un, ok', rel, e⟩ := q
      have e : v = .bl true := e
      subst e
      have eu : u = Value.bool true := rel
      subst eu
      refine ⟨rfl, OldK.of_keep fun b o eb => ?_, os, bare⟩
      rcases hO b with z | ⟨ob, xs, z⟩
      · exact un.keep b o eb z (fun z => absurd z List.not_mem_nil) (fun z => absurd z List.not_mem_nil)
      · have e1 := (ok b _ z).1
        rw [eb] at e1
        cases e1
        exact (ok' b _ (un.frzs b _ _ z)).1
    | _ => exact False.elim q
theorem callG (KX : K.In s.heap) (hns : s.heap.Ns mainGlobals mg) (hb : s.heap.Ns builtinsNs mb) (hbb : ∀ x : Str, x ≠ "__name__" → mb x = bootBuiltins x) (hlim : s.heap.NoLimit) (hg : s.gens = #[]) (ha : s.heap.get? a = some { cls := .type "list", data := .seq vs.toArray }) (hi : IntsAre vs ns) (hl : ns.length ≤ sizeLine) (hr : Room k callerA)
    (F : ∀ base : Heap, K.In base → base.Ns mainGlobals mg → FnG true P w K mg base k fa fd [x] (spD (G0 K) fD)) (bind : ∀ (s : Shared) (u : Value), BindsTo s fd ⟨[u], []⟩ [(x, u)]) (hsp : ∀ H : Hp, Only H → SqL K H a (ns.map V.int) → spD (G0 K) fD [.ref a] H (fun v _ => v = .bl true) fun _ _ _ => False) :
    codeAny (model P w) callerA (.call (.ref fa) ⟨[.ref a], []⟩) (Tru s) s := by
  have rv := vals_ints hi
  cases hk : K.lookup a with
  | some o =>
    have e := KX a o hk
    rw [ha] at e
    cases e
    have on : Only fun _ => none := fun _ => .inl rfl
    exact callG_core (H := fun _ => none) KX hns hb hbb hlim hg hr F bind (hsp _ on (.inr ⟨_, vs.toArray, _, hk, rfl, rfl, rfl, by rw [List.size_toArray, hi.length]; exact hl, by simpa using rv⟩)) on (fun b u z => by cases z) fun _ _ _ => .inl rfl
  | none =>
    let o1 : Obj := { cls := .type "list", data := .seq vs.toArray }
    let H1 : Hp := fun b => if b = a then some (.frz o1 (.lst (ns.map V.int))) else none
    have at1 : H1 a = some (.frz o1 (.lst (ns.map V.int))) := if_pos rfl
    have off : ∀ b, b ≠ a → H1 b = none := fun b z => if_neg z
    have on : Only H1 := fun b => by
      by_cases z : b = a
      · subst z; exact .inr ⟨_, _, at1⟩
      · exact .inl (off b z)
    refine callG_core (H := H1) KX hns hb hbb hlim hg hr F bind (hsp _ on (.inl (.inr ⟨o1, at1⟩))) on (fun b u z => ?_) fun b o e => ?_
    · by_cases q : b = a
      · subst q
        rw [at1] at z
        cases z
        exact ⟨ha, by rw [List.length_map]; exact hl, vs, _, rv, ha⟩
      · rw [off b q] at z; cases z
    · by_cases q : b = a
      · subst q
        rw [ha] at e
        cases e
        exact .inr ⟨fun es ep z => (nomatch z), hk⟩
      · exact .inl (off b q)
end
theorem walkG {l : PySem.W.OpenLaw} {n k : Nat} {q : Program} {loose : List Str} {XP : (Str → Option Value) → Heap → Prop} {YP : World → Heap → Prop} {d : DefRec} {x : Str} {fD : En → Rf} (hn : l.most = some n) (hn2 : n ≤ sizeLine) (hdf : d.params.defaults = []) (hr : Room k callerA)
    (hl : ∀ ns : List Int, ns.length ≤ n → fD [.fr (ns.map .int)] = .rt (.vl (.bool true)) none)
    (F : ∀ (w : World) (mg : Str → Option Value) (fa : Addr) (h : Heap), YP w h → h.Ns mainGlobals mg → mg d.name = some (.ref fa) → ∃ (K : PySem.W.Frag) (fd : FuncData), K.In h ∧ (∀ (s : Shared) (u : Value), BindsTo s fd ⟨[u], []⟩ [(x, u)]) ∧
        ∀ base : Heap, K.In base → base.Ns mainGlobals mg → FnG true l.prog w K mg base k fa fd [x] (spD (G0 K) fD)) : PySem.W.WalkO q loose XP YP l.row.toRowW d [] (fun f vs => PySem.call f vs) := by
  refine Att.attach_call hn hdf fun w s0 s1 mg mb fa o pm cd doc a vs ns G Y ho hd hcd hmg hobj hints hlen hg => ?_
  obtain ⟨K, fd, KX, bind, hF⟩ := F w mg fa _ Y G.T.g hmg
  exact callG KX G.T.g G.T.b G.T.builtins G.T.nolimit hg hobj hints (Nat.le_trans hlen hn2) hr hF bind fun H hO hS => law_sp (E := fun _ _ _ => False) rfl rfl hO hS (hl ns hlen)
theorem Cal.ofG {P : Program} {w : World} {K : PySem.W.Frag} {h : Heap} {mg : Str → Option Value} {base : Heap} {k : Nat} {fD : En → Rf} {x : Str} {params : Arguments} {body : List Stmt} {scope : Scope} {fd : FuncData} {ps : List Str} (X : K.In h) (N : h.Ns mainGlobals mg)
    (F : FunD K x x params body scope [] [] (He.ga K x) fd) (Fn : FnG true P w K mg base k (He.ga K x) fd ps (spD (G0 K) fD)) (c : (He.Fa.glo x).ok K = true)
    (hb : ∀ (kV doc pm : Value) (an : Option Addr) (cdv ct : Value) (us : List Value), us.length = ps.length → bindArgs (PySem.W.fnOf x x params body scope .none kV doc pm an cdv ct) ⟨us, []⟩ = pure (ps.zip us)) : Cal (G0 K) true P w mg base k x ps fD :=
  ⟨_, fd, Fn, He.glo_ok X N c, F.kp, F.bindsN hb⟩
end DL
set_option maxHeartbeats 4000000
/-! DLx: constants that are texts, tuples of scalars; the hook that sees them. -/
namespace DL
open PySem PySem.Spec PyProof.Rows L2
abbrev AlC : Type := He.AlD × List Bool
def obsC (fa : List He.Fa) (fn : List He.DefD) (cs : List (Str × List He.Dv)) (K : PySem.W.Frag) : AlC := (He.obsD fa fn K, cs.map fun c => He.tupB K c.1 c.2)
def valC (fn : List He.DefD) (cs : List (Str × List He.Dv)) : AlC := (He.valD fn, cs.map fun _ => true)
def SaysC (fa : List He.Fa) (fn : List He.DefD) (cs : List (Str × List He.Dv)) (K : PySem.W.Frag) : Prop := obsC fa fn cs K = valC fn cs
def obsCG (n : Nat) (fa : List He.Fa) (fn : List He.DefD) (cs : List (Str × List He.Dv)) (g : Addr → Option Obj) : AlC := obsC fa fn cs (He.frG g (He.asD g n))
def hookC (n : Nat) (fa : List He.Fa) (fn : List He.DefD) (cs : List (Str × List He.Dv)) : PySem.W.Hook where
  α := AlC
  obs := fun s => obsCG n fa fn cs s.heap.get?
  val := fun _ => valC fn cs
  says := fun _ h => ∃ K : PySem.W.Frag, K.In h ∧ SaysC fa fn cs K
  of := fun _ _ e => ⟨_, He.frG_in, e⟩
  keeps := fun _ _ _ ⟨K, a, b⟩ k => ⟨K, PySem.W.Frag.In.keeps a k, b⟩
theorem obsCG_eq {n : Nat} {fa : List He.Fa} {fn : List He.DefD} {cs : List (Str × List He.Dv)} {g : Addr → Option Obj} {s : Shared} (h : ∀ a, g a = s.heap.get? a) : obsCG n fa fn cs g = (hookC n fa fn cs).obs s := by
  rw [show g = s.heap.get? from funext h] <;> rfl
section
variable {fa : List He.Fa} {fn : List He.DefD} {cs : List (Str × List He.Dv)} {K : PySem.W.Frag}
theorem SaysC.d (c : SaysC fa fn cs K) : He.SaysD fa fn K := congrArg (fun z : AlC => z.1) c
theorem SaysC.tup (c : SaysC fa fn cs K) (i : Nat) {x : Str} {vs : List He.Dv} (h : cs[i]? = some (x, vs) := by rfl) (H : Hp) : SqT K H (He.ga K x) (vs.map (He.Dv.v K)) := by
  have e : cs.map (fun c => He.tupB K c.1 c.2) = cs.map fun _ => true := congrArg (fun z : AlC => z.2) c
  have e2 : (cs.map fun c => He.tupB K c.1 c.2)[i]? = (cs.map fun _ => true)[i]? := by rw [e]
  rw [List.getElem?_map, List.getElem?_map, h] at e2
  exact He.tupB_ok (Option.some.inj e2) H
end
/-- scalars -/
inductive Sca : V → D → Prop
  | non : Sca .non .none
  | bl (b : Bool) : Sca (.bl b) (.bool b)
  | int (i : Int) : Sca (.int i) (.int i)
  | str (x : Str) : Sca (.str x) (.str x)
inductive Scas : List V → List D → Prop
  | nil : Scas [] []
  | cons {v d vs ds} : Sca v d → Scas vs ds → Scas (v :: vs) (d :: ds)
theorem Sca.rp {G : Gm} {F : Hp} {v : V} {d : D} (h : Sca v d) : Rp G F v d := by
  cases h with
  | non => exact .non
  | bl b => exact .bl b
  | int i => exact .int i
  | str x => exact .str x
theorem Scas.rp {G : Gm} {F : Hp} : ∀ {vs : List V} {ds : List D}, Scas vs ds → RpL G F vs ds
  | _, _, .nil => .nil
  | _, _, .cons h t => .cons h.rp t.rp
section
variable {G : Gm} {W : WX} {X : Cx} {pos : Pos}
theorem de_globS {x z : Str} (h : ∃ t, X.mg x = some (.str z t)) (hg : Gl X x := by rfl) (hdb : (x == ("__debug__" : Str)) = false := by decide) : PE X (.Name x pos) (TEo G W (eC (.str z))) := by
  obtain ⟨t, e⟩ := h
  exact de_glob hg e (v := .str z) ⟨t, rfl⟩ (fun F => .str z) hdb
theorem de_globT {x : Str} {vs : List V} {ds : List D} (h : ∃ a, X.mg x = some (.ref a) ∧ (∀ H, SqT G.K H a vs) ∧ Scas vs ds) (hg : Gl X x := by rfl) (hdb : (x == ("__debug__" : Str)) = false := by decide) : PE X (.Name x pos) (TEo G W (eC (.tuple ds))) := by
  obtain ⟨a, e, hs, q⟩ := h
  exact de_glob hg e (v := .ref a) rfl (fun F => .tup (hs F) q.rp) hdb
end
end DL
set_option maxHeartbeats 4000000
/-! DLw: sum of tuples; x.extend(a list at hand); < and the like of tuples of ints. -/
namespace DL
open PySem PySem.Calls PyProof.Rows L2
section
variable {P : Program} {w : World} {A : Around} {E : Value → Shared → Prop} {s : Shared}
theorem sum_tupR {t : Addr} {its : List Value} {ns : List Int} {Q : Value → Shared → Prop} (hh : A.handled = none) (ht : s.heap.IsTuple t its.toArray) (hi : IntsAre its ns)
    (h : ∀ g tk u, (∀ b o, s.heap.get? b = some o → g.get? b = some o) → Q (.int ns.sum u) { s with heap := g, toks := tk }) : wpAny (model P w) A (call (.builtin "sum") [.ref t]) Q E s := by
  obtain ⟨xs, e⟩ := hi.allInts.items
  have hn : numsOf (intItems xs).toList = ns := by rw [← e]; exact hi.numsOf
  rw [nums_intItems] at hn
  rw [e] at ht
  have hlt : t < s.heap.objs.size := by obtain ⟨_, z, _⟩ := ht; exact Heap.lt_size z
  refine call_sum_walkG (wpAny_pyIter_tuple ht ?_)
  refine ⟨s.heap.objs.size, [s.heap.objs.size, t], [s.heap.objs.size], (intItems xs).size, _, _, numAt xs, rfl, Walks.tuple (A := A.in1) hh _ t (Nat.ne_of_lt hlt) (intItems xs), ⟨⟨_, Heap.get?_push_size _ rfl, rfl, rfl⟩, ht.push _⟩, fun b hb => ?_, fun _ _ => intItems_at, fun g tk u hk => ?_⟩
  · show b < (s.heap.push _).objs.size
    rw [Heap.size_push]
    rcases two_cases hb with z | z
    · rw [z]; exact Nat.lt_succ_self _
    · rw [z]; exact Nat.lt_succ_of_lt hlt
  · have q := h g tk u fun b o z => hk b o (fun hm => by
      rw [List.mem_singleton.mp hm] at z
      exact absurd (Heap.lt_size z) (Nat.lt_irrefl _)) (Heap.get?_push_of_some _ z)
    have sz : (intItems xs).size = xs.size := by simp [intItems]
    rw [sz, preSum_eq, List.take_of_length_le (by simp), hn]
    exact q
end
section
variable {X : Cx} {G : Gm} {W : WX} {F H F1 H1 : Hp} {σ σ1 : L2.St} {r r1 : En} {a b : Expr} {pos : Pos} {f g : En → R D}
def rSumA (K : PySem.W.Frag) : List V → Hp → VK → Prop := fun vs H Q => ∃ (a : Addr) (ns : List Int), vs = [V.ref a] ∧ (SqL K H a (ns.map V.int) ∨ SqT K H a (ns.map V.int)) ∧ Q (.int ns.sum) H
theorem cr_sumA (hc : X.calm = true) : CallR X (.builtin "sum") (rSumA X.K) := by
  intro pins s σ H vs us Q I r h
  obtain ⟨a, ns, rfl, hs | hs, q⟩ := h
  · exact cr_sum hc pins s σ H _ us Q I r ⟨a, ns, rfl, hs, q⟩
  · obtain ⟨its, rv, hl, _⟩ := I.tuple hs
    rw [Vals.ref1 r]
    exact sum_tupR (I.ok.hd hc) hl rv.ints fun g tk u hk => ⟨.int _, H, I.kept hk, ⟨_, rfl⟩, q⟩
def cSumA : List D → Option D
  | [.list ds] => (sumD ds).map .int
  | [.tuple ds] => (sumD ds).map .int
  | _ => none
theorem cd_sumA : CallD G (rSumA G.K) cSumA := fun x d F H v Q h hs q k => by
  unfold cSumA at h
  split at h
  · rename_i ds
    obtain ⟨v, rfl, qa⟩ := one_of q
    obtain ⟨a, xs, rfl, h1, h2⟩ := rp_lst qa
    cases hn : sumD ds with
    | none => rw [hn] at h; cases h
    | some n =>
      rw [hn] at h
      cases h
      obtain ⟨ns, e1, e2⟩ := sumD_is hn
      subst e1
      rw [rp_ints h2] at h1
      refine ⟨a, ns, rfl, .inl (SqL.of (hs _ _ h1)), ?_⟩
      rw [e2]
      exact k _ _ _ (Ext.refl _ _) (.int _)
  · rename_i ds
    obtain ⟨v, rfl, qa⟩ := one_of q
    obtain ⟨a, xs, rfl, h1, h2⟩ := rp_tup qa
    cases hn : sumD ds with
    | none => rw [hn] at h; cases h
    | some n =>
      rw [hn] at h
      cases h
      obtain ⟨ns, e1, e2⟩ := sumD_is hn
      subst e1
      rw [rp_ints h2] at h1
      refine ⟨a, ns, rfl, .inr (hs.t h1), ?_⟩
      rw [e2]
      exact k _ _ _ (Ext.refl _ _) (.int _)
  · cases h
/-! ### x.extend(e), e a list at hand -/
def sExtV (i : Nat) (f : En → R D) : En → Fl := fun r => if Sl.isM r[i]? = true then rF (f r) fun d r1 => match d with
  | .list es => match r1[i]? with
    | some s => match s.mut with
      | some ds => if ds.length + es.length ≤ 1000000 then .nx (r1.set i (s.put (ds ++ es))) else .st
      | none => .st
    | none => .st
  | _ => .st
  else .st
theorem ds_extV {i : Nat} {x : Str} {p apos cpos ppos : Pos} (hK : X.K = G.K) (ha : PE X a (TEo G W f)) (hN : X.N[i]? = some x := by rfl) (hv : Vis X.env.scope x := by first | exact Or.inl rfl | exact Or.inr (Or.inl rfl) | exact Or.inr (Or.inr rfl))
    (hbase : attributeBase (.Name x p) "extend" X.env (eval (.Name x p) X.env) = eval (.Name x p) X.env := by rfl)
    (hfew : ((backTo cpos (starEach [a] X.env)).all (fun x => !x.1) && (backToKw cpos (keywordEach [] X.env)).all (fun x => x.1.isSome)
      && decide ([a].length + ([] : List Keyword).length + (if ([] : List Keyword).isEmpty then 0 else 1) < 30)) = true := by rfl)
    (hline : (apos.endLine == cpos.line) = true := by rfl) (hs : starEach [a] X.env = (false, eval a X.env) :: starEach [] X.env := by rfl) (hplain : (backTo cpos (starEach [] X.env)).any (·.1) = false := by rfl)
    (hsw : swapsWith (.Call (.Attribute (.Name x p) "extend" apos) [a] [] cpos) none ppos.line X.env = pure false := by rfl)
    (hd : (x == ("__debug__" : Str)) = false := by decide) (hcd : (x == ("__classdict__" : Str)) = false := by decide) : PS X (.Expr (.Call (.Attribute (.Name x p) "extend" apos) [a] [] cpos) ppos) (TSo G W (sExtV i f)) :=
  ps_of (ps_expr (pe_bm PySem.F.plainAttrs_list PySem.F.slot_list_extend PySem.F.type_list_extend mt_extend (pe_var hN hv hd hcd) (pa_cons ha pa_nil hs) hbase hfew hline hs hplain) hsw) fun E σ H ⟨F, r, e, q⟩ => by
    unfold sExtV at q
    by_cases hh : Sl.isM r[i]? = true
    case neg => rw [if_neg hh] at q; exact q.elim
    rw [if_pos hh] at q
    obtain ⟨pa, vs0, hv, hp0⟩ := e.isM hh
    refine ⟨_, hv, .inl ⟨rfl, _, SqL.of hp0⟩, F, r, e, Pf.ofR q fun d r1 F1 H1 w _ e1 q1 p1 => ?_⟩
    cases q1 with
    | @lst pb ws es hb hw =>
      simp only at p1
      cases hs : r1[i]? with
      | none => rw [hs] at p1; exact p1.elim
      | some s =>
        rw [hs] at p1
        cases hds : s.mut with
        | none => simp only [hds] at p1; exact p1.elim
        | some ds =>
          simp only [hds] at p1
          split at p1
          · rename_i hz
            obtain ⟨pa, vs, ev, h1, h2, h3, _⟩ := (e1.slot i s _ hs hv).mut hds
            cases ev
            obtain ⟨gg, e2⟩ := e1.write hs hds hv (h3.append hw)
            exact ⟨pa, pb, vs, ws, rfl, rfl, h2, e1.sub _ _ hb, small6 (by rw [h3.len, hw.len]; exact hz), p1 _ _ _ gg e2⟩
          · exact p1.elim
    | _ => exact p1.elim
/-! ### a < b and the like -/
def rKd (K : PySem.W.Frag) (o : D → D → Bool) : R2 := fun x y H Q => ∃ d e, Dp K H x d ∧ Dp K H y e ∧ okK [d, e] = true ∧ Q (.bl (o d e)) H
theorem kd_of {d e : D} (h : okK [d, e] = true) : Kd d e ∧ Kd e d := ⟨okK_kd h (by simp) (by simp), okK_kd h (by simp) (by simp)⟩
theorem kd_room {A : Around} {d e : D} (h : okK [d, e] = true) (hu : A.units + 64 < cLine) : A.units + min d.depth e.depth < cLine := by
  have a := (okK_each h (show d ∈ [d, e] by simp)).1
  have := Nat.min_le_left d.depth e.depth
  omega
theorem op_kd {op : CmpOp} {o : D → D → Bool} (hu : X.A.units + 64 < cLine) (hr : ∀ (d e : D) (A : Around) (s : Shared) (a b : Value) (as bs : List Addr), Reads s.heap a d as → Reads s.heap b e bs → okK [d, e] = true → A.units + min d.depth e.depth < cLine → ∀ (P : Program) (w : World) (E : Value → Shared → Prop) (Q : Value → Shared → Prop), Q (.bool (o d e)) s → wpAny (model P w) A (compareOp op a b) Q E s) :
    OpR X (compareOp op) (rKd X.K o) := by
  intro pins s σ H x y v u Q I rx ry h
  obtain ⟨d, e, h1, h2, ok, q⟩ := h
  obtain ⟨as, r1⟩ := Dp.reads I d x v h1 rx
  obtain ⟨bs, r2⟩ := Dp.reads I e y u h2 ry
  exact hr d e X.A s v u as bs r1 r2 ok (kd_room ok hu) X.prog X.w X.xe _ ⟨.bl _, H, I, rfl, q⟩
theorem op_kLt (hu : X.A.units + 64 < cLine) : OpR X (compareOp .Lt) (rKd X.K ltD) := op_kd hu fun d e A s a b as bs r1 r2 ok hm P w E Q q => by
  have k := (kd_of ok).1
  exact PySem.W.rcLt_alike d e A s a b as bs r1 r2 k.alike (okK_each ok (by simp)).2.2 hm P w E Q (by rw [k.lt]; exact q)
theorem op_kGt (hu : X.A.units + 64 < cLine) : OpR X (compareOp .Gt) (rKd X.K fun d e => ltD e d) := op_kd hu fun d e A s a b as bs r1 r2 ok hm P w E Q q => by
  have k := kd_of ok
  exact PySem.W.rcGt_alike d e A s a b as bs r1 r2 k.1.alike (okK_each ok (by simp)).2.2 hm P w E Q (by rw [k.2.lt]; exact q)
theorem op_kLe (hu : X.A.units + 64 < cLine) : OpR X (compareOp .LtE) (rKd X.K fun d e => !ltD e d) := op_kd hu fun d e A s a b as bs r1 r2 ok hm P w E Q q => by
  have k := kd_of ok
  exact PySem.W.rcLe_alike d e A s a b as bs r1 r2 k.1.alike (okK_each ok (by simp)).2.2 hm P w E Q (by rw [k.2.lt]; exact q)
theorem op_kGe (hu : X.A.units + 64 < cLine) : OpR X (compareOp .GtE) (rKd X.K fun d e => !ltD d e) := op_kd hu fun d e A s a b as bs r1 r2 ok hm P w E Q q => by
  have k := kd_of ok
  exact PySem.W.rcGe_alike d e A s a b as bs r1 r2 k.1.alike (okK_each ok (by simp)).2.2 hm P w E Q (by rw [k.1.lt]; exact q)
def cmpK (p : Int → Int → Bool) (o : D → D → Bool) (x y : D) : Option D := match x, y with
  | .int i, .int j => some (.bool (p i j))
  | x, y => if okK [x, y] = true then some (.bool (o x y)) else none
theorem od_cmpK {p : Int → Int → Bool} {o : D → D → Bool} : OpD G (fun x y H Q => rI0 (fun i j => .bl (p i j)) x y H Q ∨ rKd G.K o x y H Q) (cmpK p o) := fun x y d F H v w Q h hs q1 q2 k => by
  unfold cmpK at h
  split at h
  · cases h
    rw [rp_int q1, rp_int q2]
    exact .inl ⟨_, _, rfl, rfl, k _ _ _ (Ext.refl _ _) (.bl _)⟩
  · split at h
    · rename_i ok
      cases h
      exact .inr ⟨x, y, q1.dp hs (okK_each ok (by simp)).2.1, q2.dp hs (okK_each ok (by simp)).2.1, ok, k _ _ _ (Ext.refl _ _) (.bl _)⟩
    · cases h
def oLtK : D → D → Option D := cmpK (fun i j => decide (i < j)) ltD
def oLeK : D → D → Option D := cmpK (fun i j => decide (i ≤ j)) fun d e => !ltD e d
def oGtK : D → D → Option D := cmpK (fun i j => decide (j < i)) fun d e => ltD e d
def oGeK : D → D → Option D := cmpK (fun i j => decide (j ≤ i)) fun d e => !ltD d e
theorem op_ltK (hu : X.A.units + 64 < cLine) : OpR X (compareOp .Lt) (fun x y H Q => rI0 (fun i j => .bl (decide (i < j))) x y H Q ∨ rKd X.K ltD x y H Q) := op_lt.or (op_kLt hu)
theorem op_leK (hu : X.A.units + 64 < cLine) : OpR X (compareOp .LtE) (fun x y H Q => rI0 (fun i j => .bl (decide (i ≤ j))) x y H Q ∨ rKd X.K (fun d e => !ltD e d) x y H Q) := op_le.or (op_kLe hu)
theorem op_gtK (hu : X.A.units + 64 < cLine) : OpR X (compareOp .Gt) (fun x y H Q => rI0 (fun i j => .bl (decide (j < i))) x y H Q ∨ rKd X.K (fun d e => ltD e d) x y H Q) := op_gt.or (op_kGt hu)
theorem op_geK (hu : X.A.units + 64 < cLine) : OpR X (compareOp .GtE) (fun x y H Q => rI0 (fun i j => .bl (decide (j ≤ i))) x y H Q ∨ rKd X.K (fun d e => !ltD d e) x y H Q) := op_ge.or (op_kGe hu)
end
end DL
set_option maxHeartbeats 4000000
/-! DLaa: xs.count(x), xs.index(x) of lists of ints. -/
namespace DL
open PySem PySem.Calls PyProof.Rows L2
def cntI (k : Int) : List D → Option Nat
  | [] => some 0
  | .int i :: r => (cntI k r).map fun n => if i = k then n + 1 else n
  | _ :: _ => none
theorem cntI_is {k : Int} : ∀ {ds : List D} {n : Nat}, cntI k ds = some n → ∃ ns : List Int, ds = ns.map PyData.int ∧ n = ns.count k
  | [], n, h => by cases h; exact ⟨[], rfl, rfl⟩
  | d :: r, n, h => by
    cases d with
    | int i =>
      unfold cntI at h
      cases hr : cntI k r with
      | none => rw [hr] at h; cases h
      | some m =>
        rw [hr] at h
        obtain ⟨ns, e1, e2⟩ := cntI_is hr
        refine ⟨i :: ns, by rw [e1]; rfl, ?_⟩
        have h : (if i = k then m + 1 else m) = n := Option.some.inj h
        rw [← h, e2, List.count_cons]
        by_cases q : i = k
        · simp [q]
        · simp [q]
    | _ => cases h
def idxI (k : Int) : List D → Nat → Option Nat
  | [], _ => none
  | .int i :: r, j => if i = k then (if r.all isI = true then some j else none) else idxI k r (j + 1)
  | _ :: _, _ => none
theorem idxI_is {k : Int} : ∀ {ds : List D} {j0 j : Nat}, idxI k ds j0 = some j → ∃ ns : List Int, ds = ns.map PyData.int ∧ j0 ≤ j ∧ ns[j - j0]? = some k ∧ ∀ m, m < j - j0 → ∀ z, ns[m]? = some z → z ≠ k
  | [], _, _, h => by cases h
  | d :: r, j0, j, h => by
    cases d with
    | int i =>
      unfold idxI at h
      by_cases q : i = k
      · rw [if_pos q] at h
        split at h
        · rename_i ha
          cases h
          obtain ⟨ns, e⟩ := allI_is ha
          exact ⟨i :: ns, by rw [e]; rfl, Nat.le_refl _, by simp [q], fun m hm => absurd hm (by omega)⟩
        · cases h
      · rw [if_neg q] at h
        obtain ⟨ns, e1, e2, e3, e4⟩ := idxI_is h
        refine ⟨i :: ns, by rw [e1]; rfl, by omega, ?_, fun m hm z hz => ?_⟩
        · rw [show j - j0 = (j - (j0 + 1)) + 1 by omega, List.getElem?_cons_succ]; exact e3
        · cases m with
          | zero => simp at hz; rw [← hz]; exact q
          | succ m => exact e4 m (by omega) z (by simpa using hz)
    | _ => cases h
section
variable {X : Cx} {G : Gm} {W : WX} {F H F1 H1 : Hp} {σ σ1 : L2.St} {r r1 : En} {a o : Expr} {pos : Pos} {f g : En → R D}
def eMt (m : List D → D → Option D) (f g : En → R D) : En → R D := fun r => (f r).bind fun x r1 => match x with
  | .list ds => (g r1).bind fun y r2 => liftO (m ds y) r2
  | _ => .st
def mCnt (ds : List D) (y : D) : Option D := match y with
  | .int k => (cntI k ds).map fun n => .int (n : Nat)
  | _ => none
def mIdx (ds : List D) (y : D) : Option D := match y with
  | .int k => (idxI k ds 0).map fun n => .int (n : Nat)
  | _ => none
/-- a list's method of one argument, by data -/
def MtD (G : Gm) (rr : V → List V → Hp → VK → Prop) (m : List D → D → Option D) : Prop := ∀ (ds : List D) (y d : D) (F H : Hp) (p : Addr) (xs : List V) (w : V) (Q : VK), m ds y = some d → Sub F H → F p = some (.lst xs) → RpL G F xs ds → Rp G F w y → (∀ F' H' z, Ext F H F' H' → Rp G F' z d → Q z H') → rr (.ref p) [w] H Q
theorem eMt_of {rr : V → List V → Hp → VK → Prop} {m : List D → D → Option D} (hK : X.K = G.K) (hd : MtD G rr m) (ha : PE X o (TEo G W f)) (σ : L2.St) (H : Hp) (Q : VK) : TEo G W (eMt m f g) σ H Q → tBM X.K "list" rr (TEo G W f) (TAo G W (aCons g aNil)) σ H Q := fun ⟨F, r0, e, p⟩ =>
  ⟨F, r0, e, (Pt.bind (rel1 := rV G) p).mono fun v H1 ⟨x, F1, r1, _, e1, q1, p1⟩ => by
    cases q1 with
    | @lst pb xs ds hb hw =>
      refine ⟨.inl ⟨rfl, _, by rw [hK]; exact SqL.of (e1.sub _ _ hb)⟩, F1, r1, e1, Pt.one (Pt.mono (Pt.bind (rel1 := rV G) p1) fun w H2 ⟨y, F2, r2, s2, e2, q2, p2⟩ => ?_)⟩
      obtain ⟨d, hd', k⟩ := liftO_here e2 p2
      exact hd ds y d F2 H2 pb xs w Q hd' e2.sub (s2 _ _ hb) (hw.mono s2) q2 k
    | _ => exact p1.elim⟩
theorem md_cnt : MtD G (rCntI G.K) mCnt := fun ds y d F H p xs w Q h hs h1 h2 h3 k => by
  unfold mCnt at h
  split at h
  · rename_i i
    cases hn : cntI i ds with
    | none => rw [hn] at h; cases h
    | some n =>
      rw [hn] at h
      cases h
      obtain ⟨ns, e1, e2⟩ := cntI_is hn
      subst e1
      rw [rp_ints h2] at h1
      rw [rp_int h3]
      exact ⟨p, ns, i, rfl, rfl, SqL.of (hs _ _ h1), by rw [e2] at k; exact k _ _ _ (Ext.refl _ _) (.int _)⟩
  · cases h
theorem md_idx : MtD G (rIndex G.K) mIdx := fun ds y d F H p xs w Q h hs h1 h2 h3 k => by
  unfold mIdx at h
  split at h
  · rename_i i
    cases hn : idxI i ds 0 with
    | none => rw [hn] at h; cases h
    | some j =>
      rw [hn] at h
      cases h
      obtain ⟨ns, e1, _, e3, e4⟩ := idxI_is hn
      subst e1
      rw [rp_ints h2] at h1
      rw [rp_int h3]
      have fl : (ns.map V.int).all flatV = true := by
        clear h1 h2 e3 e4 hn
        induction ns with
        | nil => rfl
        | cons x r ih => exact ih
      refine ⟨p, ns.map V.int, .int i, j, .int i, rfl, rfl, SqL.of (hs _ _ h1), rfl, fl, ?_, ?_, fun m z hm hz => ?_, k _ _ _ (Ext.refl _ _) (.int _)⟩
      · rw [List.getElem?_map, show ns[j]? = some i from e3]; rfl
      · simp [eqV]
      · rw [List.getElem?_map] at hz
        cases hq : ns[m]? with
        | none => rw [hq] at hz; cases hz
        | some u =>
          rw [hq] at hz
          cases hz
          have := e4 m (by omega) u hq
          simpa [eqV] using this
  · cases h
theorem de_mt {name : Str} {id : String} {rr : V → List V → Hp → VK → Prop} {m : List D → D → Option D} {apos cpos : Pos} (hK : X.K = G.K) (hm : MtR X id rr) (hd : MtD G rr m) (slot : Slot "list" name id) (hty : typeOf (.builtin id) = pure (.type "method_descriptor")) (ho : PE X o (TEo G W f)) (ha : PE X a (TEo G W g))
    (hbase : attributeBase o name X.env (eval o X.env) = eval o X.env := by rfl)
    (hfew : ((backTo cpos (starEach [a] X.env)).all (fun x => !x.1) && (backToKw cpos (keywordEach [] X.env)).all (fun x => x.1.isSome)
      && decide ([a].length + ([] : List Keyword).length + (if ([] : List Keyword).isEmpty then 0 else 1) < 30)) = true := by rfl)
    (hline : (apos.endLine == cpos.line) = true := by rfl) (hs : starEach [a] X.env = (false, eval a X.env) :: starEach [] X.env := by rfl) (hplain : (backTo cpos (starEach [] X.env)).any (·.1) = false := by rfl) :
    PE X (.Call (.Attribute o name apos) [a] [] cpos) (TEo G W (eMt m f g)) :=
  pe_of (pe_bm PySem.F.plainAttrs_list slot hty hm ho (da_cons ha da_nil hs) hbase hfew hline hs hplain) (eMt_of hK hd ho)
theorem de_cnt {apos cpos : Pos} (hK : X.K = G.K) (ho : PE X o (TEo G W f)) (ha : PE X a (TEo G W g))
    (hbase : attributeBase o "count" X.env (eval o X.env) = eval o X.env := by rfl)
    (hfew : ((backTo cpos (starEach [a] X.env)).all (fun x => !x.1) && (backToKw cpos (keywordEach [] X.env)).all (fun x => x.1.isSome)
      && decide ([a].length + ([] : List Keyword).length + (if ([] : List Keyword).isEmpty then 0 else 1) < 30)) = true := by rfl)
    (hline : (apos.endLine == cpos.line) = true := by rfl) (hs : starEach [a] X.env = (false, eval a X.env) :: starEach [] X.env := by rfl) (hplain : (backTo cpos (starEach [] X.env)).any (·.1) = false := by rfl) :
    PE X (.Call (.Attribute o "count" apos) [a] [] cpos) (TEo G W (eMt mCnt f g)) := de_mt hK (by rw [← hK]; exact mt_lcount) md_cnt PySem.F.slot_list_count PySem.F.type_list_count ho ha hbase hfew hline hs hplain
theorem de_idx {apos cpos : Pos} (hK : X.K = G.K) (ho : PE X o (TEo G W f)) (ha : PE X a (TEo G W g))
    (hbase : attributeBase o "index" X.env (eval o X.env) = eval o X.env := by rfl)
    (hfew : ((backTo cpos (starEach [a] X.env)).all (fun x => !x.1) && (backToKw cpos (keywordEach [] X.env)).all (fun x => x.1.isSome)
      && decide ([a].length + ([] : List Keyword).length + (if ([] : List Keyword).isEmpty then 0 else 1) < 30)) = true := by rfl)
    (hline : (apos.endLine == cpos.line) = true := by rfl) (hs : starEach [a] X.env = (false, eval a X.env) :: starEach [] X.env := by rfl) (hplain : (backTo cpos (starEach [] X.env)).any (·.1) = false := by rfl) :
    PE X (.Call (.Attribute o "index" apos) [a] [] cpos) (TEo G W (eMt mIdx f g)) := de_mt hK (by rw [← hK]; exact mt_index) md_idx PySem.F.slot_list_index PySem.F.type_list_index ho ha hbase hfew hline hs hplain
end
end DL
set_option exponentiation.threshold 3000
set_option maxHeartbeats 400000
/-! DLbb: tuples of ints, sorted ints: plain words. -/
namespace DL
open PySem L2
abbrev tI (ns : List Int) : D := .tuple (ns.map .int)
theorem lay_ints : ∀ ns : List Int, PyData.canLayAll0 (ns.map PyData.int) = true ∧ PyData.depthAll (ns.map PyData.int) = 0
  | [] => by simp [PyData.canLayAll0, PyData.depthAll]
  | n :: ns => by
    obtain ⟨a, b⟩ := lay_ints ns
    simp [PyData.canLayAll0, PyData.canLay0, PyData.depthAll, PyData.depth, a, b]
theorem shaped_tI (ns : List Int) : SeqAt.shaped (tI ns) = true := by
  obtain ⟨a, b⟩ := lay_ints ns
  simp [SeqAt.shaped, PyData.canLay0, PyData.depth, a, b]
theorem shaped_lI (ns : List Int) : SeqAt.shaped (.list (ns.map .int)) = true := by
  obtain ⟨a, b⟩ := lay_ints ns
  simp [SeqAt.shaped, PyData.canLay0, PyData.depth, a, b]
theorem eqv_ints : ∀ a b : List Int, PyData.eqvAll (a.map PyData.int) (b.map PyData.int) = decide (a = b)
  | [], [] => by simp [PyData.eqvAll]
  | [], _ :: _ => by simp [PyData.eqvAll]
  | _ :: _, [] => by simp [PyData.eqvAll]
  | x :: xs, y :: ys => by
    have ih := eqv_ints xs ys
    simp only [List.map_cons, PyData.eqvAll, PyData.eqv, ih]
    by_cases h : x = y
    · subst h; simp
    · simp [h]
theorem eqv_tI (a b : List Int) : PyData.eqv (tI a) (tI b) = decide (a = b) := by
  show PyData.eqv (.tuple (a.map .int)) (.tuple (b.map .int)) = _
  rw [PyData.eqv, eqv_ints]
theorem oEq_tI (a b : List Int) : oEq (tI a) (tI b) = some (.bool (decide (a = b))) := by
  refine oEq_of ?_
  show (if _ then _ else _) = _
  rw [if_pos (by rw [shaped_tI, shaped_tI]; rfl), eqv_tI]
theorem oNe_of {x y : D} {b : Bool} (h : oEqB x y = some b) : oNe x y = some (.bool (!b)) := by
  unfold oNe
  rw [h]
  rfl
theorem oNe_tI (a b : List Int) : oNe (tI a) (tI b) = some (.bool (!decide (a = b))) := by
  refine oNe_of ?_
  show (if _ then _ else _) = _
  rw [if_pos (by rw [shaped_tI, shaped_tI]; rfl), eqv_tI]
theorem oEq_lI (a b : List Int) : oEq (.list (a.map .int)) (.list (b.map .int)) = some (.bool (decide (a = b))) := by
  refine oEq_of ?_
  show (if _ then _ else _) = _
  rw [if_pos (by rw [shaped_lI, shaped_lI]; rfl), PyData.eqv, eqv_ints]
theorem oNe_lI (a b : List Int) : oNe (.list (a.map .int)) (.list (b.map .int)) = some (.bool (!decide (a = b))) := by
  refine oNe_of ?_
  show (if _ then _ else _) = _
  rw [if_pos (by rw [shaped_lI, shaped_lI]; rfl), PyData.eqv, eqv_ints]
theorem lay_tIs : ∀ ls : List (List Int), PyData.canLayAll0 (ls.map tI) = true ∧ PyData.depthAll (ls.map tI) ≤ 1
  | [] => by simp [PyData.canLayAll0, PyData.depthAll]
  | l :: ls => by
    obtain ⟨a, b⟩ := lay_tIs ls
    obtain ⟨c, d⟩ := lay_ints l
    refine ⟨by simp [PyData.canLayAll0, PyData.canLay0, a, c], ?_⟩
    simp only [List.map_cons, PyData.depthAll, PyData.depth, d]
    omega
theorem shaped_tIs (ls : List (List Int)) : SeqAt.shaped (.tuple (ls.map tI)) = true := by
  obtain ⟨a, b⟩ := lay_tIs ls
  unfold SeqAt.shaped
  rw [Bool.and_eq_true]
  refine ⟨by simp only [PyData.canLay0, a], decide_eq_true ?_⟩
  rw [PyData.depth]
  omega
theorem shaped_lIs (ls : List (List Int)) : SeqAt.shaped (.list (ls.map tI)) = true := by
  obtain ⟨a, b⟩ := lay_tIs ls
  unfold SeqAt.shaped
  rw [Bool.and_eq_true]
  refine ⟨by simp only [PyData.canLay0, a], decide_eq_true ?_⟩
  rw [PyData.depth]
  omega
theorem eqv_tIs : ∀ a b : List (List Int), PyData.eqvAll (a.map tI) (b.map tI) = decide (a = b)
  | [], [] => by simp [PyData.eqvAll]
  | [], _ :: _ => by simp [PyData.eqvAll]
  | _ :: _, [] => by simp [PyData.eqvAll]
  | x :: xs, y :: ys => by
    have ih := eqv_tIs xs ys
    have e := eqv_tI x y
    simp only [List.map_cons, PyData.eqvAll, ih]
    rw [e]
    by_cases h : x = y
    · subst h; simp
    · simp [h]
theorem oNe_tIs (a b : List (List Int)) : oNe (.tuple (a.map tI)) (.tuple (b.map tI)) = some (.bool (!decide (a = b))) := by
  refine oNe_of ?_
  show (if _ then _ else _) = _
  rw [if_pos (by rw [shaped_tIs, shaped_tIs]; rfl), PyData.eqv, eqv_tIs]
theorem oEq_tIs (a b : List (List Int)) : oEq (.tuple (a.map tI)) (.tuple (b.map tI)) = some (.bool (decide (a = b))) := by
  refine oEq_of ?_
  show (if _ then _ else _) = _
  rw [if_pos (by rw [shaped_tIs, shaped_tIs]; rfl), PyData.eqv, eqv_tIs]
theorem oEq_lIs (a b : List (List Int)) : oEq (.list (a.map tI)) (.list (b.map tI)) = some (.bool (decide (a = b))) := by
  refine oEq_of ?_
  show (if _ then _ else _) = _
  rw [if_pos (by rw [shaped_lIs, shaped_lIs]; rfl), PyData.eqv, eqv_tIs]
/-! ### repr of tuples of ints -/
theorem repFs_ints (n : Nat) : ∀ ns : List Int, (∀ x ∈ ns, x.natAbs < 2 ^ 200) → repFs n (ns.map PyData.int) = true
  | [], _ => by simp [repFs]
  | x :: xs, h => by
    have hx := h x List.mem_cons_self
    have e : repF n (PyData.int x) = true := by cases n <;> simpa [repF] using Nat.lt_trans hx (show 2 ^ 200 < 2 ^ 900 by decide)
    simp only [List.map_cons, repFs, e, repFs_ints n xs fun y hy => h y (List.mem_cons_of_mem _ hy), Bool.and_self]
theorem bulk_ints : ∀ ns : List Int, PyData.bulkAll (ns.map PyData.int) ≤ 4 * ns.length
  | [] => by simp [PyData.bulkAll]
  | x :: xs => by
    have := bulk_ints xs
    simp only [List.map_cons, PyData.bulkAll, PyData.bulk, List.length_cons]
    omega
theorem repOk_tI {ns : List Int} (h : ∀ x ∈ ns, x.natAbs < 2 ^ 200) (hl : ns.length ≤ 900) : repOk (tI ns) = true := by
  unfold repOk
  have b := bulk_ints ns
  have e : repF 9 (tI ns) = true := by
    show repF (8 + 1) (.tuple (ns.map .int)) = true
    simp only [repF, repFs_ints 8 ns h]
  rw [e, Bool.true_and]
  refine decide_eq_true ?_
  simp only [PyData.bulk]
  omega
theorem repOk_i {x : Int} (h : x.natAbs < 2 ^ 200) : repOk (.int x) = true := by
  unfold repOk
  have e : repF 9 (.int x) = true := by simpa [repF] using Nat.lt_trans h (show 2 ^ 200 < 2 ^ 900 by decide)
  rw [e, Bool.true_and]
  refine decide_eq_true ?_
  simp only [PyData.bulk]
  omega
theorem samFs_ints : ∀ ns : List Int, samFs (ns.map PyData.int) (ns.map PyData.int) = true
  | [] => by simp [samFs]
  | x :: xs => by
    simp only [List.map_cons, samFs, samF, samFs_ints xs, Bool.and_true, decide_true]
theorem eRep2_of {bb : Bool} {f g : En → R D} {r r1 r2 : En} {x : D} (hf : f r = .ok x r1) (hx : repOk x = true) (hg : g r1 = .ok x r2) (hs : samF x x = true) : eRep2 bb f g r = .ok (.bool bb) r2 := by
  unfold eRep2
  rw [hf]
  simp only [R.bind]
  rw [if_pos hx, hg]
  simp only []
  rw [if_pos hs]
theorem samF_tI (ns : List Int) : samF (tI ns) (tI ns) = true := by
  show samF (.tuple (ns.map .int)) (.tuple (ns.map .int)) = true
  simp only [samF, samFs_ints]
/-! ### sorted ints -/
def insI (x : Int) : List Int → List Int
  | [] => [x]
  | y :: ys => if x ≤ y then x :: y :: ys else y :: insI x ys
def isrt : List Int → List Int
  | [] => []
  | x :: xs => insI x (isrt xs)
theorem insI_perm (x : Int) : ∀ ys : List Int, (insI x ys).Perm (x :: ys)
  | [] => List.Perm.refl _
  | y :: ys => by
    unfold insI
    split
    · exact List.Perm.refl _
    · exact ((insI_perm x ys).cons y).trans (List.Perm.swap x y ys)
theorem isrt_perm : ∀ xs : List Int, (isrt xs).Perm xs
  | [] => List.Perm.refl _
  | x :: xs => (insI_perm x (isrt xs)).trans ((isrt_perm xs).cons x)
theorem insI_srt (x : Int) : ∀ ys : List Int, ys.Pairwise (fun a b => a ≤ b) → (insI x ys).Pairwise fun a b => a ≤ b
  | [], _ => List.pairwise_singleton _ _
  | y :: ys, h => by
    unfold insI
    obtain ⟨h1, h2⟩ := List.pairwise_cons.mp h
    split
    · rename_i hx
      refine List.pairwise_cons.mpr ⟨fun z hz => ?_, h⟩
      rcases List.mem_cons.mp hz with e | hz
      · subst e; exact hx
      · exact Int.le_trans hx (h1 z hz)
    · rename_i hx
      refine List.pairwise_cons.mpr ⟨fun z hz => ?_, insI_srt x ys h2⟩
      rcases List.mem_cons.mp ((insI_perm x ys).mem_iff.mp hz) with e | hz
      · subst e; omega
      · exact h1 z hz
theorem isrt_srt : ∀ xs : List Int, (isrt xs).Pairwise fun a b => a ≤ b
  | [] => List.Pairwise.nil
  | x :: xs => insI_srt x _ (isrt_srt xs)
theorem srt_uniq : ∀ {xs ys : List Int}, xs.Perm ys → xs.Pairwise (fun a b => a ≤ b) → ys.Pairwise (fun a b => a ≤ b) → xs = ys
  | [], ys, h, _, _ => (List.perm_nil.mp h.symm).symm
  | x :: xs, [], h, _, _ => by have := h.length_eq; simp at this
  | x :: xs, y :: ys, h, hx, hy => by
    obtain ⟨x1, x2⟩ := List.pairwise_cons.mp hx
    obtain ⟨y1, y2⟩ := List.pairwise_cons.mp hy
    have e : x = y := by
      have a : x ≤ y := by
        rcases List.mem_cons.mp (h.mem_iff.mpr List.mem_cons_self : y ∈ x :: xs) with e | m
        · omega
        · exact x1 y m
      have b : y ≤ x := by
        rcases List.mem_cons.mp (h.mem_iff.mp List.mem_cons_self : x ∈ y :: ys) with e | m
        · omega
        · exact y1 x m
      omega
    subst e
    rw [srt_uniq ((List.perm_cons x).mp h) x2 y2]
theorem isrt_of {xs : List Int} (h : xs.Pairwise (fun a b => a ≤ b)) : isrt xs = xs := srt_uniq (isrt_perm xs) (isrt_srt xs) h
theorem isrt_eq {xs ys : List Int} (h : xs.Perm ys) : isrt xs = isrt ys := srt_uniq ((isrt_perm xs).trans (h.trans (isrt_perm ys).symm)) (isrt_srt xs) (isrt_srt ys)
theorem srt_ints (ps : List Int) : ∃ qs : List Int, srtD (ps.map .int) = qs.map .int ∧ qs.Perm ps ∧ qs.Pairwise (fun a b => a ≤ b) := by
  have pm := srtD_perm (ps.map PyData.int)
  have ai : ∀ d ∈ ps.map PyData.int, isI d = true := fun d hd => by
    obtain ⟨i, _, rfl⟩ := List.mem_map.mp hd
    rfl
  have al : (srtD (ps.map PyData.int)).all isI = true := List.all_eq_true.mpr fun d hd => ai d (pm.mem_iff.mp hd)
  obtain ⟨qs, e⟩ := allI_is al
  have kd : ∀ a b, a ∈ ps.map PyData.int → b ∈ ps.map PyData.int → Kd a b := fun a b ha hb => by
    obtain ⟨i, rfl⟩ := isI_is (ai a ha)
    obtain ⟨j, rfl⟩ := isI_is (ai b hb)
    exact .i i j
  have sr : (srtD (ps.map PyData.int)).Pairwise (fun a b => leD a b = true) := ms_srt (le := leD) (p := fun z => z ∈ ps.map PyData.int) (fun a b c ha hb hc => le_tr (kd a b ha hb) (kd b c hb hc)) (fun a b ha hb => le_to (kd a b ha hb)) _ _ (Nat.le_refl _) fun z hz => hz
  refine ⟨qs, e, ?_, ?_⟩
  · rw [e] at pm
    have := pm.map (fun d : D => match d with | .int i => i | _ => (0 : Int))
    rwa [List.map_map, List.map_map, show ((fun d : D => match d with | .int i => i | _ => (0 : Int)) ∘ PyData.int) = id from rfl, List.map_id, List.map_id] at this
  · rw [e, List.pairwise_map] at sr
    refine sr.imp fun {a b} h => ?_
    have h : (!decide (b < a)) = true := h
    simp at h
    exact h
theorem nSrt_I (ps : List Int) : nSrt [.list (ps.map .int)] = some ((isrt ps).map .int) := by
  have ok : okK (ps.map PyData.int) = true := by
    unfold okK
    rw [Bool.or_eq_true]
    left
    simp [isI]
  obtain ⟨qs, e, p, s⟩ := srt_ints ps
  show (if okK (ps.map PyData.int) = true then _ else _) = _
  rw [if_pos ok, e, srt_uniq (p.trans (isrt_perm ps).symm) s (isrt_srt ps)]
theorem xSrt_of {fs : En → R (List D)} {r r1 : En} {ps : List Int} (h : fs r = .ok [.list (ps.map .int)] r1) : xCB nSrt fs r = .ok (.ow ((isrt ps).map .int)) r1 := by
  unfold xCB
  rw [h]
  simp only [R.bind, nSrt_I]
/-- a map of its own name, for the kernel: it is not told from the other side's by its parts -/
def mapA {α β : Type} (f : α → β) : List α → List β
  | [] => []
  | x :: xs => f x :: mapA f xs
theorem mapA_in {α β : Type} {f g : α → β} : ∀ {xs : List α}, mapA f xs = xs.map g → ∀ x ∈ xs, f x = g x
  | [], _, _, hx => absurd hx (by simp)
  | y :: ys, h, x, hx => by
    rw [mapA, List.map_cons] at h
    obtain ⟨h1, h2⟩ := List.cons.inj h
    rcases List.mem_cons.mp hx with e | hx
    · rw [e]; exact h1
    · exact mapA_in h2 x hx
theorem filt_all {α : Type} (l : List α) : l.filter (fun _ => true) = l := by simp
end DL
set_option maxHeartbeats 400000
/-! DLcc: {} as a value -/
namespace DL
open PySem PySem.Calls PyProof.Rows L2
variable {X : Cx} {G : Gm} {W : WX} {pos : Pos}
def eDic : En → R D := fun r => .ok (.dict []) r
theorem de_dic : PE X (.Dict [] [] pos) (TEo G W eDic) :=
  pe_of pe_dnewK fun σ H Q ⟨F, r0, e, p⟩ => fun q hq =>
    Pt.here p e (Ext.new e.sub hq (by intro ps z; cases z)) (RpI.dct (kvs := []) (ds := []) upd_same RpLI.nil)
end DL
set_option maxHeartbeats 400000
/-! DLdd: sorted of a tuple of ints -/
namespace DL
open PySem PySem.Calls PyProof.Rows L2
variable {X : Cx} {G : Gm} {W : WX} {pos : Pos} {F H : Hp}
def rSrtT (K : PySem.W.Frag) : List V → Hp → VK → Prop := fun vs H Q => ∃ (a : Addr) (ns : List Int), vs = [V.ref a] ∧ SqT K H a (ns.map V.int) ∧
  ∀ (ns' : List Int) (p : Addr), ns'.Perm ns → ns'.Pairwise (· ≤ ·) → H p = none → Q (.ref p) (upd H p (.lst (ns'.map V.int)))
theorem cr_srtT : CallR X (.builtin "sorted") (rSrtT X.K) := by
  intro pins s σ H vs us Q I rr h
  obtain ⟨a, ns, rfl, hs, q⟩ := h
  obtain ⟨its, rv, tp, hz⟩ := I.tuple hs
  rw [Vals.ref1 rr]
  have hi := rv.ints
  have hz' : its.length ≤ sizeLine := by rw [← rv.length]; exact hz
  obtain ⟨o, ho, hc, n, hd⟩ := tp
  refine Calls.call_function_entry PyProof.Rows.kind_sorted PyProof.Rows.plain_sorted PyProof.Rows.entry_sorted (PyProof.Rows.args_sorted1 _) ?_
  unfold Builtin.«sorted»
  refine wpAny_bind (m := checkCount "sorted" 1 1 _) (wpAny_pure ?_)
  refine wpAny_bind (wpAny_collect_seq a (T := "tuple") (.inr rfl) ho hc hd (fun h' hk => ?_) (by simpa using hz'))
  have I1 : Inv X pins σ H { s with heap := h' } := I.kept (t' := s.toks) hk
  refine wpAny_bind (wpAny_newList ?_ (by simpa using hz'))
  have hoL : (h'.push (seqObj "list" its.toArray.toList.toArray 0)).get? h'.objs.size = some (seqObj "list" its.toArray.toList.toArray 0) := Heap.get?_push_size _ rfl
  rw [List.toList_toArray] at hoL ⊢
  refine wpAny_bind (wpAny_holding (wpAny_call_entry PyProof.Rows.slot_list_sort ⟨_, hoL, rfl⟩ PyProof.Rows.entry_list_sort
    (SrtO.list_sort_ord SrtO.swo_int (s := { s with heap := h'.push (seqObj "list" its.toArray 0) }) hoL hz' (fun h2 => SrtO.ints_sortable hi h2) fun out h1 h2 => ⟨_, rfl, ?_⟩) (PyProof.Rows.args_list_sort _)))
  obtain ⟨k1, k2, k3⟩ := SrtO.ints_out hi h1 h2
  obtain ⟨ep, he'⟩ := PyProof.Rows.sortedHeap_at (vs := its) (out := out.toArray) hoL
  have hlen : ((out.map SrtO.iv).map V.int).length ≤ sizeLine := by
    rw [List.length_map, k2.length_eq]
    rw [List.length_map] at hz
    exact hz
  refine wpAny_pure ⟨_, rfl, .ref h'.objs.size, upd H h'.objs.size (.lst ((out.map SrtO.iv).map V.int)), I1.laid (t' := s.toks) (fun b u e => ?_) (Nat.le_refl _)
    (show ObjOk X.prog X.w _ _ _ (.lst ((out.map SrtO.iv).map V.int)) from ⟨hlen, out, ep, vals_of_ints k1, he'⟩), rfl, q _ _ k2 k3 (I1.hok.fresh (Nat.le_refl _))⟩
  have hb : b < h'.objs.size := Heap.lt_size e
  rw [PyProof.Rows.sortedHeap_old (Nat.ne_of_lt hb) (by rw [size_push']; exact Nat.lt_succ_of_lt hb)]
  exact Heap.get?_push_of_some _ e
theorem rpl_ints {G : Gm} {F : Hp} : ∀ ns : List Int, RpL G F (ns.map V.int) (ns.map PyData.int)
  | [] => .nil
  | n :: ns => .cons (.int n) (rpl_ints ns)
def nSrtA : List D → Option (List D)
  | [.tuple ds] => if ds.all isI = true then some (srtD ds) else none
  | x => nSrt x
def rSrtA (K : PySem.W.Frag) : List V → Hp → VK → Prop := fun vs H Q => rSrt K vs H Q ∨ rSrtT K vs H Q
theorem cr_srtA (hu : X.A.units + 64 < cLine) : CallR X (.builtin "sorted") (rSrtA X.K) := (cr_srt hu).or cr_srtT
theorem cn_srtA : CallN G (rSrtA G.K) nSrtA := fun x ds F H v Q h hs q k => by
  unfold nSrtA at h
  split at h
  · split at h
    · rename_i es hok
      cases h
      obtain ⟨v, rfl, qa⟩ := one_of q
      obtain ⟨a, xs, rfl, h1, h2⟩ := rp_tup qa
      obtain ⟨ns, rfl⟩ := allI_is hok
      rw [rp_ints h2] at h1
      refine .inr ⟨a, ns, rfl, hs.t h1, fun ns' p pm sr hp => ?_⟩
      obtain ⟨qs, e, p2, s2⟩ := srt_ints ns
      rw [e, srt_uniq (p2.trans pm.symm) s2 sr] at k
      exact k _ (rpl_ints ns') p hp
    · cases h
  · exact .inl (cn_srt x ds F H v Q h hs q k)
theorem nSrtA_T (ps : List Int) : nSrtA [.tuple (ps.map .int)] = some ((isrt ps).map .int) := by
  obtain ⟨qs, e, p, s⟩ := srt_ints ps
  have ok : (ps.map PyData.int).all isI = true := by simp [isI]
  show (if (ps.map PyData.int).all isI = true then _ else _) = _
  rw [if_pos ok, e, srt_uniq (p.trans (isrt_perm ps).symm) s (isrt_srt ps)]
end DL
set_option maxHeartbeats 400000
/-! DLee: str of an integer; a bool less a bool -/
namespace DL
open PySem PySem.Calls PyProof.Rows L2
section
variable {X : Cx} {G : Gm}
def rSubB : R2 := fun x y H Q => ∃ p q, x = .bl p ∧ y = .bl q ∧ Q (.int ((if p = true then (1 : Int) else 0) - if q = true then (1 : Int) else 0)) H
theorem op_subB : OpR X (binaryOp .Sub) rSubB := by
  intro pins s σ H x y v u Q I rx ry h
  obtain ⟨p, q, rfl, rfl, k⟩ := h
  cases rx
  cases ry
  exact sub_bool ⟨.int _, H, I.tok _, ⟨_, rfl⟩, k⟩
theorem op_subA : OpR X (binaryOp .Sub) (fun x y H Q => rI0 (fun i j => .int (i - j)) x y H Q ∨ rSubB x y H Q) := op_sub.or op_subB
def oSubA : D → D → Option D
  | .int i, .int j => some (.int (i - j))
  | .bool p, .bool q => some (.int ((if p = true then (1 : Int) else 0) - if q = true then (1 : Int) else 0))
  | _, _ => none
theorem od_subA : OpD G (fun x y H Q => rI0 (fun i j => .int (i - j)) x y H Q ∨ rSubB x y H Q) oSubA := fun x y d F H v w Q h hs q1 q2 k => by
  unfold oSubA at h
  split at h
  · cases h
    rw [rp_int q1, rp_int q2]
    exact .inl ⟨_, _, rfl, rfl, k _ _ _ (Ext.refl _ _) (.int _)⟩
  · cases h
    rw [rp_bl q1, rp_bl q2]
    exact .inr ⟨_, _, rfl, rfl, k _ _ _ (Ext.refl _ _) (.int _)⟩
  · cases h
def cStr : List D → Option D
  | [.int i] => if i.natAbs.log2 < 1920 then some (.str (toString i)) else none
  | _ => none
theorem cd_str : CallD G (fun xs H Q => ∃ i : Int, xs = [.int i] ∧ i.natAbs.log2 < 1920 ∧ Q (.str (toString i)) H) cStr := fun x d F H v Q h hs q k => by
  unfold cStr at h
  split at h
  · split at h
    · rename_i hz
      cases h
      obtain ⟨v, rfl, qa⟩ := one_of q
      rw [rp_int qa]
      exact ⟨_, rfl, hz, k _ _ _ (Ext.refl _ _) (.str _)⟩
    · cases h
  · cases h
end
end DL
set_option maxHeartbeats 400000
/-! DLff: list(range(a, b)) -/
namespace DL
open PySem PySem.Calls PyProof.Rows L2
section
variable {X : Cx} {G : Gm} {W : WX} {F H : Hp} {σ : L2.St} {a b : Expr} {f g : En → R D} {pos : Pos}
def xLR2 (f g : En → R D) : En → R Sl := fun r => (f r).bind fun x r1 => (g r1).bind fun y r2 => match x, y with
  | .int i, .int j => if (inR i && inR j && decide ((j - i).toNat ≤ 1000000)) = true then .ok (.ow (rngD 1 i (j - i).toNat)) r2 else .st
  | _, _ => .st
theorem rpl_rg (F : Hp) : ∀ (n : Nat) (i : Int) (h : Nat → V), (∀ k, h k = V.int (i + (k : Nat))) → RpL G F ((List.range n).map h) (rngD 1 i n)
  | 0, _, _, _ => .nil
  | n + 1, i, h, e => by
    rw [List.range_succ_eq_map, List.map_cons, List.map_map, e 0]
    unfold rngD
    refine .cons ?_ (rpl_rg F n (i + 1) _ fun k => ?_)
    · rw [show i + ((0 : Nat) : Int) = i by omega]
      exact .int i
    · show h (k + 1) = _
      rw [e]
      congr 1
      omega
theorem dx_lstRg2 {p p2 pos2 : Pos} (hc : X.calm = true) (hm2 : X.mg "list" = none) (hm : X.mg "range" = none) (ha : PE X a (TEo G W f)) (hb : PE X b (TEo G W g)) (hg : Gl X "range" := by rfl) (hg2 : Gl X "list" := by rfl)
    (na : starEach [a, b] X.env = (false, eval a X.env) :: starEach [b] X.env := by rfl) (nb : starEach [b] X.env = (false, eval b X.env) :: starEach [] X.env := by rfl) (hp : (backTo pos2 (starEach [b] X.env)).any (·.1) = false := by rfl)
    (nc : starEach [.Call (.Name "range" p2) [a, b] [] pos2] X.env = (false, eval (.Call (.Name "range" p2) [a, b] [] pos2) X.env) :: starEach [] X.env := by rfl) :
    PE X (.Call (.Name "list" p) [.Call (.Name "range" p2) [a, b] [] pos2] [] pos) (TXo G W (xLR2 f g)) :=
  pe_of (pe_listRg hc hg2 hm2 (prg_2 hg hm ha hb na nb hp) nc) fun σ H Q ⟨F, r0, e, p⟩ => by
    have p : TXp G W (xLR2 f g r0) F H σ r0 Q := p
    refine ⟨F, r0, e, (TXp.bind (rel := rV G) p).mono fun v H1 ⟨x, F1, r1, _, e1, q1, p1⟩ => ⟨F1, r1, e1, (TXp.bind (rel := rV G) p1).mono fun w H2 ⟨y, F2, r2, s2, e2, q2, p2⟩ => ?_⟩⟩
    cases q1 with
    | int i =>
      cases q2 with
      | int j =>
        simp only at p2
        split at p2
        · rename_i hz
          rw [Bool.and_eq_true, Bool.and_eq_true, decide_eq_true_eq] at hz
          have a1 := inR_of hz.1.1
          have a2 := inR_of hz.1.2
          refine ⟨i, j, rfl, rfl, ⟨a1.1, a1.2, a2.1, a2.2, Nat.le_trans hz.2 (by decide)⟩, fun q hq => p2.new e2 (rgV i j) ?_ q hq⟩
          exact rpl_rg _ _ i _ fun k => rfl
        · exact p2.elim
      | _ => exact p2.elim
    | _ => exact p2.elim
/-- a test that chooses: if (a if c else b) -/
def tIfT (t ta tb : TT) : TT := fun σ H Q => t σ H fun c H1 => if c = true then ta σ H1 Q else tb σ H1 Q
theorem pt_ifExp {c : Expr} {tA tB tC : TT} (hc : PT X c tA) (ha : PT X a tB) (hb : PT X b tC) : PT X (.IfExp c a b pos) (tIfT tA tB tC) := by
  refine ⟨fun pins s σ H Q I h => ?_⟩
  refine isTrue_IfExp (thn (hc.run pins s σ H _ I h) fun d s1 ⟨H1, I1, q1⟩ => ?_)
  cases d with
  | true => exact ha.run pins s1 σ H1 Q I1 q1
  | false => exact hb.run pins s1 σ H1 Q I1 q1
def tIf1 (c a b : En → R Bool) : En → R Bool := fun r => (c r).bind fun k r1 => if k = true then a r1 else b r1
theorem dt_if {c : Expr} {ft fa fb : En → R Bool} (hc : PT X c (TTo G W ft)) (ha : PT X a (TTo G W fa)) (hb : PT X b (TTo G W fb)) : PT X (.IfExp c a b pos) (TTo G W (tIf1 ft fa fb)) :=
  pt_of (pt_ifExp hc ha hb) fun σ H Q ⟨F, r0, e, p⟩ => ⟨F, r0, e, (Pt.bind (rel1 := rB) p).mono fun k H1 ⟨k', F1, r1, _, e1, q1, p1⟩ => by
    have q1 : k = k' := q1
    subst q1
    cases k with
    | true => exact ⟨F1, r1, e1, p1⟩
    | false => exact ⟨F1, r1, e1, p1⟩⟩
theorem tIf1_t {c a b : En → R Bool} {r r1 r2 : En} {k : Bool} (h : c r = .ok true r1) (h2 : a r1 = .ok k r2) : tIf1 c a b r = .ok k r2 := by
  unfold tIf1
  rw [h]
  exact h2
theorem tIf1_f {c a b : En → R Bool} {r r1 r2 : En} {k : Bool} (h : c r = .ok false r1) (h2 : b r1 = .ok k r2) : tIf1 c a b r = .ok k r2 := by
  unfold tIf1
  rw [h]
  exact h2
end
end DL
set_option maxHeartbeats 1000000
/-! DLgg: sorted(dict([(x, True) for x in items])): the unlike items in order -/
namespace DL
open PySem PySem.Calls PyProof.Rows L2
/-! ### the unlike ones, by their first places -/
def addK {κ : Type} [DecidableEq κ] (acc : List κ) (k : κ) : List κ := if k ∈ acc then acc else acc ++ [k]
def dedK {κ : Type} [DecidableEq κ] (l : List κ) : List κ := l.foldl addK []
theorem dedK_map {κ μ : Type} [DecidableEq κ] [DecidableEq μ] (f : κ → μ) (hf : ∀ a b, f a = f b → a = b) : ∀ (l acc : List κ), (l.map f).foldl addK (acc.map f) = (l.foldl addK acc).map f
  | [], _ => rfl
  | x :: r, acc => by
    rw [List.map_cons, List.foldl_cons, List.foldl_cons, ← dedK_map f hf r]
    congr 1
    unfold addK
    by_cases h : x ∈ acc
    · rw [if_pos h, if_pos (List.mem_map_of_mem h)]
    · rw [if_neg h, if_neg (fun z => by obtain ⟨y, hy, e⟩ := List.mem_map.mp z; rw [hf _ _ e] at hy; exact h hy), List.map_append]
      rfl
theorem mem_addK {κ : Type} [DecidableEq κ] (acc : List κ) (k j : κ) : j ∈ addK acc k ↔ j ∈ acc ∨ j = k := by
  unfold addK
  by_cases h : k ∈ acc
  · rw [if_pos h]
    exact ⟨.inl, fun z => z.elim id fun e => e ▸ h⟩
  · rw [if_neg h, List.mem_append, List.mem_singleton]
theorem mem_foldK {κ : Type} [DecidableEq κ] (j : κ) : ∀ (l acc : List κ), j ∈ l.foldl addK acc ↔ j ∈ acc ∨ j ∈ l
  | [], acc => by simp
  | x :: r, acc => by
    rw [List.foldl_cons, mem_foldK j r, mem_addK, List.mem_cons, or_assoc]
theorem mem_dedK {κ : Type} [DecidableEq κ] (l : List κ) (j : κ) : j ∈ dedK l ↔ j ∈ l := by
  unfold dedK
  rw [mem_foldK]
  simp
theorem nodup_foldK {κ : Type} [DecidableEq κ] : ∀ (l acc : List κ), acc.Nodup → (l.foldl addK acc).Nodup
  | [], acc, h => h
  | x :: r, acc, h => by
    rw [List.foldl_cons]
    refine nodup_foldK r _ ?_
    unfold addK
    by_cases z : x ∈ acc
    · rw [if_pos z]; exact h
    · rw [if_neg z, List.nodup_append]
      exact ⟨h, by simp, fun a ha b hb e => by rw [List.mem_singleton] at hb; rw [e, hb] at ha; exact z ha⟩
theorem nodup_dedK {κ : Type} [DecidableEq κ] (l : List κ) : (dedK l).Nodup := nodup_foldK l [] List.nodup_nil
theorem len_addK {κ : Type} [DecidableEq κ] (acc : List κ) (k : κ) : (addK acc k).length ≤ acc.length + 1 := by unfold addK; split <;> simp
theorem len_foldK {κ : Type} [DecidableEq κ] : ∀ (l acc : List κ), (l.foldl addK acc).length ≤ acc.length + l.length
  | [], acc => by simp
  | x :: r, acc => by
    rw [List.foldl_cons, List.length_cons]
    have a := len_foldK r (addK acc x)
    have b := len_addK acc x
    omega
theorem len_dedK {κ : Type} [DecidableEq κ] (l : List κ) : (dedK l).length ≤ l.length := by
  have := len_foldK l []
  simpa [dedK] using this
theorem keys_stored {κ : Type} [DecidableEq κ] (vs : List (κ × Value)) (k : κ) (u : Value) : (stored vs k u).map (·.1) = addK (vs.map (·.1)) k := by
  unfold stored addK
  have e : (vs.any fun kv => decide (kv.1 = k)) = true ↔ k ∈ vs.map (·.1) := by
    rw [List.any_eq_true, List.mem_map]
    exact ⟨fun ⟨x, h, z⟩ => ⟨x, h, by simpa using z⟩, fun ⟨x, h, z⟩ => ⟨x, h, by simpa using z⟩⟩
  by_cases h : k ∈ vs.map (·.1)
  · rw [if_pos (e.mpr h), if_pos h, List.map_map]
    refine List.map_congr_left fun x _ => ?_
    show (if x.1 = k then (x.1, u) else x).1 = x.1
    split <;> rfl
  · rw [if_neg (fun z => h (e.mp z)), if_neg h, List.map_append]
    rfl
theorem keys_merged {κ : Type} [DecidableEq κ] : ∀ (more vs : List (κ × Value)), (merged vs more).map (·.1) = (more.map (·.1)).foldl addK (vs.map (·.1))
  | [], _ => rfl
  | p :: r, vs => by
    have e : merged vs (p :: r) = merged (stored vs p.1 p.2) r := rfl
    rw [e, keys_merged r, keys_stored]
    rfl
theorem keys_storedH {κ : Type} [DecidableEq κ] (xs : List (κ × Addr × Value)) (k : κ) (a : Addr) (u : Value) : (storedH xs k a u).map (·.1) = addK (xs.map (·.1)) k := by
  unfold storedH addK
  have e : (atKey xs k).isSome = true ↔ k ∈ xs.map (·.1) := by
    unfold atKey
    rw [Option.isSome_map, List.find?_isSome, List.mem_map]
    exact ⟨fun ⟨x, h, z⟩ => ⟨x, h, by simpa using z⟩, fun ⟨x, h, z⟩ => ⟨x, h, by simpa using z⟩⟩
  by_cases h : k ∈ xs.map (·.1)
  · rw [if_pos (e.mpr h), if_pos h, List.map_map]
    refine List.map_congr_left fun x _ => ?_
    show (putAt k u x).1 = x.1
    unfold putAt
    split <;> rfl
  · rw [if_neg (fun z => h (e.mp z)), if_neg h, List.map_append]
    rfl
theorem keys_storedAllH {κ : Type} [DecidableEq κ] : ∀ (ps xs : List (κ × Addr × Value)), (storedAllH xs ps).map (·.1) = (ps.map (·.1)).foldl addK (xs.map (·.1))
  | [], _ => rfl
  | p :: r, xs => by
    have e : storedAllH xs (p :: r) = storedAllH (storedH xs p.1 p.2.1 p.2.2) r := rfl
    rw [e, keys_storedAllH r, keys_storedH]
    rfl
theorem each_all {α β γ : Type} {R : α → β → Prop} (f : γ → α) (g : γ → β) : ∀ xs : List γ, (∀ x ∈ xs, R (f x) (g x)) → PySem.W.EachIs R (xs.map f) (xs.map g)
  | [], _ => .nil
  | x :: r, h => .cons (h x (by simp)) (each_all f g r fun y hy => h y (by simp [hy]))

/-! ### sorted of what is collected -/
section
variable {prog : Program} {w : World} {A : Around} {E : Value → Shared → Prop} {s : Shared}
theorem sorted_col {d : Addr} {Q : Value → Shared → Prop} {C : List Value → Shared → Prop} (hc : ∀ E' : Value → Shared → Prop, wpAny (model prog w) A.in1 (collect (.ref d)) C E' s)
    (hb : ∀ its s1, C its s1 → its.length ≤ sizeLine ∧ ∀ E' : Value → Shared → Prop, wpAny (model prog w) A.in1.in1 (Builtin.«list.sort» ⟨[.ref s1.heap.objs.size], []⟩) (fun f s' => f = .done (.ret .none) ∧ Q (.ref s1.heap.objs.size) s') E' { s1 with heap := s1.heap.push (seqObj "list" its.toArray 0) }) :
    wpAny (model prog w) A (call (.builtin "sorted") [.ref d]) Q E s := by
  refine Calls.call_function_entry PyProof.Rows.kind_sorted PyProof.Rows.plain_sorted PyProof.Rows.entry_sorted (PyProof.Rows.args_sorted1 _) ?_
  unfold Builtin.«sorted»
  refine wpAny_bind (m := checkCount "sorted" 1 1 _) (wpAny_pure ?_)
  refine wpAny_bind (thn (hc _) fun its s1 c => ?_)
  obtain ⟨hL, body⟩ := hb its s1 c
  refine wpAny_bind (wpAny_newList ?_ hL)
  show wpAny _ _ _ _ _ { s1 with heap := s1.heap.push (seqObj "list" its.toArray 0) }
  refine wpAny_bind (wpAny_holding (wpAny_call_entry PyProof.Rows.slot_list_sort ⟨_, Heap.get?_push_size _ rfl, rfl⟩ PyProof.Rows.entry_list_sort ?body (PyProof.Rows.args_list_sort _)))
  case body =>
    show wpAny (model prog w) A.in1.in1 (Builtin.«list.sort» ⟨[.ref s1.heap.objs.size], []⟩) _ _ _
    refine wpAny_mono (body _) (fun f s' hf => ?_) fun _ _ e => e
    obtain ⟨rfl, hq⟩ := hf
    exact ⟨_, rfl, wpAny_pure ⟨_, rfl, hq⟩⟩
theorem okK_sorts {vs : List Value} {ds : List D} (e : PySem.W.EachIs (fun v d => ∃ as, Reads s.heap v d as) vs ds) (ok : okK ds = true) (hu : A.units + 2 < cLine) : PySem.W.SortsAt prog w A s (PySem.W.dataKind s.heap ds) vs := by
  have al : PySem.W.AllAlike ds := fun d hd d' hd' => (okK_kd ok hd hd').alike
  have dep : ∀ d ∈ ds, A.units + d.depth < cLine := fun d hd => by have := (okK_each ok hd).1; omega
  by_cases hE : (∀ d ∈ ds, ∃ x r, d = PyData.tuple (x :: r)) ∨ ∀ d ∈ ds, d ≠ .none ∧ ∀ xs, d ≠ .tuple xs
  · exact PySem.W.SortsAt.data e al hE dep
  · have tup : ∀ d ∈ ds, ∃ xs, d = PyData.tuple xs := by
      rcases okK_is ok with z | z
      · exact absurd (.inr fun d hd => by obtain ⟨i, rfl⟩ := isI_is (z d hd); exact ⟨by simp, by simp⟩) hE
      · exact fun d hd => by obtain ⟨ns, rfl⟩ := isTI_is (z d hd); exact ⟨_, rfl⟩
    have emp : PyData.tuple [] ∈ ds := by
      refine Classical.byContradiction fun no => hE (.inl fun d hd => ?_)
      obtain ⟨xs, rfl⟩ := tup d hd
      cases xs with
      | nil => exact absurd hd no
      | cons x r => exact ⟨x, r, rfl⟩
    exact sorts_emp e al tup emp dep
end
section
variable {X : Cx} {G : Gm} {W : WX} {F H : Hp} {σ : L2.St} {a : Expr} {f : En → R D} {pos : Pos}
theorem sorted_fin {pins : List (Addr × Obj)} {s : Shared} {Q : VK} {d : Addr} {ds : List D} {P : V → D → Prop} (hu : X.A.units + 64 < cLine) (I : Inv X pins σ H s) (ok : okK ds = true) (hz : ds.length ≤ sizeLine)
    (hc : ∀ (C' : List Value → Shared → Prop) (E : Value → Shared → Prop), (∀ its h' tk, (∀ b o, s.heap.get? b = some o → h'.get? b = some o) → PySem.W.EachIs (fun u e => (∃ as, Reads s.heap u e as) ∧ ∃ v, RelV v u ∧ P v e) its ds → C' its { s with heap := h', toks := tk }) →
      wpAny (model X.prog X.w) X.A.in1 (collect (.ref d)) C' E s)
    (q : ∀ ys p, PySem.W.EachIs P ys (srtD ds) → H p = none → Q (.ref p) (upd H p (.lst ys))) : wpAny (model X.prog X.w) X.A (call (.builtin "sorted") [.ref d]) (EP X pins σ Q) X.xe s := by
  refine sorted_col (C := fun its s1 => ∃ h' tk, s1 = { s with heap := h', toks := tk } ∧ (∀ b o, s.heap.get? b = some o → h'.get? b = some o) ∧ PySem.W.EachIs (fun u e => (∃ as, Reads s.heap u e as) ∧ ∃ v, RelV v u ∧ P v e) its ds) (fun E' => hc _ _ fun its h' tk hk e => ⟨h', tk, rfl, hk, e⟩) ?_
  rintro its s1 ⟨h', tk, rfl, hk, e⟩
  have len : its.length = ds.length := e.length
  refine ⟨by rw [len]; exact hz, fun E' => ?_⟩
  have hoL : (h'.push (seqObj "list" its.toArray 0)).get? h'.objs.size = some (seqObj "list" its.toArray 0) := Heap.get?_push_size _ rfl
  have old : ∀ b o, s.heap.get? b = some o → (PySem.W.sortingHeap (h'.push (seqObj "list" its.toArray 0)) h'.objs.size its).get? b = some o := fun b o eb => PySem.W.sortingHeap_old (Nat.ne_of_lt (Heap.lt_size (hk b o eb))) (Heap.get?_push_of_some _ (hk b o eb))
  have er : PySem.W.EachIs (fun u e => ∃ as, Reads (PySem.W.sortingHeap (h'.push (seqObj "list" its.toArray 0)) h'.objs.size its) u e as) its ds := e.mono fun _ _ ⟨⟨as, r⟩, _⟩ => ⟨as, PyProof.Rows.Reads.keeps old r⟩
  have al : PySem.W.AllAlike ds := fun d hd d' hd' => (okK_kd ok hd hd').alike
  have out := PySem.W.sortVals_data (R := fun u d => ∃ v, RelV v u ∧ P v d) (enc := fun d : D => d) false (bs := ds) (e.mono fun _ _ z => z.2) er (by simpa using al)
  rw [srtD_is ok] at out
  simp only [List.map_id'] at out
  refine PySem.W.list_sort_vals (s := { s with heap := h'.push (seqObj "list" its.toArray 0), toks := tk }) (κ := PySem.W.dataKind (PySem.W.sortingHeap (h'.push (seqObj "list" its.toArray 0)) h'.objs.size its) ds) hoL
    (okK_sorts (s := { s with heap := PySem.W.sortingHeap (h'.push (seqObj "list" its.toArray 0)) h'.objs.size its, toks := tk }) er ok (by show X.A.units + 1 + 1 + 2 < cLine; omega)) (by rw [len]; exact hz) ⟨rfl, ?_⟩
  obtain ⟨ys, rv2, e2⟩ := vals_each out
  obtain ⟨ep, hh⟩ := PyProof.Rows.sortedHeap_at (out := (PySem.W.sortVals (PySem.W.dataKind (PySem.W.sortingHeap (h'.push (seqObj "list" its.toArray 0)) h'.objs.size its) ds) false its its).toArray) hoL
  have I1 : Inv X pins σ H { s with heap := h', toks := tk } := I.kept (t' := tk) hk
  have hlen : ys.length ≤ sizeLine := by rw [rv2.length, PySem.W.sortVals_length false rfl, len]; exact hz
  refine ⟨.ref h'.objs.size, upd H h'.objs.size (.lst ys), I1.laid (t' := tk) (fun b u eb => ?_) (Nat.le_refl _) (show ObjOk X.prog X.w _ _ _ (.lst ys) from ⟨hlen, _, ep, rv2, hh⟩), rfl, q ys _ e2 (I1.hok.fresh (Nat.le_refl _))⟩
  have hb : b < h'.objs.size := Heap.lt_size eb
  rw [PyProof.Rows.sortedHeap_old (Nat.ne_of_lt hb) (by rw [size_push']; exact Nat.lt_succ_of_lt hb)]
  exact Heap.get?_push_of_some _ eb

/-! ### dict of pairs (key, True), then sorted -/
def enT (ks : List Int) : D := .tuple (ks.map PyData.int)
theorem okK_ints (ks : List Int) : okK (ks.map PyData.int) = true := by
  unfold okK
  rw [Bool.or_eq_true]
  refine .inl (List.all_eq_true.mpr fun d hd => ?_)
  obtain ⟨i, _, rfl⟩ := List.mem_map.mp hd
  rfl
theorem okK_tups (kss : List (List Int)) : okK (kss.map enT) = true := by
  unfold okK
  rw [Bool.or_eq_true]
  refine .inr (List.all_eq_true.mpr fun d hd => ?_)
  obtain ⟨ks, _, rfl⟩ := List.mem_map.mp hd
  show (ks.map PyData.int).all isI = true
  refine List.all_eq_true.mpr fun d hd => ?_
  obtain ⟨i, _, rfl⟩ := List.mem_map.mp hd
  rfl
/-- what sorted(dict(x)) does: x a list of pairs (int, True), or of pairs (tuple of ints, True) -/
def kSD (K : PySem.W.Frag) (x : V) (H : Hp) (Q : VK) : Prop :=
  (∃ (a : Addr) (ps : List Addr) (ks : List Int), x = .ref a ∧ SqL K H a (ps.map V.ref) ∧ Paired (fun p k => SqT K H p [V.int k, V.bl true]) ps ks ∧
    ∀ ys q, PySem.W.EachIs (fun v e => ∃ i, v = V.int i ∧ e = PyData.int i) ys (srtD ((dedK ks).map PyData.int)) → H q = none → Q (.ref q) (upd H q (.lst ys))) ∨
  ∃ (a : Addr) (ps : List Addr) (zs : List (Addr × List Int)) (P : V → D → Prop), x = .ref a ∧ SqL K H a (ps.map V.ref) ∧ Paired (fun p z => SqT K H p [V.ref z.1, V.bl true]) ps zs ∧ DpAll K H (zs.map fun z => V.ref z.1) (zs.map fun z => enT z.2) ∧
    (∀ z ∈ zs, SqT K H z.1 (z.2.map V.int) ∧ P (.ref z.1) (enT z.2)) ∧
    ∀ ys q, PySem.W.EachIs P ys (srtD ((dedK (zs.map (·.2))).map enT)) → H q = none → Q (.ref q) (upd H q (.lst ys))
theorem pair_kvs {K : PySem.W.Frag} {H : Hp} : ∀ {ps : List Addr} {ks : List Int}, Paired (fun p k => SqT K H p [V.int k, V.bl true]) ps ks → Paired (fun p (kv : Key × V) => SqT K H p [kV kv.1, kv.2]) ps (ks.map fun k => ((Sum.inl k : Key), V.bl true))
  | _, _, .nil => .nil
  | _, _, .cons h t => .cons h (pair_kvs t)
theorem run_sdI {pins : List (Addr × Obj)} {s : Shared} {Q : VK} {a : Addr} {ps : List Addr} {ks : List Int} (hcalm : X.calm = true) (hu : X.A.units + 64 < cLine) (I : Inv X pins σ H s) (hq : SqL X.K H a (ps.map V.ref)) (hp : Paired (fun p k => SqT X.K H p [V.int k, V.bl true]) ps ks)
    (q : ∀ ys p, PySem.W.EachIs (fun v e => ∃ i, v = V.int i ∧ e = PyData.int i) ys (srtD ((dedK ks).map PyData.int)) → H p = none → Q (.ref p) (upd H p (.lst ys))) :
    wpAny (model X.prog X.w) X.A (call (.type "dict") [.ref a]) (fun d s1 => wpAny (model X.prog X.w) X.A (call (.builtin "sorted") [d]) (EP X pins σ Q) X.xe s1) X.xe s := by
  obtain ⟨its, rv, pl, hz⟩ := I.list hq
  have ei := refs_at rv
  subst ei
  rw [List.length_map] at hz
  obtain ⟨prs, rel, hl, hpr⟩ := pairs_of I (pair_kvs hp)
  obtain ⟨o, n, ho, hc, hd, hdat⟩ := pl
  refine L2.call_dict_pairs (prs := prs) (I.ok.hd hcalm) ho hc hd hdat (by simp [hl]) (by rw [hl]; exact hz) (fun j q' e => ?_) fun h' tk hd' k => ?_
  · obtain ⟨b, u, e1, e2, e3⟩ := hpr j q' e
    exact ⟨b, u, by simp [e1], e2, e3⟩
  have hm : (s.heap.objs.size == sysModules) = false := beq_eq_false_iff_ne.mpr (Nat.ne_of_gt I.big)
  have I1 : Inv X pins σ H { s with heap := h', toks := tk } := I.kept (t' := tk) k
  have keys : (merged [] prs).map (·.1) = (dedK ks).map (Sum.inl : Int → Key) := by
    rw [keys_merged, ← rel.keys, List.map_map]
    exact dedK_map (Sum.inl : Int → Key) (fun a b e => Sum.inl.inj e) ks []
  have lk : (merged [] prs).length = (dedK ks).length := by
    have e := congrArg List.length keys
    rwa [List.length_map, List.length_map] at e
  have lks : ks.length = ps.length := (Paired.length hp).symm
  have small : (dedK ks).length ≤ sizeLine := Nat.le_trans (len_dedK ks) (by rw [lks]; exact hz)
  obtain ⟨ep, hat⟩ := hd'.dictAt
  refine sorted_fin hu I1 (okK_ints _) (by rw [List.length_map]; exact small) (fun C' E hC => ?_) q
  refine PySem.W.kdu_collect (A := X.A.in1) (s := { s with heap := h', toks := tk }) (PySem.W.kdl_dict (knd := mixKind X.prog X.w) (kvs := merged [] prs) (ep := ep) hm) (I.ok.hd hcalm) hat (by rw [lk]; exact small) fun h2 tk2 acc hk hacc => ?_
  refine hC acc.toList h2 tk2 hk ?_
  have la : acc.toList.length = (dedK ks).length := by rw [Array.length_toList, hacc.1, lk]
  have hS : IntsAre acc.toList (dedK ks) := ints_each la fun j v e => by
    obtain ⟨k', x, e1, e2⟩ := hacc.2 j v (by rw [← Array.getElem?_toList]; exact e)
    have e3 : ((merged [] prs).map (·.1))[j]? = some k' := by rw [List.getElem?_map, e1]; rfl
    rw [keys, List.getElem?_map] at e3
    cases e4 : (dedK ks)[j]? with
    | none => rw [e4] at e3; cases e3
    | some y =>
      rw [e4] at e3
      have e5 : Sum.inl y = k' := Option.some.inj e3
      subst e5
      rcases keyIs_shape (show keyIs (Sum.inl y) v = true from e2) with ⟨i, t, ek, ev⟩ | ⟨z, t, ek, ev⟩
      · cases ek
        exact ⟨y, t, rfl, ev⟩
      · cases ek
  have go : ∀ {us : List Value} {ns : List Int}, IntsAre us ns → PySem.W.EachIs (fun u e => (∃ as, Reads h' u e as) ∧ ∃ v, RelV v u ∧ ∃ i, v = V.int i ∧ e = PyData.int i) us (ns.map PyData.int) := by
    intro us ns h
    induction h with
    | nil => exact .nil
    | cons x t _ ih => exact .cons ⟨⟨_, .int _ _⟩, V.int x, ⟨t, rfl⟩, _, rfl, rfl⟩ ih
  exact go hS

/-- the pairs as the heap holds them -/
theorem pairs_ofT {pins : List (Addr × Obj)} {s : Shared} (I : Inv X pins σ H s) : ∀ {ps : List Addr} {zs : List (Addr × List Int)}, Paired (fun p (z : Addr × List Int) => SqT X.K H p [V.ref z.1, V.bl true]) ps zs →
    ∀ (j : Nat) (z : Addr × List Int), zs[j]? = some z → ∃ b, ps[j]? = some b ∧ IsTup s.heap b #[Value.ref z.1, Value.bool true]
  | _, _, .nil => fun j z e => by simp at e
  | _, _, .cons (a := p) (b := z0) h t => fun j z e => by
    cases j with
    | zero =>
      have e' : z0 = z := Option.some.inj e
      subst e'
      obtain ⟨its, rv, ht, _⟩ := I.tuple h
      obtain ⟨u, y, ei, ru, ry⟩ := vals2 rv
      subst ei
      obtain rfl : u = Value.ref z0.1 := ru
      obtain rfl : y = Value.bool true := ry
      exact ⟨p, rfl, ht⟩
    | succ j =>
      obtain ⟨b, e1, e2⟩ := pairs_ofT I t j z (by simpa using e)
      exact ⟨b, by simpa using e1, e2⟩
theorem key_ofT {pins : List (Addr × Obj)} {s : Shared} (I : Inv X pins σ H s) {b : Addr} {ks : List Int} (h : SqT X.K H b (ks.map V.int)) : (tupleKind (mixKind X.prog X.w)).is s.heap (ks.map (Sum.inl : Int → Key)) b := by
  obtain ⟨its, rv, ⟨o, h1, h2, n, h3⟩, _⟩ := I.tuple h
  have e : (ks.map (Sum.inl : Int → Key)).map kV = ks.map V.int := by rw [List.map_map]; rfl
  exact ⟨o, its.toArray, n, h1, h2, h3, by simpa using items_are (ks := ks.map (Sum.inl : Int → Key)) (by rw [e]; exact rv)⟩
theorem mapInl_inj : ∀ a b : List Int, a.map (Sum.inl : Int → Key) = b.map (Sum.inl : Int → Key) → a = b
  | [], [], _ => rfl
  | [], _ :: _, e => by simp at e
  | _ :: _, [], e => by simp at e
  | x :: xs, y :: ys, e => by
    rw [List.map_cons, List.map_cons] at e
    injection e with e1 e2
    rw [Sum.inl.inj e1, mapInl_inj xs ys e2]
theorem run_sdT {pins : List (Addr × Obj)} {s : Shared} {Q : VK} {a : Addr} {ps : List Addr} {zs : List (Addr × List Int)} {P : V → D → Prop} (hcalm : X.calm = true) (hu : X.A.units + 64 < cLine) (I : Inv X pins σ H s) (hq : SqL X.K H a (ps.map V.ref))
    (hp : Paired (fun p (z : Addr × List Int) => SqT X.K H p [V.ref z.1, V.bl true]) ps zs) (hdp : DpAll X.K H (zs.map fun z => V.ref z.1) (zs.map fun z => enT z.2)) (hP : ∀ z ∈ zs, SqT X.K H z.1 (z.2.map V.int) ∧ P (.ref z.1) (enT z.2))
    (q : ∀ ys p, PySem.W.EachIs P ys (srtD ((dedK (zs.map (·.2))).map enT)) → H p = none → Q (.ref p) (upd H p (.lst ys))) :
    wpAny (model X.prog X.w) X.A (call (.type "dict") [.ref a]) (fun d s1 => wpAny (model X.prog X.w) X.A (call (.builtin "sorted") [d]) (EP X pins σ Q) X.xe s1) X.xe s := by
  obtain ⟨its, rv, pl, hz⟩ := I.list hq
  have ei := refs_at rv
  subst ei
  rw [List.length_map] at hz
  have ptT := pairs_ofT I hp
  have lps : ps.length = zs.length := Paired.length hp
  obtain ⟨o, n, ho, hc, hd, hdat⟩ := pl
  have key : ∀ z ∈ zs, (tupleKind (mixKind X.prog X.w)).is s.heap (z.2.map (Sum.inl : Int → Key)) z.1 := fun z h => key_ofT I (hP z h).1
  have there : ∀ z ∈ zs, z.1 < s.heap.objs.size := fun z h => by obtain ⟨o, its, n, h1, _⟩ := key z h; exact Heap.lt_size h1
  have hm : (s.heap.objs.size == sysModules) = false := beq_eq_false_iff_ne.mpr (Nat.ne_of_gt I.big)
  refine PySem.call_dict_pairsH (knd := tupleKind (mixKind X.prog X.w)) (ps := zs.map fun z => (z.2.map (Sum.inl : Int → Key), z.1, Value.bool true))
    (PairArg.list a (ps.map Value.ref).toArray (fun j => ps.getD j 0) (zs.map fun z => (Value.ref z.1, Value.bool true))) (I.ok.hd hcalm) (by show X.A.units + 1 + 1 < cLine; omega) ⟨⟨o, n, ho, hc, hd, hdat⟩, ?_, fun j k v e => ?_⟩ ⟨by simp, fun i k v e => ?_⟩ (fun h' hk x hx => ?_) (by rw [List.length_map, ← lps]; exact hz) fun h' tk hd' kp => ?_
  · simp [lps]
  · rw [List.getElem?_map] at e
    cases ez : zs[j]? with
    | none => rw [ez] at e; cases e
    | some z =>
      rw [ez] at e
      cases e
      obtain ⟨b, e1, e2⟩ := ptT j z ez
      have eg : ps.getD j 0 = b := by rw [List.getD_eq_getElem?_getD, e1]; rfl
      refine ⟨?_, .inl ?_⟩
      · show (List.map Value.ref ps).toArray[j]? = some (Value.ref (ps.getD j 0))
        rw [eg]; simp [e1]
      · show Heap.IsTuple _ (ps.getD j 0) _
        rw [eg]; exact e2
  · have e : (zs.map fun z => (Value.ref z.1, Value.bool true))[i]? = some (k, v) := e
    rw [List.getElem?_map] at e
    cases ez : zs[i]? with
    | none => rw [ez] at e; cases e
    | some z =>
      rw [ez] at e
      cases e
      exact ⟨z.2.map (Sum.inl : Int → Key), z.1, by rw [List.getElem?_map, ez]; rfl, rfl⟩
  · obtain ⟨z, hzm, rfl⟩ := List.mem_map.mp hx
    obtain ⟨o, its, n, h1, r⟩ := key z hzm
    exact ⟨o, its, n, hk _ _ (Nat.ne_of_lt (there z hzm)) (by simp) h1, r⟩
  have k : ∀ b o, s.heap.get? b = some o → h'.get? b = some o := fun b o e => kp b o (by simp) e
  have I1 : Inv X pins σ H { s with heap := h', toks := tk } := I.kept (t' := tk) k
  have prov : ∀ x ∈ storedAllH [] (zs.map fun z => (z.2.map (Sum.inl : Int → Key), z.1, Value.bool true)), ∃ z ∈ zs, x.1 = z.2.map (Sum.inl : Int → Key) ∧ x.2.1 = z.1 :=
    storedAllH_keys (P := fun k b => ∃ z ∈ zs, k = z.2.map (Sum.inl : Int → Key) ∧ b = z.1) (fun x hx => by cases hx) fun x hx => by
      obtain ⟨z, hzm, rfl⟩ := List.mem_map.mp hx
      exact ⟨z, hzm, rfl, rfl⟩
  have keys : (storedAllH [] (zs.map fun z => (z.2.map (Sum.inl : Int → Key), z.1, Value.bool true))).map (·.1) = (dedK (zs.map (·.2))).map fun ks => ks.map (Sum.inl : Int → Key) := by
    rw [keys_storedAllH, List.map_map]
    have e := dedK_map (fun ks : List Int => ks.map (Sum.inl : Int → Key)) mapInl_inj (zs.map (·.2)) []
    rw [List.map_map] at e
    exact e
  generalize hxs : storedAllH [] (zs.map fun z => (z.2.map (Sum.inl : Int → Key), z.1, Value.bool true)) = xs at *
  have lx : xs.length = (dedK (zs.map (·.2))).length := by
    have e := congrArg List.length keys
    rwa [List.length_map, List.length_map] at e
  have small : (dedK (zs.map (·.2))).length ≤ sizeLine := Nat.le_trans (len_dedK _) (by rw [List.length_map, ← lps]; exact hz)
  have eD : (dedK (zs.map (·.2))).map enT = xs.map fun x => kT x.1 := by
    have e : (xs.map fun x => kT x.1) = (xs.map (·.1)).map kT := by rw [List.map_map]; rfl
    rw [e, keys, List.map_map]
    refine List.map_congr_left fun ks _ => ?_
    show PyData.tuple _ = PyData.tuple ((ks.map (Sum.inl : Int → Key)).map kD)
    rw [List.map_map]
    rfl
  obtain ⟨o2, es, ep, ho2, hx2, hdt2, he2, _, _⟩ := hd'
  have l1 : es.size = xs.length := size_of_entries he2
  obtain ⟨as0, rd0⟩ := Dp.readsAll I1 (zs.map fun z => enT z.2) (zs.map fun z => V.ref z.1) (zs.map fun z => Value.ref z.1) hdp (by
    have := vals_refs (zs.map (·.1))
    rw [List.map_map, List.map_map] at this
    exact this)
  have rd : ∀ z ∈ zs, ∃ as, Reads h' (.ref z.1) (enT z.2) as := fun z hzm => by
    obtain ⟨j, hj⟩ := List.mem_iff_getElem?.mp hzm
    obtain ⟨d, e1, as, e2⟩ := each_pos (each_reads rd0) (i := j) (u := Value.ref z.1) (by rw [List.getElem?_map, hj]; rfl)
    rw [List.getElem?_map, hj] at e1
    cases e1
    exact ⟨as, e2⟩
  refine sorted_fin (P := P) hu I1 (okK_tups _) (by rw [List.length_map]; exact small) (fun C' E hC => ?_) q
  refine PySem.W.kdu_collect (A := X.A.in1) (s := { s with heap := h', toks := tk }) (kdl_raw hm hx2 hdt2) (I.ok.hd hcalm) ho2 (by rw [l1, lx]; exact small) fun h2 tk2 acc hk hacc => ?_
  refine hC acc.toList h2 tk2 hk ?_
  have ea : acc.toList = xs.map fun x => Value.ref x.2.1 := by
    have hl : acc.toList.length = xs.length := by rw [Array.length_toList, hacc.1]; exact l1
    apply List.ext_getElem?
    intro j
    rw [List.getElem?_map]
    cases hj : acc.toList[j]? with
    | none =>
      have h1 := List.getElem?_eq_none_iff.mp hj
      rw [List.getElem?_eq_none (by omega)]
      all_goals rfl
    | some v =>
      obtain ⟨en, hen, hv⟩ := hacc.2 j v (by rw [← Array.getElem?_toList]; exact hj)
      have qe := entry_at he2 j
      rw [hen] at qe
      cases hb : xs[j]? with
      | none =>
        rw [hb] at qe
        exact nomatch (show some en = none from qe)
      | some b =>
        rw [hb] at qe
        have e2 : en = entryOfKey (tupleKind (mixKind X.prog X.w)) b := Option.some.inj qe
        rw [hv, e2]
        all_goals rfl
  rw [ea, eD]
  refine each_all _ _ xs fun x hx => ?_
  obtain ⟨z, hzm, e1, e2⟩ := prov x hx
  have ek : kT x.1 = enT z.2 := by
    rw [e1]
    show PyData.tuple ((z.2.map (Sum.inl : Int → Key)).map kD) = PyData.tuple _
    rw [List.map_map]
    rfl
  rw [ek, e2]
  exact ⟨rd z hzm, V.ref z.1, rfl, (hP z hzm).2⟩

theorem pe_sdict {p p2 pos2 : Pos} {ta : TE} (hcalm : X.calm = true) (hu : X.A.units + 64 < cLine) (hm : X.mg "sorted" = none) (hm2 : X.mg "dict" = none) (ha : PE X a ta) (hv : bootBuiltins "sorted" = some (.builtin "sorted")) (hv2 : bootBuiltins "dict" = some (.type "dict"))
    (hg : Gl X "sorted" := by rfl) (hg2 : Gl X "dict" := by rfl)
    (na : starEach [a] X.env = (false, eval a X.env) :: starEach [] X.env := by rfl)
    (nc : starEach [.Call (.Name "dict" p2) [a] [] pos2] X.env = (false, eval (.Call (.Name "dict" p2) [a] [] pos2) X.env) :: starEach [] X.env := by rfl) :
    PE X (.Call (.Name "sorted" p) [.Call (.Name "dict" p2) [a] [] pos2] [] pos) (tThen ta (kSD X.K)) := by
  refine ⟨fun pins s σ H Q I h => ?_⟩
  refine wpAny_Call_Name_kw (ld_blt I hg hm hv ?_)
  refine PyProof.Rows.callWith_builtin1 (args_cons (Q := fun us s1 => wpAny (model X.prog X.w) X.A (call (.builtin "sorted") us) (EP X pins σ Q) X.xe s1) ?_ nc) nc
  refine wpAny_Call_Name_kw (ld_blt I hg2 hm2 hv2 (PyProof.Rows.callWith_type1 (one_arg ha I h (fun v s2 x H2 I2 r q => ?_) na) na))
  rcases q with ⟨a, ps, ks, rfl, h1, h2, h3⟩ | ⟨a, ps, zs, P, rfl, h1, h2, h3, h4, h5⟩
  · obtain rfl : v = Value.ref a := r
    exact thn (run_sdI hcalm hu I2 h1 h2 h3) fun d s1 z => args_nil z
  · obtain rfl : v = Value.ref a := r
    exact thn (run_sdT hcalm hu I2 h1 h2 h3 h4 h5) fun d s1 z => args_nil z

/-! ### the layer's word -/
def prI : List D → Option (List Int)
  | [] => some []
  | .tuple [.int k, .bool true] :: r => (prI r).map fun l => k :: l
  | _ :: _ => none
def itsD : List D → Option (List Int)
  | [] => some []
  | .int k :: r => (itsD r).map fun l => k :: l
  | _ :: _ => none
def prT : List D → Option (List (List Int))
  | [] => some []
  | .tuple [.tuple ds, .bool true] :: r => match itsD ds with
    | some ks => (prT r).map fun l => ks :: l
    | none => none
  | _ :: _ => none
def nSD : D → Option (List D)
  | .list ps => match prI ps with
    | some ks => some (srtD ((dedK ks).map PyData.int))
    | none => match prT ps with
      | some kss => some (srtD ((dedK kss).map enT))
      | none => none
  | _ => none
def xSD (f : En → R D) : En → R Sl := fun r => (f r).bind fun x r1 => match nSD x with
  | some ds => .ok (.ow ds) r1
  | none => .st
theorem itsD_is : ∀ {ds : List D} {ks : List Int}, itsD ds = some ks → ds = ks.map PyData.int
  | [], ks, h => by cases h; rfl
  | d :: r, ks, h => by
    unfold itsD at h
    split at h
    · rename_i e
      cases e
    · rename_i k r' e
      cases e
      cases hr : itsD r with
      | none => rw [hr] at h; cases h
      | some l =>
        rw [hr] at h
        cases h
        rw [itsD_is hr]
        rfl
    · cases h
theorem prI_is : ∀ {ds : List D} {ks : List Int} {vs : List V}, prI ds = some ks → RpL G F vs ds → ∃ ps : List Addr, vs = ps.map V.ref ∧ Paired (fun p k => SqT G.K F p [V.int k, V.bl true]) ps ks
  | [], ks, vs, h, q => by
    cases h
    cases q
    exact ⟨[], rfl, .nil⟩
  | d :: r, ks, vs, h, q => by
    unfold prI at h
    split at h
    · rename_i e
      cases e
    · rename_i k r' e
      cases e
      cases hr : prI r with
      | none => rw [hr] at h; cases h
      | some l =>
        rw [hr] at h
        cases h
        cases q with
        | cons q1 q2 =>
          obtain ⟨a, xs, rfl, s1, s2⟩ := rp_tup q1
          obtain ⟨ps, rfl, pp⟩ := prI_is hr q2
          cases s2 with
          | cons t1 t2 =>
            cases t2 with
            | cons t3 t4 =>
              cases t4
              rw [rp_int t1, rp_bl t3] at s1
              exact ⟨a :: ps, rfl, .cons s1 pp⟩
    · cases h
theorem prT_is : ∀ {ds : List D} {kss : List (List Int)} {vs : List V}, prT ds = some kss → RpL G F vs ds → ∃ (ps : List Addr) (zs : List (Addr × List Int)), vs = ps.map V.ref ∧ zs.map (·.2) = kss ∧ Paired (fun p (z : Addr × List Int) => SqT G.K F p [V.ref z.1, V.bl true]) ps zs ∧
    RpL G F (zs.map fun z => V.ref z.1) (zs.map fun z => enT z.2) ∧ ∀ z ∈ zs, SqT G.K F z.1 (z.2.map V.int) ∧ Rp G F (.ref z.1) (enT z.2)
  | [], ks, vs, h, q => by
    cases h
    cases q
    exact ⟨[], [], rfl, rfl, .nil, .nil, fun z hz => by cases hz⟩
  | d :: r, ks, vs, h, q => by
    unfold prT at h
    split at h
    · rename_i e
      cases e
    · rename_i ds r' e
      cases e
      cases hi : itsD ds with
      | none => simp only [hi] at h; cases h
      | some is =>
        simp only [hi] at h
        have ed := itsD_is hi
        subst ed
        cases hr : prT r with
        | none => rw [hr] at h; cases h
        | some l =>
          rw [hr] at h
          cases h
          cases q with
          | cons q1 q2 =>
            obtain ⟨a, xs, rfl, s1, s2⟩ := rp_tup q1
            obtain ⟨ps, zs, rfl, rfl, pp, rr, all⟩ := prT_is hr q2
            cases s2 with
            | cons t1 t2 =>
              cases t2 with
              | cons t3 t4 =>
                cases t4
                rw [rp_bl t3] at s1
                obtain ⟨b, xs, rfl, u1, u2⟩ := rp_tup t1
                have u3 := u1
                rw [rp_ints u2] at u3
                refine ⟨a :: ps, (b, is) :: zs, rfl, rfl, .cons s1 pp, .cons t1 rr, fun z hz => ?_⟩
                rcases List.mem_cons.mp hz with rfl | hz
                · exact ⟨u3, t1⟩
                · exact all z hz
    · cases h
theorem paired_imp {α β : Type} {R S : α → β → Prop} (h : ∀ a b, R a b → S a b) : ∀ {as : List α} {bs : List β}, Paired R as bs → Paired S as bs
  | _, _, .nil => .nil
  | _, _, .cons x t => .cons (h _ _ x) (paired_imp h t)
theorem dx_sdict {p p2 pos2 : Pos} (hcalm : X.calm = true) (hu : X.A.units + 64 < cLine) (hK : X.K = G.K) (hm : X.mg "sorted" = none) (hm2 : X.mg "dict" = none) (hv : bootBuiltins "sorted" = some (.builtin "sorted")) (hv2 : bootBuiltins "dict" = some (.type "dict")) (ha : PE X a (TEo G W f))
    (hg : Gl X "sorted" := by rfl) (hg2 : Gl X "dict" := by rfl)
    (na : starEach [a] X.env = (false, eval a X.env) :: starEach [] X.env := by rfl)
    (nc : starEach [.Call (.Name "dict" p2) [a] [] pos2] X.env = (false, eval (.Call (.Name "dict" p2) [a] [] pos2) X.env) :: starEach [] X.env := by rfl) :
    PE X (.Call (.Name "sorted" p) [.Call (.Name "dict" p2) [a] [] pos2] [] pos) (TXo G W (xSD f)) :=
  pe_of (pe_sdict hcalm hu hm hm2 ha hv hv2 hg hg2 na nc) fun σ H Q ⟨F, r0, e, p⟩ => by
    have p : TXp G W (xSD f r0) F H σ r0 Q := p
    refine ⟨F, r0, e, (TXp.bind (rel := rV G) p).mono fun v H1 ⟨x, F1, r1, _, e1, q1, p1⟩ => ?_⟩
    rw [hK]
    cases ho : nSD x with
    | none => simp only [ho] at p1; exact p1.elim
    | some ds =>
      simp only [ho] at p1
      unfold nSD at ho
      split at ho
      · rename_i es
        obtain ⟨a, xs, rfl, h1, h2⟩ := rp_lst q1
        split at ho
        · rename_i ks hk
          cases ho
          obtain ⟨ps, rfl, pp⟩ := prI_is hk h2
          refine .inl ⟨a, ps, ks, rfl, SqL.of (e1.sub _ _ h1), paired_imp (fun _ _ z => e1.sub.t z) pp, fun ys q hy hq => p1.new e1 ys (of_each (hy.mono fun v e ⟨i, ev, ee⟩ => by rw [ev, ee]; exact .int i)) q hq⟩
        · split at ho
          · rename_i kss hk
            cases ho
            obtain ⟨ps, zs, rfl, rfl, pp, rr, all⟩ := prT_is hk h2
            refine .inr ⟨a, ps, zs, fun v d => Rp G F1 v d, rfl, SqL.of (e1.sub _ _ h1), paired_imp (fun _ _ z => e1.sub.t z) pp, RpLI.dp e1.sub rr (okK_lay fun d hd => ?_), fun z hz => ⟨e1.sub.t (all z hz).1, (all z hz).2⟩, fun ys q hy hq => p1.new e1 ys (of_each hy) q hq⟩
            have e : (zs.map fun z => enT z.2) = (zs.map (·.2)).map enT := by rw [List.map_map]; rfl
            rw [e] at hd
            exact (okK_each (okK_tups _) hd).2.1
          · cases ho
      · cases ho
end
end DL
set_option maxHeartbeats 0
/-! K71: the defs of law k71, by gen.py -/
namespace K71
open PySem PyProof.Rows L2 DL
abbrev top (i : Nat) : Stmt := PySem.Challenge.pw_hookwide_k71_whole_halls_counted.main.body.getD i (.Pass ⟨0, 0, 0, 0⟩)
def fuel : Nat := 4096
structure Fcts (K : PySem.W.Frag) (mg : Str → Option Value) : Prop where
  n_len : mg "len" = none
  n_int : mg "int" = none
  n_abs : mg "abs" = none
  n_max : mg "max" = none
  n_isinstance : mg "isinstance" = none
  n_bool : mg "bool" = none
  n_range : mg "range" = none
  n_sorted : mg "sorted" = none
  n_tuple : mg "tuple" = none
  n_list : mg "list" = none
  n_dict : mg "dict" = none
  n_sum : mg "sum" = none
  n_min : mg "min" = none
  n_repr : mg "repr" = none
  c_FAR : ∃ t, mg "FAR" = some (.int 1000000000000000000000000000000000000000000000000000000000000 t)
  c_MOST_HALL : ∃ t, mg "MOST_HALL" = some (.int 6 t)
  c_TWO : ∃ t, mg "TWO" = some (.int 2 t)
  c_MOST_LISTED_HALL : ∃ t, mg "MOST_LISTED_HALL" = some (.int 20 t)
  c_MOST_COUNTED : ∃ t, mg "MOST_COUNTED" = some (.int 200 t)
/-! ### _law_dice -/
def F__law_dice : En → Fl := sSeq (sSet (eIf (tB1 (eOp oLt (eV 1) (eLenO 0))) (eCB cInt (aCons (eIxO 0 (eV 1)) (aNil))) (eOp oAdd (eOp oMul (eC (.int 97)) (eV 1)) (eC (.int 43)))) 2) (sSeq (sSet (eOp oMod (eCB cMax2 (aCons (eC (.int 0)) (aCons (eOp oSub (eCB cAbs (aCons (eV 2) (aNil))) (eOp oPow (eC (.int 10)) (eC (.int 17)))) (aNil)))) (eOp oMul (eOp oPow (eC (.int 10)) (eC (.int 60))) (eOp oPow (eC (.int 10)) (eC (.int 60))))) 3) (sRetX (xLst (aCons (eV 3) (aCons (eOp oAdd (eOp oAdd (eOp oAdd (eOp oMul (eOp oMod (eCB cAbs (aCons (eV 2) (aNil))) (eC (.int 1152921504606846737))) (eC (.int 37))) (eOp oMul (eC (.int 859)) (eV 1))) (eOp oMul (eC (.int 31)) (eCB cInt (aCons (eOp oLt (eV 2) (eC (.int 0))) (aNil))))) (eC (.int 17))) (aCons (eC (.int 0)) (aNil)))))))
def f__law_dice : En → Rf := runF 4 2 F__law_dice
theorem s__law_dice : FnScope ["script", "spot", "cell", "left"] ["script", "spot"] (defScope (top 22)) := ⟨rfl, rfl, rfl, by decide +kernel, rfl, by decide +kernel, by decide +kernel⟩
theorem ok__law_dice {P : Program} {w : World} {mg : Str → Option Value} {base : Heap} {G : Gm} {f : Addr} {fd : FuncData} (F : FunD G.K "_law_dice" "_law_dice" (defArgs (top 22)) (defBody (top 22)) (defScope (top 22)) [] [] f fd) (Z : Fcts G.K mg)  :
    FnG true P w G.K mg base 1 f fd ["script", "spot"] (spD G f__law_dice) :=
  have S := s__law_dice
  fnD' F S fun pd cdv A outer s H E hr hgu =>
    (ds_seq (ds_set (i := 2) S.nd (de_if (dt_cmp op_lt od_cmp (de_var 1) (de_lenO (i := 0) rfl Z.n_len (by decide +kernel)) (nomark _)) (de_callTy call_int1 cd_int Z.n_int (by decide +kernel) (da_cons (de_ixO (i := 0) rfl (de_var 1)) (da_nil))) (de_op op_addA od_add (de_op op_mulA od_mul (de_int) (de_var 1)) (de_int)))) (ds_seq (ds_set (i := 3) S.nd (de_op op_modA od_mod (de_callB (call_max2 rfl) cd_max2 Z.n_max (by decide +kernel) (da_cons (de_int) (da_cons (de_op op_sub od_sub (de_callB call_abs cd_abs Z.n_abs (by decide +kernel) (da_cons (de_var 2) (da_nil))) (de_op op_pow od_pow (de_int) (de_int))) (da_nil)))) (de_op op_mulA od_mul (de_op op_pow od_pow (de_int) (de_int)) (de_op op_pow od_pow (de_int) (de_int))))) (ds_one (ds_retX (dx_lst (da_cons (de_var 3) (da_cons (de_op op_addA od_add (de_op op_addA od_add (de_op op_addA od_add (de_op op_mulA od_mul (de_op op_modA od_mod (de_callB call_abs cd_abs Z.n_abs (by decide +kernel) (da_cons (de_var 2) (da_nil))) (de_int)) (de_int)) (de_op op_mulA od_mul (de_int) (de_var 1))) (de_op op_mulA od_mul (de_int) (de_callTy call_int1 cd_int Z.n_int (by decide +kernel) (da_cons (de_cmp op_lt od_cmp (de_var 2) (de_int) (nomark _)) (da_nil))))) (de_int)) (da_cons (de_int) (da_nil)))))))))
/-! ### is_whole -/
def F_is_whole : En → Fl := sRet (eAnd (eUn (cIsi "int") (eV 0)) (eNot (eUn (cIsi "bool") (eV 0))))
def f_is_whole : En → Rf := runF 1 1 F_is_whole
theorem s_is_whole : FnScope ["value"] ["value"] (defScope (top 4)) := ⟨rfl, rfl, rfl, by decide +kernel, rfl, by decide +kernel, by decide +kernel⟩
theorem ok_is_whole {P : Program} {w : World} {mg : Str → Option Value} {base : Heap} {G : Gm} {f : Addr} {fd : FuncData} (F : FunD G.K "is_whole" "is_whole" (defArgs (top 4)) (defBody (top 4)) (defScope (top 4)) [] [] f fd) (Z : Fcts G.K mg)  :
    FnG true P w G.K mg base 1 f fd ["value"] (spD G f_is_whole) :=
  have S := s_is_whole
  fnD' F S fun pd cdv A outer s H E hr hgu =>
    (ds_one (ds_ret (de_and (de_isi (t := "int") rfl Z.n_isinstance Z.n_int (by decide +kernel) (de_var 0)) (de_one (de_not (de_isi (t := "bool") rfl Z.n_isinstance Z.n_bool (by decide +kernel) (de_var 0)))))))
/-! ### is_near -/
def F_is_near : En → Fl := sRet (eAnd (eF (xCall f_is_whole (aCons (eV 0) (aNil)))) (eChain oLtK oLtK (eUn oNeg (eC (.int 1000000000000000000000000000000000000000000000000000000000000))) (eV 0) (eC (.int 1000000000000000000000000000000000000000000000000000000000000))))
def f_is_near : En → Rf := runF 1 1 F_is_near
theorem s_is_near : FnScope ["value"] ["value"] (defScope (top 5)) := ⟨rfl, rfl, rfl, by decide +kernel, rfl, by decide +kernel, by decide +kernel⟩
theorem ok_is_near {P : Program} {w : World} {mg : Str → Option Value} {base : Heap} {G : Gm} {f : Addr} {fd : FuncData} (F : FunD G.K "is_near" "is_near" (defArgs (top 5)) (defBody (top 5)) (defScope (top 5)) [] [] f fd) (Z : Fcts G.K mg) (C_is_whole : Cal G true P w mg base 1 "is_whole" ["value"] f_is_whole) :
    FnG true P w G.K mg base 2 f fd ["value"] (spD G f_is_near) :=
  have S := s_is_near
  fnD' F S fun pd cdv A outer s H E hr hgu =>
    (ds_one (ds_ret (de_and (de_frz (dx_callC rfl (C_is_whole.pd pd) (hr.mono (by decide)) hgu (takes_of rfl rfl rfl rfl) (da_cons (de_var 0) (da_nil)))) (de_one (de_chain (op_ltK hr.units) od_cmpK (op_ltK hr.units) od_cmpK (de_un un_neg ud_neg ((de_globI Z.c_FAR))) (de_var 0) ((de_globI Z.c_FAR)))))))
/-! ### require_number -/
def F_require_number : En → Fl := sIf (tOr1 (tNot1 (tTru (eF (xCall f_is_near (aCons (eV 0) (aNil)))))) (tOr1 (tAnd1 (tB1 (eOp oNotN (eV 1) (eC .none))) (tB1 (eOp oLtK (eV 0) (eV 1)))) (tAnd1 (tB1 (eOp oNotN (eV 2) (eC .none))) (tB1 (eOp oGtK (eV 0) (eV 2)))))) (sSt) (sNil)
def f_require_number : En → Rf := runF 3 3 F_require_number
theorem s_require_number : FnScope ["value", "least", "most"] ["value", "least", "most"] (defScope (top 6)) := ⟨rfl, rfl, rfl, by decide +kernel, rfl, by decide +kernel, by decide +kernel⟩
theorem ok_require_number {P : Program} {w : World} {mg : Str → Option Value} {base : Heap} {G : Gm} {f : Addr} {fd : FuncData} (F : FunD G.K "require_number" "require_number" (defArgs (top 6)) (defBody (top 6)) (defScope (top 6)) [] [] f fd) (Z : Fcts G.K mg) (C_is_near : Cal G true P w mg base 2 "is_near" ["value"] f_is_near) :
    FnG true P w G.K mg base 3 f fd ["value", "least", "most"] (spD G f_require_number) :=
  have S := s_require_number
  fnD' F S fun pd cdv A outer s H E hr hgu =>
    (ds_one (ds_if (PW.pt (dw_or (dt_not (dt_tru rfl (de_frz (dx_callC rfl (C_is_near.pd pd) (hr.mono (by decide)) hgu (takes_of rfl rfl rfl rfl) (da_cons (de_var 0) (da_nil)))))) (dw_or (PW.pt (dw_and (dt_cmp op_notN od_notN (de_var 1) de_non) (dw_and1 (dt_cmp (op_ltK hr.units) od_cmpK (de_var 0) (de_var 1) (nomark _))))) (dw_or1 (PW.pt (dw_and (dt_cmp op_notN od_notN (de_var 2) de_non) (dw_and1 (dt_cmp (op_gtK hr.units) od_cmpK (de_var 0) (de_var 2) (nomark _))))))))) (ds_one (ds_never)) (ds_nil)))
/-! ### require_hall_number -/
def F_require_hall_number : En → Fl := sDrop (eF (xCall f_require_number (aCons (eV 0) (aCons (eC (.int 1)) (aCons (eC (.int 6)) (aNil))))))
def f_require_hall_number : En → Rf := runF 1 1 F_require_hall_number
theorem s_require_hall_number : FnScope ["n"] ["n"] (defScope (top 16)) := ⟨rfl, rfl, rfl, by decide +kernel, rfl, by decide +kernel, by decide +kernel⟩
theorem ok_require_hall_number {P : Program} {w : World} {mg : Str → Option Value} {base : Heap} {G : Gm} {f : Addr} {fd : FuncData} (F : FunD G.K "require_hall_number" "require_hall_number" (defArgs (top 16)) (defBody (top 16)) (defScope (top 16)) [] [] f fd) (Z : Fcts G.K mg) (C_require_number : Cal G true P w mg base 3 "require_number" ["value", "least", "most"] f_require_number) :
    FnG true P w G.K mg base 4 f fd ["n"] (spD G f_require_hall_number) :=
  have S := s_require_hall_number
  fnD' F S fun pd cdv A outer s H E hr hgu =>
    (ds_one (ds_expr (de_frz (dx_callC rfl (C_require_number.pd pd) (hr.mono (by decide)) hgu (takes_of rfl rfl rfl rfl) (da_cons (de_var 0) (da_cons (de_int) (da_cons ((de_globI Z.c_MOST_HALL)) (da_nil))))))))
/-! ### require_hall_and_size -/
def F_require_hall_and_size : En → Fl := sSeq (sDrop (eF (xCall f_require_hall_number (aCons (eV 0) (aNil))))) (sDrop (eF (xCall f_require_number (aCons (eV 1) (aCons (eC (.int 0)) (aCons (eV 2) (aNil)))))))
def f_require_hall_and_size : En → Rf := runF 3 3 F_require_hall_and_size
theorem s_require_hall_and_size : FnScope ["n", "size", "most"] ["n", "size", "most"] (defScope (top 17)) := ⟨rfl, rfl, rfl, by decide +kernel, rfl, by decide +kernel, by decide +kernel⟩
theorem ok_require_hall_and_size {P : Program} {w : World} {mg : Str → Option Value} {base : Heap} {G : Gm} {f : Addr} {fd : FuncData} (F : FunD G.K "require_hall_and_size" "require_hall_and_size" (defArgs (top 17)) (defBody (top 17)) (defScope (top 17)) [] [] f fd) (Z : Fcts G.K mg) (C_require_hall_number : Cal G true P w mg base 4 "require_hall_number" ["n"] f_require_hall_number) (C_require_number : Cal G true P w mg base 3 "require_number" ["value", "least", "most"] f_require_number) :
    FnG true P w G.K mg base 5 f fd ["n", "size", "most"] (spD G f_require_hall_and_size) :=
  have S := s_require_hall_and_size
  fnD' F S fun pd cdv A outer s H E hr hgu =>
    (ds_seq (ds_expr (de_frz (dx_callC rfl (C_require_hall_number.pd pd) (hr.mono (by decide)) hgu (takes_of rfl rfl rfl rfl) (da_cons (de_var 0) (da_nil))))) (ds_one (ds_expr (de_frz (dx_callC rfl (C_require_number.pd pd) (hr.mono (by decide)) hgu (takes_of rfl rfl rfl rfl) (da_cons (de_var 1) (da_cons (de_int) (da_cons (de_var 2) (da_nil)))))))))
/-! ### least_before -/
def F_least_before : En → Fl := sRet (eUn oNeg (eOp oDiv (eOp oMul (eUn oNeg (eV 2)) (eOp oSub (eV 0) (eV 1))) (eOp oSub (eOp oSub (eV 0) (eV 1)) (eC (.int 1)))))
def f_least_before : En → Rf := runF 3 3 F_least_before
theorem s_least_before : FnScope ["n", "i", "later"] ["n", "i", "later"] (defScope (top 12)) := ⟨rfl, rfl, rfl, by decide +kernel, rfl, by decide +kernel, by decide +kernel⟩
theorem ok_least_before {P : Program} {w : World} {mg : Str → Option Value} {base : Heap} {G : Gm} {f : Addr} {fd : FuncData} (F : FunD G.K "least_before" "least_before" (defArgs (top 12)) (defBody (top 12)) (defScope (top 12)) [] [] f fd) (Z : Fcts G.K mg)  :
    FnG true P w G.K mg base 1 f fd ["n", "i", "later"] (spD G f_least_before) :=
  have S := s_least_before
  fnD' F S fun pd cdv A outer s H E hr hgu =>
    (ds_one (ds_ret (de_un un_neg ud_neg (de_op op_divA od_div (de_op op_mulA od_mul (de_un un_neg ud_neg (de_var 2)) (de_op op_sub od_sub (de_var 0) (de_var 1))) (de_op op_sub od_sub (de_op op_sub od_sub (de_var 0) (de_var 1)) (de_int))))))
/-! ### halls_in -/
def g_halls_in_e1 : En → R D := eTup (aCons (eTup (aCons (eV 8) (aNil))) (aCons (eV 8) (aNil)))
def g_halls_in_e2 : En → R D := eTup (aCons (eTup (aCons (eV 9) (aStar (eV 5) (aNil)))) (aCons (eOp oAdd (eV 6) (eV 9)) (aNil)))
def g_halls_in_b3 : En → Fl := sSeq (sSet (eF (xCall f_least_before (aCons (eV 0) (aCons (eV 3) (aCons (eOp oIx (eV 5) (eC (.int 0))) (aNil)))))) 7) (sExt 4 (xLc [9] (iRg2 (eV 7) (eOp oAdd (eOp oSub (eV 1) (eV 6)) (eC (.int 1)))) (gN 9) (tT) (g_halls_in_e2)))
def g_halls_in_b4 : En → Fl := sSeq (sAsgX (xLst (aNil)) 4) (sSeq (sFor (iSeq (eVF 2)) (gTA 2 (gsC (gN 5) (gsC (gN 6) (gsN)))) (g_halls_in_b3)) (sAsgX (xV (eVF 4)) 2))
def g_halls_in_e5 : En → R D := eV 5
def g_halls_in_t6 : En → R Bool := tB1 (eOp oEq (eV 6) (eV 1))
def F_halls_in : En → Fl := sSeq (sAsgX (xLc [8] (iRg1 (eOp oAdd (eV 1) (eC (.int 1)))) (gN 8) (tT) (g_halls_in_e1)) 2) (sSeq (sFor (iRg3 (eOp oSub (eV 0) (eC (.int 2))) (eUn oNeg (eC (.int 1))) (eUn oNeg (eC (.int 1)))) (gN 3) (g_halls_in_b4)) (sRetX (xCB nSrtA (aCons (eF (xLc [5, 6] (iSeq (eVF 2)) (gTA 2 (gsC (gN 5) (gsC (gN 6) (gsN)))) (g_halls_in_t6) (g_halls_in_e5))) (aNil)))))
def f_halls_in : En → Rf := runF 10 2 F_halls_in
theorem s_halls_in : FnScope ["n", "size", "found", "i", "later", "members", "total", "least", "last", "one"] ["n", "size"] (defScope (top 13)) := ⟨rfl, rfl, rfl, by decide +kernel, rfl, by decide +kernel, by decide +kernel⟩
theorem ok_halls_in {P : Program} {w : World} {mg : Str → Option Value} {base : Heap} {G : Gm} {f : Addr} {fd : FuncData} (F : FunD G.K "halls_in" "halls_in" (defArgs (top 13)) (defBody (top 13)) (defScope (top 13)) [] [] f fd) (Z : Fcts G.K mg) (C_least_before : Cal G true P w mg base 1 "least_before" ["n", "i", "later"] f_least_before) :
    FnG true P w G.K mg base 2 f fd ["n", "size"] (spD G f_halls_in) :=
  have S := s_halls_in
  fnD' F S fun pd cdv A outer s H E hr hgu =>
    (ds_seq (ds_setLc (i := 2) (nm := [("last", 8)]) rfl S.nd (di_range1 Z.n_range (de_op op_addA od_add (de_var 1) (de_int))) (by kernel_rfl) (by decide) (fun _ _ _ _ _ => dg_name (i := 8) S.nd) (fun _ _ _ _ _ => dts_nil) (fun _ _ _ _ _ => de_tup (da_cons (de_tup (da_cons (de_var 8) (da_nil))) (da_cons (de_var 8) (da_nil))))) (ds_seq (ds_for (passes_of rfl) rfl (di_range3 Z.n_range (de_op op_sub od_sub (de_var 0) ((de_globI Z.c_TWO))) (de_un un_neg ud_neg (de_int)) (de_un un_neg ud_neg (de_int))) (dg_name (i := 3) S.nd) (ds_seq (ds_setX (i := 4) S.nd (dx_lst (da_nil))) (ds_seq (ds_for (passes_of rfl) rfl (di_seq rfl (de_varF 2)) (dg_tupA rfl rfl (dgs_cons (dg_name (i := 5) S.nd) (dgs_cons (dg_name (i := 6) S.nd) (dgs_nil)))) (ds_seq (ds_set (i := 7) S.nd (de_frz (dx_callC rfl (C_least_before.pd pd) (hr.mono (by decide)) hgu (takes_of rfl rfl rfl rfl) (da_cons (de_var 0) (da_cons (de_var 3) (da_cons (de_ix ix_seq od_ix (de_var 5) (de_int)) (da_nil))))))) (ds_one (ds_ext (i := 4) rfl (dx_lc (nm := [("one", 9)]) rfl S.nd (di_range2 Z.n_range (de_var 7) (de_op op_addA od_add (de_op op_sub od_sub (de_var 1) (de_var 6)) (de_int))) (by kernel_rfl) (by decide) (fun _ _ _ _ _ => dg_name (i := 9) S.nd) (fun _ _ _ _ _ => dts_nil) (fun _ _ _ _ _ => de_tup (da_cons (de_tup (da_cons (de_var 9) (da_star rfl (de_var 5) (da_nil)))) (da_cons (de_op op_addA od_add (de_var 6) (de_var 9)) (da_nil))))))))) (ds_one (ds_setX (i := 2) S.nd (dx_val (de_varF 4))))))) (ds_one (ds_retX (dx_callB (cr_srtA hr.units) cn_srtA Z.n_sorted (by decide +kernel) (da_cons (de_frz (dx_lc (nm := [("members", 5), ("total", 6)]) rfl S.nd (di_seq rfl (de_varF 2)) (by kernel_rfl) (by decide) (fun _ _ _ _ _ => dg_tupA rfl rfl (dgs_cons (dg_name (i := 5) S.nd) (dgs_cons (dg_name (i := 6) S.nd) (dgs_nil)))) (fun _ _ _ _ _ => dts_one (dt_cmp (op_eqZ hr.units) od_eq (de_var 6) (de_var 1) (nomark _))) (fun _ _ _ _ _ => de_var 5))) (da_nil)))))))
/-! ### halls -/
def F_halls : En → Fl := sSeq (sDrop (eF (xCall f_require_hall_and_size (aCons (eV 0) (aCons (eV 1) (aCons (eC (.int 20)) (aNil))))))) (sRet (eCB cTup (aCons (eF (xCall f_halls_in (aCons (eV 0) (aCons (eV 1) (aNil))))) (aNil))))
def f_halls : En → Rf := runF 2 2 F_halls
theorem s_halls : FnScope ["n", "size"] ["n", "size"] (defScope (top 18)) := ⟨rfl, rfl, rfl, by decide +kernel, rfl, by decide +kernel, by decide +kernel⟩
theorem ok_halls {P : Program} {w : World} {mg : Str → Option Value} {base : Heap} {G : Gm} {f : Addr} {fd : FuncData} (F : FunD G.K "halls" "halls" (defArgs (top 18)) (defBody (top 18)) (defScope (top 18)) [] [] f fd) (Z : Fcts G.K mg) (C_require_hall_and_size : Cal G true P w mg base 5 "require_hall_and_size" ["n", "size", "most"] f_require_hall_and_size) (C_halls_in : Cal G true P w mg base 2 "halls_in" ["n", "size"] f_halls_in) :
    FnG true P w G.K mg base 6 f fd ["n", "size"] (spD G f_halls) :=
  have S := s_halls
  fnD' F S fun pd cdv A outer s H E hr hgu =>
    (ds_seq (ds_expr (de_frz (dx_callC rfl (C_require_hall_and_size.pd pd) (hr.mono (by decide)) hgu (takes_of rfl rfl rfl rfl) (da_cons (de_var 0) (da_cons (de_var 1) (da_cons ((de_globI Z.c_MOST_LISTED_HALL)) (da_nil))))))) (ds_one (ds_ret (de_callTy call_tupA cd_tup Z.n_tuple (by decide +kernel) (da_cons (de_frz (dx_callC rfl (C_halls_in.pd pd) (hr.mono (by decide)) hgu (takes_of rfl rfl rfl rfl) (da_cons (de_var 0) (da_cons (de_var 1) (da_nil))))) (da_nil))))))
/-! ### with_any -/
def g_with_any_b1 : En → Fl := sAugIx 2 (eV 3) oAddI (eIxO 2 (eOp oSub (eV 3) (eV 1)))
def F_with_any : En → Fl := sSeq (sAsgX (xCB nList (aCons (eV 0) (aNil))) 2) (sSeq (sFor (iRg2 (eV 1) (eLenO 2)) (gN 3) (g_with_any_b1)) (sRetV 2))
def f_with_any : En → Rf := runF 4 2 F_with_any
theorem s_with_any : FnScope ["numbers", "part", "found", "size"] ["numbers", "part"] (defScope (top 14)) := ⟨rfl, rfl, rfl, by decide +kernel, rfl, by decide +kernel, by decide +kernel⟩
theorem ok_with_any {P : Program} {w : World} {mg : Str → Option Value} {base : Heap} {G : Gm} {f : Addr} {fd : FuncData} (F : FunD G.K "with_any" "with_any" (defArgs (top 14)) (defBody (top 14)) (defScope (top 14)) [] [] f fd) (Z : Fcts G.K mg)  :
    FnG true P w G.K mg base 1 f fd ["numbers", "part"] (spD G f_with_any) :=
  have S := s_with_any
  fnD' F S fun pd cdv A outer s H E hr hgu =>
    (ds_seq (ds_setX (i := 2) S.nd (dx_callTy call_list_of cn_list Z.n_list (by decide +kernel) (da_cons (de_var 0) (da_nil)))) (ds_seq (ds_for (passes_of rfl) rfl (di_range2 Z.n_range (de_var 1) (de_lenO (i := 2) rfl Z.n_len (by decide +kernel))) (dg_name (i := 3) S.nd) (ds_one (ds_augIx (i := 2) rfl ipA_add ipd_add (de_var 3) (de_ixO (i := 2) rfl (de_op op_sub od_sub (de_var 3) (de_var 1)))))) (ds_one (ds_retV (i := 2)))))
/-! ### odd_numbers -/
def g_odd_numbers_b1 : En → Fl := sAsgX (xCall f_with_any (aCons (eVF 2) (aCons (eV 3) (aNil)))) 2
def F_odd_numbers : En → Fl := sSeq (sAsgX (xOp nCat (eF (xLst (aCons (eC (.int 1)) (aNil)))) (eF (xOp nRep (eF (xLst (aCons (eC (.int 0)) (aNil)))) (eV 1)))) 2) (sSeq (sFor (iRg3 (eC (.int 1)) (eOp oMul (eC (.int 2)) (eV 0)) (eC (.int 2))) (gN 3) (g_odd_numbers_b1)) (sRetV 2))
def f_odd_numbers : En → Rf := runF 4 2 F_odd_numbers
theorem s_odd_numbers : FnScope ["n", "size", "found", "part"] ["n", "size"] (defScope (top 15)) := ⟨rfl, rfl, rfl, by decide +kernel, rfl, by decide +kernel, by decide +kernel⟩
theorem ok_odd_numbers {P : Program} {w : World} {mg : Str → Option Value} {base : Heap} {G : Gm} {f : Addr} {fd : FuncData} (F : FunD G.K "odd_numbers" "odd_numbers" (defArgs (top 15)) (defBody (top 15)) (defScope (top 15)) [] [] f fd) (Z : Fcts G.K mg) (C_with_any : Cal G true P w mg base 1 "with_any" ["numbers", "part"] f_with_any) :
    FnG true P w G.K mg base 2 f fd ["n", "size"] (spD G f_odd_numbers) :=
  have S := s_odd_numbers
  fnD' F S fun pd cdv A outer s H E hr hgu =>
    (ds_seq (ds_setX (i := 2) S.nd (dx_op op_cat on_cat (de_frz (dx_lst (da_cons (de_int) (da_nil)))) (de_frz (dx_op op_rep on_rep (de_frz (dx_lst (da_cons (de_int) (da_nil)))) (de_var 1))))) (ds_seq (ds_for (passes_of rfl) rfl (di_range3 Z.n_range (de_int) (de_op op_mulA od_mul ((de_globI Z.c_TWO)) (de_var 0)) ((de_globI Z.c_TWO))) (dg_name (i := 3) S.nd) (ds_one (ds_setX (i := 2) S.nd (dx_callC rfl (C_with_any.pd pd) (hr.mono (by decide)) hgu (takes_of rfl rfl rfl rfl) (da_cons (de_varF 2) (da_cons (de_var 3) (da_nil))))))) (ds_one (ds_retV (i := 2)))))
/-! ### count_odd_below -/
def F_count_odd_below : En → Fl := sSeq (sDrop (eF (xCall f_require_hall_and_size (aCons (eV 0) (aCons (eV 1) (aCons (eC (.int 200)) (aNil))))))) (sRet (eOp oIx (eF (xCall f_odd_numbers (aCons (eV 0) (aCons (eV 1) (aNil))))) (eV 1)))
def f_count_odd_below : En → Rf := runF 2 2 F_count_odd_below
theorem s_count_odd_below : FnScope ["n", "size"] ["n", "size"] (defScope (top 20)) := ⟨rfl, rfl, rfl, by decide +kernel, rfl, by decide +kernel, by decide +kernel⟩
theorem ok_count_odd_below {P : Program} {w : World} {mg : Str → Option Value} {base : Heap} {G : Gm} {f : Addr} {fd : FuncData} (F : FunD G.K "count_odd_below" "count_odd_below" (defArgs (top 20)) (defBody (top 20)) (defScope (top 20)) [] [] f fd) (Z : Fcts G.K mg) (C_require_hall_and_size : Cal G true P w mg base 5 "require_hall_and_size" ["n", "size", "most"] f_require_hall_and_size) (C_odd_numbers : Cal G true P w mg base 2 "odd_numbers" ["n", "size"] f_odd_numbers) :
    FnG true P w G.K mg base 6 f fd ["n", "size"] (spD G f_count_odd_below) :=
  have S := s_count_odd_below
  fnD' F S fun pd cdv A outer s H E hr hgu =>
    (ds_seq (ds_expr (de_frz (dx_callC rfl (C_require_hall_and_size.pd pd) (hr.mono (by decide)) hgu (takes_of rfl rfl rfl rfl) (da_cons (de_var 0) (da_cons (de_var 1) (da_cons ((de_globI Z.c_MOST_COUNTED)) (da_nil))))))) (ds_one (ds_ret (de_ix ix_seq od_ix (de_frz (dx_callC rfl (C_odd_numbers.pd pd) (hr.mono (by decide)) hgu (takes_of rfl rfl rfl rfl) (da_cons (de_var 0) (da_cons (de_var 1) (da_nil))))) (de_var 1)))))
/-! ### count_halls -/
def F_count_halls : En → Fl := sSeq (sDrop (eF (xCall f_require_hall_and_size (aCons (eV 0) (aCons (eV 1) (aCons (eC (.int 200)) (aNil))))))) (sRet (eOp oIx (eF (xCall f_odd_numbers (aCons (eV 0) (aCons (eV 1) (aNil))))) (eV 1)))
def f_count_halls : En → Rf := runF 2 2 F_count_halls
theorem s_count_halls : FnScope ["n", "size"] ["n", "size"] (defScope (top 19)) := ⟨rfl, rfl, rfl, by decide +kernel, rfl, by decide +kernel, by decide +kernel⟩
theorem ok_count_halls {P : Program} {w : World} {mg : Str → Option Value} {base : Heap} {G : Gm} {f : Addr} {fd : FuncData} (F : FunD G.K "count_halls" "count_halls" (defArgs (top 19)) (defBody (top 19)) (defScope (top 19)) [] [] f fd) (Z : Fcts G.K mg) (C_require_hall_and_size : Cal G true P w mg base 5 "require_hall_and_size" ["n", "size", "most"] f_require_hall_and_size) (C_odd_numbers : Cal G true P w mg base 2 "odd_numbers" ["n", "size"] f_odd_numbers) :
    FnG true P w G.K mg base 6 f fd ["n", "size"] (spD G f_count_halls) :=
  have S := s_count_halls
  fnD' F S fun pd cdv A outer s H E hr hgu =>
    (ds_seq (ds_expr (de_frz (dx_callC rfl (C_require_hall_and_size.pd pd) (hr.mono (by decide)) hgu (takes_of rfl rfl rfl rfl) (da_cons (de_var 0) (da_cons (de_var 1) (da_cons ((de_globI Z.c_MOST_COUNTED)) (da_nil))))))) (ds_one (ds_ret (de_ix ix_seq od_ix (de_frz (dx_callC rfl (C_odd_numbers.pd pd) (hr.mono (by decide)) hgu (takes_of rfl rfl rfl rfl) (da_cons (de_var 0) (da_cons (de_var 1) (da_nil))))) (de_var 1)))))
/-! ### _law_roll -/
def F__law_roll : En → Fl := sSeq (sIf (tB1 (eOp oGt (eIxO 0 (eC (.int 0))) (eC (.int 0)))) (sSeq (sSet (eOp oMod (eCB cInt (aCons (eIxO 0 (eC (.int 0))) (aNil))) (eV 1)) 2) (sSeq (sSetIx 0 (eOp oDiv (eIxO 0 (eC (.int 0))) (eV 1)) (eC (.int 0))) (sRet (eV 2)))) (sNil)) (sSeq (sSetIx 0 (eOp oAdd (eIxO 0 (eC (.int 2))) (eC (.int 1))) (eC (.int 2))) (sSeq (sSet (eOp oMod (eCB cInt (aCons (eOp oAdd (eIxO 0 (eC (.int 1))) (eOp oMul (eC (.int 15486209)) (eIxO 0 (eC (.int 2))))) (aNil))) (eC (.int 2305843009213693951))) 3) (sSeq (sSet (eOp oAdd (eOp oMul (eOp oMod (eCB cInt (aCons (eOp oAdd (eOp oMul (eV 3) (eV 3)) (eOp oMul (eC (.int 199)) (eIxO 0 (eC (.int 2))))) (aNil))) (eC (.int 2305843009213693907))) (eC (.int 7368751))) (eV 3)) 4) (sRet (eOp oMod (eCB cInt (aCons (eOp oDiv (eV 4) (eC (.int 65536))) (aNil))) (eV 1))))))
def f__law_roll : En → Rf := runF 5 2 F__law_roll
theorem s__law_roll : FnScope ["dice", "total", "found", "one", "two"] ["dice", "total"] (defScope (top 23)) := ⟨rfl, rfl, rfl, by decide +kernel, rfl, by decide +kernel, by decide +kernel⟩
theorem ok__law_roll {P : Program} {w : World} {mg : Str → Option Value} {base : Heap} {G : Gm} {f : Addr} {fd : FuncData} (F : FunD G.K "_law_roll" "_law_roll" (defArgs (top 23)) (defBody (top 23)) (defScope (top 23)) [] [] f fd) (Z : Fcts G.K mg)  :
    FnG true P w G.K mg base 1 f fd ["dice", "total"] (spD G f__law_roll) :=
  have S := s__law_roll
  fnD' F S fun pd cdv A outer s H E hr hgu =>
    (ds_seq (ds_if (dt_cmp op_gt od_cmp (de_ixO (i := 0) rfl (de_int)) (de_int) (nomark _)) (ds_seq (ds_set (i := 2) S.nd (de_op op_modA od_mod (de_callTy call_int1 cd_int Z.n_int (by decide +kernel) (da_cons (de_ixO (i := 0) rfl (de_int)) (da_nil))) (de_var 1))) (ds_seq (ds_setIx (i := 0) rfl (de_op op_divA od_div (de_ixO (i := 0) rfl (de_int)) (de_var 1)) (de_int)) (ds_one (ds_ret (de_var 2))))) (ds_nil)) (ds_seq (ds_setIx (i := 0) rfl (de_op op_addA od_add (de_ixO (i := 0) rfl (de_int)) (de_int)) (de_int)) (ds_seq (ds_set (i := 3) S.nd (de_op op_modA od_mod (de_callTy call_int1 cd_int Z.n_int (by decide +kernel) (da_cons (de_op op_addA od_add (de_ixO (i := 0) rfl (de_int)) (de_op op_mulA od_mul (de_int) (de_ixO (i := 0) rfl (de_int)))) (da_nil))) (de_int))) (ds_seq (ds_set (i := 4) S.nd (de_op op_addA od_add (de_op op_mulA od_mul (de_op op_modA od_mod (de_callTy call_int1 cd_int Z.n_int (by decide +kernel) (da_cons (de_op op_addA od_add (de_op op_mulA od_mul (de_var 3) (de_var 3)) (de_op op_mulA od_mul (de_int) (de_ixO (i := 0) rfl (de_int)))) (da_nil))) (de_int)) (de_int)) (de_var 3))) (ds_one (ds_ret (de_op op_modA od_mod (de_callTy call_int1 cd_int Z.n_int (by decide +kernel) (da_cons (de_op op_divA od_div (de_var 4) (de_int)) (da_nil))) (de_var 1))))))))
/-! ### _law_ha_sums -/
def g__law_ha_sums_e1 : En → R D := eTup (aCons (eOp oAdd (eV 5) (eTup (aCons (eV 7) (aNil)))) (aCons (eOp oSub (eV 6) (eV 7)) (aNil)))
def g__law_ha_sums_b2 : En → Fl := sExt 4 (xLc [7] (iRg1 (eOp oAdd (eV 6) (eC (.int 1)))) (gN 7) (tT) (g__law_ha_sums_e1))
def g__law_ha_sums_b3 : En → Fl := sSeq (sAsgX (xLst (aNil)) 4) (sSeq (sFor (iSeq (eVF 2)) (gTA 2 (gsC (gN 5) (gsC (gN 6) (gsN)))) (g__law_ha_sums_b2)) (sAsgX (xV (eVF 4)) 2))
def g__law_ha_sums_e4 : En → R D := eOp oAdd (eV 5) (eTup (aCons (eV 6) (aNil)))
def F__law_ha_sums : En → Fl := sSeq (sAsgX (xLst (aCons (eTup (aCons (eTup (aNil)) (aCons (eV 1) (aNil)))) (aNil))) 2) (sSeq (sFor (iRg1 (eOp oSub (eV 0) (eC (.int 1)))) (gN 3) (g__law_ha_sums_b3)) (sRetX (xLc [5, 6] (iSeq (eVF 2)) (gTA 2 (gsC (gN 5) (gsC (gN 6) (gsN)))) (tT) (g__law_ha_sums_e4))))
def f__law_ha_sums : En → Rf := runF 8 2 F__law_ha_sums
theorem s__law_ha_sums : FnScope ["n", "size", "found", "turn", "later", "row", "left", "one"] ["n", "size"] (defScope (top 27)) := ⟨rfl, rfl, rfl, by decide +kernel, rfl, by decide +kernel, by decide +kernel⟩
theorem ok__law_ha_sums {P : Program} {w : World} {mg : Str → Option Value} {base : Heap} {G : Gm} {f : Addr} {fd : FuncData} (F : FunD G.K "_law_ha_sums" "_law_ha_sums" (defArgs (top 27)) (defBody (top 27)) (defScope (top 27)) [] [] f fd) (Z : Fcts G.K mg)  :
    FnG true P w G.K mg base 1 f fd ["n", "size"] (spD G f__law_ha_sums) :=
  have S := s__law_ha_sums
  fnD' F S fun pd cdv A outer s H E hr hgu =>
    (ds_seq (ds_setX (i := 2) S.nd (dx_lst (da_cons (de_tup (da_cons (de_tup (da_nil)) (da_cons (de_var 1) (da_nil)))) (da_nil)))) (ds_seq (ds_for (passes_of rfl) rfl (di_range1 Z.n_range (de_op op_sub od_sub (de_var 0) (de_int))) (dg_name (i := 3) S.nd) (ds_seq (ds_setX (i := 4) S.nd (dx_lst (da_nil))) (ds_seq (ds_for (passes_of rfl) rfl (di_seq rfl (de_varF 2)) (dg_tupA rfl rfl (dgs_cons (dg_name (i := 5) S.nd) (dgs_cons (dg_name (i := 6) S.nd) (dgs_nil)))) (ds_one (ds_ext (i := 4) rfl (dx_lc (nm := [("one", 7)]) rfl S.nd (di_range1 Z.n_range (de_op op_addA od_add (de_var 6) (de_int))) (by kernel_rfl) (by decide) (fun _ _ _ _ _ => dg_name (i := 7) S.nd) (fun _ _ _ _ _ => dts_nil) (fun _ _ _ _ _ => de_tup (da_cons (de_op op_addA od_add (de_var 5) (de_tup (da_cons (de_var 7) (da_nil)))) (da_cons (de_op op_sub od_sub (de_var 6) (de_var 7)) (da_nil)))))))) (ds_one (ds_setX (i := 2) S.nd (dx_val (de_varF 4))))))) (ds_one (ds_retX (dx_lc (nm := [("row", 5), ("left", 6)]) rfl S.nd (di_seq rfl (de_varF 2)) (by kernel_rfl) (by decide) (fun _ _ _ _ _ => dg_tupA rfl rfl (dgs_cons (dg_name (i := 5) S.nd) (dgs_cons (dg_name (i := 6) S.nd) (dgs_nil)))) (fun _ _ _ _ _ => dts_nil) (fun _ _ _ _ _ => de_op op_addA od_add (de_var 5) (de_tup (da_cons (de_var 6) (da_nil)))))))))
/-! ### _law_ha_is_hall -/
def g__law_ha_is_hall_e1 : En → R D := eV 2
def g__law_ha_is_hall_t2 : En → R Bool := tB1 (eOp oLtK (eOp oMul (eOp oIx (eV 0) (eV 2)) (eOp oSub (eOp oSub (eV 1) (eV 2)) (eC (.int 1)))) (eOp oMul (eOp oIx (eV 0) (eOp oAdd (eV 2) (eC (.int 1)))) (eOp oSub (eV 1) (eV 2))))
def F__law_ha_is_hall : En → Fl := sSeq (sSet (eCB cLen (aCons (eV 0) (aNil))) 1) (sRet (eOp oEq (eF (xLc [2] (iRg1 (eOp oSub (eV 1) (eC (.int 1)))) (gN 2) (g__law_ha_is_hall_t2) (g__law_ha_is_hall_e1))) (eF (xLst (aNil)))))
def f__law_ha_is_hall : En → Rf := runF 3 1 F__law_ha_is_hall
theorem s__law_ha_is_hall : FnScope ["members", "n", "i"] ["members"] (defScope (top 26)) := ⟨rfl, rfl, rfl, by decide +kernel, rfl, by decide +kernel, by decide +kernel⟩
theorem ok__law_ha_is_hall {P : Program} {w : World} {mg : Str → Option Value} {base : Heap} {G : Gm} {f : Addr} {fd : FuncData} (F : FunD G.K "_law_ha_is_hall" "_law_ha_is_hall" (defArgs (top 26)) (defBody (top 26)) (defScope (top 26)) [] [] f fd) (Z : Fcts G.K mg)  :
    FnG true P w G.K mg base 1 f fd ["members"] (spD G f__law_ha_is_hall) :=
  have S := s__law_ha_is_hall
  fnD' F S fun pd cdv A outer s H E hr hgu =>
    (ds_seq (ds_set (i := 1) S.nd (de_callB call_lenA cd_len Z.n_len (by decide +kernel) (da_cons (de_var 0) (da_nil)))) (ds_one (ds_ret (de_cmp (op_eqZ hr.units) od_eq (de_frz (dx_lc (nm := [("i", 2)]) rfl S.nd (di_range1 Z.n_range (de_op op_sub od_sub (de_var 1) (de_int))) (by kernel_rfl) (by decide) (fun _ _ _ _ _ => dg_name (i := 2) S.nd) (fun _ _ _ _ _ => dts_one (dt_cmp (op_ltK hr.units) od_cmpK (de_op op_mulA od_mul (de_ix ix_seq od_ix (de_var 0) (de_var 2)) (de_op op_sub od_sub (de_op op_sub od_sub (de_var 1) (de_var 2)) (de_int))) (de_op op_mulA od_mul (de_ix ix_seq od_ix (de_var 0) (de_op op_addA od_add (de_var 2) (de_int))) (de_op op_sub od_sub (de_var 1) (de_var 2))) (nomark _))) (fun _ _ _ _ _ => de_var 2))) (de_frz (dx_lst (da_nil))) (nomark _)))))
/-! ### _law_odd -/
def g__law_odd_b1 : En → Fl := sSetIx 2 (eOp oAdd (eIxO 2 (eV 4)) (eIxO 2 (eOp oSub (eV 4) (eV 3)))) (eV 4)
def g__law_odd_b2 : En → Fl := sFor (iRg2 (eV 3) (eOp oAdd (eV 1) (eC (.int 1)))) (gN 4) (g__law_odd_b1)
def F__law_odd : En → Fl := sSeq (sAsgX (xOp nCat (eF (xLst (aCons (eC (.int 1)) (aNil)))) (eF (xOp nRep (eF (xLst (aCons (eC (.int 0)) (aNil)))) (eV 1)))) 2) (sSeq (sFor (iRg3 (eC (.int 1)) (eOp oMul (eC (.int 2)) (eV 0)) (eC (.int 2))) (gN 3) (g__law_odd_b2)) (sRet (eIxO 2 (eV 1))))
def f__law_odd : En → Rf := runF 5 2 F__law_odd
theorem s__law_odd : FnScope ["n", "size", "found", "part", "here"] ["n", "size"] (defScope (top 28)) := ⟨rfl, rfl, rfl, by decide +kernel, rfl, by decide +kernel, by decide +kernel⟩
theorem ok__law_odd {P : Program} {w : World} {mg : Str → Option Value} {base : Heap} {G : Gm} {f : Addr} {fd : FuncData} (F : FunD G.K "_law_odd" "_law_odd" (defArgs (top 28)) (defBody (top 28)) (defScope (top 28)) [] [] f fd) (Z : Fcts G.K mg)  :
    FnG true P w G.K mg base 1 f fd ["n", "size"] (spD G f__law_odd) :=
  have S := s__law_odd
  fnD' F S fun pd cdv A outer s H E hr hgu =>
    (ds_seq (ds_setX (i := 2) S.nd (dx_op op_cat on_cat (de_frz (dx_lst (da_cons (de_int) (da_nil)))) (de_frz (dx_op op_rep on_rep (de_frz (dx_lst (da_cons (de_int) (da_nil)))) (de_var 1))))) (ds_seq (ds_for (passes_of rfl) rfl (di_range3 Z.n_range (de_int) (de_op op_mulA od_mul (de_int) (de_var 0)) (de_int)) (dg_name (i := 3) S.nd) (ds_one (ds_for (passes_of rfl) rfl (di_range2 Z.n_range (de_var 3) (de_op op_addA od_add (de_var 1) (de_int))) (dg_name (i := 4) S.nd) (ds_one (ds_setIx (i := 2) rfl (de_op op_addA od_add (de_ixO (i := 2) rfl (de_var 4)) (de_ixO (i := 2) rfl (de_op op_sub od_sub (de_var 4) (de_var 3)))) (de_var 4)))))) (ds_one (ds_ret (de_ixO (i := 2) rfl (de_var 1))))))
/-! ### _law_ascending -/
def g__law_ascending_e1 : En → R D := eTup (aCons (eV 1) (aCons (eC (.bool true)) (aNil)))
def F__law_ascending : En → Fl := sRetX (xSD (eF (xLc [1] (iSeq (eV 0)) (gN 1) (tT) (g__law_ascending_e1))))
def f__law_ascending : En → Rf := runF 2 1 F__law_ascending
theorem s__law_ascending : FnScope ["items", "one"] ["items"] (defScope (top 24)) := ⟨rfl, rfl, rfl, by decide +kernel, rfl, by decide +kernel, by decide +kernel⟩
theorem ok__law_ascending {P : Program} {w : World} {mg : Str → Option Value} {base : Heap} {G : Gm} {f : Addr} {fd : FuncData} (F : FunD G.K "_law_ascending" "_law_ascending" (defArgs (top 24)) (defBody (top 24)) (defScope (top 24)) [] [] f fd) (Z : Fcts G.K mg)  :
    FnG true P w G.K mg base 1 f fd ["items"] (spD G f__law_ascending) :=
  have S := s__law_ascending
  fnD' F S fun pd cdv A outer s H E hr hgu =>
    (ds_one (ds_retX (dx_sdict rfl hr.units rfl Z.n_sorted Z.n_dict (by decide +kernel) (by decide +kernel) (de_frz (dx_lc (nm := [("one", 1)]) rfl S.nd (di_seq rfl (de_var 0)) (by kernel_rfl) (by decide) (fun _ _ _ _ _ => dg_name (i := 1) S.nd) (fun _ _ _ _ _ => dts_nil) (fun _ _ _ _ _ => de_tup (da_cons (de_var 1) (da_cons (de_bl) (da_nil)))))))))
/-! ### _law_rows -/
def g__law_rows_e1 : En → R D := eOp oAdd (eV 4) (eTup (aCons (eV 7) (aNil)))
def g__law_rows_b2 : En → Fl := sSeq (sPars [5, 6] (yCons (xV (eIf (tB1 (eOp oNe (eV 4) (eTup (aNil)))) (eOp oIx (eV 4) (eUn oNeg (eC (.int 1)))) (eV 0))) (yCons (xV (eOp oSub (eV 0) (eCB cSumA (aCons (eV 4) (aNil))))) (yNil)))) (sExtV 3 (eIf (tB1 (eOp oGtK (eV 6) (eC (.int 0)))) (eF (xLc [7] (iRg2 (eC (.int 1)) (eOp oAdd (eCB cMin2 (aCons (eV 5) (aCons (eV 6) (aNil)))) (eC (.int 1)))) (gN 7) (tT) (g__law_rows_e1))) (eF (xLst (aCons (eV 4) (aNil))))))
def g__law_rows_b3 : En → Fl := sSeq (sAsgX (xLst (aNil)) 3) (sSeq (sFor (iSeq (eVF 1)) (gN 4) (g__law_rows_b2)) (sAsgX (xV (eVF 3)) 1))
def F__law_rows : En → Fl := sSeq (sAsgX (xLst (aCons (eTup (aNil)) (aNil))) 1) (sSeq (sFor (iRg1 (eV 0)) (gN 2) (g__law_rows_b3)) (sRetX (xCB nSrtA (aCons (eVF 1) (aNil)))))
def f__law_rows : En → Rf := runF 8 1 F__law_rows
theorem s__law_rows : FnScope ["n", "found", "turn", "later", "row", "top", "left", "one"] ["n"] (defScope (top 25)) := ⟨rfl, rfl, rfl, by decide +kernel, rfl, by decide +kernel, by decide +kernel⟩
theorem ok__law_rows {P : Program} {w : World} {mg : Str → Option Value} {base : Heap} {G : Gm} {f : Addr} {fd : FuncData} (F : FunD G.K "_law_rows" "_law_rows" (defArgs (top 25)) (defBody (top 25)) (defScope (top 25)) [] [] f fd) (Z : Fcts G.K mg)  :
    FnG true P w G.K mg base 1 f fd ["n"] (spD G f__law_rows) :=
  have S := s__law_rows
  fnD' F S fun pd cdv A outer s H E hr hgu =>
    (ds_seq (ds_setX (i := 1) S.nd (dx_lst (da_cons (de_tup (da_nil)) (da_nil)))) (ds_seq (ds_for (passes_of rfl) rfl (di_range1 Z.n_range (de_var 0)) (dg_name (i := 2) S.nd) (ds_seq (ds_setX (i := 3) S.nd (dx_lst (da_nil))) (ds_seq (ds_for (passes_of rfl) rfl (di_seq rfl (de_varF 1)) (dg_name (i := 4) S.nd) (ds_seq (ds_par2 (i := 5) (j := 6) rfl S.nd (dy_cons (dx_val (de_if (dt_cmp (op_neZ hr.units) od_ne (de_var 4) (de_tup (da_nil)) (nomark _)) (de_ix ix_seq od_ix (de_var 4) (de_un un_neg ud_neg (de_int))) (de_var 0))) (dy_cons (dx_val (de_op op_sub od_sub (de_var 0) (de_callB (cr_sumA rfl) cd_sumA Z.n_sum (by decide +kernel) (da_cons (de_var 4) (da_nil))))) (dy_nil)))) (ds_one (ds_extV (i := 3) rfl (de_if (dt_cmp (op_gtK hr.units) od_cmpK (de_var 6) (de_int) (nomark _)) (de_frz (dx_lc (nm := [("one", 7)]) rfl S.nd (di_range2 Z.n_range (de_int) (de_op op_addA od_add (de_callB (call_min2 rfl) cd_min2 Z.n_min (by decide +kernel) (da_cons (de_var 5) (da_cons (de_var 6) (da_nil)))) (de_int))) (by kernel_rfl) (by decide) (fun _ _ _ _ _ => dg_name (i := 7) S.nd) (fun _ _ _ _ _ => dts_nil) (fun _ _ _ _ _ => de_op op_addA od_add (de_var 4) (de_tup (da_cons (de_var 7) (da_nil)))))) (de_frz (dx_lst (da_cons (de_var 4) (da_nil))))))))) (ds_one (ds_setX (i := 1) S.nd (dx_val (de_varF 3))))))) (ds_one (ds_retX (dx_callB (cr_srtA hr.units) cn_srtA Z.n_sorted (by decide +kernel) (da_cons (de_varF 1) (da_nil)))))))
/-! ### _law_right -/
def g__law_right_e1 : En → R D := eV 5
def g__law_right_t2 : En → R Bool := tTru (eF (xCall f__law_ha_is_hall (aCons (eV 5) (aNil))))
def g__law_right_e3 : En → R D := eV 5
def g__law_right_t4 : En → R Bool := tB1 (eOp oEq (eCB cLen (aCons (eF (xCall f__law_ascending (aCons (eV 5) (aNil)))) (aNil))) (eCB cLen (aCons (eV 5) (aNil))))
def g__law_right_e5 : En → R D := eOp oAdd (eV 5) (eOp oMulT (eTup (aCons (eC (.int 0)) (aNil))) (eOp oSub (eV 1) (eCB cLen (aCons (eV 5) (aNil)))))
def g__law_right_e6 : En → R D := eV 8
def g__law_right_t7 : En → R Bool := tB1 (eOp oGtK (eV 8) (eC (.int 0)))
def g__law_right_b8 : En → Fl := sSeq (sAsgX (xLc [8] (iSeq (eV 5)) (gN 8) (g__law_right_t7) (g__law_right_e6)) 6) (sIf (tB1 (eOp oNe (eCB cLen (aCons (eF (xCall f__law_ascending (aCons (eVF 6) (aNil)))) (aNil))) (eLenO 6))) (sRet (eC (.bool false))) (sNil))
def g__law_right_e9 : En → R D := eV 5
def g__law_right_t10 : En → R Bool := tOr1 (tB1 (eOp oNe (eCB cSumA (aCons (eV 5) (aNil))) (eV 2))) (tOr1 (tB1 (eOp oNe (eCB cLen (aCons (eV 5) (aNil))) (eV 1))) (tNot1 (tTru (eF (xCall f__law_ha_is_hall (aCons (eV 5) (aNil)))))))
def F__law_right : En → Fl := sSeq (sSet (eOp oAdd (eC (.int 1)) (eF (xCallI 0 f__law_roll (aCons (eC (.int 6)) (aNil))))) 1) (sSeq (sSet (eF (xCallI 0 f__law_roll (aCons (eOp oIx (eF (xLst (aCons (eC (.int 21)) (aCons (eC (.int 21)) (aCons (eC (.int 16)) (aCons (eC (.int 11)) (aCons (eC (.int 8)) (aCons (eC (.int 7)) (aNil))))))))) (eOp oSub (eV 1) (eC (.int 1)))) (aNil)))) 2) (sSeq (sAsgX (xLc [5] (iSeq (eF (xCall f__law_ha_sums (aCons (eV 1) (aCons (eV 2) (aNil)))))) (gN 5) (g__law_right_t2) (g__law_right_e1)) 3) (sSeq (sIf (tOr1 (tB1 (eOp oNe (eF (xCall f_halls (aCons (eV 1) (aCons (eV 2) (aNil))))) (eCB cTup (aCons (eVF 3) (aNil))))) (tB1 (eRep2 false (eF (xCall f_count_halls (aCons (eV 1) (aCons (eV 2) (aNil))))) (eLenO 3)))) (sRet (eC (.bool false))) (sNil)) (sSeq (sIf (tB1 (eRep2 false (eF (xCall f_count_odd_below (aCons (eV 1) (aCons (eV 2) (aNil))))) (eLenO 3))) (sRet (eC (.bool false))) (sNil)) (sSeq (sIf (tB1 (eOp oLeK (eV 2) (eV 1))) (sSeq (sAsgX (xLc [5] (iSeq (eF (xCall f__law_rows (aCons (eV 2) (aNil))))) (gN 5) (g__law_right_t4) (g__law_right_e3)) 4) (sIf (tB1 (eOp oNe (eVF 3) (eF (xCB nSrtA (aCons (eF (xLc [5] (iSeq (eVF 4)) (gN 5) (tT) (g__law_right_e5))) (aNil)))))) (sRet (eC (.bool false))) (sNil))) (sNil)) (sSeq (sFor (iSeq (eVF 3)) (gN 5) (g__law_right_b8)) (sSeq (sPars [1, 2] (yCons (xV (eOp oAdd (eC (.int 1)) (eF (xCallI 0 f__law_roll (aCons (eC (.int 6)) (aNil)))))) (yCons (xV (eF (xCallI 0 f__law_roll (aCons (eC (.int 201)) (aNil))))) (yNil)))) (sSeq (sIf (tB1 (eRep2 false (eF (xLst (aCons (eF (xCall f_count_halls (aCons (eV 1) (aCons (eV 2) (aNil))))) (aCons (eF (xCall f_count_odd_below (aCons (eV 1) (aCons (eV 2) (aNil))))) (aNil))))) (eF (xOp nRep (eF (xLst (aCons (eF (xCall f__law_odd (aCons (eV 1) (aCons (eV 2) (aNil))))) (aNil)))) (eC (.int 2)))))) (sRet (eC (.bool false))) (sNil)) (sSeq (sSet (eF (xCallI 0 f__law_roll (aCons (eC (.int 21)) (aNil)))) 2) (sSeq (sSet (eF (xCall f_halls (aCons (eV 1) (aCons (eV 2) (aNil))))) 7) (sSeq (sIf (tOr1 (tB1 (eOp oNe (eCB cLen (aCons (eV 7) (aNil))) (eF (xCall f__law_odd (aCons (eV 1) (aCons (eV 2) (aNil))))))) (tB1 (eOp oNe (eF (xCB nList (aCons (eV 7) (aNil)))) (eF (xCall f__law_ascending (aCons (eV 7) (aNil))))))) (sRet (eC (.bool false))) (sNil)) (sRet (eOp oEq (eF (xLc [5] (iSeq (eV 7)) (gN 5) (g__law_right_t10) (g__law_right_e9))) (eF (xLst (aNil))))))))))))))))
def f__law_right : En → Rf := runF 9 1 F__law_right
theorem s__law_right : FnScope ["dice", "n", "size", "due", "unlike", "row", "some", "told", "one"] ["dice"] (defScope (top 29)) := ⟨rfl, rfl, rfl, by decide +kernel, rfl, by decide +kernel, by decide +kernel⟩
theorem ok__law_right {P : Program} {w : World} {mg : Str → Option Value} {base : Heap} {G : Gm} {f : Addr} {fd : FuncData} (F : FunD G.K "_law_right" "_law_right" (defArgs (top 29)) (defBody (top 29)) (defScope (top 29)) [] [] f fd) (Z : Fcts G.K mg) (C__law_roll : Cal G true P w mg base 1 "_law_roll" ["dice", "total"] f__law_roll) (C__law_ha_sums : Cal G true P w mg base 1 "_law_ha_sums" ["n", "size"] f__law_ha_sums) (C__law_ha_is_hall : Cal G true P w mg base 1 "_law_ha_is_hall" ["members"] f__law_ha_is_hall) (C_halls : Cal G true P w mg base 6 "halls" ["n", "size"] f_halls) (C_count_halls : Cal G true P w mg base 6 "count_halls" ["n", "size"] f_count_halls) (C_count_odd_below : Cal G true P w mg base 6 "count_odd_below" ["n", "size"] f_count_odd_below) (C__law_rows : Cal G true P w mg base 1 "_law_rows" ["n"] f__law_rows) (C__law_ascending : Cal G true P w mg base 1 "_law_ascending" ["items"] f__law_ascending) (C__law_odd : Cal G true P w mg base 1 "_law_odd" ["n", "size"] f__law_odd) :
    FnG true P w G.K mg base 7 f fd ["dice"] (spD G f__law_right) :=
  have S := s__law_right
  fnD' F S fun pd cdv A outer s H E hr hgu =>
    (ds_seq (ds_set (i := 1) S.nd (de_op op_addA od_add (de_int) (de_frz (dx_callIC (i := 0) rfl (C__law_roll.pd pd) (hr.mono (by decide)) hgu (takes_of rfl rfl rfl rfl) (da_cons (de_int) (da_nil)))))) (ds_seq (ds_set (i := 2) S.nd (de_frz (dx_callIC (i := 0) rfl (C__law_roll.pd pd) (hr.mono (by decide)) hgu (takes_of rfl rfl rfl rfl) (da_cons (de_ix ix_seq od_ix (de_frz (dx_lst (da_cons (de_int) (da_cons (de_int) (da_cons (de_int) (da_cons (de_int) (da_cons (de_int) (da_cons (de_int) (da_nil))))))))) (de_op op_sub od_sub (de_var 1) (de_int))) (da_nil))))) (ds_seq (ds_setLc (i := 3) (nm := [("row", 5)]) rfl S.nd (di_seq rfl (de_frz (dx_callC rfl (C__law_ha_sums.pd pd) (hr.mono (by decide)) hgu (takes_of rfl rfl rfl rfl) (da_cons (de_var 1) (da_cons (de_var 2) (da_nil)))))) (by kernel_rfl) (by decide) (fun _ _ _ _ _ => dg_name (i := 5) S.nd) (fun _ _ _ _ _ => dts_one (dt_tru rfl (de_frz (dx_callC rfl (C__law_ha_is_hall.pd pd) (hr.mono (by decide)) hgu L2.takes0 (da_cons (de_var 5) (da_nil)))))) (fun _ _ _ _ _ => de_var 5)) (ds_seq (ds_if (PW.pt (dw_or (dt_cmp (op_neZ hr.units) od_ne (de_frz (dx_callC rfl (C_halls.pd pd) (hr.mono (by decide)) hgu (takes_of rfl rfl rfl rfl) (da_cons (de_var 1) (da_cons (de_var 2) (da_nil))))) (de_callTy call_tupA cd_tup Z.n_tuple (by decide +kernel) (da_cons (de_varF 3) (da_nil))) (nomark _)) (dw_or1 (dt_repNe rfl (hgu rfl) hr.units Z.n_repr (de_frz (dx_callC rfl (C_count_halls.pd pd) (hr.mono (by decide)) hgu (takes_of rfl rfl rfl rfl) (da_cons (de_var 1) (da_cons (de_var 2) (da_nil))))) (de_lenO (i := 3) rfl Z.n_len (by decide +kernel)))))) (ds_one (ds_ret (de_bl))) (ds_nil)) (ds_seq (ds_if (dt_repNe rfl (hgu rfl) hr.units Z.n_repr (de_frz (dx_callC rfl (C_count_odd_below.pd pd) (hr.mono (by decide)) hgu (takes_of rfl rfl rfl rfl) (da_cons (de_var 1) (da_cons (de_var 2) (da_nil))))) (de_lenO (i := 3) rfl Z.n_len (by decide +kernel))) (ds_one (ds_ret (de_bl))) (ds_nil)) (ds_seq (ds_if (dt_cmp (op_leK hr.units) od_cmpK (de_var 2) (de_var 1) (nomark _)) (ds_seq (ds_setLc (i := 4) (nm := [("row", 5)]) rfl S.nd (di_seq rfl (de_frz (dx_callC rfl (C__law_rows.pd pd) (hr.mono (by decide)) hgu (takes_of rfl rfl rfl rfl) (da_cons (de_var 2) (da_nil))))) (by kernel_rfl) (by decide) (fun _ _ _ _ _ => dg_name (i := 5) S.nd) (fun _ _ _ _ _ => dts_one (dt_cmp (op_eqZ hr.units) od_eq (de_callB call_lenA cd_len Z.n_len (by decide +kernel) (da_cons (de_frz (dx_callC rfl (C__law_ascending.pd pd) (hr.mono (by decide)) hgu L2.takes0 (da_cons (de_var 5) (da_nil)))) (da_nil))) (de_callB call_lenA cd_len Z.n_len (by decide +kernel) (da_cons (de_var 5) (da_nil))) (nomark _))) (fun _ _ _ _ _ => de_var 5)) (ds_one (ds_if (dt_cmp (op_neZ hr.units) od_ne (de_varF 3) (de_frz (dx_callB (cr_srtA hr.units) cn_srtA Z.n_sorted (by decide +kernel) (da_cons (de_frz (dx_lc (nm := [("row", 5)]) rfl S.nd (di_seq rfl (de_varF 4)) (by kernel_rfl) (by decide) (fun _ _ _ _ _ => dg_name (i := 5) S.nd) (fun _ _ _ _ _ => dts_nil) (fun _ _ _ _ _ => de_op op_addA od_add (de_var 5) (de_op op_mulT od_mulT (de_tup (da_cons (de_int) (da_nil))) (de_op op_sub od_sub (de_var 1) (de_callB call_lenA cd_len Z.n_len (by decide +kernel) (da_cons (de_var 5) (da_nil)))))))) (da_nil)))) (nomark _)) (ds_one (ds_ret (de_bl))) (ds_nil)))) (ds_nil)) (ds_seq (ds_for (passes_of rfl) rfl (di_seq rfl (de_varF 3)) (dg_name (i := 5) S.nd) (ds_seq (ds_setLc (i := 6) (nm := [("one", 8)]) rfl S.nd (di_seq rfl (de_var 5)) (by kernel_rfl) (by decide) (fun _ _ _ _ _ => dg_name (i := 8) S.nd) (fun _ _ _ _ _ => dts_one (dt_cmp (op_gtK hr.units) od_cmpK (de_var 8) (de_int) (nomark _))) (fun _ _ _ _ _ => de_var 8)) (ds_one (ds_if (dt_cmp (op_neZ hr.units) od_ne (de_callB call_lenA cd_len Z.n_len (by decide +kernel) (da_cons (de_frz (dx_callC rfl (C__law_ascending.pd pd) (hr.mono (by decide)) hgu (takes_of rfl rfl rfl rfl) (da_cons (de_varF 6) (da_nil)))) (da_nil))) (de_lenO (i := 6) rfl Z.n_len (by decide +kernel)) (nomark _)) (ds_one (ds_ret (de_bl))) (ds_nil))))) (ds_seq (ds_pars (is := [1, 2]) rfl rfl (dy_cons (dx_val (de_op op_addA od_add (de_int) (de_frz (dx_callIC (i := 0) rfl (C__law_roll.pd pd) (hr.mono (by decide)) hgu (takes_of rfl rfl rfl rfl) (da_cons (de_int) (da_nil)))))) (dy_cons (dx_val (de_frz (dx_callIC (i := 0) rfl (C__law_roll.pd pd) (hr.mono (by decide)) hgu (takes_of rfl rfl rfl rfl) (da_cons (de_int) (da_nil))))) (dy_nil))) (pgs_cons (pg_name (i := 1) S.nd rfl (by first | exact Or.inl rfl | exact Or.inr rfl)) (pgs_cons (pg_name (i := 2) S.nd rfl (by first | exact Or.inl rfl | exact Or.inr rfl)) (pgs_nil)))) (ds_seq (ds_if (dt_repNe rfl (hgu rfl) hr.units Z.n_repr (de_frz (dx_lst (da_cons (de_frz (dx_callC rfl (C_count_halls.pd pd) (hr.mono (by decide)) hgu (takes_of rfl rfl rfl rfl) (da_cons (de_var 1) (da_cons (de_var 2) (da_nil))))) (da_cons (de_frz (dx_callC rfl (C_count_odd_below.pd pd) (hr.mono (by decide)) hgu (takes_of rfl rfl rfl rfl) (da_cons (de_var 1) (da_cons (de_var 2) (da_nil))))) (da_nil))))) (de_frz (dx_op op_rep on_rep (de_frz (dx_lst (da_cons (de_frz (dx_callC rfl (C__law_odd.pd pd) (hr.mono (by decide)) hgu (takes_of rfl rfl rfl rfl) (da_cons (de_var 1) (da_cons (de_var 2) (da_nil))))) (da_nil)))) (de_int)))) (ds_one (ds_ret (de_bl))) (ds_nil)) (ds_seq (ds_set (i := 2) S.nd (de_frz (dx_callIC (i := 0) rfl (C__law_roll.pd pd) (hr.mono (by decide)) hgu (takes_of rfl rfl rfl rfl) (da_cons (de_int) (da_nil))))) (ds_seq (ds_set (i := 7) S.nd (de_frz (dx_callC rfl (C_halls.pd pd) (hr.mono (by decide)) hgu (takes_of rfl rfl rfl rfl) (da_cons (de_var 1) (da_cons (de_var 2) (da_nil)))))) (ds_seq (ds_if (PW.pt (dw_or (dt_cmp (op_neZ hr.units) od_ne (de_callB call_lenA cd_len Z.n_len (by decide +kernel) (da_cons (de_var 7) (da_nil))) (de_frz (dx_callC rfl (C__law_odd.pd pd) (hr.mono (by decide)) hgu (takes_of rfl rfl rfl rfl) (da_cons (de_var 1) (da_cons (de_var 2) (da_nil))))) (nomark _)) (dw_or1 (dt_cmp (op_neZ hr.units) od_ne (de_frz (dx_callTy call_list_of cn_list Z.n_list (by decide +kernel) (da_cons (de_var 7) (da_nil)))) (de_frz (dx_callC rfl (C__law_ascending.pd pd) (hr.mono (by decide)) hgu (takes_of rfl rfl rfl rfl) (da_cons (de_var 7) (da_nil)))) (nomark _))))) (ds_one (ds_ret (de_bl))) (ds_nil)) (ds_one (ds_ret (de_cmp (op_eqZ hr.units) od_eq (de_frz (dx_lc (nm := [("row", 5)]) rfl S.nd (di_seq rfl (de_var 7)) (by kernel_rfl) (by decide) (fun _ _ _ _ _ => dg_name (i := 5) S.nd) (fun _ _ _ _ _ => dts_one (PW.pt (dw_or (dt_cmp (op_neZ hr.units) od_ne (de_callB (cr_sumA rfl) cd_sumA Z.n_sum (by decide +kernel) (da_cons (de_var 5) (da_nil))) (de_var 2) (nomark _)) (dw_or (dt_cmp (op_neZ hr.units) od_ne (de_callB call_lenA cd_len Z.n_len (by decide +kernel) (da_cons (de_var 5) (da_nil))) (de_var 1) (nomark _)) (dw_or1 (dt_not (dt_tru rfl (de_frz (dx_callC rfl (C__law_ha_is_hall.pd pd) (hr.mono (by decide)) hgu L2.takes0 (da_cons (de_var 5) (da_nil))))))))))) (fun _ _ _ _ _ => de_var 5))) (de_frz (dx_lst (da_nil))) (nomark _))))))))))))))))
/-! ### law -/
def g_law_b1 : En → Fl := sIf (tNot1 (tTru (eF (xCallI 2 f__law_right (aNil))))) (sRet (eC (.bool false))) (sNil)
def g_law_b2 : En → Fl := sSeq (sAsgX (xCallR 0 f__law_dice (aCons (eV 1) (aNil))) 2) (sFor (iRg1 (eC (.int 4))) (gN 3) (g_law_b1))
def F_law : En → Fl := sSeq (sFor (iRg1 (eCB cMax2 (aCons (eC (.int 1)) (aCons (eCB cMin2 (aCons (eC (.int 4)) (aCons (eLenO 0) (aNil)))) (aNil))))) (gN 1) (g_law_b2)) (sSeq (sAsgX (xLst (aCons (eF (xCall f_halls (aCons (eC (.int 2)) (aCons (eC (.int 3)) (aNil))))) (aCons (eF (xCall f_count_odd_below (aCons (eC (.int 2)) (aCons (eC (.int 3)) (aNil))))) (aCons (eF (xCall f_halls (aCons (eC (.int 3)) (aCons (eC (.int 2)) (aNil))))) (aCons (eF (xCall f_count_halls (aCons (eC (.int 3)) (aCons (eC (.int 2)) (aNil))))) (aCons (eF (xCall f_halls (aCons (eC (.int 1)) (aCons (eC (.int 4)) (aNil))))) (aCons (eF (xCall f_count_halls (aCons (eC (.int 6)) (aCons (eC (.int 0)) (aNil))))) (aNil)))))))) 4) (sSeq (sAsgX (xOp nCat (eVF 4) (eF (xLst (aCons (eF (xCall f_halls (aCons (eC (.int 3)) (aCons (eC (.int 6)) (aNil))))) (aCons (eF (xCall f_count_odd_below (aCons (eC (.int 3)) (aCons (eC (.int 6)) (aNil))))) (aCons (eF (xCall f_halls (aCons (eC (.int 6)) (aCons (eC (.int 0)) (aNil))))) (aNil))))))) 4) (sSeq (sAsgX (xLst (aCons (eTup (aCons (eTup (aCons (eC (.int 2)) (aCons (eC (.int 1)) (aNil)))) (aCons (eTup (aCons (eC (.int 3)) (aCons (eC (.int 0)) (aNil)))) (aNil)))) (aCons (eC (.int 2)) (aCons (eTup (aCons (eTup (aCons (eC (.int 2)) (aCons (eC (.int 0)) (aCons (eC (.int 0)) (aNil))))) (aNil))) (aCons (eC (.int 1)) (aCons (eTup (aCons (eTup (aCons (eC (.int 4)) (aNil))) (aNil))) (aCons (eC (.int 1)) (aNil)))))))) 5) (sRet (eOp oEq (eVF 4) (eF (xOp nCat (eVF 5) (eF (xLst (aCons (eTup (aCons (eTup (aCons (eC (.int 3)) (aCons (eC (.int 2)) (aCons (eC (.int 1)) (aNil))))) (aCons (eTup (aCons (eC (.int 4)) (aCons (eC (.int 2)) (aCons (eC (.int 0)) (aNil))))) (aCons (eTup (aCons (eC (.int 5)) (aCons (eC (.int 1)) (aCons (eC (.int 0)) (aNil))))) (aCons (eTup (aCons (eC (.int 6)) (aCons (eC (.int 0)) (aCons (eC (.int 0)) (aNil))))) (aNil)))))) (aCons (eC (.int 4)) (aCons (eTup (aCons (eOp oMulT (eTup (aCons (eC (.int 0)) (aNil))) (eC (.int 6))) (aNil))) (aNil)))))))))))))
def f_law : En → Rf := runF 6 1 F_law
theorem s_law : FnScope ["script", "spot", "dice", "turn", "told", "due"] ["script"] (defScope (top 30)) := ⟨rfl, rfl, rfl, by decide +kernel, rfl, by decide +kernel, by decide +kernel⟩
theorem ok_law {P : Program} {w : World} {mg : Str → Option Value} {base : Heap} {G : Gm} {f : Addr} {fd : FuncData} (F : FunD G.K "law" "law" (defArgs (top 30)) (defBody (top 30)) (defScope (top 30)) [] [] f fd) (Z : Fcts G.K mg) (C__law_dice : Cal G true P w mg base 1 "_law_dice" ["script", "spot"] f__law_dice) (C__law_right : Cal G true P w mg base 7 "_law_right" ["dice"] f__law_right) (C_count_halls : Cal G true P w mg base 6 "count_halls" ["n", "size"] f_count_halls) (C_halls : Cal G true P w mg base 6 "halls" ["n", "size"] f_halls) (C_count_odd_below : Cal G true P w mg base 6 "count_odd_below" ["n", "size"] f_count_odd_below) :
    FnG true P w G.K mg base 8 f fd ["script"] (spD G f_law) :=
  have S := s_law
  fnD' F S fun pd cdv A outer s H E hr hgu =>
    (ds_seq (ds_for (passes_of rfl) rfl (di_range1 Z.n_range (de_callB (call_max2 rfl) cd_max2 Z.n_max (by decide +kernel) (da_cons (de_int) (da_cons (de_callB (call_min2 rfl) cd_min2 Z.n_min (by decide +kernel) (da_cons (de_int) (da_cons (de_lenO (i := 0) rfl Z.n_len (by decide +kernel)) (da_nil)))) (da_nil))))) (dg_name (i := 1) S.nd) (ds_seq (ds_setX (i := 2) S.nd (dx_callRC (i := 0) rfl (C__law_dice.pd pd) (hr.mono (by decide)) hgu (takes_of rfl rfl rfl rfl) (da_cons (de_var 1) (da_nil)))) (ds_one (ds_for (passes_of rfl) rfl (di_range1 Z.n_range (de_int)) (dg_name (i := 3) S.nd) (ds_one (ds_if (dt_not (dt_tru rfl (de_frz (dx_callIC (i := 2) rfl (C__law_right.pd pd) (hr.mono (by decide)) hgu (takes_of rfl rfl rfl rfl) (da_nil))))) (ds_one (ds_ret (de_bl))) (ds_nil))))))) (ds_seq (ds_setX (i := 4) S.nd (dx_lst (da_cons (de_frz (dx_callC rfl (C_halls.pd pd) (hr.mono (by decide)) hgu (takes_of rfl rfl rfl rfl) (da_cons (de_int) (da_cons (de_int) (da_nil))))) (da_cons (de_frz (dx_callC rfl (C_count_odd_below.pd pd) (hr.mono (by decide)) hgu (takes_of rfl rfl rfl rfl) (da_cons (de_int) (da_cons (de_int) (da_nil))))) (da_cons (de_frz (dx_callC rfl (C_halls.pd pd) (hr.mono (by decide)) hgu (takes_of rfl rfl rfl rfl) (da_cons (de_int) (da_cons (de_int) (da_nil))))) (da_cons (de_frz (dx_callC rfl (C_count_halls.pd pd) (hr.mono (by decide)) hgu (takes_of rfl rfl rfl rfl) (da_cons (de_int) (da_cons (de_int) (da_nil))))) (da_cons (de_frz (dx_callC rfl (C_halls.pd pd) (hr.mono (by decide)) hgu (takes_of rfl rfl rfl rfl) (da_cons (de_int) (da_cons (de_int) (da_nil))))) (da_cons (de_frz (dx_callC rfl (C_count_halls.pd pd) (hr.mono (by decide)) hgu (takes_of rfl rfl rfl rfl) (da_cons (de_int) (da_cons (de_int) (da_nil))))) (da_nil))))))))) (ds_seq (ds_setX (i := 4) S.nd (dx_op op_cat on_cat (de_varF 4) (de_frz (dx_lst (da_cons (de_frz (dx_callC rfl (C_halls.pd pd) (hr.mono (by decide)) hgu (takes_of rfl rfl rfl rfl) (da_cons (de_int) (da_cons (de_int) (da_nil))))) (da_cons (de_frz (dx_callC rfl (C_count_odd_below.pd pd) (hr.mono (by decide)) hgu (takes_of rfl rfl rfl rfl) (da_cons (de_int) (da_cons (de_int) (da_nil))))) (da_cons (de_frz (dx_callC rfl (C_halls.pd pd) (hr.mono (by decide)) hgu (takes_of rfl rfl rfl rfl) (da_cons (de_int) (da_cons (de_int) (da_nil))))) (da_nil)))))))) (ds_seq (ds_setX (i := 5) S.nd (dx_lst (da_cons (de_tup (da_cons (de_tup (da_cons (de_int) (da_cons (de_int) (da_nil)))) (da_cons (de_tup (da_cons (de_int) (da_cons (de_int) (da_nil)))) (da_nil)))) (da_cons (de_int) (da_cons (de_tup (da_cons (de_tup (da_cons (de_int) (da_cons (de_int) (da_cons (de_int) (da_nil))))) (da_nil))) (da_cons (de_int) (da_cons (de_tup (da_cons (de_tup (da_cons (de_int) (da_nil))) (da_nil))) (da_cons (de_int) (da_nil))))))))) (ds_one (ds_ret (de_cmp (op_eqZ hr.units) od_eq (de_varF 4) (de_frz (dx_op op_cat on_cat (de_varF 5) (de_frz (dx_lst (da_cons (de_tup (da_cons (de_tup (da_cons (de_int) (da_cons (de_int) (da_cons (de_int) (da_nil))))) (da_cons (de_tup (da_cons (de_int) (da_cons (de_int) (da_cons (de_int) (da_nil))))) (da_cons (de_tup (da_cons (de_int) (da_cons (de_int) (da_cons (de_int) (da_nil))))) (da_cons (de_tup (da_cons (de_int) (da_cons (de_int) (da_cons (de_int) (da_nil))))) (da_nil)))))) (da_cons (de_int) (da_cons (de_tup (da_cons (de_op op_mulT od_mulT (de_tup (da_cons (de_int) (da_nil))) (de_int)) (da_nil))) (da_nil)))))))) (nomark _))))))))
end K71
set_option maxHeartbeats 400000
/-! K71g: calls, lists of ints as functions, by mk50g.py -/
namespace K71
open PySem L2 DL
theorem sIf_f0 {t : En → R Bool} {a : En → Fl} {r r1 : En} (h : t r = .ok false r1) : sIf t a sNil r = .nx r1 := Eq.trans (sIf_f h) rfl
theorem eChain_t {o o' : D → D → Option D} {f g h : En → R D} {r r1 r2 r3 : En} {x y z d : D} (h1 : f r = .ok x r1) (h2 : g r1 = .ok y r2) (h3 : o x y = some (.bool true)) (h4 : h r2 = .ok z r3) (h5 : o' y z = some d) : eChain o o' f g h r = .ok d r3 := by
  unfold eChain
  rw [h1]
  simp only [R.bind]
  rw [h2]
  simp only [h3]
  rw [h4]
  simp only [h5, liftO]
theorem bools_map : ∀ bs : List Bool, boolsD (bs.map PyData.bool) = some bs
  | [] => rfl
  | b :: bs => by
    show (boolsD (bs.map PyData.bool)).map (b :: ·) = _
    rw [bools_map bs]
    rfl
theorem cAll_map {α : Type} (p : α → Bool) (xs : List α) : cAll [.list (xs.map fun x => .bool (p x))] = some (.bool (xs.all p)) := by
  have e : xs.map (fun x => PyData.bool (p x)) = (xs.map p).map PyData.bool := by rw [List.map_map]; rfl
  show (boolsD _).map _ = _
  rw [e, bools_map]
  show some (PyData.bool ((xs.map p).all id)) = _
  rw [List.all_map]
  rfl
theorem leK {i j : Int} : oLeK (.int i) (.int j) = some (.bool (decide (i ≤ j))) := rfl
theorem geK {i j : Int} : oGeK (.int i) (.int j) = some (.bool (decide (j ≤ i))) := rfl
theorem gtK {i j : Int} : oGtK (.int i) (.int j) = some (.bool (decide (j < i))) := rfl
theorem zipD_map {α : Type} (f : α → D) : ∀ xs ys : List α, zipD (xs.map f) (ys.map f) = (xs.zip ys).map fun p => .tuple [f p.1, f p.2]
  | [], _ => by simp [zipD]
  | _ :: _, [] => by simp [zipD]
  | x :: xs, y :: ys => by
    simp only [List.map_cons, zipD, List.zip_cons_cons, zipD_map f xs ys]
theorem filt_true {α : Type} (l : List α) : l.filter (fun _ => true) = l := by simp
theorem iZp_of {f g : En → R D} {r r1 r2 : En} {ds es : List D} (h1 : f r = .ok (.tuple ds) r1) (h2 : g r1 = .ok (.tuple es) r2) : iZp f g r = .ok (zipD ds es) r2 := by
  unfold iZp
  rw [h1]
  simp only [R.bind]
  rw [h2]
theorem cut1 (ds : List D) : cutD ds (some 1) none = ds.tail := by
  unfold cutD
  cases ds with
  | nil => rfl
  | cons d ds =>
    have e : HT.sIx (d :: ds).length 0 (some 1) = 1 := by
      simp [HT.sIx]
    rw [e]
    show ((d :: ds).drop 1).take ((d :: ds).length - 1) = ds
    simp
theorem noIo_io {ds : List D} (h : noIo (.io ds) = true) : False := Bool.noConfusion h
theorem ltK {i j : Int} : oLtK (.int i) (.int j) = some (.bool (decide (i < j))) := rfl
/-! ### calls -/

theorem ne_same (a : Int) : oNe (.int a) (.int a) = some (.bool false) := oNe_of (b := true) (by show some (a == a) = _; simp)
theorem call1 {fD : En → Rf} {f : En → R D} {r : En} {a d : D} (ha : f r = .ok a r) (hf : fD [.vl a] = .rt (.vl d) none) : eF (xCall fD (aCons f aNil)) r = .ok d r :=
  eF_of (xCall_of (ds := [a]) (aCons_of ha aNil_of) hf) rfl
theorem call2 {fD : En → Rf} {f g : En → R D} {r : En} {a b d : D} (ha : f r = .ok a r) (hb : g r = .ok b r) (hf : fD [.vl a, .vl b] = .rt (.vl d) none) : eF (xCall fD (aCons f (aCons g aNil))) r = .ok d r :=
  eF_of (xCall_of (ds := [a, b]) (aCons_of ha (aCons_of hb aNil_of)) hf) rfl
theorem call3 {fD : En → Rf} {f g h : En → R D} {r : En} {a b c d : D} (ha : f r = .ok a r) (hb : g r = .ok b r) (hc : h r = .ok c r) (hf : fD [.vl a, .vl b, .vl c] = .rt (.vl d) none) : eF (xCall fD (aCons f (aCons g (aCons h aNil)))) r = .ok d r :=
  eF_of (xCall_of (ds := [a, b, c]) (aCons_of ha (aCons_of hb (aCons_of hc aNil_of))) hf) rfl
theorem addE {f g : En → R D} {r : En} {a b : Int} (h1 : f r = .ok (.int a) r) (h2 : g r = .ok (.int b) r) {c : Int} (e : a + b = c) : eOp oAdd f g r = .ok (.int c) r := by
  subst e
  exact eOp_of h1 h2 rfl
theorem subE {f g : En → R D} {r : En} {a b : Int} (h1 : f r = .ok (.int a) r) (h2 : g r = .ok (.int b) r) {c : Int} (e : a - b = c) : eOp oSub f g r = .ok (.int c) r := by
  subst e
  exact eOp_of h1 h2 rfl
theorem mulE {f g : En → R D} {r : En} {a b : Int} (h1 : f r = .ok (.int a) r) (h2 : g r = .ok (.int b) r) (h : mulOk a b = true) {c : Int} (e : a * b = c) : eOp oMul f g r = .ok (.int c) r := by
  subst e
  exact eOp_of h1 h2 (oMul_of h)
theorem divN (a b : Nat) : (a : Int) / (b : Int) = ((a / b : Nat) : Int) := (Int.natCast_ediv a b).symm
theorem modN (a b : Nat) : (a : Int) % (b : Int) = ((a % b : Nat) : Int) := (Int.natCast_emod a b).symm
theorem beq_cast (a b : Nat) : ((a : Int) == (b : Int)) = Nat.beq a b := by
  rw [Bool.eq_iff_iff, beq_iff_eq, Nat.beq_eq]
  omega
theorem rng0 (m : Nat) : rngD 1 0 m = (List.range m).map fun k : Nat => PyData.int (k : Int) := by
  rw [rngD_map]
  exact List.map_congr_left fun i _ => by rw [Int.zero_add]
theorem rng1 (m : Nat) : rngD 1 1 m = (List.range m).map fun k : Nat => PyData.int ((k + 1 : Nat) : Int) := by
  rw [rngD_map]
  exact List.map_congr_left fun i _ => congrArg PyData.int (by omega)
theorem rollG {ds : List D} {r r1 : En} {n : Int} {f : En → R D} (hd : IsDice ds) (h0 : Sl.isM r[0]? = true) (h1 : r1[0]? = some (.io ds)) (hf : f r = .ok (.int n) r1) (hn : 0 < n) (h2 : n < 1073741824) : ∃ k ds', eF (xCallI 0 f__law_roll (aCons f aNil)) r = .ok (.int k) (r1.set 0 (.io ds')) ∧ 0 ≤ k ∧ k < n ∧ IsDice ds' := by
  obtain ⟨k, ds', w, a, b, c⟩ := roll_some (n := n) hd hn h2
  exact ⟨k, ds', eF_of (xCallI_of (i := 0) (r := r) (r1 := r1) (ds := [.int n]) (s0 := .io ds) (xs := ds) h0 (aCons_of hf aNil_of) h1 rfl w) rfl, a, b, c⟩
/-! ### lists by places -/
theorem atD {α : Type} {e : α → D} {L : List α} {k : Int} {i : Nat} {x : α} (hk : k = (i : Int)) (hx : L[i]? = some x) : atI (L.map e) k = some (e x) := by
  subst hk
  have hl : i < L.length := (List.getElem?_eq_some_iff.mp hx).1
  unfold L2.atI L2.ixN
  rw [List.length_map, if_pos (by omega), if_pos (by omega)]
  simp [hx]
theorem oIxL {α : Type} {e : α → D} {L : List α} {k : Int} {i : Nat} {x : α} (hk : k = (i : Int)) (hx : L[i]? = some x) : oIx (.list (L.map e)) (.int k) = some (e x) := by
  show atI _ _ = _
  exact atD hk hx
theorem oIxT {α : Type} {e : α → D} {L : List α} {k : Int} {i : Nat} {x : α} (hk : k = (i : Int)) (hx : L[i]? = some x) : oIx (.tuple (L.map e)) (.int k) = some (e x) := by
  show atI _ _ = _
  exact atD hk hx
theorem eIxO_at {α : Type} {e : α → D} {i : Nat} {g : En → R D} {r r1 : En} {L : List α} {k : Int} {j : Nat} {x : α} {s : Sl} (h : Sl.has r[i]? = true) (hg : g r = .ok (.int k) r1) (hs : r1[i]? = some s) (hi : s.items = some (L.map e)) (hk : k = (j : Int)) (hx : L[j]? = some x) : eIxO i g r = .ok (e x) r1 := by
  unfold eIxO
  rw [if_pos h, hg]
  simp only [R.bind, hs, hi, ixD, atD hk hx, liftO]
theorem sSetIx_at {α : Type} {e : α → D} {i : Nat} {fe fi : En → R D} {r r1 r2 : En} {L : List α} {v : α} {k : Int} {j : Nat} (h1 : fe r = .ok (e v) r1) (hm : Sl.isM r1[i]? = true) (h2 : fi r1 = .ok (.int k) r2) (hs : r2[i]? = some (.ow (L.map e))) (hk : k = (j : Int)) (hj : j < L.length) : sSetIx i fe fi r = .nx (r2.set i (.ow ((L.set j v).map e))) := by
  subst hk
  unfold sSetIx
  rw [h1]
  simp only [rF]
  rw [if_pos hm, h2]
  have e' : ixN (L.map e).length (j : Int) = some j := by
    unfold L2.ixN
    rw [List.length_map, if_pos (by omega), if_pos (by omega)]
    rfl
  simp only [rF, hs, Sl.mut, e', Sl.put]
  rw [List.map_set]
theorem eAnd_f {f g : En → R D} {r r1 : En} (h1 : f r = .ok (.bool false) r1) : eAnd f g r = .ok (.bool false) r1 := by
  unfold eAnd
  rw [h1]
  rfl
theorem eAnd_b {f g : En → R D} {r : En} {a b : Bool} (h1 : f r = .ok (.bool a) r) (h2 : a = true → g r = .ok (.bool b) r) : eAnd f g r = .ok (.bool (a && b)) r := by
  cases a with
  | true => exact eAnd_t h1 (h2 rfl)
  | false => exact eAnd_f h1
theorem xOp_o {o : D → D → Option (List D)} {f g : En → R D} {r r1 r2 : En} {x y : D} {ds : List D} (h1 : f r = .ok x r1) (h2 : g r1 = .ok y r2) (h3 : o x y = some ds) : xOp o f g r = .ok (.ow ds) r2 := by
  unfold xOp
  rw [h1]
  simp only [R.bind]
  rw [h2]
  simp only [h3]
theorem eIf_t {c : En → R Bool} {a b : En → R D} {r r1 r2 : En} {d : D} (h : c r = .ok true r1) (h2 : a r1 = .ok d r2) : eIf c a b r = .ok d r2 := by
  unfold eIf
  rw [h]
  exact h2
theorem eIf_f {c : En → R Bool} {a b : En → R D} {r r1 r2 : En} {d : D} (h : c r = .ok false r1) (h2 : b r1 = .ok d r2) : eIf c a b r = .ok d r2 := by
  unfold eIf
  rw [h]
  exact h2
structure Near (d : Int) : Prop where
  lo : -1000000000000000000000000000000000000000000000000000000000000 < d
  hi : d < 1000000000000000000000000000000000000000000000000000000000000
theorem near {d : Int} (h : Near d) : f_is_near [.vl (.int d)] = .rt (.vl (.bool true)) none :=
  runF_rt (r := [.vl (.int d)]) rfl (sRet_of (eAnd_t (eF_of (xCall_of (ds := [.int d]) (s := .vl (.bool true)) (aCons_of rfl aNil_of) rfl) rfl) (eChain_t (x := .int (-1000000000000000000000000000000000000000000000000000000000000)) (y := .int d) (z := .int 1000000000000000000000000000000000000000000000000000000000000) rfl rfl (by rw [ltK, decide_eq_true h.lo]) rfl (by rw [ltK, decide_eq_true h.hi])))) rfl rfl
theorem reqN {x lo hi : Int} (hx : Near x) (h1 : lo ≤ x) (h2 : x ≤ hi) : f_require_number [.vl (.int x), .vl (.int lo), .vl (.int hi)] = .rt (.vl .none) none := by
  have a : tB1 (eOp oLtK (eV 0) (eV 1)) [.vl (.int x), .vl (.int lo), .vl (.int hi)] = .ok false [.vl (.int x), .vl (.int lo), .vl (.int hi)] := by
    refine tB1_of (eOp_of (x := .int x) (y := .int lo) rfl rfl ?_)
    rw [ltK, decide_eq_false (by omega)]
  have b : tB1 (eOp oGtK (eV 0) (eV 2)) [.vl (.int x), .vl (.int lo), .vl (.int hi)] = .ok false [.vl (.int x), .vl (.int lo), .vl (.int hi)] := by
    refine tB1_of (eOp_of (x := .int x) (y := .int hi) rfl rfl ?_)
    rw [gtK, decide_eq_false (by omega)]
  have c : tB1 (eOp oNotN (eV 1) (eC .none)) [.vl (.int x), .vl (.int lo), .vl (.int hi)] = .ok true [.vl (.int x), .vl (.int lo), .vl (.int hi)] := rfl
  have d : tB1 (eOp oNotN (eV 2) (eC .none)) [.vl (.int x), .vl (.int lo), .vl (.int hi)] = .ok true [.vl (.int x), .vl (.int lo), .vl (.int hi)] := rfl
  exact runF_nx (r := [.vl (.int x), .vl (.int lo), .vl (.int hi)]) rfl (Eq.trans (sIf_f (tOr1_f (tNot1_of (k := true) (tTru_of (call1 rfl (near hx)))) (tOr1_f (tAnd1_t c a) (tAnd1_t d b)))) rfl) rfl
abbrev ni (k : Nat) : D := .int (k : Int)
abbrev vi (n : Nat) : Sl := .vl (.int (n : Int))
theorem lenC {ds : List D} : cLen [.list ds] = some (.int (ds.length : Nat)) := rfl
theorem lenD {ds : List D} : cLen [.tuple ds] = some (.int (ds.length : Nat)) := rfl
theorem irg {n : Nat} {f : En → R D} {r : En} {k : Int} (h : f r = .ok (.int k) r) (hk : k = (n : Int)) (hn : n ≤ 1000) : iRg1 f r = .ok ((List.range n).map ni) r := by
  have e : (List.range n).map ni = rngD 1 0 n := (rng0 _).symm
  rw [e]
  exact iRg1_of (j := k) h (by omega) (by omega) (by omega)
theorem eChain_f {o o' : D → D → Option D} {f g h : En → R D} {r r1 r2 : En} {x y : D} (h1 : f r = .ok x r1) (h2 : g r1 = .ok y r2) (h3 : o x y = some (.bool false)) : eChain o o' f g h r = .ok (.bool false) r2 := by
  unfold eChain
  rw [h1]
  simp only [R.bind]
  rw [h2]
  simp only [h3]
theorem forD_exit {α : Type} {enc : α → D} {t : D → En → Option En} {f : En → Fl} (p : α → Bool) (I J : En → Prop) : ∀ (xs : List α), (∀ x ∈ xs, ∀ r, I r → ∃ r1, t (enc x) r = some r1 ∧ (p x = true → ∃ r2, f r1 = .rt (.vl (.bool false)) r2 ∧ J r2) ∧ (p x = false → ∃ r2, f r1 = .nx r2 ∧ I r2)) → ∀ r, I r →
    (xs.any p = true → ∃ r', forD t f (xs.map enc) r = .rt (.vl (.bool false)) r' ∧ J r') ∧ (xs.any p = false → ∃ r', forD t f (xs.map enc) r = .nx r' ∧ I r')
  | [], _, r, hr => ⟨fun z => by simp at z, fun _ => ⟨r, rfl, hr⟩⟩
  | x :: xs, h, r, hr => by
    obtain ⟨r1, h1, h2, h3⟩ := h x List.mem_cons_self r hr
    rw [List.any_cons, List.map_cons]
    cases hp : p x with
    | true =>
      obtain ⟨r2, e, j⟩ := h2 hp
      refine ⟨fun _ => ⟨r2, ?_, j⟩, fun z => by simp at z⟩
      unfold forD
      simp only [h1, e]
    | false =>
      obtain ⟨r2, e, i⟩ := h3 hp
      have ih := forD_exit p I J xs (fun y hy => h y (List.mem_cons_of_mem _ hy)) r2 i
      rw [Bool.false_or]
      have st : forD t f (enc x :: xs.map enc) r = forD t f (xs.map enc) r2 := by
        conv => lhs; unfold forD
        simp only [h1, e]
      rw [st]
      exact ih
theorem forD_idx {t : D → En → Option En} {f : En → Fl} {enc : Nat → D} {n : Nat} (I : Nat → En → Prop) (h : ∀ i r, i < n → I i r → ∃ r1 r2, t (enc i) r = some r1 ∧ f r1 = .nx r2 ∧ I (i + 1) r2) {r : En} (h0 : I 0 r) : ∃ r', forD t f ((List.range n).map enc) r = .nx r' ∧ I n r' := by
  have key : ∀ m lo r, lo + m = n → I lo r → ∃ r', forD t f ((List.range' lo m).map enc) r = .nx r' ∧ I n r' := by
    intro m
    induction m with
    | zero => intro lo r e hr; exact ⟨r, rfl, by rw [Nat.add_zero] at e; rw [← e]; exact hr⟩
    | succ m ih =>
      intro lo r e hr
      obtain ⟨r1, r2, a1, a2, a3⟩ := h lo r (by omega) hr
      obtain ⟨r', b1, b2⟩ := ih (lo + 1) r2 (by omega) a3
      refine ⟨r', ?_, b2⟩
      rw [List.range'_succ, List.map_cons]
      unfold forD
      simp only [a1, a2]
      exact b1
  rw [List.range_eq_range']
  exact key n 0 r (by omega) h0
theorem enum_map {n : Nat} (f : Nat → D) : enumD 0 ((List.range n).map f) = (List.range n).map fun i => PyData.tuple [ni i, f i] := by
  refine List.ext_getElem? fun i => ?_
  rw [List.getElem?_map]
  by_cases hi : i < n
  · rw [List.getElem?_range hi, enumD_get ((List.range n).map f) 0 i (f i) (by rw [List.getElem?_map, List.getElem?_range hi]; rfl), Nat.zero_add]
    rfl
  · rw [List.getElem?_eq_none (by rw [enumD_len, List.length_map, List.length_range]; omega), List.getElem?_eq_none (by rw [List.length_range]; omega)]
    rfl
/-! ### lists of ints as functions -/
def fI (n : Nat) (f : Nat → Int) : List Int := (List.range n).map f
theorem fI_len (n : Nat) (f : Nat → Int) : (fI n f).length = n := by unfold fI; rw [List.length_map, List.length_range]
theorem fI_at {n i : Nat} (f : Nat → Int) (h : i < n) : (fI n f)[i]? = some (f i) := by
  unfold fI
  rw [List.getElem?_map, List.getElem?_range h]
  rfl
theorem fI_cong {n : Nat} {f g : Nat → Int} (h : ∀ i, i < n → f i = g i) : fI n f = fI n g := List.map_congr_left fun i hi => h i (List.mem_range.mp hi)
theorem fI_set {n j : Nat} (f : Nat → Int) (v : Int) : (fI n f).set j v = fI n fun i => if i = j then v else f i := by
  refine List.ext_getElem? fun i => ?_
  by_cases hi : i < n
  · rw [fI_at _ hi, List.getElem?_set]
    by_cases e : j = i
    · subst e
      rw [if_pos rfl, if_pos (by rw [fI_len]; exact hi), if_pos rfl]
    · rw [if_neg e, fI_at _ hi, if_neg fun z => e z.symm]
  · rw [List.getElem?_eq_none (by rw [List.length_set, fI_len]; omega), List.getElem?_eq_none (by rw [fI_len]; omega)]
abbrev fD (n : Nat) (f : Nat → Int) : List D := (fI n f).map .int
theorem ixO_f {i : Nat} {g : En → R D} {r r1 : En} {n : Nat} {f : Nat → Int} {k : Int} {j : Nat} {s : Sl} (h : Sl.has r[i]? = true) (hg : g r = .ok (.int k) r1) (hs : r1[i]? = some s) (hi : s.items = some (fD n f)) (hk : k = (j : Int)) (hj : j < n) : eIxO i g r = .ok (.int (f j)) r1 :=
  eIxO_at (e := PyData.int) h hg hs hi hk (fI_at f hj)
theorem put_f {i : Nat} {fe fi : En → R D} {r r1 r2 : En} {n : Nat} {f : Nat → Int} {v k : Int} {j : Nat} (h1 : fe r = .ok (.int v) r1) (hm : Sl.isM r1[i]? = true) (h2 : fi r1 = .ok (.int k) r2) (hs : r2[i]? = some (.ow (fD n f))) (hk : k = (j : Int)) (hj : j < n) : sSetIx i fe fi r = .nx (r2.set i (.ow (fD n fun i => if i = j then v else f i))) := by
  have := sSetIx_at (e := PyData.int) h1 hm h2 hs hk (by rw [fI_len]; exact hj)
  rw [fI_set] at this
  exact this
theorem aug_f {i : Nat} {gi g : En → R D} {r r1 r2 : En} {n : Nat} {f : Nat → Int} {k v : Int} {j : Nat} (hm : Sl.isM r[i]? = true) (h1 : gi r = .ok (.int k) r1) (hs1 : r1[i]? = some (.ow (fD n f))) (h2 : g r1 = .ok (.int v) r2) (hs : r2[i]? = some (.ow (fD n f))) (hk : k = (j : Int)) (hj : j < n) : sAugIx i gi oAddI g r = .nx (r2.set i (.ow (fD n fun i => if i = j then f j + v else f i))) := by
  subst hk
  have a : ixD (fD n f) (.int (j : Int)) = some (.int (f j)) := atD (e := PyData.int) rfl (fI_at f hj)
  have e : ixN (fD n f).length (j : Int) = some j := by
    unfold L2.ixN
    rw [List.length_map, fI_len, if_pos (by omega), if_pos (by omega)]
    rfl
  have o : oAddI (.int (f j)) (.int v) = some (.int (f j + v)) := rfl
  unfold sAugIx
  rw [if_pos hm, h1]
  simp only [rF, hs1, Sl.items, a, h2, hs, Sl.mut, e, o, Sl.put]
  have z : (fD n f).set j (PyData.int (f j + v)) = fD n fun i => if i = j then f j + v else f i := by
    show List.set (List.map PyData.int (fI n f)) j (PyData.int (f j + v)) = List.map PyData.int (fI n fun i => if i = j then f j + v else f i)
    rw [← fI_set, List.map_set]
  rw [z]
abbrev enP (f : Nat → Int) (i : Nat) : D := .tuple [.int (i : Int), .int (f i)]
theorem fD_map (n : Nat) (f : Nat → Int) : fD n f = (List.range n).map fun i => PyData.int (f i) := by
  unfold fD fI
  rw [List.map_map]
  rfl
theorem enL_of {f : En → R D} {r r1 : En} {n : Nat} {g : Nat → Int} (h : f r = .ok (.list (fD n g)) r1) : iEnA f r = .ok ((List.range n).map (enP g)) r1 := by
  have e := enum_map (n := n) fun i => PyData.int (g i)
  rw [← fD_map] at e
  unfold iEnA
  rw [h]
  exact congrArg (fun z => R.ok z r1) e
theorem repD_one (d : D) : ∀ n : Nat, repD [d] n = List.replicate n d
  | 0 => rfl
  | n + 1 => by
    show d :: repD [d] n = _
    rw [repD_one d n]
    rfl
theorem rep_f (n : Nat) : List.replicate n (PyData.int 0) = fD n fun _ => 0 := by
  rw [fD_map]
  refine List.ext_getElem? fun i => ?_
  by_cases hi : i < n
  · rw [List.getElem?_replicate, if_pos hi, List.getElem?_map, List.getElem?_range hi]
    rfl
  · rw [List.getElem?_eq_none (by rw [List.length_replicate]; omega), List.getElem?_eq_none (by rw [List.length_map, List.length_range]; omega)]
theorem zeros {g : En → R D} {r : En} {k : Int} {n : Nat} (h : g r = .ok (.int k) r) (hk : k = (n : Int)) (hn : n ≤ 1000) : xOp nRep (eF (xLst (aCons (eC (.int 0)) aNil))) g r = .ok (.ow (fD n fun _ => 0)) r := by
  subst hk
  refine xOp_o (x := .list [.int 0]) rfl h ?_
  show (if (decide (-1000000 ≤ (n : Int)) && decide ((n : Int) ≤ 1000000) && decide ([PyData.int 0].length * ((n : Int)).toNat ≤ 1000000)) = true then _ else _) = _
  rw [if_pos (by rw [decide_eq_true (by omega), decide_eq_true (by omega), decide_eq_true (by show 1 * _ ≤ _; omega)]; rfl), ← rep_f, repD_one]
  rfl
theorem cat_f {n m : Nat} {f g : Nat → Int} (h : n + m ≤ 1000000) : nCat (.list (fD n f)) (.list (fD m g)) = some (fD (n + m) fun i => if i < n then f i else g (i - n)) := by
  show (if (fD n f).length + (fD m g).length ≤ 1000000 then some (fD n f ++ fD m g) else none) = _
  rw [if_pos (by rw [List.length_map, List.length_map, fI_len, fI_len]; exact h)]
  refine congrArg some ?_
  rw [fD_map, fD_map, fD_map]
  refine List.ext_getElem? fun i => ?_
  by_cases hi : i < n
  · rw [List.getElem?_append_left (by rw [List.length_map, List.length_range]; exact hi), List.getElem?_map, List.getElem?_range hi, List.getElem?_map, List.getElem?_range (show i < n + m by omega)]
    show some (PyData.int (f i)) = some (PyData.int (if i < n then f i else g (i - n)))
    rw [if_pos hi]
  · rw [List.getElem?_append_right (by rw [List.length_map, List.length_range]; omega), List.length_map, List.length_range]
    by_cases hj : i < n + m
    · rw [List.getElem?_map, List.getElem?_range (show i - n < m by omega), List.getElem?_map, List.getElem?_range hj]
      show some (PyData.int (g (i - n))) = some (PyData.int (if i < n then f i else g (i - n)))
      rw [if_neg hi]
    · rw [List.getElem?_eq_none (by rw [List.length_map, List.length_range]; omega), List.getElem?_eq_none (by rw [List.length_map, List.length_range]; omega)]
theorem irg1 {n : Nat} {f : En → R D} {r : En} {k : Int} (h : f r = .ok (.int k) r) (hk : k = (n : Int) + 1) (hn : n ≤ 1000) : iRg2 (eC (.int 1)) f r = .ok ((List.range n).map fun i => ni (i + 1)) r := by
  have e : ((List.range n).map fun i => ni (i + 1)) = rngD 1 1 n := (rng1 _).symm
  rw [e]
  exact iRg2_of (i := 1) (j := k) eC_of h (by omega) (by omega) (by omega) (by omega) (by omega)
theorem minE {f g : En → R D} {r : En} {a b : Nat} (h1 : f r = .ok (ni a) r) (h2 : g r = .ok (ni b) r) : eCB cMin2 (aCons f (aCons g aNil)) r = .ok (ni (min a b)) r := by
  refine eCB_of (x := [ni a, ni b]) (aCons_of h1 (aCons_of h2 aNil_of)) ?_
  show some (PyData.int (if (b : Int) < (a : Int) then (b : Int) else (a : Int))) = _
  refine congrArg (fun z => some (PyData.int z)) ?_
  split <;> omega
theorem maxE {f g : En → R D} {r : En} {a b : Int} (h1 : f r = .ok (.int a) r) (h2 : g r = .ok (.int b) r) {c : Int} (e : max a b = c) : eCB cMax2 (aCons f (aCons g aNil)) r = .ok (.int c) r := by
  refine eCB_of (x := [.int a, .int b]) (aCons_of h1 (aCons_of h2 aNil_of)) ?_
  show some (PyData.int (if b > a then b else a)) = _
  refine congrArg (fun z => some (PyData.int z)) ?_
  split <;> omega
theorem lenF {f : En → R D} {r r1 : En} {n : Nat} {g : Nat → Int} (h : f r = .ok (.list (fD n g)) r1) : eCB cLen (aCons f aNil) r = .ok (ni n) r1 := by
  refine eCB_of (aCons_of h aNil_of) ?_
  refine Eq.trans lenC ?_
  rw [List.length_map, fI_len]
theorem eNot_of {f : En → R D} {r r1 : En} {k : Bool} (h : f r = .ok (.bool k) r1) : eNot f r = .ok (.bool (!k)) r1 := by
  unfold eNot
  rw [h]
  rfl
theorem ioOf_no : ∀ r : En, r.all noIo = true → ioOf r = none
  | [], _ => rfl
  | s :: r, h => by
    rw [List.all_cons, Bool.and_eq_true] at h
    have ih := ioOf_no r h.2
    cases s <;> first | exact ih | exact (noIo_io h.1).elim
end K71
set_option maxHeartbeats 400000
/-! K71p: lists of pairs (tuple, int) that grow: the program's halls, the law's sums -/
namespace K71
open PySem L2 DL
abbrev vz (k : Int) : Sl := .vl (.int k)
abbrev XP := List Int × Int
def enX (x : XP) : D := .tuple [tI x.1, .int x.2]
theorem sExt_of {i : Nat} {f : En → R Sl} {r r1 : En} {ds es : List D} (h0 : Sl.isM r[i]? = true) (h : f r = .ok (.ow es) r1) (h1 : r1[i]? = some (.ow ds)) (hl : ds.length + es.length ≤ 1000000) : sExt i f r = .nx (r1.set i (.ow (ds ++ es))) := by
  unfold sExt
  rw [if_pos h0, h]
  simp only [rF, h1, Sl.mut]
  rw [if_pos hl]
  rfl
theorem aStarT {f : En → R D} {g : En → R (List D)} {r r1 r2 : En} {ds es : List D} (h1 : f r = .ok (.tuple ds) r1) (h2 : g r1 = .ok es r2) : aStar f g r = .ok (ds ++ es) r2 := by
  unfold aStar
  rw [h1]
  simp only [R.bind, seqD, h2]
theorem oAddT {xs ys : List D} (h : xs.length + ys.length ≤ 1000000) : oAdd (.tuple xs) (.tuple ys) = some (.tuple (xs ++ ys)) := by
  show (if _ then _ else _) = _
  rw [if_pos h]
theorem irgZ {f : En → R D} {r : En} {k : Int} (h : f r = .ok (.int k) r) (h1 : -1000000000 ≤ k) (h2 : k ≤ 1000000000) : iRg1 f r = .ok ((List.range k.toNat).map ni) r := by
  rw [show (List.range k.toNat).map ni = rngD 1 0 k.toNat from (rng0 _).symm]
  exact iRg1_of h h1 h2 rfl
theorem irgZ2 {f g : En → R D} {r : En} {i j : Int} (hf : f r = .ok (.int i) r) (hg : g r = .ok (.int j) r) (h1 : -1000000000 ≤ i) (h2 : i ≤ 1000000000) (h3 : -1000000000 ≤ j) (h4 : j ≤ 1000000000) : iRg2 f g r = .ok ((List.range (j - i).toNat).map fun k : Nat => PyData.int (i + k)) r := by
  rw [← rngD_map]
  exact iRg2_of hf hg h1 h2 h3 h4 rfl
theorem inner {t : D → En → Option En} {b : En → Fl} {st : XP → List XP} {ok : XP → Bool} (P : List XP → En → Prop) (h : ∀ x acc r, ok x = true → acc.length + (st x).length ≤ 5000 → P acc r → ∃ r1 r2, t (enX x) r = some r1 ∧ b r1 = .nx r2 ∧ P (acc ++ st x) r2) :
    ∀ (xs acc : List XP) (r : En), xs.all ok = true → (acc ++ xs.flatMap st).length ≤ 5000 → P acc r → ∃ r', forD t b (xs.map enX) r = .nx r' ∧ P (acc ++ xs.flatMap st) r'
  | [], acc, r, _, _, p => ⟨r, rfl, by simpa using p⟩
  | x :: xs, acc, r, hk, hl, p => by
    rw [List.all_cons, Bool.and_eq_true] at hk
    rw [List.flatMap_cons, ← List.append_assoc] at hl ⊢
    obtain ⟨r1, r2, e1, e2, p2⟩ := h x acc r hk.1 (by rw [List.length_append, List.length_append] at hl; omega) p
    obtain ⟨r', e3, p3⟩ := inner P h xs (acc ++ st x) r2 hk.2 hl p2
    refine ⟨r', ?_, p3⟩
    rw [List.map_cons]
    conv => lhs; unfold forD
    simp only [e1, e2, e3]
/-- a name that holds the list -/
def Hold (s : Sl) (F : List XP) : Prop := s = .ow (F.map enX) ∨ s = .vl (.list (F.map enX))
theorem hold_get {r : En} {i : Nat} {s : Sl} {F : List XP} (h : Hold s F) (e : r[i]? = some s) : eVF i r = .ok (.list (F.map enX)) (r.set i (.vl (.list (F.map enX)))) := by
  rcases h with rfl | rfl
  · exact eVF_ow e
  · unfold eVF
    rw [e]
    have hi : i < r.length := (List.getElem?_eq_some_iff.mp e).1
    have hs : r.set i (.vl (.list (F.map enX))) = r := by
      refine List.ext_getElem? fun j => ?_
      rw [List.getElem?_set]
      by_cases hj : i = j
      · subst hj; rw [if_pos rfl, if_pos hi, e]
      · rw [if_neg hj]
    rw [hs]
/-! ### the law's sums -/
def stS (x : XP) : List XP := (List.range (x.2 + 1).toNat).map fun k : Nat => (x.1 ++ [(k : Int)], x.2 - k)
def okS (x : XP) : Bool := decide (x.1.length ≤ 30) && decide (-100 ≤ x.2) && decide (x.2 ≤ 100)
def runS : Nat → List XP → Bool
  | 0, F => decide (F.length ≤ 5000) && F.all okS
  | m + 1, F => decide (F.length ≤ 5000) && F.all okS && runS m (F.flatMap stS)
def iterS : Nat → List XP → List XP
  | 0, F => F
  | m + 1, F => iterS m (F.flatMap stS)
theorem runS_len {m : Nat} {F : List XP} (h : runS m F = true) : F.length ≤ 5000 := by
  cases m with
  | zero => unfold runS at h; simp only [Bool.and_eq_true, decide_eq_true_eq] at h; exact h.1
  | succ m => unfold runS at h; simp only [Bool.and_eq_true, decide_eq_true_eq] at h; exact h.1.1
theorem bodyS {s0 s1 s2 s3 x7 : Sl} {x : XP} {acc : List XP} (hk : okS x = true) (hl : acc.length + (stS x).length ≤ 5000) :
    g__law_ha_sums_b2 [s0, s1, s2, s3, .ow (acc.map enX), .vl (tI x.1), vz x.2, x7] = .nx [s0, s1, s2, s3, .ow ((acc ++ stS x).map enX), .vl (tI x.1), vz x.2, x7] := by
  unfold okS at hk
  simp only [Bool.and_eq_true, decide_eq_true_eq] at hk
  have it : iRg1 (eOp oAdd (eV 6) (eC (.int 1))) [s0, s1, s2, s3, .ow (acc.map enX), .vl (tI x.1), vz x.2, x7] = .ok ((List.range (x.2 + 1).toNat).map ni) [s0, s1, s2, s3, .ow (acc.map enX), .vl (tI x.1), vz x.2, x7] :=
    irgZ (addE (f := eV 6) (g := eC (.int 1)) (a := x.2) (b := 1) rfl eC_of rfl) (by omega) (by omega)
  have l := xLc_map (vs := [7]) (it := iRg1 (eOp oAdd (eV 6) (eC (.int 1)))) (t := gN 7) (c := tT) (f := g__law_ha_sums_e1) (enc := ni) (p := fun _ => true) (g := fun k : Nat => enX (x.1 ++ [(k : Int)], x.2 - k)) (xs := List.range (x.2 + 1).toNat) (r1 := [s0, s1, s2, s3, .ow (acc.map enX), .vl (tI x.1), vz x.2, x7]) it (fun k _ => by
    refine ⟨[s0, s1, s2, s3, .ow (acc.map enX), .vl (tI x.1), vz x.2, vi k], rfl, rfl, fun _ => ?_, rfl⟩
    have a1 : eOp oAdd (eV 5) (eTup (aCons (eV 7) (aNil))) [s0, s1, s2, s3, .ow (acc.map enX), .vl (tI x.1), vz x.2, vi k] = .ok (tI (x.1 ++ [(k : Int)])) [s0, s1, s2, s3, .ow (acc.map enX), .vl (tI x.1), vz x.2, vi k] := by
      refine Eq.trans (eOp_of (x := tI x.1) (y := .tuple [ni k]) rfl (eTup_of (ds := [ni k]) (aCons_of rfl aNil_of) (by show 1 ≤ 1000000; decide)) (oAddT (by rw [List.length_map]; show _ + 1 ≤ _; omega))) ?_
      show R.ok (PyData.tuple (x.1.map .int ++ [ni k])) _ = R.ok (PyData.tuple ((x.1 ++ [(k : Int)]).map .int)) _
      rw [List.map_append]
      rfl
    exact eTup_of (ds := [tI (x.1 ++ [(k : Int)]), .int (x.2 - k)]) (aCons_of a1 (aCons_of (subE (f := eV 6) (g := eV 7) (a := x.2) (b := k) rfl rfl rfl) aNil_of)) (by show 2 ≤ 1000000; decide)) (by rw [List.length_range]; omega)
  rw [filt_true] at l
  have e : (List.range (x.2 + 1).toNat).map (fun k : Nat => enX (x.1 ++ [(k : Int)], x.2 - k)) = (stS x).map enX := by unfold stS; rw [List.map_map]; rfl
  rw [e] at l
  refine Eq.trans (sExt_of (i := 4) (ds := acc.map enX) (es := (stS x).map enX) rfl l rfl (by rw [List.length_map, List.length_map]; omega)) ?_
  rw [← List.map_append]
  rfl
theorem loopS (s0 s1 : Sl) : ∀ (ks : List Nat) (F : List XP) (s2 s3 x4 x5 x6 x7 : Sl), runS ks.length F = true → Hold s2 F → (noIo s3 && noIo x4 && noIo x5 && noIo x6 && noIo x7) = true →
    ∃ y2 y3 y4 y5 y6 y7, forD (gN 3) g__law_ha_sums_b3 (ks.map ni) [s0, s1, s2, s3, x4, x5, x6, x7] = .nx [s0, s1, y2, y3, y4, y5, y6, y7] ∧ Hold y2 (iterS ks.length F) ∧ (noIo y3 && noIo y4 && noIo y5 && noIo y6 && noIo y7) = true
  | [], F, s2, s3, x4, x5, x6, x7, _, h, n => ⟨s2, s3, x4, x5, x6, x7, rfl, h, n⟩
  | k :: ks, F, s2, s3, x4, x5, x6, x7, hr, h, n => by
    rw [List.length_cons] at hr ⊢
    unfold runS at hr
    simp only [Bool.and_eq_true, decide_eq_true_eq] at hr
    obtain ⟨⟨h1, h2⟩, h3⟩ := hr
    simp only [Bool.and_eq_true] at n
    obtain ⟨r', e1, x5', x6', n5, n6, rfl⟩ := inner (t := gTA 2 (gsC (gN 5) (gsC (gN 6) (gsN)))) (b := g__law_ha_sums_b2) (st := stS) (ok := okS) (fun acc r => ∃ x5' x6' : Sl, noIo x5' = true ∧ noIo x6' = true ∧ r = [s0, s1, .vl (.list (F.map enX)), vi k, .ow (acc.map enX), x5', x6', x7])
      (fun x acc r hk hl hr => by
        obtain ⟨x5', x6', n5, n6, rfl⟩ := hr
        exact ⟨[s0, s1, .vl (.list (F.map enX)), vi k, .ow (acc.map enX), .vl (tI x.1), vz x.2, x7], _, rfl, bodyS hk hl, _, _, rfl, rfl, rfl⟩) F [] [s0, s1, .vl (.list (F.map enX)), vi k, .ow [], x5, x6, x7] h2 (by simpa using runS_len h3) ⟨x5, x6, n.1.1.2, n.1.2, rfl⟩
    rw [List.nil_append] at e1
    have b : g__law_ha_sums_b3 [s0, s1, s2, vi k, x4, x5, x6, x7] = .nx [s0, s1, .vl (.list ((F.flatMap stS).map enX)), vi k, .vl (.list ((F.flatMap stS).map enX)), x5', x6', x7] := by
      refine Eq.trans (sSeq_of (sAsgX_of (i := 4) (s := .ow []) (xLst_of (ds := []) aNil_of (by show 0 ≤ 1000000; decide)))) ?_
      refine Eq.trans (sSeq_of (Eq.trans (sFor_of (iSeq_ofL (hold_get (i := 2) (s := s2) (F := F) h rfl))) e1)) ?_
      exact sAsgX_of (i := 2) (xV_of (eVF_ow (i := 4) rfl))
    obtain ⟨y2, y3, y4, y5, y6, y7, e2, hy, ny⟩ := loopS s0 s1 ks (F.flatMap stS) (.vl (.list ((F.flatMap stS).map enX))) (vi k) (.vl (.list ((F.flatMap stS).map enX))) x5' x6' x7 h3 (.inr rfl) (by simp [n5, n6, n.2]; exact ⟨rfl, rfl⟩)
    refine ⟨y2, y3, y4, y5, y6, y7, ?_, hy, ny⟩
    rw [List.map_cons]
    conv => lhs; unfold forD
    have t1 : gN 3 (ni k) [s0, s1, s2, s3, x4, x5, x6, x7] = some [s0, s1, s2, vi k, x4, x5, x6, x7] := rfl
    simp only [t1, b, e2]
def sumsP (n : Nat) (size : Int) : List (List Int) := (iterS (n - 1) [([], size)]).map fun x => x.1 ++ [x.2]
theorem runS_last : ∀ {m : Nat} {F : List XP}, runS m F = true → (iterS m F).length ≤ 5000 ∧ (iterS m F).all okS = true
  | 0, F, h => by unfold runS at h; simp only [Bool.and_eq_true, decide_eq_true_eq] at h; exact h
  | m + 1, F, h => by
    unfold runS at h
    simp only [Bool.and_eq_true] at h
    have q := runS_last h.2
    exact q
theorem sumsE {n : Nat} {size : Int} (h1 : 1 ≤ n) (h6 : n ≤ 6) (hr : runS (n - 1) [([], size)] = true) : f__law_ha_sums [vi n, vz size] = .rt (.ow ((sumsP n size).map tI)) none := by
  obtain ⟨y2, y3, y4, y5, y6, y7, e1, hy, ny⟩ := loopS (vi n) (vz size) (List.range (n - 1)) [([], size)] (.ow [enX ([], size)]) .no .no .no .no .no (by rw [List.length_range]; exact hr) (.inl rfl) rfl
  rw [List.length_range] at hy
  obtain ⟨ll, lo⟩ := runS_last hr
  have i0 : sAsgX (xLst (aCons (eTup (aCons (eTup (aNil)) (aCons (eV 1) (aNil)))) (aNil))) 2 [vi n, vz size, .no, .no, .no, .no, .no, .no] = .nx [vi n, vz size, .ow [enX ([], size)], .no, .no, .no, .no, .no] := rfl
  have it : iRg1 (eOp oSub (eV 0) (eC (.int 1))) [vi n, vz size, .ow [enX ([], size)], .no, .no, .no, .no, .no] = .ok ((List.range (n - 1)).map ni) [vi n, vz size, .ow [enX ([], size)], .no, .no, .no, .no, .no] :=
    irg (n := n - 1) (subE (f := eV 0) (g := eC (.int 1)) (a := n) (b := 1) rfl eC_of rfl) (by omega) (by omega)
  have l := xLc_map (vs := [5, 6]) (it := iSeq (eVF 2)) (t := gTA 2 (gsC (gN 5) (gsC (gN 6) (gsN)))) (c := tT) (f := g__law_ha_sums_e4) (enc := enX) (p := fun _ => true) (g := fun x : XP => tI (x.1 ++ [x.2])) (xs := iterS (n - 1) [([], size)]) (r1 := [vi n, vz size, .vl (.list ((iterS (n - 1) [([], size)]).map enX)), y3, y4, y5, y6, y7]) (iSeq_ofL (hold_get (i := 2) (r := [vi n, vz size, y2, y3, y4, y5, y6, y7]) hy rfl)) (fun x hx => by
    refine ⟨[vi n, vz size, .vl (.list ((iterS (n - 1) [([], size)]).map enX)), y3, y4, .vl (tI x.1), vz x.2, y7], rfl, rfl, fun _ => ?_, rfl⟩
    have hk := List.all_eq_true.mp lo x hx
    unfold okS at hk
    simp only [Bool.and_eq_true, decide_eq_true_eq] at hk
    refine Eq.trans (eOp_of (x := tI x.1) (y := .tuple [.int x.2]) rfl (eTup_of (ds := [.int x.2]) (aCons_of rfl aNil_of) (by show 1 ≤ 1000000; decide)) (oAddT (by rw [List.length_map]; show _ + 1 ≤ _; omega))) ?_
    show R.ok (PyData.tuple (x.1.map .int ++ [.int x.2])) _ = R.ok (PyData.tuple ((x.1 ++ [x.2]).map .int)) _
    rw [List.map_append]
    rfl) (by omega)
  rw [filt_true] at l
  have e : (iterS (n - 1) [([], size)]).map (fun x : XP => tI (x.1 ++ [x.2])) = (sumsP n size).map tI := by unfold sumsP; rw [List.map_map]; rfl
  rw [e] at l
  simp only [Bool.and_eq_true] at ny
  refine runF_rt (r := [vi n, vz size, .vl (.list ((iterS (n - 1) [([], size)]).map enX)), y3, y4, y5, y6, y7]) rfl (Eq.trans (sSeq_of i0) (Eq.trans (sSeq_of (Eq.trans (sFor_of it) e1)) (sRetX_of l))) rfl (ioOf_no _ ?_)
  simp [ny.1.1.1.1, ny.1.1.1.2, ny.1.1.2, ny.1.2, ny.2]
  exact ⟨rfl, rfl, rfl⟩
/-! ### the program's halls -/
def leastB (n i x : Int) : Int := -((-x * (n - i)) / (n - i - 1))
theorem leastE {n i x : Int} (h : 1 ≤ n - i - 1) (h2 : n - i ≤ 10) : f_least_before [vz n, vz i, vz x] = .rt (vz (leastB n i x)) none := by
  refine runF_rt (r := [vz n, vz i, vz x]) rfl (sRet_of (eUn_of (x := .int ((-x * (n - i)) / (n - i - 1))) (eOp_of (r1 := [vz n, vz i, vz x]) (x := .int (-x * (n - i))) (y := .int (n - i - 1)) ?_ ?_ (oDiv_of (by omega) (by omega))) rfl)) rfl rfl
  · exact mulE (f := eUn oNeg (eV 2)) (g := eOp oSub (eV 0) (eV 1)) (a := -x) (b := n - i) rfl (subE (f := eV 0) (g := eV 1) (a := n) (b := i) rfl rfl rfl) (mulOk_r (by omega) _) rfl
  · exact subE (f := eOp oSub (eV 0) (eV 1)) (g := eC (.int 1)) (a := n - i) (b := 1) (subE (f := eV 0) (g := eV 1) (a := n) (b := i) rfl rfl rfl) eC_of rfl
def hd0 (L : List Int) : Int := L.getD 0 0
def stH (n size i : Int) (x : XP) : List XP := (List.range (size - x.2 + 1 - leastB n i (hd0 x.1)).toNat).map fun k : Nat => ((leastB n i (hd0 x.1) + k) :: x.1, x.2 + (leastB n i (hd0 x.1) + k))
def okH (n i : Int) (x : XP) : Bool := decide (1 ≤ x.1.length) && decide (x.1.length ≤ 30) && decide (-1000 ≤ x.2) && decide (x.2 ≤ 1000) && decide (-1000 ≤ leastB n i (hd0 x.1)) && decide (leastB n i (hd0 x.1) ≤ 1000)
def runH (n size : Int) : List Int → List XP → Bool
  | [], F => decide (F.length ≤ 5000) && F.all fun x => decide (x.1.length ≤ 30)
  | i :: is, F => decide (F.length ≤ 5000) && F.all (okH n i) && decide (1 ≤ n - i - 1) && decide (n - i ≤ 10) && runH n size is (F.flatMap (stH n size i))
def iterH (n size : Int) : List Int → List XP → List XP
  | [], F => F
  | i :: is, F => iterH n size is (F.flatMap (stH n size i))
theorem runH_len {n size : Int} {is : List Int} {F : List XP} (h : runH n size is F = true) : F.length ≤ 5000 := by
  cases is with
  | nil => unfold runH at h; simp only [Bool.and_eq_true, decide_eq_true_eq] at h; exact h.1
  | cons i is => unfold runH at h; simp only [Bool.and_eq_true, decide_eq_true_eq] at h; exact h.1.1.1.1
theorem runH_last {n size : Int} : ∀ {is : List Int} {F : List XP}, runH n size is F = true → (iterH n size is F).length ≤ 5000
  | [], F, h => runH_len h
  | i :: is, F, h => by
    unfold runH at h
    simp only [Bool.and_eq_true] at h
    have q := runH_last h.2
    exact q
theorem bodyH {n size i : Int} {s2 x7 x8 x9 : Sl} {x : XP} {acc : List XP} (h : 1 ≤ n - i - 1) (h2 : n - i ≤ 10) (hs : 0 ≤ size) (hs2 : size ≤ 1000) (hk : okH n i x = true) (hl : acc.length + (stH n size i x).length ≤ 5000) :
    g_halls_in_b3 [vz n, vz size, s2, vz i, .ow (acc.map enX), .vl (tI x.1), vz x.2, x7, x8, x9] = .nx [vz n, vz size, s2, vz i, .ow ((acc ++ stH n size i x).map enX), .vl (tI x.1), vz x.2, vz (leastB n i (hd0 x.1)), x8, x9] := by
  unfold okH at hk
  simp only [Bool.and_eq_true, decide_eq_true_eq] at hk
  obtain ⟨⟨⟨⟨⟨k1, k2⟩, k3⟩, k4⟩, k5⟩, k6⟩ := hk
  have g0 : x.1[0]? = some (hd0 x.1) := by
    unfold hd0
    rw [List.getD_eq_getElem?_getD, List.getElem?_eq_getElem (by omega)]
    rfl
  have c : eF (xCall f_least_before (aCons (eV 0) (aCons (eV 3) (aCons (eOp oIx (eV 5) (eC (.int 0))) (aNil))))) [vz n, vz size, s2, vz i, .ow (acc.map enX), .vl (tI x.1), vz x.2, x7, x8, x9] = .ok (.int (leastB n i (hd0 x.1))) [vz n, vz size, s2, vz i, .ow (acc.map enX), .vl (tI x.1), vz x.2, x7, x8, x9] :=
    call3 (a := .int n) (b := .int i) (c := .int (hd0 x.1)) rfl rfl (eOp_of (x := tI x.1) (y := .int 0) rfl eC_of (oIxT (i := 0) rfl g0)) (leastE h h2)
  refine Eq.trans (sSeq_of (sSet_of (i := 7) c)) ?_
  show sExt 4 (xLc [9] (iRg2 (eV 7) (eOp oAdd (eOp oSub (eV 1) (eV 6)) (eC (.int 1)))) (gN 9) (tT) (g_halls_in_e2)) [vz n, vz size, s2, vz i, .ow (acc.map enX), .vl (tI x.1), vz x.2, vz (leastB n i (hd0 x.1)), x8, x9] = _
  have ll : (stH n size i x).length = (size - x.2 + 1 - leastB n i (hd0 x.1)).toNat := by unfold stH; rw [List.length_map, List.length_range]
  generalize hv : leastB n i (hd0 x.1) = v at *
  have it : iRg2 (eV 7) (eOp oAdd (eOp oSub (eV 1) (eV 6)) (eC (.int 1))) [vz n, vz size, s2, vz i, .ow (acc.map enX), .vl (tI x.1), vz x.2, vz v, x8, x9] = .ok ((List.range (size - x.2 + 1 - v).toNat).map fun k : Nat => PyData.int (v + k)) [vz n, vz size, s2, vz i, .ow (acc.map enX), .vl (tI x.1), vz x.2, vz v, x8, x9] :=
    irgZ2 (f := eV 7) (i := v) rfl (addE (f := eOp oSub (eV 1) (eV 6)) (g := eC (.int 1)) (a := size - x.2) (b := 1) (subE (f := eV 1) (g := eV 6) (a := size) (b := x.2) rfl rfl rfl) eC_of rfl) (by omega) (by omega) (by omega) (by omega)
  have l := xLc_map (vs := [9]) (it := iRg2 (eV 7) (eOp oAdd (eOp oSub (eV 1) (eV 6)) (eC (.int 1)))) (t := gN 9) (c := tT) (f := g_halls_in_e2) (enc := fun k : Nat => PyData.int (v + k)) (p := fun _ => true) (g := fun k : Nat => enX ((v + k) :: x.1, x.2 + (v + k))) (xs := List.range (size - x.2 + 1 - v).toNat) (r1 := [vz n, vz size, s2, vz i, .ow (acc.map enX), .vl (tI x.1), vz x.2, vz v, x8, x9]) it (fun k _ => by
    refine ⟨[vz n, vz size, s2, vz i, .ow (acc.map enX), .vl (tI x.1), vz x.2, vz v, x8, vz (v + k)], rfl, rfl, fun _ => ?_, rfl⟩
    have a1 : eTup (aCons (eV 9) (aStar (eV 5) (aNil))) [vz n, vz size, s2, vz i, .ow (acc.map enX), .vl (tI x.1), vz x.2, vz v, x8, vz (v + k)] = .ok (tI ((v + k) :: x.1)) [vz n, vz size, s2, vz i, .ow (acc.map enX), .vl (tI x.1), vz x.2, vz v, x8, vz (v + k)] :=
      Eq.trans (eTup_of (ds := .int (v + k) :: (x.1.map .int ++ [])) (aCons_of (f := eV 9) rfl (aStarT (f := eV 5) (ds := x.1.map .int) rfl aNil_of)) (by rw [List.append_nil, List.length_cons, List.length_map]; omega)) (by rw [List.append_nil]; rfl)
    exact eTup_of (ds := [tI ((v + k) :: x.1), .int (x.2 + (v + k))]) (aCons_of a1 (aCons_of (addE (f := eV 6) (g := eV 9) (a := x.2) (b := v + k) rfl rfl rfl) aNil_of)) (by show 2 ≤ 1000000; decide)) (by rw [List.length_range]; omega)
  rw [filt_true] at l
  have e : (List.range (size - x.2 + 1 - v).toNat).map (fun k : Nat => enX ((v + k) :: x.1, x.2 + (v + k))) = (stH n size i x).map enX := by unfold stH; rw [hv, List.map_map]; rfl
  rw [e] at l
  refine Eq.trans (sExt_of (i := 4) (ds := acc.map enX) (es := (stH n size i x).map enX) rfl l rfl (by rw [List.length_map, List.length_map]; omega)) ?_
  rw [← List.map_append]
  rfl
theorem loopH (n size : Int) (hs : 0 ≤ size) (hs2 : size ≤ 1000) : ∀ (is : List Int) (F : List XP) (s2 s3 x4 x5 x6 x7 x8 x9 : Sl), runH n size is F = true → Hold s2 F → (noIo s3 && noIo x4 && noIo x5 && noIo x6 && noIo x7) = true →
    ∃ y2 y3 y4 y5 y6 y7, forD (gN 3) g_halls_in_b4 (is.map .int) [vz n, vz size, s2, s3, x4, x5, x6, x7, x8, x9] = .nx [vz n, vz size, y2, y3, y4, y5, y6, y7, x8, x9] ∧ Hold y2 (iterH n size is F) ∧ (noIo y3 && noIo y4 && noIo y5 && noIo y6 && noIo y7) = true
  | [], F, s2, s3, x4, x5, x6, x7, x8, x9, _, h, n => ⟨s2, s3, x4, x5, x6, x7, rfl, h, n⟩
  | i :: is, F, s2, s3, x4, x5, x6, x7, x8, x9, hr, h, nn => by
    unfold runH at hr
    simp only [Bool.and_eq_true, decide_eq_true_eq] at hr
    obtain ⟨⟨⟨⟨h1, h2⟩, a1⟩, a2⟩, h3⟩ := hr
    simp only [Bool.and_eq_true] at nn
    obtain ⟨r', e1, x5', x6', x7', n5, n6, n7, rfl⟩ := inner (t := gTA 2 (gsC (gN 5) (gsC (gN 6) (gsN)))) (b := g_halls_in_b3) (st := stH n size i) (ok := okH n i) (fun acc r => ∃ x5' x6' x7' : Sl, noIo x5' = true ∧ noIo x6' = true ∧ noIo x7' = true ∧ r = [vz n, vz size, .vl (.list (F.map enX)), vz i, .ow (acc.map enX), x5', x6', x7', x8, x9])
      (fun x acc r hk hl hr => by
        obtain ⟨x5', x6', x7', n5, n6, n7, rfl⟩ := hr
        exact ⟨[vz n, vz size, .vl (.list (F.map enX)), vz i, .ow (acc.map enX), .vl (tI x.1), vz x.2, x7', x8, x9], _, rfl, bodyH a1 a2 hs hs2 hk hl, _, _, _, rfl, rfl, rfl, rfl⟩) F [] [vz n, vz size, .vl (.list (F.map enX)), vz i, .ow [], x5, x6, x7, x8, x9] h2 (by simpa using runH_len h3) ⟨x5, x6, x7, nn.1.1.2, nn.1.2, nn.2, rfl⟩
    rw [List.nil_append] at e1
    have b : g_halls_in_b4 [vz n, vz size, s2, vz i, x4, x5, x6, x7, x8, x9] = .nx [vz n, vz size, .vl (.list ((F.flatMap (stH n size i)).map enX)), vz i, .vl (.list ((F.flatMap (stH n size i)).map enX)), x5', x6', x7', x8, x9] := by
      refine Eq.trans (sSeq_of (sAsgX_of (i := 4) (s := .ow []) (xLst_of (ds := []) aNil_of (by show 0 ≤ 1000000; decide)))) ?_
      refine Eq.trans (sSeq_of (Eq.trans (sFor_of (iSeq_ofL (hold_get (i := 2) (s := s2) (F := F) h rfl))) e1)) ?_
      exact sAsgX_of (i := 2) (xV_of (eVF_ow (i := 4) rfl))
    obtain ⟨y2, y3, y4, y5, y6, y7, e2, hy, ny⟩ := loopH n size hs hs2 is (F.flatMap (stH n size i)) (.vl (.list ((F.flatMap (stH n size i)).map enX))) (vz i) (.vl (.list ((F.flatMap (stH n size i)).map enX))) x5' x6' x7' x8 x9 h3 (.inr rfl) (by simp [n5, n6, n7]; exact ⟨rfl, rfl⟩)
    refine ⟨y2, y3, y4, y5, y6, y7, ?_, hy, ny⟩
    rw [List.map_cons]
    conv => lhs; unfold forD
    have t1 : gN 3 (.int i) [vz n, vz size, s2, s3, x4, x5, x6, x7, x8, x9] = some [vz n, vz size, s2, vz i, x4, x5, x6, x7, x8, x9] := rfl
    simp only [t1, b, e2]
def idxH : Nat → List Int
  | 2 => [0]
  | 3 => [1, 0]
  | 4 => [2, 1, 0]
  | 5 => [3, 2, 1, 0]
  | 6 => [4, 3, 2, 1, 0]
  | _ => []
def baseH (size : Int) : List XP := (List.range (size + 1).toNat).map fun k : Nat => ([(k : Int)], (k : Int))
def lastH (n : Nat) (size : Int) : List (List Int) := ((iterH n size (idxH n) (baseH size)).filter fun x => decide (x.2 = size)).map (·.1)
theorem hallsIn {n : Nat} {size : Int} {Ms : List (List Int)} (h1 : 1 ≤ n) (h6 : n ≤ 6) (hs : 0 ≤ size) (hs2 : size ≤ 1000) (hr : runH n size (idxH n) (baseH size) = true) (hM : srtD ((lastH n size).map tI) = Ms.map tI) : f_halls_in [vi n, vz size] = .rt (.ow (Ms.map tI)) none := by
  have it0 : iRg1 (eOp oAdd (eV 1) (eC (.int 1))) [vi n, vz size, .no, .no, .no, .no, .no, .no, .no, .no] = .ok ((List.range (size + 1).toNat).map ni) [vi n, vz size, .no, .no, .no, .no, .no, .no, .no, .no] :=
    irgZ (addE (f := eV 1) (g := eC (.int 1)) (a := size) (b := 1) rfl eC_of rfl) (by omega) (by omega)
  have l0 := xLc_map (vs := [8]) (it := iRg1 (eOp oAdd (eV 1) (eC (.int 1)))) (t := gN 8) (c := tT) (f := g_halls_in_e1) (enc := ni) (p := fun _ => true) (g := fun k : Nat => enX ([(k : Int)], (k : Int))) (xs := List.range (size + 1).toNat) (r1 := [vi n, vz size, .no, .no, .no, .no, .no, .no, .no, .no]) it0 (fun k _ =>
    ⟨[vi n, vz size, .no, .no, .no, .no, .no, .no, vi k, .no], rfl, rfl, fun _ => rfl, rfl⟩) (by rw [List.length_range]; omega)
  rw [filt_true] at l0
  have e0 : (List.range (size + 1).toNat).map (fun k : Nat => enX ([(k : Int)], (k : Int))) = (baseH size).map enX := by unfold baseH; rw [List.map_map]; rfl
  rw [e0] at l0
  have it : iRg3 (eOp oSub (eV 0) (eC (.int 2))) (eUn oNeg (eC (.int 1))) (eUn oNeg (eC (.int 1))) [vi n, vz size, .ow ((baseH size).map enX), .no, .no, .no, .no, .no, .no, .no] = .ok ((idxH n).map .int) [vi n, vz size, .ow ((baseH size).map enX), .no, .no, .no, .no, .no, .no, .no] := by
    have c : n = 1 ∨ n = 2 ∨ n = 3 ∨ n = 4 ∨ n = 5 ∨ n = 6 := by omega
    rcases c with rfl | rfl | rfl | rfl | rfl | rfl <;> rfl
  obtain ⟨y2, y3, y4, y5, y6, y7, e1, hy, ny⟩ := loopH n size hs hs2 (idxH n) (baseH size) (.ow ((baseH size).map enX)) .no .no .no .no .no .no .no hr (.inl rfl) rfl
  have ll := runH_last hr
  have l := xLc_map (vs := [5, 6]) (it := iSeq (eVF 2)) (t := gTA 2 (gsC (gN 5) (gsC (gN 6) (gsN)))) (c := g_halls_in_t6) (f := g_halls_in_e5) (enc := enX) (p := fun x : XP => decide (x.2 = size)) (g := fun x : XP => tI x.1) (xs := iterH n size (idxH n) (baseH size)) (r1 := [vi n, vz size, .vl (.list ((iterH n size (idxH n) (baseH size)).map enX)), y3, y4, y5, y6, y7, .no, .no]) (iSeq_ofL (hold_get (i := 2) (r := [vi n, vz size, y2, y3, y4, y5, y6, y7, .no, .no]) hy rfl)) (fun x hx =>
    ⟨[vi n, vz size, .vl (.list ((iterH n size (idxH n) (baseH size)).map enX)), y3, y4, .vl (tI x.1), vz x.2, y7, .no, .no], rfl, tB1_of (eOp_of (x := .int x.2) (y := .int size) rfl rfl (by
      show some (PyData.bool (x.2 == size)) = _
      rfl)), fun _ => rfl, rfl⟩) (by omega)
  have e : ((iterH n size (idxH n) (baseH size)).filter fun x => decide (x.2 = size)).map (fun x : XP => tI x.1) = (lastH n size).map tI := by unfold lastH; rw [List.map_map]; rfl
  rw [e] at l
  have srt : xCB nSrtA (aCons (eF (xLc [5, 6] (iSeq (eVF 2)) (gTA 2 (gsC (gN 5) (gsC (gN 6) (gsN)))) (g_halls_in_t6) (g_halls_in_e5))) (aNil)) [vi n, vz size, y2, y3, y4, y5, y6, y7, .no, .no] = .ok (.ow (Ms.map tI)) [vi n, vz size, .vl (.list ((iterH n size (idxH n) (baseH size)).map enX)), y3, y4, y5, y6, y7, .no, .no] := by
    unfold xCB
    rw [aCons_of (eF_of l rfl) aNil_of]
    have k : nSrtA [.list ((lastH n size).map tI)] = some (Ms.map tI) := by
      have o : okK ((lastH n size).map tI) = true := okK_tups (lastH n size)
      show (if okK ((lastH n size).map tI) = true then _ else _) = _
      rw [if_pos o, hM]
    simp only [R.bind, k]
  simp only [Bool.and_eq_true] at ny
  refine runF_rt (r := [vi n, vz size, .vl (.list ((iterH n size (idxH n) (baseH size)).map enX)), y3, y4, y5, y6, y7, .no, .no]) rfl (Eq.trans (sSeq_of (sAsgX_of (i := 2) l0)) (Eq.trans (sSeq_of (Eq.trans (sFor_of it) e1)) (sRetX_of srt))) rfl (ioOf_no _ ?_)
  simp [ny.1.1.1.1, ny.1.1.1.2, ny.1.1.2, ny.1.2, ny.2]
  exact ⟨rfl, rfl, rfl, rfl⟩
end K71
set_option maxHeartbeats 400000
/-! K71q: what is a hall, odd parts, the unlike ones -/
namespace K71
open PySem L2 DL
def gI (L : List Int) (i : Nat) : Int := L.getD i 0
theorem getI {L : List Int} {i : Nat} (h : i < L.length) : L[i]? = some (gI L i) := by
  unfold gI
  rw [List.getD_eq_getElem?_getD, List.getElem?_eq_getElem h]
  rfl
def low (L : List Int) (i : Nat) : Bool := decide (gI L i * ((L.length : Int) - i - 1) < gI L (i + 1) * ((L.length : Int) - i))
def lows (L : List Int) : List Nat := (List.range (L.length - 1)).filter (low L)
theorem lowsE {L : List Int} {r : En} {vs : List Nat} {it : En → R (List D)} {t : D → En → Option En} {c : En → R Bool} {f : En → R D} (hl : L.length ≤ 1000) (hi : it r = .ok ((List.range (L.length - 1)).map ni) r) (h : ∀ i, i < L.length - 1 → ∃ r2, t (ni i) (wipeD r vs) = some r2 ∧ c r2 = .ok (low L i) r2 ∧ f r2 = .ok (ni i) r2 ∧ wipeD r2 vs = wipeD r vs) : xLc vs it t c f r = .ok (.ow ((lows L).map ni)) r :=
  xLc_map (enc := ni) (p := low L) (g := ni) (xs := List.range (L.length - 1)) (r1 := r) hi (fun i hi => by
    obtain ⟨r2, a, b, c, d⟩ := h i (List.mem_range.mp hi)
    exact ⟨r2, a, b, fun _ => c, d⟩) (by rw [List.length_range]; omega)
theorem eq_nil (ns : List Nat) : oEq (.list (ns.map ni)) (.list []) = some (.bool ns.isEmpty) := by
  have e : ns.map ni = (ns.map fun n : Nat => (n : Int)).map PyData.int := by
    rw [List.map_map]
    rfl
  have q := oEq_lI (ns.map fun n : Nat => (n : Int)) []
  rw [List.map_nil] at q
  rw [e, q]
  refine congrArg (fun b => some (PyData.bool b)) ?_
  cases ns <;> rfl
theorem lowTest {L : List Int} {r : En} {f1 f2 f3 : En → R D} {i : Nat} (h : i + 1 < L.length) (hl : L.length ≤ 1000) (h1 : f1 r = .ok (tI L) r) (h2 : f2 r = .ok (ni i) r) (h3 : f3 r = .ok (ni L.length) r) :
    tB1 (eOp oLtK (eOp oMul (eOp oIx f1 f2) (eOp oSub (eOp oSub f3 f2) (eC (.int 1)))) (eOp oMul (eOp oIx f1 (eOp oAdd f2 (eC (.int 1)))) (eOp oSub f3 f2))) r = .ok (low L i) r := by
  refine tB1_of (eOp_of (r1 := r) (x := .int (gI L i * ((L.length : Int) - i - 1))) (y := .int (gI L (i + 1) * ((L.length : Int) - i))) ?_ ?_ ltK)
  · exact mulE (a := gI L i) (b := (L.length : Int) - i - 1) (eOp_of h1 h2 (oIxT rfl (getI (by omega)))) (subE (a := (L.length : Int) - i) (b := 1) (subE (a := L.length) (b := i) h3 h2 rfl) eC_of rfl) (mulOk_r (by omega) _) rfl
  · exact mulE (a := gI L (i + 1)) (b := (L.length : Int) - i) (eOp_of (y := ni (i + 1)) h1 (addE (a := i) (b := 1) h2 eC_of rfl) (oIxT rfl (getI h))) (subE (a := L.length) (b := i) h3 h2 rfl) (mulOk_r (by omega) _) rfl
theorem lawHall {L : List Int} (hl : L.length ≤ 1000) : f__law_ha_is_hall [.vl (tI L)] = .rt (.vl (.bool (lows L).isEmpty)) none := by
  have e : eCB cLen (aCons (eV 0) (aNil)) [.vl (tI L), .no, .no] = .ok (ni L.length) [.vl (tI L), .no, .no] := eCB_of (x := [tI L]) (aCons_of rfl aNil_of) (by rw [lenD, List.length_map])
  have it : iRg1 (eOp oSub (eV 1) (eC (.int 1))) [.vl (tI L), vi L.length, .no] = .ok ((List.range (L.length - 1)).map ni) [.vl (tI L), vi L.length, .no] := by
    rw [show (List.range (L.length - 1)).map ni = rngD 1 0 (L.length - 1) from (rng0 _).symm]
    exact iRg1_of (j := (L.length : Int) - 1) (subE (f := eV 1) (g := eC (.int 1)) (a := L.length) (b := 1) rfl eC_of rfl) (by omega) (by omega) (by omega)
  have l : eF (xLc [2] (iRg1 (eOp oSub (eV 1) (eC (.int 1)))) (gN 2) (g__law_ha_is_hall_t2) (g__law_ha_is_hall_e1)) [.vl (tI L), vi L.length, .no] = .ok (.list ((lows L).map ni)) [.vl (tI L), vi L.length, .no] :=
    eF_of (lowsE hl it fun i hi => ⟨[.vl (tI L), vi L.length, vi i], rfl, lowTest (by omega) hl rfl rfl rfl, rfl, rfl⟩) rfl
  exact runF_rt (r := [.vl (tI L), vi L.length, .no]) rfl (Eq.trans (sSeq_of (sSet_of (i := 1) e)) (sRet_of (eOp_of l (y := .list []) rfl (eq_nil _)))) rfl rfl
/-! ### odd parts -/
def upN (p : Nat) (f : Nat → Int) : Nat → Nat → Int
  | 0, i => f i
  | k + 1, i => if p ≤ i then f i + upN p f k (i - p) else f i
theorem upN_fuel {p : Nat} (f : Nat → Int) (hp : 1 ≤ p) : ∀ (k l i : Nat), i < k → i < l → upN p f k i = upN p f l i
  | 0, _, _, h, _ => absurd h (by omega)
  | k + 1, 0, _, _, h => absurd h (by omega)
  | k + 1, l + 1, i, h1, h2 => by
    unfold upN
    by_cases z : p ≤ i
    · rw [if_pos z, if_pos z, upN_fuel f hp k l (i - p) (by omega) (by omega)]
    · rw [if_neg z, if_neg z]
def up (p : Nat) (f : Nat → Int) (i : Nat) : Int := upN p f (i + 1) i
theorem up_ge {p : Nat} (f : Nat → Int) (hp : 1 ≤ p) {i : Nat} (h : p ≤ i) : up p f i = f i + up p f (i - p) := by
  unfold up
  rw [upN, if_pos h, upN_fuel f hp i (i - p + 1) (i - p) (by omega) (by omega)]
theorem up_lt {p : Nat} (f : Nat → Int) {i : Nat} (h : i < p) : up p f i = f i := by
  unfold up
  rw [upN, if_neg (by omega)]
def mix (p j : Nat) (f : Nat → Int) (i : Nat) : Int := if i < p + j then up p f i else f i
theorem mix0 (p : Nat) (f : Nat → Int) : mix p 0 f = f := by
  funext i
  unfold mix
  by_cases h : i < p + 0
  · rw [if_pos h, up_lt f (by omega)]
  · rw [if_neg h]
theorem mixS {p : Nat} (hp : 1 ≤ p) (j : Nat) (f : Nat → Int) : (fun i => if i = p + j then mix p j f (p + j) + mix p j f j else mix p j f i) = mix p (j + 1) f := by
  funext i
  unfold mix
  by_cases h : i = p + j
  · subst h
    rw [if_pos rfl, if_neg (by omega), if_pos (by omega), if_pos (by omega), up_ge f hp (i := p + j) (by omega), Nat.add_sub_cancel_left]
  · rw [if_neg h]
    by_cases z : i < p + j
    · rw [if_pos z, if_pos (by omega)]
    · rw [if_neg z, if_neg (by omega)]
theorem mixEnd {p m : Nat} (f : Nat → Int) : fD m (mix p (m - p) f) = fD m (up p f) := by
  show (fI m _).map PyData.int = (fI m _).map PyData.int
  rw [fI_cong fun i hi => by unfold mix; rw [if_pos (by omega)]]
theorem sRetV_ow {i : Nat} {r : En} {ds : List D} (h : r[i]? = some (.ow ds)) : sRetV i r = .rt (.ow ds) (r.set i .no) := by
  unfold sRetV
  rw [h]
theorem withAny {m p : Nat} (f : Nat → Int) (hp : 1 ≤ p) (hp2 : p ≤ 1000) (hm : m ≤ 1000) : f_with_any [.vl (.list (fD m f)), vi p] = .rt (.ow (fD m (up p f))) none := by
  have e0 : sAsgX (xCB nList (aCons (eV 0) (aNil))) 2 [.vl (.list (fD m f)), vi p, .no, .no] = .nx [.vl (.list (fD m f)), vi p, .ow (fD m f), .no] := rfl
  have it : iRg2 (eV 1) (eLenO 2) [.vl (.list (fD m f)), vi p, .ow (fD m f), .no] = .ok (rngD 1 (p : Int) (m - p)) [.vl (.list (fD m f)), vi p, .ow (fD m f), .no] :=
    iRg2_of (i := p) (j := m) rfl (by
      show R.ok (PyData.int ((fD m f).length : Nat)) _ = _
      rw [List.length_map, fI_len]) (by omega) (by omega) (by omega) (by omega) (by omega)
  obtain ⟨r', e1, x3, n3, rfl⟩ := forD_range (t := gN 3) (f := g_with_any_b1) (lo := (p : Int)) (n := m - p) (fun j r => ∃ x3 : Sl, noIo x3 = true ∧ r = [.vl (.list (fD m f)), vi p, .ow (fD m (mix p j f)), x3]) (fun j r hj hr => by
    obtain ⟨x3, n3, rfl⟩ := hr
    refine ⟨[.vl (.list (fD m f)), vi p, .ow (fD m (mix p j f)), .vl (.int ((p : Int) + j))], _, rfl, aug_f (i := 2) (gi := eV 3) (g := eIxO 2 (eOp oSub (eV 3) (eV 1))) (r := [.vl (.list (fD m f)), vi p, .ow (fD m (mix p j f)), .vl (.int ((p : Int) + j))]) (r1 := [.vl (.list (fD m f)), vi p, .ow (fD m (mix p j f)), .vl (.int ((p : Int) + j))]) (r2 := [.vl (.list (fD m f)), vi p, .ow (fD m (mix p j f)), .vl (.int ((p : Int) + j))]) (k := (p : Int) + j) (j := p + j) (v := mix p j f j) (n := m) (f := mix p j f) rfl rfl rfl ?_ rfl (by omega) (by omega), .vl (.int ((p : Int) + j)), rfl, ?_⟩
    · exact ixO_f (i := 2) (j := j) (n := m) (f := mix p j f) (s := .ow (fD m (mix p j f))) rfl (subE (f := eV 3) (g := eV 1) (a := (p : Int) + j) (b := p) rfl rfl rfl) rfl rfl (by omega) (by omega)
    · rw [mixS hp]
      rfl) (r := [.vl (.list (fD m f)), vi p, .ow (fD m f), .no]) ⟨.no, rfl, by rw [mix0]⟩
  rw [mixEnd] at e1
  exact runF_rt (r := [.vl (.list (fD m f)), vi p, .no, x3]) rfl (Eq.trans (sSeq_of e0) (Eq.trans (sSeq_of (Eq.trans (sFor_of it) e1)) (sRetV_ow (i := 2) rfl))) rfl (ioOf_no _ (by simp [n3]; exact ⟨rfl, rfl, rfl⟩))
def oneF (i : Nat) : Int := if i = 0 then 1 else 0
theorem oneE {size : Nat} (hs : size ≤ 900) {r : En} {g : En → R D} (h : g r = .ok (ni size) r) : xOp nCat (eF (xLst (aCons (eC (.int 1)) (aNil)))) (eF (xOp nRep (eF (xLst (aCons (eC (.int 0)) (aNil)))) g)) r = .ok (.ow (fD (size + 1) oneF)) r := by
  have c := cat_f (n := 1) (m := size) (f := fun _ => 1) (g := fun _ => 0) (by omega)
  have e : fD (1 + size) (fun i => if i < 1 then (1 : Int) else 0) = fD (size + 1) oneF := by
    rw [Nat.add_comm]
    show (fI _ _).map PyData.int = (fI _ _).map PyData.int
    rw [fI_cong fun i hi => by
      show (if i < 1 then (1 : Int) else 0) = oneF i
      unfold oneF
      by_cases z : i = 0
      · rw [if_pos z, if_pos (by omega)]
      · rw [if_neg z, if_neg (by omega)]]
  rw [e] at c
  exact xOp_o (x := .list (fD 1 fun _ => 1)) (y := .list (fD size fun _ => 0)) rfl (eF_of (zeros h rfl (by omega)) rfl) c
def parts : Nat → List Nat
  | 1 => [1]
  | 2 => [1, 3]
  | 3 => [1, 3, 5]
  | 4 => [1, 3, 5, 7]
  | 5 => [1, 3, 5, 7, 9]
  | 6 => [1, 3, 5, 7, 9, 11]
  | _ => []
theorem parts_ok : ∀ n, ∀ p ∈ parts n, 1 ≤ p ∧ p ≤ 11
  | 0 => by decide
  | 1 => by decide
  | 2 => by decide
  | 3 => by decide
  | 4 => by decide
  | 5 => by decide
  | 6 => by decide
  | _ + 7 => fun p hp => by cases hp
def oddF (ps : List Nat) (f : Nat → Int) : Nat → Int := ps.foldl (fun f p => up p f) f
theorem oddF_cons (p : Nat) (ps : List Nat) (f : Nat → Int) : oddF (p :: ps) f = oddF ps (up p f) := rfl
theorem iParts {n : Nat} (h1 : 1 ≤ n) (h6 : n ≤ 6) (s1 s2 s3 : Sl) : iRg3 (eC (.int 1)) (eOp oMul (eC (.int 2)) (eV 0)) (eC (.int 2)) [vi n, s1, s2, s3] = .ok ((parts n).map ni) [vi n, s1, s2, s3] := by
  have c : n = 1 ∨ n = 2 ∨ n = 3 ∨ n = 4 ∨ n = 5 ∨ n = 6 := by omega
  rcases c with rfl | rfl | rfl | rfl | rfl | rfl <;> rfl
theorem iParts5 {n : Nat} (h1 : 1 ≤ n) (h6 : n ≤ 6) (s1 s2 s3 s4 : Sl) : iRg3 (eC (.int 1)) (eOp oMul (eC (.int 2)) (eV 0)) (eC (.int 2)) [vi n, s1, s2, s3, s4] = .ok ((parts n).map ni) [vi n, s1, s2, s3, s4] := by
  have c : n = 1 ∨ n = 2 ∨ n = 3 ∨ n = 4 ∨ n = 5 ∨ n = 6 := by omega
  rcases c with rfl | rfl | rfl | rfl | rfl | rfl <;> rfl
theorem forD_cons {t : D → En → Option En} {f : En → Fl} {d : D} {ds : List D} {r r1 r2 : En} (h1 : t d r = some r1) (h2 : f r1 = .nx r2) : forD t f (d :: ds) r = forD t f ds r2 := by
  conv => lhs; unfold forD
  simp only [h1, h2]
theorem oddStep (s0 s1 : Sl) {m p : Nat} (hm : m ≤ 1000) (f : Nat → Int) (h1 : 1 ≤ p) (h2 : p ≤ 11) : g_odd_numbers_b1 [s0, s1, .ow (fD m f), vi p] = .nx [s0, s1, .ow (fD m (up p f)), vi p] := by
  have w := withAny f h1 (show p ≤ 1000 by omega) hm
  generalize fD m (up p f) = gs at w ⊢
  generalize fD m f = fs at w ⊢
  exact sAsgX_of (i := 2) (r1 := [s0, s1, .vl (.list fs), vi p]) (xCall_of (ds := [.list fs, ni p]) (aCons_of (eVF_ow (i := 2) (r := [s0, s1, .ow fs, vi p]) rfl) (aCons_of (f := eV 3) rfl aNil_of)) w)
theorem loopO (s0 s1 : Sl) {m : Nat} (hm : m ≤ 1000) (ps : List Nat) : ∀ (f : Nat → Int) (x3 : Sl), (∀ p ∈ ps, 1 ≤ p ∧ p ≤ 11) → noIo x3 = true → ∃ y3, forD (gN 3) g_odd_numbers_b1 (ps.map ni) [s0, s1, .ow (fD m f), x3] = .nx [s0, s1, .ow (fD m (oddF ps f)), y3] ∧ noIo y3 = true := by
  induction ps with
  | nil => exact fun f x3 _ n3 => ⟨x3, rfl, n3⟩
  | cons p ps ih =>
    intro f x3 hp n3
    obtain ⟨y3, e, ny⟩ := ih (up p f) (vi p) (fun q hq => hp q (List.mem_cons_of_mem _ hq)) rfl
    refine ⟨y3, ?_, ny⟩
    have b := oddStep s0 s1 hm f (hp p List.mem_cons_self).1 (hp p List.mem_cons_self).2
    rw [oddF_cons, ← e, List.map_cons]
    exact forD_cons (r1 := [s0, s1, .ow (fD m f), vi p]) rfl b
theorem oddNum {n size : Nat} (h1 : 1 ≤ n) (h6 : n ≤ 6) (hs : size ≤ 900) : f_odd_numbers [vi n, vi size] = .rt (.ow (fD (size + 1) (oddF (parts n) oneF))) none := by
  obtain ⟨y3, e, ny⟩ := loopO (vi n) (vi size) (m := size + 1) (by omega) (parts n) oneF .no (parts_ok n) rfl
  exact runF_rt (r := [vi n, vi size, .no, y3]) rfl (Eq.trans (sSeq_of (sAsgX_of (i := 2) (oneE hs (g := eV 1) (r := [vi n, vi size, .no, .no]) rfl))) (Eq.trans (sSeq_of (Eq.trans (sFor_of (iParts h1 h6 _ _ _)) e)) (sRetV_ow (i := 2) rfl))) rfl (ioOf_no _ (by simp [ny]; exact ⟨rfl, rfl, rfl⟩))
theorem lawStep (s0 : Sl) {size p : Nat} (hm : size ≤ 900) (f : Nat → Int) (p1 : 1 ≤ p) (p2 : p ≤ 11) {x4 : Sl} (n4 : noIo x4 = true) : ∃ y4, g__law_odd_b2 [s0, vi size, .ow (fD (size + 1) f), vi p, x4] = .nx [s0, vi size, .ow (fD (size + 1) (up p f)), vi p, y4] ∧ noIo y4 = true := by
  have it : iRg2 (eV 3) (eOp oAdd (eV 1) (eC (.int 1))) [s0, vi size, .ow (fD (size + 1) f), vi p, x4] = .ok (rngD 1 (p : Int) (size + 1 - p)) [s0, vi size, .ow (fD (size + 1) f), vi p, x4] :=
    iRg2_of (i := p) (j := (size : Int) + 1) rfl (addE (f := eV 1) (g := eC (.int 1)) (a := size) (b := 1) rfl eC_of rfl) (by omega) (by omega) (by omega) (by omega) (by omega)
  obtain ⟨r', e1, x4', n4', rfl⟩ := forD_range (t := gN 4) (f := g__law_odd_b1) (lo := (p : Int)) (n := size + 1 - p) (fun j r => ∃ x4 : Sl, noIo x4 = true ∧ r = [s0, vi size, .ow (fD (size + 1) (mix p j f)), vi p, x4]) (fun j r hj hr => by
    obtain ⟨x4, n4, rfl⟩ := hr
    have a1 : eIxO 2 (eV 4) [s0, vi size, .ow (fD (size + 1) (mix p j f)), vi p, .vl (.int ((p : Int) + j))] = .ok (.int (mix p j f (p + j))) [s0, vi size, .ow (fD (size + 1) (mix p j f)), vi p, .vl (.int ((p : Int) + j))] :=
      ixO_f (i := 2) (g := eV 4) (k := (p : Int) + j) (j := p + j) (n := size + 1) (f := mix p j f) (s := .ow (fD (size + 1) (mix p j f))) rfl rfl rfl rfl (by omega) (by omega)
    have a2 : eIxO 2 (eOp oSub (eV 4) (eV 3)) [s0, vi size, .ow (fD (size + 1) (mix p j f)), vi p, .vl (.int ((p : Int) + j))] = .ok (.int (mix p j f j)) [s0, vi size, .ow (fD (size + 1) (mix p j f)), vi p, .vl (.int ((p : Int) + j))] :=
      ixO_f (i := 2) (j := j) (n := size + 1) (f := mix p j f) (s := .ow (fD (size + 1) (mix p j f))) rfl (subE (f := eV 4) (g := eV 3) (a := (p : Int) + j) (b := p) rfl rfl rfl) rfl rfl (by omega) (by omega)
    refine ⟨[s0, vi size, .ow (fD (size + 1) (mix p j f)), vi p, .vl (.int ((p : Int) + j))], _, rfl, put_f (i := 2) (fi := eV 4) (j := p + j) (v := mix p j f (p + j) + mix p j f j) (n := size + 1) (f := mix p j f) (addE a1 a2 rfl) rfl rfl rfl (by omega) (by omega), .vl (.int ((p : Int) + j)), rfl, ?_⟩
    rw [mixS p1]
    rfl) (r := [s0, vi size, .ow (fD (size + 1) f), vi p, x4]) ⟨x4, n4, by rw [mix0]⟩
  rw [mixEnd] at e1
  exact ⟨x4', Eq.trans (sFor_of it) e1, n4'⟩
theorem loopL (s0 : Sl) {size : Nat} (hm : size ≤ 900) (ps : List Nat) : ∀ (f : Nat → Int) (x3 x4 : Sl), (∀ p ∈ ps, 1 ≤ p ∧ p ≤ 11) → noIo x3 = true → noIo x4 = true → ∃ y3 y4, forD (gN 3) g__law_odd_b2 (ps.map ni) [s0, vi size, .ow (fD (size + 1) f), x3, x4] = .nx [s0, vi size, .ow (fD (size + 1) (oddF ps f)), y3, y4] ∧ noIo y3 = true ∧ noIo y4 = true := by
  induction ps with
  | nil => exact fun f x3 x4 _ n3 n4 => ⟨x3, x4, rfl, n3, n4⟩
  | cons p ps ih =>
    intro f x3 x4 hp n3 n4
    obtain ⟨x4', b, n4'⟩ := lawStep s0 hm f (hp p List.mem_cons_self).1 (hp p List.mem_cons_self).2 n4
    obtain ⟨y3, y4, e, ny⟩ := ih (up p f) (vi p) x4' (fun q hq => hp q (List.mem_cons_of_mem _ hq)) rfl n4'
    refine ⟨y3, y4, ?_, ny⟩
    rw [oddF_cons, ← e, List.map_cons]
    exact forD_cons (r1 := [s0, vi size, .ow (fD (size + 1) f), vi p, x4]) rfl b
theorem lawOdd {n size : Nat} (h1 : 1 ≤ n) (h6 : n ≤ 6) (hs : size ≤ 900) : f__law_odd [vi n, vi size] = .rt (.vl (.int (oddF (parts n) oneF size))) none := by
  obtain ⟨y3, y4, e, ny, ny4⟩ := loopL (vi n) (size := size) hs (parts n) oneF .no .no (parts_ok n) rfl rfl
  refine runF_rt (r := [vi n, vi size, .ow (fD (size + 1) (oddF (parts n) oneF)), y3, y4]) rfl (Eq.trans (sSeq_of (sAsgX_of (i := 2) (oneE hs (g := eV 1) (r := [vi n, vi size, .no, .no, .no]) rfl))) (Eq.trans (sSeq_of (Eq.trans (sFor_of (iParts5 h1 h6 _ _ _ _)) e)) (sRet_of (ixO_f (i := 2) (g := eV 1) (k := size) (j := size) (n := size + 1) (f := oddF (parts n) oneF) (s := .ow (fD (size + 1) (oddF (parts n) oneF))) rfl rfl rfl rfl rfl (by omega))))) rfl (ioOf_no _ (by simp [ny, ny4]; exact ⟨rfl, rfl, rfl⟩))
/-! ### the program's askings -/
theorem reqHS {n size : Nat} {most : Int} (h1 : 1 ≤ n) (h6 : n ≤ 6) (hs : (size : Int) ≤ most) (hm : most ≤ 1000) : f_require_hall_and_size [vi n, vi size, .vl (.int most)] = .rt (.vl .none) none := by
  have a : f_require_hall_number [vi n] = .rt (.vl .none) none :=
    runF_nx (r := [vi n]) rfl (sDrop_of (call3 (a := ni n) (b := .int 1) (c := .int 6) rfl eC_of eC_of (reqN ⟨by omega, by omega⟩ (by omega) (by omega)))) rfl
  exact runF_nx (r := [vi n, vi size, .vl (.int most)]) rfl (Eq.trans (sSeq_of (sDrop_of (call1 (a := ni n) rfl a))) (sDrop_of (call3 (f := eV 1) (g := eC (.int 0)) (h := eV 2) (a := ni size) (b := .int 0) (c := .int most) rfl eC_of rfl (reqN ⟨by omega, by omega⟩ (by omega) hs)))) rfl
theorem countHalls {n size : Nat} (h1 : 1 ≤ n) (h6 : n ≤ 6) (hs : size ≤ 200) : f_count_halls [vi n, vi size] = .rt (.vl (.int (oddF (parts n) oneF size))) none := by
  refine runF_rt (r := [vi n, vi size]) rfl (Eq.trans (sSeq_of (sDrop_of (call3 (a := ni n) (b := ni size) (c := .int 200) rfl rfl eC_of (reqHS h1 h6 (by omega) (by omega))))) (sRet_of (eOp_of (x := .list (fD (size + 1) (oddF (parts n) oneF))) (y := ni size) (eF_of (xCall_of (aCons_of (f := eV 0) rfl (aCons_of (f := eV 1) rfl aNil_of)) (oddNum h1 h6 (by omega))) rfl) rfl (oIxL rfl (fI_at _ (by omega)))))) rfl rfl
theorem countOdd {n size : Nat} (h1 : 1 ≤ n) (h6 : n ≤ 6) (hs : size ≤ 200) : f_count_odd_below [vi n, vi size] = .rt (.vl (.int (oddF (parts n) oneF size))) none := by
  refine runF_rt (r := [vi n, vi size]) rfl (Eq.trans (sSeq_of (sDrop_of (call3 (a := ni n) (b := ni size) (c := .int 200) rfl rfl eC_of (reqHS h1 h6 (by omega) (by omega))))) (sRet_of (eOp_of (x := .list (fD (size + 1) (oddF (parts n) oneF))) (y := ni size) (eF_of (xCall_of (aCons_of (f := eV 0) rfl (aCons_of (f := eV 1) rfl aNil_of)) (oddNum h1 h6 (by omega))) rfl) rfl (oIxL rfl (fI_at _ (by omega)))))) rfl rfl
theorem hallsE {n size : Nat} {Ms : List (List Int)} (h1 : 1 ≤ n) (h6 : n ≤ 6) (hs : size ≤ 20) (hr : runH n size (idxH n) (baseH size) = true) (hM : srtD ((lastH n size).map tI) = Ms.map tI) : f_halls [vi n, vi size] = .rt (.vl (.tuple (Ms.map tI))) none :=
  runF_rt (r := [vi n, vi size]) rfl (Eq.trans (sSeq_of (sDrop_of (call3 (a := ni n) (b := ni size) (c := .int 20) rfl rfl eC_of (reqHS h1 h6 (by omega) (by omega))))) (sRet_of (eCB_of (x := [.list (Ms.map tI)]) (aCons_of (eF_of (xCall_of (aCons_of (f := eV 0) rfl (aCons_of (f := eV 1) rfl aNil_of)) (hallsIn h1 h6 (by omega) (by omega) hr hM)) rfl) aNil_of) rfl))) rfl rfl
end K71
set_option maxHeartbeats 4000000
/-! K71d: the tables -/
namespace K71
open PySem L2 DL
def toLL : List D → Option (List (List Int))
  | [] => some []
  | .tuple ds :: r => match itsD ds with
    | some ks => (toLL r).map fun l => ks :: l
    | none => none
  | _ :: _ => none
theorem toLL_is : ∀ {ds : List D} {M : List (List Int)}, toLL ds = some M → ds = M.map tI
  | [], M, h => by cases h; rfl
  | d :: r, M, h => by
    unfold toLL at h
    split at h
    · rename_i e
      cases e
    · rename_i ds r' e
      cases e
      cases hi : itsD ds with
      | none => simp only [hi] at h; cases h
      | some ks =>
        simp only [hi] at h
        have ed := itsD_is hi
        cases hr : toLL r with
        | none => rw [hr] at h; cases h
        | some l =>
          rw [hr] at h
          cases h
          rw [ed, toLL_is hr]
          rfl
    · cases h
def hallB (L : List Int) : Bool := (lows L).isEmpty
def dueP (n s : Nat) : List (List Int) := (sumsP n s).filter hallB
def rowsT : Nat → List (List Int)
  | 0 => [[]]
  | 1 => [[1]]
  | 2 => [[1, 1], [2]]
  | 3 => [[1, 1, 1], [2, 1], [3]]
  | 4 => [[1, 1, 1, 1], [2, 1, 1], [2, 2], [3, 1], [4]]
  | 5 => [[1, 1, 1, 1, 1], [2, 1, 1, 1], [2, 2, 1], [3, 1, 1], [3, 2], [4, 1], [5]]
  | 6 => [[1, 1, 1, 1, 1, 1], [2, 1, 1, 1, 1], [2, 2, 1, 1], [2, 2, 2], [3, 1, 1, 1], [3, 2, 1], [3, 3], [4, 1, 1], [4, 2], [5, 1], [6]]
  | _ => []
def unl (L : List Int) : Bool := decide ((dedK L).length = L.length)
def pad (n : Nat) (L : List Int) : List Int := L ++ List.replicate (n - L.length) 0
def posB (x : Int) : Bool := decide (0 < x)
def chk1 (n s : Nat) : Bool := runS (n - 1) [([], (s : Int))] && (runH n s (idxH n) (baseH s) && (decide (toLL (srtD ((lastH n s).map tI)) = some (dueP n s)) && (decide (oddF (parts n) oneF s = ((dueP n s).length : Nat)) && ((sumsP n s).all (fun L => decide (L.length ≤ 30)) &&
  ((decide (n < s) || decide (toLL (srtD ((((rowsT s).filter unl).map (pad n)).map tI)) = some (dueP n s))) && (dueP n s).all fun L => unl (L.filter posB))))))
def capN : Nat → Nat
  | 1 => 21
  | 2 => 21
  | 3 => 16
  | 4 => 11
  | 5 => 8
  | 6 => 7
  | _ => 0
theorem tab1 : ((List.range 6).all fun k => (List.range (capN (k + 1))).all fun s => chk1 (k + 1) s) = true := by decide +kernel
def told (n s : Nat) : List (List Int) := (toLL (srtD ((lastH n s).map tI))).getD []
def goodB (n s : Nat) (L : List Int) : Bool := decide (L.sum = (s : Int)) && (decide (L.length = n) && hallB L)
def chk2 (n s : Nat) : Bool := runH n s (idxH n) (baseH s) && ((toLL (srtD ((lastH n s).map tI))).isSome && (decide (((told n s).length : Nat) = oddF (parts n) oneF s) && (decide (toLL (srtD ((dedK (told n s)).map tI)) = some (told n s)) && (told n s).all (goodB n s))))
theorem tab2 : ((List.range 6).all fun k => (List.range 21).all fun s => chk2 (k + 1) s) = true := by decide +kernel
theorem get1 {n s : Nat} (h1 : 1 ≤ n) (h6 : n ≤ 6) (hs : s < capN n) : chk1 n s = true := by
  have a := List.all_eq_true.mp tab1 (n - 1) (List.mem_range.mpr (by omega))
  rw [Nat.sub_add_cancel h1] at a
  exact List.all_eq_true.mp a s (List.mem_range.mpr hs)
theorem get2 {n s : Nat} (h1 : 1 ≤ n) (h6 : n ≤ 6) (hs : s < 21) : chk2 n s = true := by
  have a := List.all_eq_true.mp tab2 (n - 1) (List.mem_range.mpr (by omega))
  rw [Nat.sub_add_cancel h1] at a
  exact List.all_eq_true.mp a s (List.mem_range.mpr hs)
theorem rowsEv : ∀ s, s ≤ 6 → f__law_rows [vi s] = .rt (.ow ((rowsT s).map tI)) none := by
  intro s hs
  have c : s = 0 ∨ s = 1 ∨ s = 2 ∨ s = 3 ∨ s = 4 ∨ s = 5 ∨ s = 6 := by omega
  rcases c with rfl | rfl | rfl | rfl | rfl | rfl | rfl <;> kernel_rfl
end K71
set_option maxHeartbeats 400000
set_option exponentiation.threshold 3000

/-! K71t: the statements of a turn; the walk of the first ones -/
namespace K71
open PySem L2 DL
def Sg0 : En → Fl := sSet (eOp oAdd (eC (.int 1)) (eF (xCallI 0 f__law_roll (aCons (eC (.int 6)) (aNil))))) 1
def Sg1 : En → Fl := sSet (eF (xCallI 0 f__law_roll (aCons (eOp oIx (eF (xLst (aCons (eC (.int 21)) (aCons (eC (.int 21)) (aCons (eC (.int 16)) (aCons (eC (.int 11)) (aCons (eC (.int 8)) (aCons (eC (.int 7)) (aNil))))))))) (eOp oSub (eV 1) (eC (.int 1)))) (aNil)))) 2
def Sg2 : En → Fl := sAsgX (xLc [5] (iSeq (eF (xCall f__law_ha_sums (aCons (eV 1) (aCons (eV 2) (aNil)))))) (gN 5) (g__law_right_t2) (g__law_right_e1)) 3
def Sg3 : En → Fl := sIf (tOr1 (tB1 (eOp oNe (eF (xCall f_halls (aCons (eV 1) (aCons (eV 2) (aNil))))) (eCB cTup (aCons (eVF 3) (aNil))))) (tB1 (eRep2 false (eF (xCall f_count_halls (aCons (eV 1) (aCons (eV 2) (aNil))))) (eLenO 3)))) (sRet (eC (.bool false))) (sNil)
def Sg4 : En → Fl := sIf (tB1 (eRep2 false (eF (xCall f_count_odd_below (aCons (eV 1) (aCons (eV 2) (aNil))))) (eLenO 3))) (sRet (eC (.bool false))) (sNil)
def Sg5 : En → Fl := sIf (tB1 (eOp oLeK (eV 2) (eV 1))) (sSeq (sAsgX (xLc [5] (iSeq (eF (xCall f__law_rows (aCons (eV 2) (aNil))))) (gN 5) (g__law_right_t4) (g__law_right_e3)) 4) (sIf (tB1 (eOp oNe (eVF 3) (eF (xCB nSrtA (aCons (eF (xLc [5] (iSeq (eVF 4)) (gN 5) (tT) (g__law_right_e5))) (aNil)))))) (sRet (eC (.bool false))) (sNil))) (sNil)
def Sg6 : En → Fl := sFor (iSeq (eVF 3)) (gN 5) (g__law_right_b8)
def Sg7 : En → Fl := sPars [1, 2] (yCons (xV (eOp oAdd (eC (.int 1)) (eF (xCallI 0 f__law_roll (aCons (eC (.int 6)) (aNil)))))) (yCons (xV (eF (xCallI 0 f__law_roll (aCons (eC (.int 201)) (aNil))))) (yNil)))
def Sg8 : En → Fl := sIf (tB1 (eRep2 false (eF (xLst (aCons (eF (xCall f_count_halls (aCons (eV 1) (aCons (eV 2) (aNil))))) (aCons (eF (xCall f_count_odd_below (aCons (eV 1) (aCons (eV 2) (aNil))))) (aNil))))) (eF (xOp nRep (eF (xLst (aCons (eF (xCall f__law_odd (aCons (eV 1) (aCons (eV 2) (aNil))))) (aNil)))) (eC (.int 2)))))) (sRet (eC (.bool false))) (sNil)
def Sg9 : En → Fl := sSet (eF (xCallI 0 f__law_roll (aCons (eC (.int 21)) (aNil)))) 2
def Sg10 : En → Fl := sSet (eF (xCall f_halls (aCons (eV 1) (aCons (eV 2) (aNil))))) 7
def Sg11 : En → Fl := sIf (tOr1 (tB1 (eOp oNe (eCB cLen (aCons (eV 7) (aNil))) (eF (xCall f__law_odd (aCons (eV 1) (aCons (eV 2) (aNil))))))) (tB1 (eOp oNe (eF (xCB nList (aCons (eV 7) (aNil)))) (eF (xCall f__law_ascending (aCons (eV 7) (aNil))))))) (sRet (eC (.bool false))) (sNil)
def Sg12 : En → Fl := sRet (eOp oEq (eF (xLc [5] (iSeq (eV 7)) (gN 5) (g__law_right_t10) (g__law_right_e9))) (eF (xLst (aNil))))
theorem right_is : F__law_right = sSeq Sg0 (sSeq Sg1 (sSeq Sg2 (sSeq Sg3 (sSeq Sg4 (sSeq Sg5 (sSeq Sg6 (sSeq Sg7 (sSeq Sg8 (sSeq Sg9 (sSeq Sg10 (sSeq Sg11 (Sg12)))))))))))) := rfl
abbrev E (d : List D) (s1 s2 s3 s4 s5 s6 s7 s8 : Sl) : En := [.io d, s1, s2, s3, s4, s5, s6, s7, s8]
theorem oEqB_of {x y : D} {b : Bool} (h : oEq x y = some (.bool b)) : oEqB x y = some b := by
  unfold oEq at h
  cases hq : oEqB x y with
  | none => rw [hq] at h; cases h
  | some c => rw [hq] at h; cases h; rfl
theorem neTs (M : List (List Int)) : oNe (.tuple (M.map tI)) (.tuple (M.map tI)) = some (.bool false) := by
  have q := oEq_tIs M M
  rw [decide_eq_true rfl] at q
  exact oNe_of (oEqB_of q)
theorem neLs (M : List (List Int)) : oNe (.list (M.map tI)) (.list (M.map tI)) = some (.bool false) := by
  have q := oEq_lIs M M
  rw [decide_eq_true rfl] at q
  exact oNe_of (oEqB_of q)
theorem samI (x : Int) : samF (.int x) (.int x) = true := by simp [samF]
theorem repOk_lI {ns : List Int} (h : ∀ x ∈ ns, x.natAbs < 2 ^ 200) (hl : ns.length ≤ 900) : repOk (.list (ns.map .int)) = true := by
  unfold repOk
  have b := bulk_ints ns
  have e : repF 9 (.list (ns.map .int)) = true := by
    show repF (8 + 1) (.list (ns.map .int)) = true
    simp only [repF, repFs_ints 8 ns h]
  rw [e, Bool.true_and]
  refine decide_eq_true ?_
  simp only [PyData.bulk]
  omega
theorem samF_lI (ns : List Int) : samF (.list (ns.map .int)) (.list (ns.map .int)) = true := by
  simp only [samF, samFs_ints]
/-! ### the unlike ones in order -/
theorem itsD_map : ∀ L : List Int, itsD (L.map .int) = some L
  | [] => rfl
  | x :: L => by
    show (itsD (L.map .int)).map _ = _
    rw [itsD_map L]
    rfl
theorem prI_map : ∀ L : List Int, prI (L.map fun x => .tuple [.int x, .bool true]) = some L
  | [] => rfl
  | x :: L => by
    show (prI (L.map fun x => .tuple [.int x, .bool true])).map _ = _
    rw [prI_map L]
    rfl
theorem prT_map : ∀ Ls : List (List Int), prT (Ls.map fun L => .tuple [tI L, .bool true]) = some Ls
  | [] => rfl
  | L :: Ls => by
    rw [List.map_cons]
    unfold prT
    simp only [itsD_map, prT_map Ls]
    rfl
theorem nSD_I (L : List Int) : nSD (.list (L.map fun x => .tuple [.int x, .bool true])) = some (srtD ((dedK L).map .int)) := by
  unfold nSD
  simp only [prI_map]
theorem nSD_T (Ls : List (List Int)) : nSD (.list (Ls.map fun L => .tuple [tI L, .bool true])) = some (srtD ((dedK Ls).map tI)) := by
  cases Ls with
  | nil => rfl
  | cons L Ls =>
    have q := prT_map (L :: Ls)
    have z : prI ((L :: Ls).map fun L => .tuple [tI L, .bool true]) = none := rfl
    unfold nSD
    simp only [z, q]
    rfl
theorem ascE {α : Type} {enc : α → D} {xs : List α} {d : D} {out : List D} (hd : d = .tuple (xs.map enc) ∨ d = .list (xs.map enc)) (hl : xs.length ≤ 5000) (hn : nSD (.list (xs.map fun x => .tuple [enc x, .bool true])) = some out) : f__law_ascending [.vl d] = .rt (.ow out) none := by
  have it : iSeq (eV 0) [.vl d, .no] = .ok (xs.map enc) [.vl d, .no] := by
    rcases hd with rfl | rfl
    · exact iSeq_of rfl
    · exact iSeq_ofL rfl
  have l := xLc_map (vs := [1]) (it := iSeq (eV 0)) (t := gN 1) (c := tT) (f := g__law_ascending_e1) (enc := enc) (p := fun _ => true) (g := fun x => .tuple [enc x, .bool true]) (xs := xs) (r1 := [.vl d, .no]) it (fun x _ =>
    ⟨[.vl d, .vl (enc x)], rfl, rfl, fun _ => eTup_of (ds := [enc x, .bool true]) (aCons_of (f := eV 1) rfl (aCons_of eC_of aNil_of)) (by show 2 ≤ 1000000; decide), rfl⟩) (by omega)
  rw [filt_true] at l
  have e : xSD (eF (xLc [1] (iSeq (eV 0)) (gN 1) (tT) (g__law_ascending_e1))) [.vl d, .no] = .ok (.ow out) [.vl d, .no] := by
    unfold xSD
    rw [eF_of l rfl]
    simp only [R.bind, hn]
  exact runF_rt (r := [.vl d, .no]) rfl (sRetX_of e) rfl rfl
theorem asc_len (L : List Int) : (srtD ((dedK L).map PyData.int)).length = (dedK L).length := by
  rw [(srtD_perm _).length_eq, List.length_map]
/-- len(asc(x)) != len(x) of unlike ints -/
theorem lenAsc {L : List Int} (hl : L.length ≤ 5000) {d : D} (hd : d = .tuple (L.map .int) ∨ d = .list (L.map .int)) {r r1 : En} {f : En → R D} (h : f r = .ok d r1) : eCB cLen (aCons (eF (xCall f__law_ascending (aCons f (aNil)))) (aNil)) r = .ok (ni (dedK L).length) r1 := by
  have a := ascE (enc := PyData.int) (xs := L) hd hl (nSD_I L)
  refine eCB_of (x := [.list (srtD ((dedK L).map PyData.int))]) (aCons_of (eF_of (xCall_of (aCons_of h aNil_of) a) rfl) aNil_of) ?_
  rw [lenC, asc_len]
theorem onePlus {k : Nat} {f : En → R D} {r r1 : En} (h : f r = .ok (ni k) r1) : eOp oAdd (eC (.int 1)) f r = .ok (ni (1 + k)) r1 :=
  eOp_of (x := .int 1) (y := ni k) eC_of h (by
    show some (PyData.int ((1 : Int) + (k : Int))) = _
    refine congrArg (fun z => some (PyData.int z)) ?_
    omega)
/-! ### the first five -/
theorem t0 {d : List D} (hd : IsDice d) : ∃ (n : Nat) (d' : List D), Sg0 (E d .no .no .no .no .no .no .no .no) = .nx (E d' (vi n) .no .no .no .no .no .no .no) ∧ 1 ≤ n ∧ n ≤ 6 ∧ IsDice d' := by
  obtain ⟨k, d1, w1, a0, a1, k1⟩ := rollG (n := 6) (f := eC (.int 6)) (r := (E d .no .no .no .no .no .no .no .no)) (r1 := (E d .no .no .no .no .no .no .no .no)) hd rfl rfl eC_of (by decide) (by decide)
  obtain ⟨k, rfl⟩ : ∃ m : Nat, k = m := ⟨k.toNat, by omega⟩
  exact ⟨1 + k, d1, sSet_of (i := 1) (r1 := (E d1 .no .no .no .no .no .no .no .no)) (d := ni (1 + k)) (onePlus w1), by omega, by omega, k1⟩
theorem t1 {d : List D} (hd : IsDice d) {n : Nat} (h1 : 1 ≤ n) (h6 : n ≤ 6) : ∃ (s : Nat) (d' : List D), Sg1 (E d (vi n) .no .no .no .no .no .no .no) = .nx (E d' (vi n) (vi s) .no .no .no .no .no .no) ∧ s < capN n ∧ IsDice d' := by
  have c : eOp oIx (eF (xLst (aCons (eC (.int 21)) (aCons (eC (.int 21)) (aCons (eC (.int 16)) (aCons (eC (.int 11)) (aCons (eC (.int 8)) (aCons (eC (.int 7)) (aNil))))))))) (eOp oSub (eV 1) (eC (.int 1))) (E d (vi n) .no .no .no .no .no .no .no) = .ok (ni (capN n)) (E d (vi n) .no .no .no .no .no .no .no) := by
    have c : n = 1 ∨ n = 2 ∨ n = 3 ∨ n = 4 ∨ n = 5 ∨ n = 6 := by omega
    rcases c with rfl | rfl | rfl | rfl | rfl | rfl <;> rfl
  have cc : 0 < capN n ∧ capN n ≤ 21 := by
    have c : n = 1 ∨ n = 2 ∨ n = 3 ∨ n = 4 ∨ n = 5 ∨ n = 6 := by omega
    rcases c with rfl | rfl | rfl | rfl | rfl | rfl <;> decide
  obtain ⟨k, d1, w1, a0, a1, k1⟩ := rollG (r := (E d (vi n) .no .no .no .no .no .no .no)) (r1 := (E d (vi n) .no .no .no .no .no .no .no)) hd rfl rfl c (by omega) (by omega)
  obtain ⟨k, rfl⟩ : ∃ m : Nat, k = m := ⟨k.toNat, by omega⟩
  exact ⟨k, d1, sSet_of (i := 2) (r1 := (E d1 (vi n) .no .no .no .no .no .no .no)) w1, by omega, k1⟩
structure F1 (n s : Nat) : Prop where
  runs : runS (n - 1) [([], (s : Int))] = true
  runh : runH n s (idxH n) (baseH s) = true
  srt : srtD ((lastH n s).map tI) = (dueP n s).map tI
  cnt : oddF (parts n) oneF s = ((dueP n s).length : Nat)
  len : ∀ L ∈ sumsP n s, L.length ≤ 30
  few : s ≤ n → srtD ((((rowsT s).filter unl).map (pad n)).map tI) = (dueP n s).map tI
  nod : ∀ L ∈ dueP n s, unl (L.filter posB) = true
theorem f1 {n s : Nat} (h1 : 1 ≤ n) (h6 : n ≤ 6) (hs : s < capN n) : F1 n s := by
  have q := get1 h1 h6 hs
  unfold chk1 at q
  simp only [Bool.and_eq_true, decide_eq_true_eq, Bool.or_eq_true] at q
  obtain ⟨q1, q2, q3, q4, q5, q6, q7⟩ := q
  exact ⟨q1, q2, toLL_is q3, q4, fun L hL => of_decide_eq_true (List.all_eq_true.mp q5 L hL), fun z => toLL_is (q6.resolve_left (by omega)), fun L hL => List.all_eq_true.mp q7 L hL⟩
theorem F1.sums {n s : Nat} (h : F1 n s) : (sumsP n s).length ≤ 5000 := by
  unfold sumsP
  rw [List.length_map]
  exact (runS_last h.runs).1
theorem F1.dueL {n s : Nat} (h : F1 n s) : (dueP n s).length ≤ 5000 := Nat.le_trans (List.length_filter_le _ _) h.sums
theorem F1.dueM {n s : Nat} (h : F1 n s) {L : List Int} (hL : L ∈ dueP n s) : L.length ≤ 30 := h.len L ((List.mem_filter.mp hL).1)
theorem cap21 (n : Nat) : capN n ≤ 21 := by
  unfold capN
  split <;> omega
theorem t2 {d : List D} {n s : Nat} (h1 : 1 ≤ n) (h6 : n ≤ 6) (h : F1 n s) : Sg2 (E d (vi n) (vi s) .no .no .no .no .no .no) = .nx (E d (vi n) (vi s) (.ow ((dueP n s).map tI)) .no .no .no .no .no) := by
  have it : iSeq (eF (xCall f__law_ha_sums (aCons (eV 1) (aCons (eV 2) (aNil))))) (E d (vi n) (vi s) .no .no .no .no .no .no) = .ok ((sumsP n s).map tI) (E d (vi n) (vi s) .no .no .no .no .no .no) :=
    iSeq_ofL (eF_of (xCall_of (aCons_of (f := eV 1) rfl (aCons_of (f := eV 2) rfl aNil_of)) (sumsE h1 h6 h.runs)) rfl)
  exact sAsgX_of (i := 3) (r1 := (E d (vi n) (vi s) .no .no .no .no .no .no)) (xLc_map (vs := [5]) (enc := tI) (p := hallB) (g := tI) (xs := sumsP n s) (r1 := (E d (vi n) (vi s) .no .no .no .no .no .no)) it (fun L hL =>
    ⟨(E d (vi n) (vi s) .no .no (.vl (tI L)) .no .no .no), rfl, tTru_of (call1 (a := tI L) rfl (lawHall (by have := h.len L hL; omega))), fun _ => rfl, rfl⟩) (by have := h.sums; omega))
theorem small5 {k : Nat} (h : k ≤ 5000) : repOk (ni k) = true := repOk_i (Nat.lt_of_le_of_lt (by omega : ((k : Int)).natAbs ≤ 5000) (by decide))
theorem t3 {d : List D} {n s : Nat} (h1 : 1 ≤ n) (h6 : n ≤ 6) (hs : s ≤ 20) (h : F1 n s) : Sg3 (E d (vi n) (vi s) (.ow ((dueP n s).map tI)) .no .no .no .no .no) = .nx (E d (vi n) (vi s) (.vl (.list ((dueP n s).map tI))) .no .no .no .no .no) := by
  have c1 : tB1 (eOp oNe (eF (xCall f_halls (aCons (eV 1) (aCons (eV 2) (aNil))))) (eCB cTup (aCons (eVF 3) (aNil)))) (E d (vi n) (vi s) (.ow ((dueP n s).map tI)) .no .no .no .no .no) = .ok false (E d (vi n) (vi s) (.vl (.list ((dueP n s).map tI))) .no .no .no .no .no) :=
    tB1_of (eOp_of (r1 := (E d (vi n) (vi s) (.ow ((dueP n s).map tI)) .no .no .no .no .no)) (x := .tuple ((dueP n s).map tI)) (y := .tuple ((dueP n s).map tI)) (call2 (a := ni n) (b := ni s) rfl rfl (hallsE h1 h6 hs h.runh h.srt)) (eCB_of (x := [.list ((dueP n s).map tI)]) (aCons_of (eVF_ow (i := 3) rfl) aNil_of) rfl) (neTs _))
  have c2 : tB1 (eRep2 false (eF (xCall f_count_halls (aCons (eV 1) (aCons (eV 2) (aNil))))) (eLenO 3)) (E d (vi n) (vi s) (.vl (.list ((dueP n s).map tI))) .no .no .no .no .no) = .ok false (E d (vi n) (vi s) (.vl (.list ((dueP n s).map tI))) .no .no .no .no .no) :=
    tB1_of (eRep2_of (x := ni (dueP n s).length) (Eq.trans (call2 (a := ni n) (b := ni s) rfl rfl (countHalls h1 h6 (by omega))) (by rw [h.cnt])) (small5 h.dueL) (by
      show R.ok (PyData.int (((dueP n s).map tI).length : Nat)) _ = _
      rw [List.length_map]) (samI _))
  exact sIf_f0 (tOr1_f c1 c2)
theorem t4 {d : List D} {n s : Nat} (h1 : 1 ≤ n) (h6 : n ≤ 6) (hs : s ≤ 20) (h : F1 n s) : Sg4 (E d (vi n) (vi s) (.vl (.list ((dueP n s).map tI))) .no .no .no .no .no) = .nx (E d (vi n) (vi s) (.vl (.list ((dueP n s).map tI))) .no .no .no .no .no) := by
  have c2 : tB1 (eRep2 false (eF (xCall f_count_odd_below (aCons (eV 1) (aCons (eV 2) (aNil))))) (eLenO 3)) (E d (vi n) (vi s) (.vl (.list ((dueP n s).map tI))) .no .no .no .no .no) = .ok false (E d (vi n) (vi s) (.vl (.list ((dueP n s).map tI))) .no .no .no .no .no) :=
    tB1_of (eRep2_of (x := ni (dueP n s).length) (Eq.trans (call2 (a := ni n) (b := ni s) rfl rfl (countOdd h1 h6 (by omega))) (by rw [h.cnt])) (small5 h.dueL) (by
      show R.ok (PyData.int (((dueP n s).map tI).length : Nat)) _ = _
      rw [List.length_map]) (samI _))
  exact sIf_f0 c2
theorem rows_len : ∀ s, s ≤ 6 → ∀ L ∈ rowsT s, L.length ≤ s := by decide
theorem rows_few : ∀ s, s ≤ 6 → (rowsT s).length ≤ 11 := by decide
theorem repD_0 : ∀ k : Nat, repD [PyData.int 0] k = (List.replicate k (0 : Int)).map .int
  | 0 => rfl
  | k + 1 => by
    show PyData.int 0 :: repD [PyData.int 0] k = _
    rw [repD_0 k]
    rfl
theorem t5 {d : List D} {n s : Nat} (h1 : 1 ≤ n) (h6 : n ≤ 6) (h : F1 n s) : ∃ x4, noIo x4 = true ∧ Sg5 (E d (vi n) (vi s) (.vl (.list ((dueP n s).map tI))) .no .no .no .no .no) = .nx (E d (vi n) (vi s) (.vl (.list ((dueP n s).map tI))) x4 .no .no .no .no) := by
  have c : tB1 (eOp oLeK (eV 2) (eV 1)) (E d (vi n) (vi s) (.vl (.list ((dueP n s).map tI))) .no .no .no .no .no) = .ok (decide ((s : Int) ≤ n)) (E d (vi n) (vi s) (.vl (.list ((dueP n s).map tI))) .no .no .no .no .no) := tB1_of (eOp_of (x := ni s) (y := ni n) rfl rfl leK)
  by_cases z : s ≤ n
  · rw [decide_eq_true (by omega)] at c
    have few := h.few z
    generalize dueP n s = due at *
    have it : iSeq (eF (xCall f__law_rows (aCons (eV 2) (aNil)))) (E d (vi n) (vi s) (.vl (.list (due.map tI))) .no .no .no .no .no) = .ok ((rowsT s).map tI) (E d (vi n) (vi s) (.vl (.list (due.map tI))) .no .no .no .no .no) :=
      iSeq_ofL (eF_of (xCall_of (aCons_of (f := eV 2) rfl aNil_of) (rowsEv s (by omega))) rfl)
    have l := xLc_map (vs := [5]) (it := iSeq (eF (xCall f__law_rows (aCons (eV 2) (aNil))))) (t := gN 5) (c := g__law_right_t4) (f := g__law_right_e3) (enc := tI) (p := unl) (g := tI) (xs := rowsT s) (r1 := (E d (vi n) (vi s) (.vl (.list (due.map tI))) .no .no .no .no .no)) it (fun L hL => by
      have ll := rows_len s (by omega) L hL
      refine ⟨(E d (vi n) (vi s) (.vl (.list (due.map tI))) .no (.vl (tI L)) .no .no .no), rfl, tB1_of (eOp_of (r1 := (E d (vi n) (vi s) (.vl (.list (due.map tI))) .no (.vl (tI L)) .no .no .no)) (x := ni (dedK L).length) (y := ni L.length) (lenAsc (L := L) (f := eV 5) (by omega) (.inl rfl) rfl) (eCB_of (x := [tI L]) (aCons_of (f := eV 5) rfl aNil_of) (by rw [lenD, List.length_map])) ?_), fun _ => rfl, rfl⟩
      show some (PyData.bool (((dedK L).length : Int) == (L.length : Int))) = some (PyData.bool (unl L))
      refine congrArg (fun b => some (PyData.bool b)) ?_
      unfold unl
      rw [Bool.eq_iff_iff, beq_iff_eq, decide_eq_true_eq]
      omega) (by have := rows_few s (by omega); omega)
    have l2 := xLc_map (vs := [5]) (it := iSeq (eVF 4)) (t := gN 5) (c := tT) (f := g__law_right_e5) (enc := tI) (p := fun _ => true) (g := fun L => tI (pad n L)) (xs := (rowsT s).filter unl) (r1 := (E d (vi n) (vi s) (.vl (.list (due.map tI))) (.vl (.list (((rowsT s).filter unl).map tI))) .no .no .no .no)) (r := (E d (vi n) (vi s) (.vl (.list (due.map tI))) (.ow (((rowsT s).filter unl).map tI)) .no .no .no .no)) (iSeq_ofL (eVF_ow (i := 4) rfl)) (fun L hL => by
      have ll := rows_len s (by omega) L ((List.mem_filter.mp hL).1)
      refine ⟨(E d (vi n) (vi s) (.vl (.list (due.map tI))) (.vl (.list (((rowsT s).filter unl).map tI))) (.vl (tI L)) .no .no .no), rfl, rfl, fun _ => ?_, rfl⟩
      have lenL : eCB cLen (aCons (eV 5) (aNil)) (E d (vi n) (vi s) (.vl (.list (due.map tI))) (.vl (.list (((rowsT s).filter unl).map tI))) (.vl (tI L)) .no .no .no) = .ok (ni L.length) (E d (vi n) (vi s) (.vl (.list (due.map tI))) (.vl (.list (((rowsT s).filter unl).map tI))) (.vl (tI L)) .no .no .no) :=
        eCB_of (x := [tI L]) (aCons_of (f := eV 5) rfl aNil_of) (by rw [lenD, List.length_map])
      have sb := subE (f := eV 1) (g := eCB cLen (aCons (eV 5) (aNil))) (a := n) (b := L.length) (c := ((n - L.length : Nat) : Int)) (r := (E d (vi n) (vi s) (.vl (.list (due.map tI))) (.vl (.list (((rowsT s).filter unl).map tI))) (.vl (tI L)) .no .no .no)) rfl lenL (by omega)
      have mz : oMulT (.tuple [.int 0]) (ni (n - L.length)) = some (tI (List.replicate (n - L.length) 0)) := by
        show (if (decide (-1000 ≤ ((n - L.length : Nat) : Int)) && decide (((n - L.length : Nat) : Int) ≤ 1000) && decide ([PyData.int 0].length ≤ 1000)) = true then some (PyData.tuple (repD [PyData.int 0] ((n - L.length : Nat) : Int).toNat)) else none) = _
        rw [if_pos (by rw [decide_eq_true (by omega), decide_eq_true (by omega)]; rfl), repD_0]
        rfl
      refine Eq.trans (eOp_of (x := tI L) (y := tI (List.replicate (n - L.length) 0)) (f := eV 5) rfl (eOp_of (eTup_of (ds := [.int 0]) (aCons_of eC_of aNil_of) (by show 1 ≤ 1000000; decide)) sb mz) (oAddT (by rw [List.length_map, List.length_map, List.length_replicate]; omega))) ?_
      unfold pad
      rw [← List.map_append]) (by have := rows_few s (by omega); have := List.length_filter_le unl (rowsT s); omega)
    rw [filt_true] at l2
    have e2 : ((rowsT s).filter unl).map (fun L => tI (pad n L)) = (((rowsT s).filter unl).map (pad n)).map tI := by rw [List.map_map]; rfl
    rw [e2] at l2
    generalize ((rowsT s).filter unl).map (pad n) = Ps at *
    generalize ((rowsT s).filter unl).map tI = Us at *
    have srt : xCB nSrtA (aCons (eF (xLc [5] (iSeq (eVF 4)) (gN 5) (tT) (g__law_right_e5))) (aNil)) (E d (vi n) (vi s) (.vl (.list (due.map tI))) (.ow Us) .no .no .no .no) = .ok (.ow (due.map tI)) (E d (vi n) (vi s) (.vl (.list (due.map tI))) (.vl (.list Us)) .no .no .no .no) := by
      unfold xCB
      rw [aCons_of (eF_of l2 rfl) aNil_of]
      have k : nSrtA [.list (Ps.map tI)] = some (due.map tI) := by
        have o : okK (Ps.map tI) = true := okK_tups Ps
        show (if okK (Ps.map tI) = true then _ else _) = _
        rw [if_pos o, few]
      simp only [R.bind, k]
    have c2 := tB1_of (eOp_of (o := oNe) (f := eVF 3) (r := (E d (vi n) (vi s) (.vl (.list (due.map tI))) (.ow Us) .no .no .no .no)) (r1 := (E d (vi n) (vi s) (.vl (.list (due.map tI))) (.ow Us) .no .no .no .no)) (x := .list (due.map tI)) (y := .list (due.map tI)) rfl (eF_of srt rfl) (neLs due))
    exact ⟨.vl (.list Us), rfl, Eq.trans (sIf_t c) (Eq.trans (sSeq_of (sAsgX_of (i := 4) (r1 := (E d (vi n) (vi s) (.vl (.list (due.map tI))) .no .no .no .no .no)) l)) (sIf_f0 c2))⟩
  · rw [decide_eq_false (by omega)] at c
    exact ⟨.no, rfl, sIf_f0 c⟩
theorem t6 {d : List D} {n s : Nat} (h : F1 n s) (x4 : Sl) : ∃ x5 x6, noIo x5 = true ∧ noIo x6 = true ∧ Sg6 (E d (vi n) (vi s) (.vl (.list ((dueP n s).map tI))) x4 .no .no .no .no) = .nx (E d (vi n) (vi s) (.vl (.list ((dueP n s).map tI))) x4 x5 x6 .no .no) := by
  have nod := h.nod
  have dm : ∀ L ∈ dueP n s, L.length ≤ 30 := fun L hL => h.dueM hL
  generalize dueP n s = due at *
  obtain ⟨r', e1, x5, x6, n5, n6, rfl⟩ := forD_keep (t := gN 5) (f := g__law_right_b8) (fun r => ∃ x5 x6 : Sl, noIo x5 = true ∧ noIo x6 = true ∧ r = (E d (vi n) (vi s) (.vl (.list (due.map tI))) x4 x5 x6 .no .no)) (due.map tI) (E d (vi n) (vi s) (.vl (.list (due.map tI))) x4 .no .no .no .no) (fun v hv r hr => by
    obtain ⟨L, hL, rfl⟩ := List.mem_map.mp hv
    obtain ⟨x5, x6, n5, n6, rfl⟩ := hr
    have ll := dm L hL
    have un := of_decide_eq_true (nod L hL)
    have lf := List.length_filter_le posB L
    have l := xLc_map (vs := [8]) (it := iSeq (eV 5)) (t := gN 8) (c := g__law_right_t7) (f := g__law_right_e6) (enc := PyData.int) (p := posB) (g := PyData.int) (xs := L) (r1 := (E d (vi n) (vi s) (.vl (.list (due.map tI))) x4 (.vl (tI L)) x6 .no .no)) (r := (E d (vi n) (vi s) (.vl (.list (due.map tI))) x4 (.vl (tI L)) x6 .no .no)) (iSeq_of rfl) (fun x _ =>
      ⟨(E d (vi n) (vi s) (.vl (.list (due.map tI))) x4 (.vl (tI L)) x6 .no (.vl (.int x))), rfl, tB1_of (eOp_of (x := .int x) (y := .int 0) rfl eC_of gtK), fun _ => rfl, rfl⟩) (by omega)
    generalize L.filter posB = S at *
    have c : tB1 (eOp oNe (eCB cLen (aCons (eF (xCall f__law_ascending (aCons (eVF 6) (aNil)))) (aNil))) (eLenO 6)) (E d (vi n) (vi s) (.vl (.list (due.map tI))) x4 (.vl (tI L)) (.ow (S.map .int)) .no .no) = .ok false (E d (vi n) (vi s) (.vl (.list (due.map tI))) x4 (.vl (tI L)) (.vl (.list (S.map .int))) .no .no) := by
      refine tB1_of (eOp_of (r1 := (E d (vi n) (vi s) (.vl (.list (due.map tI))) x4 (.vl (tI L)) (.vl (.list (S.map .int))) .no .no)) (x := ni S.length) (y := ni S.length) ?_ ?_ (ne_same _))
      · have q := lenAsc (L := S) (f := eVF 6) (d := .list (S.map .int)) (r := (E d (vi n) (vi s) (.vl (.list (due.map tI))) x4 (.vl (tI L)) (.ow (S.map .int)) .no .no)) (by omega) (.inr rfl) (eVF_ow (i := 6) rfl)
        rw [un] at q
        exact q
      · show R.ok (PyData.int ((S.map PyData.int).length : Nat)) _ = _
        rw [List.length_map]
    exact ⟨(E d (vi n) (vi s) (.vl (.list (due.map tI))) x4 (.vl (tI L)) x6 .no .no), (E d (vi n) (vi s) (.vl (.list (due.map tI))) x4 (.vl (tI L)) (.vl (.list (S.map .int))) .no .no), rfl, Eq.trans (sSeq_of (sAsgX_of (i := 6) (r1 := (E d (vi n) (vi s) (.vl (.list (due.map tI))) x4 (.vl (tI L)) x6 .no .no)) l)) (sIf_f0 c), .vl (tI L), .vl (.list (S.map .int)), rfl, rfl, rfl⟩) ⟨.no, .no, rfl, rfl, rfl⟩
  exact ⟨x5, x6, n5, n6, Eq.trans (sFor_of (iSeq_ofL (f := eVF 3) rfl)) e1⟩

end K71
set_option maxHeartbeats 0
/-! K71: the head of law k71, by gen.py -/
namespace K71
open PySem PySem.Spec PyProof.Rows L2 DL
def d__law_dice : He.DefD := ⟨("_law_dice", none), "_law_dice", "_law_dice", defArgs (top 22), defBody (top 22), defScope (top 22), [], []⟩
def d_is_whole : He.DefD := ⟨("is_whole", none), "is_whole", "is_whole", defArgs (top 4), defBody (top 4), defScope (top 4), [], []⟩
def d_is_near : He.DefD := ⟨("is_near", none), "is_near", "is_near", defArgs (top 5), defBody (top 5), defScope (top 5), [], []⟩
def d_require_number : He.DefD := ⟨("require_number", none), "require_number", "require_number", defArgs (top 6), defBody (top 6), defScope (top 6), [], []⟩
def d_require_hall_number : He.DefD := ⟨("require_hall_number", none), "require_hall_number", "require_hall_number", defArgs (top 16), defBody (top 16), defScope (top 16), [], []⟩
def d_require_hall_and_size : He.DefD := ⟨("require_hall_and_size", none), "require_hall_and_size", "require_hall_and_size", defArgs (top 17), defBody (top 17), defScope (top 17), [], []⟩
def d_least_before : He.DefD := ⟨("least_before", none), "least_before", "least_before", defArgs (top 12), defBody (top 12), defScope (top 12), [], []⟩
def d_halls_in : He.DefD := ⟨("halls_in", none), "halls_in", "halls_in", defArgs (top 13), defBody (top 13), defScope (top 13), [], []⟩
def d_halls : He.DefD := ⟨("halls", none), "halls", "halls", defArgs (top 18), defBody (top 18), defScope (top 18), [], []⟩
def d_with_any : He.DefD := ⟨("with_any", none), "with_any", "with_any", defArgs (top 14), defBody (top 14), defScope (top 14), [], []⟩
def d_odd_numbers : He.DefD := ⟨("odd_numbers", none), "odd_numbers", "odd_numbers", defArgs (top 15), defBody (top 15), defScope (top 15), [], []⟩
def d_count_odd_below : He.DefD := ⟨("count_odd_below", none), "count_odd_below", "count_odd_below", defArgs (top 20), defBody (top 20), defScope (top 20), [], []⟩
def d_count_halls : He.DefD := ⟨("count_halls", none), "count_halls", "count_halls", defArgs (top 19), defBody (top 19), defScope (top 19), [], []⟩
def d__law_roll : He.DefD := ⟨("_law_roll", none), "_law_roll", "_law_roll", defArgs (top 23), defBody (top 23), defScope (top 23), [], []⟩
def d__law_ha_sums : He.DefD := ⟨("_law_ha_sums", none), "_law_ha_sums", "_law_ha_sums", defArgs (top 27), defBody (top 27), defScope (top 27), [], []⟩
def d__law_ha_is_hall : He.DefD := ⟨("_law_ha_is_hall", none), "_law_ha_is_hall", "_law_ha_is_hall", defArgs (top 26), defBody (top 26), defScope (top 26), [], []⟩
def d__law_odd : He.DefD := ⟨("_law_odd", none), "_law_odd", "_law_odd", defArgs (top 28), defBody (top 28), defScope (top 28), [], []⟩
def d__law_ascending : He.DefD := ⟨("_law_ascending", none), "_law_ascending", "_law_ascending", defArgs (top 24), defBody (top 24), defScope (top 24), [], []⟩
def d__law_rows : He.DefD := ⟨("_law_rows", none), "_law_rows", "_law_rows", defArgs (top 25), defBody (top 25), defScope (top 25), [], []⟩
def d__law_right : He.DefD := ⟨("_law_right", none), "_law_right", "_law_right", defArgs (top 29), defBody (top 29), defScope (top 29), [], []⟩
def d_law : He.DefD := ⟨("law", none), "law", "law", defArgs (top 30), defBody (top 30), defScope (top 30), [], []⟩
def fn : List He.DefD := [d__law_dice, d_is_whole, d_is_near, d_require_number, d_require_hall_number, d_require_hall_and_size, d_least_before, d_halls_in, d_halls, d_with_any, d_odd_numbers, d_count_odd_below, d_count_halls, d__law_roll, d__law_ha_sums, d__law_ha_is_hall, d__law_odd, d__law_ascending, d__law_rows, d__law_right, d_law]
def cs : List (Str × List He.Dv) := []
def fa : List He.Fa := [.glo "_law_dice", .glo "is_whole", .glo "is_near", .glo "require_number", .glo "require_hall_number", .glo "require_hall_and_size", .glo "least_before", .glo "halls_in", .glo "halls", .glo "with_any", .glo "odd_numbers", .glo "count_odd_below", .glo "count_halls", .glo "_law_roll", .glo "_law_ha_sums", .glo "_law_ha_is_hall", .glo "_law_odd", .glo "_law_ascending", .glo "_law_rows", .glo "_law_right", .glo "law", .free "len", .free "int", .free "abs", .free "max", .free "isinstance", .free "bool", .free "range", .free "sorted", .free "tuple", .free "list", .free "dict", .free "sum", .free "min", .free "repr", .int "FAR" 1000000000000000000000000000000000000000000000000000000000000, .int "MOST_HALL" 6, .int "TWO" 2, .int "MOST_LISTED_HALL" 20, .int "MOST_COUNTED" 200]
abbrev Row0 : PySem.W.OpenRow := PySem.W.OpenLaw.row PySem.Challenge.rw_hookwide_k71_whole_halls_counted
abbrev hk : PySem.W.Hook := hookC 4 fa fn cs
def ob (s : PySem.W.SharedT) : AlC := obsCG 4 fa fn cs (HandSHeadRun.getT s)
theorem ob_eq (s : PySem.W.SharedT) : ob s = hk.obs s.abs := obsCG_eq (HandSHeadRun.getT_eq s)
def loose0 : List PySem.Str := ["InvalidNumber", "FAR", "is_whole", "is_near", "require_number", "MOST_HALL", "MOST_COUNTED", "MOST_LISTED_HALL", "TWO", "least_before", "halls_in", "with_any", "odd_numbers", "require_hall_number", "require_hall_and_size", "halls", "count_halls", "count_odd_below", "_law_dice", "_law_roll"]
def loose1 : List PySem.Str := ["_law_ascending", "_law_rows", "_law_ha_is_hall", "_law_ha_sums", "_law_odd", "_law_right"]
abbrev loose : List PySem.Str := loose0 ++ loose1
theorem run (w : World) : HandSHeadRun.RunEq Row0 (PySem.W.view Row0.prog [30]) hk ob 4000 loose w := by
  intro os
  kernel_rfl
theorem facts {P : Program} {w : World} {K : PySem.W.Frag} {h : Heap} {mg : Str → Option Value} {f : Addr} (X : K.In h) (N : h.Ns mainGlobals mg) (hfa : mg ("law" : Str) = some (.ref f)) (cc : SaysC fa fn cs K) :
    ∃ fd : FuncData, (∀ (s : Shared) (v : Value), BindsTo s fd ⟨[v], []⟩ [("script", v)]) ∧ ∀ base : Heap, K.In base → base.Ns mainGlobals mg → FnG true P w K mg base 8 f fd ["script"] (spD (G0 K) f_law) := by
  have c := cc.d
  have Z : Fcts K mg := ⟨He.free_ok X N (c.fact 21 rfl), He.free_ok X N (c.fact 22 rfl), He.free_ok X N (c.fact 23 rfl), He.free_ok X N (c.fact 24 rfl), He.free_ok X N (c.fact 25 rfl), He.free_ok X N (c.fact 26 rfl), He.free_ok X N (c.fact 27 rfl), He.free_ok X N (c.fact 28 rfl), He.free_ok X N (c.fact 29 rfl), He.free_ok X N (c.fact 30 rfl), He.free_ok X N (c.fact 31 rfl), He.free_ok X N (c.fact 32 rfl), He.free_ok X N (c.fact 33 rfl), He.free_ok X N (c.fact 34 rfl), He.int_ok X N (c.fact 35 rfl), He.int_ok X N (c.fact 36 rfl), He.int_ok X N (c.fact 37 rfl), He.int_ok X N (c.fact 38 rfl), He.int_ok X N (c.fact 39 rfl)⟩
  obtain ⟨fd__law_dice, D__law_dice⟩ := c.def_ 0 (d := d__law_dice) rfl
  obtain ⟨fd_is_whole, D_is_whole⟩ := c.def_ 1 (d := d_is_whole) rfl
  obtain ⟨fd_is_near, D_is_near⟩ := c.def_ 2 (d := d_is_near) rfl
  obtain ⟨fd_require_number, D_require_number⟩ := c.def_ 3 (d := d_require_number) rfl
  obtain ⟨fd_require_hall_number, D_require_hall_number⟩ := c.def_ 4 (d := d_require_hall_number) rfl
  obtain ⟨fd_require_hall_and_size, D_require_hall_and_size⟩ := c.def_ 5 (d := d_require_hall_and_size) rfl
  obtain ⟨fd_least_before, D_least_before⟩ := c.def_ 6 (d := d_least_before) rfl
  obtain ⟨fd_halls_in, D_halls_in⟩ := c.def_ 7 (d := d_halls_in) rfl
  obtain ⟨fd_halls, D_halls⟩ := c.def_ 8 (d := d_halls) rfl
  obtain ⟨fd_with_any, D_with_any⟩ := c.def_ 9 (d := d_with_any) rfl
  obtain ⟨fd_odd_numbers, D_odd_numbers⟩ := c.def_ 10 (d := d_odd_numbers) rfl
  obtain ⟨fd_count_odd_below, D_count_odd_below⟩ := c.def_ 11 (d := d_count_odd_below) rfl
  obtain ⟨fd_count_halls, D_count_halls⟩ := c.def_ 12 (d := d_count_halls) rfl
  obtain ⟨fd__law_roll, D__law_roll⟩ := c.def_ 13 (d := d__law_roll) rfl
  obtain ⟨fd__law_ha_sums, D__law_ha_sums⟩ := c.def_ 14 (d := d__law_ha_sums) rfl
  obtain ⟨fd__law_ha_is_hall, D__law_ha_is_hall⟩ := c.def_ 15 (d := d__law_ha_is_hall) rfl
  obtain ⟨fd__law_odd, D__law_odd⟩ := c.def_ 16 (d := d__law_odd) rfl
  obtain ⟨fd__law_ascending, D__law_ascending⟩ := c.def_ 17 (d := d__law_ascending) rfl
  obtain ⟨fd__law_rows, D__law_rows⟩ := c.def_ 18 (d := d__law_rows) rfl
  obtain ⟨fd__law_right, D__law_right⟩ := c.def_ 19 (d := d__law_right) rfl
  obtain ⟨fd_law, D_law⟩ := c.def_ 20 (d := d_law) rfl
  have e := hfa.symm.trans (He.glo_ok X N (c.fact 20 (f := .glo "law") rfl))
  cases e
  have b := FunD.bindsA (ps := ["script"]) D_law fun _ _ _ _ _ _ us hl => match us, hl with | [_], _ => rfl
  refine ⟨fd_law, fun s v => b s [v] rfl, fun base _ _ => ?_⟩
  have C__law_dice : Cal (G0 K) true P w mg base 1 "_law_dice" ["script", "spot"] f__law_dice := Cal.ofG X N D__law_dice (ok__law_dice (G := G0 K) D__law_dice Z ) (c.fact 0 rfl) fun _ _ _ _ _ _ us hl => match us, hl with | [_, _], _ => rfl
  have C_is_whole : Cal (G0 K) true P w mg base 1 "is_whole" ["value"] f_is_whole := Cal.ofG X N D_is_whole (ok_is_whole (G := G0 K) D_is_whole Z ) (c.fact 1 rfl) fun _ _ _ _ _ _ us hl => match us, hl with | [_], _ => rfl
  have C_is_near : Cal (G0 K) true P w mg base 2 "is_near" ["value"] f_is_near := Cal.ofG X N D_is_near (ok_is_near (G := G0 K) D_is_near Z C_is_whole) (c.fact 2 rfl) fun _ _ _ _ _ _ us hl => match us, hl with | [_], _ => rfl
  have C_require_number : Cal (G0 K) true P w mg base 3 "require_number" ["value", "least", "most"] f_require_number := Cal.ofG X N D_require_number (ok_require_number (G := G0 K) D_require_number Z C_is_near) (c.fact 3 rfl) fun _ _ _ _ _ _ us hl => match us, hl with | [_, _, _], _ => rfl
  have C_require_hall_number : Cal (G0 K) true P w mg base 4 "require_hall_number" ["n"] f_require_hall_number := Cal.ofG X N D_require_hall_number (ok_require_hall_number (G := G0 K) D_require_hall_number Z C_require_number) (c.fact 4 rfl) fun _ _ _ _ _ _ us hl => match us, hl with | [_], _ => rfl
  have C_require_hall_and_size : Cal (G0 K) true P w mg base 5 "require_hall_and_size" ["n", "size", "most"] f_require_hall_and_size := Cal.ofG X N D_require_hall_and_size (ok_require_hall_and_size (G := G0 K) D_require_hall_and_size Z C_require_hall_number C_require_number) (c.fact 5 rfl) fun _ _ _ _ _ _ us hl => match us, hl with | [_, _, _], _ => rfl
  have C_least_before : Cal (G0 K) true P w mg base 1 "least_before" ["n", "i", "later"] f_least_before := Cal.ofG X N D_least_before (ok_least_before (G := G0 K) D_least_before Z ) (c.fact 6 rfl) fun _ _ _ _ _ _ us hl => match us, hl with | [_, _, _], _ => rfl
  have C_halls_in : Cal (G0 K) true P w mg base 2 "halls_in" ["n", "size"] f_halls_in := Cal.ofG X N D_halls_in (ok_halls_in (G := G0 K) D_halls_in Z C_least_before) (c.fact 7 rfl) fun _ _ _ _ _ _ us hl => match us, hl with | [_, _], _ => rfl
  have C_halls : Cal (G0 K) true P w mg base 6 "halls" ["n", "size"] f_halls := Cal.ofG X N D_halls (ok_halls (G := G0 K) D_halls Z C_require_hall_and_size C_halls_in) (c.fact 8 rfl) fun _ _ _ _ _ _ us hl => match us, hl with | [_, _], _ => rfl
  have C_with_any : Cal (G0 K) true P w mg base 1 "with_any" ["numbers", "part"] f_with_any := Cal.ofG X N D_with_any (ok_with_any (G := G0 K) D_with_any Z ) (c.fact 9 rfl) fun _ _ _ _ _ _ us hl => match us, hl with | [_, _], _ => rfl
  have C_odd_numbers : Cal (G0 K) true P w mg base 2 "odd_numbers" ["n", "size"] f_odd_numbers := Cal.ofG X N D_odd_numbers (ok_odd_numbers (G := G0 K) D_odd_numbers Z C_with_any) (c.fact 10 rfl) fun _ _ _ _ _ _ us hl => match us, hl with | [_, _], _ => rfl
  have C_count_odd_below : Cal (G0 K) true P w mg base 6 "count_odd_below" ["n", "size"] f_count_odd_below := Cal.ofG X N D_count_odd_below (ok_count_odd_below (G := G0 K) D_count_odd_below Z C_require_hall_and_size C_odd_numbers) (c.fact 11 rfl) fun _ _ _ _ _ _ us hl => match us, hl with | [_, _], _ => rfl
  have C_count_halls : Cal (G0 K) true P w mg base 6 "count_halls" ["n", "size"] f_count_halls := Cal.ofG X N D_count_halls (ok_count_halls (G := G0 K) D_count_halls Z C_require_hall_and_size C_odd_numbers) (c.fact 12 rfl) fun _ _ _ _ _ _ us hl => match us, hl with | [_, _], _ => rfl
  have C__law_roll : Cal (G0 K) true P w mg base 1 "_law_roll" ["dice", "total"] f__law_roll := Cal.ofG X N D__law_roll (ok__law_roll (G := G0 K) D__law_roll Z ) (c.fact 13 rfl) fun _ _ _ _ _ _ us hl => match us, hl with | [_, _], _ => rfl
  have C__law_ha_sums : Cal (G0 K) true P w mg base 1 "_law_ha_sums" ["n", "size"] f__law_ha_sums := Cal.ofG X N D__law_ha_sums (ok__law_ha_sums (G := G0 K) D__law_ha_sums Z ) (c.fact 14 rfl) fun _ _ _ _ _ _ us hl => match us, hl with | [_, _], _ => rfl
  have C__law_ha_is_hall : Cal (G0 K) true P w mg base 1 "_law_ha_is_hall" ["members"] f__law_ha_is_hall := Cal.ofG X N D__law_ha_is_hall (ok__law_ha_is_hall (G := G0 K) D__law_ha_is_hall Z ) (c.fact 15 rfl) fun _ _ _ _ _ _ us hl => match us, hl with | [_], _ => rfl
  have C__law_odd : Cal (G0 K) true P w mg base 1 "_law_odd" ["n", "size"] f__law_odd := Cal.ofG X N D__law_odd (ok__law_odd (G := G0 K) D__law_odd Z ) (c.fact 16 rfl) fun _ _ _ _ _ _ us hl => match us, hl with | [_, _], _ => rfl
  have C__law_ascending : Cal (G0 K) true P w mg base 1 "_law_ascending" ["items"] f__law_ascending := Cal.ofG X N D__law_ascending (ok__law_ascending (G := G0 K) D__law_ascending Z ) (c.fact 17 rfl) fun _ _ _ _ _ _ us hl => match us, hl with | [_], _ => rfl
  have C__law_rows : Cal (G0 K) true P w mg base 1 "_law_rows" ["n"] f__law_rows := Cal.ofG X N D__law_rows (ok__law_rows (G := G0 K) D__law_rows Z ) (c.fact 18 rfl) fun _ _ _ _ _ _ us hl => match us, hl with | [_], _ => rfl
  have C__law_right : Cal (G0 K) true P w mg base 7 "_law_right" ["dice"] f__law_right := Cal.ofG X N D__law_right (ok__law_right (G := G0 K) D__law_right Z C__law_roll C__law_ha_sums C__law_ha_is_hall C_halls C_count_halls C_count_odd_below C__law_rows C__law_ascending C__law_odd) (c.fact 19 rfl) fun _ _ _ _ _ _ us hl => match us, hl with | [_], _ => rfl
  exact ok_law (G := G0 K) D_law Z C__law_dice C__law_right C_count_halls C_halls C_count_odd_below
end K71
open PySem PySem.W PySem.Calls PyProof.Rows DL
theorem K71_of (hlaw : ∀ ns : List Int, ns.length ≤ 63 → K71.f_law [.fr (ns.map .int)] = .rt (.vl (.bool true)) none) : PySem.Challenge.rw_hookwide_k71_whole_halls_counted.Holds := by
  w_on; o_law
  refine HandSHeadRun.head_any (r := OpenLaw.row PySem.Challenge.rw_hookwide_k71_whole_halls_counted) (q := view (OpenLaw.row PySem.Challenge.rw_hookwide_k71_whole_halls_counted).prog [30]) (H := K71.hk) (ob := K71.ob) (M := 4000) (loose := K71.loose) (d := HandSHeadRun.topDef (OpenLaw.row PySem.Challenge.rw_hookwide_k71_whole_halls_counted).prog 30) (kwd := []) K71.ob_eq
    (by kernel_rfl) (fun s => by kernel_rfl) K71.run (by kernel_rfl) (by kernel_rfl) (by kernel_rfl) (by rfl) (by first | assumption | decide +kernel) (by decide +kernel) ⟨rfl, rfl, rfl, rfl, rfl, by decide +kernel⟩ ?hw ?hc
  case hw => w_witness2
  case hc =>
    refine DL.walkG (l := PySem.Challenge.rw_hookwide_k71_whole_halls_counted) (n := 63) (k := 8) (x := "script") (fD := K71.f_law) rfl (by decide) (by kernel_rfl) ⟨rfl, by decide, by decide⟩ hlaw ?F
    intro w mg fa h Y G hmg0
    obtain ⟨K, KX, c⟩ := Y
    have hmg : mg ("law" : PySem.Str) = some (.ref fa) := by
      have e : (HandSHeadRun.topDef (OpenLaw.row PySem.Challenge.rw_hookwide_k71_whole_halls_counted).prog 30).name = ("law" : PySem.Str) := by kernel_rfl
      rw [← e]
      exact hmg0
    obtain ⟨fd, hb, hF⟩ := K71.facts (P := (PySem.Challenge.rw_hookwide_k71_whole_halls_counted).prog) (w := w) KX G hmg c
    exact ⟨K, fd, KX, hb, hF⟩
set_option maxHeartbeats 400000
set_option exponentiation.threshold 3000
/-! K71m: law k71, a turn -/
namespace K71
open PySem L2 DL
theorem up_bd {p : Nat} (hp : 1 ≤ p) {f : Nat → Int} {M B : Nat} (h : ∀ i, i ≤ B → (f i).natAbs ≤ M) : ∀ i, i ≤ B → (up p f i).natAbs ≤ (i + 1) * M := by
  intro i
  induction i using Nat.strongRecOn with
  | ind i ih =>
    intro hi
    by_cases z : p ≤ i
    · rw [up_ge f hp z]
      have a := Int.natAbs_add_le (f i) (up p f (i - p))
      have b := ih (i - p) (by omega) (by omega)
      have c := h i hi
      have e : (i - p + 1) * M ≤ i * M := Nat.mul_le_mul_right M (by omega)
      have k : (i + 1) * M = i * M + M := by rw [Nat.add_mul, Nat.one_mul]
      omega
    · rw [up_lt f (by omega)]
      have c := h i hi
      have k : (i + 1) * M = i * M + M := by rw [Nat.add_mul, Nat.one_mul]
      omega
theorem odd_bd {B : Nat} : ∀ (ps : List Nat) (f : Nat → Int) (M : Nat), (∀ p ∈ ps, 1 ≤ p) → (∀ i, i ≤ B → (f i).natAbs ≤ M) → ∀ i, i ≤ B → (oddF ps f i).natAbs ≤ (B + 1) ^ ps.length * M
  | [], f, M, _, h, i, hi => by
    rw [List.length_nil, Nat.pow_zero, Nat.one_mul]
    exact h i hi
  | p :: ps, f, M, hp, h, i, hi => by
    have q := odd_bd ps (up p f) ((B + 1) * M) (fun x hx => hp x (List.mem_cons_of_mem _ hx)) (fun j hj => Nat.le_trans (up_bd (hp p List.mem_cons_self) h j hj) (Nat.mul_le_mul_right M (by omega))) i hi
    rw [oddF_cons, List.length_cons, Nat.pow_succ, Nat.mul_assoc]
    exact q
theorem oddSmall {n s : Nat} (h6 : n ≤ 6) (hs : s ≤ 200) : (oddF (parts n) oneF s).natAbs < 2 ^ 200 := by
  have q := odd_bd (B := 200) (parts n) oneF 1 (fun p hp => (parts_ok n p hp).1) (fun i _ => by unfold oneF; split <;> decide) s hs
  have l : ∀ n, n ≤ 6 → (200 + 1) ^ (parts n).length * 1 < 2 ^ 200 := by decide +kernel
  exact Nat.lt_of_le_of_lt q (l n h6)
theorem t7 {d : List D} (hd : IsDice d) (x1 x2 x3 x4 x5 x6 : Sl) : ∃ (n s : Nat) (d' : List D), Sg7 (E d x1 x2 x3 x4 x5 x6 .no .no) = .nx (E d' (vi n) (vi s) x3 x4 x5 x6 .no .no) ∧ 1 ≤ n ∧ n ≤ 6 ∧ s ≤ 200 ∧ IsDice d' := by
  obtain ⟨k, d1, w1, a0, a1, k1⟩ := rollG (n := 6) (f := eC (.int 6)) (r := (E d x1 x2 x3 x4 x5 x6 .no .no)) (r1 := (E d x1 x2 x3 x4 x5 x6 .no .no)) hd rfl rfl eC_of (by decide) (by decide)
  obtain ⟨k, rfl⟩ : ∃ m : Nat, k = m := ⟨k.toNat, by omega⟩
  obtain ⟨s, d2, w2, b0, b1, k2⟩ := rollG (n := 201) (f := eC (.int 201)) (r := (E d1 x1 x2 x3 x4 x5 x6 .no .no)) (r1 := (E d1 x1 x2 x3 x4 x5 x6 .no .no)) k1 rfl rfl eC_of (by decide) (by decide)
  obtain ⟨s, rfl⟩ : ∃ m : Nat, s = m := ⟨s.toNat, by omega⟩
  exact ⟨1 + k, s, d2, sPars_of (is := [1, 2]) (ss := [vi (1 + k), vi s]) (r1 := (E d2 x1 x2 x3 x4 x5 x6 .no .no)) (yCons_of (xV_of (onePlus w1)) (yCons_of (xV_of w2) yNil_of)) rfl, by omega, by omega, by omega, k2⟩
theorem t8 {d : List D} {n s : Nat} (h1 : 1 ≤ n) (h6 : n ≤ 6) (hs : s ≤ 200) (x3 x4 x5 x6 : Sl) : Sg8 (E d (vi n) (vi s) x3 x4 x5 x6 .no .no) = .nx (E d (vi n) (vi s) x3 x4 x5 x6 .no .no) := by
  have a := countHalls h1 h6 hs
  have b := countOdd h1 h6 hs
  have c := lawOdd (size := s) h1 h6 (by omega)
  have sm := oddSmall (n := n) h6 hs
  generalize oddF (parts n) oneF s = v at *
  have e1 : eF (xLst (aCons (eF (xCall f_count_halls (aCons (eV 1) (aCons (eV 2) (aNil))))) (aCons (eF (xCall f_count_odd_below (aCons (eV 1) (aCons (eV 2) (aNil))))) (aNil)))) (E d (vi n) (vi s) x3 x4 x5 x6 .no .no) = .ok (.list [.int v, .int v]) (E d (vi n) (vi s) x3 x4 x5 x6 .no .no) :=
    eF_of (xLst_of (ds := [.int v, .int v]) (aCons_of (call2 (a := ni n) (b := ni s) rfl rfl a) (aCons_of (call2 (a := ni n) (b := ni s) rfl rfl b) aNil_of)) (by show 2 ≤ 1000000; decide)) rfl
  have e2 : eF (xOp nRep (eF (xLst (aCons (eF (xCall f__law_odd (aCons (eV 1) (aCons (eV 2) (aNil))))) (aNil)))) (eC (.int 2))) (E d (vi n) (vi s) x3 x4 x5 x6 .no .no) = .ok (.list [.int v, .int v]) (E d (vi n) (vi s) x3 x4 x5 x6 .no .no) :=
    eF_of (xOp_of (x := .list [.int v]) (y := .int 2) (eF_of (xLst_of (ds := [.int v]) (aCons_of (call2 (a := ni n) (b := ni s) rfl rfl c) aNil_of) (by show 1 ≤ 1000000; decide)) rfl) eC_of rfl) rfl
  exact sIf_f0 (tB1_of (eRep2_of e1 (repOk_lI (ns := [v, v]) (fun x hx => by
    rcases List.mem_cons.mp hx with rfl | hx
    · exact sm
    · rcases List.mem_cons.mp hx with rfl | hx
      · exact sm
      · cases hx) (by show 2 ≤ 900; decide)) e2 (samF_lI [v, v])))
structure F2 (n s : Nat) : Prop where
  runh : runH n s (idxH n) (baseH s) = true
  srt : srtD ((lastH n s).map tI) = (told n s).map tI
  cnt : oddF (parts n) oneF s = ((told n s).length : Nat)
  asc : srtD ((dedK (told n s)).map tI) = (told n s).map tI
  good : ∀ L ∈ told n s, L.sum = (s : Int) ∧ L.length = n ∧ hallB L = true
theorem f2 {n s : Nat} (h1 : 1 ≤ n) (h6 : n ≤ 6) (hs : s < 21) : F2 n s := by
  have q := get2 h1 h6 hs
  unfold chk2 at q
  simp only [Bool.and_eq_true, decide_eq_true_eq] at q
  obtain ⟨q1, q2, q3, q4, q5⟩ := q
  obtain ⟨M, e⟩ := Option.isSome_iff_exists.mp q2
  have et : told n s = M := by unfold told; rw [e]; rfl
  refine ⟨q1, by rw [et]; exact toLL_is e, q3.symm, toLL_is q4, fun L hL => ?_⟩
  have g := List.all_eq_true.mp q5 L hL
  unfold goodB at g
  simp only [Bool.and_eq_true, decide_eq_true_eq] at g
  exact g
theorem F2.len {n s : Nat} (h : F2 n s) : (told n s).length ≤ 5000 := by
  have e := congrArg List.length h.srt
  rw [(srtD_perm _).length_eq, List.length_map, List.length_map] at e
  rw [← e]
  unfold lastH
  rw [List.length_map]
  exact Nat.le_trans (List.length_filter_le _ _) (runH_last h.runh)
theorem t9 {d : List D} (hd : IsDice d) {n s : Nat} (x3 x4 x5 x6 : Sl) : ∃ (m : Nat) (d' : List D), Sg9 (E d (vi n) (vi s) x3 x4 x5 x6 .no .no) = .nx (E d' (vi n) (vi m) x3 x4 x5 x6 .no .no) ∧ m < 21 ∧ IsDice d' := by
  obtain ⟨k, d1, w1, a0, a1, k1⟩ := rollG (n := 21) (f := eC (.int 21)) (r := (E d (vi n) (vi s) x3 x4 x5 x6 .no .no)) (r1 := (E d (vi n) (vi s) x3 x4 x5 x6 .no .no)) hd rfl rfl eC_of (by decide) (by decide)
  obtain ⟨k, rfl⟩ : ∃ m : Nat, k = m := ⟨k.toNat, by omega⟩
  exact ⟨k, d1, sSet_of (i := 2) (r1 := (E d1 (vi n) (vi s) x3 x4 x5 x6 .no .no)) w1, by omega, k1⟩
theorem t10 {d : List D} {n s : Nat} (h1 : 1 ≤ n) (h6 : n ≤ 6) (hs : s < 21) (h : F2 n s) (x3 x4 x5 x6 : Sl) : Sg10 (E d (vi n) (vi s) x3 x4 x5 x6 .no .no) = .nx (E d (vi n) (vi s) x3 x4 x5 x6 (.vl (.tuple ((told n s).map tI))) .no) :=
  sSet_of (i := 7) (r1 := (E d (vi n) (vi s) x3 x4 x5 x6 .no .no)) (call2 (a := ni n) (b := ni s) rfl rfl (hallsE h1 h6 (by omega) h.runh h.srt))
theorem t11 {d : List D} {n s : Nat} (h1 : 1 ≤ n) (h6 : n ≤ 6) (hs : s < 21) (h : F2 n s) (x3 x4 x5 x6 : Sl) : Sg11 (E d (vi n) (vi s) x3 x4 x5 x6 (.vl (.tuple ((told n s).map tI))) .no) = .nx (E d (vi n) (vi s) x3 x4 x5 x6 (.vl (.tuple ((told n s).map tI))) .no) := by
  have c := lawOdd (size := s) h1 h6 (by omega)
  rw [h.cnt] at c
  have as := ascE (enc := tI) (xs := told n s) (d := .tuple ((told n s).map tI)) (.inl rfl) h.len (nSD_T (told n s))
  rw [h.asc] at as
  generalize told n s = T at *
  have c1 : tB1 (eOp oNe (eCB cLen (aCons (eV 7) (aNil))) (eF (xCall f__law_odd (aCons (eV 1) (aCons (eV 2) (aNil)))))) (E d (vi n) (vi s) x3 x4 x5 x6 (.vl (.tuple (T.map tI))) .no) = .ok false (E d (vi n) (vi s) x3 x4 x5 x6 (.vl (.tuple (T.map tI))) .no) :=
    tB1_of (eOp_of (r1 := (E d (vi n) (vi s) x3 x4 x5 x6 (.vl (.tuple (T.map tI))) .no)) (x := ni T.length) (y := ni T.length) (eCB_of (x := [.tuple (T.map tI)]) (aCons_of (f := eV 7) rfl aNil_of) (by rw [lenD, List.length_map])) (call2 (a := ni n) (b := ni s) rfl rfl c) (ne_same _))
  have c2 : tB1 (eOp oNe (eF (xCB nList (aCons (eV 7) (aNil)))) (eF (xCall f__law_ascending (aCons (eV 7) (aNil))))) (E d (vi n) (vi s) x3 x4 x5 x6 (.vl (.tuple (T.map tI))) .no) = .ok false (E d (vi n) (vi s) x3 x4 x5 x6 (.vl (.tuple (T.map tI))) .no) :=
    tB1_of (eOp_of (r1 := (E d (vi n) (vi s) x3 x4 x5 x6 (.vl (.tuple (T.map tI))) .no)) (x := .list (T.map tI)) (y := .list (T.map tI)) rfl (eF_of (xCall_of (aCons_of (f := eV 7) rfl aNil_of) as) rfl) (neLs T))
  exact sIf_f0 (tOr1_f c1 c2)
theorem t12 {d : List D} {n s : Nat} (h6 : n ≤ 6) (h : F2 n s) (x3 x4 x5 x6 : Sl) : Sg12 (E d (vi n) (vi s) x3 x4 x5 x6 (.vl (.tuple ((told n s).map tI))) .no) = .rt (.vl (.bool true)) (E d (vi n) (vi s) x3 x4 x5 x6 (.vl (.tuple ((told n s).map tI))) .no) := by
  have good := h.good
  have len := h.len
  generalize told n s = T at *
  have l := xLc_map (vs := [5]) (it := iSeq (eV 7)) (t := gN 5) (c := g__law_right_t10) (f := g__law_right_e9) (enc := tI) (p := fun _ => false) (g := tI) (xs := T) (r := (E d (vi n) (vi s) x3 x4 x5 x6 (.vl (.tuple (T.map tI))) .no)) (r1 := (E d (vi n) (vi s) x3 x4 x5 x6 (.vl (.tuple (T.map tI))) .no)) (iSeq_of (f := eV 7) rfl) (fun L hL => by
    obtain ⟨g1, g2, g3⟩ := good L hL
    refine ⟨(E d (vi n) (vi s) x3 x4 (.vl (tI L)) x6 (.vl (.tuple (T.map tI))) .no), rfl, ?_, fun z => (by cases z), rfl⟩
    have c1 : tB1 (eOp oNe (eCB cSumA (aCons (eV 5) (aNil))) (eV 2)) (E d (vi n) (vi s) x3 x4 (.vl (tI L)) x6 (.vl (.tuple (T.map tI))) .no) = .ok false (E d (vi n) (vi s) x3 x4 (.vl (tI L)) x6 (.vl (.tuple (T.map tI))) .no) :=
      tB1_of (eOp_of (r1 := (E d (vi n) (vi s) x3 x4 (.vl (tI L)) x6 (.vl (.tuple (T.map tI))) .no)) (x := ni s) (y := ni s) (eCB_of (x := [tI L]) (aCons_of (f := eV 5) rfl aNil_of) (by
        show (sumD (L.map .int)).map PyData.int = _
        rw [sumD_ints, g1]
        rfl)) rfl (ne_same _))
    have c2 : tB1 (eOp oNe (eCB cLen (aCons (eV 5) (aNil))) (eV 1)) (E d (vi n) (vi s) x3 x4 (.vl (tI L)) x6 (.vl (.tuple (T.map tI))) .no) = .ok false (E d (vi n) (vi s) x3 x4 (.vl (tI L)) x6 (.vl (.tuple (T.map tI))) .no) :=
      tB1_of (eOp_of (r1 := (E d (vi n) (vi s) x3 x4 (.vl (tI L)) x6 (.vl (.tuple (T.map tI))) .no)) (x := ni n) (y := ni n) (eCB_of (x := [tI L]) (aCons_of (f := eV 5) rfl aNil_of) (by rw [lenD, List.length_map, g2])) rfl (ne_same _))
    have c3 : tNot1 (tTru (eF (xCall f__law_ha_is_hall (aCons (eV 5) (aNil))))) (E d (vi n) (vi s) x3 x4 (.vl (tI L)) x6 (.vl (.tuple (T.map tI))) .no) = .ok false (E d (vi n) (vi s) x3 x4 (.vl (tI L)) x6 (.vl (.tuple (T.map tI))) .no) := by
      have w := lawHall (L := L) (by omega)
      rw [show (lows L).isEmpty = true from g3] at w
      exact tNot1_of (k := true) (tTru_of (call1 (a := tI L) rfl w))
    exact tOr1_f c1 (tOr1_f c2 c3)) (by omega)
  have e0 : T.filter (fun _ => false) = [] := by simp
  rw [e0] at l
  exact sRet_of (eOp_of (x := .list []) (y := .list []) (eF_of l rfl) (eF_of (xLst_of (ds := []) aNil_of (by show 0 ≤ 1000000; decide)) rfl) (oEq_lIs [] []))
theorem right (d : List D) (hd : IsDice d) : ∃ d', f__law_right [.io d] = .rt (.vl (.bool true)) (some d') ∧ IsDice d' := by
  obtain ⟨n, d1, e0, h1, h6, k1⟩ := t0 hd
  obtain ⟨s, d2, e1, hs, k2⟩ := t1 k1 h1 h6
  have F := f1 h1 h6 hs
  have hs20 : s ≤ 20 := by have := cap21 n; omega
  have e2 := t2 (d := d2) h1 h6 F
  have e3 := t3 (d := d2) h1 h6 hs20 F
  have e4 := t4 (d := d2) h1 h6 hs20 F
  obtain ⟨x4, n4, e5⟩ := t5 (d := d2) h1 h6 F
  obtain ⟨x5, x6, n5, n6, e6⟩ := t6 (d := d2) F x4
  obtain ⟨m, u, d3, e7, a1, a6, hu, k3⟩ := t7 k2 (vi n) (vi s) (.vl (.list ((dueP n s).map tI))) x4 x5 x6
  have e8 := t8 (d := d3) a1 a6 hu (.vl (.list ((dueP n s).map tI))) x4 x5 x6
  obtain ⟨w, d4, e9, hw, k4⟩ := t9 k3 (n := m) (s := u) (.vl (.list ((dueP n s).map tI))) x4 x5 x6
  have F' := f2 a1 a6 hw
  have e10 := t10 (d := d4) a1 a6 hw F' (.vl (.list ((dueP n s).map tI))) x4 x5 x6
  have e11 := t11 (d := d4) a1 a6 hw F' (.vl (.list ((dueP n s).map tI))) x4 x5 x6
  have e12 := t12 (d := d4) a6 F' (.vl (.list ((dueP n s).map tI))) x4 x5 x6
  have pre : F__law_right (E d .no .no .no .no .no .no .no .no) = .rt (.vl (.bool true)) (E d4 (vi m) (vi w) (.vl (.list ((dueP n s).map tI))) x4 x5 x6 (.vl (.tuple ((told m w).map tI))) .no) := by
    rw [right_is]
    exact Eq.trans (sSeq_of e0) (Eq.trans (sSeq_of e1) (Eq.trans (sSeq_of e2) (Eq.trans (sSeq_of e3) (Eq.trans (sSeq_of e4) (Eq.trans (sSeq_of e5) (Eq.trans (sSeq_of e6) (Eq.trans (sSeq_of e7) (Eq.trans (sSeq_of e8) (Eq.trans (sSeq_of e9) (Eq.trans (sSeq_of e10) (Eq.trans (sSeq_of e11) e12)))))))))))
  exact ⟨d4, runF_rt (r := (E d4 (vi m) (vi w) (.vl (.list ((dueP n s).map tI))) x4 x5 x6 (.vl (.tuple ((told m w).map tI))) .no) ) rfl pre rfl rfl, k4⟩
end K71
set_option maxHeartbeats 400000
/-! K71l: law k71, at every script, by mklaw.py -/
namespace K71
open PySem L2 DL
def rest : En → Fl := sSeq (sAsgX (xLst (aCons (eF (xCall f_halls (aCons (eC (.int 2)) (aCons (eC (.int 3)) (aNil))))) (aCons (eF (xCall f_count_odd_below (aCons (eC (.int 2)) (aCons (eC (.int 3)) (aNil))))) (aCons (eF (xCall f_halls (aCons (eC (.int 3)) (aCons (eC (.int 2)) (aNil))))) (aCons (eF (xCall f_count_halls (aCons (eC (.int 3)) (aCons (eC (.int 2)) (aNil))))) (aCons (eF (xCall f_halls (aCons (eC (.int 1)) (aCons (eC (.int 4)) (aNil))))) (aCons (eF (xCall f_count_halls (aCons (eC (.int 6)) (aCons (eC (.int 0)) (aNil))))) (aNil)))))))) 4) (sSeq (sAsgX (xOp nCat (eVF 4) (eF (xLst (aCons (eF (xCall f_halls (aCons (eC (.int 3)) (aCons (eC (.int 6)) (aNil))))) (aCons (eF (xCall f_count_odd_below (aCons (eC (.int 3)) (aCons (eC (.int 6)) (aNil))))) (aCons (eF (xCall f_halls (aCons (eC (.int 6)) (aCons (eC (.int 0)) (aNil))))) (aNil))))))) 4) (sSeq (sAsgX (xLst (aCons (eTup (aCons (eTup (aCons (eC (.int 2)) (aCons (eC (.int 1)) (aNil)))) (aCons (eTup (aCons (eC (.int 3)) (aCons (eC (.int 0)) (aNil)))) (aNil)))) (aCons (eC (.int 2)) (aCons (eTup (aCons (eTup (aCons (eC (.int 2)) (aCons (eC (.int 0)) (aCons (eC (.int 0)) (aNil))))) (aNil))) (aCons (eC (.int 1)) (aCons (eTup (aCons (eTup (aCons (eC (.int 4)) (aNil))) (aNil))) (aCons (eC (.int 1)) (aNil)))))))) 5) (sRet (eOp oEq (eVF 4) (eF (xOp nCat (eVF 5) (eF (xLst (aCons (eTup (aCons (eTup (aCons (eC (.int 3)) (aCons (eC (.int 2)) (aCons (eC (.int 1)) (aNil))))) (aCons (eTup (aCons (eC (.int 4)) (aCons (eC (.int 2)) (aCons (eC (.int 0)) (aNil))))) (aCons (eTup (aCons (eC (.int 5)) (aCons (eC (.int 1)) (aCons (eC (.int 0)) (aNil))))) (aCons (eTup (aCons (eC (.int 6)) (aCons (eC (.int 0)) (aCons (eC (.int 0)) (aNil))))) (aNil)))))) (aCons (eC (.int 4)) (aCons (eTup (aCons (eOp oMulT (eTup (aCons (eC (.int 0)) (aNil))) (eC (.int 6))) (aNil))) (aNil))))))))))))
theorem rest_ok (xs : List D) (s1 s2 s3 : Sl) : rest (.fr xs :: s1 :: s2 :: s3 :: [.no, .no]) = .rt (.vl (.bool true)) (.fr xs :: s1 :: s2 :: s3 :: [.vl (.list [.tuple [.tuple [.int 2, .int 1], .tuple [.int 3, .int 0]], .int 2, .tuple [.tuple [.int 2, .int 0, .int 0]], .int 1, .tuple [.tuple [.int 4]], .int 1, .tuple [.tuple [.int 3, .int 2, .int 1], .tuple [.int 4, .int 2, .int 0], .tuple [.int 5, .int 1, .int 0], .tuple [.int 6, .int 0, .int 0]], .int 4, .tuple [.tuple [.int 0, .int 0, .int 0, .int 0, .int 0, .int 0]]]), .vl (.list [.tuple [.tuple [.int 2, .int 1], .tuple [.int 3, .int 0]], .int 2, .tuple [.tuple [.int 2, .int 0, .int 0]], .int 1, .tuple [.tuple [.int 4]], .int 1])]) := by kernel_rfl
theorem law (ns : List Int) (hn : ns.length ≤ 63) : f_law [.fr (ns.map .int)] = .rt (.vl (.bool true)) none :=
  frameT (K := 4) (T := 4) (n := 6) (more := [.no, .no]) (b1 := g_law_b1) (b2 := g_law_b2) (rest := rest) ⟨by decide, by decide⟩ ⟨by decide, by decide⟩ (fun f0 s1 s3 ds hd => frame1 right f0 s1 s3 ds hd) rfl rfl rfl (fun xs s1 s2 s3 => ⟨_, rfl, rest_ok xs s1 s2 s3⟩) ns
end K71
theorem PySem.Challenge.cw_hookwide_k71_whole_halls_counted_holds : PySem.Challenge.rw_hookwide_k71_whole_halls_counted.Holds :=
  K71_of K71.law
