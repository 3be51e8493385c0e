import PyProof.Rows.All
import Wide.All
import OpenK.AllK
import Wide.FinOn
import HandS.ForMost
import HandS.Exc
import HandS.Lambda
import HandS.Zip
import HandS.Wide
import HandS.Walk
import HandS.ForExc
import HandS.Conv
import HandS.TupAny
import HandS.RaiseMore
import HandS.Style
import HandS.Flow
import HandS.IsInst
import HandS.Defaults
import HandS.WideMore
import HandS.Deep
import HandS.Iter
import HandS.Star
import KE.GoesMore
import KE.SortData
import KE.DataMinMax
import HandS.NoneIn
import HandS.TupMul
import KE.KRevSl
import HandS.Ends
import HandS.Head0
import HandS.Head1
import HandS.Head2
import HandS.HeadEnd
import HandS.HeadHook1
import HandS.HeadHook2
import KE.DataCmp
import HandS.SetFor
import HandS.SortInts
import PyProof.TupleOfSeq
import PySem.Challenge.RW_hookwide_k62_whole_piles
set_option Elab.async false
set_option linter.all false
set_option maxRecDepth 100000
set_option maxHeartbeats 4000000
/-! DLa: data in place of the heap. A def's names hold data (PyData), frozen ones or own lists; readings of the hand layer that say just this. -/
namespace DL
open PySem L2

abbrev D := PyData
/-- what a name holds: nothing known; data that no one changes; a list that is read alone; an own list; the list handed in; an own dict -/
inductive Sl where
  | no
  | vl (d : D)
  | fr (ds : List D)
  | ow (ds : List D)
  | io (ds : List D)
  | od (kvs : List (D × D))
def Sl.mine : Sl → Bool
  | .ow _ => true
  | .io _ => true
  | .od _ => true
  | _ => false
abbrev En := List Sl

inductive R (α : Type) where
  | ok (a : α) (r : En)
  | ex (c : Nat) (d : Option D) (r : En)
  | st
def R.bind {α β : Type} (x : R α) (k : α → En → R β) : R β := match x with
  | .ok a r => k a r
  | .ex c d r => .ex c d r
  | .st => .st
inductive Fl where
  | nx (r : En)
  | rt (s : Sl) (r : En)
  | bk (r : En)
  | ct (r : En)
  | ex (c : Nat) (d : Option D) (r : En)
  | st

structure Gm where
  K : PySem.W.Frag
  T : List (Addr × Str)
  fns : Nat → Option Addr
  exc : Nat → Option (Value × Option Str)
  pd : Addr

def kD : Key → D
  | .inl i => .int i
  | .inr x => .str x
def kT (l : List Key) : D := .tuple (l.map kD)
/-- a def as data -/
abbrev fnD (k : Nat) : D := .dict [(.none, .int k)]

mutual
inductive RpI (K : PySem.W.Frag) (fns : Nat → Option Addr) (F : Hp) : V → D → Prop
  | non : RpI K fns F .non .none
  | bl (b : Bool) : RpI K fns F (.bl b) (.bool b)
  | int (i : Int) : RpI K fns F (.int i) (.int i)
  | str (x : Str) : RpI K fns F (.str x) (.str x)
  | lst {a : Addr} {xs : List V} {ds : List D} : F a = some (.lst xs) → RpLI K fns F xs ds → RpI K fns F (.ref a) (.list ds)
  | tup {a : Addr} {xs : List V} {ds : List D} : SqT K F a xs → RpLI K fns F xs ds → RpI K fns F (.ref a) (.tuple ds)
  | dct {a : Addr} {kvs : List (Key × V)} {ds : List D} : F a = some (.dK kvs) → RpLI K fns F (kvs.map (·.2)) ds → RpI K fns F (.ref a) (.dict ((kvs.map fun p => kD p.1).zip ds))
  | dcT {a : Addr} {kvs : List (List Key × V)} {ds : List D} : F a = some (.dT kvs) → RpLI K fns F (kvs.map (·.2)) ds → RpI K fns F (.ref a) (.dict ((kvs.map fun p => kT p.1).zip ds))
  | fn {a : Addr} {k : Nat} : fns k = some a → RpI K fns F (.ref a) (fnD k)
inductive RpLI (K : PySem.W.Frag) (fns : Nat → Option Addr) (F : Hp) : List V → List D → Prop
  | nil : RpLI K fns F [] []
  | cons {v : V} {vs : List V} {d : D} {ds : List D} : RpI K fns F v d → RpLI K fns F vs ds → RpLI K fns F (v :: vs) (d :: ds)
end
abbrev Rp (G : Gm) (F : Hp) (v : V) (d : D) : Prop := RpI G.K G.fns F v d
abbrev RpL (G : Gm) (F : Hp) (vs : List V) (ds : List D) : Prop := RpLI G.K G.fns F vs ds

def Sub (F H : Hp) : Prop := ∀ a o, F a = some o → H a = some o
theorem Sub.refl (F : Hp) : Sub F F := fun _ _ h => h
theorem Sub.trans {F G H : Hp} (a : Sub F G) (b : Sub G H) : Sub F H := fun x o h => b x o (a x o h)
theorem Sub.rd {F H : Hp} {a : Addr} {u : HO} (e : Sub F H) (h : Rd F a u) : Rd H a u := by
  rcases h with h | ⟨o, h⟩
  · exact .inl (e a _ h)
  · exact .inr ⟨o, e a _ h⟩
theorem Sub.l {K : PySem.W.Frag} {F H : Hp} {a : Addr} {xs : List V} (e : Sub F H) (h : SqL K F a xs) : SqL K H a xs := by
  rcases h with h | h
  · exact .inl (e.rd h)
  · exact .inr h
theorem Sub.t {K : PySem.W.Frag} {F H : Hp} {a : Addr} {xs : List V} (e : Sub F H) (h : SqT K F a xs) : SqT K H a xs := by
  rcases h with h | h
  · exact .inl (e.rd h)
  · exact .inr h
mutual
theorem RpI.mono {K : PySem.W.Frag} {fns : Nat → Option Addr} {F H : Hp} (e : Sub F H) : ∀ {v : V} {d : D}, RpI K fns F v d → RpI K fns H v d
  | _, _, .non => .non
  | _, _, .bl b => .bl b
  | _, _, .int i => .int i
  | _, _, .str x => .str x
  | _, _, .lst h hs => .lst (e _ _ h) (RpLI.mono e hs)
  | _, _, .tup h hs => .tup (e.t h) (RpLI.mono e hs)
  | _, _, .dct h hs => .dct (e _ _ h) (RpLI.mono e hs)
  | _, _, .dcT h hs => .dcT (e _ _ h) (RpLI.mono e hs)
  | _, _, .fn h => .fn h
theorem RpLI.mono {K : PySem.W.Frag} {fns : Nat → Option Addr} {F H : Hp} (e : Sub F H) : ∀ {vs : List V} {ds : List D}, RpLI K fns F vs ds → RpLI K fns H vs ds
  | _, _, .nil => .nil
  | _, _, .cons h hs => .cons (RpI.mono e h) (RpLI.mono e hs)
end
section
variable {K : PySem.W.Frag} {fns : Nat → Option Addr} {F : Hp}
theorem RpLI.len : ∀ {vs : List V} {ds : List D}, RpLI K fns F vs ds → vs.length = ds.length
  | _, _, .nil => rfl
  | _, _, .cons _ t => congrArg (· + 1) (RpLI.len t)
theorem RpLI.get : ∀ {vs : List V} {ds : List D} {i : Nat} {d : D}, RpLI K fns F vs ds → ds[i]? = some d → ∃ v, vs[i]? = some v ∧ RpI K fns F v d
  | _, _, _, _, .nil, e => by simp at e
  | _, _, 0, d, .cons h _, e => by simp at e; subst e; exact ⟨_, rfl, h⟩
  | _, _, i + 1, d, .cons _ t, e => by
    obtain ⟨v, h1, h2⟩ := RpLI.get (i := i) (d := d) t (by simpa using e)
    exact ⟨v, by simpa using h1, h2⟩
theorem RpLI.getV : ∀ {vs : List V} {ds : List D} {i : Nat} {v : V}, RpLI K fns F vs ds → vs[i]? = some v → ∃ d, ds[i]? = some d ∧ RpI K fns F v d
  | _, _, _, _, .nil, e => by simp at e
  | _, _, 0, d, .cons h _, e => by simp at e; subst e; exact ⟨_, rfl, h⟩
  | _, _, i + 1, d, .cons _ t, e => by
    obtain ⟨v, h1, h2⟩ := RpLI.getV (i := i) (v := d) t (by simpa using e)
    exact ⟨v, by simpa using h1, h2⟩
theorem RpLI.set {v : V} {d : D} (h : RpI K fns F v d) : ∀ {vs : List V} {ds : List D} (i : Nat), RpLI K fns F vs ds → RpLI K fns F (vs.set i v) (ds.set i d)
  | _, _, _, .nil => .nil
  | _, _, 0, .cons _ t => .cons h t
  | _, _, i + 1, .cons q t => .cons q (RpLI.set h i t)
theorem RpLI.append : ∀ {vs ws : List V} {ds es : List D}, RpLI K fns F vs ds → RpLI K fns F ws es → RpLI K fns F (vs ++ ws) (ds ++ es)
  | _, _, _, _, .nil, s => s
  | _, _, _, _, .cons r t, s => .cons r (RpLI.append t s)
theorem RpLI.take : ∀ {vs : List V} {ds : List D} (n : Nat), RpLI K fns F vs ds → RpLI K fns F (vs.take n) (ds.take n)
  | _, _, 0, _ => .nil
  | _, _, _ + 1, .nil => .nil
  | _, _, n + 1, .cons r t => .cons r (RpLI.take n t)
theorem RpLI.drop : ∀ {vs : List V} {ds : List D} (n : Nat), RpLI K fns F vs ds → RpLI K fns F (vs.drop n) (ds.drop n)
  | _, _, 0, r => r
  | _, _, _ + 1, .nil => .nil
  | _, _, n + 1, .cons _ t => RpLI.drop n t
theorem RpLI.rev : ∀ {vs : List V} {ds : List D}, RpLI K fns F vs ds → RpLI K fns F vs.reverse ds.reverse
  | _, _, .nil => .nil
  | _, _, .cons r t => by
    rw [List.reverse_cons, List.reverse_cons]
    exact (RpLI.rev t).append (.cons r .nil)
theorem RpLI.ints : ∀ (ns : List Int), RpLI K fns F (ns.map V.int) (ns.map PyData.int)
  | [] => .nil
  | n :: r => .cons (.int n) (RpLI.ints r)
end

/-! ### how the tracked part goes on: F what is frozen, O the addresses that may change -/
structure Go (F H : Hp) (O : Addr → Prop) (F' H' : Hp) (O' : Addr → Prop) : Prop where
  sub : Sub F F'
  new : ∀ a o, F' a = some o → F a = some o ∨ H a = none ∨ O a
  keep : ∀ a o, H a = some o → ¬ O a → (∀ ps, o ≠ .tbl ps) → H' a = some o
  own : ∀ a, O' a → O a ∨ H a = none
  there : ∀ a, H' a = none → H a = none
def noO : Addr → Prop := fun _ => False
theorem Go.refl {F H : Hp} {O O' : Addr → Prop} (h : ∀ a, O' a → O a) : Go F H O F H O' :=
  ⟨Sub.refl F, fun _ _ e => .inl e, fun _ _ e _ _ => e, fun a e => .inl (h a e), fun _ e => e⟩
theorem Go.trans {F H F1 H1 F2 H2 : Hp} {O O1 O2 : Addr → Prop} (a : Go F H O F1 H1 O1) (b : Go F1 H1 O1 F2 H2 O2) : Go F H O F2 H2 O2 where
  sub := a.sub.trans b.sub
  new := fun x o e => by
    rcases b.new x o e with h | h | h
    · exact a.new x o h
    · exact .inr (.inl (a.there x h))
    · rcases a.own x h with h | h
      · exact .inr (.inr h)
      · exact .inr (.inl h)
  keep := fun x o e n t => b.keep x o (a.keep x o e n t) (fun z => by
    rcases a.own x z with z | z
    · exact n z
    · rw [e] at z; cases z) t
  own := fun x e => by
    rcases b.own x e with h | h
    · exact a.own x h
    · exact .inr (a.there x h)
  there := fun x e => a.there x (b.there x e)
/-- the own addresses may be more, ahead; fewer behind -/
theorem Go.wide {F H F1 H1 : Hp} {O O1 P P1 : Addr → Prop} (a : Go F H O F1 H1 O1) (h : ∀ x, O x → P x) (h1 : ∀ x, P1 x → P x ∨ H x = none) : Go F H P F1 H1 P1 :=
  ⟨a.sub, fun x o e => (a.new x o e).imp id fun z => z.imp id (h x), fun x o e n t => a.keep x o e (fun z => n (h x z)) t, h1, a.there⟩
/-- a value is made: nothing that stood changes -/
structure Ext (F H F' H' : Hp) : Prop where
  go : Go F H noO F' H' noO
  ntb : ∀ a ps, F' a = some (.tbl ps) → F a = some (.tbl ps)
  tabs : ∀ T, LamX.Tabs T H → LamX.Tabs T H'
  sub : Sub F H → Sub F' H'
theorem Ext.refl (F H : Hp) : Ext F H F H := ⟨Go.refl fun _ e => e, fun _ _ e => e, fun _ e => e, fun e => e⟩
theorem Ext.trans {F H F1 H1 F2 H2 : Hp} (a : Ext F H F1 H1) (b : Ext F1 H1 F2 H2) : Ext F H F2 H2 :=
  ⟨a.go.trans b.go, fun x ps e => a.ntb x ps (b.ntb x ps e), fun T e => b.tabs T (a.tabs T e), fun e => b.sub (a.sub e)⟩
theorem sub_upd {H : Hp} {p : Addr} {o : HO} (h : H p = none) : Sub H (upd H p o) := fun a u e => by
  rw [upd_ne (ne_of_none e h)]
  exact e
/-- a new object is made and frozen -/
theorem Ext.new {F H : Hp} {p : Addr} {o : HO} (hs : Sub F H) (h : H p = none) (ho : ∀ ps, o ≠ .tbl ps) : Ext F H (upd F p o) (upd H p o) := by
  have hF : F p = none := by
    cases q : F p with
    | none => rfl
    | some u => rw [hs p u q] at h; cases h
  refine ⟨⟨sub_upd hF, fun a u e => ?_, fun a u e _ _ => sub_upd h a u e, fun a e => .inl e, fun a e => ?_⟩, fun a ps e => ?_, fun T t => t.ext (sub_upd h), fun e a u q => ?_⟩
  · by_cases hb : a = p
    · subst hb; exact .inr (.inl h)
    · rw [upd_ne hb] at e; exact .inl e
  · by_cases hb : a = p
    · subst hb; exact h
    · rw [upd_ne hb] at e; exact e
  · by_cases hb : a = p
    · subst hb; rw [upd_same] at e; cases e; exact absurd rfl (ho ps)
    · rw [upd_ne hb] at e; exact e
  · by_cases hb : a = p
    · subst hb; rw [upd_same] at q ⊢; exact q
    · rw [upd_ne hb] at q ⊢; exact e a u q
/-- a new object is made, not frozen -/
theorem Ext.made {F H : Hp} {p : Addr} {o : HO} (h : H p = none) (hs : Sub F H) : Ext F H F (upd H p o) := by
  refine ⟨⟨Sub.refl F, fun a u e => .inl e, fun a u e _ _ => sub_upd h a u e, fun a e => .inl e, fun a e => ?_⟩, fun _ _ e => e, fun T t => t.ext (sub_upd h), fun e a u q => sub_upd h a u (e a u q)⟩
  by_cases hb : a = p
  · subst hb; exact h
  · rw [upd_ne hb] at e; exact e

/-! ### names and data -/
def OwnL (G : Gm) (F H : Hp) (p : Addr) (ds : List D) : Prop := F p = none ∧ ∃ vs, H p = some (.lst vs) ∧ RpL G F vs ds
def OwnD (G : Gm) (F H : Hp) (p : Addr) (kvs : List (D × D)) : Prop := F p = none ∧
  ((∃ ks : List (Key × V), ∃ ds, H p = some (.dK ks) ∧ RpL G F (ks.map (·.2)) ds ∧ kvs = (ks.map fun q => kD q.1).zip ds) ∨
   ∃ ks : List (List Key × V), ∃ ds, H p = some (.dT ks) ∧ RpL G F (ks.map (·.2)) ds ∧ kvs = (ks.map fun q => kT q.1).zip ds)
def SlOk (G : Gm) (F H : Hp) (v : Option V) : Sl → Prop
  | .no => True
  | .vl d => ∃ x, v = some x ∧ Rp G F x d
  | .fr ds => ∃ p vs, v = some (.ref p) ∧ SqL G.K F p vs ∧ RpL G F vs ds
  | .ow ds => ∃ p, v = some (.ref p) ∧ OwnL G F H p ds
  | .io ds => v = some (.ref G.pd) ∧ OwnL G F H G.pd ds
  | .od kvs => ∃ p, v = some (.ref p) ∧ OwnD G F H p kvs
def oA (σ : L2.St) (r : En) : Addr → Prop := fun a => ∃ (i : Nat) (s : Sl), r[i]? = some s ∧ s.mine = true ∧ σ[i]? = some (some (V.ref a))
structure Rel (G : Gm) (F H : Hp) (σ : St) (r : En) : Prop where
  sub : Sub F H
  ntb : ∀ a ps, F a ≠ some (.tbl ps)
  tabs : LamX.Tabs G.T H
  len : σ.length = r.length
  slot : ∀ (i : Nat) (s : Sl) (v : Option V), r[i]? = some s → σ[i]? = some v → SlOk G F H v s
  apart : ∀ (i j : Nat) (s t : Sl) (p : Addr), r[i]? = some s → r[j]? = some t → s.mine = true → t.mine = true → σ[i]? = some (some (V.ref p)) → σ[j]? = some (some (V.ref p)) → i = j
theorem Rel.at {G : Gm} {F H : Hp} {σ : St} {r : En} (h : Rel G F H σ r) {i : Nat} {s : Sl} (e : r[i]? = some s) : ∃ v, σ[i]? = some v ∧ SlOk G F H v s := by
  have hi : i < σ.length := by rw [h.len]; exact (List.getElem?_eq_some_iff.mp e).1
  exact ⟨σ[i], List.getElem?_eq_getElem hi, h.slot i s _ e (List.getElem?_eq_getElem hi)⟩
theorem OwnL.mono {G : Gm} {F H F' H' : Hp} {p : Addr} {ds : List D} (h : OwnL G F H p ds) (s : Sub F F') (hn : F' p = none) (hk : ∀ o, H p = some o → (∀ ps, o ≠ .tbl ps) → H' p = some o) : OwnL G F' H' p ds := by
  obtain ⟨_, vs, h1, h2⟩ := h
  exact ⟨hn, vs, hk _ h1 (by intro ps z; cases z), h2.mono s⟩
theorem OwnD.mono {G : Gm} {F H F' H' : Hp} {p : Addr} {ds : List (D × D)} (h : OwnD G F H p ds) (s : Sub F F') (hn : F' p = none) (hk : ∀ o, H p = some o → (∀ ps, o ≠ .tbl ps) → H' p = some o) : OwnD G F' H' p ds := by
  obtain ⟨_, h⟩ := h
  refine ⟨hn, ?_⟩
  rcases h with ⟨vs, ds, h1, h2, h3⟩ | ⟨vs, ds, h1, h2, h3⟩
  · exact .inl ⟨vs, ds, hk _ h1 (by intro ps z; cases z), h2.mono s, h3⟩
  · exact .inr ⟨vs, ds, hk _ h1 (by intro ps z; cases z), h2.mono s, h3⟩
/-- an own address is tracked and not frozen -/
theorem SlOk.own {G : Gm} {F H : Hp} {v : Option V} {s : Sl} {p : Addr} (h : SlOk G F H v s) (m : s.mine = true) (e : v = some (.ref p)) : F p = none ∧ ∃ o, H p = some o ∧ (∀ ps, o ≠ .tbl ps) := by
  cases s with
  | no => cases m
  | vl d => cases m
  | fr d => cases m
  | ow ds =>
    obtain ⟨q, e1, h1, vs, h2, _⟩ := h
    rw [e] at e1; cases e1
    exact ⟨h1, _, h2, by intro ps z; cases z⟩
  | io ds =>
    obtain ⟨e1, h1, vs, h2, _⟩ := h
    rw [e] at e1; cases e1
    exact ⟨h1, _, h2, by intro ps z; cases z⟩
  | od ds =>
    obtain ⟨q, e1, h1, h2⟩ := h
    rw [e] at e1; cases e1
    refine ⟨h1, ?_⟩
    rcases h2 with ⟨vs, _, h2, _⟩ | ⟨vs, _, h2, _⟩
    · exact ⟨_, h2, by intro ps z; cases z⟩
    · exact ⟨_, h2, by intro ps z; cases z⟩
theorem SlOk.mono {G : Gm} {F H F' H' : Hp} {v : Option V} {s : Sl} (h : SlOk G F H v s) (hs : Sub F F') (hn : ∀ p, s.mine = true → v = some (.ref p) → F' p = none ∧ ∀ o, H p = some o → (∀ ps, o ≠ .tbl ps) → H' p = some o) : SlOk G F' H' v s := by
  cases s with
  | no => trivial
  | vl d => obtain ⟨x, e, q⟩ := h; exact ⟨x, e, q.mono hs⟩
  | fr d => obtain ⟨p, vs, e, q1, q2⟩ := h; exact ⟨p, vs, e, hs.l q1, q2.mono hs⟩
  | ow ds => obtain ⟨p, e, q⟩ := h; exact ⟨p, e, q.mono hs (hn p rfl e).1 (hn p rfl e).2⟩
  | io ds => obtain ⟨e, q⟩ := h; exact ⟨e, q.mono hs (hn _ rfl e).1 (hn _ rfl e).2⟩
  | od ds => obtain ⟨p, e, q⟩ := h; exact ⟨p, e, q.mono hs (hn p rfl e).1 (hn p rfl e).2⟩
theorem Rel.none_of {G : Gm} {F H : Hp} {σ : St} {r : En} (h : Rel G F H σ r) {a : Addr} (e : H a = none) : F a = none := by
  cases q : F a with
  | none => rfl
  | some u => rw [h.sub a u q] at e; cases e
theorem Rel.own {G : Gm} {F H : Hp} {σ : St} {r : En} (h : Rel G F H σ r) {a : Addr} (e : oA σ r a) : F a = none ∧ ∃ o, H a = some o ∧ (∀ ps, o ≠ .tbl ps) := by
  obtain ⟨i, s, e1, m, e2⟩ := e
  exact (h.slot i s _ e1 e2).own m rfl
/-- through what changes no own list -/
theorem Rel.ext {G : Gm} {F H F' H' : Hp} {σ : St} {r : En} (h : Rel G F H σ r) (e : Ext F H F' H') : Rel G F' H' σ r := by
  refine ⟨e.sub h.sub, fun a ps q => h.ntb a ps (e.ntb a ps q), e.tabs _ h.tabs, h.len, fun i s v e1 e2 => ?_, h.apart⟩
  refine (h.slot i s v e1 e2).mono e.go.sub fun p m ev => ?_
  obtain ⟨n1, o, n2, n3⟩ := (h.slot i s v e1 e2).own m ev
  refine ⟨?_, fun o' q1 q2 => e.go.keep p o' q1 (fun z => z) q2⟩
  cases q : F' p with
  | none => rfl
  | some u =>
    rcases e.go.new p u q with z | z | z
    · rw [n1] at z; cases z
    · rw [n2] at z; cases z
    · exact z.elim
theorem Ext.goO {F H F' H' : Hp} (e : Ext F H F' H') {O O' : Addr → Prop} (h : ∀ a, O' a → O a) : Go F H O F' H' O' := e.go.wide (fun _ z => z.elim) fun a z => .inl (h a z)
end DL
set_option maxHeartbeats 4000000
/-! DLb: the readings: a run to data, f, stands for what an expression, a statement does. -/
namespace DL
open PySem L2

def XOk (G : Gm) (F H : Hp) (c : Nat) (d : Option D) (cls : Value) (dd : Option Addr) : Prop :=
  ∃ fld, G.exc c = some (cls, fld) ∧ ((fld = none ∧ d = none) ∨ ∃ f x v p, fld = some f ∧ d = some x ∧ dd = some p ∧ H p = some (.xd [(f, v)]) ∧ Rp G F v x)
section
variable {G : Gm} {W : WX} {α β γ δ ε ζ : Type} {rel : Hp → β → α → Prop} {rel1 : Hp → δ → γ → Prop} {F H F1 H1 : Hp} {σ : L2.St} {r r1 : En} {Q Q' : β → Hp → Prop}
def Pt (G : Gm) (W : WX) (rel : Hp → β → α → Prop) (x : R α) (F H : Hp) (σ : L2.St) (r : En) (Q : β → Hp → Prop) : Prop := match x with
  | .ok a r' => ∀ F' H' b, Go F H (oA σ r) F' H' (oA σ r') → Rel G F' H' σ r' → rel F' b a → Q b H'
  | .ex c d r' => ∀ F' H' cls dd, Go F H (oA σ r) F' H' (oA σ r') → Rel G F' H' σ r' → XOk G F' H' c d cls dd → W cls dd σ H'
  | .st => False
def Ps (G : Gm) (W : WX) (rel : Hp → β → α → Prop) (f : En → R α) : L2.St → Hp → (β → Hp → Prop) → Prop := fun σ H Q => ∃ F r, Rel G F H σ r ∧ Pt G W rel (f r) F H σ r Q
theorem Pt.mono {x : R α} (h : Pt G W rel x F H σ r Q) (k : ∀ b H', Q b H' → Q' b H') : Pt G W rel x F H σ r Q' := by
  cases x with
  | ok a r' => exact fun F' H' b g e q => k _ _ (h F' H' b g e q)
  | ex c d r' => exact h
  | st => exact h
theorem Pt.from {x : R α} (g : Go F H (oA σ r) F1 H1 (oA σ r1)) (h : Pt G W rel x F H σ r Q) : Pt G W rel x F1 H1 σ r1 Q := by
  cases x with
  | ok a r' => exact fun F' H' b g' e q => h F' H' b (g.trans g') e q
  | ex c d r' => exact fun F' H' cls dd g' e q => h F' H' cls dd (g.trans g') e q
  | st => exact h
theorem Pt.bind {x : R γ} {k : γ → En → R α} (h : Pt G W rel (x.bind k) F H σ r Q) :
    Pt G W rel1 x F H σ r (fun b H1 => ∃ a F1 r1, Sub F F1 ∧ Rel G F1 H1 σ r1 ∧ rel1 F1 b a ∧ Pt G W rel (k a r1) F1 H1 σ r1 Q) := by
  cases x with
  | ok a r' => exact fun F' H' b g e q => ⟨a, F', r', g.sub, e, q, Pt.from g h⟩
  | ex c d r' => exact h
  | st => exact h
theorem Ps.mono {f : En → R α} (h : Ps G W rel f σ H Q) (k : ∀ b H', Q b H' → Q' b H') : Ps G W rel f σ H Q' := by
  obtain ⟨F, r, e, p⟩ := h
  exact ⟨F, r, e, p.mono k⟩
/-- the value is at hand -/
theorem Pt.here {a : α} {b : β} {F2 H2 : Hp} (h : Pt G W rel (.ok a r) F H σ r Q) (e : Rel G F H σ r) (x : Ext F H F2 H2) (q : rel F2 b a) : Q b H2 :=
  h F2 H2 b (x.goO fun _ z => z) (e.ext x) q
end

abbrev rV (G : Gm) : Hp → V → D → Prop := fun F v d => Rp G F v d
abbrev rB : Hp → Bool → Bool → Prop := fun _ b c => b = c
abbrev rL (G : Gm) : Hp → List V → List D → Prop := fun F vs ds => RpL G F vs ds
abbrev TEo (G : Gm) (W : WX) (f : En → R D) : TE := Ps G W (rV G) f
abbrev TTo (G : Gm) (W : WX) (f : En → R Bool) : TT := Ps G W rB f
abbrev TAo (G : Gm) (W : WX) (f : En → R (List D)) : TA := Ps G W (rL G) f
/-- a value that may be one's own -/
def TXo (G : Gm) (W : WX) (f : En → R Sl) : TE := fun σ H Q => ∃ F r, Rel G F H σ r ∧ match f r with
  | .ok s r' => ∀ F' H' v, Go F H (oA σ r) F' H' (oA (σ ++ [some v]) (r' ++ [s])) → Rel G F' H' (σ ++ [some v]) (r' ++ [s]) → Q v H'
  | .ex c d r' => ∀ F' H' cls dd, Go F H (oA σ r) F' H' (oA σ r') → Rel G F' H' σ r' → XOk G F' H' c d cls dd → W cls dd σ H'
  | .st => False

theorem pe_of {X : Cx} {e : Expr} {t t' : TE} (h : PE X e t) (k : ∀ σ H Q, t' σ H Q → t σ H Q) : PE X e t' := ⟨fun pins s σ H Q I q => h.run pins s σ H Q I (k σ H Q q)⟩
theorem pt_of {X : Cx} {e : Expr} {t t' : TT} (h : PT X e t) (k : ∀ σ H Q, t' σ H Q → t σ H Q) : PT X e t' := ⟨fun pins s σ H Q I q => h.run pins s σ H Q I (k σ H Q q)⟩
theorem pw_of {X : Cx} {e : Expr} {t t' : TT} (h : PW X e t) (k : ∀ σ H Q, t' σ H Q → t σ H Q) : PW X e t' := ⟨fun w pins s σ H Q I q => h.run w pins s σ H Q I (k σ H Q q)⟩
theorem pa_of {X : Cx} {es : List Expr} {t t' : TA} (h : PA X es t) (k : ∀ σ H Q, t' σ H Q → t σ H Q) : PA X es t' := ⟨fun pos pins s σ H Q I q => h.run pos pins s σ H Q I (k σ H Q q)⟩
theorem ps_of {X : Cx} {e : Stmt} {t t' : TS} (h : PS X e t) (k : ∀ D σ H, t' D σ H → t D σ H) : PS X e t' := ⟨fun pins s σ H D I q => h.run pins s σ H D I (k D σ H q)⟩
theorem pss_of {X : Cx} {e : List Stmt} {t t' : TS} (h : PSs X e t) (k : ∀ D σ H, t' D σ H → t D σ H) : PSs X e t' := ⟨fun pins s σ H D I q => h.run pins s σ H D I (k D σ H q)⟩

/-! ### names, constants -/
def eC (d : D) : En → R D := fun r => .ok d r
/-- a name that holds frozen data -/
def eV (i : Nat) : En → R D := fun r => match r[i]? with
  | some (.vl d) => .ok d r
  | _ => .st
section
variable {X : Cx} {G : Gm} {W : WX}
theorem de_int {i : Int} {j pos} : PE X (.Constant (.int i) j pos) (TEo G W (eC (.int i))) := pe_of pe_int fun _ _ _ ⟨_, _, e, p⟩ => Pt.here p e (Ext.refl _ _) (.int i)
theorem de_bl {i : Bool} {j pos} : PE X (.Constant (.bool i) j pos) (TEo G W (eC (.bool i))) := pe_of pe_bl fun _ _ _ ⟨_, _, e, p⟩ => Pt.here p e (Ext.refl _ _) (.bl i)
theorem de_str {i : Str} {j pos} : PE X (.Constant (.str i) j pos) (TEo G W (eC (.str i))) := pe_of pe_str fun _ _ _ ⟨_, _, e, p⟩ => Pt.here p e (Ext.refl _ _) (.str i)
theorem de_non {j pos} : PE X (.Constant .none j pos) (TEo G W (eC .none)) := pe_of pe_non fun _ _ _ ⟨_, _, e, p⟩ => Pt.here p e (Ext.refl _ _) .non
theorem de_var (i : Nat) {x : Str} {pos : Pos} (hN : X.N[i]? = some x := by rfl) (hv : Vis X.env.scope x := by first | exact Or.inl rfl | exact Or.inr (Or.inl rfl) | exact Or.inr (Or.inr rfl)) (hd : (x == ("__debug__" : Str)) = false := by decide)
    (hcd : (x == ("__classdict__" : Str)) = false := by decide) : PE X (.Name x pos) (TEo G W (eV i)) :=
  pe_of (pe_var hN hv hd hcd) fun σ H Q ⟨F, r, e, p⟩ => by
    unfold eV at p
    split at p
    · rename_i d hr
      obtain ⟨v, e1, x, e2, q⟩ := e.at hr
      subst e2
      exact ⟨x, e1, Pt.here p e (Ext.refl _ _) q⟩
    · exact p.elim
/-- a module's constant -/
theorem de_glob {x : Str} {u : Value} {v : V} {d : D} {pos : Pos} (hg : Gl X x) (hm : X.mg x = some u) (rr : RelV v u) (hd : ∀ F, Rp G F v d) (hdb : (x == ("__debug__" : Str)) = false := by decide) : PE X (.Name x pos) (TEo G W (eC d)) :=
  pe_of (pe_glob hg hm rr hdb) fun _ _ _ ⟨F, _, e, p⟩ => Pt.here p e (Ext.refl _ _) (hd F)

/-! ### two operands, one operand -/
def liftO (o : Option D) (r : En) : R D := match o with
  | some d => .ok d r
  | none => .st
def eOp (o : D → D → Option D) (f g : En → R D) : En → R D := fun r => (f r).bind fun x r1 => (g r1).bind fun y r2 => liftO (o x y) r2
def eUn (o : D → Option D) (f : En → R D) : En → R D := fun r => (f r).bind fun x r1 => liftO (o x) r1
/-- what an operation by values makes of data -/
def OpD (G : Gm) (r : R2) (o : D → D → Option D) : Prop := ∀ (x y d : D) (F H : Hp) (v w : V) (Q : VK), o x y = some d → Sub F H → Rp G F v x → Rp G F w y → (∀ F' H' z, Ext F H F' H' → Rp G F' z d → Q z H') → r v w H Q
def UnD (G : Gm) (r : V → Hp → VK → Prop) (o : D → Option D) : Prop := ∀ (x d : D) (F H : Hp) (v : V) (Q : VK), o x = some d → Sub F H → Rp G F v x → (∀ F' H' z, Ext F H F' H' → Rp G F' z d → Q z H') → r v H Q
theorem liftO_here {o : Option D} {F H : Hp} {σ : L2.St} {r : En} {Q : VK} (e : Rel G F H σ r) (p : Pt G W (rV G) (liftO o r) F H σ r Q) : ∃ d, o = some d ∧ ∀ F' H' z, Ext F H F' H' → Rp G F' z d → Q z H' := by
  cases o with
  | none => exact p.elim
  | some d => exact ⟨d, rfl, fun F' H' z x q => Pt.here p e x q⟩
theorem tOp_of {r : R2} {o : D → D → Option D} {f g : En → R D} (hd : OpD G r o) (σ : L2.St) (H : Hp) (Q : VK) : TEo G W (eOp o f g) σ H Q → tOp r (TEo G W f) (TEo G W g) σ H Q := fun ⟨F, r0, e, p⟩ =>
  ⟨F, r0, e, (Pt.bind (rel1 := rV G) p).mono fun v H1 ⟨x, F1, r1, _, e1, q1, p1⟩ => ⟨F1, r1, e1, (Pt.bind (rel1 := rV G) p1).mono fun w H2 ⟨y, F2, r2, s2, e2, q2, p2⟩ => by
    obtain ⟨d, hd', k⟩ := liftO_here e2 p2
    exact hd x y d F2 H2 v w Q hd' e2.sub (q1.mono s2) q2 k⟩⟩
theorem tUn_of {r : V → Hp → VK → Prop} {o : D → Option D} {f : En → R D} (hd : UnD G r o) (σ : L2.St) (H : Hp) (Q : VK) : TEo G W (eUn o f) σ H Q → tUn r (TEo G W f) σ H Q := fun ⟨F, r0, e, p⟩ =>
  ⟨F, r0, e, (Pt.bind (rel1 := rV G) p).mono fun v H1 ⟨x, F1, r1, _, e1, q1, p1⟩ => by
    obtain ⟨d, hd', k⟩ := liftO_here e1 p1
    exact hd x d F1 H1 v Q hd' e1.sub q1 k⟩
variable {a b c : Expr} {pos : Pos} {f g h : En → R D} {ft gt : En → R Bool}
theorem de_op {op : Operator} {r : R2} {o : D → D → Option D} (ho : OpR X (binaryOp op) r) (hd : OpD G r o) (ha : PE X a (TEo G W f)) (hb : PE X b (TEo G W g)) : PE X (.BinOp a op b pos) (TEo G W (eOp o f g)) :=
  pe_of (pe_op ho ha hb) (tOp_of hd)
theorem de_un {op : UnaryOp} {r : V → Hp → VK → Prop} {o : D → Option D} (ho : UnR X (unaryOp op) r) (hd : UnD G r o) (ha : PE X a (TEo G W f)) : PE X (.UnaryOp op a pos) (TEo G W (eUn o f)) :=
  pe_of (pe_un ho ha) (tUn_of hd)
theorem de_cmp {op : CmpOp} {r : R2} {o : D → D → Option D} (ho : OpR X (compareOp op) r) (hd : OpD G r o) (ha : PE X a (TEo G W f)) (hb : PE X b (TEo G W g)) (hm : behindInMarks op b = false := by rfl) : PE X (.Compare a [op] [b] pos) (TEo G W (eOp o f g)) :=
  pe_of (pe_cmpR ho ha hb hm) (tOp_of hd)
theorem de_ix {r : R2} {o : D → D → Option D} (ho : IxR X r) (hd : OpD G r o) (ha : PE X a (TEo G W f)) (hb : PE X b (TEo G W g)) (hs : PlainIx b := by exact fun _ _ => rfl) : PE X (.Subscript a b pos) (TEo G W (eOp o f g)) :=
  pe_of (pe_ix ho ha hb hs) (tOp_of hd)

/-! ### tests -/
/-- True or False -/
def tB1 (f : En → R D) : En → R Bool := fun r => (f r).bind fun x r1 => match x with
  | .bool k => .ok k r1
  | _ => .st
theorem tB_of (σ : L2.St) (H : Hp) (Q : Bool → Hp → Prop) : TTo G W (tB1 f) σ H Q → tB (TEo G W f) σ H Q := fun ⟨F, r0, e, p⟩ =>
  ⟨F, r0, e, (Pt.bind (rel1 := rV G) p).mono fun v H1 ⟨x, F1, r1, _, e1, q1, p1⟩ => by
    cases q1 with
    | bl k => exact ⟨k, rfl, Pt.here p1 e1 (Ext.refl _ _) rfl⟩
    | _ => exact p1.elim⟩
theorem dt_val (ha : PE X a (TEo G W f)) (he : ∀ whole, isTrue a X.env whole = (do let v ← whole; standAt a.pos; holding [v] (truthy v)) := by intro _; rfl) : PT X a (TTo G W (tB1 f)) :=
  pt_of (pt_val ha he) tB_of
/-- the truth of data -/
def truD : D → Option Bool
  | .none => some false
  | .bool _ => none
  | .int i => some (i != 0)
  | .str z => if z.length ≤ sizeLine then some (z.length != 0) else none
  | .list ds => some (!ds.isEmpty)
  | .tuple ds => some (!ds.isEmpty)
  | .dict _ => none
def tTru (f : En → R D) : En → R Bool := fun r => (f r).bind fun x r1 => match x with
  | .bool k => .ok k r1
  | x => match truD x with
    | some k => .ok k r1
    | none => .st
def tAnd1 (f g : En → R Bool) : En → R Bool := fun r => (f r).bind fun k r1 => if k = true then g r1 else .ok false r1
def tOr1 (f g : En → R Bool) : En → R Bool := fun r => (f r).bind fun k r1 => if k = true then .ok true r1 else g r1
def tNot1 (f : En → R Bool) : En → R Bool := fun r => (f r).bind fun k r1 => .ok (!k) r1
theorem dw_and1 (ha : PT X a (TTo G W ft)) : PW X (.BoolOp .And [a] pos) (TTo G W ft) := pw_and1 ha
theorem dw_or1 (ha : PT X a (TTo G W ft)) : PW X (.BoolOp .Or [a] pos) (TTo G W ft) := pw_or1 ha
theorem dw_and {rest : List Expr} (ha : PT X a (TTo G W ft)) (hb : PW X (.BoolOp .And (b :: rest) pos) (TTo G W gt)) : PW X (.BoolOp .And (a :: b :: rest) pos) (TTo G W (tAnd1 ft gt)) :=
  pw_of (pw_and ha hb) fun σ H Q ⟨F, r0, e, p⟩ => ⟨F, r0, e, (Pt.bind (rel1 := rB) p).mono fun k H1 ⟨k', F1, r1, _, e1, q1, p1⟩ => by
    have q1 : k = k' := q1
    subst q1
    cases k with
    | true => exact ⟨F1, r1, e1, p1⟩
    | false => exact Pt.here p1 e1 (Ext.refl _ _) rfl⟩
theorem dw_or {rest : List Expr} (ha : PT X a (TTo G W ft)) (hb : PW X (.BoolOp .Or (b :: rest) pos) (TTo G W gt)) : PW X (.BoolOp .Or (a :: b :: rest) pos) (TTo G W (tOr1 ft gt)) :=
  pw_of (pw_or ha hb) fun σ H Q ⟨F, r0, e, p⟩ => ⟨F, r0, e, (Pt.bind (rel1 := rB) p).mono fun k H1 ⟨k', F1, r1, _, e1, q1, p1⟩ => by
    have q1 : k = k' := q1
    subst q1
    cases k with
    | false => exact ⟨F1, r1, e1, p1⟩
    | true => exact Pt.here p1 e1 (Ext.refl _ _) rfl⟩
theorem dt_not (ha : PT X a (TTo G W ft)) : PT X (.UnaryOp .Not a pos) (TTo G W (tNot1 ft)) :=
  pt_of (pt_not ha) fun σ H Q ⟨F, r0, e, p⟩ => ⟨F, r0, e, (Pt.bind (rel1 := rB) p).mono fun k H1 ⟨k', F1, r1, _, e1, q1, p1⟩ => by
    have q1 : k = k' := q1
    subst q1
    exact Pt.here p1 e1 (Ext.refl _ _) rfl⟩
/-- and, or, not as values of truth values -/
def eAnd (f g : En → R D) : En → R D := fun r => (f r).bind fun x r1 => match x with
  | .bool true => g r1
  | .bool false => .ok (.bool false) r1
  | _ => .st
def eOr (f g : En → R D) : En → R D := fun r => (f r).bind fun x r1 => match x with
  | .bool true => .ok (.bool true) r1
  | .bool false => g r1
  | _ => .st
def eNot (f : En → R D) : En → R D := fun r => (f r).bind fun x r1 => match x with
  | .bool k => .ok (.bool (!k)) r1
  | _ => .st
theorem de_and {rest : List Expr} (ha : PE X a (TEo G W f)) (hb : PE X (.BoolOp .And (b :: rest) pos) (TEo G W g)) : PE X (.BoolOp .And (a :: b :: rest) pos) (TEo G W (eAnd f g)) :=
  pe_of (pe_and ha hb) fun σ H Q ⟨F, r0, e, p⟩ => ⟨F, r0, e, (Pt.bind (rel1 := rV G) p).mono fun v H1 ⟨x, F1, r1, _, e1, q1, p1⟩ => by
    cases q1 with
    | bl k =>
      cases k with
      | true => exact ⟨true, rfl, ⟨F1, r1, e1, p1⟩⟩
      | false => exact ⟨false, rfl, Pt.here p1 e1 (Ext.refl _ _) (.bl _)⟩
    | _ => exact p1.elim⟩
theorem de_or {rest : List Expr} (ha : PE X a (TEo G W f)) (hb : PE X (.BoolOp .Or (b :: rest) pos) (TEo G W g)) : PE X (.BoolOp .Or (a :: b :: rest) pos) (TEo G W (eOr f g)) :=
  pe_of (pe_or ha hb) fun σ H Q ⟨F, r0, e, p⟩ => ⟨F, r0, e, (Pt.bind (rel1 := rV G) p).mono fun v H1 ⟨x, F1, r1, _, e1, q1, p1⟩ => by
    cases q1 with
    | bl k =>
      cases k with
      | false => exact ⟨false, rfl, ⟨F1, r1, e1, p1⟩⟩
      | true => exact ⟨true, rfl, Pt.here p1 e1 (Ext.refl _ _) (.bl _)⟩
    | _ => exact p1.elim⟩
theorem de_one {op} (ha : PE X a (TEo G W f)) : PE X (.BoolOp op [a] pos) (TEo G W f) := pe_one ha
theorem de_not (ha : PE X a (TEo G W f)) : PE X (.UnaryOp .Not a pos) (TEo G W (eNot f)) :=
  pe_of (pe_not ha) fun σ H Q ⟨F, r0, e, p⟩ => ⟨F, r0, e, (Pt.bind (rel1 := rV G) p).mono fun v H1 ⟨x, F1, r1, _, e1, q1, p1⟩ => by
    cases q1 with
    | bl k => exact ⟨k, rfl, Pt.here p1 e1 (Ext.refl _ _) (.bl _)⟩
    | _ => exact p1.elim⟩
def eIf (c : En → R Bool) (f g : En → R D) : En → R D := fun r => (c r).bind fun k r1 => if k = true then f r1 else g r1
theorem de_if (hc : PT X c (TTo G W ft)) (ha : PE X a (TEo G W f)) (hb : PE X b (TEo G W g)) : PE X (.IfExp c a b pos) (TEo G W (eIf ft f g)) :=
  pe_of (pe_ifExp hc ha hb) fun σ H Q ⟨F, r0, e, p⟩ => ⟨F, r0, e, (Pt.bind (rel1 := rB) p).mono fun k H1 ⟨k', F1, r1, _, e1, q1, p1⟩ => by
    have q1 : k = k' := q1
    subst q1
    cases k with
    | true => exact ⟨F1, r1, e1, p1⟩
    | false => exact ⟨F1, r1, e1, p1⟩⟩
/-- a < b < c -/
def eChain (o o' : D → D → Option D) (f g h : En → R D) : En → R D := fun r => (f r).bind fun x r1 => (g r1).bind fun y r2 => match o x y with
  | some (.bool true) => (h r2).bind fun z r3 => liftO (o' y z) r3
  | some (.bool false) => .ok (.bool false) r2
  | _ => .st

/-! ### arguments -/
def aNil : En → R (List D) := fun r => .ok [] r
def aCons (f : En → R D) (g : En → R (List D)) : En → R (List D) := fun r => (f r).bind fun x r1 => (g r1).bind fun y r2 => .ok (x :: y) r2
theorem da_nil : PA X [] (TAo G W aNil) := pa_of pa_nil fun σ H Q ⟨F, r0, e, p⟩ => Pt.here p e (Ext.refl _ _) .nil
theorem da_cons {es : List Expr} {fs : En → R (List D)} (ha : PE X a (TEo G W f)) (hr : PA X es (TAo G W fs)) (hs : starEach (a :: es) X.env = (false, eval a X.env) :: starEach es X.env := by rfl) : PA X (a :: es) (TAo G W (aCons f fs)) :=
  pa_of (pa_cons ha hr hs) fun σ H Q ⟨F, r0, e, p⟩ => ⟨F, r0, e, (Pt.bind (rel1 := rV G) p).mono fun v H1 ⟨x, F1, r1, _, e1, q1, p1⟩ => ⟨F1, r1, e1, (Pt.bind (rel1 := rL G) p1).mono fun vs H2 ⟨y, F2, r2, s2, e2, q2, p2⟩ =>
    Pt.here p2 e2 (Ext.refl _ _) (.cons (q1.mono s2) q2)⟩⟩
def eTup (fs : En → R (List D)) : En → R D := fun r => (fs r).bind fun ds r1 => if ds.length ≤ 1000000 then .ok (.tuple ds) r1 else .st
theorem de_tup {es : List Expr} {fs : En → R (List D)} {x1} (h : PA X es (TAo G W fs)) : PE X (.Tuple es x1 pos) (TEo G W (eTup fs)) :=
  pe_of (pe_tup h) fun σ H Q ⟨F, r0, e, p⟩ => ⟨F, r0, e, (Pt.bind (rel1 := rL G) p).mono fun vs H1 ⟨ds, F1, r1, _, e1, q1, p1⟩ => by
    by_cases hz : ds.length ≤ 1000000
    · rw [if_pos hz] at p1
      refine ⟨Nat.le_trans (by rw [q1.len]; exact hz) (by decide), fun q hq => Pt.here p1 e1 (Ext.new e1.sub hq (by intro ps z; cases z)) (.tup (SqT.of upd_same) (q1.mono (sub_upd (e1.none_of hq))))⟩
    · rw [if_neg hz] at p1
      exact p1.elim⟩
/-- built-in functions -/
def CallD (G : Gm) (r : List V → Hp → VK → Prop) (o : List D → Option D) : Prop := ∀ (x : List D) (d : D) (F H : Hp) (v : List V) (Q : VK), o x = some d → Sub F H → RpL G F v x → (∀ F' H' z, Ext F H F' H' → Rp G F' z d → Q z H') → r v H Q
def eCB (o : List D → Option D) (fs : En → R (List D)) : En → R D := fun r => (fs r).bind fun x r1 => liftO (o x) r1
theorem tCB_of {r : List V → Hp → VK → Prop} {o : List D → Option D} {fs : En → R (List D)} (hd : CallD G r o) (σ : L2.St) (H : Hp) (Q : VK) : TEo G W (eCB o fs) σ H Q → tCB r (TAo G W fs) σ H Q := fun ⟨F, r0, e, p⟩ =>
  ⟨F, r0, e, (Pt.bind (rel1 := rL G) p).mono fun v H1 ⟨x, F1, r1, _, e1, q1, p1⟩ => by
    obtain ⟨d, hd', k⟩ := liftO_here e1 p1
    exact hd x d F1 H1 v Q hd' e1.sub q1 k⟩
theorem de_callB {id : String} {x : Str} {es : List Expr} {p : Pos} {r : List V → Hp → VK → Prop} {o : List D → Option D} {fs : En → R (List D)} (hc : CallR X (.builtin id) r) (hd : CallD G r o) (hm : X.mg x = none) (hv : bootBuiltins x = some (.builtin id)) (ha : PA X (a :: es) (TAo G W fs)) (hg : Gl X x := by rfl)
    (hn : x ≠ "__name__" := by decide) (hdb : (x == ("__debug__" : Str)) = false := by decide) (he : starEach (a :: es) X.env = (false, eval a X.env) :: starEach es X.env := by rfl) (hpl : (backTo pos (starEach es X.env)).any (·.1) = false := by rfl) :
    PE X (.Call (.Name x p) (a :: es) [] pos) (TEo G W (eCB o fs)) := pe_of (pe_callB hc hg hm hv ha hn hdb he hpl) (tCB_of hd)
theorem de_callTy {id : String} {x : Str} {es : List Expr} {p : Pos} {r : List V → Hp → VK → Prop} {o : List D → Option D} {fs : En → R (List D)} (hc : CallR X (.type id) r) (hd : CallD G r o) (hm : X.mg x = none) (hv : bootBuiltins x = some (.type id)) (ha : PA X (a :: es) (TAo G W fs)) (hg : Gl X x := by rfl)
    (hn : x ≠ "__name__" := by decide) (hdb : (x == ("__debug__" : Str)) = false := by decide) (he : starEach (a :: es) X.env = (false, eval a X.env) :: starEach es X.env := by rfl) (hpl : (backTo pos (starEach es X.env)).any (·.1) = false := by rfl) :
    PE X (.Call (.Name x p) (a :: es) [] pos) (TEo G W (eCB o fs)) := pe_of (pe_callTy hc hg hm hv ha hn hdb he hpl) (tCB_of hd)
end
end DL
set_option maxHeartbeats 4000000
/-! DLc: own values, statements, loops, comprehensions. -/
namespace DL
open PySem L2

/-! ### own values -/
section
variable {G : Gm} {W : WX} {F H F' H' : Hp} {σ : L2.St} {r : En}
theorem get_snoc {α : Type} {l : List α} {x : α} {i : Nat} (h : i < l.length) : (l ++ [x])[i]? = l[i]? := List.getElem?_append_left h
theorem get_last {α : Type} {l : List α} {x : α} : (l ++ [x])[l.length]? = some x := by simp
/-- one more name, one less -/
theorem Rel.init {v : V} {s : Sl} (h : Rel G F H (σ ++ [some v]) (r ++ [s])) : Rel G F H σ r := by
  have hl : σ.length = r.length := by have := h.len; simp at this; exact this
  refine ⟨h.sub, h.ntb, h.tabs, hl, fun i t w e1 e2 => ?_, fun i j s' t p e1 e2 m1 m2 e3 e4 => ?_⟩
  · have hi := (List.getElem?_eq_some_iff.mp e1).1
    exact h.slot i t w (by rw [get_snoc hi]; exact e1) (by rw [get_snoc (by rw [hl]; exact hi)]; exact e2)
  · have hi := (List.getElem?_eq_some_iff.mp e1).1
    have hj := (List.getElem?_eq_some_iff.mp e2).1
    exact h.apart i j s' t p (by rw [get_snoc hi]; exact e1) (by rw [get_snoc hj]; exact e2) m1 m2 (by rw [get_snoc (by rw [hl]; exact hi)]; exact e3) (by rw [get_snoc (by rw [hl]; exact hj)]; exact e4)
theorem Rel.last {v : V} {s : Sl} (h : Rel G F H (σ ++ [some v]) (r ++ [s])) : SlOk G F H (some v) s := by
  have hl : σ.length = r.length := by have := h.len; simp at this; exact this
  exact h.slot r.length s (some v) get_last (by rw [← hl]; exact get_last)
theorem own_init {v : V} {s : Sl} (hl : σ.length = r.length) : ∀ a, oA σ r a → oA (σ ++ [some v]) (r ++ [s]) a := fun a ⟨i, t, e1, m, e2⟩ => by
  have hi := (List.getElem?_eq_some_iff.mp e1).1
  exact ⟨i, t, by rw [get_snoc hi]; exact e1, m, by rw [get_snoc (by rw [hl]; exact hi)]; exact e2⟩
theorem own_snoc {v : V} {s : Sl} (hl : σ.length = r.length) {a : Addr} (h : oA (σ ++ [some v]) (r ++ [s]) a) : oA σ r a ∨ (s.mine = true ∧ v = .ref a) := by
  obtain ⟨i, t, e1, m, e2⟩ := h
  by_cases hi : i < r.length
  · rw [get_snoc hi] at e1
    rw [get_snoc (by rw [hl]; exact hi)] at e2
    exact .inl ⟨i, t, e1, m, e2⟩
  · have hi2 : i = r.length := by
      have := (List.getElem?_eq_some_iff.mp e1).1
      simp at this
      omega
    subst hi2
    rw [get_last] at e1
    cases e1
    rw [← hl, get_last] at e2
    cases e2
    exact .inr ⟨m, rfl⟩
/-- a new name -/
theorem Rel.snoc {v : V} {s : Sl} (h : Rel G F H σ r) (hs : SlOk G F H (some v) s) (hn : ∀ p, s.mine = true → v = .ref p → ¬ oA σ r p) : Rel G F H (σ ++ [some v]) (r ++ [s]) := by
  refine ⟨h.sub, h.ntb, h.tabs, by simp [h.len], fun i t w e1 e2 => ?_, fun i j s' t p e1 e2 m1 m2 e3 e4 => ?_⟩
  · by_cases hi : i < r.length
    · rw [get_snoc hi] at e1
      rw [get_snoc (by rw [h.len]; exact hi)] at e2
      exact h.slot i t w e1 e2
    · have hi2 : i = r.length := by
        have := (List.getElem?_eq_some_iff.mp e1).1
        simp at this
        omega
      subst hi2
      rw [get_last] at e1
      cases e1
      rw [← h.len, get_last] at e2
      cases e2
      exact hs
  · have bound : ∀ {k : Nat} {u : Sl}, (r ++ [s])[k]? = some u → k < r.length ∨ k = r.length := fun {k u} e => by
      have := (List.getElem?_eq_some_iff.mp e).1
      simp at this
      omega
    rcases bound e1 with hi | hi
    · rw [get_snoc hi] at e1
      rw [get_snoc (by rw [h.len]; exact hi)] at e3
      rcases bound e2 with hj | hj
      · rw [get_snoc hj] at e2
        rw [get_snoc (by rw [h.len]; exact hj)] at e4
        exact h.apart i j s' t p e1 e2 m1 m2 e3 e4
      · subst hj
        rw [get_last] at e2
        cases e2
        rw [← h.len, get_last] at e4
        cases e4
        exact absurd ⟨i, s', e1, m1, e3⟩ (hn p m2 rfl)
    · subst hi
      rw [get_last] at e1
      cases e1
      rw [← h.len, get_last] at e3
      cases e3
      rcases bound e2 with hj | hj
      · rw [get_snoc hj] at e2
        rw [get_snoc (by rw [h.len]; exact hj)] at e4
        exact absurd ⟨j, t, e2, m2, e4⟩ (hn p m1 rfl)
      · exact hj.symm
theorem Rel.val {v : V} {d : D} (h : Rel G F H σ r) (q : Rp G F v d) : Rel G F H (σ ++ [some v]) (r ++ [.vl d]) := h.snoc ⟨v, rfl, q⟩ fun p m => by cases m
theorem own_val {v : V} {d : D} (hl : σ.length = r.length) {a : Addr} (h : oA (σ ++ [some v]) (r ++ [.vl d]) a) : oA σ r a := by
  rcases own_snoc hl h with z | ⟨z, _⟩
  · exact z
  · cases z
/-- frozen, from now on -/
def fz : Sl → Option D
  | .vl d => some d
  | .ow ds => some (.list ds)
  | _ => none
def eF (f : En → R Sl) : En → R D := fun r => (f r).bind fun s r1 => liftO (fz s) r1
theorem frz_new {p : Addr} {o : HO} (hF : F p = none) (hp : H p = some o) (hs : Sub F H) : Sub (upd F p o) H := fun a u e => by
  by_cases hb : a = p
  · subst hb; rw [upd_same] at e; cases e; exact hp
  · rw [upd_ne hb] at e; exact hs a u e
/-- an own list that no name holds is frozen -/
theorem Rel.frz {v : V} {ds : List D} (h : Rel G F H (σ ++ [some v]) (r ++ [.ow ds])) : ∃ F', Sub F F' ∧ (∀ a o, F' a = some o → F a = some o ∨ v = .ref a) ∧ Rel G F' H σ r ∧ Rp G F' v (.list ds) := by
  obtain ⟨p, e, hF, vs, hp, hv⟩ := h.last
  cases e
  have hl : σ.length = r.length := by have := h.len; simp at this; exact this
  have s1 : Sub F (upd F p (.lst vs)) := sub_upd hF
  refine ⟨upd F p (.lst vs), s1, fun a o e => ?_, ?_, .lst upd_same (hv.mono s1)⟩
  · by_cases hb : a = p
    · subst hb; exact .inr rfl
    · rw [upd_ne hb] at e; exact .inl e
  · have h0 := h.init
    refine ⟨frz_new hF hp h.sub, fun a ps e => ?_, h.tabs, hl, fun i s w e1 e2 => ?_, h0.apart⟩
    · by_cases hb : a = p
      · subst hb; rw [upd_same] at e; cases e
      · rw [upd_ne hb] at e; exact h.ntb a ps e
    · refine (h0.slot i s w e1 e2).mono s1 fun q m ew => ⟨?_, fun o e _ => e⟩
      have ne : q ≠ p := by
        intro z
        subst z
        subst ew
        have hi := (List.getElem?_eq_some_iff.mp e1).1
        have z := h.apart i r.length s (.ow ds) q (by rw [get_snoc hi]; exact e1) get_last m rfl (by rw [get_snoc (by rw [hl]; exact hi)]; exact e2) (by rw [← hl]; exact get_last)
        omega
      rw [upd_ne ne]
      exact ((h0.slot i s w e1 e2).own m ew).1
theorem tF_of {f : En → R Sl} (σ : L2.St) (H : Hp) (Q : VK) : TEo G W (eF f) σ H Q → TXo G W f σ H Q := fun ⟨F, r0, e, p⟩ => by
  refine ⟨F, r0, e, ?_⟩
  unfold eF at p
  cases hf : f r0 with
  | st => rw [hf] at p; exact p
  | ex c d r' => rw [hf] at p; exact p
  | ok s r' =>
    rw [hf] at p
    intro F' H' v g e'
    have hl : σ.length = r'.length := by have := e'.len; simp at this; exact this
    have p : Pt G W (rV G) (liftO (fz s) r') F H σ r0 Q := p
    cases s with
    | no => exact p.elim
    | fr ds => exact p.elim
    | io ds => exact p.elim
    | od ds => exact p.elim
    | vl d =>
      obtain ⟨x, ex, q⟩ := e'.last
      cases ex
      refine p F' H' v (g.wide (fun _ z => z) fun x z => ?_) e'.init q
      exact g.own x (own_init hl x z)
    | ow ds =>
      obtain ⟨F2, s2, n2, e2, q2⟩ := e'.frz
      refine p F2 H' v ⟨g.sub.trans s2, fun a o ea => ?_, g.keep, fun x z => g.own x (own_init hl x z), g.there⟩ e2 q2
      rcases n2 a o ea with z | z
      · exact g.new a o z
      · subst z
        have hown : oA (σ ++ [some (.ref a)]) (r' ++ [.ow ds]) a := ⟨r'.length, .ow ds, get_last, rfl, by rw [← hl]; exact get_last⟩
        rcases g.own a hown with z | z
        · exact .inr (.inr z)
        · exact .inr (.inl z)
/-- an own value, used as frozen data -/
theorem de_frz {X : Cx} {e : Expr} {f : En → R Sl} (h : PE X e (TXo G W f)) : PE X e (TEo G W (eF f)) := pe_of h tF_of
def xV (f : En → R D) : En → R Sl := fun r => (f r).bind fun d r1 => .ok (.vl d) r1
theorem dx_val {X : Cx} {e : Expr} {f : En → R D} (h : PE X e (TEo G W f)) : PE X e (TXo G W (xV f)) := pe_of h fun σ H Q ⟨F, r0, e, p⟩ => by
  refine ⟨F, r0, e, ?_⟩
  unfold xV at p
  cases hf : f r0 with
  | st => rw [hf] at p; exact p.elim
  | ex c d r' => rw [hf] at p; exact p
  | ok d r' =>
    rw [hf] at p
    exact fun F' H' v g e' q => p F' H' v (g.wide (fun _ z => z) fun x z => g.own x (own_val e'.len z)) (e'.val q)
/-- a new list from the arguments -/
theorem Rel.newL {p : Addr} {vs : List V} {ds : List D} (h : Rel G F H σ r) (hp : H p = none) (q : RpL G F vs ds) : Go F H (oA σ r) F (upd H p (.lst vs)) (oA (σ ++ [some (.ref p)]) (r ++ [.ow ds])) ∧ Rel G F (upd H p (.lst vs)) (σ ++ [some (.ref p)]) (r ++ [.ow ds]) := by
  have x := Ext.made (o := .lst vs) hp h.sub
  refine ⟨x.go.wide (fun _ z => z.elim) fun a z => ?_, (h.ext x).snoc ⟨p, rfl, h.none_of hp, vs, upd_same, q⟩ fun a _ e z => ?_⟩
  · rcases own_snoc h.len z with z | ⟨_, z⟩
    · exact .inl z
    · cases z; exact .inr hp
  · cases e
    obtain ⟨_, o, e, _⟩ := h.own z
    rw [hp] at e; cases e
def xLst (fs : En → R (List D)) : En → R Sl := fun r => (fs r).bind fun ds r1 => if ds.length ≤ 1000000 then .ok (.ow ds) r1 else .st
/-- the end of an own value's reading: a new list -/
theorem tX_new {vs : List V} {ds : List D} {F1 H1 : Hp} {r1 : En} {p : Addr} {Q : VK} (e1 : Rel G F1 H1 σ r1) (hp : H1 p = none) (q : RpL G F1 vs ds) (g : Go F H (oA σ r) F1 H1 (oA σ r1))
    (k : ∀ F' H' v, Go F H (oA σ r) F' H' (oA (σ ++ [some v]) (r1 ++ [Sl.ow ds])) → Rel G F' H' (σ ++ [some v]) (r1 ++ [Sl.ow ds]) → Q v H') : Q (.ref p) (upd H1 p (.lst vs)) := by
  obtain ⟨g2, e2⟩ := e1.newL hp q
  exact k _ _ _ (g.trans g2) e2
theorem dx_lst {X : Cx} {es : List Expr} {fs : En → R (List D)} {pos : Pos} (h : PA X es (TAo G W fs)) : PE X (.List es pos) (TXo G W (xLst fs)) :=
  pe_of (pe_lst h) fun σ H Q ⟨F, r0, e, p⟩ => by
    refine ⟨F, r0, e, ?_⟩
    unfold xLst at p
    cases hf : fs r0 with
    | st => rw [hf] at p; exact p.elim
    | ex c d r' => rw [hf] at p; exact p
    | ok ds r' =>
      rw [hf] at p
      intro F' H' vs g e' q
      by_cases hz : ds.length ≤ 1000000
      · have p : ∀ F' H' v, Go F H (oA σ r0) F' H' (oA (σ ++ [some v]) (r' ++ [Sl.ow ds])) → Rel G F' H' (σ ++ [some v]) (r' ++ [Sl.ow ds]) → Q v H' := by
          have p' := p
          simp only [R.bind] at p'
          rw [if_pos hz] at p'
          exact p'
        exact ⟨Nat.le_trans (by rw [q.len]; exact hz) (by decide), fun a ha => tX_new e' ha q g p⟩
      · simp only [R.bind] at p
        rw [if_neg hz] at p
        exact p.elim
end

/-! ### statements -/
section
variable {G : Gm} {W : WX} {F H F1 H1 : Hp} {σ σ1 : L2.St} {r r1 : En}
def Pf (G : Gm) (W : WX) (x : Fl) (F H : Hp) (σ : L2.St) (r : En) (E : Ends) : Prop := match x with
  | .nx r' => ∀ F' H' σ', Go F H (oA σ r) F' H' (oA σ' r') → Rel G F' H' σ' r' → E.nx σ' H'
  | .bk r' => ∀ F' H' σ', Go F H (oA σ r) F' H' (oA σ' r') → Rel G F' H' σ' r' → E.bk σ' H'
  | .ct r' => ∀ F' H' σ', Go F H (oA σ r) F' H' (oA σ' r') → Rel G F' H' σ' r' → E.ct σ' H'
  | .rt s r' => ∀ F' H' σ' v, Go F H (oA σ r) F' H' (oA (σ' ++ [some v]) (r' ++ [s])) → Rel G F' H' (σ' ++ [some v]) (r' ++ [s]) → E.rt v H'
  | .ex c d r' => ∀ F' H' σ' cls dd, Go F H (oA σ r) F' H' (oA σ' r') → Rel G F' H' σ' r' → XOk G F' H' c d cls dd → W cls dd σ' H'
  | .st => False
def TSo (G : Gm) (W : WX) (f : En → Fl) : TS := fun E σ H => ∃ F r, Rel G F H σ r ∧ Pf G W (f r) F H σ r E
theorem Pf.from {x : Fl} {E : Ends} (g : Go F H (oA σ r) F1 H1 (oA σ1 r1)) (h : Pf G W x F H σ r E) : Pf G W x F1 H1 σ1 r1 E := by
  cases x with
  | nx r' => exact fun F' H' σ' g' e => h F' H' σ' (g.trans g') e
  | bk r' => exact fun F' H' σ' g' e => h F' H' σ' (g.trans g') e
  | ct r' => exact fun F' H' σ' g' e => h F' H' σ' (g.trans g') e
  | rt s r' => exact fun F' H' σ' v g' e => h F' H' σ' v (g.trans g') e
  | ex c d r' => exact fun F' H' σ' cls dd g' e => h F' H' σ' cls dd (g.trans g') e
  | st => exact h
/-- the exception of an expression is a statement's -/
theorem Pt.exF {α β : Type} {rel : Hp → β → α → Prop} {c : Nat} {d : Option D} {r' : En} {E : Ends} {Q : β → Hp → Prop} (h : Pf G W (.ex c d r') F H σ r E) : Pt G W rel (.ex c d r') F H σ r Q := fun F' H' cls dd g e x => h F' H' σ cls dd g e x
/-- an expression ahead of what goes on -/
def rF {α : Type} (x : R α) (k : α → En → Fl) : Fl := match x with
  | .ok a r => k a r
  | .ex c d r => .ex c d r
  | .st => .st
theorem Pf.ofR {α β : Type} {rel : Hp → β → α → Prop} {x : R α} {k : α → En → Fl} {E : Ends} {Q : β → Hp → Prop} (h : Pf G W (rF x k) F H σ r E) (hk : ∀ a r1 F1 H1 b, Sub F F1 → Rel G F1 H1 σ r1 → rel F1 b a → Pf G W (k a r1) F1 H1 σ r1 E → Q b H1) : Pt G W rel x F H σ r Q := by
  cases x with
  | ok a r1 => exact fun F' H' b g e q => hk a r1 F' H' b g.sub e q (Pf.from g h)
  | ex c d r' => exact fun F' H' cls dd g e x => h F' H' σ cls dd g e x
  | st => exact h
def sSeq (f g : En → Fl) : En → Fl := fun r => match f r with
  | .nx r1 => g r1
  | o => o
def sNil : En → Fl := fun r => .nx r
theorem ds_nil {X : Cx} : PSs X [] (TSo G W sNil) := pss_of pss_nil fun E σ H ⟨F, r, e, p⟩ => p F H σ (Go.refl fun _ z => z) e
theorem ds_seq {X : Cx} {st : Stmt} {rest : List Stmt} {f g : En → Fl} (h1 : PS X st (TSo G W f)) (h2 : PSs X rest (TSo G W g)) : PSs X (st :: rest) (TSo G W (sSeq f g)) :=
  pss_of (pss_cons h1 h2) fun E σ H ⟨F, r, e, p⟩ => by
    refine ⟨F, r, e, ?_⟩
    unfold sSeq at p
    cases hf : f r with
    | nx r1 => rw [hf] at p; exact fun F' H' σ' g' e' => ⟨F', r1, e', Pf.from g' p⟩
    | bk r1 => rw [hf] at p; exact p
    | ct r1 => rw [hf] at p; exact p
    | rt s r1 => rw [hf] at p; exact p
    | ex c d r1 => rw [hf] at p; exact p
    | st => rw [hf] at p; exact p
theorem ds_one {X : Cx} {st : Stmt} {f : En → Fl} (h1 : PS X st (TSo G W f)) : PSs X [st] (TSo G W f) := pss_one h1
theorem ds_pass {X : Cx} {pos : Pos} : PS X (.Pass pos) (TSo G W sNil) := ps_of ps_pass fun E σ H ⟨F, r, e, p⟩ => p F H σ (Go.refl fun _ z => z) e
def sBrk : En → Fl := fun r => .bk r
theorem ds_brk {X : Cx} {pos : Pos} : PS X (.Break pos) (TSo G W sBrk) := ps_of ps_break fun E σ H ⟨F, r, e, p⟩ => p F H σ (Go.refl fun _ z => z) e
/-- a statement that is never reached -/
def sSt : En → Fl := fun _ => .st
theorem ds_never {X : Cx} {st : Stmt} : PS X st (TSo G W sSt) := ps_of ps_never fun E σ H ⟨F, r, e, p⟩ => p
def sIf (c : En → R Bool) (f g : En → Fl) : En → Fl := fun r => rF (c r) fun k r1 => if k = true then f r1 else g r1
theorem ds_if {X : Cx} {c : Expr} {a b : List Stmt} {fc : En → R Bool} {f g : En → Fl} {pos : Pos} (hc : PT X c (TTo G W fc)) (ha : PSs X a (TSo G W f)) (hb : PSs X b (TSo G W g)) : PS X (.If c a b pos) (TSo G W (sIf fc f g)) :=
  ps_of (ps_if hc ha hb) fun E σ H ⟨F, r, e, p⟩ => ⟨F, r, e, Pf.ofR p fun a r1 F1 H1 b _ e1 q p1 => by
    have q : b = a := q
    subst q
    cases b with
    | true => exact ⟨F1, r1, e1, p1⟩
    | false => exact ⟨F1, r1, e1, p1⟩⟩
def sRet (f : En → R D) : En → Fl := fun r => rF (f r) fun d r1 => .rt (.vl d) r1
theorem ds_ret {X : Cx} {a : Expr} {f : En → R D} {pos : Pos} (ha : PE X a (TEo G W f)) : PS X (.Return (some a) pos) (TSo G W (sRet f)) :=
  ps_of (ps_ret ha) fun E σ H ⟨F, r, e, p⟩ => ⟨F, r, e, Pf.ofR p fun d r1 F1 H1 v _ e1 q p1 => p1 F1 H1 σ v (Go.refl fun a z => own_val e1.len z) (e1.val q)⟩
def sRetX (f : En → R Sl) : En → Fl := fun r => rF (f r) fun s r1 => .rt s r1
theorem ds_retX {X : Cx} {a : Expr} {f : En → R Sl} {pos : Pos} (ha : PE X a (TXo G W f)) : PS X (.Return (some a) pos) (TSo G W (sRetX f)) :=
  ps_of (ps_ret ha) fun E σ H ⟨F, r, e, p⟩ => by
    refine ⟨F, r, e, ?_⟩
    unfold sRetX rF at p
    cases hf : f r with
    | ok s r1 => rw [hf] at p; exact fun F' H' v g e' => p F' H' σ v g e'
    | ex c d r' => rw [hf] at p; exact fun F' H' cls dd g e x => p F' H' σ cls dd g e x
    | st => rw [hf] at p; exact p
def sRetN : En → Fl := fun r => .rt (.vl .none) r
theorem ds_retN {X : Cx} {pos : Pos} : PS X (.Return none pos) (TSo G W sRetN) :=
  ps_of ps_retN fun E σ H ⟨F, r, e, p⟩ => p F H σ .non (Go.refl fun a z => own_val e.len z) (e.val .non)
/-- the end of a block is None's return where nothing follows -/
def sDrop (f : En → R D) : En → Fl := fun r => rF (f r) fun _ r1 => .nx r1
theorem ds_expr {X : Cx} {a : Expr} {f : En → R D} {pos : Pos} (ha : PE X a (TEo G W f)) (hs : swapsWith a none pos.line X.env = pure false := by rfl) : PS X (.Expr a pos) (TSo G W (sDrop f)) :=
  ps_of (ps_expr ha hs) fun E σ H ⟨F, r, e, p⟩ => ⟨F, r, e, Pf.ofR p fun d r1 F1 H1 v _ e1 q p1 => p1 F1 H1 σ (Go.refl fun _ z => z) e1⟩

/-! ### stores -/
theorem get_set {α : Type} {l : List α} {i j : Nat} {x y : α} (h : (l.set i x)[j]? = some y) : (j = i ∧ y = x ∧ i < l.length) ∨ (j ≠ i ∧ l[j]? = some y) := by
  by_cases e : j = i
  · subst e
    by_cases hl : j < l.length
    · rw [List.getElem?_set_self hl] at h
      cases h
      exact .inl ⟨rfl, rfl, hl⟩
    · rw [List.getElem?_eq_none (by simpa using hl)] at h
      cases h
  · rw [List.getElem?_set_ne (Ne.symm e)] at h
    exact .inr ⟨e, h⟩
/-- a name gets what the last one holds -/
theorem Rel.store {i : Nat} {v : V} {s : Sl} (h : Rel G F H (σ ++ [some v]) (r ++ [s])) : Rel G F H (σ.set i (some v)) (r.set i s) := by
  have h0 := h.init
  refine ⟨h.sub, h.ntb, h.tabs, by simp [h0.len], fun j t w e1 e2 => ?_, fun j k s' t p e1 e2 m1 m2 e3 e4 => ?_⟩
  · rcases get_set e1 with ⟨a, b, c⟩ | ⟨a, b⟩
    · rcases get_set e2 with ⟨_, b2, _⟩ | ⟨a2, _⟩
      · subst b; subst b2; exact h.last
      · exact absurd a a2
    · rcases get_set e2 with ⟨a2, _, _⟩ | ⟨_, b2⟩
      · exact absurd a2 a
      · exact h0.slot j t w b b2
  · have hl := h0.len
    have at_last : ∀ {u : Sl} {m : Nat}, m = i → (r.set i s)[m]? = some u → (σ.set i (some v))[m]? = some (some (.ref p)) → u = s ∧ v = .ref p := fun {u m} hm e e' => by
      rcases get_set e with ⟨_, b, _⟩ | ⟨a, _⟩
      · rcases get_set e' with ⟨_, b', _⟩ | ⟨a', _⟩
        · cases b'; exact ⟨b, rfl⟩
        · exact absurd hm a'
      · exact absurd hm a
    have at_old : ∀ {u : Sl} {m : Nat}, m ≠ i → (r.set i s)[m]? = some u → (σ.set i (some v))[m]? = some (some (.ref p)) → r[m]? = some u ∧ σ[m]? = some (some (.ref p)) := fun {u m} hm e e' => by
      rcases get_set e with ⟨a, _, _⟩ | ⟨_, b⟩
      · exact absurd a hm
      · rcases get_set e' with ⟨a', _, _⟩ | ⟨_, b'⟩
        · exact absurd a' hm
        · exact ⟨b, b'⟩
    have cross : ∀ {u : Sl} {m : Nat}, m ≠ i → (r.set i s)[m]? = some u → u.mine = true → (σ.set i (some v))[m]? = some (some (.ref p)) → s.mine = true → v = .ref p → False := fun {u m} hm e mu e' ms ev => by
      obtain ⟨b, b'⟩ := at_old hm e e'
      have hi := (List.getElem?_eq_some_iff.mp b).1
      have z := h.apart m r.length u s p (by rw [get_snoc hi]; exact b) get_last mu ms (by rw [get_snoc (by rw [hl]; exact hi)]; exact b') (by rw [← hl, ev]; exact get_last)
      omega
    by_cases hj : j = i
    · by_cases hk : k = i
      · rw [hj, hk]
      · obtain ⟨u1, u2⟩ := at_last hj e1 e3
        subst u1
        exact (cross hk e2 m2 e4 m1 u2).elim
    · by_cases hk : k = i
      · obtain ⟨u1, u2⟩ := at_last hk e2 e4
        subst u1
        exact (cross hj e1 m1 e3 m2 u2).elim
      · obtain ⟨b1, c1⟩ := at_old hj e1 e3
        obtain ⟨b2, c2⟩ := at_old hk e2 e4
        exact h0.apart j k s' t p b1 b2 m1 m2 c1 c2
theorem own_store {i : Nat} {v : V} {s : Sl} (hl : σ.length = r.length) {a : Addr} (h : oA (σ.set i (some v)) (r.set i s) a) : oA (σ ++ [some v]) (r ++ [s]) a := by
  obtain ⟨j, t, e1, m, e2⟩ := h
  rcases get_set e1 with ⟨a1, b, c⟩ | ⟨a1, b⟩
  · rcases get_set e2 with ⟨_, b2, _⟩ | ⟨a2, _⟩
    · subst b; cases b2; exact ⟨r.length, t, get_last, m, by rw [← hl]; exact get_last⟩
    · exact absurd a1 a2
  · rcases get_set e2 with ⟨a2, _, _⟩ | ⟨_, b2⟩
    · exact absurd a2 a1
    · exact own_init hl a ⟨j, t, b, m, b2⟩
/-- a target: what the names hold behind it -/
def TGo (G : Gm) (ix : List Nat) (t : D → En → Option En) : TG := fun v σ H Q => ∃ F r d, Rel G F H σ r ∧ Rp G F v d ∧ ∃ r', t d r = some r' ∧ ∀ σ', Rel G F H σ' r' → (∀ a, oA σ' r' a → oA σ r a) → (σ'.length = σ.length ∧ ∀ j, j ∉ ix → σ'[j]? = σ[j]?) → Q σ' H
def TGso (G : Gm) (ix : List Nat) (t : List D → En → Option En) : TGs := fun vs σ H Q => ∃ F r ds, Rel G F H σ r ∧ RpL G F vs ds ∧ ∃ r', t ds r = some r' ∧ ∀ σ', Rel G F H σ' r' → (∀ a, oA σ' r' a → oA σ r a) → (σ'.length = σ.length ∧ ∀ j, j ∉ ix → σ'[j]? = σ[j]?) → Q σ' H
def gN (i : Nat) : D → En → Option En := fun d r => some (r.set i (.vl d))
def gsN : List D → En → Option En := fun ds r => match ds with
  | [] => some r
  | _ => none
def gsC (t : D → En → Option En) (u : List D → En → Option En) : List D → En → Option En := fun ds r => match ds with
  | d :: ds => (t d r).bind fun r1 => u ds r1
  | [] => none
def gT (n : Nat) (u : List D → En → Option En) : D → En → Option En := fun d r => match d with
  | .tuple ds => if ds.length = n then u ds r else none
  | _ => none
theorem pg_of {X : Cx} {e : Expr} {t t' : TG} (h : PG X e t) (k : ∀ v σ H Q, t' v σ H Q → t v σ H Q) : PG X e t' := ⟨fun pins s σ H v u Q I rr q => h.run pins s σ H v u Q I rr (k _ _ _ _ q)⟩
theorem pgs_of {X : Cx} {e : List Expr} {t t' : TGs} (h : PGs X e t) (k : ∀ v σ H Q, t' v σ H Q → t v σ H Q) : PGs X e t' := ⟨fun pins s σ H v u Q I rr q => h.run pins s σ H v u Q I rr (k _ _ _ _ q)⟩
theorem dg_name {X : Cx} {i : Nat} {x : Str} {pos : Pos} (hN : X.N.Nodup) (hi : X.N[i]? = some x := by rfl) (hx : Loc X.env.scope x := by first | exact Or.inl rfl | exact Or.inr rfl) (hf : X.fn x = true ∨ X.env.scope.names.lookup x = some .local := by first | exact .inl rfl | exact .inr rfl) : PG X (.Name x pos) (TGo G [i] (gN i)) :=
  pg_of (pg_name hN hi hx hf) fun v σ H Q ⟨F, r, d, e, q, r', h, k⟩ => by
    cases h
    exact k _ (e.val q).store (fun a z => own_val e.len (own_store e.len z)) ⟨List.length_set, fun j hj => List.getElem?_set_ne fun z => hj (by rw [← z]; exact List.mem_cons_self)⟩
theorem dgs_nil {X : Cx} : PGs X [] (TGso G [] gsN) := pgs_of pgs_nil fun vs σ H Q ⟨F, r, ds, e, q, r', h, k⟩ => by
  cases q with
  | nil => cases h; exact ⟨rfl, k σ e (fun _ z => z) ⟨rfl, fun _ _ => rfl⟩⟩
  | cons _ _ => cases h
theorem dgs_cons {X : Cx} {e : Expr} {es : List Expr} {i1 i2 : List Nat} {t : D → En → Option En} {u : List D → En → Option En} (h1 : PG X e (TGo G i1 t)) (h2 : PGs X es (TGso G i2 u)) (hs : (assignEach (e :: es) X.env).map (·.2) = assign e X.env :: (assignEach es X.env).map (·.2) := by rfl) : PGs X (e :: es) (TGso G (i1 ++ i2) (gsC t u)) :=
  pgs_of (pgs_cons h1 h2 hs) fun vs σ H Q ⟨F, r, ds, e, q, r', h, k⟩ => by
    cases q with
    | nil => cases h
    | @cons v vs d ds q1 q2 =>
      refine ⟨v, vs, rfl, F, r, d, e, q1, ?_⟩
      have h : (t d r).bind (fun r1 => u ds r1) = some r' := h
      cases ht : t d r with
      | none => rw [ht] at h; cases h
      | some r1 =>
        rw [ht] at h
        exact ⟨r1, rfl, fun σ1 e1 o1 w1 => ⟨F, r1, ds, e1, q2, r', h, fun σ2 e2 o2 w2 => k σ2 e2 (fun a z => o1 a (o2 a z)) ⟨w2.1.trans w1.1, fun j hj => (w2.2 j fun z => hj (List.mem_append_right _ z)).trans (w1.2 j fun z => hj (List.mem_append_left _ z))⟩⟩⟩
theorem dg_tup {X : Cx} {es : List Expr} {k : Nat} {pos : Pos} {n : Nat} {ix : List Nat} {u : List D → En → Option En} (hK : X.K = G.K) (hc : X.calm = true) (h : PGs X es (TGso G ix u)) (hn : (assignEach es X.env).length = n := by rfl) (hst : (assignEach es X.env).findIdx? (·.1) = none := by rfl) : PG X (.Tuple es k pos) (TGo G ix (gT n u)) :=
  pg_of (pg_tup hc h hn hst) fun v σ H Q ⟨F, r, d, e, q, r', hh, kk⟩ => by
    cases q with
    | @tup a xs ds hs hv =>
      have hh : (if ds.length = n then u ds r else none) = some r' := hh
      split at hh
      · rename_i hl
        exact ⟨a, xs, rfl, by rw [hK]; exact e.sub.t hs, by rw [hv.len]; exact hl, F, r, ds, e, hv, r', hh, kk⟩
      · cases hh
    | _ => cases hh
def sAsg (f : En → R D) (t : D → En → Option En) : En → Fl := fun r => rF (f r) fun d r1 => match t d r1 with
  | some r2 => .nx r2
  | none => .st
theorem Pf.asg {t : D → En → Option En} {E : Ends} {d : D} {v : V} (e1 : Rel G F H σ r) (q : Rp G F v d) {ix : List Nat} (p : Pf G W (match t d r with | some r2 => .nx r2 | none => .st) F H σ r E) : TGo G ix t v σ H E.nx := by
  refine ⟨F, r, d, e1, q, ?_⟩
  cases ht : t d r with
  | none => rw [ht] at p; exact p.elim
  | some r2 => rw [ht] at p; exact ⟨r2, rfl, fun σ' e' o _ => p F H σ' (Go.refl o) e'⟩
theorem ds_asg {X : Cx} {tg a : Expr} {f : En → R D} {ix : List Nat} {t : D → En → Option En} {pos : Pos} (ha : PE X a (TEo G W f)) (hg : PG X tg (TGo G ix t)) (hs : swapsWithSole [tg] a pos.line X.env = pure false := by rfl) (hw : swappedStores [tg] a X.env = pure none := by rfl)
    (h1 : (assignEach [tg] X.env).map (·.2) = [assign tg X.env] := by rfl) : PS X (.Assign [tg] a pos) (TSo G W (sAsg f t)) :=
  ps_of (ps_asg ha hg hs hw h1) fun E σ H ⟨F, r, e, p⟩ => ⟨F, r, e, Pf.ofR p fun d r1 F1 H1 v _ e1 q p1 => Pf.asg e1 q p1⟩
/-- name = an own value -/
def sAsgX (f : En → R Sl) (i : Nat) : En → Fl := fun r => rF (f r) fun s r1 => .nx (r1.set i s)
theorem tAsgX_of {i : Nat} {f : En → R Sl} (E : Ends) (σ : L2.St) (H : Hp) : TSo G W (sAsgX f i) E σ H → tAsg (TXo G W f) (gName i) E σ H := fun ⟨F, r, e, p⟩ => by
  refine ⟨F, r, e, ?_⟩
  unfold sAsgX rF at p
  cases hf : f r with
  | ok s r1 =>
    rw [hf] at p
    intro F' H' v g e'
    have hl : σ.length = r1.length := e'.init.len
    exact p F' H' _ (g.wide (fun _ z => z) fun x z => g.own x (own_store hl z)) e'.store
  | ex c d r' => rw [hf] at p; exact fun F' H' cls dd g e x => p F' H' σ cls dd g e x
  | st => rw [hf] at p; exact p
theorem ds_setX {X : Cx} {i : Nat} {x : Str} {a : Expr} {f : En → R Sl} {pos pos' : Pos} (hN : X.N.Nodup) (ha : PE X a (TXo G W f)) (hi : X.N[i]? = some x := by rfl) (hx : Loc X.env.scope x := by first | exact Or.inl rfl | exact Or.inr rfl) (hs : swapsWith a (some (.Name x pos')) pos.line X.env = pure false := by rfl)
    (hf : X.fn x = true ∨ X.env.scope.names.lookup x = some .local := by first | exact .inl rfl | exact .inr rfl) : PS X (.Assign [.Name x pos'] a pos) (TSo G W (sAsgX f i)) :=
  ps_of (ps_set hN hi hx ha hs hf) tAsgX_of
/-- name = data -/
def sSet (f : En → R D) (i : Nat) : En → Fl := fun r => rF (f r) fun d r1 => .nx (r1.set i (.vl d))
theorem tSet_of {i : Nat} {f : En → R D} (E : Ends) (σ : L2.St) (H : Hp) : TSo G W (sSet f i) E σ H → tAsg (TEo G W f) (gName i) E σ H := fun ⟨F, r, e, p⟩ =>
  ⟨F, r, e, Pf.ofR p fun d r1 F1 H1 v _ e1 q p1 => p1 F1 H1 _ (Go.refl fun a z => own_val e1.len (own_store e1.len z)) (e1.val q).store⟩
theorem ds_set {X : Cx} {i : Nat} {x : Str} {a : Expr} {f : En → R D} {pos pos' : Pos} (hN : X.N.Nodup) (ha : PE X a (TEo G W f)) (hi : X.N[i]? = some x := by rfl) (hx : Loc X.env.scope x := by first | exact Or.inl rfl | exact Or.inr rfl) (hs : swapsWith a (some (.Name x pos')) pos.line X.env = pure false := by rfl)
    (hf : X.fn x = true ∨ X.env.scope.names.lookup x = some .local := by first | exact .inl rfl | exact .inr rfl) : PS X (.Assign [.Name x pos'] a pos) (TSo G W (sSet f i)) :=
  ps_of (ps_set hN hi hx ha hs hf) tSet_of
end
end DL
set_option maxHeartbeats 4000000
/-! DLd: own lists read and changed; loops, comprehensions. -/
namespace DL
open PySem L2

/-- the list that a name holds, own or not -/
def Sl.items : Sl → Option (List D)
  | .ow ds => some ds
  | .io ds => some ds
  | .fr ds => some ds
  | .vl (.list ds) => some ds
  | _ => none
def Sl.mut : Sl → Option (List D)
  | .ow ds => some ds
  | .io ds => some ds
  | _ => none
def Sl.put (s : Sl) (ds : List D) : Sl := match s with
  | .ow _ => .ow ds
  | .io _ => .io ds
  | s => s
section
variable {G : Gm} {W : WX} {F H F1 H1 : Hp} {σ σ1 : L2.St} {r r1 : En}
theorem SlOk.items {v : Option V} {s : Sl} {ds : List D} (h : SlOk G F H v s) (hs : Sub F H) (e : s.items = some ds) : ∃ p vs, v = some (.ref p) ∧ SqL G.K H p vs ∧ RpL G F vs ds := by
  cases s with
  | no => cases e
  | od _ => cases e
  | ow es => cases e; obtain ⟨p, e1, _, vs, h1, h2⟩ := h; exact ⟨p, vs, e1, SqL.of h1, h2⟩
  | io es => cases e; obtain ⟨e1, _, vs, h1, h2⟩ := h; exact ⟨_, vs, e1, SqL.of h1, h2⟩
  | vl d =>
    cases d with
    | list es =>
      cases e
      obtain ⟨x, e1, q⟩ := h
      cases q with
      | lst h1 h2 => exact ⟨_, _, e1, SqL.of (hs _ _ h1), h2⟩
    | _ => cases e
  | fr es => cases e; obtain ⟨p, vs, e1, h1, h2⟩ := h; exact ⟨p, vs, e1, hs.l h1, h2⟩
theorem SlOk.mut {v : Option V} {s : Sl} {ds : List D} (h : SlOk G F H v s) (e : s.mut = some ds) : ∃ p vs, v = some (.ref p) ∧ F p = none ∧ H p = some (.lst vs) ∧ RpL G F vs ds ∧ s.mine = true := by
  cases s with
  | no => cases e
  | od _ => cases e
  | fr _ => cases e
  | vl _ => cases e
  | ow es => cases e; obtain ⟨p, e1, h0, vs, h1, h2⟩ := h; exact ⟨p, vs, e1, h0, h1, h2, rfl⟩
  | io es => cases e; obtain ⟨e1, h0, vs, h1, h2⟩ := h; exact ⟨_, vs, e1, h0, h1, h2, rfl⟩
/-- a list that a name holds is changed in place -/
theorem Rel.write {i : Nat} {s : Sl} {ds ds' : List D} {p : Addr} {vs' : List V} (h : Rel G F H σ r) (hi : r[i]? = some s) (hm : s.mut = some ds) (hp : σ[i]? = some (some (.ref p))) (q : RpL G F vs' ds') :
    Go F H (oA σ r) F (upd H p (.lst vs')) (oA σ (r.set i (s.put ds'))) ∧ Rel G F (upd H p (.lst vs')) σ (r.set i (s.put ds')) := by
  obtain ⟨p', vs, e1, hF, hH, hv, mine⟩ := (h.slot i s _ hi hp).mut hm
  cases e1
  have hil : i < r.length := (List.getElem?_eq_some_iff.mp hi).1
  have hmine : (s.put ds').mine = true := by cases s <;> first | rfl | cases hm
  have hown : oA σ r p := ⟨i, s, hi, mine, hp⟩
  have own' : ∀ a, oA σ (r.set i (s.put ds')) a → oA σ r a := fun a ⟨j, t, e1, m, e2⟩ => by
    rcases get_set e1 with ⟨a1, b, _⟩ | ⟨_, b⟩
    · subst a1; exact ⟨j, s, hi, mine, e2⟩
    · exact ⟨j, t, b, m, e2⟩
  refine ⟨⟨Sub.refl F, fun a o e => .inl e, fun a o e n _ => ?_, fun a e => .inl (own' a e), fun a e => ?_⟩, ?_⟩
  · rw [upd_ne (fun z => n (by subst z; exact hown))]
    exact e
  · by_cases hb : a = p
    · subst hb; rw [upd_same] at e; cases e
    · rw [upd_ne hb] at e; exact e
  · refine ⟨fun a u e => ?_, h.ntb, ?_, by simp [h.len], fun j t w e1 e2 => ?_, fun j k t u a e1 e2 m1 m2 e3 e4 => ?_⟩
    · rw [upd_ne (ne_of_none e hF)]
      exact h.sub a u e
    · intro c hc
      obtain ⟨ps, a1, a2, a3⟩ := h.tabs c hc
      have n1 : c.1 ≠ p := fun z => by rw [z, hH] at a1; cases a1
      refine ⟨ps, by rw [upd_ne n1]; exact a1, a2, fun pos cv hcv => ?_⟩
      obtain ⟨c0, b1, b2⟩ := a3 pos cv hcv
      have n2 : c0 ≠ p := fun z => by rw [z, hH] at b2; cases b2
      exact ⟨c0, b1, by rw [upd_ne n2]; exact b2⟩
    · rcases get_set e1 with ⟨a1, b, _⟩ | ⟨a1, b⟩
      · subst a1; subst b
        rw [hp] at e2; cases e2
        cases s with
        | no => cases hm
        | od _ => cases hm
        | fr _ => cases hm
        | vl _ => cases hm
        | ow es => exact ⟨p, rfl, hF, vs', upd_same, q⟩
        | io es =>
          obtain ⟨e5, _⟩ := h.slot j _ _ hi hp
          cases e5
          exact ⟨rfl, hF, vs', upd_same, q⟩
      · refine (h.slot j t w b e2).mono (Sub.refl F) fun a m ew => ⟨((h.slot j t w b e2).own m ew).1, fun o e _ => ?_⟩
        have ne : a ≠ p := fun z => a1 (by subst z; subst ew; exact h.apart j i t s a b hi m mine e2 hp)
        rw [upd_ne ne]
        exact e
    · have old : ∀ {m : Nat} {w : Sl}, (r.set i (s.put ds'))[m]? = some w → w.mine = true → ∃ w', r[m]? = some w' ∧ w'.mine = true := fun {m w} e mw => by
        rcases get_set e with ⟨a1, b, _⟩ | ⟨_, b⟩
        · subst a1; exact ⟨s, hi, mine⟩
        · exact ⟨w, b, mw⟩
      obtain ⟨t', b1, c1⟩ := old e1 m1
      obtain ⟨u', b2, c2⟩ := old e2 m2
      exact h.apart j k t' u' a b1 b2 c1 c2 e3 e4

/-! ### own lists read -/
/-- x[e], x a name that holds a list, own or not -/
def ixD (ds : List D) (y : D) : Option D := match y with
  | .int k => atI ds k
  | _ => none
def Sl.has : Option Sl → Bool
  | none => false
  | some .no => false
  | _ => true
theorem Rel.has {i : Nat} (h : Rel G F H σ r) (e : Sl.has r[i]? = true) : ∃ v, σ[i]? = some (some v) := by
  cases hs : r[i]? with
  | none => rw [hs] at e; cases e
  | some s =>
    obtain ⟨v, e1, q⟩ := h.at hs
    cases s with
    | no => rw [hs] at e; cases e
    | vl d => obtain ⟨x, e2, _⟩ := q; subst e2; exact ⟨x, e1⟩
    | fr d => obtain ⟨x, _, e2, _⟩ := q; subst e2; exact ⟨_, e1⟩
    | ow d => obtain ⟨x, e2, _⟩ := q; subst e2; exact ⟨_, e1⟩
    | od d => obtain ⟨x, e2, _⟩ := q; subst e2; exact ⟨_, e1⟩
    | io d => obtain ⟨e2, _⟩ := q; subst e2; exact ⟨_, e1⟩
def Sl.isM : Option Sl → Bool
  | some (.ow _) => true
  | some (.io _) => true
  | _ => false
theorem Rel.isM {i : Nat} (h : Rel G F H σ r) (e : Sl.isM r[i]? = true) : ∃ p vs, σ[i]? = some (some (.ref p)) ∧ H p = some (.lst vs) := by
  cases hs : r[i]? with
  | none => rw [hs] at e; cases e
  | some s =>
    obtain ⟨v, e1, q⟩ := h.at hs
    cases s with
    | ow d => obtain ⟨p, e2, _, vs, h1, _⟩ := q; subst e2; exact ⟨p, vs, e1, h1⟩
    | io d => obtain ⟨e2, _, vs, h1, _⟩ := q; subst e2; exact ⟨_, vs, e1, h1⟩
    | _ => rw [hs] at e; cases e
/-- what the name i holds behind g -/
def eIxO (i : Nat) (g : En → R D) : En → R D := fun r => if Sl.has r[i]? = true then (g r).bind fun y r1 => match r1[i]? with
  | some s => match s.items with
    | some ds => liftO (ixD ds y) r1
    | none => .st
  | none => .st
  else .st
theorem RpLI.atI {K : PySem.W.Frag} {fns : Nat → Option Addr} {F : Hp} {vs : List V} {ds : List D} {k : Int} {d : D} (h : RpLI K fns F vs ds) (e : atI ds k = some d) : ∃ v, atI vs k = some v ∧ RpI K fns F v d := by
  unfold L2.atI at e ⊢
  rw [h.len]
  cases hk : ixN ds.length k with
  | none => rw [hk] at e; cases e
  | some j =>
    rw [hk] at e
    exact h.get e
variable {X : Cx} {a b : Expr} {pos pos2 : Pos} {f g : En → R D}
theorem de_ixO {i : Nat} {x : Str} {p : Pos} (hK : X.K = G.K) (hb : PE X b (TEo G W g)) (hN : X.N[i]? = some x := by rfl) (hv : Vis X.env.scope x := by first | exact Or.inl rfl | exact Or.inr (Or.inl rfl) | exact Or.inr (Or.inr rfl)) (hs : PlainIx b := by exact fun _ _ => rfl)
    (hd : (x == ("__debug__" : Str)) = false := by decide) (hcd : (x == ("__classdict__" : Str)) = false := by decide) : PE X (.Subscript (.Name x p) b pos) (TEo G W (eIxO i g)) :=
  pe_of (pe_ix ix_list (pe_var hN hv hd hcd) hb hs) fun σ H Q ⟨F, r, e, q⟩ => by
    unfold eIxO at q
    by_cases hh : Sl.has r[i]? = true
    case neg => rw [if_neg hh] at q; exact q.elim
    rw [if_pos hh] at q
    obtain ⟨v, hv⟩ := e.has hh
    refine ⟨v, hv, F, r, e, (Pt.bind (rel1 := rV G) q).mono fun w H1 ⟨y, F1, r1, _, e1, q1, p1⟩ => ?_⟩
    cases hs : r1[i]? with
    | none => rw [hs] at p1; exact p1.elim
    | some s =>
      rw [hs] at p1
      cases hds : s.items with
      | none => simp only [hds] at p1; exact p1.elim
      | some ds =>
        simp only [hds] at p1
        obtain ⟨d, hd', k⟩ := liftO_here e1 p1
        obtain ⟨pa, vs, ev, h1, h2⟩ := (e1.slot i s _ hs hv).items e1.sub hds
        cases ev
        cases q1 with
        | int j =>
          obtain ⟨z, hz, qz⟩ := h2.atI hd'
          exact ⟨pa, vs, j, z, rfl, rfl, by rw [hK]; exact h1, hz, k _ _ _ (Ext.refl _ _) qz⟩
        | _ => cases hd'
/-- len(x) -/
def eLenO (i : Nat) : En → R D := fun r => match r[i]? with
  | some s => match s.items with
    | some ds => .ok (.int ds.length) r
    | none => .st
  | none => .st
theorem de_lenO {i : Nat} {x : Str} {p p2 : Pos} (hK : X.K = G.K) (hm : X.mg "len" = none) (hv0 : bootBuiltins "len" = some (.builtin "len")) (hN : X.N[i]? = some x := by rfl) (hv : Vis X.env.scope x := by first | exact Or.inl rfl | exact Or.inr (Or.inl rfl) | exact Or.inr (Or.inr rfl)) (hg : Gl X "len" := by rfl)
    (hd : (x == ("__debug__" : Str)) = false := by decide) (hcd : (x == ("__classdict__" : Str)) = false := by decide) : PE X (.Call (.Name "len" p2) [.Name x p] [] pos) (TEo G W (eLenO i)) :=
  pe_of (pe_callB call_len_seq hg hm hv0 (pa_cons (pe_var hN hv hd hcd) pa_nil)) fun σ H Q ⟨F, r, e, q⟩ => by
    unfold eLenO at q
    cases hs : r[i]? with
    | none => rw [hs] at q; exact q.elim
    | some s =>
      rw [hs] at q
      cases hds : s.items with
      | none => simp only [hds] at q; exact q.elim
      | some ds =>
        simp only [hds] at q
        obtain ⟨v, e1, ok⟩ := e.at hs
        obtain ⟨pa, vs, ev, h1, h2⟩ := ok.items e.sub hds
        subst ev
        refine ⟨_, e1, pa, vs, rfl, .inl (by rw [hK]; exact h1), ?_⟩
        rw [h2.len]
        exact Pt.here q e (Ext.refl _ _) (.int _)
/-- a name's value, frozen from now on -/
def eVF (i : Nat) : En → R D := fun r => match r[i]? with
  | some (.vl d) => .ok d r
  | some (.ow ds) => .ok (.list ds) (r.set i (.vl (.list ds)))
  | _ => .st
theorem set_id {α : Type} : ∀ {l : List α} {i : Nat} {x : α}, l[i]? = some x → l.set i x = l
  | [], _, _, h => by simp at h
  | a :: l, 0, x, h => by simp at h; subst h; rfl
  | a :: l, i + 1, x, h => by
    have := set_id (l := l) (i := i) (x := x) (by simpa using h)
    simp [this]
/-- a name's own value is handed on: the name is done with -/
theorem Rel.move {i : Nat} {s : Sl} {v : V} (h : Rel G F H σ r) (hi : r[i]? = some s) (hv : σ[i]? = some (some v)) : Rel G F H (σ ++ [some v]) (r.set i .no ++ [s]) ∧ ∀ a, oA (σ ++ [some v]) (r.set i .no ++ [s]) a → oA σ r a := by
  have h1 : Rel G F H σ (r.set i .no) := by
    refine ⟨h.sub, h.ntb, h.tabs, by simp [h.len], fun j t w e1 e2 => ?_, fun j k t u a e1 e2 m1 m2 e3 e4 => ?_⟩
    · rcases get_set e1 with ⟨_, b, _⟩ | ⟨_, b⟩
      · subst b; trivial
      · exact h.slot j t w b e2
    · rcases get_set e1 with ⟨_, b, _⟩ | ⟨_, b⟩
      · subst b; cases m1
      · rcases get_set e2 with ⟨_, b2, _⟩ | ⟨_, b2⟩
        · subst b2; cases m2
        · exact h.apart j k t u a b b2 m1 m2 e3 e4
  have sub : ∀ a, oA σ (r.set i .no) a → oA σ r a := fun a ⟨j, t, e1, m, e2⟩ => by
    rcases get_set e1 with ⟨_, b, _⟩ | ⟨_, b⟩
    · subst b; cases m
    · exact ⟨j, t, b, m, e2⟩
  refine ⟨h1.snoc (h.slot i s _ hi hv) fun p m ev z => ?_, fun a z => ?_⟩
  · obtain ⟨j, t, e1, m2, e2⟩ := z
    rcases get_set e1 with ⟨_, b, _⟩ | ⟨n, b⟩
    · subst b; cases m2
    · subst ev
      exact n (h.apart j i t s p b hi m2 m e2 hv)
  · rcases own_snoc (by rw [List.length_set]; exact h.len) z with z | ⟨m, ev⟩
    · exact sub a z
    · subst ev
      exact ⟨i, s, hi, m, hv⟩
theorem de_varF (i : Nat) {x : Str} {pos : Pos} (hN : X.N[i]? = some x := by rfl) (hv : Vis X.env.scope x := by first | exact Or.inl rfl | exact Or.inr (Or.inl rfl) | exact Or.inr (Or.inr rfl)) (hd : (x == ("__debug__" : Str)) = false := by decide)
    (hcd : (x == ("__classdict__" : Str)) = false := by decide) : PE X (.Name x pos) (TEo G W (eVF i)) :=
  pe_of (pe_var hN hv hd hcd) fun σ H Q ⟨F, r, e, p⟩ => by
    unfold eVF at p
    split at p
    · rename_i d hr
      obtain ⟨v, e1, x, e2, q⟩ := e.at hr
      subst e2
      exact ⟨x, e1, Pt.here p e (Ext.refl _ _) q⟩
    · rename_i ds hr
      obtain ⟨v, e1, ok⟩ := e.at hr
      have ok' := ok
      obtain ⟨pa, e2, _⟩ := ok'
      subst e2
      obtain ⟨m1, m2⟩ := e.move hr e1
      obtain ⟨F2, s2, n2, e3, q3⟩ := m1.frz
      refine ⟨_, e1, ?_⟩
      have e4 := (e3.val q3).store (i := i)
      rw [List.set_set] at e4
      rw [set_id e1] at e4
      have q5 : Rp G F2 (.ref pa) (.list ds) := q3
      refine p F2 H (.ref pa) ⟨s2, fun a o z => ?_, fun a o z _ _ => z, fun a z => .inl ?_, fun a z => z⟩ e4 q5
      · rcases n2 a o z with z | z
        · exact .inl z
        · cases z
          exact .inr (.inr ⟨i, .ow ds, hr, rfl, e1⟩)
      · obtain ⟨j, t, f1, m, f2⟩ := z
        rcases get_set f1 with ⟨_, b, _⟩ | ⟨_, b⟩
        · subst b; cases m
        · exact ⟨j, t, b, m, f2⟩
    · exact p.elim
def sRetV (i : Nat) : En → Fl := fun r => match r[i]? with
  | some .no => .st
  | some s => .rt s (r.set i .no)
  | none => .st
theorem ds_retV (i : Nat) {x : Str} {pos : Pos} (hN : X.N[i]? = some x := by rfl) (hv : Vis X.env.scope x := by first | exact Or.inl rfl | exact Or.inr (Or.inl rfl) | exact Or.inr (Or.inr rfl)) (hd : (x == ("__debug__" : Str)) = false := by decide)
    (hcd : (x == ("__classdict__" : Str)) = false := by decide) : PS X (.Return (some (.Name x pos)) pos2) (TSo G W (sRetV i)) :=
  ps_of (ps_ret (pe_var hN hv hd hcd)) fun E σ H ⟨F, r, e, p⟩ => by
    unfold sRetV at p
    split at p
    · exact p.elim
    · rename_i s hns hr
      have hh : Sl.has r[i]? = true := by rw [hr]; cases s <;> first | rfl | exact absurd rfl hns
      obtain ⟨v, e1⟩ := e.has hh
      obtain ⟨m1, m2⟩ := e.move hr e1
      exact ⟨v, e1, p F H σ v (Go.refl m2) m1⟩
    · exact p.elim

/-! ### own lists changed -/
def sApp (i : Nat) (f : En → R D) : En → Fl := fun r => if Sl.isM r[i]? = true then rF (f r) fun d r1 => match r1[i]? with
  | some s => match s.mut with
    | some ds => if ds.length < 1000000 then .nx (r1.set i (s.put (ds ++ [d]))) else .st
    | none => .st
  | none => .st
  else .st
theorem small6 {n : Nat} (h : n ≤ 1000000) : n ≤ sizeLine := Nat.le_trans h (by decide)
theorem small6' {n : Nat} (h : n < 1000000) : n < sizeLine := Nat.lt_of_lt_of_le h (by decide)
theorem ds_app {i : Nat} {x : Str} {p apos cpos ppos : Pos} (hK : X.K = G.K) (ha : PE X a (TEo G W f)) (hN : X.N[i]? = some x := by rfl) (hv : Vis X.env.scope x := by first | exact Or.inl rfl | exact Or.inr (Or.inl rfl) | exact Or.inr (Or.inr rfl))
    (hbase : attributeBase (.Name x p) "append" X.env (eval (.Name x p) X.env) = eval (.Name x p) X.env := by rfl)
    (hfew : ((backTo cpos (starEach [a] X.env)).all (fun x => !x.1) && (backToKw cpos (keywordEach [] X.env)).all (fun x => x.1.isSome)
      && decide ([a].length + ([] : List Keyword).length + (if ([] : List Keyword).isEmpty then 0 else 1) < 30)) = true := by rfl)
    (hline : (apos.endLine == cpos.line) = true := by rfl) (hs : starEach [a] X.env = (false, eval a X.env) :: starEach [] X.env := by rfl) (hplain : (backTo cpos (starEach [] X.env)).any (·.1) = false := by rfl)
    (hsw : swapsWith (.Call (.Attribute (.Name x p) "append" apos) [a] [] cpos) none ppos.line X.env = pure false := by rfl)
    (hd : (x == ("__debug__" : Str)) = false := by decide) (hcd : (x == ("__classdict__" : Str)) = false := by decide) : PS X (.Expr (.Call (.Attribute (.Name x p) "append" apos) [a] [] cpos) ppos) (TSo G W (sApp i f)) :=
  ps_of (ps_expr (pe_bm PySem.F.plainAttrs_list PySem.F.slot_list_append PySem.F.type_list_append mt_append (pe_var hN hv hd hcd) (pa_cons ha pa_nil hs) hbase hfew hline hs hplain) hsw) fun E σ H ⟨F, r, e, q⟩ => by
    unfold sApp at q
    by_cases hh : Sl.isM r[i]? = true
    case neg => rw [if_neg hh] at q; exact q.elim
    rw [if_pos hh] at q
    obtain ⟨pa, vs0, hv, hp0⟩ := e.isM hh
    refine ⟨_, hv, .inl ⟨rfl, _, SqL.of hp0⟩, F, r, e, ?_⟩
    refine Pf.ofR q fun d r1 F1 H1 w _ e1 q1 p1 => ?_
    cases hs : r1[i]? with
    | none => rw [hs] at p1; exact p1.elim
    | some s =>
      rw [hs] at p1
      cases hds : s.mut with
      | none => simp only [hds] at p1; exact p1.elim
      | some ds =>
        simp only [hds] at p1
        split at p1
        · rename_i hz
          obtain ⟨pa, vs, ev, h1, h2, h3, _⟩ := (e1.slot i s _ hs hv).mut hds
          cases ev
          obtain ⟨g, e2⟩ := e1.write hs hds hv (h3.append (.cons q1 .nil))
          exact ⟨pa, vs, w, rfl, rfl, h2, small6' (by rw [h3.len]; exact hz), p1 _ _ _ g e2⟩
        · exact p1.elim
/-- x.extend(e), e a new list -/
def sExt (i : Nat) (f : En → R Sl) : En → Fl := fun r => if Sl.isM r[i]? = true then rF (f r) fun s' r1 => match s' with
  | .ow es => match r1[i]? with
    | some s => match s.mut with
      | some ds => if ds.length + es.length ≤ 1000000 then .nx (r1.set i (s.put (ds ++ es))) else .st
      | none => .st
    | none => .st
  | _ => .st
  else .st
theorem ds_ext {i : Nat} {x : Str} {fx : En → R Sl} {p apos cpos ppos : Pos} (hK : X.K = G.K) (ha : PE X a (TXo G W fx)) (hN : X.N[i]? = some x := by rfl) (hv : Vis X.env.scope x := by first | exact Or.inl rfl | exact Or.inr (Or.inl rfl) | exact Or.inr (Or.inr rfl))
    (hbase : attributeBase (.Name x p) "extend" X.env (eval (.Name x p) X.env) = eval (.Name x p) X.env := by rfl)
    (hfew : ((backTo cpos (starEach [a] X.env)).all (fun x => !x.1) && (backToKw cpos (keywordEach [] X.env)).all (fun x => x.1.isSome)
      && decide ([a].length + ([] : List Keyword).length + (if ([] : List Keyword).isEmpty then 0 else 1) < 30)) = true := by rfl)
    (hline : (apos.endLine == cpos.line) = true := by rfl) (hs : starEach [a] X.env = (false, eval a X.env) :: starEach [] X.env := by rfl) (hplain : (backTo cpos (starEach [] X.env)).any (·.1) = false := by rfl)
    (hsw : swapsWith (.Call (.Attribute (.Name x p) "extend" apos) [a] [] cpos) none ppos.line X.env = pure false := by rfl)
    (hd : (x == ("__debug__" : Str)) = false := by decide) (hcd : (x == ("__classdict__" : Str)) = false := by decide) : PS X (.Expr (.Call (.Attribute (.Name x p) "extend" apos) [a] [] cpos) ppos) (TSo G W (sExt i fx)) :=
  ps_of (ps_expr (pe_bm PySem.F.plainAttrs_list PySem.F.slot_list_extend PySem.F.type_list_extend mt_extend (pe_var hN hv hd hcd) (pa_cons ha pa_nil hs) hbase hfew hline hs hplain) hsw) fun E σ H ⟨F, r, e, q⟩ => by
    unfold sExt at q
    by_cases hh : Sl.isM r[i]? = true
    case neg => rw [if_neg hh] at q; exact q.elim
    rw [if_pos hh] at q
    obtain ⟨pa, vs0, hv, hp0⟩ := e.isM hh
    refine ⟨_, hv, .inl ⟨rfl, _, SqL.of hp0⟩, F, r, e, ?_⟩
    unfold rF at q
    cases hf : fx r with
    | st => rw [hf] at q; exact q.elim
    | ex c d r' => rw [hf] at q; exact fun F' H' cls dd g e x => q F' H' σ cls dd g e x
    | ok s' r1 =>
      rw [hf] at q
      intro F1 H1 w g1 e1
      cases s' with
      | ow es =>
        simp only at q
        cases hs : r1[i]? with
        | none => rw [hs] at q; exact q.elim
        | some s =>
          rw [hs] at q
          cases hds : s.mut with
          | none => simp only [hds] at q; exact q.elim
          | some ds =>
            simp only [hds] at q
            split at q
            · rename_i hz
              obtain ⟨pb, ev, hFb, ws, hHb, hwb⟩ := e1.last
              cases ev
              have e0 := e1.init
              obtain ⟨pa, vs, ev, h1, h2, h3, _⟩ := (e0.slot i s _ hs hv).mut hds
              cases ev
              obtain ⟨g, e2⟩ := e0.write hs hds hv (h3.append hwb)
              refine ⟨pa, pb, vs, ws, rfl, rfl, h2, hHb, small6 (by rw [h3.len, hwb.len]; exact hz), q _ _ _ (Go.trans ?_ g) e2⟩
              exact g1.wide (fun _ z => z) fun a z => g1.own a (own_init (by rw [e0.len]) a z)
            · exact q.elim
      | _ => exact q.elim
/-- x[i] = e -/
def sSetIx (i : Nat) (fe fi : En → R D) : En → Fl := fun r => rF (fe r) fun d r1 => if Sl.isM r1[i]? = true then rF (fi r1) fun y r2 => match r2[i]? with
  | some s => match s.mut with
    | some ds => match y with
      | .int k => match ixN ds.length k with
        | some j => .nx (r2.set i (s.put (ds.set j d)))
        | none => .st
      | _ => .st
    | none => .st
  | none => .st
  else .st
theorem ds_setIx {i : Nat} {x : Str} {p spos : Pos} (hK : X.K = G.K) (ha : PE X a (TEo G W f)) (hb : PE X b (TEo G W g)) (hN : X.N[i]? = some x := by rfl) (hv : Vis X.env.scope x := by first | exact Or.inl rfl | exact Or.inr (Or.inl rfl) | exact Or.inr (Or.inr rfl))
    (hs : swapsWithSole [.Subscript (.Name x p) b spos] a pos.line X.env = pure false := by rfl) (hw : swappedStores [.Subscript (.Name x p) b spos] a X.env = pure none := by rfl)
    (h1 : (assignEach [.Subscript (.Name x p) b spos] X.env).map (·.2) = [assign (.Subscript (.Name x p) b spos) X.env] := by rfl)
    (hasg : ∀ v, assign (.Subscript (.Name x p) b spos) X.env v = (do
      let ov ← holding [v] (eval (.Name x p) X.env)
      let iv ← holding [v, ov] (eval b X.env)
      standAt spos
      holding [v, ov, iv] (setItem ov iv v)
      release [v, ov, iv] []) := by intro _; rfl)
    (hd : (x == ("__debug__" : Str)) = false := by decide) (hcd : (x == ("__classdict__" : Str)) = false := by decide) : PS X (.Assign [.Subscript (.Name x p) b spos] a pos) (TSo G W (sSetIx i f g)) :=
  ps_of (ps_asg ha (pg_sub (pe_var hN hv hd hcd) hb set_list hasg) hs hw h1) fun E σ H ⟨F, r, e, q⟩ => ⟨F, r, e, Pf.ofR q fun d r1 F1 H1 w s1 e1 q1 p1 => by
    by_cases hh : Sl.isM r1[i]? = true
    case neg => rw [if_neg hh] at p1; exact p1.elim
    rw [if_pos hh] at p1
    obtain ⟨pa, vs0, hv, hp0⟩ := e1.isM hh
    refine ⟨_, hv, F1, r1, e1, Pf.ofR p1 fun y r2 F2 H2 u s2 e2 q2 p2 => ?_⟩
    cases hs : r2[i]? with
    | none => rw [hs] at p2; exact p2.elim
    | some s =>
      rw [hs] at p2
      cases hds : s.mut with
      | none => simp only [hds] at p2; exact p2.elim
      | some ds =>
        simp only [hds] at p2
        cases q2 with
        | int k =>
          simp only at p2
          cases hk : ixN ds.length k with
          | none => rw [hk] at p2; exact p2.elim
          | some j =>
            rw [hk] at p2
            obtain ⟨pa, vs, ev, h1, h2, h3, _⟩ := (e2.slot i s _ hs hv).mut hds
            cases ev
            obtain ⟨g, e3⟩ := e2.write hs hds hv (h3.set (q1.mono s2) j)
            exact ⟨pa, vs, k, j, rfl, rfl, h2, by rw [h3.len]; exact hk, p2 _ _ _ g e3⟩
        | _ => exact p2.elim⟩
end

/-! ### loops -/
section
variable {G : Gm} {W : WX} {F H F1 H1 : Hp} {σ σ1 : L2.St} {r r1 : En} {X : Cx}
def whileD (c : En → R Bool) (f : En → Fl) : Nat → En → Fl
  | 0, _ => .st
  | n + 1, r => rF (c r) fun k r1 => if k = true then (match f r1 with
      | .nx r2 => whileD c f n r2
      | .ct r2 => whileD c f n r2
      | .bk r2 => .nx r2
      | o => o) else .nx r1
theorem ds_while {c : Expr} {body : List Stmt} {fc : En → R Bool} {fb : En → Fl} {pos : Pos} (n : Nat) (hp : PassesOwn (model X.prog X.w) X.A X.env X.xe) (hc : PT X c (TTo G W fc)) (hb : PSs X body (TSo G W fb)) : PS X (.While c body [] pos) (TSo G W (whileD fc fb n)) :=
  ps_of (ps_while hp hc hb) fun E σ H ⟨F, r, e, p⟩ => by
    refine ⟨fun m σ H => ∃ F r, Rel G F H σ r ∧ Pf G W (whileD fc fb m r) F H σ r E, ⟨n, F, r, e, p⟩, ?_⟩
    rintro m σ H ⟨F, r, e, p⟩
    cases m with
    | zero => exact p.elim
    | succ m =>
      refine ⟨F, r, e, Pf.ofR p fun k r1 F1 H1 b _ e1 q p1 => ?_⟩
      have q : b = k := q
      subst q
      cases b with
      | false => exact p1 F1 H1 σ (Go.refl fun _ z => z) e1
      | true =>
        rw [if_pos rfl] at p1 ⊢
        refine ⟨fun σ' H' => ∃ F r, Rel G F H' σ' r ∧ Pf G W (whileD fc fb m r) F H' σ' r E, fun σ' H' z => ⟨m, Nat.lt_succ_self m, z⟩, F1, r1, e1, ?_⟩
        cases hf : fb r1 with
        | nx r2 => rw [hf] at p1; exact fun F' H' σ' g e' => ⟨F', r2, e', Pf.from g p1⟩
        | ct r2 => rw [hf] at p1; exact fun F' H' σ' g e' => ⟨F', r2, e', Pf.from g p1⟩
        | bk r2 => rw [hf] at p1; exact p1
        | rt s r2 => rw [hf] at p1; exact p1
        | ex c d r2 => rw [hf] at p1; exact p1
        | st => rw [hf] at p1; exact p1.elim
/-- what is walked gives the data ds, one by one, as long as F0 is frozen -/
structure Yl (G : Gm) (J : It) (F0 : Hp) (ds : List D) : Prop where
  go : ∀ i F H, Sub F0 F → Sub F H → i < ds.length → J.go i H ∧ ∀ x H', J.yld i H x H' → ∃ F' d, ds[i]? = some d ∧ Ext F H F' H' ∧ Rp G F' x d
  stop : ∀ i F H, Sub F0 F → Sub F H → ds.length = i → J.stop i H
def TIo (G : Gm) (W : WX) (f : En → R (List D)) : TI := fun σ H Q => ∃ F r, Rel G F H σ r ∧ match f r with
  | .ok ds r' => ∀ F' H' J, Go F H (oA σ r) F' H' (oA σ r') → Rel G F' H' σ r' → Yl G J F' ds → Q J H'
  | .ex c d r' => ∀ F' H' cls dd, Go F H (oA σ r) F' H' (oA σ r') → Rel G F' H' σ r' → XOk G F' H' c d cls dd → W cls dd σ H'
  | .st => False
theorem pi_of {tg e : Expr} {t t' : TI} (h : PI X tg e t) (k : ∀ σ H Q, t' σ H Q → t σ H Q) : PI X tg e t' := ⟨fun pins s σ H Q I q => h.run pins s σ H Q I (k σ H Q q)⟩
def forD (t : D → En → Option En) (f : En → Fl) : List D → En → Fl
  | [], r => .nx r
  | d :: ds, r => match t d r with
    | none => .st
    | some r1 => match f r1 with
      | .nx r2 => forD t f ds r2
      | .ct r2 => forD t f ds r2
      | .bk r2 => .nx r2
      | o => o
def sFor (it : En → R (List D)) (t : D → En → Option En) (f : En → Fl) : En → Fl := fun r => rF (it r) fun ds r1 => forD t f ds r1
theorem drop_get {α : Type} {l : List α} {i : Nat} {x : α} (h : l[i]? = some x) : l.drop i = x :: l.drop (i + 1) := by
  obtain ⟨hi, e⟩ := List.getElem?_eq_some_iff.mp h
  rw [List.drop_eq_getElem_cons hi, e]
theorem ds_for {tg iter : Expr} {body : List Stmt} {fi : En → R (List D)} {ix : List Nat} {t : D → En → Option En} {fb : En → Fl} {pos : Pos} (hp : PassesOwn (model X.prog X.w) X.A X.env X.xe) (hc : X.calm = true) (hi : PI X tg iter (TIo G W fi)) (hg : PG X tg (TGo G ix t)) (hb : PSs X body (TSo G W fb))
    (hs : ∀ x, foldedSetIterable iter X.env x = pure x := by intro _; rfl) : PS X (.For tg iter body [] pos) (TSo G W (sFor fi t fb)) :=
  ps_of (ps_for hp hc hi hg hb hs) fun E σ H ⟨F, r, e, p⟩ => by
    refine ⟨F, r, e, ?_⟩
    unfold sFor rF at p
    cases hf : fi r with
    | st => rw [hf] at p; exact p
    | ex c d r' => rw [hf] at p; exact fun F' H' cls dd g e x => p F' H' σ cls dd g e x
    | ok ds r0 =>
      rw [hf] at p
      intro F0 H0 J g0 e0 y
      have p := Pf.from g0 p
      refine ⟨fun i m σ' H' => m + i = ds.length ∧ ∃ F' r', Sub F0 F' ∧ Rel G F' H' σ' r' ∧ Pf G W (forD t fb (ds.drop i) r') F' H' σ' r' E, ⟨ds.length, rfl, F0, r0, Sub.refl _, e0, p⟩, ?_⟩
      rintro i m σ' H' ⟨hm, F', r', s', e', p'⟩
      by_cases hlt : i < ds.length
      · obtain ⟨go, yl⟩ := y.go i F' H' s' e'.sub hlt
        refine .inr ⟨go, fun σ2 H2 => ∃ F2 r2, Sub F0 F2 ∧ Rel G F2 H2 σ2 r2 ∧ Pf G W (forD t fb (ds.drop (i + 1)) r2) F2 H2 σ2 r2 E, fun σ2 H2 z => ⟨m - 1, by omega, by omega, z⟩, fun x H2 hy => ?_⟩
        obtain ⟨F2, d, hd, x2, q2⟩ := yl x H2 hy
        rw [drop_get hd] at p'
        have e2 := e'.ext x2
        have p' := Pf.from (r1 := r') (x2.goO fun _ z => z) p'
        refine ⟨F2, r', d, e2, q2, ?_⟩
        unfold forD at p'
        cases ht : t d r' with
        | none => rw [ht] at p'; exact p'.elim
        | some r3 =>
          rw [ht] at p'
          refine ⟨r3, rfl, fun σ3 e3 o3 _ => ⟨F2, r3, e3, ?_⟩⟩
          have p' := Pf.from (Go.refl o3) p'
          have s2 := s'.trans x2.go.sub
          cases hb : fb r3 with
          | nx r4 => simp only [hb] at p'; exact fun F4 H4 σ4 g4 e4 => ⟨F4, r4, s2.trans g4.sub, e4, Pf.from g4 p'⟩
          | ct r4 => simp only [hb] at p'; exact fun F4 H4 σ4 g4 e4 => ⟨F4, r4, s2.trans g4.sub, e4, Pf.from g4 p'⟩
          | bk r4 => simp only [hb] at p'; exact p'
          | rt s r4 => simp only [hb] at p'; exact p'
          | ex c d r4 => simp only [hb] at p'; exact p'
          | st => simp only [hb] at p'; exact p'.elim
      · have hi : ds.length = i := by omega
        refine .inl ⟨y.stop i F' H' s' e'.sub hi, ?_⟩
        rw [List.drop_eq_nil_of_le (by omega)] at p'
        exact p' F' H' σ' (Go.refl fun _ z => z) e'
end
end DL
set_option maxHeartbeats 4000000
/-! DLe: x op= e, x[i] op= e; comprehensions; what is walked. -/
namespace DL
open PySem L2
section
variable {G : Gm} {W : WX} {F H F1 H1 : Hp} {σ σ1 : L2.St} {r r1 : En} {X : Cx} {a b : Expr} {pos : Pos} {f g : En → R D}
/-- a list's item, by values -/
theorem get_listV : PGet X (rIxL X.K) := by
  intro pins s σ H o i ov iv Q I ro ri h
  obtain ⟨p, xs, k, z, rfl, rfl, hq, he, q⟩ := h
  cases ro
  obtain ⟨t, rfl⟩ := ri
  obtain ⟨its, rr, pl, hz⟩ := I.list hq
  obtain ⟨j, e1, e2, e3, e4, e5⟩ := atI_get he
  obtain ⟨w, ew, rw'⟩ := rr.get e2
  have len := rr.length
  have big : (sizeLine : Nat) < 2 ^ 63 := line63
  by_cases up : 0 ≤ k
  · have ej : k.toNat = j := by
      rw [seqIndex_of up e5] at e1
      exact Option.some.inj e1
    exact wpAny_getItem_list pl.isList up (by omega) (by rw [ej]; simpa using ew) ⟨z, H, I, rw', q⟩
  · have ej : (k + (its.toArray.size : Int)).toNat = j := by
      rw [PySem.seqIndex_neg (by omega) e4] at e1
      rw [List.size_toArray, ← len]
      exact Option.some.inj e1
    exact wpAny_getItem_list_neg pl.isList (by omega) (by rw [List.size_toArray] <;> omega) (by omega) (by rw [ej]; simpa using ew) ⟨z, H, I, rw', q⟩
/-- an operation in place, by values -/
def IpD (G : Gm) (t : TIp) (o : D → D → Option D) : Prop := OpD G t o
def sAug (i : Nat) (o : D → D → Option D) (f : En → R D) : En → Fl := fun r => match r[i]? with
  | some (.vl x) => rF (f r) fun y r1 => match o x y with
    | some d => .nx (r1.set i (.vl d))
    | none => .st
  | _ => .st
theorem ds_aug {i : Nat} {x : Str} {op : Operator} {t : TIp} {o : D → D → Option D} {pos' : Pos} (hN : X.N.Nodup) (ho : PIp X op t) (hd : IpD G t o) (ha : PE X a (TEo G W f)) (hi : X.N[i]? = some x := by rfl) (hx : Loc X.env.scope x := by first | exact Or.inl rfl | exact Or.inr rfl)
    (hf : X.fn x = true ∨ X.env.scope.names.lookup x = some .local := by first | exact .inl rfl | exact .inr rfl) : PS X (.AugAssign (.Name x pos') op a pos) (TSo G W (sAug i o f)) :=
  ps_of (ps_aug hN hi hx ha ho hf) fun E σ H ⟨F, r, e, p⟩ => by
    unfold sAug at p
    split at p
    · rename_i d0 hr
      obtain ⟨v, e1, x, e2, q⟩ := e.at hr
      subst e2
      refine ⟨x, e1, F, r, e, Pf.ofR p fun y r1 F1 H1 w s1 e3 q1 p1 => ?_⟩
      cases ho : o d0 y with
      | none => rw [ho] at p1; exact p1.elim
      | some d =>
        rw [ho] at p1
        refine hd d0 y d F1 H1 x w _ ho e3.sub (q.mono s1) q1 fun F2 H2 z x2 q2 => ?_
        have e4 := (e3.ext x2)
        exact p1 F2 H2 _ ((x2.goO fun _ z => z).wide (fun _ z => z) fun a z => .inl (own_val e4.len (own_store e4.len z))) (e4.val q2).store
    · exact p.elim
/-- x[i] op= e -/
def sAugIx (i : Nat) (gi : En → R D) (o : D → D → Option D) (f : En → R D) : En → Fl := fun r => if Sl.isM r[i]? = true then rF (gi r) fun y r1 => match r1[i]? with
  | some s1 => match s1.items with
    | some ds1 => match ixD ds1 y with
      | some x => rF (f r1) fun z r2 => match r2[i]? with
        | some s => match s.mut with
          | some ds => match y with
            | .int k => match ixN ds.length k with
              | some j => match o x z with
                | some d => .nx (r2.set i (s.put (ds.set j d)))
                | none => .st
              | none => .st
            | _ => .st
          | none => .st
        | none => .st
      | none => .st
    | none => .st
  | none => .st
  else .st
theorem ds_augIx {i : Nat} {x : Str} {op : Operator} {t : TIp} {o : D → D → Option D} {p spos : Pos} (hK : X.K = G.K) (ho : PIp X op t) (hd : IpD G t o) (hb : PE X b (TEo G W g)) (ha : PE X a (TEo G W f)) (hN : X.N[i]? = some x := by rfl) (hv : Vis X.env.scope x := by first | exact Or.inl rfl | exact Or.inr (Or.inl rfl) | exact Or.inr (Or.inr rfl))
    (hst : ∀ ov iv new, augStore b ov iv new = (do holding [new, ov, iv] (setItem ov iv new); release [new, ov, iv] []; pure .next) := by intros; rfl)
    (hdb : (x == ("__debug__" : Str)) = false := by decide) (hcd : (x == ("__classdict__" : Str)) = false := by decide) : PS X (.AugAssign (.Subscript (.Name x p) b spos) op a pos) (TSo G W (sAugIx i g o f)) :=
  ps_of (ps_augS (pe_var hN hv hdb hcd) hb get_listV ha ho set_list hst) fun E σ H ⟨F, r, e, q⟩ => by
    unfold sAugIx at q
    by_cases hh : Sl.isM r[i]? = true
    case neg => rw [if_neg hh] at q; exact q.elim
    rw [if_pos hh] at q
    obtain ⟨pa, vs0, hv, hp0⟩ := e.isM hh
    refine ⟨_, hv, F, r, e, Pf.ofR q fun y r1 F1 H1 w s1 e1 q1 p1 => ?_⟩
    cases hs1 : r1[i]? with
    | none => rw [hs1] at p1; exact p1.elim
    | some t1 =>
      rw [hs1] at p1
      cases hds1 : t1.items with
      | none => simp only [hds1] at p1; exact p1.elim
      | some ds1 =>
        simp only [hds1] at p1
        cases hx : ixD ds1 y with
        | none => rw [hx] at p1; exact p1.elim
        | some x1 =>
          rw [hx] at p1
          obtain ⟨pb, vs1, ev, h1, h2⟩ := (e1.slot i t1 _ hs1 hv).items e1.sub hds1
          cases ev
          cases q1 with
          | int k =>
            obtain ⟨xv, hxv, qx⟩ := h2.atI hx
            refine ⟨pa, vs1, k, xv, rfl, rfl, by rw [hK]; exact h1, hxv, F1, r1, e1, Pf.ofR p1 fun z r2 F2 H2 zv s2 e2 q2 p2 => ?_⟩
            cases hs2 : r2[i]? with
            | none => rw [hs2] at p2; exact p2.elim
            | some t2 =>
              rw [hs2] at p2
              cases hds2 : t2.mut with
              | none => simp only [hds2] at p2; exact p2.elim
              | some ds =>
                simp only [hds2] at p2
                cases hk : ixN ds.length k with
                | none => rw [hk] at p2; exact p2.elim
                | some j =>
                  rw [hk] at p2
                  cases hod : o x1 z with
                  | none => simp only [hod] at p2; exact p2.elim
                  | some d =>
                    simp only [hod] at p2
                    refine hd x1 z d F2 H2 xv zv _ hod e2.sub (qx.mono s2) q2 fun F3 H3 zz x3 q3 => ?_
                    have e3 := e2.ext x3
                    obtain ⟨pc, vs, ev, h1, h2, h3, _⟩ := (e3.slot i t2 _ hs2 hv).mut hds2
                    cases ev
                    obtain ⟨g, e4⟩ := e3.write hs2 hds2 hv (h3.set q3 j)
                    exact ⟨pa, vs, k, j, rfl, rfl, h2, by rw [h3.len]; exact hk, p2 _ _ _ ((x3.goO fun _ z => z).trans g) e4⟩
          | _ => cases hx

/-! ### comprehensions -/
def wipeD (r : En) : List Nat → En
  | [] => r
  | v :: vs => (wipeD r vs).set v .no
/-- the names of the comprehension hold again what they held -/
def backD (r1 r2 : En) : List Nat → En
  | [] => r2
  | v :: vs => (backD r1 r2 vs).set v (r1.getD v .no)
theorem wipeD_length (r : En) : ∀ vs, (wipeD r vs).length = r.length
  | [] => rfl
  | v :: vs => by unfold wipeD; rw [List.length_set, wipeD_length r vs]
theorem backD_length (r1 r2 : En) : ∀ vs, (backD r1 r2 vs).length = r2.length
  | [] => rfl
  | v :: vs => by unfold backD; rw [List.length_set, backD_length r1 r2 vs]
theorem wipeD_get {r : En} {i : Nat} {s : Sl} : ∀ {vs : List Nat}, (wipeD r vs)[i]? = some s → (i ∈ vs ∧ s = .no) ∨ (i ∉ vs ∧ r[i]? = some s)
  | [], h => .inr ⟨by simp, h⟩
  | v :: vs, h => by
    unfold wipeD at h
    rcases get_set h with ⟨a, b, _⟩ | ⟨a, b⟩
    · exact .inl ⟨by rw [a]; exact List.mem_cons_self, b⟩
    · rcases wipeD_get b with ⟨c, d⟩ | ⟨c, d⟩
      · exact .inl ⟨List.mem_cons_of_mem _ c, d⟩
      · exact .inr ⟨by simp [a, c], d⟩
theorem wipe_get {σ : L2.St} {i : Nat} {v : V} : ∀ {vs : List Nat}, (wipe σ vs)[i]? = some (some v) → i ∉ vs ∧ σ[i]? = some (some v)
  | vs, h => let ⟨a, b⟩ := wipe_some h; ⟨b, a⟩
theorem wipe_out' {σ : L2.St} {i : Nat} {vs : List Nat} (h : i ∉ vs) : (wipe σ vs)[i]? = σ[i]? := wipe_out h
theorem backD_get {r1 r2 : En} {i : Nat} {s : Sl} (hl : r1.length = r2.length) : ∀ {vs : List Nat}, (backD r1 r2 vs)[i]? = some s → (i ∈ vs ∧ r1[i]? = some s) ∨ (i ∉ vs ∧ r2[i]? = some s)
  | [], h => .inr ⟨by simp, h⟩
  | v :: vs, h => by
    unfold backD at h
    rcases get_set h with ⟨a, b, c⟩ | ⟨a, b⟩
    · rw [backD_length] at c
      refine .inl ⟨by rw [a]; exact List.mem_cons_self, ?_⟩
      rw [a, b]
      rw [List.getElem?_eq_getElem (by rw [hl]; exact c), List.getD_eq_getElem?_getD, List.getElem?_eq_getElem (by rw [hl]; exact c)] <;> rfl
    · rcases backD_get hl b with ⟨c, d⟩ | ⟨c, d⟩
      · exact .inl ⟨List.mem_cons_of_mem _ c, d⟩
      · exact .inr ⟨by simp [a, c], d⟩
theorem Rel.wipe (h : Rel G F H σ r) (vs : List Nat) : Rel G F H (L2.wipe σ vs) (wipeD r vs) ∧ ∀ a, oA (L2.wipe σ vs) (wipeD r vs) a → oA σ r a := by
  refine ⟨⟨h.sub, h.ntb, h.tabs, by rw [wipe_length, wipeD_length]; exact h.len, fun i s v e1 e2 => ?_, fun i j s t p e1 e2 m1 m2 e3 e4 => ?_⟩, fun a ⟨i, s, e1, m, e2⟩ => ?_⟩
  · rcases wipeD_get e1 with ⟨_, b⟩ | ⟨a, b⟩
    · subst b; trivial
    · rw [wipe_out' a] at e2; exact h.slot i s v b e2
  · rcases wipeD_get e1 with ⟨_, b⟩ | ⟨_, b⟩
    · subst b; cases m1
    · rcases wipeD_get e2 with ⟨_, b2⟩ | ⟨_, b2⟩
      · subst b2; cases m2
      · exact h.apart i j s t p b b2 m1 m2 (wipe_get e3).2 (wipe_get e4).2
  · rcases wipeD_get e1 with ⟨_, b⟩ | ⟨_, b⟩
    · subst b; cases m
    · exact ⟨i, s, b, m, (wipe_get e2).2⟩
theorem Rel.apart_new' {p : Addr} (h : Rel G F H σ r) (hp : H p = none) : ¬ oA σ r p := fun z => by
  obtain ⟨_, o, e, _⟩ := h.own z
  rw [hp] at e; cases e
/-- behind a comprehension -/
theorem Rel.back {r2 : En} {vs : List Nat} (h : Rel G F H σ r) (g : Go F H (oA (L2.wipe σ vs) (wipeD r vs)) F1 H1 (oA (L2.wipe σ vs) r2)) (h2 : Rel G F1 H1 (L2.wipe σ vs) r2) :
    Rel G F1 H1 σ (backD r r2 vs) ∧ ∀ a, oA σ (backD r r2 vs) a → oA σ r a ∨ H a = none := by
  have hl : r.length = r2.length := by have := h2.len; rw [wipe_length] at this; rw [← h.len]; exact this
  -- what a wiped name owned is not touched within
  have far : ∀ i s p, i ∈ vs → r[i]? = some s → s.mine = true → σ[i]? = some (some (.ref p)) → ¬ oA (L2.wipe σ vs) (wipeD r vs) p := fun i s p hi e1 m e2 ⟨j, t, f1, m2, f2⟩ => by
    rcases wipeD_get f1 with ⟨_, b⟩ | ⟨n, b⟩
    · subst b; cases m2
    · have z := h.apart i j s t p e1 b m m2 e2 (wipe_get f2).2
      subst z
      exact n hi
  have far2 : ∀ i s p, i ∈ vs → r[i]? = some s → s.mine = true → σ[i]? = some (some (.ref p)) → ¬ oA (L2.wipe σ vs) r2 p := fun i s p hi e1 m e2 z => by
    rcases g.own p z with z | z
    · exact far i s p hi e1 m e2 z
    · obtain ⟨_, o, e, _⟩ := h.own ⟨i, s, e1, m, e2⟩
      rw [e] at z; cases z
  have out : ∀ {i : Nat} {s : Sl} {p : Addr}, i ∉ vs → r2[i]? = some s → s.mine = true → σ[i]? = some (some (.ref p)) → oA (L2.wipe σ vs) r2 p := fun {i s p} n e1 m e2 => ⟨i, s, e1, m, by rw [wipe_out' n]; exact e2⟩
  refine ⟨⟨h2.sub, h2.ntb, h2.tabs, by rw [backD_length, ← hl]; exact h.len, fun i s v e1 e2 => ?_, fun i j s t p e1 e2 m1 m2 e3 e4 => ?_⟩, fun a ⟨i, s, e1, m, e2⟩ => ?_⟩
  · rcases backD_get hl e1 with ⟨a, b⟩ | ⟨a, b⟩
    · refine (h.slot i s v b e2).mono g.sub fun p m ev => ?_
      subst ev
      have nf := far i s p a b m e2
      obtain ⟨n1, o, n2, n3⟩ := h.own ⟨i, s, b, m, e2⟩
      refine ⟨?_, fun o' q1 q2 => g.keep p o' q1 nf q2⟩
      cases q : F1 p with
      | none => rfl
      | some u =>
        rcases g.new p u q with z | z | z
        · rw [n1] at z; cases z
        · rw [n2] at z; cases z
        · exact absurd z nf
    · exact h2.slot i s v b (by rw [wipe_out' a]; exact e2)
  · rcases backD_get hl e1 with ⟨a1, b1⟩ | ⟨a1, b1⟩
    · rcases backD_get hl e2 with ⟨a2, b2⟩ | ⟨a2, b2⟩
      · exact h.apart i j s t p b1 b2 m1 m2 e3 e4
      · exact absurd (out a2 b2 m2 e4) (far2 i s p a1 b1 m1 e3)
    · rcases backD_get hl e2 with ⟨a2, b2⟩ | ⟨a2, b2⟩
      · exact absurd (out a1 b1 m1 e3) (far2 j t p a2 b2 m2 e4)
      · exact h2.apart i j s t p b1 b2 m1 m2 (by rw [wipe_out' a1]; exact e3) (by rw [wipe_out' a2]; exact e4)
  · rcases backD_get hl e1 with ⟨a1, b1⟩ | ⟨a1, b1⟩
    · exact .inl ⟨i, s, b1, m, e2⟩
    · rcases g.own a (out a1 b1 m e2) with z | z
      · exact .inl ((h.wipe vs).2 a z)
      · exact .inr z
/-- the last name's own list is not touched by what goes on without it -/
theorem Rel.frame {v : V} {s : Sl} {σ2 : L2.St} {r2 : En} (h : Rel G F H (σ ++ [some v]) (r ++ [s])) (g : Go F H (oA σ r) F1 H1 (oA σ2 r2)) (h2 : Rel G F1 H1 σ2 r2) :
    Rel G F1 H1 (σ2 ++ [some v]) (r2 ++ [s]) ∧ Go F H (oA (σ ++ [some v]) (r ++ [s])) F1 H1 (oA (σ2 ++ [some v]) (r2 ++ [s])) := by
  have hl : σ.length = r.length := h.init.len
  have nown : ∀ p, s.mine = true → v = .ref p → ¬ oA σ r p := fun p m ev ⟨j, t, e1, m2, e2⟩ => by
    have hj := (List.getElem?_eq_some_iff.mp e1).1
    have z := h.apart j r.length t s p (by rw [get_snoc hj]; exact e1) get_last m2 m (by rw [get_snoc (by rw [hl]; exact hj)]; exact e2) (by rw [← hl, ev]; exact get_last)
    omega
  have tr : ∀ p, s.mine = true → v = .ref p → F p = none ∧ ∃ o, H p = some o ∧ (∀ ps, o ≠ .tbl ps) := fun p m ev => h.last.own m (by rw [ev])
  have ok : SlOk G F1 H1 (some v) s := h.last.mono g.sub fun p m ev => by
    cases ev
    obtain ⟨n1, o, n2, n3⟩ := tr p m rfl
    refine ⟨?_, fun o' q1 q2 => g.keep p o' q1 (nown p m rfl) q2⟩
    cases q : F1 p with
    | none => rfl
    | some u =>
      rcases g.new p u q with z | z | z
      · rw [n1] at z; cases z
      · rw [n2] at z; cases z
      · exact absurd z (nown p m rfl)
  have n2 : ∀ p, s.mine = true → v = .ref p → ¬ oA σ2 r2 p := fun p m ev z => by
    rcases g.own p z with z | z
    · exact nown p m ev z
    · obtain ⟨_, o, e, _⟩ := tr p m ev
      rw [e] at z; cases z
  refine ⟨h2.snoc ok n2, g.wide (own_init hl) fun a z => ?_⟩
  rcases own_snoc h2.len z with z | ⟨m, ev⟩
  · rcases g.own a z with z | z
    · exact .inl (own_init hl a z)
    · exact .inr z
  · exact .inl ⟨r.length, s, get_last, m, by rw [← hl, ev]; exact get_last⟩
theorem wipe_snoc {σ : L2.St} {x : Option V} : ∀ {vs : List Nat}, (∀ v ∈ vs, v < σ.length) → L2.wipe (σ ++ [x]) vs = L2.wipe σ vs ++ [x]
  | [], _ => rfl
  | v :: vs, h => by
    unfold L2.wipe
    rw [wipe_snoc fun w hw => h w (List.mem_cons_of_mem _ hw), List.set_append_left _ _ (by rw [wipe_length]; exact h v List.mem_cons_self)]
theorem wipeD_snoc {r : En} {x : Sl} : ∀ {vs : List Nat}, (∀ v ∈ vs, v < r.length) → wipeD (r ++ [x]) vs = wipeD r vs ++ [x]
  | [], _ => rfl
  | v :: vs, h => by
    unfold wipeD
    rw [wipeD_snoc fun w hw => h w (List.mem_cons_of_mem _ hw), List.set_append_left _ _ (by rw [wipeD_length]; exact h v List.mem_cons_self)]
theorem backD_snoc {r1 r2 : En} {x y : Sl} (hl : r2.length = r1.length) : ∀ {vs : List Nat}, (∀ v ∈ vs, v < r1.length) → backD (r1 ++ [x]) (r2 ++ [y]) vs = backD r1 r2 vs ++ [y]
  | [], _ => rfl
  | v :: vs, h => by
    have hv := h v List.mem_cons_self
    unfold backD
    rw [backD_snoc hl fun w hw => h w (List.mem_cons_of_mem _ hw), List.set_append_left _ _ (by rw [backD_length, hl]; exact hv)]
    rw [List.getD_eq_getElem?_getD, List.getD_eq_getElem?_getD, List.getElem?_append_left hv]
/-- the turns of a comprehension -/
def lcD (vs : List Nat) (t : D → En → Option En) (c : En → R Bool) (f : En → R D) : List D → En → List D → R (List D)
  | [], r, acc => .ok acc r
  | d :: ds, r, acc => match t d r with
    | none => .st
    | some r1 => match c r1 with
      | .ok true r2 => match f r2 with
        | .ok y r3 => if acc.length < 1000000 then lcD vs t c f ds (wipeD r3 vs) (acc ++ [y]) else .st
        | _ => .st
      | .ok false r2 => lcD vs t c f ds (wipeD r2 vs) acc
      | _ => .st
/-- [e for target in iter if test], the names of its own wiped -/
def xLc (vs : List Nat) (it : En → R (List D)) (t : D → En → Option En) (c : En → R Bool) (f : En → R D) : En → R Sl := fun r => (it r).bind fun ds r1 => match lcD vs t c f ds (wipeD r1 vs) [] with
  | .ok ys r2 => .ok (.ow ys) (backD r1 r2 vs)
  | _ => .st
def noW : WX := fun _ _ _ _ => False
theorem wipe_eq {σ σ2 : L2.St} {vs : List Nat} (hl : σ2.length = σ.length) (h : ∀ j, j ∉ vs → σ2[j]? = σ[j]?) : L2.wipe σ2 vs = L2.wipe σ vs := by
  refine List.ext_getElem? fun j => ?_
  by_cases hj : j ∈ vs
  · by_cases hlt : j < σ.length
    · have a : ∀ {τ : L2.St}, τ.length = σ.length → (L2.wipe τ vs)[j]? = some none := fun {τ} e => by
        have b : j < (L2.wipe τ vs).length := by rw [wipe_length, e]; exact hlt
        cases q : (L2.wipe τ vs)[j]? with
        | none => rw [List.getElem?_eq_none_iff] at q; omega
        | some o =>
          cases o with
          | none => rfl
          | some v => exact absurd hj (wipe_get q).1
      rw [a hl, a rfl]
    · rw [List.getElem?_eq_none (by rw [wipe_length]; omega), List.getElem?_eq_none (by rw [wipe_length]; omega)]
  · rw [wipe_out' hj, wipe_out' hj, h j hj]
theorem tLc_of {vs ix : List Nat} {fi : En → R (List D)} {t : D → En → Option En} {fc : En → R Bool} {fe : En → R D} (hix : ∀ j ∈ ix, j ∈ vs) (σ : L2.St) (H : Hp) (Q : VK) (hvs : ∀ v ∈ vs, v < σ.length) :
    TXo G W (xLc vs fi t fc fe) σ H Q → tLc (TIo G W fi) (TGo G ix t) (TTo G noW fc) (TEo G noW fe) vs σ H Q := fun ⟨F, r, e, p⟩ => by
  refine ⟨F, r, e, ?_⟩
  unfold xLc at p
  cases hf : fi r with
  | st => rw [hf] at p; exact p
  | ex c d r' => rw [hf] at p; exact p
  | ok ds r0 =>
    rw [hf] at p
    simp only [R.bind] at p
    intro F0 H0 J g0 e0 y Dl hD
    obtain ⟨gA, eA⟩ := e0.newL (ds := []) (vs := []) hD .nil
    obtain ⟨w0, o0⟩ := (e0.ext (Ext.made (o := .lst []) hD e0.sub)).wipe vs
    have w1 : Rel G F0 (upd H0 Dl (.lst [])) (L2.wipe σ vs ++ [some (.ref Dl)]) (wipeD r0 vs ++ [.ow []]) :=
      w0.snoc eA.last fun q _ ev z => by cases ev; exact e0.apart_new' hD (o0 _ z)
    cases hr : lcD vs t fc fe ds (wipeD r0 vs) [] with
    | st => rw [hr] at p; exact p.elim
    | ex c d r' => rw [hr] at p; exact p.elim
    | ok ys rz =>
      rw [hr] at p
      simp only at p
      refine ⟨fun i m H' => m + i = ds.length ∧ ∃ F' r' acc, Go F0 (upd H0 Dl (.lst [])) (oA (L2.wipe σ vs ++ [some (.ref Dl)]) (wipeD r0 vs ++ [.ow []])) F' H' (oA (L2.wipe σ vs ++ [some (.ref Dl)]) (r' ++ [Sl.ow acc])) ∧ Rel G F' H' (L2.wipe σ vs ++ [some (.ref Dl)]) (r' ++ [Sl.ow acc]) ∧ lcD vs t fc fe (ds.drop i) r' acc = .ok ys rz,
        ⟨ds.length, rfl, F0, wipeD r0 vs, [], Go.refl fun _ z => z, w1, hr⟩, ?_⟩
      rintro i m H' ⟨hm, F', r', acc, g', e', run⟩
      by_cases hlt : i < ds.length
      · obtain ⟨go, yl⟩ := y.go i F' H' g'.sub e'.sub hlt
        refine .inr ⟨go, fun H2 => ∃ F2 r2 acc2, Go F0 (upd H0 Dl (.lst [])) (oA (L2.wipe σ vs ++ [some (.ref Dl)]) (wipeD r0 vs ++ [.ow []])) F2 H2 (oA (L2.wipe σ vs ++ [some (.ref Dl)]) (r2 ++ [Sl.ow acc2])) ∧ Rel G F2 H2 (L2.wipe σ vs ++ [some (.ref Dl)]) (r2 ++ [Sl.ow acc2]) ∧ lcD vs t fc fe (ds.drop (i + 1)) r2 acc2 = .ok ys rz,
          fun H2 z => ⟨m - 1, by omega, by omega, z⟩, fun x H2 hy => ?_⟩
        obtain ⟨F2, d, hd, x2, q2⟩ := yl x H2 hy
        have e2 := e'.ext x2
        have g2 := g'.trans (x2.goO fun _ z => z)
        rw [drop_get hd] at run
        unfold lcD at run
        cases ht : t d r' with
        | none => simp only [ht] at run; cases run
        | some r1 =>
          simp only [ht] at run
          refine ⟨F2, r', d, e2.init, q2, r1, ht, fun σ3 e3 o3 k3 => ?_⟩
          have hw : L2.wipe σ3 vs = L2.wipe (L2.wipe σ vs) vs := wipe_eq k3.1 fun j hj => k3.2 j fun z => hj (hix j z)
          have hww : L2.wipe (L2.wipe σ vs) vs = L2.wipe σ vs := wipe_eq (wipe_length _ _) fun j hj => wipe_out' hj
          rw [hww] at hw
          refine ⟨hw, F2, r1, e3, ?_⟩
          obtain ⟨e3', g3'⟩ := e2.frame (Go.refl o3) e3
          cases hc : fc r1 with
          | st => simp only [hc] at run; cases run
          | ex c d r2 => simp only [hc] at run; cases run
          | ok k r2 =>
            intro F4 H4 b g4 e4 hb
            have hb : b = k := hb
            subst hb
            obtain ⟨e4', g4'⟩ := e3'.frame g4 e4
            have gall := (g2.trans g3').trans g4'
            have fin : ∀ {F5 H5 r5 acc5}, Rel G F5 H5 (σ3 ++ [some (.ref Dl)]) (r5 ++ [Sl.ow acc5]) → Rel G F5 H5 (L2.wipe σ vs ++ [some (.ref Dl)]) (wipeD r5 vs ++ [Sl.ow acc5]) ∧ ∀ a, oA (L2.wipe σ vs ++ [some (.ref Dl)]) (wipeD r5 vs ++ [Sl.ow acc5]) a → oA (σ3 ++ [some (.ref Dl)]) (r5 ++ [Sl.ow acc5]) a := fun {F5 H5 r5 acc5} e5 => by
              obtain ⟨w5, o5⟩ := e5.init.wipe vs
              rw [hw] at w5 o5
              obtain ⟨a1, a2⟩ := e5.frame (Go.refl (F := F5) (H := H5) o5) w5
              refine ⟨a1, fun a z => ?_⟩
              rcases own_snoc w5.len z with z | ⟨m, ev⟩
              · exact own_init e5.init.len a (o5 a z)
              · exact ⟨r5.length, _, get_last, m, by rw [← e5.init.len, ev]; exact get_last⟩
            cases b with
            | false =>
              simp only [hc] at run
              obtain ⟨a1, a2⟩ := fin e4'
              exact ⟨F4, _, acc, gall.trans (Go.refl a2), a1, run⟩
            | true =>
              simp only [hc] at run
              cases hfe : fe r2 with
              | st => simp only [hfe] at run; cases run
              | ex c d r3 => simp only [hfe] at run; cases run
              | ok yv r3 =>
                simp only [hfe] at run
                refine ⟨F4, r2, e4, ?_⟩
                rw [hfe]
                intro F5 H5 u g5 e5 qu
                obtain ⟨e5', g5'⟩ := e4'.frame g5 e5
                by_cases hz : acc.length < 1000000
                · rw [if_pos hz] at run
                  obtain ⟨pd, epd, hFd, vacc, hHd, hva⟩ := e5'.last
                  cases epd
                  have hix5 : (r3 ++ [Sl.ow acc])[r3.length]? = some (.ow acc) := get_last
                  have hix6 : (σ3 ++ [some (V.ref Dl)])[r3.length]? = some (some (.ref Dl)) := by rw [← e5.len]; exact get_last
                  obtain ⟨g6, e6⟩ := e5'.write hix5 (ds := acc) rfl hix6 (hva.append (.cons qu .nil))
                  have es : (r3 ++ [Sl.ow acc]).set r3.length (Sl.put (.ow acc) (acc ++ [yv])) = r3 ++ [Sl.ow (acc ++ [yv])] := by
                    rw [List.set_append_right _ _ (Nat.le_refl _), Nat.sub_self] <;> rfl
                  rw [es] at g6 e6
                  obtain ⟨a1, a2⟩ := fin e6
                  exact ⟨vacc, hHd, small6' (by rw [hva.len]; exact hz), F5, _, acc ++ [yv], ((gall.trans g5').trans g6).trans (Go.refl a2), a1, run⟩
                · rw [if_neg hz] at run
                  cases run
      · have hi : ds.length = i := by omega
        refine .inl ⟨y.stop i F' H' g'.sub e'.sub hi, ?_⟩
        rw [List.drop_eq_nil_of_le (by omega)] at run
        cases run
        have h0 : ∀ v ∈ vs, v < r0.length := fun v hv => by rw [← e0.len]; exact hvs v hv
        have hlz : rz.length = r0.length := by have := e'.init.len; rw [wipe_length] at this; rw [← this, e0.len]
        rw [← wipe_snoc hvs, ← wipeD_snoc h0] at g'
        rw [← wipe_snoc hvs] at e'
        obtain ⟨b1, b2⟩ := eA.back g' e'
        rw [backD_snoc (by rw [hlz]) h0] at b1 b2
        refine p F' H' _ ((g0.trans gA).trans ⟨g'.sub, fun a o z => (g'.new a o z).imp id fun z => z.imp id fun z => (eA.wipe vs).2 a z, fun a o z n => g'.keep a o z fun w => n ((eA.wipe vs).2 a w), b2, g'.there⟩) b1
variable {elt tg iter : Expr} {ifs : List Expr} {scope : Scope} {ix : List Nat} {nm : List (Str × Nat)} {fi : En → R (List D)} {t : D → En → Option En} {fc : En → R Bool} {fe : En → R D}
def tT : En → R Bool := fun r => .ok true r
theorem dts_nil : PTs X [] (TTo G W tT) := ⟨fun pins s σ H Q I ⟨F, r, e, p⟩ => pts_nil.run pins s σ H Q I (Pt.here p e (Ext.refl _ _) rfl)⟩
theorem dts_one {c : Expr} (h : PT X c (TTo G W fc)) : PTs X [c] (TTo G W fc) := pts_one h
theorem dx_lc (hc : X.calm = true) (hN : X.N.Nodup) (hi : PI X tg iter (TIo G W fi)) (ok : blkC X.N X.env.scope scope nm = true) (hix : (ix.all fun j => (nm.map (·.2)).contains j) = true)
    (hg : ∀ (s : Shared) (H : Hp) (C : Addr) (cl : List (Str × Addr)) (fp : List Addr), PG (X.blk s H scope (compEnvC scope cl C X.env) fp) tg (TGo G ix t)) (ht : ∀ (s : Shared) (H : Hp) (C : Addr) (cl : List (Str × Addr)) (fp : List Addr), PTs (X.blk s H scope (compEnvC scope cl C X.env) fp) ifs (TTo G noW fc))
    (he : ∀ (s : Shared) (H : Hp) (C : Addr) (cl : List (Str × Addr)) (fp : List Addr), PE (X.blk s H scope (compEnvC scope cl C X.env) fp) elt (TEo G noW fe)) (hs : ∀ x, foldedSetIterable iter X.env x = pure x := by intro _; rfl) :
    PE X (.ListComp elt [⟨tg, iter, ifs, 0⟩] scope pos) (TXo G W (xLc (nm.map (·.2)) fi t fc fe)) := ⟨fun pins s σ H Q I h => (pe_lc hc hN hi (blkOk_by ok) hg ht he hs).run pins s σ H Q I (tLc_of (fun j hj => by
      have a := List.all_eq_true.mp hix j hj
      simpa using a) σ H Q (fun v hv => by
      obtain ⟨p, hp, e⟩ := List.mem_map.mp hv
      rw [I.len]
      subst e
      exact (List.getElem?_eq_some_iff.mp ((blkOk_by ok).ix p hp)).1) h)⟩
/-- y = [..] on one row -/
theorem ds_setLc {i : Nat} {y : Str} {py spos : Pos} (hc : X.calm = true) (hN : X.N.Nodup) (hi : PI X tg iter (TIo G W fi)) (ok : blkC X.N X.env.scope scope nm = true) (hix : (ix.all fun j => (nm.map (·.2)).contains j) = true)
    (hg : ∀ (s : Shared) (H : Hp) (C : Addr) (cl : List (Str × Addr)) (fp : List Addr), PG (X.blk s H scope (compEnvC scope cl C X.env) fp) tg (TGo G ix t)) (ht : ∀ (s : Shared) (H : Hp) (C : Addr) (cl : List (Str × Addr)) (fp : List Addr), PTs (X.blk s H scope (compEnvC scope cl C X.env) fp) ifs (TTo G noW fc))
    (he : ∀ (s : Shared) (H : Hp) (C : Addr) (cl : List (Str × Addr)) (fp : List Addr), PE (X.blk s H scope (compEnvC scope cl C X.env) fp) elt (TEo G noW fe)) (hs : ∀ x, foldedSetIterable iter X.env x = pure x := by intro _; rfl)
    (hy : X.N[i]? = some y := by rfl) (hyl : X.env.scope.names.lookup y = some .local := by rfl)
    (hsw : swapsWith (.ListComp elt [⟨tg, iter, ifs, 0⟩] scope pos) (some (.Name y py)) spos.line X.env = pure true := by exact sw_true rfl rfl rfl (by decide +kernel)) :
    PS X (.Assign [.Name y py] (.ListComp elt [⟨tg, iter, ifs, 0⟩] scope pos) spos) (TSo G W (sAsgX (xLc (nm.map (·.2)) fi t fc fe) i)) := ⟨fun pins s σ H E I h => (ps_setLc hc hN hy hyl hsw hi (blkOk_by ok) hg ht he hs).run pins s σ H E I (by
      have hvs : ∀ v ∈ nm.map (·.2), v < σ.length := fun v hv => by
        obtain ⟨p, hp, e⟩ := List.mem_map.mp hv
        rw [I.len]
        subst e
        exact (List.getElem?_eq_some_iff.mp ((blkOk_by ok).ix p hp)).1
      exact tLc_of (fun j hj => by
        have a := List.all_eq_true.mp hix j hj
        simpa using a) σ H _ hvs (tAsgX_of E σ H h))⟩
end
end DL
set_option maxHeartbeats 4000000
/-! DLf: defs and their calls; what is walked. -/
namespace DL
open PySem PyProof.Rows L2
/-! ### what is walked -/
section
variable {G : Gm} {W : WX} {F H F1 H1 : Hp} {σ σ1 : L2.St} {r r1 : En} {X : Cx} {a b c tg : Expr} {pos : Pos} {f g : En → R D}
/-- a reading that hands on what it walks -/
theorem TIo.use {fi : En → R (List D)} {Q : It → Hp → Prop} (h : TIo G W fi σ H Q) : ∃ F r, Rel G F H σ r ∧ match fi r with
  | .ok ds r' => ∀ F' H' J, Go F H (oA σ r) F' H' (oA σ r') → Rel G F' H' σ r' → Yl G J F' ds → Q J H'
  | .ex c d r' => ∀ F' H' cls dd, Go F H (oA σ r) F' H' (oA σ r') → Rel G F' H' σ r' → XOk G F' H' c d cls dd → W cls dd σ H'
  | .st => False := h
def iSeq (f : En → R D) : En → R (List D) := fun r => (f r).bind fun d r1 => match d with
  | .list ds => .ok ds r1
  | .tuple ds => .ok ds r1
  | _ => .st
theorem yl_list {K : PySem.W.Frag} {xs : List V} {ds : List D} {p : Addr} (hK : K = G.K) (h : SqL G.K F p xs) (q : RpL G F xs ds) : Yl G (Itl K p) F ds := by
  subst hK
  refine ⟨fun i F' H' s1 s2 hi => ?_, fun i F' H' s1 s2 hi => ⟨xs, s2.l (s1.l h), by rw [q.len]; omega⟩⟩
  obtain ⟨v, hv, qv⟩ := q.get (List.getElem?_eq_getElem hi)
  have hs := s2.l (s1.l h)
  exact ⟨⟨xs, v, hs, hv⟩, fun x H2 ⟨e, k⟩ => by
    subst e
    have z := k xs hs
    rw [hv] at z
    cases z
    exact ⟨F', _, List.getElem?_eq_getElem hi, Ext.refl _ _, qv.mono s1⟩⟩
theorem yl_tup {K : PySem.W.Frag} {xs : List V} {ds : List D} {p : Addr} (hK : K = G.K) (h : SqT G.K F p xs) (q : RpL G F xs ds) : Yl G (Itt K p) F ds := by
  subst hK
  refine ⟨fun i F' H' s1 s2 hi => ?_, fun i F' H' s1 s2 hi => ⟨xs, s2.t (s1.t h), by rw [q.len]; omega⟩⟩
  obtain ⟨v, hv, qv⟩ := q.get (List.getElem?_eq_getElem hi)
  have hs := s2.t (s1.t h)
  exact ⟨⟨xs, v, hs, hv⟩, fun x H2 ⟨e, k⟩ => by
    subst e
    have z := k xs hs
    rw [hv] at z
    cases z
    exact ⟨F', _, List.getElem?_eq_getElem hi, Ext.refl _ _, qv.mono s1⟩⟩
theorem di_seq (hK : X.K = G.K) (ha : PE X a (TEo G W f)) : PI X tg a (TIo G W (iSeq f)) := ⟨fun pins s σ H Q I ⟨F, r, e, p⟩ => by
  unfold iSeq at p
  cases hf : f r with
  | st => rw [hf] at p; exact p.elim
  | ex c d r' =>
    rw [hf] at p
    exact (pi_list ha).run pins s σ H Q I ⟨F, r, e, by rw [hf]; exact p⟩
  | ok d r' =>
    rw [hf] at p
    simp only [R.bind] at p
    cases d with
    | list ds =>
      refine (pi_list ha).run pins s σ H Q I ⟨F, r, e, ?_⟩
      rw [hf]
      intro F' H' v g e' q
      cases q with
      | @lst pa xs _ h q => exact ⟨pa, rfl, ⟨xs, by rw [hK]; exact SqL.of (e'.sub _ _ h)⟩, p F' H' _ g e' (yl_list hK (SqL.of h) q)⟩
    | tuple ds =>
      refine (pi_tup ha).run pins s σ H Q I ⟨F, r, e, ?_⟩
      rw [hf]
      intro F' H' v g e' q
      cases q with
      | @tup pa xs _ h q => exact ⟨pa, rfl, ⟨xs, by rw [hK]; exact e'.sub.t h⟩, p F' H' _ g e' (yl_tup hK h q)⟩
    | _ => exact p.elim⟩
/-- lo, lo + c, .. -/
def rngD (c : Int) : Int → Nat → List D
  | _, 0 => []
  | lo, n + 1 => .int lo :: rngD c (lo + c) n
theorem rngD_len (c : Int) : ∀ (lo : Int) (n : Nat), (rngD c lo n).length = n
  | _, 0 => rfl
  | lo, n + 1 => by unfold rngD; rw [List.length_cons, rngD_len c _ n]
theorem rngD_get (c : Int) : ∀ (lo : Int) (n i : Nat), i < n → (rngD c lo n)[i]? = some (.int (lo + (i : Int) * c))
  | _, 0, i, h => absurd h (Nat.not_lt_zero i)
  | lo, n + 1, 0, _ => by simp [rngD]
  | lo, n + 1, i + 1, h => by
    unfold rngD
    rw [List.getElem?_cons_succ, rngD_get c (lo + c) n i (by omega)]
    congr 2
    have e : ((i + 1 : Nat) : Int) * c = (i : Int) * c + c := by rw [Int.natCast_add, Int.add_mul]; simp
    rw [e]
    omega
theorem yl_range {lo : Int} {n : Nat} : Yl G (Itr lo n) F (rngD 1 lo n) := by
  refine ⟨fun i F' H' s1 s2 hi => ?_, fun i F' H' s1 s2 hi => by rw [rngD_len] at hi; exact Nat.le_of_eq hi⟩
  rw [rngD_len] at hi
  refine ⟨hi, fun x H2 ⟨e, k⟩ => ?_⟩
  subst e k
  refine ⟨F', _, rngD_get 1 lo n i hi, Ext.refl _ _, ?_⟩
  rw [Int.mul_one]
  exact .int _
theorem yl_rangeC {lo c : Int} {n : Nat} : Yl G (Itc lo c n) F (rngD c lo n) := by
  refine ⟨fun i F' H' s1 s2 hi => ?_, fun i F' H' s1 s2 hi => by rw [rngD_len] at hi; exact Nat.le_of_eq hi⟩
  rw [rngD_len] at hi
  refine ⟨hi, fun x H2 ⟨e, k⟩ => ?_⟩
  subst e k
  exact ⟨F', _, rngD_get c lo n i hi, Ext.refl _ _, .int _⟩
def inR (i : Int) : Bool := decide (-4611686018427387904 ≤ i) && decide (i < 4611686018427387904)
theorem inR_of {i : Int} (h : inR i = true) : -(2 ^ 62) ≤ i ∧ i < 2 ^ 62 := by
  unfold inR at h
  rw [Bool.and_eq_true, decide_eq_true_eq, decide_eq_true_eq] at h
  exact h
/-- what follows an expression in a walk's reading -/
def TIp (G : Gm) (W : WX) (x : R (List D)) (F H : Hp) (σ : L2.St) (r : En) (Q : It → Hp → Prop) : Prop := match x with
  | .ok es r' => ∀ F' H' J, Go F H (oA σ r) F' H' (oA σ r') → Rel G F' H' σ r' → Yl G J F' es → Q J H'
  | .ex c d r' => ∀ F' H' cls dd, Go F H (oA σ r) F' H' (oA σ r') → Rel G F' H' σ r' → XOk G F' H' c d cls dd → W cls dd σ H'
  | .st => False
theorem TIp.bind {α β : Type} {rel : Hp → β → α → Prop} {x : R α} {k : α → En → R (List D)} {Q : It → Hp → Prop} (h : TIp G W (x.bind k) F H σ r Q) :
    Pt G W rel x F H σ r (fun b H1 => ∃ a F1 r1, Sub F F1 ∧ Rel G F1 H1 σ r1 ∧ rel F1 b a ∧ TIp G W (k a r1) F1 H1 σ r1 Q) := by
  cases x with
  | ok a r' =>
    intro F' H' b g e q
    refine ⟨a, F', r', g.sub, e, q, ?_⟩
    have h : TIp G W (k a r') F H σ r Q := h
    cases hk : k a r' with
    | ok es r2 => rw [hk] at h; exact fun F2 H2 J g2 => h F2 H2 J (g.trans g2)
    | ex c d r2 => rw [hk] at h; exact fun F2 H2 cls dd g2 => h F2 H2 cls dd (g.trans g2)
    | st => rw [hk] at h; exact h
  | ex c d r' => exact h
  | st => exact h
theorem TIp.here {es : List D} {J : It} {Q : It → Hp → Prop} (h : TIp G W (.ok es r) F H σ r Q) (e : Rel G F H σ r) (y : Yl G J F es) : Q J H := h F H J (Go.refl fun _ z => z) e y
def iRg1 (f : En → R D) : En → R (List D) := fun r => (f r).bind fun x r1 => match x with
  | .int j => if inR j = true then .ok (rngD 1 0 j.toNat) r1 else .st
  | _ => .st
def iRg2 (f g : En → R D) : En → R (List D) := fun r => (f r).bind fun x r1 => (g r1).bind fun y r2 => match x, y with
  | .int i, .int j => if (inR i && inR j) = true then .ok (rngD 1 i (j - i).toNat) r2 else .st
  | _, _ => .st
def rgOk (i j c : Int) : Bool := decide (c ≠ 0) && decide (c.natAbs < 1073741824) && Builtin.Range.small i j c && decide (Builtin.Range.rangeSize i j c = ((Builtin.Range.rangeSize i j c).toNat : Int))
def iRg3 (f g h : En → R D) : En → R (List D) := fun r => (f r).bind fun x r1 => (g r1).bind fun y r2 => (h r2).bind fun z r3 => match x, y, z with
  | .int i, .int j, .int c => if rgOk i j c = true then .ok (rngD c i (Builtin.Range.rangeSize i j c).toNat) r3 else .st
  | _, _, _ => .st
theorem di_range1 {p : Pos} (hm : X.mg "range" = none) (ha : PE X a (TEo G W f)) (hg : Gl X "range" := by rfl) (hs : starEach [a] X.env = [(false, eval a X.env)] := by rfl) : PI X tg (.Call (.Name "range" p) [a] [] pos) (TIo G W (iRg1 f)) :=
  pi_of (pi_range1 hg hm (pa_cons ha pa_nil hs) hs) fun σ H Q ⟨F, r, e, p⟩ => by
    have p : TIp G W (iRg1 f r) F H σ r Q := p
    refine ⟨F, r, e, (TIp.bind (rel := rV G) p).mono fun v H1 ⟨x, F1, r1, _, e1, q1, p1⟩ => ?_⟩
    cases q1 with
    | int j =>
      simp only at p1
      split at p1
      · rename_i hz
        exact ⟨j, rfl, (inR_of hz).1, (inR_of hz).2, p1.here e1 yl_range⟩
      · exact p1.elim
    | _ => exact p1.elim
theorem di_range2 {p : Pos} (hm : X.mg "range" = none) (ha : PE X a (TEo G W f)) (hb : PE X b (TEo G W g)) (hg : Gl X "range" := by rfl) (hs : starEach [a, b] X.env = [(false, eval a X.env), (false, eval b X.env)] := by rfl) (hs2 : starEach [b] X.env = [(false, eval b X.env)] := by rfl) :
    PI X tg (.Call (.Name "range" p) [a, b] [] pos) (TIo G W (iRg2 f g)) :=
  pi_of (pi_range2 hg hm (pa_cons ha (pa_cons hb pa_nil hs2) (by rw [hs, hs2])) hs hs2) fun σ H Q ⟨F, r, e, p⟩ => by
    have p : TIp G W (iRg2 f g r) F H σ r Q := p
    refine ⟨F, r, e, (TIp.bind (rel := rV G) p).mono fun v H1 ⟨x, F1, r1, _, e1, q1, p1⟩ => ⟨F1, r1, e1, (TIp.bind (rel := rV G) p1).mono fun w H2 ⟨y, F2, r2, _, e2, q2, p2⟩ => ?_⟩⟩
    cases q1 with
    | int i =>
      cases q2 with
      | int j =>
        simp only at p2
        split at p2
        · rename_i hz
          rw [Bool.and_eq_true] at hz
          exact ⟨i, j, rfl, ⟨(inR_of hz.1).1, (inR_of hz.1).2, (inR_of hz.2).1, (inR_of hz.2).2⟩, p2.here e2 yl_range⟩
        · exact p2.elim
      | _ => exact p2.elim
    | _ => exact p2.elim
theorem di_range3 {h : En → R D} {p : Pos} (hm : X.mg "range" = none) (ha : PE X a (TEo G W f)) (hb : PE X b (TEo G W g)) (hc : PE X c (TEo G W h)) (hg : Gl X "range" := by rfl) (hs : starEach [a, b, c] X.env = (false, eval a X.env) :: starEach [b, c] X.env := by rfl) (hs2 : starEach [b, c] X.env = (false, eval b X.env) :: starEach [c] X.env := by rfl)
    (hs3 : starEach [c] X.env = (false, eval c X.env) :: starEach [] X.env := by rfl) (hpl : (backTo pos (starEach [b, c] X.env)).any (·.1) = false := by rfl) :
    PI X tg (.Call (.Name "range" p) [a, b, c] [] pos) (TIo G W (iRg3 f g h)) :=
  pi_of (pi_range3 hg hm (pa_cons ha (pa_cons hb (pa_cons hc pa_nil hs3) hs2) hs) hs hpl) fun σ H Q ⟨F, r, e, p⟩ => by
    have p : TIp G W (iRg3 f g h r) F H σ r Q := p
    refine ⟨F, r, e, (TIp.bind (rel := rV G) p).mono fun v H1 ⟨x, F1, r1, _, e1, q1, p1⟩ => ⟨F1, r1, e1, (TIp.bind (rel := rV G) p1).mono fun w H2 ⟨y, F2, r2, _, e2, q2, p2⟩ => ⟨F2, r2, e2, (TIp.bind (rel := rV G) p2).mono fun u H3 ⟨z, F3, r3, _, e3, q3, p3⟩ => ?_⟩⟩⟩
    cases q1 with
    | int i =>
      cases q2 with
      | int j =>
        cases q3 with
        | int k =>
          simp only at p3
          split at p3
          · rename_i hz
            unfold rgOk at hz
            simp only [Bool.and_eq_true, decide_eq_true_eq] at hz
            exact ⟨i, j, k, _, rfl, ⟨hz.1.1.1, hz.1.1.2, hz.1.2, hz.2⟩, p3.here e3 yl_rangeC⟩
          · exact p3.elim
        | _ => exact p3.elim
      | _ => exact p3.elim
    | _ => exact p3.elim
end

/-! ### defs -/
/-- what a call gives: its value, the list that was handed in as it stands behind the call -/
inductive Rf where
  | rt (s : Sl) (io : Option (List D))
  | ex (c : Nat) (d : Option D)
  | st
def ioOf : En → Option (List D)
  | [] => none
  | .io ds :: _ => some ds
  | _ :: r => ioOf r
def ioS : Option (List D) → Sl
  | some ds => .io ds
  | none => .no
def notIo : Sl → Bool
  | .io _ => false
  | .no => false
  | _ => true
def runF (n m : Nat) (f : En → Fl) (args : En) : Rf := if args.length = m then (match f (args ++ List.replicate (n - m) .no) with
  | .nx r => .rt (.vl .none) (ioOf r)
  | .rt s r => if notIo s = true then .rt s (ioOf r) else .st
  | .ex c d _ => .ex c d
  | _ => .st) else .st
def spD (G : Gm) (fD : En → Rf) : Sp := fun vs H Q E => ∃ pd F args, Rel { G with pd := pd } F H (vs.map some) args ∧ match fD args with
  | .rt s io => ∀ F' H' v, Go F H (oA (vs.map some) args) F' H' (oA [some v, some (.ref pd)] [s, ioS io]) → Rel { G with pd := pd } F' H' [some v, some (.ref pd)] [s, ioS io] → Q v H'
  | .ex c d => ∀ F' H' cls dd, Go F H (oA (vs.map some) args) F' H' noO → Rel { G with pd := pd } F' H' [] [] → XOk G F' H' c d cls dd → E cls dd H'
  | .st => False
/-- a def keeps its promise; gu: what runs around stands in no repr -/
structure FnG (gu : Bool) (P : Program) (w : World) (K : PySem.W.Frag) (mg : Str → Option Value) (base : Heap) (k : Nat) (f : Addr) (fd : FuncData) (ps : List Str) (sp : Sp) : Prop where
  len : ∀ vs H Q E, sp vs H Q E → vs.length = ps.length
  run : ∀ (A : Around) (outer : List Env) (s : Shared) (H : Hp) (args : Args) (us : List Value) (vs : List V) (Q : VK) (E : XK), (gu = true → A.guards = some []) → Room k A → Env0 P w K mg base A outer s H → BindsTo s fd args (ps.zip us) → Vals vs us → sp vs H Q E →
    codeAny (model P w) A (.call (.ref f) args) (CR (L2.CX P w) outer P w H s Q E) s
theorem ioOf_at : ∀ {r : En} {ds : List D}, ioOf r = some ds → ∃ i : Nat, r[i]? = some (Sl.io ds)
  | [], _, h => nomatch h
  | s :: r, ds, h => by
    cases s with
    | io es => cases h; exact ⟨0, rfl⟩
    | _ =>
      obtain ⟨i, e⟩ := ioOf_at (r := r) (ds := ds) h
      exact ⟨i + 1, e⟩
section
variable {G : Gm} {F H F' H' : Hp} {σ : L2.St} {r : En}
/-- what is left of the names at a def's end -/
theorem Rel.leave {v : V} {s : Sl} (h : Rel G F H (σ ++ [some v]) (r ++ [s])) (hs : notIo s = true) : Rel G F H [some v, some (.ref G.pd)] [s, ioS (ioOf r)] ∧ ∀ a, oA [some v, some (.ref G.pd)] [s, ioS (ioOf r)] a → oA (σ ++ [some v]) (r ++ [s]) a := by
  have hl := h.init.len
  have io : ∀ {ds}, ioOf r = some ds → ∃ i, i < r.length ∧ (r ++ [s])[i]? = some (.io ds) ∧ (σ ++ [some v])[i]? = some (some (.ref G.pd)) ∧ OwnL G F H G.pd ds := fun {ds} e => by
    obtain ⟨i, ei⟩ := ioOf_at e
    obtain ⟨w, e1, e2, e3⟩ := h.init.at ei
    subst e2
    have hi := (List.getElem?_eq_some_iff.mp ei).1
    exact ⟨i, hi, by rw [get_snoc hi]; exact ei, by rw [get_snoc (by rw [hl]; exact hi)]; exact e1, e3⟩
  have two : ∀ {α : Type} {x y z : α} {i : Nat}, ([x, y] : List α)[i]? = some z → (i = 0 ∧ x = z) ∨ (i = 1 ∧ y = z) := fun {α x y z i} e => by
    match i, e with
    | 0, e => exact .inl ⟨rfl, Option.some.inj e⟩
    | 1, e => exact .inr ⟨rfl, Option.some.inj e⟩
  refine ⟨⟨h.sub, h.ntb, h.tabs, rfl, fun i t w e1 e2 => ?_, fun i j t u p e1 e2 m1 m2 e3 e4 => ?_⟩, fun a ⟨i, t, e1, m, e2⟩ => ?_⟩
  · rcases two e1 with ⟨a, b⟩ | ⟨a, b⟩
    · subst a b; cases e2; exact h.last
    · subst a b
      cases e2
      cases q : ioOf r with
      | none => trivial
      | some ds => obtain ⟨_, _, _, _, k⟩ := io q; exact ⟨rfl, k⟩
  · have cross : ∀ {p : Addr}, s.mine = true → v = .ref p → (ioS (ioOf r)).mine = true → G.pd = p → False := fun {p} m ev m2 ep => by
      cases q : ioOf r with
      | none => rw [q] at m2; cases m2
      | some ds =>
        obtain ⟨i, hi, a1, a2, _⟩ := io q
        have z := h.apart i r.length (.io ds) s p a1 get_last rfl m (by rw [a2, ep]) (by rw [← hl, ev]; exact get_last)
        omega
    rcases two e1 with ⟨a, b⟩ | ⟨a, b⟩
    · rcases two e2 with ⟨a', b'⟩ | ⟨a', b'⟩
      · rw [a, a']
      · subst a a' b b'
        cases e3
        exact (cross m1 rfl m2 (by have := Option.some.inj e4; cases this; rfl)).elim
    · rcases two e2 with ⟨a', b'⟩ | ⟨a', b'⟩
      · subst a a' b b'
        cases e4
        exact (cross m2 rfl m1 (by have := Option.some.inj e3; cases this; rfl)).elim
      · rw [a, a']
  · rcases two e1 with ⟨a', b⟩ | ⟨a', b⟩
    · subst a' b
      cases e2
      exact ⟨r.length, s, get_last, m, by rw [← hl]; exact get_last⟩
    · subst a' b
      cases q : ioOf r with
      | none => rw [q] at m; cases m
      | some ds =>
        obtain ⟨i, _, a1, a2, _⟩ := io q
        cases e2
        exact ⟨i, _, a1, rfl, a2⟩
end
section
variable {P : Program} {w : World} {K : PySem.W.Frag} {mg : Str → Option Value} {base : Heap} {G : Gm}
theorem rel_start {F H : Hp} {vs : List V} {args : En} {n m : Nat} (h : Rel G F H (vs.map some) args) (hm : args.length = m) : Rel G F H (vs.map some ++ List.replicate (n - m) none) (args ++ List.replicate (n - m) .no) ∧ ∀ a, oA (vs.map some ++ List.replicate (n - m) none) (args ++ List.replicate (n - m) .no) a → oA (vs.map some) args a := by
  have old : ∀ {i : Nat} {s : Sl}, (args ++ List.replicate (n - m) Sl.no)[i]? = some s → (args[i]? = some s ∧ (vs.map some ++ List.replicate (n - m) none)[i]? = (vs.map some)[i]?) ∨ s = .no := fun {i s} e => by
    by_cases hi : i < args.length
    · rw [List.getElem?_append_left hi] at e
      exact .inl ⟨e, List.getElem?_append_left (by rw [h.len]; exact hi)⟩
    · rw [List.getElem?_append_right (by omega)] at e
      have := List.mem_of_getElem? e
      exact .inr (List.eq_of_mem_replicate this)
  refine ⟨⟨h.sub, h.ntb, h.tabs, by rw [List.length_append, List.length_append, h.len]; simp, fun i s v e1 e2 => ?_, fun i j s t p e1 e2 m1 m2 e3 e4 => ?_⟩, fun a ⟨i, s, e1, m1, e2⟩ => ?_⟩
  · rcases old e1 with ⟨a, b⟩ | a
    · rw [b] at e2; exact h.slot i s v a e2
    · subst a; trivial
  · rcases old e1 with ⟨a, b⟩ | a
    · rcases old e2 with ⟨a', b'⟩ | a'
      · rw [b] at e3; rw [b'] at e4; exact h.apart i j s t p a a' m1 m2 e3 e4
      · subst a'; cases m2
    · subst a; cases m1
  · rcases old e1 with ⟨a, b⟩ | a
    · rw [b] at e2; exact ⟨i, s, a, m1, e2⟩
    · subst a; cases m1
/-- THE RULE of a def -/
theorem fnG {gu : Bool} {x qual : Str} {st : Stmt} {f : Addr} {fd : FuncData} {N ps : List Str} {k : Nat} {fB : En → Fl} (F : Fun K x qual st f fd) (S : FnScope N ps (defScope st))
    (hbody : ∀ (pd : Addr) (cdv : Value) (A : Around) (outer : List Env) (s : Shared) (H : Hp) (E : XK), Room k (A.deeper (envOfC qual (defScope st) s.heap.objs.size f cdv)) → (gu = true → A.guards = some []) →
      PSs (cxOf (L2.CX P w) P w K mg base N qual (defScope st) f cdv A outer s H E) (defBody st) (TSo { G with pd := pd } (fun cls d _ H => E cls d H) fB)) :
    FnG gu P w K mg base (k + 1) f fd ps (spD G (runF N.length ps.length fB)) := by
  obtain ⟨oc, od, kV, doc, pm, an, cdv, ct, osl, rfl, lk, hcd⟩ := F.ex
  have len : ∀ vs H Q E, spD G (runF N.length ps.length fB) vs H Q E → vs.length = ps.length := fun vs H Q E ⟨pd, F0, args, e, p⟩ => by
    have l := e.len
    rw [List.length_map] at l
    unfold runF at p
    split at p
    · rename_i hz
      split at hz
      · rename_i h0; rw [l]; exact h0
      · cases hz
    · rename_i hz
      split at hz
      · rename_i h0; rw [l]; exact h0
      · cases hz
    · exact p.elim
  refine ⟨len, fun A outer s H args us vs Q E hgu hr e0 hb r hsp => ?_⟩
  have hl := len vs H Q E hsp
  refine LamX.run_ofS lk hcd S hr e0 hb r hl fun hr' => ?_
  obtain ⟨pd, F0, ar, e, p⟩ := hsp
  refine ⟨_, hbody pd cdv A outer s H E hr' hgu, ?_⟩
  have hal : ar.length = ps.length := by rw [← e.len, List.length_map]; exact hl
  obtain ⟨e1, o1⟩ := rel_start (n := N.length) e hal
  have es : vs.map some ++ List.replicate (N.length - ps.length) none = L2.start N vs := by unfold L2.start; rw [hl]
  rw [es] at e1 o1
  refine ⟨F0, _, e1, ?_⟩
  unfold runF at p
  rw [if_pos hal] at p
  cases hf : fB (ar ++ List.replicate (N.length - ps.length) .no) with
  | nx r' =>
    simp only [hf] at p
    intro F' H' σ' g e'
    obtain ⟨a1, a2⟩ := (e'.val .non).leave rfl
    exact p F' H' .non (g.wide o1 fun a z => (g.own a (own_val e'.len (a2 a z))).imp (o1 a) id) a1
  | rt s' r' =>
    simp only [hf] at p
    split at p
    · rename_i hq
      split at hq
      · rename_i hio
        cases hq
        intro F' H' σ' v g e'
        obtain ⟨a1, a2⟩ := e'.leave hio
        exact p F' H' v (g.wide o1 fun a z => (g.own a (a2 a z)).imp (o1 a) id) a1
      · cases hq
    · rename_i hq
      split at hq
      · cases hq
      · cases hq
    · exact p.elim
  | ex c d r' =>
    simp only [hf] at p
    intro F' H' σ' cls dd g e' x
    exact p F' H' cls dd (g.wide o1 fun a z => z.elim) ⟨e'.sub, e'.ntb, e'.tabs, rfl, fun i s v e1 => by simp at e1, fun i j s t p e1 => by simp at e1⟩ x
  | bk r' => simp only [hf] at p
  | ct r' => simp only [hf] at p
  | st => simp only [hf] at p
end
end DL
set_option maxHeartbeats 4000000
/-! DLg: calls of defs. -/
namespace DL
open PySem PyProof.Rows L2
section
variable {G : Gm} {W : WX} {F H F1 H1 F' H' : Hp} {σ σ1 : L2.St} {r r1 : En} {X : Cx} {a b c tg : Expr} {pos : Pos} {f g : En → R D}
/-- the callee runs, from a place where W is wished of exceptions -/
theorem run_fnG {gu : Bool} {k : Nat} {f : Addr} {fd : FuncData} {ps : List Str} {sp : Sp} {pins : List (Addr × Obj)} {σ : L2.St} {H : Hp} {s : Shared} {Q : VK} {us : List Value} {vs : List V} (Fn : FnG gu X.prog X.w X.K X.mg X.base k f fd ps sp) (hr : Room k X.A) (hgu : gu = true → X.A.guards = some [])
    (hb : Binds X.K fd ps []) (tk : Takes X W) (I : L2.Inv X pins σ H s) (rv : Vals vs us) (h : sp vs H Q (fun cls d H => W cls d σ H)) : wpAny (model X.prog X.w) X.A (call (.ref f) us) (EP X pins σ Q) X.xe s := by
  have hl : us.length = ps.length := by rw [← rv.length]; exact Fn.len _ _ _ _ h
  have bt := hb s us I.kIn (by rw [List.append_nil]; exact hl)
  rw [List.append_nil] at bt
  refine wpAny_call (codeAny_mono (Fn.run X.A X.stack s H ⟨us, []⟩ us vs Q _ hgu hr I.env0 bt rv h) fun res s' hq => ?_)
  cases res with
  | error e => exact passAt tk σ pins H s e s' I hq
  | ok fl =>
    cases fl with
    | ret u => exact I.after hq
    | next => exact False.elim hq
    | brk => exact False.elim hq
    | cont => exact False.elim hq
def tCallG (sp : Sp) (W : WX) (t : TA) : TE := fun σ H Q => t σ H fun vs H1 => sp vs H1 Q (fun cls d H => W cls d σ H)
theorem pe_callG {gu : Bool} {k : Nat} {f : Addr} {fd : FuncData} {ps : List Str} {sp : Sp} {x : Str} {p : Pos} {e : Expr} {es : List Expr} {t : TA} (Fn : FnG gu X.prog X.w X.K X.mg X.base k f fd ps sp) (hr : Room k X.A) (hgu : gu = true → X.A.guards = some []) (hm : X.mg x = some (.ref f)) (hk : PySem.W.keepIn X.K (.ref f) = true)
    (hb : Binds X.K fd ps []) (tk : Takes X W) (ha : PA X (e :: es) t) (hg : Gl X x := by rfl) (hdb : (x == ("__debug__" : Str)) = false := by decide) (he : starEach (e :: es) X.env = (false, eval e X.env) :: starEach es X.env := by rfl) (hpl : (backTo pos (starEach es X.env)).any (·.1) = false := by rfl) :
    PE X (.Call (.Name x p) (e :: es) [] pos) (tCallG sp W t) := ⟨fun pins s σ H Q I h => by
  refine wpAny_Call_Name_kw (ld_glob I hg hm ?_ hdb)
  exact PySem.W.callWith_K (h₀ := X.base) I.ok.mod.kin hk (thn (ha.run pos pins s σ H _ I h) fun us s1 ⟨vs, H1, I1, rv, q⟩ => ⟨I1.kIn, run_fnG Fn hr hgu hb tk I1 rv q⟩) he hpl⟩
theorem pe_callG0 {gu : Bool} {k : Nat} {f : Addr} {fd : FuncData} {ps : List Str} {sp : Sp} {x : Str} {p : Pos} (Fn : FnG gu X.prog X.w X.K X.mg X.base k f fd ps sp) (hr : Room k X.A) (hgu : gu = true → X.A.guards = some []) (hm : X.mg x = some (.ref f)) (hk : PySem.W.keepIn X.K (.ref f) = true)
    (hb : Binds X.K fd ps []) (tk : Takes X W) (hg : Gl X x := by rfl) (hdb : (x == ("__debug__" : Str)) = false := by decide) :
    PE X (.Call (.Name x p) [] [] pos) (tCallG sp W tNil) := ⟨fun pins s σ H Q I h => by
  refine wpAny_Call_Name_kw (ld_glob I hg hm ?_ hdb)
  exact PySem.W.callWith_K0 I.kIn hk (run_fnG (us := []) Fn hr hgu hb tk I .nil h)⟩
/-- behind what owns nothing of ours -/
theorem Rel.pass {O O' : Addr → Prop} (h : Rel G F H σ r) (g : Go F H O F' H' O') (hO : ∀ a, O a → ¬ oA σ r a) (hs : Sub F' H') (hn : ∀ a ps, F' a ≠ some (.tbl ps)) (ht : LamX.Tabs G.T H') : Rel G F' H' σ r := by
  refine ⟨hs, hn, ht, h.len, fun i s v e1 e2 => (h.slot i s v e1 e2).mono g.sub fun p m ev => ?_, h.apart⟩
  subst ev
  have hp : oA σ r p := ⟨i, s, e1, m, e2⟩
  obtain ⟨n1, o, n2, n3⟩ := h.own hp
  refine ⟨?_, fun o' q1 q2 => g.keep p o' q1 (fun z => hO p z hp) q2⟩
  cases q : F' p with
  | none => rfl
  | some u =>
    rcases g.new p u q with z | z | z
    · rw [n1] at z; cases z
    · rw [n2] at z; cases z
    · exact absurd hp (hO p z)
theorem rel_vals {vs : List V} {ds : List D} (h : Rel G F H σ r) (q : RpL G F vs ds) (pd : Addr) : Rel { G with pd := pd } F H (vs.map some) (ds.map Sl.vl) ∧ ∀ a, ¬ oA (vs.map some) (ds.map Sl.vl) a := by
  have nm : ∀ {i : Nat} {s : Sl}, (ds.map Sl.vl)[i]? = some s → ∃ d, ds[i]? = some d ∧ s = .vl d := fun {i s} e => by
    rw [List.getElem?_map] at e
    cases hd : ds[i]? with
    | none => rw [hd] at e; cases e
    | some d => rw [hd] at e; exact ⟨d, rfl, (Option.some.inj e).symm⟩
  refine ⟨⟨h.sub, h.ntb, h.tabs, by rw [List.length_map, List.length_map]; exact q.len, fun i s v e1 e2 => ?_, fun i j s t p e1 e2 m1 => ?_⟩, fun a ⟨i, s, e1, m, e2⟩ => ?_⟩
  · obtain ⟨d, hd, es⟩ := nm e1
    subst es
    obtain ⟨x, hx, qx⟩ := q.get hd
    rw [List.getElem?_map, hx] at e2
    cases e2
    exact ⟨x, rfl, qx⟩
  · obtain ⟨d, _, es⟩ := nm e1
    subst es
    cases m1
  · obtain ⟨d, _, es⟩ := nm e1
    subst es
    cases m
/-- f(e, ..), whose arguments are data -/
def xCall (fD : En → Rf) (fs : En → R (List D)) : En → R Sl := fun r => (fs r).bind fun ds r1 => match fD (ds.map .vl) with
  | .rt s none => .ok s r1
  | .ex c d => .ex c d r1
  | _ => .st
theorem tCallG_of {fD : En → Rf} {fs : En → R (List D)} (σ : L2.St) (H : Hp) (Q : VK) : TXo G W (xCall fD fs) σ H Q → tCallG (spD G fD) W (TAo G W fs) σ H Q := fun ⟨F, r, e, p⟩ => by
  refine ⟨F, r, e, ?_⟩
  unfold xCall at p
  cases hf : fs r with
  | st => rw [hf] at p; exact p
  | ex c d r' => rw [hf] at p; exact p
  | ok ds r1 =>
    rw [hf] at p
    simp only [R.bind] at p
    intro F1 H1 vs g1 e1 q
    obtain ⟨ea, na⟩ := rel_vals e1 q G.pd
    refine ⟨G.pd, F1, ds.map .vl, ea, ?_⟩
    cases hd : fD (ds.map .vl) with
    | st => rw [hd] at p; exact p
    | ex c d =>
      rw [hd] at p
      intro F' H' cls dd g e' x
      exact p F' H' cls dd (g1.trans (g.wide (fun a z => (na a z).elim) fun a z => .inl z)) (e1.pass g (fun a z => (na a z).elim) e'.sub e'.ntb e'.tabs) x
    | rt s io =>
      rw [hd] at p
      cases io with
      | some _ => exact p.elim
      | none =>
        simp only at p
        intro F' H' v g e'
        have e2 := e1.pass g (fun a z => (na a z).elim) e'.sub e'.ntb e'.tabs
        have hs : SlOk G F' H' (some v) s := e'.slot 0 s (some v) rfl rfl
        have own0 : ∀ p, s.mine = true → v = .ref p → H1 p = none := fun p m ev => by
          rcases g.own p ⟨0, s, rfl, m, congrArg (fun z => some (some z)) ev⟩ with z | z
          · exact (na p z).elim
          · exact z
        refine p F' H' v (g1.trans (g.wide (fun a z => (na a z).elim) fun a z => ?_)) (e2.snoc hs fun p m ev z => ?_)
        · rcases own_snoc e2.len z with z | ⟨m, ev⟩
          · exact .inl z
          · exact .inr (own0 a m ev)
        · obtain ⟨_, o, eo, _⟩ := e1.own z
          rw [own0 p m ev] at eo
          cases eo
theorem dx_call {gu : Bool} {k : Nat} {fa : Addr} {fd : FuncData} {ps : List Str} {fD : En → Rf} {x : Str} {p : Pos} {e : Expr} {es : List Expr} {fs : En → R (List D)} (Fn : FnG gu X.prog X.w X.K X.mg X.base k fa fd ps (spD G fD)) (hr : Room k X.A) (hgu : gu = true → X.A.guards = some []) (hm : X.mg x = some (.ref fa)) (hk : PySem.W.keepIn X.K (.ref fa) = true)
    (hb : Binds X.K fd ps []) (tk : Takes X W) (ha : PA X (e :: es) (TAo G W fs)) (hg : Gl X x := by rfl) (hdb : (x == ("__debug__" : Str)) = false := by decide) (he : starEach (e :: es) X.env = (false, eval e X.env) :: starEach es X.env := by rfl) (hpl : (backTo pos (starEach es X.env)).any (·.1) = false := by rfl) :
    PE X (.Call (.Name x p) (e :: es) [] pos) (TXo G W (xCall fD fs)) := pe_of (pe_callG Fn hr hgu hm hk hb tk ha hg hdb he hpl) tCallG_of
/-- f(x, e, ..), the first one a list of ours that the callee may change -/
def xCallI (i : Nat) (fD : En → Rf) (fs : En → R (List D)) : En → R Sl := fun r => if Sl.isM r[i]? = true then (fs r).bind fun es r1 => match r1[i]? with
  | some s0 => match s0.mut with
    | some ds => match fD (.io ds :: es.map .vl) with
      | .rt s (some ds') => .ok s (r1.set i (s0.put ds'))
      | _ => .st
    | none => .st
  | none => .st
  else .st
theorem tCallI_of {i : Nat} {fD : En → Rf} {fs : En → R (List D)} (σ : L2.St) (H : Hp) (Q : VK) : TXo G W (xCallI i fD fs) σ H Q → tCallG (spD G fD) W (tCons (tVar i) (TAo G W fs)) σ H Q := fun ⟨F, r, e, p⟩ => by
  unfold xCallI at p
  by_cases hh : Sl.isM r[i]? = true
  case neg => rw [if_neg hh] at p; exact p.elim
  rw [if_pos hh] at p
  obtain ⟨pa, vs0, hv, hp0⟩ := e.isM hh
  refine ⟨_, hv, F, r, e, ?_⟩
  cases hf : fs r with
  | st => rw [hf] at p; exact p
  | ex c d r' => rw [hf] at p; exact p
  | ok es r1 =>
    rw [hf] at p
    simp only [R.bind] at p
    intro F1 H1 vs g1 e1 q
    cases hs0 : r1[i]? with
    | none => rw [hs0] at p; exact p.elim
    | some s0 =>
      rw [hs0] at p
      cases hds : s0.mut with
      | none => simp only [hds] at p
      | some ds =>
        simp only [hds] at p
        obtain ⟨pa', vsl, ev, h1, h2, h3, mine⟩ := (e1.slot i s0 _ hs0 hv).mut hds
        cases ev
        have hown : oA σ r1 pa := ⟨i, s0, hs0, mine, hv⟩
        obtain ⟨ea, na⟩ := rel_vals e1 q pa
        -- the arguments
        have ea2 : Rel { G with pd := pa } F1 H1 ((V.ref pa :: vs).map some) (.io ds :: es.map .vl) := by
          refine ⟨e1.sub, e1.ntb, e1.tabs, by have := ea.len; simp only [List.map_cons, List.length_cons]; rw [this], fun j s v f1 f2 => ?_, fun j k s t p' f1 f2 m1 m2 f3 f4 => ?_⟩
          · cases j with
            | zero => cases f1; cases f2; exact ⟨rfl, h1, vsl, h2, h3⟩
            | succ j => exact ea.slot j s v f1 f2
          · cases j with
            | zero =>
              cases k with
              | zero => rfl
              | succ k => exact ((na p') ⟨k, t, f2, m2, f4⟩).elim
            | succ j => exact ((na p') ⟨j, s, f1, m1, f3⟩).elim
        have oa2 : ∀ a, oA ((V.ref pa :: vs).map some) (.io ds :: es.map .vl) a → a = pa := fun a ⟨j, s, f1, m, f2⟩ => by
          cases j with
          | zero => cases f2; rfl
          | succ j => exact ((na a) ⟨j, s, f1, m, f2⟩).elim
        refine ⟨pa, F1, _, ea2, ?_⟩
        cases hd : fD (.io ds :: es.map .vl) with
        | st => rw [hd] at p; exact p
        | ex c d => rw [hd] at p; exact p.elim
        | rt s io =>
          rw [hd] at p
          cases io with
          | none => exact p.elim
          | some ds' =>
            simp only at p
            intro F' H' v g e'
            obtain ⟨_, hF', vl', hH', hv'⟩ : SlOk { G with pd := pa } F' H' (some (.ref pa)) (.io ds') := e'.slot 1 (.io ds') _ rfl rfl
            have hs : SlOk { G with pd := pa } F' H' (some v) s := e'.slot 0 s (some v) rfl rfl
            have hil : i < r1.length := (List.getElem?_eq_some_iff.mp hs0).1
            have hmine : (s0.put ds').mine = true := by cases s0 <;> first | rfl | cases hds
            have other : ∀ j t p', j ≠ i → r1[j]? = some t → t.mine = true → σ[j]? = some (some (.ref p')) → p' ≠ pa := fun j t p' hj f1 m f2 z => by
              subst z
              exact hj (e1.apart j i t s0 p' f1 hs0 m mine f2 hv)
            have e2 : Rel G F' H' σ (r1.set i (s0.put ds')) := by
              refine ⟨e'.sub, e'.ntb, e'.tabs, by rw [List.length_set]; exact e1.len, fun j t w f1 f2 => ?_, fun j k t u p' f1 f2 m1 m2 f3 f4 => ?_⟩
              · rcases get_set f1 with ⟨a1, b1, _⟩ | ⟨a1, b1⟩
                · subst a1 b1
                  rw [hv] at f2; cases f2
                  cases s0 with
                  | no => cases hds
                  | od _ => cases hds
                  | fr _ => cases hds
                  | vl _ => cases hds
                  | ow _ => exact ⟨pa, rfl, hF', vl', hH', hv'⟩
                  | io _ =>
                    obtain ⟨e5, _⟩ := e1.slot j _ _ hs0 hv
                    cases e5
                    exact ⟨rfl, hF', vl', hH', hv'⟩
                · refine (e1.slot j t w b1 f2).mono g.sub fun p' m ew => ?_
                  subst ew
                  have hne := other j t p' a1 b1 m f2
                  obtain ⟨n1, o, n2, n3⟩ := e1.own ⟨j, t, b1, m, f2⟩
                  refine ⟨?_, fun o' q1 q2 => g.keep p' o' q1 (fun z => hne (oa2 _ z)) q2⟩
                  cases q : F' p' with
                  | none => rfl
                  | some u =>
                    rcases g.new p' u q with z | z | z
                    · rw [n1] at z; cases z
                    · rw [n2] at z; cases z
                    · exact absurd (oa2 _ z) hne
              · have old : ∀ {m : Nat} {w : Sl}, (r1.set i (s0.put ds'))[m]? = some w → w.mine = true → ∃ w', r1[m]? = some w' ∧ w'.mine = true := fun {m w} ee mw => by
                  rcases get_set ee with ⟨a1, b1, _⟩ | ⟨_, b1⟩
                  · subst a1; exact ⟨s0, hs0, mine⟩
                  · exact ⟨w, b1, mw⟩
                obtain ⟨t', b1, c1⟩ := old f1 m1
                obtain ⟨u', b2, c2⟩ := old f2 m2
                exact e1.apart j k t' u' p' b1 b2 c1 c2 f3 f4
            have oset : ∀ a, oA σ (r1.set i (s0.put ds')) a → oA σ r1 a := fun a ⟨j, t, f1, m, f2⟩ => by
              rcases get_set f1 with ⟨a1, b1, _⟩ | ⟨_, b1⟩
              · subst a1; exact ⟨j, s0, hs0, mine, f2⟩
              · exact ⟨j, t, b1, m, f2⟩
            -- the value's own list is none of ours
            have nio : ∀ p', s.mine = true → v = .ref p' → p' ≠ pa := fun p' m ev z => by
              subst ev z
              have := e'.apart 0 1 s (.io ds') p' rfl rfl m rfl rfl rfl
              cases this
            have own0 : ∀ p', s.mine = true → v = .ref p' → H1 p' = none := fun p' m ev => by
              rcases g.own p' ⟨0, s, rfl, m, congrArg (fun z => some (some z)) ev⟩ with z | z
              · exact absurd (oa2 _ z) (nio p' m ev)
              · exact z
            have hs2 : SlOk G F' H' (some v) s := by
              cases s with
              | io _ =>
                exfalso
                obtain ⟨e5, _⟩ := hs
                cases e5
                exact nio pa rfl rfl rfl
              | _ => exact hs
            refine p F' H' v (g1.trans (g.wide (fun a z => by rw [oa2 a z]; exact hown) fun a z => ?_)) (e2.snoc hs2 fun p' m ev z => ?_)
            · rcases own_snoc e2.len z with z | ⟨m, ev⟩
              · exact .inl (oset a z)
              · exact .inr (own0 a m ev)
            · obtain ⟨_, o, eo, _⟩ := e1.own (oset _ z)
              rw [own0 p' m ev] at eo
              cases eo
theorem dx_callI {i : Nat} {gu : Bool} {k : Nat} {fa : Addr} {fd : FuncData} {ps : List Str} {fD : En → Rf} {x y : Str} {p py : Pos} {es : List Expr} {fs : En → R (List D)} (Fn : FnG gu X.prog X.w X.K X.mg X.base k fa fd ps (spD G fD)) (hr : Room k X.A) (hgu : gu = true → X.A.guards = some []) (hm : X.mg x = some (.ref fa)) (hk : PySem.W.keepIn X.K (.ref fa) = true)
    (hb : Binds X.K fd ps []) (tk : Takes X W) (ha : PA X es (TAo G W fs)) (hN : X.N[i]? = some y := by rfl) (hv : Vis X.env.scope y := by first | exact Or.inl rfl | exact Or.inr (Or.inl rfl) | exact Or.inr (Or.inr rfl)) (hg : Gl X x := by rfl) (hdb : (x == ("__debug__" : Str)) = false := by decide)
    (hdy : (y == ("__debug__" : Str)) = false := by decide) (hcy : (y == ("__classdict__" : Str)) = false := by decide) (he : starEach (.Name y py :: es) X.env = (false, eval (.Name y py) X.env) :: starEach es X.env := by rfl) (hpl : (backTo pos (starEach es X.env)).any (·.1) = false := by rfl) :
    PE X (.Call (.Name x p) (.Name y py :: es) [] pos) (TXo G W (xCallI i fD fs)) := pe_of (pe_callG Fn hr hgu hm hk hb tk (pa_cons (pe_var hN hv hdy hcy) ha he) hg hdb he hpl) tCallI_of
/-- f(x, e, ..), the first one a list that is read alone -/
def xCallR (i : Nat) (fD : En → Rf) (fs : En → R (List D)) : En → R Sl := fun r => match r[i]? with
  | some (.fr xs) => (fs r).bind fun es r1 => match fD (.fr xs :: es.map .vl) with
    | .rt s none => .ok s r1
    | _ => .st
  | _ => .st
theorem tCallR_of {i : Nat} {fD : En → Rf} {fs : En → R (List D)} (σ : L2.St) (H : Hp) (Q : VK) : TXo G W (xCallR i fD fs) σ H Q → tCallG (spD G fD) W (tCons (tVar i) (TAo G W fs)) σ H Q := fun ⟨F, r, e, p⟩ => by
  unfold xCallR at p
  cases hs0 : r[i]? with
  | none => rw [hs0] at p; exact p.elim
  | some s0 =>
    rw [hs0] at p
    cases s0 with
    | fr xs =>
      simp only at p
      obtain ⟨v, hv, pa, vl, ev, h1, h2⟩ := e.at hs0
      subst ev
      refine ⟨_, hv, F, r, e, ?_⟩
      cases hf : fs r with
      | st => rw [hf] at p; exact p
      | ex c d r' => rw [hf] at p; exact p
      | ok es r1 =>
        rw [hf] at p
        simp only [R.bind] at p
        intro F1 H1 vs g1 e1 q
        obtain ⟨ea, na⟩ := rel_vals e1 q G.pd
        have ea2 : Rel { G with pd := G.pd } F1 H1 ((V.ref pa :: vs).map some) (.fr xs :: es.map .vl) := by
          refine ⟨e1.sub, e1.ntb, e1.tabs, by have := ea.len; simp only [List.map_cons, List.length_cons]; rw [this], fun j s v f1 f2 => ?_, fun j k s t p' f1 f2 m1 m2 f3 f4 => ?_⟩
          · cases j with
            | zero => cases f1; cases f2; exact ⟨pa, vl, rfl, g1.sub.l h1, h2.mono g1.sub⟩
            | succ j => exact ea.slot j s v f1 f2
          · cases j with
            | zero => cases f1; cases m1
            | succ j => exact ((na p') ⟨j, s, f1, m1, f3⟩).elim
        have oa2 : ∀ a, ¬ oA ((V.ref pa :: vs).map some) (.fr xs :: es.map .vl) a := fun a ⟨j, s, f1, m, f2⟩ => by
          cases j with
          | zero => cases f1; cases m
          | succ j => exact ((na a) ⟨j, s, f1, m, f2⟩).elim
        refine ⟨G.pd, F1, _, ea2, ?_⟩
        cases hd : fD (.fr xs :: es.map .vl) with
        | st => rw [hd] at p; exact p
        | ex c d => rw [hd] at p; exact p.elim
        | rt s io =>
          rw [hd] at p
          cases io with
          | some _ => exact p.elim
          | none =>
            simp only at p
            intro F' H' v g e'
            have e2 := e1.pass g (fun a z => (oa2 a z).elim) e'.sub e'.ntb e'.tabs
            have hs : SlOk G F' H' (some v) s := e'.slot 0 s (some v) rfl rfl
            have own0 : ∀ p, s.mine = true → v = .ref p → H1 p = none := fun p m ev => by
              rcases g.own p ⟨0, s, rfl, m, congrArg (fun z => some (some z)) ev⟩ with z | z
              · exact (oa2 p z).elim
              · exact z
            refine p F' H' v (g1.trans (g.wide (fun a z => (oa2 a z).elim) fun a z => ?_)) (e2.snoc hs fun p m ev z => ?_)
            · rcases own_snoc e2.len z with z | ⟨m, ev⟩
              · exact .inl z
              · exact .inr (own0 a m ev)
            · obtain ⟨_, o, eo, _⟩ := e1.own z
              rw [own0 p m ev] at eo
              cases eo
    | _ => exact p.elim
theorem dx_callR {i : Nat} {gu : Bool} {k : Nat} {fa : Addr} {fd : FuncData} {ps : List Str} {fD : En → Rf} {x y : Str} {p py : Pos} {es : List Expr} {fs : En → R (List D)} (Fn : FnG gu X.prog X.w X.K X.mg X.base k fa fd ps (spD G fD)) (hr : Room k X.A) (hgu : gu = true → X.A.guards = some []) (hm : X.mg x = some (.ref fa)) (hk : PySem.W.keepIn X.K (.ref fa) = true)
    (hb : Binds X.K fd ps []) (tk : Takes X W) (ha : PA X es (TAo G W fs)) (hN : X.N[i]? = some y := by rfl) (hv : Vis X.env.scope y := by first | exact Or.inl rfl | exact Or.inr (Or.inl rfl) | exact Or.inr (Or.inr rfl)) (hg : Gl X x := by rfl) (hdb : (x == ("__debug__" : Str)) = false := by decide)
    (hdy : (y == ("__debug__" : Str)) = false := by decide) (hcy : (y == ("__classdict__" : Str)) = false := by decide) (he : starEach (.Name y py :: es) X.env = (false, eval (.Name y py) X.env) :: starEach es X.env := by rfl) (hpl : (backTo pos (starEach es X.env)).any (·.1) = false := by rfl) :
    PE X (.Call (.Name x p) (.Name y py :: es) [] pos) (TXo G W (xCallR i fD fs)) := pe_of (pe_callG Fn hr hgu hm hk hb tk (pa_cons (pe_var hN hv hdy hcy) ha he) hg hdb he hpl) tCallR_of
end
end DL
set_option maxHeartbeats 4000000
/-! DLh: operations by data. -/
namespace DL
open PySem PyProof.Rows L2
section
variable {G : Gm} {X : Cx}
/-! ### numbers -/
def rAddA (K : PySem.W.Frag) : R2 := fun x y H Q => rI0 (fun i j => .int (i + j)) x y H Q ∨ (∃ i j, x = .str i ∧ y = .str j ∧ i.length + j.length ≤ sizeLine ∧ Q (.str (i ++ j)) H) ∨ rCatA K x y H Q
theorem op_addA : OpR X (binaryOp .Add) (rAddA X.K) := op_add.or (op_add_str.or op_catA)
def oAdd : D → D → Option D
  | .int i, .int j => some (.int (i + j))
  | .str x, .str y => if x.length + y.length ≤ 1000000 then some (.str (x ++ y)) else none
  | .tuple xs, .tuple ys => if xs.length + ys.length ≤ 1000000 then some (.tuple (xs ++ ys)) else none
  | _, _ => none
theorem rp_int {F : Hp} {v : V} {i : Int} (h : Rp G F v (.int i)) : v = .int i := by cases h; rfl
theorem rp_str {F : Hp} {v : V} {i : Str} (h : Rp G F v (.str i)) : v = .str i := by cases h; rfl
theorem rp_bl {F : Hp} {v : V} {i : Bool} (h : Rp G F v (.bool i)) : v = .bl i := by cases h; rfl
theorem rp_non {F : Hp} {v : V} (h : Rp G F v .none) : v = .non := by cases h; rfl
theorem rp_tup {F : Hp} {v : V} {ds : List D} (h : Rp G F v (.tuple ds)) : ∃ a xs, v = .ref a ∧ SqT G.K F a xs ∧ RpL G F xs ds := by cases h with | tup h1 h2 => exact ⟨_, _, rfl, h1, h2⟩
theorem rp_lst {F : Hp} {v : V} {ds : List D} (h : Rp G F v (.list ds)) : ∃ a xs, v = .ref a ∧ F a = some (.lst xs) ∧ RpL G F xs ds := by cases h with | lst h1 h2 => exact ⟨_, _, rfl, h1, h2⟩
theorem new_tup {F H : Hp} {Q : VK} {vs : List V} {ds : List D} {d : D} (hs : Sub F H) (q : RpL G F vs ds) (hd : d = .tuple ds) (k : ∀ F' H' z, Ext F H F' H' → Rp G F' z d → Q z H') : ∀ p, H p = none → Q (.ref p) (upd H p (.tup vs)) := fun p hp => by
  subst hd
  have hF : F p = none := by
    cases e : F p with
    | none => rfl
    | some u => rw [hs p u e] at hp; cases hp
  exact k _ _ _ (Ext.new hs hp (by intro ps z; cases z)) (.tup (SqT.of upd_same) (q.mono (sub_upd hF)))
theorem od_add : OpD G (rAddA G.K) oAdd := fun x y d F H v w Q h hs q1 q2 k => by
  unfold oAdd at h
  split at h
  · cases h
    rw [rp_int q1, rp_int q2]
    exact .inl ⟨_, _, rfl, rfl, k _ _ _ (Ext.refl _ _) (.int _)⟩
  · split at h
    · rename_i hz
      cases h
      rw [rp_str q1, rp_str q2]
      exact .inr (.inl ⟨_, _, rfl, rfl, small6 hz, k _ _ _ (Ext.refl _ _) (.str _)⟩)
    · cases h
  · split at h
    · rename_i xs ys hz
      cases h
      obtain ⟨a, vs, rfl, h1, h2⟩ := rp_tup q1
      obtain ⟨b, ws, rfl, h3, h4⟩ := rp_tup q2
      refine .inr (.inr ⟨a, b, vs, ws, rfl, rfl, hs.t h1, hs.t h3, small6 (by rw [h2.len, h4.len]; exact hz), fun e => ?_, fun e e' => ?_, fun e e' => ?_⟩)
      · subst e
        cases h2
        exact k _ _ _ (Ext.refl _ _) q2
      · subst e'
        cases h4
        rw [List.append_nil] at k
        exact k _ _ _ (Ext.refl _ _) q1
      · exact new_tup hs (h2.append h4) rfl k
    · cases h
  · cases h
def rIntD (C : Int → Int → Bool) (g : Int → Int → Int) : D → D → Option D
  | .int i, .int j => if C i j = true then some (.int (g i j)) else none
  | _, _ => none
theorem od_int {C : Int → Int → Prop} {c : Int → Int → Bool} {g : Int → Int → Int} (hc : ∀ i j, c i j = true → C i j) : OpD G (rI C fun i j => .int (g i j)) (rIntD c g) := fun x y d F H v w Q h hs q1 q2 k => by
  unfold rIntD at h
  split at h
  · split at h
    · rename_i hz
      cases h
      rw [rp_int q1, rp_int q2]
      exact ⟨_, _, rfl, rfl, hc _ _ hz, k _ _ _ (Ext.refl _ _) (.int _)⟩
    · cases h
  · cases h
def oSub : D → D → Option D
  | .int i, .int j => some (.int (i - j))
  | _, _ => none
theorem od_sub : OpD G (rI0 fun i j => .int (i - j)) oSub := fun x y d F H v w Q h hs q1 q2 k => by
  unfold oSub at h
  split at h
  · cases h
    rw [rp_int q1, rp_int q2]
    exact ⟨_, _, rfl, rfl, k _ _ _ (Ext.refl _ _) (.int _)⟩
  · cases h
/-- a product that the machine takes -/
def mulOk (i j : Int) : Bool := decide (i.natAbs < 18446744073709551616) || decide (j.natAbs < 18446744073709551616) || decide (i.natAbs.log2 + j.natAbs.log2 < 1000000)
def oMul : D → D → Option D := rIntD mulOk (· * ·)
def CMulA (i j : Int) : Prop := CMul i j ∨ CMulW i j
theorem op_mulA : OpR X (binaryOp .Mult) (rI CMulA fun i j => .int (i * j)) := opI fun _ _ _ _ _ _ _ hc q => mul_int q (hc.elim (fun z => z.ok) fun z => z.ok)
theorem mulOk_of (i j : Int) (h : mulOk i j = true) : CMulA i j := by
  unfold mulOk at h
  simp only [Bool.or_eq_true, decide_eq_true_eq] at h
  rcases h with (h | h) | h
  · exact .inl (.inl ⟨by omega, by omega⟩)
  · exact .inl (.inr ⟨by omega, by omega⟩)
  · exact .inr h
theorem od_mul : OpD G (rI CMulA fun i j => .int (i * j)) oMul := od_int mulOk_of
def divOk (j : Int) : Bool := decide (0 < j) && (decide (j < 1073741824) || decide (j.natAbs.log2 < 9000))
def rDivA : R2 := fun x y H Q => rI (fun i j => CDiv i j ∨ CDivW i j) (fun i j => .int (i / j)) x y H Q ∨ rI CDivN (fun i j => .int (i.fdiv j)) x y H Q
theorem op_div0 : OpR X (binaryOp .FloorDiv) (rI (fun i j => CDiv i j ∨ CDivW i j) fun i j => .int (i / j)) := fun pins s σ H x y v u Q I rx ry ⟨i, j, e1, e2, hc, q⟩ => by
  rcases hc with hc | hc
  · exact op_fdiv pins s σ H x y v u Q I rx ry ⟨i, j, e1, e2, hc, q⟩
  · exact op_fdivW pins s σ H x y v u Q I rx ry ⟨i, j, e1, e2, hc, q⟩
theorem op_divA : OpR X (binaryOp .FloorDiv) rDivA := op_div0.or op_fdivN
def oDiv : D → D → Option D
  | .int i, .int j => if divOk j = true then some (.int (i / j)) else if (decide (j < 0) && decide (-1073741824 < j)) = true then some (.int (i.fdiv j)) else none
  | _, _ => none
theorem od_div : OpD G rDivA oDiv := fun x y d F H v w Q h hs q1 q2 k => by
  unfold oDiv at h
  split at h
  · rename_i i j
    rw [rp_int q1, rp_int q2]
    split at h
    · rename_i hz
      cases h
      unfold divOk at hz
      simp only [Bool.and_eq_true, Bool.or_eq_true, decide_eq_true_eq] at hz
      refine .inl ⟨_, _, rfl, rfl, ?_, k _ _ _ (Ext.refl _ _) (.int _)⟩
      rcases hz.2 with z | z
      · exact .inl ⟨hz.1, z⟩
      · exact .inr ⟨hz.1, z⟩
    · split at h
      · rename_i hz
        cases h
        simp only [Bool.and_eq_true, decide_eq_true_eq] at hz
        exact .inr ⟨_, _, rfl, rfl, ⟨by omega, by omega⟩, k _ _ _ (Ext.refl _ _) (.int _)⟩
      · cases h
  · cases h
def rModA : R2 := fun x y H Q => rI (fun _ j => 0 < j) (fun i j => .int (i % j)) x y H Q ∨ rI (fun _ j => j ≠ 0) (fun i j => .int (i.fmod j)) x y H Q
theorem op_modA : OpR X (binaryOp .Mod) rModA := op_mod.or op_modN
def oMod : D → D → Option D
  | .int i, .int j => if decide (0 < j) = true then some (.int (i % j)) else if decide (j < 0) = true then some (.int (i.fmod j)) else none
  | _, _ => none
theorem od_mod : OpD G rModA oMod := fun x y d F H v w Q h hs q1 q2 k => by
  unfold oMod at h
  split at h
  · rename_i i j
    rw [rp_int q1, rp_int q2]
    split at h
    · rename_i hz
      cases h
      exact .inl ⟨_, _, rfl, rfl, of_decide_eq_true hz, k _ _ _ (Ext.refl _ _) (.int _)⟩
    · split at h
      · rename_i hz
        cases h
        have := of_decide_eq_true hz
        exact .inr ⟨_, _, rfl, rfl, by omega, k _ _ _ (Ext.refl _ _) (.int _)⟩
      · cases h
  · cases h
def powOk (i j : Int) : Bool := decide (0 ≤ j) && decide (j ≤ 1000000) && decide (i.natAbs < 18446744073709551616)
def oPow : D → D → Option D := rIntD powOk fun i j => i ^ j.toNat
theorem od_pow : OpD G (rI CPow fun i j => .int (i ^ j.toNat)) oPow := od_int fun i j h => by
  unfold powOk at h
  simp only [Bool.and_eq_true, decide_eq_true_eq] at h
  exact ⟨h.1.1, h.1.2, h.2⟩
def oNeg : D → Option D
  | .int i => some (.int (-i))
  | _ => none
theorem ud_neg : UnD G (rU fun i => .int (-i)) oNeg := fun x d F H v Q h hs q k => by
  unfold oNeg at h
  split at h
  · cases h
    rw [rp_int q]
    exact ⟨_, rfl, k _ _ _ (Ext.refl _ _) (.int _)⟩
  · cases h

/-! ### comparisons -/
def cmpD (p : Int → Int → Bool) : D → D → Option D
  | .int i, .int j => some (.bool (p i j))
  | _, _ => none
theorem od_cmp {p : Int → Int → Bool} : OpD G (rI0 fun i j => .bl (p i j)) (cmpD p) := fun x y d F H v w Q h hs q1 q2 k => by
  unfold cmpD at h
  split at h
  · cases h
    rw [rp_int q1, rp_int q2]
    exact ⟨_, _, rfl, rfl, k _ _ _ (Ext.refl _ _) (.bl _)⟩
  · cases h
def oLt : D → D → Option D := cmpD fun i j => decide (i < j)
def oLe : D → D → Option D := cmpD fun i j => decide (i ≤ j)
def oGt : D → D → Option D := cmpD fun i j => decide (j < i)
def oGe : D → D → Option D := cmpD fun i j => decide (j ≤ i)
mutual
theorem RpI.dp {K : PySem.W.Frag} {fns : Nat → Option Addr} {F H : Hp} (s : Sub F H) : ∀ {v : V} {d : D}, RpI K fns F v d → d.canLay0 = true → Dp K H v d
  | _, _, .non, _ => .non
  | _, _, .bl b, _ => .bl b
  | _, _, .int i, _ => .int i
  | _, _, .str x, _ => .str x
  | _, _, .lst h hs, c => .lst (SqL.of (s _ _ h)) (RpLI.dp s hs (by simpa [PyData.canLay0] using c))
  | _, _, .tup h hs, c => .tup (s.t h) (RpLI.dp s hs (by simpa [PyData.canLay0] using c))
  | _, _, .dct _ _, c => by simp [PyData.canLay0] at c
  | _, _, .dcT _ _, c => by simp [PyData.canLay0] at c
  | _, _, .fn _, c => by simp [PyData.canLay0] at c
theorem RpLI.dp {K : PySem.W.Frag} {fns : Nat → Option Addr} {F H : Hp} (s : Sub F H) : ∀ {vs : List V} {ds : List D}, RpLI K fns F vs ds → PyData.canLayAll0 ds = true → DpAll K H vs ds
  | _, _, .nil, _ => .nil
  | _, _, .cons h hs, c => by
    simp only [PyData.canLayAll0, Bool.and_eq_true] at c
    exact .cons (RpI.dp s h c.1) (RpLI.dp s hs c.2)
end
def oEqB (x y : D) : Option Bool := match x, y with
  | .int i, .int j => some (i == j)
  | .str i, .str j => some (i == j)
  | x, y => if (SeqAt.shaped x && SeqAt.shaped y) = true then some (PyData.eqv x y) else none
theorem oEqB_is {x y : D} {b : Bool} (h : oEqB x y = some b) : (∃ i j, x = .str i ∧ y = .str j ∧ b = (i == j)) ∨ (SeqAt.shaped x = true ∧ SeqAt.shaped y = true ∧ b = PyData.eqv x y) := by
  unfold oEqB at h
  split at h
  · cases h; exact .inr ⟨by simp [SeqAt.shaped, PyData.canLay0, PyData.depth], by simp [SeqAt.shaped, PyData.canLay0, PyData.depth], by simp only [PyData.eqv]⟩
  · cases h; exact .inl ⟨_, _, rfl, rfl, rfl⟩
  · split at h
    · rename_i hz
      rw [Bool.and_eq_true] at hz
      cases h
      exact .inr ⟨hz.1, hz.2, rfl⟩
    · cases h
def oEq (x y : D) : Option D := (oEqB x y).map fun b => .bool b
def oNe (x y : D) : Option D := (oEqB x y).map fun b => .bool (!b)
def rEqZ (K : PySem.W.Frag) : R2 := fun x y H Q => rEq x y H Q ∨ rEqD K x y H Q
def rNeZ (K : PySem.W.Frag) : R2 := fun x y H Q => rNe x y H Q ∨ rNeD K x y H Q
theorem op_eqZ (hu : X.A.units + 64 < cLine) : OpR X (compareOp .Eq) (rEqZ X.K) := op_eq.or (op_eqD hu)
theorem op_neZ (hu : X.A.units + 64 < cLine) : OpR X (compareOp .NotEq) (rNeZ X.K) := op_ne.or (op_neD hu)
theorem od_eq : OpD G (rEqZ G.K) oEq := fun x y d F H v w Q h hs q1 q2 k => by
  unfold oEq at h
  cases hb : oEqB x y with
  | none => rw [hb] at h; cases h
  | some b =>
    rw [hb] at h
    cases h
    rcases oEqB_is hb with ⟨i, j, rfl, rfl, rfl⟩ | ⟨h1, h2, rfl⟩
    · rw [rp_str q1, rp_str q2]
      exact .inl ⟨rfl, by rw [dec_str]; exact k _ _ _ (Ext.refl _ _) (.bl _)⟩
    · exact .inr ⟨x, y, q1.dp hs (SeqAt.canLay_of_shaped h1), q2.dp hs (SeqAt.canLay_of_shaped h2), h1, h2, k _ _ _ (Ext.refl _ _) (.bl _)⟩
theorem od_ne : OpD G (rNeZ G.K) oNe := fun x y d F H v w Q h hs q1 q2 k => by
  unfold oNe at h
  cases hb : oEqB x y with
  | none => rw [hb] at h; cases h
  | some b =>
    rw [hb] at h
    cases h
    rcases oEqB_is hb with ⟨i, j, rfl, rfl, rfl⟩ | ⟨h1, h2, rfl⟩
    · rw [rp_str q1, rp_str q2]
      exact .inl ⟨rfl, by rw [dec_str]; exact k _ _ _ (Ext.refl _ _) (.bl _)⟩
    · exact .inr ⟨x, y, q1.dp hs (SeqAt.canLay_of_shaped h1), q2.dp hs (SeqAt.canLay_of_shaped h2), h1, h2, k _ _ _ (Ext.refl _ _) (.bl _)⟩
def isN : D → Bool
  | .none => true
  | _ => false
theorem isN_of {F : Hp} {v : V} {d : D} (q : Rp G F v d) : decide (v = .non) = isN d := by
  cases q <;> first | rfl | exact decide_eq_false (by intro z; cases z)
def oIsN : D → D → Option D
  | x, .none => some (.bool (isN x))
  | _, _ => none
def oNotN : D → D → Option D
  | x, .none => some (.bool (!isN x))
  | _, _ => none
theorem od_isN : OpD G (fun x y H Q => y = .non ∧ Q (.bl (decide (x = .non))) H) oIsN := fun x y d F H v w Q h hs q1 q2 k => by
  unfold oIsN at h
  split at h
  · cases h
    rw [rp_non q2]
    refine ⟨rfl, ?_⟩
    rw [isN_of q1]
    exact k _ _ _ (Ext.refl _ _) (.bl _)
  · cases h
theorem od_notN : OpD G (fun x y H Q => y = .non ∧ Q (.bl (!decide (x = .non))) H) oNotN := fun x y d F H v w Q h hs q1 q2 k => by
  unfold oNotN at h
  split at h
  · cases h
    rw [rp_non q2]
    refine ⟨rfl, ?_⟩
    rw [isN_of q1]
    exact k _ _ _ (Ext.refl _ _) (.bl _)
  · cases h

/-! ### items -/
def oIx : D → D → Option D
  | .list ds, .int k => atI ds k
  | .tuple ds, .int k => atI ds k
  | .str z, .int k => if z.length ≤ 1000000 then (atI z.cps.toList k).map fun c => .str ⟨#[c]⟩ else none
  | _, _ => none
theorem od_ix : OpD G (rIx G.K) oIx := fun x y d F H v w Q h hs q1 q2 k => by
  unfold oIx at h
  split at h
  · obtain ⟨a, xs, rfl, h1, h2⟩ := rp_lst q1
    rw [rp_int q2]
    obtain ⟨z, hz, qz⟩ := h2.atI h
    exact .inl ⟨a, xs, _, z, rfl, rfl, SqL.of (hs _ _ h1), hz, k _ _ _ (Ext.refl _ _) qz⟩
  · obtain ⟨a, xs, rfl, h1, h2⟩ := rp_tup q1
    rw [rp_int q2]
    obtain ⟨z, hz, qz⟩ := h2.atI h
    exact .inr (.inl ⟨a, xs, _, z, rfl, rfl, hs.t h1, hz, k _ _ _ (Ext.refl _ _) qz⟩)
  · rw [rp_str q1, rp_int q2]
    split at h
    · rename_i hl
      cases hc : atI _ _ with
      | none => rw [hc] at h; cases h
      | some c =>
        rw [hc] at h
        cases h
        exact .inr (.inr ⟨_, _, c, rfl, rfl, small6 hl, hc, k _ _ _ (Ext.refl _ _) (.str _)⟩)
    · cases h
  · cases h

/-! ### built-in functions -/
def cLen : List D → Option D
  | [.list ds] => some (.int ds.length)
  | [.tuple ds] => some (.int ds.length)
  | [.str z] => if z.length ≤ 1000000 then some (.int z.length) else none
  | _ => none
theorem one_of {F : Hp} {vs : List V} {d : D} (q : RpL G F vs [d]) : ∃ v, vs = [v] ∧ Rp G F v d := by
  cases q with
  | cons h t => cases t; exact ⟨_, rfl, h⟩
theorem two_of {F : Hp} {vs : List V} {d e : D} (q : RpL G F vs [d, e]) : ∃ v w, vs = [v, w] ∧ Rp G F v d ∧ Rp G F w e := by
  cases q with
  | cons h t => obtain ⟨w, rfl, h2⟩ := one_of t; exact ⟨_, _, rfl, h, h2⟩
def rLenA (K : PySem.W.Frag) : List V → Hp → VK → Prop := fun xs H Q => (∃ p ys, xs = [.ref p] ∧ (SqL K H p ys ∨ SqT K H p ys) ∧ Q (.int ys.length) H) ∨ ∃ z, xs = [.str z] ∧ z.length ≤ sizeLine ∧ Q (.int z.length) H
theorem call_lenA : CallR X (.builtin "len") (rLenA X.K) := fun pins s σ H xs us Q I r h => by
  rcases h with h | h
  · exact call_len_seq pins s σ H xs us Q I r h
  · exact call_len_str pins s σ H xs us Q I r h
theorem cd_len : CallD G (rLenA G.K) cLen := fun x d F H v Q h hs q k => by
  unfold cLen at h
  split at h
  · cases h
    obtain ⟨v, rfl, qa⟩ := one_of q
    obtain ⟨a, xs, rfl, h1, h2⟩ := rp_lst qa
    refine .inl ⟨a, xs, rfl, .inl (SqL.of (hs _ _ h1)), ?_⟩
    rw [h2.len]
    exact k _ _ _ (Ext.refl _ _) (.int _)
  · cases h
    obtain ⟨v, rfl, qa⟩ := one_of q
    obtain ⟨a, xs, rfl, h1, h2⟩ := rp_tup qa
    refine .inl ⟨a, xs, rfl, .inr (hs.t h1), ?_⟩
    rw [h2.len]
    exact k _ _ _ (Ext.refl _ _) (.int _)
  · split at h
    · rename_i hl
      cases h
      obtain ⟨v, rfl, qa⟩ := one_of q
      rw [rp_str qa]
      exact .inr ⟨_, rfl, small6 hl, k _ _ _ (Ext.refl _ _) (.int _)⟩
    · cases h
  · cases h
def cAbs : List D → Option D
  | [.int i] => some (.int (if i < 0 then -i else i))
  | _ => none
theorem cd_abs : CallD G (fun xs H Q => ∃ i, xs = [.int i] ∧ Q (.int (if i < 0 then -i else i)) H) cAbs := fun x d F H v Q h hs q k => by
  unfold cAbs at h
  split at h
  · cases h
    obtain ⟨v, rfl, qa⟩ := one_of q
    rw [rp_int qa]
    exact ⟨_, rfl, k _ _ _ (Ext.refl _ _) (.int _)⟩
  · cases h
def cMax2 : List D → Option D
  | [.int i, .int j] => some (.int (if j > i then j else i))
  | _ => none
theorem cd_max2 : CallD G (fun xs H Q => ∃ i j, xs = [.int i, .int j] ∧ Q (.int (if j > i then j else i)) H) cMax2 := fun x d F H v Q h hs q k => by
  unfold cMax2 at h
  split at h
  · cases h
    obtain ⟨v, w, rfl, qa, qb⟩ := two_of q
    rw [rp_int qa, rp_int qb]
    exact ⟨_, _, rfl, k _ _ _ (Ext.refl _ _) (.int _)⟩
  · cases h
def cMin2 : List D → Option D
  | [.int i, .int j] => some (.int (if j < i then j else i))
  | _ => none
theorem cd_min2 : CallD G (fun xs H Q => ∃ i j, xs = [.int i, .int j] ∧ Q (.int (if j < i then j else i)) H) cMin2 := fun x d F H v Q h hs q k => by
  unfold cMin2 at h
  split at h
  · cases h
    obtain ⟨v, w, rfl, qa, qb⟩ := two_of q
    rw [rp_int qa, rp_int qb]
    exact ⟨_, _, rfl, k _ _ _ (Ext.refl _ _) (.int _)⟩
  · cases h
def cInt : List D → Option D
  | [.int i] => some (.int i)
  | [.bool b] => some (.int (if b then 1 else 0))
  | _ => none
theorem cd_int : CallD G (fun xs H Q => (∃ i, xs = [.int i] ∧ Q (.int i) H) ∨ ∃ k, xs = [.bl k] ∧ Q (.int (if k then 1 else 0)) H) cInt := fun x d F H v Q h hs q k => by
  unfold cInt at h
  split at h
  · cases h
    obtain ⟨v, rfl, qa⟩ := one_of q
    rw [rp_int qa]
    exact .inl ⟨_, rfl, k _ _ _ (Ext.refl _ _) (.int _)⟩
  · cases h
    obtain ⟨v, rfl, qa⟩ := one_of q
    rw [rp_bl qa]
    exact .inr ⟨_, rfl, k _ _ _ (Ext.refl _ _) (.int _)⟩
  · cases h
/-- the whole numbers of a list of such -/
def intsD : List D → Option (List Int)
  | [] => some []
  | .int i :: r => (intsD r).map (i :: ·)
  | _ :: _ => none
theorem ints_is : ∀ {ds : List D} {ns : List Int}, intsD ds = some ns → ds = ns.map PyData.int
  | [], ns, h => by cases h; rfl
  | d :: r, ns, h => by
    cases d with
    | int i =>
      unfold intsD at h
      cases hr : intsD r with
      | none => rw [hr] at h; cases h
      | some ms => rw [hr] at h; cases h; rw [ints_is hr]; rfl
    | _ => cases h
theorem rp_ints {F : Hp} : ∀ {ns : List Int} {vs : List V}, RpL G F vs (ns.map PyData.int) → vs = ns.map V.int
  | [], _, q => by cases q; rfl
  | n :: ns, _, q => by
    cases q with
    | cons h t => rw [rp_int h, rp_ints t]; rfl
theorem rp_intsO {F : Hp} {ds : List D} {ns : List Int} {vs : List V} (h : intsD ds = some ns) (q : RpL G F vs ds) : vs = ns.map V.int := by
  rw [ints_is h] at q
  exact rp_ints q
/-- a sum, from the left -/
def sumD : List D → Option Int
  | [] => some 0
  | .int i :: r => (sumD r).map (i + ·)
  | _ :: _ => none
theorem sumD_is : ∀ {ds : List D} {n : Int}, sumD ds = some n → ∃ ns : List Int, ds = ns.map PyData.int ∧ ns.sum = n
  | [], n, h => by cases h; exact ⟨[], rfl, rfl⟩
  | d :: r, n, h => by
    cases d with
    | int i =>
      unfold sumD at h
      cases hr : sumD r with
      | none => rw [hr] at h; cases h
      | some m =>
        rw [hr] at h
        cases h
        obtain ⟨ns, e1, e2⟩ := sumD_is hr
        exact ⟨i :: ns, by rw [e1]; rfl, by rw [List.sum_cons, e2]⟩
    | _ => cases h
def cSum : List D → Option D
  | [.list ds] => (sumD ds).map .int
  | _ => none
theorem cd_sum : CallD G (rSum G.K) cSum := fun x d F H v Q h hs q k => by
  unfold cSum at h
  split at h
  · rename_i ds
    obtain ⟨v, rfl, qa⟩ := one_of q
    obtain ⟨a, xs, rfl, h1, h2⟩ := rp_lst qa
    cases hn : sumD ds with
    | none => rw [hn] at h; cases h
    | some n =>
      rw [hn] at h
      cases h
      obtain ⟨ns, e1, e2⟩ := sumD_is hn
      subst e1
      rw [rp_ints h2] at h1
      refine ⟨a, ns, rfl, SqL.of (hs _ _ h1), ?_⟩
      rw [e2]
      exact k _ _ _ (Ext.refl _ _) (.int _)
  · cases h
/-- a new list from a call -/
def CallN (G : Gm) (r : List V → Hp → VK → Prop) (o : List D → Option (List D)) : Prop := ∀ (x : List D) (ds : List D) (F H : Hp) (v : List V) (Q : VK), o x = some ds → Sub F H → RpL G F v x → (∀ vs, RpL G F vs ds → ∀ p, H p = none → Q (.ref p) (upd H p (.lst vs))) → r v H Q
def OpN (G : Gm) (r : R2) (o : D → D → Option (List D)) : Prop := ∀ (x y : D) (ds : List D) (F H : Hp) (v w : V) (Q : VK), o x y = some ds → Sub F H → Rp G F v x → Rp G F w y → (∀ vs, RpL G F vs ds → ∀ p, H p = none → Q (.ref p) (upd H p (.lst vs))) → r v w H Q
def xCB (o : List D → Option (List D)) (fs : En → R (List D)) : En → R Sl := fun r => (fs r).bind fun x r1 => match o x with
  | some ds => .ok (.ow ds) r1
  | none => .st
def xOp (o : D → D → Option (List D)) (f g : En → R D) : En → R Sl := fun r => (f r).bind fun x r1 => (g r1).bind fun y r2 => match o x y with
  | some ds => .ok (.ow ds) r2
  | none => .st
variable {W : WX} {F H F1 H1 : Hp} {σ : L2.St} {r r1 : En} {a b : Expr} {pos : Pos} {f g : En → R D}
/-- an own value's reading, behind an expression -/
def TXp (G : Gm) (W : WX) (x : R Sl) (F H : Hp) (σ : L2.St) (r : En) (Q : VK) : Prop := match x with
  | .ok s r' => ∀ F' H' v, Go F H (oA σ r) F' H' (oA (σ ++ [some v]) (r' ++ [s])) → Rel G F' H' (σ ++ [some v]) (r' ++ [s]) → Q v H'
  | .ex c d r' => ∀ F' H' cls dd, Go F H (oA σ r) F' H' (oA σ r') → Rel G F' H' σ r' → XOk G F' H' c d cls dd → W cls dd σ H'
  | .st => False
theorem TXp.bind {α β : Type} {rel : Hp → β → α → Prop} {x : R α} {k : α → En → R Sl} {Q : VK} (h : TXp G W (x.bind k) F H σ r Q) :
    Pt G W rel x F H σ r (fun b H1 => ∃ a F1 r1, Sub F F1 ∧ Rel G F1 H1 σ r1 ∧ rel F1 b a ∧ TXp G W (k a r1) F1 H1 σ r1 Q) := by
  cases x with
  | ok a r' =>
    intro F' H' b g e q
    refine ⟨a, F', r', g.sub, e, q, ?_⟩
    have h : TXp G W (k a r') F H σ r Q := h
    cases hk : k a r' with
    | ok es r2 => rw [hk] at h; exact fun F2 H2 J g2 => h F2 H2 J (g.trans g2)
    | ex c d r2 => rw [hk] at h; exact fun F2 H2 cls dd g2 => h F2 H2 cls dd (g.trans g2)
    | st => rw [hk] at h; exact h
  | ex c d r' => exact h
  | st => exact h
theorem TXp.new {ds : List D} {Q : VK} (h : TXp G W (.ok (.ow ds) r) F H σ r Q) (e : Rel G F H σ r) (vs : List V) (q : RpL G F vs ds) (p : Addr) (hp : H p = none) : Q (.ref p) (upd H p (.lst vs)) := by
  obtain ⟨g, e2⟩ := e.newL hp q
  exact h _ _ _ g e2
theorem tCBn_of {rr : List V → Hp → VK → Prop} {o : List D → Option (List D)} {fs : En → R (List D)} (hd : CallN G rr o) (σ : L2.St) (H : Hp) (Q : VK) : TXo G W (xCB o fs) σ H Q → tCB rr (TAo G W fs) σ H Q := fun ⟨F, r0, e, p⟩ => by
  have p : TXp G W (xCB o fs r0) F H σ r0 Q := p
  refine ⟨F, r0, e, (TXp.bind (rel := rL G) p).mono fun v H1 ⟨x, F1, r1, _, e1, q1, p1⟩ => ?_⟩
  cases ho : o x with
  | none => simp only [ho] at p1; exact p1.elim
  | some ds =>
    simp only [ho] at p1
    exact hd x ds F1 H1 v Q ho e1.sub q1 fun vs qv p hp => p1.new e1 vs qv p hp
theorem dx_callB {id : String} {x : Str} {es : List Expr} {p : Pos} {rr : List V → Hp → VK → Prop} {o : List D → Option (List D)} {fs : En → R (List D)} (hc : CallR X (.builtin id) rr) (hd : CallN G rr o) (hm : X.mg x = none) (hv : bootBuiltins x = some (.builtin id)) (ha : PA X (a :: es) (TAo G W fs)) (hg : Gl X x := by rfl)
    (hn : x ≠ "__name__" := by decide) (hdb : (x == ("__debug__" : Str)) = false := by decide) (he : starEach (a :: es) X.env = (false, eval a X.env) :: starEach es X.env := by rfl) (hpl : (backTo pos (starEach es X.env)).any (·.1) = false := by rfl) :
    PE X (.Call (.Name x p) (a :: es) [] pos) (TXo G W (xCB o fs)) := pe_of (pe_callB hc hg hm hv ha hn hdb he hpl) (tCBn_of hd)
theorem dx_callTy {id : String} {x : Str} {es : List Expr} {p : Pos} {rr : List V → Hp → VK → Prop} {o : List D → Option (List D)} {fs : En → R (List D)} (hc : CallR X (.type id) rr) (hd : CallN G rr o) (hm : X.mg x = none) (hv : bootBuiltins x = some (.type id)) (ha : PA X (a :: es) (TAo G W fs)) (hg : Gl X x := by rfl)
    (hn : x ≠ "__name__" := by decide) (hdb : (x == ("__debug__" : Str)) = false := by decide) (he : starEach (a :: es) X.env = (false, eval a X.env) :: starEach es X.env := by rfl) (hpl : (backTo pos (starEach es X.env)).any (·.1) = false := by rfl) :
    PE X (.Call (.Name x p) (a :: es) [] pos) (TXo G W (xCB o fs)) := pe_of (pe_callTy hc hg hm hv ha hn hdb he hpl) (tCBn_of hd)
theorem dx_op {op : Operator} {rr : R2} {o : D → D → Option (List D)} (ho : OpR X (binaryOp op) rr) (hd : OpN G rr o) (ha : PE X a (TEo G W f)) (hb : PE X b (TEo G W g)) : PE X (.BinOp a op b pos) (TXo G W (xOp o f g)) :=
  pe_of (pe_op ho ha hb) fun σ H Q ⟨F, r0, e, p⟩ => by
    have p : TXp G W (xOp o f g r0) F H σ r0 Q := p
    refine ⟨F, r0, e, (TXp.bind (rel := rV G) p).mono fun v H1 ⟨x, F1, r1, _, e1, q1, p1⟩ => ⟨F1, r1, e1, (TXp.bind (rel := rV G) p1).mono fun w H2 ⟨y, F2, r2, s2, e2, q2, p2⟩ => ?_⟩⟩
    cases ho : o x y with
    | none => simp only [ho] at p2; exact p2.elim
    | some ds =>
      simp only [ho] at p2
      exact hd x y ds F2 H2 v w Q ho e2.sub (q1.mono s2) q2 fun vs qv p hp => p2.new e2 vs qv p hp
/-- two lists, one behind the other; a list many times -/
def nCat : D → D → Option (List D)
  | .list xs, .list ys => if xs.length + ys.length ≤ 1000000 then some (xs ++ ys) else none
  | _, _ => none
theorem on_cat : OpN G rCat nCat := fun x y ds F H v w Q h hs q1 q2 k => by
  unfold nCat at h
  split at h
  · split at h
    · rename_i hz
      cases h
      obtain ⟨a, xs, rfl, h1, h2⟩ := rp_lst q1
      obtain ⟨b, ys, rfl, h3, h4⟩ := rp_lst q2
      exact ⟨a, b, xs, ys, rfl, rfl, hs _ _ h1, hs _ _ h3, small6 (by rw [h2.len, h4.len]; exact hz), k _ (h2.append h4)⟩
    · cases h
  · cases h
def repD (ds : List D) : Nat → List D
  | 0 => []
  | n + 1 => ds ++ repD ds n
theorem rp_rep {F : Hp} {vs : List V} {ds : List D} (q : RpL G F vs ds) : ∀ n, RpL G F (List.replicate n vs).flatten (repD ds n)
  | 0 => .nil
  | n + 1 => by
    rw [List.replicate_succ, List.flatten_cons]
    exact q.append (rp_rep q n)
def nRep : D → D → Option (List D)
  | .list xs, .int k => if (decide (-1000000 ≤ k) && decide (k ≤ 1000000) && decide (xs.length * k.toNat ≤ 1000000)) = true then some (repD xs k.toNat) else none
  | _, _ => none
theorem on_rep : OpN G rRep nRep := fun x y ds F H v w Q h hs q1 q2 k => by
  unfold nRep at h
  split at h
  · rename_i xs n
    split at h
    · rename_i hz
      cases h
      simp only [Bool.and_eq_true, decide_eq_true_eq] at hz
      obtain ⟨a, vs, rfl, h1, h2⟩ := rp_lst q1
      rw [rp_int q2]
      exact ⟨a, n, vs, rfl, rfl, hs _ _ h1, by omega, by omega, small6 (by rw [h2.len]; exact hz.2), k _ (rp_rep h2 _)⟩
    · cases h
  · cases h
def nList : List D → Option (List D)
  | [.list ds] => some ds
  | [.tuple ds] => some ds
  | _ => none
theorem cn_list : CallN G (fun xs H Q => ∃ p ys, xs = [.ref p] ∧ (SqL G.K H p ys ∨ SqT G.K H p ys) ∧ ∀ l, H l = none → Q (.ref l) (upd H l (.lst ys))) nList := fun x ds F H v Q h hs q k => by
  unfold nList at h
  split at h
  · cases h
    obtain ⟨v, rfl, qa⟩ := one_of q
    obtain ⟨a, xs, rfl, h1, h2⟩ := rp_lst qa
    exact ⟨a, xs, rfl, .inl (SqL.of (hs _ _ h1)), k _ h2⟩
  · cases h
    obtain ⟨v, rfl, qa⟩ := one_of q
    obtain ⟨a, xs, rfl, h1, h2⟩ := rp_tup qa
    exact ⟨a, xs, rfl, .inr (hs.t h1), k _ h2⟩
  · cases h
end
end DL
set_option maxHeartbeats 4000000
/-! DLi: chains, truth, isinstance, repr of scalars, two names at once; a def as the head tells it. -/
namespace DL
open PySem PyProof.Rows L2
section
variable {G : Gm} {W : WX} {F H F1 H1 F' H' : Hp} {σ σ1 : L2.St} {r r1 : En} {X : Cx} {a b c tg : Expr} {pos : Pos} {f g h : En → R D}
theorem dt_cmp {op : CmpOp} {rr : R2} {o : D → D → Option D} (ho : OpR X (compareOp op) rr) (hd : OpD G rr o) (ha : PE X a (TEo G W f)) (hb : PE X b (TEo G W g)) (hm : behindInMarks op b = false := by rfl) : PT X (.Compare a [op] [b] pos) (TTo G W (tB1 (eOp o f g))) :=
  pt_of (pt_cmpR ho ha hb hm) fun σ H Q z => tOp_of hd σ H _ (tB_of σ H Q z)
/-- a op b op' c -/
theorem tChain_of {ra rb : R2} {o o' : D → D → Option D} (hd : OpD G ra o) (hd' : OpD G rb o') (σ : L2.St) (H : Hp) (Q : VK) : TEo G W (eChain o o' f g h) σ H Q → tChain ra rb (TEo G W f) (TEo G W g) (TEo G W h) σ H Q :=
  fun ⟨F, r0, e, p⟩ =>
    ⟨F, r0, e, (Pt.bind (rel1 := rV G) p).mono fun v H1 ⟨x, F1, r1, _, e1, q1, p1⟩ => ⟨F1, r1, e1, (Pt.bind (rel1 := rV G) p1).mono fun w H2 ⟨y, F2, r2, s2, e2, q2, p2⟩ => by
      cases hxy : o x y with
      | none => simp only [hxy] at p2; exact p2.elim
      | some d =>
        simp only [hxy] at p2
        refine hd x y d F2 H2 v w _ hxy e2.sub (q1.mono s2) q2 fun F3 H3 z x3 q3 => ?_
        cases d with
        | bool k =>
          cases q3
          have e3 := e2.ext x3
          refine ⟨k, rfl, ?_⟩
          cases k with
          | false => exact Pt.here p2 e2 x3 (.bl _)
          | true =>
            rw [if_pos rfl]
            have p2 := Pt.from (r1 := r2) (x3.goO fun _ z => z) p2
            exact ⟨F3, r2, e3, (Pt.bind (rel1 := rV G) p2).mono fun u H4 ⟨y', F4, r4, s4, e4, q4, p4⟩ => by
              obtain ⟨d', h1, h2⟩ := liftO_here e4 p4
              exact hd' y y' d' F4 H4 w u Q h1 e4.sub ((q2.mono x3.go.sub).mono s4) q4 h2⟩
        | _ => exact p2.elim⟩⟩
theorem de_chain {op op' : CmpOp} {ra rb : R2} {o o' : D → D → Option D} (ho : OpR X (compareOp op) ra) (hd : OpD G ra o) (ho' : OpR X (compareOp op') rb) (hd' : OpD G rb o') (ha : PE X a (TEo G W f)) (hb : PE X b (TEo G W g)) (hc : PE X c (TEo G W h))
    (hm : lastMarks [op, op'] [b, c] = false := by with_unfolding_all rfl) : PE X (.Compare a [op, op'] [b, c] pos) (TEo G W (eChain o o' f g h)) := pe_of (pe_chain ho ho' ha hb hc hm) (tChain_of hd hd')
theorem dt_chain {op op' : CmpOp} {ra rb : R2} {o o' : D → D → Option D} (ho : OpR X (compareOp op) ra) (hd : OpD G ra o) (ho' : OpR X (compareOp op') rb) (hd' : OpD G rb o') (ha : PE X a (TEo G W f)) (hb : PE X b (TEo G W g)) (hc : PE X c (TEo G W h))
    (hm : lastMarks [op, op'] [b, c] = false := by with_unfolding_all rfl) : PT X (.Compare a [op, op'] [b, c] pos) (TTo G W (tB1 (eChain o o' f g h))) := pt_of (pt_chain ho ho' ha hb hc hm) fun σ H Q z => tChain_of hd hd' σ H _ (tB_of σ H Q z)
/-- the truth of data, as a test -/
theorem truD_of (hK : X.K = G.K) {v : V} {d : D} {k : Bool} (s : Sub F H) (q : Rp G F v d) (h : truD d = some k) : TruV X.K v H k := by
  cases q with
  | non => cases h; exact rfl
  | bl b => cases h
  | int i => cases h; exact rfl
  | str x =>
    have h : (if x.length ≤ sizeLine then some (x.length != 0) else none) = some k := h
    split at h
    · rename_i hz
      cases h
      refine ⟨hz, ?_⟩
      rw [Bool.eq_iff_iff]
      simp
    · cases h
  | @lst a xs ds e hs =>
    cases h
    refine Or.inl ⟨xs, .inl (.inl (s _ _ e)), ?_⟩
    have := hs.len
    cases xs <;> cases ds <;> simp_all
  | @tup a xs ds e hs =>
    cases h
    refine Or.inr (Or.inl ⟨xs, by rw [hK]; exact s.t e, ?_⟩)
    have := hs.len
    cases xs <;> cases ds <;> simp_all
  | dct _ _ => cases h
  | dcT _ _ => cases h
  | fn _ => cases h
theorem dt_tru (hK : X.K = G.K) (ha : PE X a (TEo G W f)) (he : ∀ whole, isTrue a X.env whole = (do let v ← whole; standAt a.pos; holding [v] (truthy v)) := by intro _; rfl) : PT X a (TTo G W (tTru f)) :=
  pt_of (pt_truth ha he) fun σ H Q ⟨F, r0, e, p⟩ => ⟨F, r0, e, (Pt.bind (rel1 := rV G) p).mono fun v H1 ⟨x, F1, r1, _, e1, q1, p1⟩ => by
    cases hx : truD x with
    | some k =>
      have : ∀ b, x ≠ .bool b := fun b z => by subst z; cases hx
      refine ⟨k, truD_of hK e1.sub q1 hx, ?_⟩
      have p1 : Pt G W rB (.ok k r1) F1 H1 σ r1 Q := by
        cases x with
        | bool b => exact absurd rfl (this b)
        | _ => simp only [hx] at p1; exact p1
      exact Pt.here p1 e1 (Ext.refl _ _) rfl
    | none =>
      cases x with
      | bool k =>
        cases q1
        exact ⟨k, rfl, Pt.here p1 e1 (Ext.refl _ _) rfl⟩
      | _ => simp only [hx] at p1; exact p1.elim⟩
/-! ### isinstance -/
def tyD : D → Option String
  | .none => some "NoneType"
  | .bool _ => some "bool"
  | .int _ => some "int"
  | .str _ => some "str"
  | .list _ => some "list"
  | .tuple _ => some "tuple"
  | .dict ((.none, _) :: _) => none
  | .dict _ => some "dict"
theorem tyD_dict {l : List (D × D)} {t : String} (h : tyD (.dict l) = some t) : t = "dict" := by
  rcases l with _ | ⟨⟨k, v⟩, l⟩
  · cases h; rfl
  · cases k <;> first | (cases h; rfl) | cases h
def cIsi (t : String) (d : D) : Option D := match tyD d with
  | some a => (kitB a t).map .bool
  | none => none
theorem tyD_of (hK : X.K = G.K) {v : V} {d : D} {t : String} (s : Sub F H) (q : Rp G F v d) (h : tyD d = some t) : TyX X.K H v (.type t) := by
  cases q with
  | non => cases h; exact .base .non
  | bl b => cases h; exact .base (.bl b)
  | int i => cases h; exact .base (.int i)
  | str x => cases h; exact .base (.str x)
  | @lst a xs ds e hs => cases h; exact .base (.lst (s _ _ e))
  | @tup a xs ds e hs =>
    cases h
    rcases e with (e | ⟨o, e⟩) | ⟨o, its, n, e, c, _⟩
    · exact .base (.tup (s _ _ e))
    · exact .fTuple (s _ _ e)
    · exact .kTuple (by rw [hK]; exact e) c
  | @dct a kvs ds e _ =>
    have : t = "dict" := tyD_dict h
    subst this
    exact .base (.dK (s _ _ e))
  | @dcT a kvs ds e _ =>
    have : t = "dict" := tyD_dict h
    subst this
    exact .base (.dT (s _ _ e))
  | fn _ => cases h
theorem de_isi {T : Str} {t : String} {p p2 : Pos} (hK : X.K = G.K) (hm : X.mg "isinstance" = none) (hmT : X.mg T = none) (hT : bootBuiltins T = some (.type t)) (ha : PE X a (TEo G W f)) (hg : Gl X "isinstance" := by rfl) (hgT : Gl X T := by rfl)
    (hn : T ≠ "__name__" := by decide) (hdb : (T == ("__debug__" : Str)) = false := by decide) (he : starEach [a, .Name T p2] X.env = (false, eval a X.env) :: starEach [.Name T p2] X.env := by rfl) (he2 : starEach [.Name T p2] X.env = (false, eval (.Name T p2) X.env) :: starEach [] X.env := by rfl)
    (hpl : (backTo pos (starEach [.Name T p2] X.env)).any (·.1) = false := by rfl) :
    PE X (.Call (.Name "isinstance" p) [a, .Name T p2] [] pos) (TEo G W (eUn (cIsi t) f)) :=
  pe_of (pe_callB call_isi hg hm (by decide +kernel) (pa_cons ha (pa_cons (pe_bltn (v := .ty t) hgT hmT hT rfl hn hdb) pa_nil he2) he) (by decide) (by decide) he hpl) fun σ H Q ⟨F, r0, e, p⟩ =>
    ⟨F, r0, e, (Pt.bind (rel1 := rV G) p).mono fun v H1 ⟨x, F1, r1, _, e1, q1, p1⟩ => by
      obtain ⟨d, hd, k⟩ := liftO_here e1 p1
      unfold cIsi at hd
      split at hd
      · rename_i ta hta
        cases hb : kitB ta t with
        | none => rw [hb] at hd; cases hd
        | some b =>
          rw [hb] at hd
          cases hd
          exact ⟨v, .ty t, _, _, b, rfl, .ty t, tyD_of hK e1.sub q1 hta, kit_ty hb, k _ _ _ (Ext.refl _ _) (.bl b)⟩
      · cases hd⟩
/-! ### repr of numbers -/
def cRepI : List D → Option D
  | [.int i] => if i.natAbs.log2 < 1920 then some (.str (toString i)) else none
  | [.none] => some (.str "None")
  | [.bool k] => some (.str (if k then "True" else "False"))
  | [.str x] => if (reprText x).length ≤ 1000000 then some (.str (reprText x)) else none
  | _ => none
def rRepZ : List V → Hp → VK → Prop := fun xs H Q => ∃ x, xs = [x] ∧ match x with
  | .int i => i.natAbs.log2 < 1920 ∧ Q (.str (toString i)) H
  | .non => Q (.str "None") H
  | .bl k => Q (.str (if k then "True" else "False")) H
  | .str z => (reprText z).length ≤ sizeLine ∧ Q (.str (reprText z)) H
  | _ => False
theorem call_repZ : CallR X (.builtin "repr") rRepZ := fun pins s σ H xs us Q I r h => by
  obtain ⟨x, rfl, h⟩ := h
  obtain ⟨u, rfl, rx⟩ := vals1 r
  cases x with
  | int i =>
    obtain ⟨t, rfl⟩ := rx
    exact PySem.P.repr_of_int h.1 ⟨.str _, H, I.tok _, ⟨_, rfl⟩, h.2⟩
  | non =>
    cases rx
    exact PySem.P.repr_of_none ⟨.str _, H, I.tok _, ⟨_, rfl⟩, h⟩
  | bl k =>
    cases rx
    exact PySem.P.repr_of_bool ⟨.str _, H, I.tok _, ⟨_, rfl⟩, h⟩
  | str z =>
    obtain ⟨t, rfl⟩ := rx
    exact PySem.P.repr_of_str ⟨.str _, H, I.tok _, ⟨_, rfl⟩, h.2⟩ h.1
  | _ => exact h.elim
theorem cd_repI : CallD G rRepZ cRepI := fun x d F H v Q h hs q k => by
  unfold cRepI at h
  split at h
  · split at h
    · rename_i hz
      cases h
      obtain ⟨v, rfl, qa⟩ := one_of q
      rw [rp_int qa]
      exact ⟨_, rfl, hz, k _ _ _ (Ext.refl _ _) (.str _)⟩
    · cases h
  · cases h
    obtain ⟨v, rfl, qa⟩ := one_of q
    rw [rp_non qa]
    exact ⟨_, rfl, k _ _ _ (Ext.refl _ _) (.str _)⟩
  · cases h
    obtain ⟨v, rfl, qa⟩ := one_of q
    rw [rp_bl qa]
    exact ⟨_, rfl, k _ _ _ (Ext.refl _ _) (.str _)⟩
  · split at h
    · rename_i hz
      cases h
      obtain ⟨v, rfl, qa⟩ := one_of q
      rw [rp_str qa]
      exact ⟨_, rfl, small6 hz, k _ _ _ (Ext.refl _ _) (.str _)⟩
    · cases h
  · cases h
/-! ### x, y = a, b -/
def sPar (fx fy : En → R Sl) (i j : Nat) : En → Fl := fun r => rF (fx r) fun s r1 => rF (fy r1) fun t r2 => .nx ((r2.set i s).set j t)
theorem own_frame {v w : V} {s t : Sl} {i j : Nat} (hl : σ.length = r.length) {x : Addr} (h : oA ((σ.set i (some v)).set j (some w)) ((r.set i s).set j t) x) : oA (σ ++ [some w] ++ [some v]) (r ++ [t] ++ [s]) x := by
  obtain ⟨k, u, e1, m, e2⟩ := h
  have l2 : (σ ++ [some w]).length = (r ++ [t]).length := by simp [hl]
  rcases get_set e1 with ⟨a1, b1, c1⟩ | ⟨a1, b1⟩
  · rcases get_set e2 with ⟨_, b2, _⟩ | ⟨a2, _⟩
    · subst b1; cases b2
      refine own_init l2 x ⟨r.length, u, get_last, m, ?_⟩
      rw [← hl]; exact get_last
    · exact absurd a1 a2
  · rcases get_set e2 with ⟨a2, _, _⟩ | ⟨_, b2⟩
    · exact absurd a2 a1
    · rcases get_set b1 with ⟨a3, b3, c3⟩ | ⟨a3, b3⟩
      · rcases get_set b2 with ⟨_, b4, _⟩ | ⟨a4, _⟩
        · subst b3; cases b4
          exact ⟨(r ++ [t]).length, u, get_last, m, by rw [← l2]; exact get_last⟩
        · exact absurd a3 a4
      · rcases get_set b2 with ⟨a4, _, _⟩ | ⟨_, b4⟩
        · exact absurd a4 a3
        · exact own_init l2 x (own_init hl x ⟨k, u, b3, m, b4⟩)
theorem ds_par {i j : Nat} {x y : Str} {fx fy : En → R Sl} {px py pt : Pos} {kt k2 pt2} (hc : X.calm = true) (hN : X.N.Nodup) (ha : PE X a (TXo G W fx)) (hb : PE X b (TXo G W fy)) (hi : X.N[i]? = some x := by rfl) (hj : X.N[j]? = some y := by rfl) (hij : i ≠ j := by decide)
    (hx : X.env.scope.names.lookup x = some .local := by rfl) (hy : X.env.scope.names.lookup y = some .local := by rfl) (h1 : starEach [a, b] X.env = (false, eval a X.env) :: starEach [b] X.env := by rfl) (h2 : starEach [b] X.env = (false, eval b X.env) :: starEach [] X.env := by rfl)
    (hw : swappedStores [.Tuple [.Name x px, .Name y py] kt pt] (.Tuple [a, b] k2 pt2) X.env = pure (some [x, y]) := by rfl)
    (hs : swapsWithSole [.Tuple [.Name x px, .Name y py] kt pt] (.Tuple [a, b] k2 pt2) pos.line X.env = pure false := by rfl) :
    PS X (.Assign [.Tuple [.Name x px, .Name y py] kt pt] (.Tuple [a, b] k2 pt2) pos) (TSo G W (sPar fx fy i j)) :=
  ps_of (ps_par hc hN hi hj hij hx hy (pa_cons ha (pa_cons hb pa_nil h2) h1) hw hs) fun E σ H ⟨F, r, e, p⟩ => by
    refine ⟨F, r, e, ?_⟩
    unfold sPar rF at p
    cases hf : fx r with
    | st => rw [hf] at p; exact p.elim
    | ex c d r' => rw [hf] at p; exact fun F' H' cls dd g e x => p F' H' σ cls dd g e x
    | ok s r1 =>
      rw [hf] at p
      intro F1 H1 v g1 e1
      refine ⟨F1, r1, e1.init, ?_⟩
      simp only at p
      have l1 := e1.init.len
      have g0 : Go F H (oA σ r) F1 H1 (oA σ r1) := g1.wide (fun _ z => z) fun a z => g1.own a (own_init l1 a z)
      cases hg : fy r1 with
      | st => rw [hg] at p; exact p.elim
      | ex c d r' => rw [hg] at p; exact fun F' H' cls dd g e x => p F' H' σ cls dd (g0.trans g) e x
      | ok t r2 =>
        rw [hg] at p
        intro F2 H2 w g2 e2
        refine ⟨v, w, rfl, ?_⟩
        obtain ⟨e3, g3⟩ := e1.frame g2 e2
        have l2 := e2.init.len
        have e4 := e3.store (i := i)
        have hA : ∀ {α : Type} {l : List α} {z u : α} {i : Nat}, i < l.length → (l ++ [z]).set i u = l.set i u ++ [z] := fun {α l z u i} h => List.set_append_left _ _ h
        have hil : i < σ.length ∨ ¬ i < σ.length := Classical.em _
        rcases hil with hil | hil
        · rw [hA hil, hA (by rw [← l2]; exact hil)] at e4
          have e5 := e4.store (i := j)
          exact p F2 H2 _ ((g1.trans g3).wide (fun _ z => z) fun a z => (g1.trans g3).own a (own_frame l2 z)) e5
        · -- no such name: nothing is stored there
          have a1 : σ.set i (some v) = σ := List.set_eq_of_length_le (by omega)
          have a2 : r2.set i s = r2 := List.set_eq_of_length_le (by omega)
          have e5 := e2.store (i := j)
          have hown : ∀ a, oA ((σ.set i (some v)).set j (some w)) ((r2.set i s).set j t) a → oA (σ ++ [some w] ++ [some v]) (r2 ++ [t] ++ [s]) a := fun a z => own_frame l2 z
          rw [← a1, ← a2] at e5
          rw [a1, a2] at e5
          exact p F2 H2 _ ((g1.trans g3).wide (fun _ z => z) fun a z => (g1.trans g3).own a (own_frame l2 z)) (by rw [a1, a2]; exact e5)
end
/-! ### a def as the head tells it -/
section
variable {P : Program} {w : World} {K : PySem.W.Frag} {mg : Str → Option Value} {base : Heap} {G : Gm}
theorem fnD' {gu : Bool} {x qual : Str} {params : Arguments} {body : List Stmt} {scope : Scope} {dvs : List V} {kws : List (Str × V)} {f : Addr} {fd : FuncData} {N ps : List Str} {k : Nat} {fB : En → Fl} (F : FunD K x qual params body scope dvs kws f fd) (S : FnScope N ps scope)
    (hbody : ∀ (pd : Addr) (cdv : Value) (A : Around) (outer : List Env) (s : Shared) (H : Hp) (E : XK), Room k (A.deeper (envOfC qual scope s.heap.objs.size f cdv)) → (gu = true → A.guards = some []) →
      PSs (cxOf (L2.CX P w) P w K mg base N qual scope f cdv A outer s H E) body (TSo { G with pd := pd } (fun cls d _ H => E cls d H) fB)) :
    FnG gu P w K mg base (k + 1) f fd ps (spD G (runF N.length ps.length fB)) := by
  obtain ⟨oc, od, dV, kV, doc, pm, an, cdv, ct, osl, rfl, lk, hcd, _, _⟩ := F.ex
  have len : ∀ vs H Q E, spD G (runF N.length ps.length fB) vs H Q E → vs.length = ps.length := fun vs H Q E ⟨pd, F0, args, e, p⟩ => by
    have l := e.len
    rw [List.length_map] at l
    unfold runF at p
    split at p
    · rename_i hz
      split at hz
      · rename_i h0; rw [l]; exact h0
      · cases hz
    · rename_i hz
      split at hz
      · rename_i h0; rw [l]; exact h0
      · cases hz
    · exact p.elim
  refine ⟨len, fun A outer s H args us vs Q E hgu hr e0 hb r hsp => ?_⟩
  have hl := len vs H Q E hsp
  refine LamX.run_ofS lk hcd S hr e0 hb r hl fun hr' => ?_
  obtain ⟨pd, F0, ar, e, p⟩ := hsp
  refine ⟨_, hbody pd cdv A outer s H E hr' hgu, ?_⟩
  have hal : ar.length = ps.length := by rw [← e.len, List.length_map]; exact hl
  obtain ⟨e1, o1⟩ := rel_start (n := N.length) e hal
  have es : vs.map some ++ List.replicate (N.length - ps.length) none = L2.start N vs := by unfold L2.start; rw [hl]
  rw [es] at e1 o1
  refine ⟨F0, _, e1, ?_⟩
  unfold runF at p
  rw [if_pos hal] at p
  cases hf : fB (ar ++ List.replicate (N.length - ps.length) .no) with
  | nx r' =>
    simp only [hf] at p
    intro F' H' σ' g e'
    obtain ⟨a1, a2⟩ := (e'.val .non).leave rfl
    exact p F' H' .non (g.wide o1 fun a z => (g.own a (own_val e'.len (a2 a z))).imp (o1 a) id) a1
  | rt s' r' =>
    simp only [hf] at p
    split at p
    · rename_i hq
      split at hq
      · rename_i hio
        cases hq
        intro F' H' σ' v g e'
        obtain ⟨a1, a2⟩ := e'.leave hio
        exact p F' H' v (g.wide o1 fun a z => (g.own a (a2 a z)).imp (o1 a) id) a1
      · cases hq
    · rename_i hq
      split at hq
      · cases hq
      · cases hq
    · exact p.elim
  | ex c d r' =>
    simp only [hf] at p
    intro F' H' σ' cls dd g e' x
    exact p F' H' cls dd (g.wide o1 fun a z => z.elim) ⟨e'.sub, e'.ntb, e'.tabs, rfl, fun i s v e1 => by simp at e1, fun i j s t p e1 => by simp at e1⟩ x
  | bk r' => simp only [hf] at p
  | ct r' => simp only [hf] at p
  | st => simp only [hf] at p
end
end DL
set_option maxHeartbeats 4000000
/-! DLj: several names at once; facts about callees. -/
namespace DL
open PySem PyProof.Rows L2
section
variable {G : Gm} {W : WX} {F H F1 H1 F' H' : Hp} {σ σ1 : L2.St} {r r1 : En} {X : Cx} {a b c tg : Expr} {pos : Pos}
def stk : List V → L2.St
  | [] => []
  | v :: vs => stk vs ++ [some v]
def rvS : List Sl → En
  | [] => []
  | s :: ss => rvS ss ++ [s]
/-- own values, one behind the other, all of them still ours -/
def TYo (G : Gm) (W : WX) (fs : En → R (List Sl)) : TA := fun σ H Q => ∃ F r, Rel G F H σ r ∧ match fs r with
  | .ok ss r' => ∀ F' H' vs, vs.length = ss.length → Go F H (oA σ r) F' H' (oA (σ ++ stk vs) (r' ++ rvS ss)) → Rel G F' H' (σ ++ stk vs) (r' ++ rvS ss) → Q vs H'
  | .ex c d r' => ∀ F' H' cls dd, Go F H (oA σ r) F' H' (oA σ r') → Rel G F' H' σ r' → XOk G F' H' c d cls dd → W cls dd σ H'
  | .st => False
def yNil : En → R (List Sl) := fun r => .ok [] r
def yCons (f : En → R Sl) (g : En → R (List Sl)) : En → R (List Sl) := fun r => (f r).bind fun s r1 => (g r1).bind fun ss r2 => .ok (s :: ss) r2
theorem dy_nil : PA X [] (TYo G W yNil) := pa_of pa_nil fun σ H Q ⟨F, r0, e, p⟩ => by
  have p : ∀ F' H' vs, vs.length = 0 → Go F H (oA σ r0) F' H' (oA (σ ++ stk vs) (r0 ++ [])) → Rel G F' H' (σ ++ stk vs) (r0 ++ []) → Q vs H' := p
  exact p F H [] rfl (Go.refl fun a z => by simpa [stk] using z) (by simpa [stk] using e)
theorem dy_cons {es : List Expr} {f : En → R Sl} {fs : En → R (List Sl)} (ha : PE X a (TXo G W f)) (hr : PA X es (TYo G W fs)) (hs : starEach (a :: es) X.env = (false, eval a X.env) :: starEach es X.env := by rfl) : PA X (a :: es) (TYo G W (yCons f fs)) :=
  pa_of (pa_cons ha hr hs) fun σ H Q ⟨F, r, e, p⟩ => by
    refine ⟨F, r, e, ?_⟩
    unfold yCons at p
    cases hf : f r with
    | st => rw [hf] at p; exact p.elim
    | ex c d r' => rw [hf] at p; exact p
    | ok s r1 =>
      rw [hf] at p
      simp only [R.bind] at p
      intro F1 H1 v g1 e1
      refine ⟨F1, r1, e1.init, ?_⟩
      have l1 := e1.init.len
      have g0 : Go F H (oA σ r) F1 H1 (oA σ r1) := g1.wide (fun _ z => z) fun a z => g1.own a (own_init l1 a z)
      cases hg : fs r1 with
      | st => rw [hg] at p; exact p.elim
      | ex c d r' => rw [hg] at p; exact fun F' H' cls dd g e x => p F' H' cls dd (g0.trans g) e x
      | ok ss r2 =>
        rw [hg] at p
        simp only at p
        intro F2 H2 vs hl g2 e2
        obtain ⟨e3, g3⟩ := e1.frame g2 e2
        have as1 : σ ++ stk vs ++ [some v] = σ ++ stk (v :: vs) := by rw [List.append_assoc]; rfl
        have as2 : r2 ++ rvS ss ++ [s] = r2 ++ rvS (s :: ss) := by rw [List.append_assoc]; rfl
        rw [as1, as2] at e3 g3
        exact p F2 H2 (v :: vs) (by simp [hl]) (g1.trans g3) e3
def setAll : List Nat → List V → L2.St → L2.St
  | i :: is, v :: vs, σ => setAll is vs (σ.set i (some v))
  | _, _, σ => σ
def putAll : List Nat → List Sl → En → En
  | i :: is, s :: ss, r => putAll is ss (r.set i s)
  | _, _, r => r
theorem Rel.puts : ∀ {is : List Nat} {vs : List V} {ss : List Sl} {σ : L2.St} {r : En}, (∀ i ∈ is, i < r.length) → is.length = ss.length → vs.length = ss.length → Rel G F H (σ ++ stk vs) (r ++ rvS ss) → σ.length = r.length →
    Rel G F H (setAll is vs σ) (putAll is ss r) ∧ ∀ a, oA (setAll is vs σ) (putAll is ss r) a → oA (σ ++ stk vs) (r ++ rvS ss) a
  | [], [], [], σ, r, _, _, _, e, _ => by
    have e1 : σ ++ stk [] = σ := by simp [stk]
    have e2 : r ++ rvS [] = r := by simp [rvS]
    rw [e1, e2] at e ⊢
    exact ⟨e, fun _ z => z⟩
  | i :: is, v :: vs, s :: ss, σ, r, hi, h1, h2, e, hl => by
    have as1 : σ ++ stk (v :: vs) = σ ++ stk vs ++ [some v] := by rw [List.append_assoc]; rfl
    have as2 : r ++ rvS (s :: ss) = r ++ rvS ss ++ [s] := by rw [List.append_assoc]; rfl
    rw [as1, as2] at e ⊢
    have hi0 : i < r.length := hi i (List.mem_cons_self ..)
    have l2 := e.init.len
    have e3 := e.store (i := i)
    have b1 : (σ ++ stk vs).set i (some v) = σ.set i (some v) ++ stk vs := List.set_append_left _ _ (by rw [hl]; exact hi0)
    have b2 : (r ++ rvS ss).set i s = r.set i s ++ rvS ss := List.set_append_left _ _ hi0
    have own3 : ∀ a, oA ((σ ++ stk vs).set i (some v)) ((r ++ rvS ss).set i s) a → oA (σ ++ stk vs ++ [some v]) (r ++ rvS ss ++ [s]) a := fun a z => own_store l2 z
    rw [b1, b2] at e3 own3
    obtain ⟨q1, q2⟩ := Rel.puts (is := is) (vs := vs) (ss := ss) (σ := σ.set i (some v)) (r := r.set i s) (fun j hj => by rw [List.length_set]; exact hi j (List.mem_cons_of_mem _ hj)) (by simpa using h1) (by simpa using h2) e3 (by simp [hl])
    exact ⟨q1, fun a z => own3 a (q2 a z)⟩
  | [], _, _ :: _, _, _, _, h, _, _, _ => by simp at h
  | _ :: _, _, [], _, _, _, h, _, _, _ => by simp at h
  | _, [], _ :: _, _, _, _, _, h, _, _ => by simp at h
  | _, _ :: _, [], _, _, _, _, h, _, _ => by simp at h
def sPars (is : List Nat) (fs : En → R (List Sl)) : En → Fl := fun r => rF (fs r) fun ss r1 => if (decide (is.length = ss.length) && is.all fun i => decide (i < r1.length)) = true then .nx (putAll is ss r1) else .st
/-- what is read behind the values: they are stored -/
theorem pars_of {is : List Nat} {fs : En → R (List Sl)} (E : Ends) (σ : L2.St) (H : Hp) : TSo G W (sPars is fs) E σ H →
    TYo G W fs σ H fun vs H1 => vs.length = is.length ∧ (∀ H2, (∃ q, H1 q = none ∧ H2 = upd H1 q (.tup vs)) → E.nx (setAll is vs σ) H2) ∧ E.nx (setAll is vs σ) H1 := fun ⟨F, r, e, p⟩ => by
  refine ⟨F, r, e, ?_⟩
  unfold sPars rF at p
  cases hf : fs r with
  | st => rw [hf] at p; exact p.elim
  | ex c d r' => rw [hf] at p; exact fun F' H' cls dd g e x => p F' H' σ cls dd g e x
  | ok ss r1 =>
    rw [hf] at p
    simp only at p
    intro F1 H1 vs hl g1 e1
    split at p
    · rename_i hz
      rw [Bool.and_eq_true, decide_eq_true_eq, List.all_eq_true] at hz
      have hi : ∀ i ∈ is, i < r1.length := fun i m => by simpa using hz.2 i m
      have hlen : σ.length = r1.length := by
        have z := e1.len
        have a1 : ∀ l : List V, (stk l).length = l.length := fun l => by induction l with | nil => rfl | cons x l ih => simp [stk, ih]
        have a2 : ∀ l : List Sl, (rvS l).length = l.length := fun l => by induction l with | nil => rfl | cons x l ih => simp [rvS, ih]
        rw [List.length_append, List.length_append, a1, a2, hl] at z
        omega
      refine ⟨by omega, fun H2 ⟨q, hq, e2⟩ => ?_, ?_⟩
      · subst e2
        have x := Ext.made (o := .tup vs) hq e1.sub
        obtain ⟨k1, k2⟩ := Rel.puts hi hz.1 hl (e1.ext x) hlen
        exact p F1 _ _ ((g1.trans (x.goO fun _ z => z)).wide (fun _ z => z) fun a z => (g1.trans (x.goO fun _ z => z)).own a (k2 a z)) k1
      · obtain ⟨k1, k2⟩ := Rel.puts hi hz.1 hl e1 hlen
        exact p F1 H1 _ (g1.wide (fun _ z => z) fun a z => g1.own a (k2 a z)) k1
    · exact p.elim
def gNs : List Nat → TGs
  | [] => gNil
  | i :: is => gCons (gName i) (gNs is)
theorem gNs_of {Q : L2.St → Hp → Prop} : ∀ {is : List Nat} {vs : List V} {σ : L2.St} {H : Hp}, vs.length = is.length → Q (setAll is vs σ) H → gNs is vs σ H Q
  | [], [], _, _, _, q => ⟨rfl, q⟩
  | i :: is, v :: vs, σ, H, h, q => ⟨v, vs, rfl, gNs_of (is := is) (by simpa using h) q⟩
  | [], _ :: _, _, _, h, _ => by simp at h
  | _ :: _, [], _, _, h, _ => by simp at h
/-- a, b, .. = x, y, .., through a pair -/
theorem TYo.mono {fs : En → R (List Sl)} {Q Q' : List V → Hp → Prop} (h : TYo G W fs σ H Q) (k : ∀ vs H', Q vs H' → Q' vs H') : TYo G W fs σ H Q' := by
  obtain ⟨F, r, e, p⟩ := h
  refine ⟨F, r, e, ?_⟩
  cases hf : fs r with
  | st => rw [hf] at p; exact p
  | ex c d r' => rw [hf] at p; exact p
  | ok ss r1 => rw [hf] at p; exact fun F' H' vs hl g e => k _ _ (p F' H' vs hl g e)
theorem ds_pars {is : List Nat} {ts es : List Expr} {fs : En → R (List Sl)} {kt k2 : _} {pt pt2 : Pos} (hK : X.K = G.K) (hc : X.calm = true) (ha : PA X es (TYo G W fs)) (hg : PGs X ts (gNs is)) (hz : is.length ≤ 100 := by decide)
    (hn : (assignEach ts X.env).length = is.length := by rfl) (hst : (assignEach ts X.env).findIdx? (·.1) = none := by rfl)
    (hs : swapsWithSole [.Tuple ts kt pt] (.Tuple es k2 pt2) pos.line X.env = pure false := by rfl) (hw : swappedStores [.Tuple ts kt pt] (.Tuple es k2 pt2) X.env = pure none := by rfl)
    (h1 : (assignEach [.Tuple ts kt pt] X.env).map (·.2) = [assign (.Tuple ts kt pt) X.env] := by rfl) : PS X (.Assign [.Tuple ts kt pt] (.Tuple es k2 pt2) pos) (TSo G W (sPars is fs)) :=
  ps_of (ps_asg (pe_tup ha) (pg_tup hc hg hn hst) hs hw h1) fun E σ H h => (pars_of E σ H h).mono fun vs H1 ⟨hl, k, _⟩ =>
    ⟨by rw [hl]; exact Nat.le_trans hz (by decide), fun p hp => ⟨p, vs, rfl, SqT.of upd_same, hl, gNs_of hl (k _ ⟨p, hp, rfl⟩)⟩⟩
/-- two, three fast names -/
theorem ds_par2 {i j : Nat} {x y : Str} {fs : En → R (List Sl)} {px py pt : Pos} {kt k2 pt2} (hc : X.calm = true) (hN : X.N.Nodup) (ha : PA X [a, b] (TYo G W fs)) (hi : X.N[i]? = some x := by rfl) (hj : X.N[j]? = some y := by rfl) (hij : i ≠ j := by decide)
    (hx : X.env.scope.names.lookup x = some .local := by rfl) (hy : X.env.scope.names.lookup y = some .local := by rfl)
    (hw : swappedStores [.Tuple [.Name x px, .Name y py] kt pt] (.Tuple [a, b] k2 pt2) X.env = pure (some [x, y]) := by rfl)
    (hs : swapsWithSole [.Tuple [.Name x px, .Name y py] kt pt] (.Tuple [a, b] k2 pt2) pos.line X.env = pure false := by rfl) :
    PS X (.Assign [.Tuple [.Name x px, .Name y py] kt pt] (.Tuple [a, b] k2 pt2) pos) (TSo G W (sPars [i, j] fs)) :=
  ps_of (ps_par hc hN hi hj hij hx hy ha hw hs) fun E σ H h => (pars_of E σ H h).mono fun vs H1 ⟨hl, _, k⟩ => by
    match vs, hl, k with
    | [v, w], _, k => exact ⟨v, w, rfl, k⟩
theorem ds_par3 {i j l : Nat} {x y z : Str} {fs : En → R (List Sl)} {px py pz pt : Pos} {kt k2 pt2} (hc : X.calm = true) (hN : X.N.Nodup) (ha : PA X [a, b, c] (TYo G W fs)) (hi : X.N[i]? = some x := by rfl) (hj : X.N[j]? = some y := by rfl) (hl : X.N[l]? = some z := by rfl) (hij : i ≠ j := by decide) (hil : i ≠ l := by decide) (hjl : j ≠ l := by decide)
    (hx : X.env.scope.names.lookup x = some .local := by rfl) (hy : X.env.scope.names.lookup y = some .local := by rfl) (hz : X.env.scope.names.lookup z = some .local := by rfl)
    (hw : swappedStores [.Tuple [.Name x px, .Name y py, .Name z pz] kt pt] (.Tuple [a, b, c] k2 pt2) X.env = pure (some [x, y, z]) := by rfl)
    (hs : swapsWithSole [.Tuple [.Name x px, .Name y py, .Name z pz] kt pt] (.Tuple [a, b, c] k2 pt2) pos.line X.env = pure false := by rfl) :
    PS X (.Assign [.Tuple [.Name x px, .Name y py, .Name z pz] kt pt] (.Tuple [a, b, c] k2 pt2) pos) (TSo G W (sPars [i, j, l] fs)) :=
  ps_of (ps_par3 hc hN hi hj hl hij hil hjl hx hy hz ha hw hs) fun E σ H h => (pars_of E σ H h).mono fun vs H1 ⟨hl, _, k⟩ => by
    match vs, hl, k with
    | [u, v, w], _, k => exact ⟨u, v, w, rfl, k⟩
/-! ### a callee: all that a call asks of it -/
structure Cal (G : Gm) (gu : Bool) (P : Program) (w : World) (mg : Str → Option Value) (base : Heap) (k : Nat) (x : Str) (ps : List Str) (fD : En → Rf) : Prop where
  ex : ∃ f fd, FnG gu P w G.K mg base k f fd ps (spD G fD) ∧ mg x = some (.ref f) ∧ PySem.W.keepIn G.K (.ref f) = true ∧ Binds G.K fd ps []
theorem dx_callC {gu : Bool} {k : Nat} {ps : List Str} {fD : En → Rf} {x : Str} {p : Pos} {e : Expr} {es : List Expr} {fs : En → R (List D)} (hK : X.K = G.K) (C : Cal G gu X.prog X.w X.mg X.base k x ps fD) (hr : Room k X.A) (hgu : gu = true → X.A.guards = some [])
    (tk : Takes X W) (ha : PA X (e :: es) (TAo G W fs)) (hg : Gl X x := by rfl) (hdb : (x == ("__debug__" : Str)) = false := by decide) (he : starEach (e :: es) X.env = (false, eval e X.env) :: starEach es X.env := by rfl) (hpl : (backTo pos (starEach es X.env)).any (·.1) = false := by rfl) :
    PE X (.Call (.Name x p) (e :: es) [] pos) (TXo G W (xCall fD fs)) := by
  obtain ⟨f, fd, h1, h2, h3, h4⟩ := C.ex
  rw [← hK] at h1 h3 h4
  exact dx_call h1 hr hgu h2 h3 h4 tk ha hg hdb he hpl
end
end DL
set_option maxHeartbeats 4000000
/-! DLk: words that gen.py uses. -/
namespace DL
open PySem PyProof.Rows L2
section
variable {G : Gm} {W : WX} {F H F1 H1 F' H' : Hp} {σ σ1 : L2.St} {r r1 : En} {X : Cx} {a b c tg : Expr} {pos : Pos}
theorem Cal.pd {gu : Bool} {P : Program} {w : World} {mg : Str → Option Value} {base : Heap} {k : Nat} {x : Str} {ps : List Str} {fD : En → Rf} (C : Cal G gu P w mg base k x ps fD) (pd : Addr) : Cal { G with pd := pd } gu P w mg base k x ps fD := ⟨C.ex⟩
theorem dx_callIC {i : Nat} {gu : Bool} {k : Nat} {ps : List Str} {fD : En → Rf} {x y : Str} {p py : Pos} {es : List Expr} {fs : En → R (List D)} (hK : X.K = G.K) (C : Cal G gu X.prog X.w X.mg X.base k x ps fD) (hr : Room k X.A) (hgu : gu = true → X.A.guards = some [])
    (tk : Takes X W) (ha : PA X es (TAo G W fs)) (hN : X.N[i]? = some y := by rfl) (hv : Vis X.env.scope y := by first | exact Or.inl rfl | exact Or.inr (Or.inl rfl) | exact Or.inr (Or.inr rfl)) (hg : Gl X x := by rfl) (hdb : (x == ("__debug__" : Str)) = false := by decide)
    (hdy : (y == ("__debug__" : Str)) = false := by decide) (hcy : (y == ("__classdict__" : Str)) = false := by decide) (he : starEach (.Name y py :: es) X.env = (false, eval (.Name y py) X.env) :: starEach es X.env := by rfl) (hpl : (backTo pos (starEach es X.env)).any (·.1) = false := by rfl) :
    PE X (.Call (.Name x p) (.Name y py :: es) [] pos) (TXo G W (xCallI i fD fs)) := by
  obtain ⟨f, fd, h1, h2, h3, h4⟩ := C.ex
  rw [← hK] at h1 h3 h4
  exact dx_callI h1 hr hgu h2 h3 h4 tk ha hN hv hg hdb hdy hcy he hpl
theorem dx_callRC {i : Nat} {gu : Bool} {k : Nat} {ps : List Str} {fD : En → Rf} {x y : Str} {p py : Pos} {es : List Expr} {fs : En → R (List D)} (hK : X.K = G.K) (C : Cal G gu X.prog X.w X.mg X.base k x ps fD) (hr : Room k X.A) (hgu : gu = true → X.A.guards = some [])
    (tk : Takes X W) (ha : PA X es (TAo G W fs)) (hN : X.N[i]? = some y := by rfl) (hv : Vis X.env.scope y := by first | exact Or.inl rfl | exact Or.inr (Or.inl rfl) | exact Or.inr (Or.inr rfl)) (hg : Gl X x := by rfl) (hdb : (x == ("__debug__" : Str)) = false := by decide)
    (hdy : (y == ("__debug__" : Str)) = false := by decide) (hcy : (y == ("__classdict__" : Str)) = false := by decide) (he : starEach (.Name y py :: es) X.env = (false, eval (.Name y py) X.env) :: starEach es X.env := by rfl) (hpl : (backTo pos (starEach es X.env)).any (·.1) = false := by rfl) :
    PE X (.Call (.Name x p) (.Name y py :: es) [] pos) (TXo G W (xCallR i fD fs)) := by
  obtain ⟨f, fd, h1, h2, h3, h4⟩ := C.ex
  rw [← hK] at h1 h3 h4
  exact dx_callR h1 hr hgu h2 h3 h4 tk ha hN hv hg hdb hdy hcy he hpl
theorem de_globI {x : Str} {i : Int} (h : ∃ t, X.mg x = some (.int i t)) (hg : Gl X x := by rfl) (hdb : (x == ("__debug__" : Str)) = false := by decide) : PE X (.Name x pos) (TEo G W (eC (.int i))) := by
  obtain ⟨t, e⟩ := h
  exact de_glob hg e (v := .int i) ⟨t, rfl⟩ (fun F => .int i) hdb
/-! ### name op= e -/
def oAddI : D → D → Option D := rIntD (fun _ _ => true) (· + ·)
def oSubI : D → D → Option D := rIntD (fun _ _ => true) (· - ·)
theorem ipA_add : PIp X .Add (rI (fun _ _ => True) fun i j => .int (i + j)) := fun pins s σ H x y v u Q I r1 r2 ⟨i, j, e1, e2, _, q⟩ => ip_add pins s σ H x y v u Q I r1 r2 ⟨i, j, e1, e2, q⟩
theorem ipd_add : IpD G (rI (fun _ _ => True) fun i j => .int (i + j)) oAddI := od_int fun _ _ _ => trivial
theorem ipA_sub : PIp X .Sub (rI (fun _ _ => True) fun i j => .int (i - j)) := fun pins s σ H x y v u Q I r1 r2 ⟨i, j, e1, e2, _, q⟩ => ip_sub pins s σ H x y v u Q I r1 r2 ⟨i, j, e1, e2, q⟩
theorem ipd_sub : IpD G (rI (fun _ _ => True) fun i j => .int (i - j)) oSubI := od_int fun _ _ _ => trivial
theorem ipA_mul : PIp X .Mult (rI CMulA fun i j => .int (i * j)) := (opI fun _ _ _ _ _ _ _ hc q => imul_int q (hc.elim (fun z => z.ok) fun z => z.ok) : OpR X (inplaceOp .Mult) (rI CMulA fun i j => .int (i * j)))
theorem ipd_mul : IpD G (rI CMulA fun i j => .int (i * j)) oMul := od_mul
def oDivI : D → D → Option D := rIntD (fun _ j => divOk j) (· / ·)
theorem ipA_div : PIp X .FloorDiv (rI (fun i j => CDiv i j ∨ CDivW i j) fun i j => .int (i / j)) := fun pins s σ H x y v u Q I rx ry ⟨i, j, e1, e2, hc, q⟩ => by
  rcases hc with hc | hc
  · exact iop_fdiv pins s σ H x y v u Q I rx ry ⟨i, j, e1, e2, hc, q⟩
  · exact iop_fdivW pins s σ H x y v u Q I rx ry ⟨i, j, e1, e2, hc, q⟩
theorem ipd_div : IpD G (rI (fun i j => CDiv i j ∨ CDivW i j) fun i j => .int (i / j)) oDivI := od_int fun i j hz => by
  unfold divOk at hz
  simp only [Bool.and_eq_true, Bool.or_eq_true, decide_eq_true_eq] at hz
  rcases hz.2 with z | z
  · exact .inl ⟨hz.1, z⟩
  · exact .inr ⟨hz.1, z⟩
def oModI : D → D → Option D := rIntD (fun _ j => decide (0 < j)) (· % ·)
theorem ipA_mod : PIp X .Mod (rI (fun _ j => 0 < j) fun i j => .int (i % j)) := (iop_mod : OpR X (inplaceOp .Mod) _)
theorem ipd_mod : IpD G (rI (fun _ j => 0 < j) fun i j => .int (i % j)) oModI := od_int fun i j hz => of_decide_eq_true hz
end
end DL
set_option maxHeartbeats 4000000
/-! DLl: more operations. -/
namespace DL
open PySem PyProof.Rows L2
theorem _root_.L2.Room.units65 {k : Nat} {A : Around} (r : Room k A) : A.units + 65 < cLine := by have := r.un; omega
section
variable {G : Gm} {W : WX} {F H F1 H1 F' H' : Hp} {σ σ1 : L2.St} {r r1 : En} {X : Cx} {a b c tg : Expr} {pos : Pos} {f g : En → R D}
/-- tuple(x) of a list, a tuple -/
def cTup : List D → Option D
  | [.list ds] => some (.tuple ds)
  | [.tuple ds] => some (.tuple ds)
  | _ => none
theorem call_tupA : CallR X (.type "tuple") (fun xs H Q => ∃ x, xs = [x] ∧ kTup X.K x H Q) := fun pins s σ H xs us Q I r h => by
  obtain ⟨x, rfl, h⟩ := h
  obtain ⟨u, rfl, rx⟩ := vals1 r
  exact rl_tuple pins s σ H x u Q I rx h
theorem cd_tup : CallD G (fun xs H Q => ∃ x, xs = [x] ∧ kTup G.K x H Q) cTup := fun x d F H v Q h hs q k => by
  unfold cTup at h
  split at h
  · cases h
    obtain ⟨v, rfl, qa⟩ := one_of q
    obtain ⟨a, xs, rfl, h1, h2⟩ := rp_lst qa
    exact ⟨_, rfl, .inl ⟨a, xs, rfl, SqL.of (hs _ _ h1), new_tup hs h2 rfl k⟩⟩
  · cases h
    obtain ⟨v, rfl, qa⟩ := one_of q
    obtain ⟨a, xs, rfl, h1, h2⟩ := rp_tup qa
    exact ⟨_, rfl, .inr ⟨a, xs, rfl, hs.t h1, k _ _ _ (Ext.refl _ _) qa⟩⟩
  · cases h
/-! ### x in l -/
def flatD : D → Bool
  | .none => true
  | .bool _ => true
  | .int _ => true
  | .str _ => true
  | _ => false
theorem flat_of {v : V} {d : D} (q : Rp G F v d) (h : flatD d = true) : flatV v = true := by
  cases q <;> first | rfl | cases h
theorem eqV_of {v w : V} {d e : D} (q : Rp G F v d) (q2 : Rp G F w e) (h : flatD d = true) (h2 : flatD e = true) : eqV v w = PyData.eqv d e := by
  cases q with
  | lst _ _ => cases h
  | tup _ _ => cases h
  | dct _ _ => cases h
  | dcT _ _ => cases h
  | fn _ => cases h
  | _ =>
    cases q2 with
    | lst _ _ => cases h2
    | tup _ _ => cases h2
    | dct _ _ => cases h2
    | dcT _ _ => cases h2
    | fn _ => cases h2
    | _ => unfold PyData.eqv; rfl
theorem flat_all {vs : List V} {ds : List D} (q : RpL G F vs ds) (h : ds.all flatD = true) : vs.all flatV = true := by
  induction q using RpLI.rec (motive_1 := fun _ _ _ => True) with
  | nil => rfl
  | cons h1 h2 _ ih =>
    rw [List.all_cons, Bool.and_eq_true] at h
    rw [List.all_cons, Bool.and_eq_true]
    exact ⟨flat_of h1 h.1, ih h.2⟩
  | _ => trivial
theorem inV_of {v : V} {d : D} (q : Rp G F v d) (h : flatD d = true) {vs : List V} {ds : List D} (q2 : RpL G F vs ds) (h2 : ds.all flatD = true) : inV v vs = ds.any fun z => PyData.eqv z d := by
  unfold inV
  induction q2 using RpLI.rec (motive_1 := fun _ _ _ => True) with
  | nil => rfl
  | cons h1 h3 _ ih =>
    rw [List.all_cons, Bool.and_eq_true] at h2
    rw [List.any_cons, List.any_cons, eqV_of h1 q h2.1 h, ih h2.2]
  | _ => trivial
def oInB (x y : D) : Option Bool := match y with
  | .list ds => if (flatD x && ds.all flatD) = true then some (ds.any fun z => PyData.eqv z x) else if (SeqAt.shaped x && SeqAt.shaped (.list ds)) = true then some (ds.any fun z => PyData.eqv z x) else none
  | .tuple ds => if (flatD x && ds.all flatD) = true then some (ds.any fun z => PyData.eqv z x) else none
  | _ => none
def oIn (x y : D) : Option D := (oInB x y).map fun b => .bool b
def oNotIn (x y : D) : Option D := (oInB x y).map fun b => .bool (!b)
def rInZ (K : PySem.W.Frag) : R2 := fun x y H Q => rIn K false x y H Q ∨ rInD K x y H Q
def rNotInZ (K : PySem.W.Frag) : R2 := fun x y H Q => rIn K true x y H Q ∨ rNotInD K x y H Q
theorem op_inZ (hu : X.A.units + 65 < cLine) : OpR X (compareOp .In) (rInZ X.K) := op_in_seq.or (op_inD hu)
theorem op_notInZ (hu : X.A.units + 65 < cLine) : OpR X (compareOp .NotIn) (rNotInZ X.K) := op_notIn_seq.or (op_notInD hu)
theorem oInB_of {x y : D} {b : Bool} {v w : V} (hs : Sub F H) (q1 : Rp G F v x) (q2 : Rp G F w y) (h : oInB x y = some b) :
    (∃ p xs, w = .ref p ∧ (SqL G.K H p xs ∨ SqT G.K H p xs) ∧ flatV v = true ∧ xs.all flatV = true ∧ inV v xs = b) ∨ (∃ ds, Dp G.K H v x ∧ Dp G.K H w (.list ds) ∧ SeqAt.shaped x = true ∧ SeqAt.shaped (.list ds) = true ∧ b = ds.any fun z => PyData.eqv z x) := by
  unfold oInB at h
  split at h
  · split at h
    · rename_i hz
      rw [Bool.and_eq_true] at hz
      cases h
      obtain ⟨a, xs, rfl, h1, h2⟩ := rp_lst q2
      exact .inl ⟨a, xs, rfl, .inl (SqL.of (hs _ _ h1)), flat_of q1 hz.1, flat_all h2 hz.2, inV_of q1 hz.1 h2 hz.2⟩
    · split at h
      · rename_i hz
        rw [Bool.and_eq_true] at hz
        cases h
        exact .inr ⟨_, q1.dp hs (SeqAt.canLay_of_shaped hz.1), q2.dp hs (SeqAt.canLay_of_shaped hz.2), hz.1, hz.2, rfl⟩
      · cases h
  · split at h
    · rename_i hz
      rw [Bool.and_eq_true] at hz
      cases h
      obtain ⟨a, xs, rfl, h1, h2⟩ := rp_tup q2
      exact .inl ⟨a, xs, rfl, .inr (hs.t h1), flat_of q1 hz.1, flat_all h2 hz.2, inV_of q1 hz.1 h2 hz.2⟩
    · cases h
  · cases h
theorem od_in : OpD G (rInZ G.K) oIn := fun x y d F H v w Q h hs q1 q2 k => by
  unfold oIn at h
  cases hb : oInB x y with
  | none => rw [hb] at h; cases h
  | some b =>
    rw [hb] at h
    cases h
    rcases oInB_of hs q1 q2 hb with ⟨p, xs, e, h1, h2, h3, h4⟩ | ⟨ds, h1, h2, h3, h4, h5⟩
    · exact .inl ⟨p, xs, e, h1, h2, h3, by rw [if_neg (by decide), h4]; exact k _ _ _ (Ext.refl _ _) (.bl _)⟩
    · exact .inr ⟨x, ds, h1, h2, h3, h4, by rw [← h5]; exact k _ _ _ (Ext.refl _ _) (.bl _)⟩
theorem od_notIn : OpD G (rNotInZ G.K) oNotIn := fun x y d F H v w Q h hs q1 q2 k => by
  unfold oNotIn at h
  cases hb : oInB x y with
  | none => rw [hb] at h; cases h
  | some b =>
    rw [hb] at h
    cases h
    rcases oInB_of hs q1 q2 hb with ⟨p, xs, e, h1, h2, h3, h4⟩ | ⟨ds, h1, h2, h3, h4, h5⟩
    · exact .inl ⟨p, xs, e, h1, h2, h3, by rw [if_pos rfl, h4]; exact k _ _ _ (Ext.refl _ _) (.bl _)⟩
    · exact .inr ⟨x, ds, h1, h2, h3, h4, by rw [← h5]; exact k _ _ _ (Ext.refl _ _) (.bl _)⟩
/-! ### x is True -/
def oIsB : D → D → Option D
  | .bool a, .bool b => some (.bool (decide (a = b)))
  | _, _ => none
def oNotB : D → D → Option D
  | .bool a, .bool b => some (.bool (!decide (a = b)))
  | _, _ => none
theorem od_isB : OpD G rIsB oIsB := fun x y d F H v w Q h hs q1 q2 k => by
  unfold oIsB at h
  split at h
  · cases h
    rw [rp_bl q1, rp_bl q2]
    exact ⟨_, _, rfl, rfl, k _ _ _ (Ext.refl _ _) (.bl _)⟩
  · cases h
theorem od_notB : OpD G rNotB oNotB := fun x y d F H v w Q h hs q1 q2 k => by
  unfold oNotB at h
  split at h
  · cases h
    rw [rp_bl q1, rp_bl q2]
    exact ⟨_, _, rfl, rfl, k _ _ _ (Ext.refl _ _) (.bl _)⟩
  · cases h
/-! ### xs[::-1], a list -/
def xRev (f : En → R D) : En → R Sl := fun r => (f r).bind fun x r1 => match x with
  | .list ds => .ok (.ow ds.reverse) r1
  | _ => .st
theorem dx_rev {k : Nat} {p1 p2 p3 : Pos} (hK : X.K = G.K) (ha : PE X a (TEo G W f)) : PE X (.Subscript a (.Slice none none (some (.UnaryOp .USub (.Constant (.int 1) k p1) p2)) p3) pos) (TXo G W (xRev f)) :=
  pe_of (pe_revL ha) fun σ H Q ⟨F, r0, e, p⟩ => by
    have p : TXp G W (xRev f r0) F H σ r0 Q := p
    refine ⟨F, r0, e, (TXp.bind (rel := rV G) p).mono fun v H1 ⟨x, F1, r1, _, e1, q1, p1⟩ => ?_⟩
    cases q1 with
    | @lst a xs ds h1 h2 => exact ⟨a, xs, rfl, SqL.of (e1.sub _ _ h1), fun l hl => TXp.new (ds := ds.reverse) p1 e1 _ h2.rev l hl⟩
    | _ => exact p1.elim
/-! ### all, any of a list of truth values -/
def boolsD : List D → Option (List Bool)
  | [] => some []
  | .bool b :: r => (boolsD r).map (b :: ·)
  | _ :: _ => none
theorem bools_is : ∀ {ds : List D} {bs : List Bool}, boolsD ds = some bs → ds = bs.map PyData.bool
  | [], bs, h => by cases h; rfl
  | d :: r, bs, h => by
    cases d with
    | bool b =>
      unfold boolsD at h
      cases hr : boolsD r with
      | none => rw [hr] at h; cases h
      | some ms => rw [hr] at h; cases h; rw [bools_is hr]; rfl
    | _ => cases h
theorem rp_bools {F : Hp} : ∀ {bs : List Bool} {vs : List V}, RpL G F vs (bs.map PyData.bool) → vs = bs.map V.bl
  | [], _, q => by cases q; rfl
  | n :: ns, _, q => by
    cases q with
    | cons h t => rw [rp_bl h, rp_bools t]; rfl
def cAll : List D → Option D
  | [.list ds] => (boolsD ds).map fun bs => .bool (bs.all id)
  | _ => none
def cAny : List D → Option D
  | [.list ds] => (boolsD ds).map fun bs => .bool (bs.any id)
  | _ => none
theorem cd_all : CallD G (rAll G.K) cAll := fun x d F H v Q h hs q k => by
  unfold cAll at h
  split at h
  · rename_i ds
    obtain ⟨v, rfl, qa⟩ := one_of q
    obtain ⟨a, xs, rfl, h1, h2⟩ := rp_lst qa
    cases hn : boolsD ds with
    | none => rw [hn] at h; cases h
    | some bs =>
      rw [hn] at h
      cases h
      rw [bools_is hn] at h2
      rw [rp_bools h2] at h1
      exact ⟨a, bs, rfl, SqL.of (hs _ _ h1), k _ _ _ (Ext.refl _ _) (.bl _)⟩
  · cases h
theorem cd_any : CallD G (rAny G.K) cAny := fun x d F H v Q h hs q k => by
  unfold cAny at h
  split at h
  · rename_i ds
    obtain ⟨v, rfl, qa⟩ := one_of q
    obtain ⟨a, xs, rfl, h1, h2⟩ := rp_lst qa
    cases hn : boolsD ds with
    | none => rw [hn] at h; cases h
    | some bs =>
      rw [hn] at h
      cases h
      rw [bools_is hn] at h2
      rw [rp_bools h2] at h1
      exact ⟨a, bs, rfl, SqL.of (hs _ _ h1), k _ _ _ (Ext.refl _ _) (.bl _)⟩
  · cases h
/-! ### slices of tuples, lists -/
def cutD (ds : List D) (lo hi : Option Int) : List D := (ds.drop (HT.sIx ds.length 0 lo)).take (HT.sIx ds.length ds.length hi - HT.sIx ds.length 0 lo)
theorem rp_cut {vs : List V} {ds : List D} (q : RpL G F vs ds) (lo hi : Option Int) : RpL G F (cutV vs lo hi) (cutD ds lo hi) := by
  unfold cutV cutD
  rw [q.len]
  exact (q.drop _).take _
theorem cut_whole {ds : List D} {lo hi : Option Int} (h : HT.sIx ds.length 0 lo = 0 ∧ HT.sIx ds.length ds.length hi = ds.length) : cutD ds lo hi = ds := by
  unfold cutD
  rw [h.1, h.2, List.drop_zero, Nat.sub_zero, List.take_length]
abbrev rO : Hp → Option Int → Option Int → Prop := fun _ a b => a = b
abbrev TPo (G : Gm) (W : WX) (f : En → R (Option Int)) : TO := Ps G W rO f
def pNo : En → R (Option Int) := fun r => .ok none r
def pE (f : En → R D) : En → R (Option Int) := fun r => (f r).bind fun x r1 => match x with
  | .int i => .ok (some i) r1
  | _ => .st
theorem dp_no : PO X none (TPo G W pNo) := ⟨fun pins s σ H Q I ⟨F, r, e, p⟩ => po_none.run pins s σ H Q I (Pt.here p e (Ext.refl _ _) rfl)⟩
theorem dp_some (h : PE X a (TEo G W f)) : PO X (some a) (TPo G W (pE f)) := ⟨fun pins s σ H Q I ⟨F, r, e, p⟩ => (po_some h).run pins s σ H Q I ⟨F, r, e, (Pt.bind (rel1 := rV G) p).mono fun v H1 ⟨x, F1, r1, _, e1, q1, p1⟩ => by
  cases q1 with
  | int i => exact ⟨i, rfl, Pt.here p1 e1 (Ext.refl _ _) rfl⟩
  | _ => exact p1.elim⟩⟩
def xSlc (f : En → R D) (l u : En → R (Option Int)) : En → R Sl := fun r => (f r).bind fun x r1 => (l r1).bind fun lo r2 => (u r2).bind fun hi r3 => match x with
  | .tuple ds => .ok (.vl (.tuple (cutD ds lo hi))) r3
  | .list ds => .ok (.ow (cutD ds lo hi)) r3
  | _ => .st
theorem TXp.val {d : D} {Q : VK} (h : TXp G W (.ok (.vl d) r) F H σ r Q) (e : Rel G F H σ r) : ∀ F' H' z, Ext F H F' H' → Rp G F' z d → Q z H' := fun F' H' z x q =>
  h F' H' z ((x.goO fun _ z => z).wide (fun _ z => z) fun a z => .inl (own_val (e.ext x).len z)) ((e.ext x).val q)
theorem dx_slc {lo hi : Option Expr} {l u : En → R (Option Int)} {p2 : Pos} (hK : X.K = G.K) (ha : PE X a (TEo G W f)) (hl : PO X lo (TPo G W l)) (hu : PO X hi (TPo G W u)) : PE X (.Subscript a (.Slice lo hi none p2) pos) (TXo G W (xSlc f l u)) :=
  pe_of (pe_slice (sl_tupA.or sl_list) ha hl hu) fun σ H Q ⟨F, r0, e, p⟩ => by
    have p : TXp G W (xSlc f l u r0) F H σ r0 Q := p
    refine ⟨F, r0, e, (TXp.bind (rel := rV G) p).mono fun v H1 ⟨x, F1, r1, _, e1, q1, p1⟩ => ⟨F1, r1, e1, (TXp.bind (rel := rO) p1).mono fun o H2 ⟨lo', F2, r2, s2, e2, q2, p2⟩ => ⟨F2, r2, e2, (TXp.bind (rel := rO) p2).mono fun o2 H3 ⟨hi', F3, r3, s3, e3, q3, p3⟩ => ?_⟩⟩⟩
    have q2 : o = lo' := q2
    have q3 : o2 = hi' := q3
    subst q2 q3
    have q1 := (q1.mono s2).mono s3
    cases q1 with
    | @tup b xs ds h1 h2 =>
      have p3 := TXp.val p3 e3
      refine .inl ⟨b, xs, rfl, by rw [hK]; exact e3.sub.t h1, fun hw => ?_, fun hw => new_tup e3.sub (rp_cut h2 _ _) rfl p3⟩
      rw [h2.len] at hw
      exact p3 _ _ _ (Ext.refl _ _) (by rw [cut_whole hw]; exact .tup h1 h2)
    | @lst b xs ds h1 h2 => exact .inr ⟨b, xs, rfl, SqL.of (e3.sub _ _ h1), fun l hl => TXp.new (ds := cutD ds _ _) p3 e3 _ (rp_cut h2 _ _) l hl⟩
    | _ => exact p3.elim
/-! ### (*xs, ..) -/
def seqD : D → Option (List D)
  | .list ds => some ds
  | .tuple ds => some ds
  | _ => none
def aStar (f : En → R D) (g : En → R (List D)) : En → R (List D) := fun r => (f r).bind fun x r1 => match seqD x with
  | some ds => (g r1).bind fun es r2 => .ok (ds ++ es) r2
  | none => .st
theorem da_star {es : List Expr} {fs : En → R (List D)} {sp : Pos} (hK : X.K = G.K) (ha : PE X a (TEo G W f)) (hr : PA X es (TAo G W fs)) (hs : starEach (.Starred a sp :: es) X.env = (true, eval a X.env) :: starEach es X.env := by rfl) : PA X (.Starred a sp :: es) (TAo G W (aStar f fs)) :=
  pa_of (StX.pa_star ha hr hs) fun σ H Q ⟨F, r0, e, p⟩ => ⟨F, r0, e, (Pt.bind (rel1 := rV G) p).mono fun v H1 ⟨x, F1, r1, _, e1, q1, p1⟩ => by
    cases q1 with
    | @tup b xs ds h1 h2 =>
      have p1 : Pt G W (rL G) ((fs r1).bind fun es r2 => .ok (ds ++ es) r2) F1 H1 σ r1 Q := p1
      exact ⟨b, xs, rfl, .inl (by rw [hK]; exact e1.sub.t h1), F1, r1, e1, (Pt.bind (rel1 := rL G) p1).mono fun vs H2 ⟨y, F2, r2, s2, e2, q2, p2⟩ => Pt.here p2 e2 (Ext.refl _ _) ((h2.mono s2).append q2)⟩
    | @lst b xs ds h1 h2 =>
      have p1 : Pt G W (rL G) ((fs r1).bind fun es r2 => .ok (ds ++ es) r2) F1 H1 σ r1 Q := p1
      exact ⟨b, xs, rfl, .inr (SqL.of (e1.sub _ _ h1)), F1, r1, e1, (Pt.bind (rel1 := rL G) p1).mono fun vs H2 ⟨y, F2, r2, s2, e2, q2, p2⟩ => Pt.here p2 e2 (Ext.refl _ _) ((h2.mono s2).append q2)⟩
    | _ => exact p1.elim⟩
/-! ### enumerate of a list -/
def enumD : Nat → List D → List D
  | _, [] => []
  | i, d :: ds => .tuple [.int (i : Nat), d] :: enumD (i + 1) ds
theorem enumD_len : ∀ (ds : List D) (i : Nat), (enumD i ds).length = ds.length
  | [], _ => rfl
  | d :: ds, i => congrArg (· + 1) (enumD_len ds (i + 1))
theorem enumD_get : ∀ (ds : List D) (i j : Nat) (d : D), ds[j]? = some d → (enumD i ds)[j]? = some (.tuple [.int ((i + j : Nat) : Int), d])
  | [], _, _, _, e => by simp at e
  | x :: ds, i, 0, d, e => by simp at e; subst e; rfl
  | x :: ds, i, j + 1, d, e => by
    have := enumD_get ds (i + 1) j d (by simpa using e)
    rw [show i + (j + 1) = i + 1 + j from by omega]
    simpa [enumD] using this
theorem yl_enum {K : PySem.W.Frag} {xs : List V} {ds : List D} {p : Addr} (hK : K = G.K) (h : SqL G.K F p xs) (q : RpL G F xs ds) : Yl G (Ite K p) F (enumD 0 ds) := by
  subst hK
  refine ⟨fun i F' H' s1 s2 hi => ?_, fun i F' H' s1 s2 hi => ⟨xs, s2.l (s1.l h), by rw [enumD_len] at hi; rw [q.len]; omega⟩⟩
  rw [enumD_len] at hi
  obtain ⟨v, hv, qv⟩ := q.get (List.getElem?_eq_getElem hi)
  have hs := s2.l (s1.l h)
  refine ⟨⟨xs, v, hs, hv⟩, fun x H2 ⟨T, y, e, hT, e2, k⟩ => ?_⟩
  subst e e2
  have z := k xs hs
  rw [hv] at z
  cases z
  have hF : F' T = none := by
    cases z : F' T with
    | none => rfl
    | some u => rw [s2 T u z] at hT; cases hT
  refine ⟨upd F' T (.tup [.int (i : Nat), v]), .tuple [.int (i : Nat), ds[i]], ?_, Ext.new s2 hT (by intro ps z; cases z), .tup (SqT.of upd_same) (.cons (.int _) (.cons ((qv.mono s1).mono (sub_upd hF)) .nil))⟩
  have := enumD_get ds 0 i ds[i] (List.getElem?_eq_getElem hi)
  rwa [Nat.zero_add] at this
def iEnm (f : En → R D) : En → R (List D) := fun r => (f r).bind fun x r1 => match x with
  | .list ds => .ok (enumD 0 ds) r1
  | _ => .st
theorem di_enum {p tpos : Pos} {elts : List Expr} {kk : Nat} (hK : X.K = G.K) (hm : X.mg "enumerate" = none) (ha : PE X a (TEo G W f)) (hg : Gl X "enumerate" := by rfl) (hs : starEach [a] X.env = [(false, eval a X.env)] := by rfl) : PI X (.Tuple elts kk tpos) (.Call (.Name "enumerate" p) [a] [] pos) (TIo G W (iEnm f)) :=
  pi_of (pi_enum hg hm (pa_cons ha pa_nil hs) hs) fun σ H Q ⟨F, r, e, p⟩ => by
    have p : TIp G W (iEnm f r) F H σ r Q := p
    refine ⟨F, r, e, (TIp.bind (rel := rV G) p).mono fun v H1 ⟨x, F1, r1, _, e1, q1, p1⟩ => ?_⟩
    cases q1 with
    | @lst b xs ds h1 h2 => exact ⟨b, xs, rfl, by rw [hK]; exact SqL.of (e1.sub _ _ h1), TIp.here p1 e1 (yl_enum hK (SqL.of h1) h2)⟩
    | _ => exact p1.elim
/-! ### zip of two lists, two tuples -/
def zipD : List D → List D → List D
  | d :: ds, e :: es => .tuple [d, e] :: zipD ds es
  | _, _ => []
theorem zipD_len : ∀ (ds es : List D), (zipD ds es).length = min ds.length es.length
  | [], es => by simp [zipD]
  | d :: ds, [] => by simp [zipD]
  | d :: ds, e :: es => by
    simp only [zipD, List.length_cons, zipD_len ds es]
    omega
theorem zipD_get : ∀ (ds es : List D) (j : Nat) (d e : D), ds[j]? = some d → es[j]? = some e → (zipD ds es)[j]? = some (.tuple [d, e])
  | [], _, _, _, _, h, _ => by simp at h
  | _ :: _, [], _, _, _, _, h => by simp at h
  | x :: ds, y :: es, 0, d, e, h1, h2 => by simp at h1 h2; subst h1 h2; rfl
  | x :: ds, y :: es, j + 1, d, e, h1, h2 => by
    have := zipD_get ds es j d e (by simpa using h1) (by simpa using h2)
    simpa [zipD] using this
theorem pair_new {F' H' : Hp} {T : Addr} {v w : V} {d e : D} (s2 : Sub F' H') (hT : H' T = none) (q1 : Rp G F' v d) (q2 : Rp G F' w e) : Ext F' H' (upd F' T (.tup [v, w])) (upd H' T (.tup [v, w])) ∧ Rp G (upd F' T (.tup [v, w])) (.ref T) (.tuple [d, e]) := by
  have hF : F' T = none := by
    cases z : F' T with
    | none => rfl
    | some u => rw [s2 T u z] at hT; cases hT
  exact ⟨Ext.new s2 hT (by intro ps z; cases z), .tup (SqT.of upd_same) (.cons (q1.mono (sub_upd hF)) (.cons (q2.mono (sub_upd hF)) .nil))⟩
theorem yl_zip {K : PySem.W.Frag} {xs ys : List V} {ds es : List D} {p q : Addr} (hK : K = G.K) (h : SqL G.K F p xs) (h' : SqL G.K F q ys) (r : RpL G F xs ds) (r' : RpL G F ys es) : Yl G (Itz K p q) F (zipD ds es) := by
  subst hK
  refine ⟨fun i F' H' s1 s2 hi => ?_, fun i F' H' s1 s2 hi => ⟨xs, ys, s2.l (s1.l h), s2.l (s1.l h'), by rw [zipD_len] at hi; rw [r.len, r'.len]; omega⟩⟩
  rw [zipD_len] at hi
  have i1 : i < ds.length := by omega
  have i2 : i < es.length := by omega
  obtain ⟨v, hv, qv⟩ := r.get (List.getElem?_eq_getElem i1)
  obtain ⟨w, hw, qw⟩ := r'.get (List.getElem?_eq_getElem i2)
  have hs := s2.l (s1.l h)
  have hs' := s2.l (s1.l h')
  refine ⟨⟨xs, ys, v, w, hs, hs', hv, hw⟩, fun x H2 ⟨T, y, z, e, hT, e2, k, k'⟩ => ?_⟩
  subst e e2
  have a := k xs hs
  have b := k' ys hs'
  rw [hv] at a; rw [hw] at b
  cases a; cases b
  obtain ⟨c1, c2⟩ := pair_new s2 hT (qv.mono s1) (qw.mono s1)
  exact ⟨_, _, zipD_get ds es i _ _ (List.getElem?_eq_getElem i1) (List.getElem?_eq_getElem i2), c1, c2⟩
theorem yl_zipT {K : PySem.W.Frag} {xs ys : List V} {ds es : List D} {p q : Addr} (hK : K = G.K) (h : SqT G.K F p xs) (h' : SqT G.K F q ys) (r : RpL G F xs ds) (r' : RpL G F ys es) : Yl G (RZ.ItzT K p q) F (zipD ds es) := by
  subst hK
  refine ⟨fun i F' H' s1 s2 hi => ?_, fun i F' H' s1 s2 hi => ⟨xs, ys, s2.t (s1.t h), s2.t (s1.t h'), by rw [zipD_len] at hi; rw [r.len, r'.len]; omega⟩⟩
  rw [zipD_len] at hi
  have i1 : i < ds.length := by omega
  have i2 : i < es.length := by omega
  obtain ⟨v, hv, qv⟩ := r.get (List.getElem?_eq_getElem i1)
  obtain ⟨w, hw, qw⟩ := r'.get (List.getElem?_eq_getElem i2)
  have hs := s2.t (s1.t h)
  have hs' := s2.t (s1.t h')
  refine ⟨⟨xs, ys, v, w, hs, hs', hv, hw⟩, fun x H2 ⟨T, y, z, e, hT, e2, k, k'⟩ => ?_⟩
  subst e e2
  have a := k xs hs
  have b := k' ys hs'
  rw [hv] at a; rw [hw] at b
  cases a; cases b
  obtain ⟨c1, c2⟩ := pair_new s2 hT (qv.mono s1) (qw.mono s1)
  exact ⟨_, _, zipD_get ds es i _ _ (List.getElem?_eq_getElem i1) (List.getElem?_eq_getElem i2), c1, c2⟩
def iZp (f g : En → R D) : En → R (List D) := fun r => (f r).bind fun x r1 => (g r1).bind fun y r2 => match x, y with
  | .list ds, .list es => .ok (zipD ds es) r2
  | .tuple ds, .tuple es => .ok (zipD ds es) r2
  | _, _ => .st
theorem di_zip {p tpos : Pos} {elts : List Expr} {kk : Nat} (hK : X.K = G.K) (hm : X.mg "zip" = none) (ha : PE X a (TEo G W f)) (hb : PE X b (TEo G W g)) (hg : Gl X "zip" := by rfl) (hs : starEach [a, b] X.env = (false, eval a X.env) :: starEach [b] X.env := by rfl) (hs2 : starEach [b] X.env = (false, eval b X.env) :: starEach [] X.env := by rfl)
    (hpl : (backTo pos (starEach [b] X.env)).any (·.1) = false := by rfl) : PI X (.Tuple elts kk tpos) (.Call (.Name "zip" p) [a, b] [] pos) (TIo G W (iZp f g)) :=
  pi_of (RZ.pi_zipA hg hm (pa_cons ha (pa_cons hb pa_nil hs2) hs) hs hpl) fun σ H Q ⟨F, r, e, p⟩ => by
    have p : TIp G W (iZp f g r) F H σ r Q := p
    refine ⟨F, r, e, (TIp.bind (rel := rV G) p).mono fun v H1 ⟨x, F1, r1, _, e1, q1, p1⟩ => ⟨F1, r1, e1, (TIp.bind (rel := rV G) p1).mono fun w H2 ⟨y, F2, r2, s2, e2, q2, p2⟩ => ?_⟩⟩
    have q1 := q1.mono s2
    cases q1 with
    | @lst l1 xs ds h1 h2 =>
      cases q2 with
      | @lst l2 ys es h3 h4 => exact ⟨l1, l2, xs, ys, rfl, .inl ⟨by rw [hK]; exact SqL.of (e2.sub _ _ h1), by rw [hK]; exact SqL.of (e2.sub _ _ h3), TIp.here p2 e2 (yl_zip hK (SqL.of h1) (SqL.of h3) h2 h4)⟩⟩
      | _ => exact p2.elim
    | @tup l1 xs ds h1 h2 =>
      cases q2 with
      | @tup l2 ys es h3 h4 => exact ⟨l1, l2, xs, ys, rfl, .inr ⟨by rw [hK]; exact e2.sub.t h1, by rw [hK]; exact e2.sub.t h3, TIp.here p2 e2 (yl_zipT hK h1 h3 h2 h4)⟩⟩
      | _ => exact p2.elim
    | _ => exact p2.elim
end
end DL
set_option maxHeartbeats 4000000
/-! DLm: enumerate of tuples; sorted of ints, of tuples of ints; min, max of lists and tuples; x.pop(i). -/
namespace DL
open PySem PyProof.Rows L2
/-! ### enumerate of a tuple -/
abbrev tItO (t : Addr) : Obj := { cls := .type "tuple_iterator", data := .fields #[.ref t, .int 0 0] }
abbrev enO (p : Addr) : Obj := { cls := .type "enumerate", data := .fields #[.none, .bool false, .ref p, rawInt 0, .none, .none] }
theorem enum_newT {t : Addr} {its : Array Value} : Meets (Builtin.«enumerate.__new__» ⟨[.type "enumerate", .ref t], []⟩) (fun _ R s => s.heap.IsTuple t its ∧ R (.ok (.ret (.ref (s.heap.push (tItO t)).objs.size))) { s with heap := (s.heap.push (tItO t)).push (enO s.heap.objs.size) }) :=
  .of_wp fun P w A R s hh => by
    obtain ⟨hp, gg, dd, tk, os⟩ := s
    obtain ⟨ht, hh⟩ := hh
    have subE := sub_enumerate
    have it1 : ∀ {A' : Around} {E : Value → Shared → Prop} {Q : Value → Shared → Prop}, Q (.ref hp.objs.size) ⟨hp.push (tItO t), gg, dd, tk, os⟩ → wpAny (model P w) A' (pyIter (.ref t)) Q E ⟨hp, gg, dd, tk, os⟩ := fun q => wpAny_pyIter_tuple (s := ⟨hp, gg, dd, tk, os⟩) ht q
    wp_walk using it1
    refine wpAny_stack_any fun st => wpAny_pure ?_
    split
    · rename_i c _ _ _ _ _
      cases (c == Value.type "enumerate") <;> (wp_walk using it1; exact ⟨_, rfl, hh⟩)
    · wp_walk using it1; exact ⟨_, rfl, hh⟩
theorem enum_callT {P : Program} {w : World} {A : Around} {E : Value → Shared → Prop} {s : Shared} {t : Addr} {its : Array Value} {Q : Value → Shared → Prop} (ht : s.heap.IsTuple t its)
    (k : ∀ g : Heap, IsEnum g (s.heap.objs.size + 1) s.heap.objs.size 0 .none → g.IsTupleIter s.heap.objs.size t 0 → (∀ b o, s.heap.get? b = some o → g.get? b = some o) → Q (.ref (s.heap.objs.size + 1)) { s with heap := g }) :
    wpAny (model P w) A (call (.type "enumerate") [.ref t]) Q E s := by
  refine callType_new F.called_enumerate (by decide) (F.typeCall_enumerate_1 _) (F.newCall_enumerate_1 _) (fun o => F.args_object_init_2 o _) F.entry_enumerate_new (enum_newT (its := its)) ⟨ht, ?_⟩
  have hz : (s.heap.push (tItO t)).objs.size = s.heap.objs.size + 1 := Heap.size_push ..
  show _ ∧ _
  rw [hz]
  have he : IsEnum ((s.heap.push (tItO t)).push (enO s.heap.objs.size)) (s.heap.objs.size + 1) s.heap.objs.size 0 .none := by
    have q := Heap.get?_push_size (s.heap.push (tItO t)) (o := enO s.heap.objs.size) rfl
    rwa [hz] at q
  exact ⟨⟨_, he, rfl⟩, k _ he ⟨_, Heap.get?_push_of_some _ (Heap.get?_push_size _ rfl), rfl, rfl⟩ fun b o x => Heap.get?_push_of_some _ (Heap.get?_push_of_some _ x)⟩
theorem enum_endT {P : Program} {w : World} {A : Around} {E : Value → Shared → Prop} {s : Shared} {e it t : Addr} {i : Nat} {its : Array Value} {c : Int} {old : Value} {Q : Option Value → Shared → Prop} (hh : A.handled = none) (he : IsEnum s.heap e it c old) (hi : s.heap.IsTupleIter it t i) (ht : s.heap.IsTuple t its) (hx : its[i]? = none)
    (k : ∀ g, Heap.ExtBut it s.heap g → Q none { s with heap := g }) : wpAny (model P w) A (pyNext (.ref e)) Q E s := by
  have tE : s.TypeIs (.ref e) "enumerate" := ⟨_, he, rfl⟩
  unfold pyNext
  refine wpAny_bind (wpAny_attempt (wpAny_callSpecial?_slot (name := Str.ofString "__next__") tE F.slot_enumerate_next (wpAny_call_entry F.slot_enumerate_next tE F.entry_enumerate_next ?_ (F.args_enumerate_next_1 _))))
  show wpAny _ _ (field (.ref e) 2 >>= _) _ _ _
  refine wpAny_bind (wpAny_field he rfl (x := .ref it) rfl (wpAny_bind (wpAny_nextOf_tuple_end hh hi ht hx fun g x eg ⟨o, ho, hc⟩ => ?_)))
  exact wpAny_bind (wpAny_isInstance (T := "StopIteration") (b := true) ⟨o, ho, hc⟩ isSubtype_stop (wpAny_pure (k _ eg)))
def IteT (K : PySem.W.Frag) (a : Addr) : It :=
  ⟨fun i H => ∃ (xs : List V) (x : V), SqT K H a xs ∧ xs[i]? = some x,
   fun i H v H' => ∃ T x, v = .ref T ∧ H T = none ∧ H' = upd H T (.tup [.int (i : Nat), x]) ∧ ∀ xs, SqT K H a xs → xs[i]? = some x,
   fun i H => ∃ xs : List V, SqT K H a xs ∧ xs.length ≤ i⟩
theorem two_cases {b e it : Addr} (h : b ∈ [e, it]) : b = e ∨ b = it := by simpa using h
theorem turn_enumT {P : Program} {w : World} {K : PySem.W.Frag} {elts : List Expr} {kk : Nat} {tpos : Pos} (a e it : Addr) :
    Turn P w K (.Tuple elts kk tpos) (IteT K a) [e, it] e (fun i h => (∃ old, IsEnum h e it ((i : Nat) : Int) old) ∧ h.IsTupleIter it a i ∧ e ≠ it ∧ e ≠ a ∧ a ≠ it) where
  mem := by simp
  obj := fun i h st b hb => by
    obtain ⟨⟨old, he⟩, ⟨o, ho, hc, hd⟩, _⟩ := st
    rcases two_cases hb with z | z
    · subst z; exact ⟨_, he, fun v q => nomatch q⟩
    · subst z; exact ⟨o, ho, fun v q => by rw [hd] at q; cases q⟩
  keep := fun i h g st k => by
    obtain ⟨⟨old, he⟩, hi, n⟩ := st
    exact ⟨⟨old, k e (by simp) _ he⟩, hi.at fun o q => k it (by simp) o q, n⟩
  item := by
    intro X hP hw hK hc i pins s σ H E I hf st hg
    subst hP hw hK
    obtain ⟨⟨old, he⟩, hit, n1, n2, n3⟩ := st
    obtain ⟨xs, x, hq, hx⟩ := hg
    obtain ⟨its, rv, pt, _⟩ := I.tuple hq
    obtain ⟨u, hu, ru⟩ := rv.get hx
    have eL : e < s.heap.objs.size := Heap.lt_size he
    have iL : it < s.heap.objs.size := by obtain ⟨_, q, _⟩ := hit; exact Heap.lt_size q
    have hlt : i < its.toArray.size := by
      have := (List.getElem?_eq_some_iff.mp hu).1
      simpa using this
    have hef : e ∉ [it, a] := by simp [n1, n2]
    refine wpAny_pyNext_enum_itemD (Draws.tuple (A := X.A.in1) (I.ok.hd hc) it a n3 its.toArray) he ⟨hit, pt⟩ hlt n1 hef fun y g tk hy ho st2 hT hsz hk => ?_
    have ey : y = u := by
      have h1 : its.toArray[i]? = some u := by simpa using hu
      rw [hy] at h1
      exact Option.some.inj h1
    subst ey
    refine ⟨_, rfl, wpAny_letOwnedTupleGo_enum (s := { s with heap := g, toks := tk + 1 }) ho fun g2 he' sb => ?_⟩
    have hT2 : g2.get? s.heap.objs.size = some { cls := .type "tuple", data := .seq #[.int i tk, y] } := (sb.2 _ (Nat.ne_of_gt eL)).trans hT
    have new : ObjOk X.prog X.w (upd H s.heap.objs.size (.tup [.int (i : Nat), x])) g2 s.heap.objs.size (.tup [.int (i : Nat), x]) := ⟨show 2 ≤ sizeLine by decide, [.int i tk, y], .cons ⟨_, rfl⟩ (.cons ru .nil), ⟨_, hT2, rfl, _, rfl⟩⟩
    have I1 : Inv X pins σ (upd H s.heap.objs.size (.tup [.int (i : Nat), x])) { s with heap := g2, toks := tk + 1 } := I.turnedNew (ch := [e, it]) (fun b ob hb q => (sb.2 b (fun z => hb (by simp [z]))).trans (hk b ob (fun z => hb (by simp [z])) (fun z => hb (by simp [z])) q)) hf (Nat.le_refl _) new
    refine ⟨.ref s.heap.objs.size, _, I1, rfl, ⟨_, x, rfl, I.hok.fresh (Nat.le_refl _), rfl, fun ys hy => by rw [I.tuple_inj hy hq]; exact hx⟩, ⟨⟨y, ?_⟩, st2.1.at fun o q => (sb.2 it (Ne.symm n1)).trans q, n1, n2, n3⟩, fun b hb => ?_⟩
    · rw [show ((i + 1 : Nat) : Int) = (i : Int) + 1 by omega]; exact he'
    · have hb' : b < s.heap.objs.size := by
        rcases two_cases hb with z | z <;> subst z <;> assumption
      rw [upd_ne (Nat.ne_of_lt hb')]
      exact (hf b hb).1
  done := by
    intro X hP hw hK hc i pins s σ H E I hf st hg
    subst hP hw hK
    obtain ⟨⟨old, he⟩, hit, n1, n2, n3⟩ := st
    obtain ⟨xs, hq, hx⟩ := hg
    obtain ⟨its, rv, pt, _⟩ := I.tuple hq
    obtain ⟨f0, f1, f2, f3, f4, f5⟩ := hf it (by simp)
    have hl := rv.length
    exact enum_endT (I.ok.hd hc) he hit pt (by simp; omega) fun g eb => ⟨rfl, I.turned (t' := s.toks) (fun b o hb q => eb b o hb q) f0 f1 f3 f4 f5⟩
  self := fun A i s Q E st h => let ⟨⟨_, he⟩, _⟩ := st; wpAny_pyIter_enum he h
end DL
set_option maxHeartbeats 4000000
/-! DLn: sorted, min, max of ints and of tuples of ints; x.pop(i); enumerate. -/
namespace DL
open PySem PyProof.Rows L2
/-! ### a merge sort that the kernel runs -/
section
variable {α : Type} (le : α → α → Bool)
def mrgF : Nat → List α → List α → List α
  | 0, xs, ys => xs ++ ys
  | n + 1, xs, ys => match xs, ys with
    | [], ys => ys
    | xs, [] => xs
    | x :: xs, y :: ys => if le x y = true then x :: mrgF n xs (y :: ys) else y :: mrgF n (x :: xs) ys
def msF : Nat → List α → List α
  | 0, l => l
  | n + 1, l => match l with
    | [] => []
    | [x] => [x]
    | x :: y :: r => mrgF le (x :: y :: r).length (msF n ((x :: y :: r).take ((x :: y :: r).length / 2))) (msF n ((x :: y :: r).drop ((x :: y :: r).length / 2)))
variable {le}
theorem mrg_perm : ∀ (n : Nat) (xs ys : List α), (mrgF le n xs ys).Perm (xs ++ ys)
  | 0, _, _ => List.Perm.refl _
  | n + 1, [], ys => List.Perm.refl _
  | n + 1, x :: xs, [] => by simp [mrgF]
  | n + 1, x :: xs, y :: ys => by
    unfold mrgF
    dsimp only
    split
    · exact (mrg_perm n xs (y :: ys)).cons x
    · exact ((mrg_perm n (x :: xs) ys).cons y).trans (List.perm_middle (l₁ := x :: xs) (l₂ := ys) (a := y)).symm
theorem ms_perm : ∀ (n : Nat) (l : List α), (msF le n l).Perm l
  | 0, _ => List.Perm.refl _
  | n + 1, [] => List.Perm.refl _
  | n + 1, [x] => List.Perm.refl _
  | n + 1, x :: y :: r => by
    unfold msF
    dsimp only
    refine (mrg_perm _ _ _).trans (((ms_perm n _).append (ms_perm n _)).trans ?_)
    rw [List.take_append_drop]
variable {p : α → Prop}
theorem mrg_srt (tr : ∀ a b c, p a → p b → p c → le a b = true → le b c = true → le a c = true) (to : ∀ a b, p a → p b → le a b = true ∨ le b a = true) : ∀ (n : Nat) (xs ys : List α), xs.length + ys.length ≤ n → (∀ z ∈ xs ++ ys, p z) → xs.Pairwise (fun a b => le a b = true) → ys.Pairwise (fun a b => le a b = true) → (mrgF le n xs ys).Pairwise (fun a b => le a b = true)
  | 0, [], [], _, _, _, _ => List.Pairwise.nil
  | 0, [], _ :: _, h, _, _, _ => absurd h (by simp)
  | 0, _ :: _, _, h, _, _, _ => absurd h (by simp)
  | n + 1, [], ys, _, _, _, h2 => h2
  | n + 1, x :: xs, [], _, _, h1, _ => by simpa [mrgF] using h1
  | n + 1, x :: xs, y :: ys, hn, hp, h1, h2 => by
    have a1 := List.pairwise_cons.mp h1
    have a2 := List.pairwise_cons.mp h2
    have px : p x := hp x (by simp)
    have py : p y := hp y (by simp)
    unfold mrgF
    dsimp only
    split
    · rename_i hle
      refine List.pairwise_cons.mpr ⟨fun z hz => ?_, mrg_srt tr to n xs (y :: ys) (by simp at hn ⊢; omega) (fun z hz => hp z (List.mem_cons_of_mem _ hz)) a1.2 h2⟩
      have hz := (mrg_perm n xs (y :: ys)).mem_iff.mp hz
      rcases List.mem_append.mp hz with hz | hz
      · exact a1.1 z hz
      · rcases List.mem_cons.mp hz with e | hz
        · rw [e]; exact hle
        · exact tr x y z px py (hp z (by simp [hz])) hle (a2.1 z hz)
    · rename_i hle
      have hyx : le y x = true := (to x y px py).resolve_left hle
      refine List.pairwise_cons.mpr ⟨fun z hz => ?_, mrg_srt tr to n (x :: xs) ys (by simp at hn ⊢; omega) (fun z hz => hp z (by rcases List.mem_append.mp hz with q | q; exact List.mem_append_left _ q; exact List.mem_append_right _ (List.mem_cons_of_mem _ q))) h1 a2.2⟩
      have hz := (mrg_perm n (x :: xs) ys).mem_iff.mp hz
      rcases List.mem_append.mp hz with hz | hz
      · rcases List.mem_cons.mp hz with e | hz
        · rw [e]; exact hyx
        · exact tr y x z py px (hp z (by simp [hz])) hyx (a1.1 z hz)
      · exact a2.1 z hz
theorem ms_srt (tr : ∀ a b c, p a → p b → p c → le a b = true → le b c = true → le a c = true) (to : ∀ a b, p a → p b → le a b = true ∨ le b a = true) : ∀ (n : Nat) (l : List α), l.length ≤ n → (∀ z ∈ l, p z) → (msF le n l).Pairwise (fun a b => le a b = true)
  | 0, [], _, _ => List.Pairwise.nil
  | 0, _ :: _, h, _ => absurd h (by simp)
  | n + 1, [], _, _ => List.Pairwise.nil
  | n + 1, [x], _, _ => List.pairwise_singleton _ _
  | n + 1, x :: y :: r, hn, hp => by
    unfold msF
    dsimp only
    have l0 : (x :: y :: r).length = r.length + 2 := rfl
    refine mrg_srt tr to _ _ _ ?_ (fun z hz => ?_) (ms_srt tr to n _ ?_ fun z hz => hp z (List.mem_of_mem_take hz)) (ms_srt tr to n _ ?_ fun z hz => hp z (List.mem_of_mem_drop hz))
    · rw [(ms_perm n _).length_eq, (ms_perm n _).length_eq, List.length_take, List.length_drop]; omega
    · rcases List.mem_append.mp hz with q | q
      · exact hp z (List.mem_of_mem_take ((ms_perm n _).mem_iff.mp q))
      · exact hp z (List.mem_of_mem_drop ((ms_perm n _).mem_iff.mp q))
    · rw [List.length_take]; rw [l0] at hn ⊢; omega
    · rw [List.length_drop]; rw [l0] at hn ⊢; omega
end
/-! ### ints, tuples of ints -/
def isI : D → Bool
  | .int _ => true
  | _ => false
def isTI : D → Bool
  | .tuple xs => xs.all isI
  | _ => false
def ltL : List D → List D → Bool
  | [], [] => false
  | [], _ :: _ => true
  | _ :: _, [] => false
  | .int a :: xs, .int b :: ys => if a = b then ltL xs ys else decide (a < b)
  | _ :: _, _ :: _ => false
def ltD : D → D → Bool
  | .int a, .int b => decide (a < b)
  | .tuple xs, .tuple ys => ltL xs ys
  | _, _ => false
def leD (x y : D) : Bool := !ltD y x
theorem isI_is {d : D} (h : isI d = true) : ∃ i, d = .int i := by
  cases d <;> first | exact ⟨_, rfl⟩ | cases h
theorem allI_is : ∀ {ds : List D}, ds.all isI = true → ∃ ns : List Int, ds = ns.map .int
  | [], _ => ⟨[], rfl⟩
  | d :: ds, h => by
    rw [List.all_cons, Bool.and_eq_true] at h
    obtain ⟨i, rfl⟩ := isI_is h.1
    obtain ⟨ns, rfl⟩ := allI_is h.2
    exact ⟨i :: ns, rfl⟩
theorem isTI_is {d : D} (h : isTI d = true) : ∃ ns : List Int, d = .tuple (ns.map .int) := by
  cases d with
  | tuple xs => obtain ⟨ns, rfl⟩ := allI_is (show xs.all isI = true from h); exact ⟨ns, rfl⟩
  | _ => cases h
theorem ltL_ints : ∀ xs ys : List Int, ltL (xs.map .int) (ys.map .int) = decide (xs < ys)
  | [], [] => by simp [ltL]
  | [], y :: ys => by simp [ltL]
  | x :: xs, [] => by simp [ltL]
  | x :: xs, y :: ys => by
    simp only [List.map_cons, ltL, ltL_ints xs ys]
    by_cases h : x = y
    · subst h; simp [List.cons_lt_cons_iff]
    · rw [if_neg h]; simp [List.cons_lt_cons_iff, h]
/-- one kind -/
def Knd (d : D) : Prop := isI d = true
def okK (ds : List D) : Bool := ds.all isI || ds.all isTI
inductive Kd : D → D → Prop
  | i (a b : Int) : Kd (.int a) (.int b)
  | t (xs ys : List Int) : Kd (.tuple (xs.map .int)) (.tuple (ys.map .int))
theorem okK_is {ds : List D} (h : okK ds = true) : (∀ d ∈ ds, isI d = true) ∨ ∀ d ∈ ds, isTI d = true := by
  unfold okK at h
  rw [Bool.or_eq_true] at h
  exact h.imp (fun z d hd => List.all_eq_true.mp z d hd) fun z d hd => List.all_eq_true.mp z d hd
theorem okK_kd {ds : List D} (h : okK ds = true) {x y : D} (hx : x ∈ ds) (hy : y ∈ ds) : Kd x y := by
  rcases okK_is h with z | z
  · obtain ⟨i, rfl⟩ := isI_is (z x hx)
    obtain ⟨j, rfl⟩ := isI_is (z y hy)
    exact .i i j
  · obtain ⟨i, rfl⟩ := isTI_is (z x hx)
    obtain ⟨j, rfl⟩ := isTI_is (z y hy)
    exact .t i j
theorem Kd.lt {x y : D} (h : Kd x y) : PySem.W.dataLt x y = ltD x y := by
  cases h with
  | i a b => rw [PySem.W.dataLt_int]; rfl
  | t xs ys =>
    rw [PySem.W.dataLt_tuple]
    exact (PySem.W.dataLt_ints xs ys).trans (ltL_ints xs ys).symm
theorem Kd.alike {x y : D} (h : Kd x y) : PySem.W.alike x y = true := by
  cases h with
  | i a b => simp [PySem.W.alike]
  | t xs ys => simp [PySem.W.alike, PySem.W.alike_ints]
theorem isTI_depth {d : D} (h : isI d = true ∨ isTI d = true) : d.depth ≤ 1 ∧ d.canLay0 = true ∧ d ≠ .none := by
  rcases h with h | h
  · obtain ⟨i, rfl⟩ := isI_is h
    exact ⟨by simp [PyData.depth], by simp [PyData.canLay0], by simp⟩
  · obtain ⟨ns, rfl⟩ := isTI_is h
    refine ⟨by simp [PyData.depth, PySem.W.depth_ints], ?_, by simp⟩
    simp only [PyData.canLay0]
    clear h
    induction ns with
    | nil => simp [PyData.canLayAll0]
    | cons n r ih => simpa [PyData.canLayAll0, PyData.canLay0] using ih
theorem okK_each {ds : List D} (h : okK ds = true) {d : D} (hd : d ∈ ds) : d.depth ≤ 1 ∧ d.canLay0 = true ∧ d ≠ .none :=
  isTI_depth ((okK_is h).imp (fun z => z d hd) fun z => z d hd)
theorem okK_lay : ∀ {ds : List D}, (∀ d ∈ ds, d.canLay0 = true) → PyData.canLayAll0 ds = true
  | [], _ => by simp [PyData.canLayAll0]
  | d :: ds, h => by
    simp only [PyData.canLayAll0, Bool.and_eq_true]
    exact ⟨h d (by simp), okK_lay fun e he => h e (by simp [he])⟩
theorem okK_depth : ∀ {ds : List D}, (∀ d ∈ ds, d.depth ≤ 1) → PyData.depthAll ds ≤ 1
  | [], _ => by simp [PyData.depthAll]
  | d :: ds, h => by
    simp only [PyData.depthAll]
    have a := h d (by simp)
    have b := okK_depth (ds := ds) fun e he => h e (by simp [he])
    omega
theorem le_tr {a b c : D} (h1 : Kd a b) (h2 : Kd b c) (l1 : leD a b = true) (l2 : leD b c = true) : leD a c = true := by
  unfold leD at *
  cases h1 with
  | i x y =>
    generalize hb : PyData.int y = b at h2
    cases h2 with
    | i y z => cases hb; simp only [ltD, Bool.not_eq_true', decide_eq_false_iff_not] at *; omega
    | t _ _ => cases hb
  | t xs ys =>
    generalize hb : PyData.tuple (ys.map .int) = b at h2
    cases h2 with
    | i y z => cases hb
    | t ys2 zs =>
      simp only [ltD, ltL_ints, Bool.not_eq_true', decide_eq_false_iff_not, List.not_lt] at *
      have l2' : ys ≤ zs := l2
      exact List.le_trans l1 l2'
theorem le_to {a b : D} (h : Kd a b) : leD a b = true ∨ leD b a = true := by
  unfold leD
  cases h with
  | i x y => simp only [ltD, Bool.not_eq_true', decide_eq_false_iff_not]; omega
  | t xs ys =>
    simp only [ltD, ltL_ints, Bool.not_eq_true', decide_eq_false_iff_not, List.not_lt]
    exact List.le_total xs ys
theorem le_an {a b : D} (h : Kd a b) (l1 : leD a b = true) (l2 : leD b a = true) : a = b := by
  unfold leD at *
  cases h with
  | i x y => simp only [ltD, Bool.not_eq_true', decide_eq_false_iff_not] at *; exact congrArg PyData.int (by omega)
  | t xs ys =>
    simp only [ltD, ltL_ints, Bool.not_eq_true', decide_eq_false_iff_not, List.not_lt] at *
    rw [List.le_antisymm l1 l2]
def srtD (ds : List D) : List D := msF leD ds.length ds
theorem srtD_perm (ds : List D) : (srtD ds).Perm ds := ms_perm _ _
theorem dataLe_eq2 (x y : D) : PySem.W.dataLe false (fun d : D => d) x y = !PySem.W.dataLt y x := rfl
theorem srtD_is {ds : List D} (h : okK ds = true) : ds.mergeSort (PySem.W.dataLe false fun d : D => d) = srtD ds := by
  have kd : ∀ a b, a ∈ ds → b ∈ ds → Kd a b := fun a b ha hb => okK_kd h ha hb
  have e : ∀ a b, a ∈ ds → b ∈ ds → PySem.W.dataLe false (fun d : D => d) a b = leD a b := fun a b ha hb => by
    rw [dataLe_eq2, (kd b a hb ha).lt]; rfl
  have T := PySem.W.sortLe_total (listOrd itemOrd) false fun d : D => PySem.W.keyToks d
  have p1 : (ds.mergeSort (PySem.W.dataLe false fun d : D => d)).Perm ds := List.mergeSort_perm _ _
  have s1 : (ds.mergeSort (PySem.W.dataLe false fun d : D => d)).Pairwise (fun a b => PySem.W.dataLe false (fun d : D => d) a b = true) := List.pairwise_mergeSort T.trans (fun a b => by rw [Bool.or_eq_true]; exact T.total a b) ds
  have s2 : (srtD ds).Pairwise (fun a b => leD a b = true) := ms_srt (le := leD) (p := fun z => z ∈ ds) (fun a b c ha hb hc => le_tr (kd a b ha hb) (kd b c hb hc)) (fun a b ha hb => le_to (kd a b ha hb)) _ _ (Nat.le_refl _) fun z hz => hz
  have s1' : (ds.mergeSort (PySem.W.dataLe false fun d : D => d)).Pairwise (fun a b => leD a b = true) := by
    refine List.Pairwise.imp_of_mem (fun {a b} ha hb hab => ?_) s1
    rw [← e a b (p1.mem_iff.mp ha) (p1.mem_iff.mp hb)]
    exact hab
  refine List.Perm.eq_of_pairwise (le := fun a b => leD a b = true) (fun a b ha hb l1 l2 => ?_) s1' s2 (p1.trans (srtD_perm ds).symm)
  exact le_an (kd a b (p1.mem_iff.mp ha) ((srtD_perm ds).mem_iff.mp hb)) l1 l2
end DL
set_option maxHeartbeats 4000000
/-! DLo: the rules of sorted, min, max, x.pop(i), enumerate over data. -/
namespace DL
open PySem PySem.Calls PyProof.Rows L2
/-! ### what can be sorted: tuples, an empty one among them -/
section
variable {P : Program} {w : World} {A : Around} {s : Shared}
theorem map_runs {β : Type} {M : Model} {E : Value → Shared → Prop} {f : Value → Sem β} {g : Value → β} : ∀ (l : List Value) {Q : List β → Shared → Prop}, (∀ v ∈ l, ∀ Q' : β → Shared → Prop, Q' (g v) s → wpAny M A (f v) Q' E s) → Q (l.map g) s → wpAny M A (l.mapM f) Q E s
  | [], _, _, h => by rw [List.mapM_nil]; exact wpAny_pure h
  | x :: l, Q, hf, h => by
    rw [List.mapM_cons]
    refine wpAny_bind (hf x (.head _) _ (wpAny_bind (map_runs l (Q := fun bs s' => wpAny M A (pure (g x :: bs)) Q E s') (fun v hv => hf v (.tail _ hv)) (wpAny_pure h))))
/-- a tuple's first item -/
def fstV (h : Heap) : Value → Option Value
  | .ref a => match h.get? a with
    | some o => match o.data with
      | .seq xs _ => xs[0]?
      | _ => none
    | none => none
  | _ => none
theorem fst_reads {h : Heap} {v : Value} {xs : List D} {as : List Addr} (r : Reads h v (.tuple xs) as) : (fstV h v).isSome = !xs.isEmpty := by
  cases r with
  | @tuple a o vs n _ _ h1 h2 h3 h4 =>
    unfold fstV
    simp only [h1, h3]
    have e := SeqAt.ReadsAll.length _ _ _ h4
    rw [Array.length_toList] at e
    cases xs with
    | nil => simp at e; simp [e]
    | cons x xs => simp at e; simp [e]
theorem first_run {E : Value → Shared → Prop} {v : Value} {xs : List D} {as : List Addr} {Q : Option Value → Shared → Prop} (r : Reads s.heap v (.tuple xs) as) (q : Q (fstV s.heap v) s) : wpAny (model P w) A (firstOfTuple' v) Q E s := by
  have lk := PySem.W.looks_reads (M := model P w) r
  cases r with
  | @tuple a o vs n _ _ h1 h2 h3 h4 =>
    rw [PySem.W.kas_first_eq]
    refine wpAny_bind (lk.here ?_)
    rw [if_neg (by simp [PySem.W.dataType])]
    refine wpAny_bind (listItems_at h1 h3 (wpAny_pure ?_))
    have e : fstV s.heap (.ref a) = vs[0]? := by unfold fstV; simp only [h1, h3]
    rw [← e]
    exact q
theorem kind_emp {E : Value → Shared → Prop} {vs : List Value} {ds : List D} {Q : SortKind → Shared → Prop} (e : PySem.W.EachIs (fun v d => ∃ as, Reads s.heap v d as) vs ds) (ht : ∀ d ∈ ds, ∃ xs, d = .tuple xs) (h0 : PyData.tuple [] ∈ ds)
    (h : Q (if ((vs.map (fstV s.heap)).toArray[0]?.bind id).isSome then general' else oneType') s) : wpAny (model P w) A (keyKind' vs.toArray) Q E s := by
  have tv : ∀ v ∈ vs, ∃ xs as, Reads s.heap v (.tuple xs) as := fun v hv => by
    obtain ⟨d, hd, as, r⟩ := e.left v hv
    obtain ⟨xs, rfl⟩ := ht d hd
    exact ⟨xs, as, r⟩
  have right : ∀ {vs : List Value} {ds : List D}, PySem.W.EachIs (fun v d => ∃ as, Reads s.heap v d as) vs ds → ∀ d ∈ ds, ∃ v ∈ vs, ∃ as, Reads s.heap v d as := fun {vs ds} e => by
    induction e with
    | nil => intro d hd; cases hd
    | cons r _ ih =>
      intro d hd
      rcases List.mem_cons.mp hd with z | hd
      · subst z; exact ⟨_, List.mem_cons_self, r⟩
      · obtain ⟨v, hv, q⟩ := ih d hd; exact ⟨v, List.mem_cons_of_mem _ hv, q⟩
  obtain ⟨v0, hv0, as0, r0⟩ := right e _ h0
  rw [keyKind'_eq, List.mapM_toArray, map_eq_pure_bind]
  refine wpAny_bind (wpAny_bind (map_runs (g := fstV s.heap) vs (fun v hv Q' hq => ?_) (wpAny_pure ?_)))
  · obtain ⟨xs, as, r⟩ := tv v hv
    exact first_run r hq
  · have none0 : ((vs.map (fstV s.heap)).toArray.all fun x => x.isSome) = false := by
      rw [List.all_toArray, List.all_map, List.all_eq_false]
      exact ⟨v0, hv0, by have := fst_reads r0; simpa using this⟩
    rw [if_neg (by rw [none0]; decide)]
    cases hb : ((vs.map (fstV s.heap)).toArray[0]?.bind id).isSome with
    | true =>
      rw [hb] at h
      rw [if_pos rfl]
      exact wpAny_pure h
    | false =>
      rw [hb] at h
      rw [if_neg (by decide), oneTypeOnly'_eq, List.mapM_toArray, map_eq_pure_bind]
      refine wpAny_bind (wpAny_bind (wpAny_bind (map_runs (g := fun _ => Value.type "tuple") vs (fun v hv Q' hq => ?_) (wpAny_pure ?_))))
      · obtain ⟨xs, as, r⟩ := tv v hv
        exact (PySem.W.looks_reads (M := model P w) r).here hq
      · have hall : ((vs.map fun _ => Value.type "tuple").toArray.all fun x => x == Value.type "tuple") = true := by
          simp only [List.all_toArray, List.all_map, List.all_eq_true]
          intro _ _
          exact beq_self_eq_true _
        have hf : (vs.map fun _ => Value.type "tuple").toArray[0]? = some (Value.type "tuple") := by
          cases vs with
          | nil => cases hv0
          | cons v vs => simp
        rw [hf]
        simp only [hall, if_true]
        exact wpAny_pure (wpAny_pure h)
theorem call_tupLt {E : Value → Shared → Prop} {Q : Value → Shared → Prop} {l b : Addr} {xs ys : Array Value} {e r : Nat → Bool} (hl : s.heap.IsTuple l xs) (hb : s.heap.IsTuple b ys) (he : ∀ j (h1 : j < xs.size) (h2 : j < ys.size), SeqAt.EqAt A.in1 s xs[j] ys[j] (e j)) (hr : ∀ j (h1 : j < xs.size) (h2 : j < ys.size), e j = false → SeqAt.RcLt A.in1 s xs[j] ys[j] (r j))
    (q : Q (.bool (SeqAt.firstLt e r (decide (xs.size < ys.size)) (List.range (min xs.size ys.size)))) s) : wpAny (model P w) A (call (.builtin "tuple.__lt__") [.ref l, .ref b]) Q E s := by
  obtain ⟨⟨c1, d1, t1, s1⟩, o1, k1, n1, m1⟩ := hl
  obtain ⟨⟨c2, d2, t2, s2⟩, o2, k2, n2, m2⟩ := hb
  simp only at k1 m1 k2 m2
  subst k1 m1 k2 m2
  exact call_meets F.slot_tuple_lt ⟨_, o1, rfl⟩ F.entry_tuple_lt (F.args_tuple_lt_2 _ _) (SeqAt.tuple_ltAt l b xs ys n1 n2 d1 d2 s1 s2 e r) ⟨o1, o2, he, hr, q⟩
theorem one_tup {E : Value → Shared → Prop} {f : Bool} {xs ys : List D} {a b : Value} {as bs : List Addr} {Q : Bool → Shared → Prop} (ra : Reads s.heap a (.tuple xs) as) (rb : Reads s.heap b (.tuple ys) bs) (hal : PySem.W.alikeAll xs ys = true) (hu : A.units + (PyData.depthAll xs + 1) < cLine)
    (hq : Q (PySem.W.dataLt (.tuple xs) (.tuple ys)) s) : wpAny (model P w) A (oneLt' f a b) Q E s := by
  have hm : A.units + min (PyData.tuple xs).depth (PyData.tuple ys).depth < cLine := by
    have : (PyData.tuple xs).depth = PyData.depthAll xs + 1 := by simp [PyData.depth]
    have := Nat.min_le_left (PyData.tuple xs).depth (PyData.tuple ys).depth
    omega
  cases f with
  | false => exact PySem.W.oneLt_alike (fun z => nomatch z) ra rb (by simpa [PySem.W.alike] using hal) (fun z => nomatch z) hm hq
  | true =>
    cases ra with
    | @tuple l o vs n _ a1 h1 h2 h3 h4 =>
      cases rb with
      | @tuple l' o' vs' n' _ b1 k1 k2 k3 k4 =>
        have e1 : vs.size = xs.length := by simpa using SeqAt.ReadsAll.length _ _ _ h4
        have e2 : vs'.size = ys.length := by simpa using SeqAt.ReadsAll.length _ _ _ k4
        rw [PySem.W.dataLt_tuple, ← PySem.W.firstLt_toks xs ys hal, ← e1, ← e2] at hq
        rw [oneLt'_eq, if_pos rfl]
        refine wpAny_bind (wpAny_cRoomFor (SeqAt.room_here hm) ?_)
        refine wpAny_bind (wpAny_callSpecialIfBound?_slot (T := "tuple") ⟨_, h1, h2⟩ F.slot_tuple_lt (call_tupLt (e := SeqAt.pairEq xs ys) (r := fun j => PySem.W.dataLt (xs.getD j .none) (ys.getD j .none)) ⟨_, h1, h2, _, h3⟩ ⟨_, k1, k2, _, k3⟩ (fun j j1 j2 => ?_) (fun j j1 j2 hj => ?_) ?_))
        · have := PySem.W.eqAt_alikeAll xs ys A.in1 s vs.toList vs'.toList _ _ h4 k4 hal (SeqAt.room_in hm) j (by simpa using j1) (by simpa using j2)
          simpa using this
        · have := PySem.W.rcLt_alikeAll xs ys A.in1 s vs.toList vs'.toList _ _ h4 k4 hal (SeqAt.room_in hm) j (by simpa using j1) (by simpa using j2) hj
          simpa using this
        · exact wpAny_truthy_bool hq
theorem sorts_emp {vs : List Value} {ds : List D} (e : PySem.W.EachIs (fun v d => ∃ as, Reads s.heap v d as) vs ds) (hal : PySem.W.AllAlike ds) (ht : ∀ d ∈ ds, ∃ xs, d = .tuple xs) (h0 : PyData.tuple [] ∈ ds) (hu : ∀ d ∈ ds, A.units + d.depth < cLine) : PySem.W.SortsAt P w A s (PySem.W.dataKind s.heap ds) vs := by
  have lt : ∀ (f : Bool) (E : Value → Shared → Prop) (x y : Value) (a b : List (Int ⊕ List Nat)) {Q : Bool → Shared → Prop}, (PySem.W.dataKind s.heap ds).keyOf x = some a → (PySem.W.dataKind s.heap ds).keyOf y = some b → Q ((PySem.W.dataKind s.heap ds).blt a b) s → wpAny (model P w) A (oneLt' f x y) Q E s := fun f E x y a b Q ha hb hq => by
    obtain ⟨d, as, hd, ra, rfl⟩ := PySem.W.dataKind_inv ha
    obtain ⟨d', bs, hd', rb, rfl⟩ := PySem.W.dataKind_inv hb
    have hdd := hal d hd d' hd'
    have ud := hu d hd
    obtain ⟨xs, rfl⟩ := ht d hd
    obtain ⟨ys, rfl⟩ := ht d' hd'
    exact one_tup ra rb (by simpa [PySem.W.alike] using hdd) (by simpa [PyData.depth] using ud) hq
  refine ⟨fun v hv => ?_, ?_⟩
  · obtain ⟨d, hd, as, r⟩ := e.left v hv
    exact ⟨_, PySem.W.dataKind_some hal hd r⟩
  · refine ⟨if ((vs.map (fstV s.heap)).toArray[0]?.bind id).isSome then general' else oneType', ?_, fun _ E Q hq => kind_emp e ht h0 hq⟩
    split
    · intro E x y a b Q ha hb hq
      exact lt false E x y a b ha hb hq
    · intro E x y a b Q ha hb hq
      rw [keyLt'_oneType]
      exact lt true E x y a b ha hb hq
end
end DL
set_option maxHeartbeats 4000000
/-! DLp: sorted, min, max, x.pop(i), enumerate as the layer says them. -/
namespace DL
open PySem PySem.Calls PyProof.Rows L2
/-! ### pairs of lists -/
theorem each_of {G : Gm} {F : Hp} : ∀ {vs : List V} {ds : List D}, RpL G F vs ds → PySem.W.EachIs (fun v d => Rp G F v d) vs ds
  | _, _, .nil => .nil
  | _, _, .cons h t => .cons h (each_of t)
theorem of_each {G : Gm} {F : Hp} : ∀ {vs : List V} {ds : List D}, PySem.W.EachIs (fun v d => Rp G F v d) vs ds → RpL G F vs ds
  | _, _, .nil => .nil
  | _, _, .cons h t => .cons h (of_each t)
theorem each_vals {P : V → D → Prop} : ∀ {vs : List V} {ds : List D} {us : List Value}, PySem.W.EachIs P vs ds → Vals vs us → PySem.W.EachIs (fun u d => ∃ v, RelV v u ∧ P v d) us ds
  | _, _, _, .nil, .nil => .nil
  | _, _, _, .cons h t, .cons r rs => .cons ⟨_, r, h⟩ (each_vals t rs)
theorem vals_each {P : V → D → Prop} : ∀ {us : List Value} {ds : List D}, PySem.W.EachIs (fun u d => ∃ v, RelV v u ∧ P v d) us ds → ∃ vs, Vals vs us ∧ PySem.W.EachIs P vs ds
  | _, _, .nil => ⟨[], .nil, .nil⟩
  | _, _, .cons ⟨v, r, h⟩ t => by
    obtain ⟨vs, a, b⟩ := vals_each t
    exact ⟨v :: vs, .cons r a, .cons h b⟩
theorem each_reads {h : Heap} : ∀ {us : List Value} {ds : List D} {as : List Addr}, ReadsAll h us ds as → PySem.W.EachIs (fun u d => ∃ bs, Reads h u d bs) us ds
  | _, _, _, .nil => .nil
  | _, _, _, .cons r t => .cons ⟨_, r⟩ (each_reads t)
section
variable {X : Cx} {G : Gm} {W : WX} {F H F1 H1 : Hp} {σ σ1 : L2.St} {r r1 : En} {a b : Expr} {pos : Pos} {f g : En → R D}
/-! ### sorted -/
def rSrt (K : PySem.W.Frag) : List V → Hp → VK → Prop := fun vs H Q => ∃ (a : Addr) (xs : List V) (ds : List D) (P : V → D → Prop), vs = [V.ref a] ∧ SqL K H a xs ∧ PySem.W.EachIs P xs ds ∧ DpAll K H xs ds ∧ okK ds = true ∧
  ∀ ys p, PySem.W.EachIs P ys (srtD ds) → H p = none → Q (.ref p) (upd H p (.lst ys))
theorem cr_srt (hu : X.A.units + 64 < cLine) : CallR X (.builtin "sorted") (rSrt X.K) := by
  intro pins s σ H vs us Q I rr h
  obtain ⟨a, xs, ds, P, rfl, hs, he, hd, ok, q⟩ := h
  obtain ⟨its, rv, hl, hz⟩ := I.list hs
  rw [Vals.ref1 rr]
  obtain ⟨as, rd⟩ := Dp.readsAll I ds xs its hd rv
  have eR := each_vals he rv
  have eD := each_reads rd
  have al : PySem.W.AllAlike ds := fun d hd d' hd' => (okK_kd ok hd hd').alike
  have dep : ∀ d ∈ ds, d.depth ≤ 1 := fun d hd => (okK_each ok hd).1
  have lenD : ds.length = its.length := eD.length.symm
  have big : ds.length ≤ sizeLine := by rw [lenD, ← rv.length]; exact hz
  have fin : ∀ out : List Value, out.length = ds.length → PySem.W.EachIs (fun u d => ∃ v, RelV v u ∧ P v d) out (ds.mergeSort (PySem.W.dataLe false fun d : D => d)) → EP X pins σ Q (.ref (s.heap.objs.size + 1)) { s with heap := sortedAll s.heap its out.toArray } := fun out ho eo => by
    rw [srtD_is ok] at eo
    obtain ⟨ys, rv2, e2⟩ := vals_each eo
    obtain ⟨ep, hh⟩ := PyProof.Rows.sortedAll_at s.heap its out.toArray
    have hlen : ys.length ≤ sizeLine := by rw [rv2.length, ho]; exact big
    exact ⟨.ref _, upd H (s.heap.objs.size + 1) (.lst ys), I.laid (t' := s.toks) (fun _ _ => PyProof.Rows.sortedAll_old) (Nat.le_succ _) ⟨hlen, out, ep, rv2, hh⟩, rfl, q ys _ e2 (I.hok.fresh (Nat.le_succ _))⟩
  by_cases hE : (∀ d ∈ ds, ∃ x r, d = PyData.tuple (x :: r)) ∨ ∀ d ∈ ds, d ≠ .none ∧ ∀ xs, d ≠ .tuple xs
  · have eR' : PySem.W.EachIs (fun u d => ∃ v, RelV v u ∧ P v d) its (ds.map fun d : D => d) := by simpa using eR
    exact PySem.W.sorted_data (enc := fun d : D => d) (bs := ds) hl.isList eR eD (by simpa using al) (by rw [List.map_id']; exact hE) big (fun d hd => by have := dep d hd; omega) fun out ho eo => fin out ho eo
  · have tup : ∀ d ∈ ds, ∃ xs, d = PyData.tuple xs := by
      rcases okK_is ok with z | z
      · exact absurd (.inr fun d hd => by obtain ⟨i, rfl⟩ := isI_is (z d hd); exact ⟨by simp, by simp⟩) hE
      · exact fun d hd => by obtain ⟨ns, rfl⟩ := isTI_is (z d hd); exact ⟨_, rfl⟩
    have emp : PyData.tuple [] ∈ ds := by
      refine Classical.byContradiction fun no => hE (.inl fun d hd => ?_)
      obtain ⟨xs, rfl⟩ := tup d hd
      cases xs with
      | nil => exact absurd hd no
      | cons x r => exact ⟨x, r, rfl⟩
    have er : PySem.W.EachIs (fun v d => ∃ as, Reads (PySem.W.sortingHeap (PySem.W.copyHeap s.heap its) (s.heap.objs.size + 1) its) v d as) its ds := eD.mono fun _ _ ⟨as, r⟩ => ⟨as, PyProof.Rows.Reads.keeps (fun _ _ => PySem.W.sorting_copy_old) r⟩
    have out := PySem.W.sortVals_data (R := fun u d => ∃ v, RelV v u ∧ P v d) (enc := fun d : D => d) false (bs := ds) eR er (by simpa using al)
    refine PySem.W.sorted_vals hl.isList (sorts_emp (s := { s with heap := PySem.W.sortingHeap (PySem.W.copyHeap s.heap its) (s.heap.objs.size + 1) its }) er al tup emp fun d hd => ?_) (by rw [← lenD]; exact big) (fin _ (by rw [PySem.W.sortVals_length false rfl, lenD]) (by simpa using out))
    have := dep d hd
    show X.A.units + 1 + 1 + d.depth < cLine
    omega
def nSrt : List D → Option (List D)
  | [.list ds] => if okK ds = true then some (srtD ds) else none
  | _ => none
theorem cn_srt : CallN G (rSrt G.K) nSrt := fun x ds F H v Q h hs q k => by
  unfold nSrt at h
  split at h
  · split at h
    · rename_i es hok
      cases h
      obtain ⟨v, rfl, qa⟩ := one_of q
      obtain ⟨a, xs, rfl, h1, h2⟩ := rp_lst qa
      exact ⟨a, xs, es, fun v d => Rp G F v d, rfl, SqL.of (hs _ _ h1), each_of h2, RpLI.dp hs h2 (okK_lay fun d hd => (okK_each hok hd).2.1), hok, fun ys p e hp => k ys (of_each e) p hp⟩
    · cases h
  · cases h
/-! ### min, max -/
def bestD (up : Bool) (d : D) (ds : List D) : D := ds.foldl (fun a y => if (if up = true then ltD a y else ltD y a) = true then y else a) d
theorem best_mem (up : Bool) : ∀ (ds : List D) (d : D), bestD up d ds ∈ d :: ds
  | [], d => by simp [bestD]
  | y :: ys, d => by
    have e : bestD up d (y :: ys) = bestD up (if (if up = true then ltD d y else ltD y d) = true then y else d) ys := rfl
    have m := best_mem up ys (if (if up = true then ltD d y else ltD y d) = true then y else d)
    rw [e]
    rcases List.mem_cons.mp m with z | z
    · rw [z]
      by_cases hc : (if up = true then ltD d y else ltD y d) = true
      · rw [if_pos hc]; exact List.mem_cons_of_mem _ List.mem_cons_self
      · rw [if_neg hc]; exact List.mem_cons_self
    · exact List.mem_cons_of_mem _ (List.mem_cons_of_mem _ z)
theorem best_is (up : Bool) : ∀ (ds : List D) (d : D), okK (d :: ds) = true → (if up = true then PySem.W.maxD d ds else PySem.W.minD d ds) = bestD up d ds := by
  have key : ∀ (ds all : List D) (d : D), okK all = true → d ∈ all → (∀ y ∈ ds, y ∈ all) → (if up = true then PySem.W.maxD d ds else PySem.W.minD d ds) = bestD up d ds := by
    intro ds
    induction ds with
    | nil => intro all d _ _ _; unfold PySem.W.maxD PySem.W.minD bestD; split <;> rfl
    | cons y ys ih =>
      intro all d hk hd hy
      have e1 := (okK_kd hk hd (hy y (by simp))).lt
      have e2 := (okK_kd hk (hy y (by simp)) hd).lt
      unfold PySem.W.maxD PySem.W.minD bestD
      rw [List.foldl_cons, List.foldl_cons, List.foldl_cons, e1, e2]
      cases up with
      | true =>
        have := ih all (if ltD d y = true then y else d) hk (by split; exact hy y (by simp); exact hd) fun z hz => hy z (by simp [hz])
        unfold PySem.W.maxD PySem.W.minD bestD at this
        simpa using this
      | false =>
        have := ih all (if ltD y d = true then y else d) hk (by split; exact hy y (by simp); exact hd) fun z hz => hy z (by simp [hz])
        unfold PySem.W.maxD PySem.W.minD bestD at this
        simpa using this
  exact fun ds d hk => key ds (d :: ds) d hk (by simp) fun y hy => by simp [hy]
def rBest (up : Bool) (K : PySem.W.Frag) : List V → Hp → VK → Prop := fun vs H Q => ∃ (a : Addr) (xs : List V) (d : D) (ds : List D) (P : V → D → Prop), vs = [V.ref a] ∧ (SqL K H a xs ∨ SqT K H a xs) ∧ PySem.W.EachIs P xs (d :: ds) ∧ DpAll K H xs (d :: ds) ∧ okK (d :: ds) = true ∧ ∀ y, P y (bestD up d ds) → Q y H
theorem each_pos {α β : Type} {R : α → β → Prop} : ∀ {as : List α} {bs : List β} {i : Nat} {u : α}, PySem.W.EachIs R as bs → as[i]? = some u → ∃ b, bs[i]? = some b ∧ R u b
  | _, _, 0, u, .cons h _, e => by simp at e; subst e; exact ⟨_, rfl, h⟩
  | _, _, i + 1, u, .cons _ t, e => by
    obtain ⟨b, e1, e2⟩ := each_pos (i := i) t (by simpa using e)
    exact ⟨b, by simpa using e1, e2⟩
theorem best_fin {pins : List (Addr × Obj)} {s : Shared} {Q : VK} {xs : List V} {d : D} {ds : List D} {P : V → D → Prop} {its : List Value} {up : Bool} (I : Inv X pins σ H s) (he : PySem.W.EachIs P xs (d :: ds)) (hd : DpAll X.K H xs (d :: ds)) (ok : okK (d :: ds) = true) (rv : Vals xs its) (q : ∀ y, P y (bestD up d ds) → Q y H) {m : D} (hm : m = bestD up d ds) {i : Nat} {v : Value} {h' : Heap} {tk : Nat} {bs : List Addr}
    (hv : its.toArray[i]? = some v) (r : Reads h' v m bs) (hk : ∀ b o, s.heap.get? b = some o → h'.get? b = some o) : EP X pins σ Q v { s with heap := h', toks := tk } := by
  have hv : its[i]? = some v := by simpa using hv
  obtain ⟨dd, e1, w, rw', pw⟩ := each_pos (each_vals he rv) hv
  obtain ⟨as, rd⟩ := Dp.readsAll I (d :: ds) xs its hd rv
  obtain ⟨d2, e2, as2, rd2⟩ := each_pos (each_reads rd) hv
  rw [e1] at e2
  cases e2
  have mem : dd ∈ d :: ds := List.mem_of_getElem? e1
  have same : m = dd := PySem.W.alike_unique _ _ _ _ _ ((okK_kd ok (by rw [hm]; exact best_mem up ds d) mem).alike) r (PyProof.Rows.Reads.keeps hk rd2)
  subst same
  rw [hm] at pw
  exact ⟨w, H, I.kept (t' := tk) hk, rw', q w pw⟩
theorem cr_best (up : Bool) (hc : X.calm = true) (hu : X.A.units + 64 < cLine) : CallR X (.builtin (if up = true then "max" else "min")) (rBest up X.K) := by
  intro pins s σ H vs us Q I rr h
  obtain ⟨a, xs, d, ds, P, rfl, hs, he, hd, ok, q⟩ := h
  rw [Vals.ref1 rr]
  have hh := I.ok.hd hc
  have ali : PySem.W.AlikeAll (d :: ds) := ⟨fun x hx y hy => (okK_kd ok hx hy).alike, fun x hx => (okK_each ok hx).2.2⟩
  have dep : PyData.depthAll (d :: ds) ≤ 1 := okK_depth fun x hx => (okK_each ok hx).1
  have room : X.A.units + 1 + PyData.depthAll (d :: ds) < cLine := by omega
  have e := best_is up ds d ok
  rcases hs with hs | hs
  · obtain ⟨its, rv, hl, _⟩ := I.list hs
    obtain ⟨as, rd⟩ := Dp.readsAll I (d :: ds) xs its hd rv
    cases up with
    | true => exact PySem.W.max_list_data hh hl.isList (by simpa using rd) ali room fun i v h' tk bs hv r hk => best_fin I he hd ok rv q e hv r hk
    | false => exact PySem.W.min_list_data hh hl.isList (by simpa using rd) ali room fun i v h' tk bs hv r hk => best_fin I he hd ok rv q e hv r hk
  · obtain ⟨its, rv, hl, _⟩ := I.tuple hs
    obtain ⟨as, rd⟩ := Dp.readsAll I (d :: ds) xs its hd rv
    cases up with
    | true => exact PySem.W.max_tuple_data hh hl (by simpa using rd) ali room fun i v h' tk bs hv r hk => best_fin I he hd ok rv q e hv r hk
    | false => exact PySem.W.min_tuple_data hh hl (by simpa using rd) ali room fun i v h' tk bs hv r hk => best_fin I he hd ok rv q e hv r hk
theorem cr_maxS (hc : X.calm = true) (hu : X.A.units + 64 < cLine) : CallR X (.builtin "max") (rBest true X.K) := cr_best true hc hu
theorem cr_minS (hc : X.calm = true) (hu : X.A.units + 64 < cLine) : CallR X (.builtin "min") (rBest false X.K) := cr_best false hc hu
def cBest (up : Bool) : List D → Option D
  | [.list (d :: ds)] => if okK (d :: ds) = true then some (bestD up d ds) else none
  | [.tuple (d :: ds)] => if okK (d :: ds) = true then some (bestD up d ds) else none
  | _ => none
theorem cd_best {up : Bool} : CallD G (rBest up G.K) (cBest up) := fun x d F H v Q h hs q k => by
  unfold cBest at h
  split at h
  · split at h
    · rename_i d ds hok
      cases h
      obtain ⟨v, rfl, qa⟩ := one_of q
      obtain ⟨a, xs, rfl, h1, h2⟩ := rp_lst qa
      exact ⟨a, xs, d, ds, fun v d => Rp G F v d, rfl, .inl (SqL.of (hs _ _ h1)), each_of h2, RpLI.dp hs h2 (okK_lay fun d hd => (okK_each hok hd).2.1), hok, fun y p => k _ _ _ (Ext.refl _ _) p⟩
    · cases h
  · split at h
    · rename_i d ds hok
      cases h
      obtain ⟨v, rfl, qa⟩ := one_of q
      obtain ⟨a, xs, rfl, h1, h2⟩ := rp_tup qa
      exact ⟨a, xs, d, ds, fun v d => Rp G F v d, rfl, .inr (hs.t h1), each_of h2, RpLI.dp hs h2 (okK_lay fun d hd => (okK_each hok hd).2.1), hok, fun y p => k _ _ _ (Ext.refl _ _) p⟩
    · cases h
  · cases h
end
end DL
set_option maxHeartbeats 4000000
/-! DLq: x.pop(i), enumerate of lists and tuples, repr(a) != repr(b). -/
namespace DL
open PySem PySem.Calls PyProof.Rows L2
section
variable {X : Cx} {G : Gm} {W : WX} {F H F1 H1 : Hp} {σ σ1 : L2.St} {r r1 : En} {a b : Expr} {pos : Pos} {f g : En → R D}
/-! ### enumerate -/
theorem yl_enumT {K : PySem.W.Frag} {xs : List V} {ds : List D} {p : Addr} (hK : K = G.K) (h : SqT G.K F p xs) (q : RpL G F xs ds) : Yl G (IteT K p) F (enumD 0 ds) := by
  subst hK
  refine ⟨fun i F' H' s1 s2 hi => ?_, fun i F' H' s1 s2 hi => ⟨xs, s2.t (s1.t h), by rw [enumD_len] at hi; rw [q.len]; omega⟩⟩
  rw [enumD_len] at hi
  obtain ⟨v, hv, qv⟩ := q.get (List.getElem?_eq_getElem hi)
  have hs := s2.t (s1.t h)
  refine ⟨⟨xs, v, hs, hv⟩, fun x H2 ⟨T, y, e, hT, e2, k⟩ => ?_⟩
  subst e e2
  have z := k xs hs
  rw [hv] at z
  cases z
  obtain ⟨c1, c2⟩ := pair_new (v := .int (i : Nat)) (d := .int (i : Nat)) s2 hT (.int _) (qv.mono s1)
  refine ⟨_, _, ?_, c1, c2⟩
  have := enumD_get ds 0 i ds[i] (List.getElem?_eq_getElem hi)
  rwa [Nat.zero_add] at this
def tEnumA (K : PySem.W.Frag) (ta : TA) : TI := fun σ H R => ta σ H fun vs H1 => ∃ a xs, vs = [.ref a] ∧ ((SqL K H1 a xs ∧ R (Ite K a) H1) ∨ (SqT K H1 a xs ∧ R (IteT K a) H1))
theorem pi_enumB {e : Expr} {ta : TA} {p tpos : Pos} {elts : List Expr} {kk : Nat} (hg : Gl X "enumerate") (hm : X.mg "enumerate" = none) (ha : PA X [e] ta) (hs : starEach [e] X.env = [(false, eval e X.env)] := by rfl) :
    PI X (.Tuple elts kk tpos) (.Call (.Name "enumerate" p) [e] [] pos) (tEnumA X.K ta) := by
  refine ⟨fun pins s σ H R I h => Call_ (ld_blt I hg hm boot_enumerate (PyProof.Rows.callWith_type1 (thn (ha.run pos pins s σ H _ I h) fun us s1 ⟨vs, H1, I1, rr, a, xs, ex, qq⟩ => ?_) hs rfl))⟩
  subst ex
  cases rr with
  | cons r0 r2 =>
    cases r2
    cases r0
    have fresh : ∀ c ∈ [s1.heap.objs.size + 1, s1.heap.objs.size], FpOk X pins H1 c := fun c hc => by
      have hle : s1.heap.objs.size ≤ c := by
        rcases two_cases hc with z | z
        · rw [z]; exact Nat.le_succ _
        · rw [z]; exact Nat.le_refl _
      exact I1.fpOk hle (I1.hok.fresh hle)
    rcases qq with ⟨hq, q⟩ | ⟨hq, q⟩
    · obtain ⟨its, rv, pl, _⟩ := I1.list hq
      exact call_enumerate_list pl.isList fun h' he hit hsz hk => wpAny_pyIter_enum he ⟨s1.heap.objs.size + 1, [s1.heap.objs.size + 1, s1.heap.objs.size], _, _, H1, rfl, I1.kept (t' := s1.toks) hk, turn_enum a (s1.heap.objs.size + 1) s1.heap.objs.size, ⟨⟨.none, he⟩, hit, Nat.succ_ne_self _⟩, fresh, q⟩
    · obtain ⟨its, rv, pl, _⟩ := I1.tuple hq
      have al : a < s1.heap.objs.size := by obtain ⟨o, ho, _⟩ := id pl; exact Heap.lt_size ho
      exact enum_callT pl fun h' he hit hk => wpAny_pyIter_enum he ⟨s1.heap.objs.size + 1, [s1.heap.objs.size + 1, s1.heap.objs.size], _, _, H1, rfl, I1.kept (t' := s1.toks) hk, turn_enumT a (s1.heap.objs.size + 1) s1.heap.objs.size, ⟨⟨.none, he⟩, hit, Nat.succ_ne_self _, Nat.ne_of_gt (Nat.lt_succ_of_lt al), Nat.ne_of_lt al⟩, fresh, q⟩
def iEnA (f : En → R D) : En → R (List D) := fun r => (f r).bind fun x r1 => match x with
  | .list ds => .ok (enumD 0 ds) r1
  | .tuple ds => .ok (enumD 0 ds) r1
  | _ => .st
theorem di_enumA {p tpos : Pos} {elts : List Expr} {kk : Nat} (hK : X.K = G.K) (hm : X.mg "enumerate" = none) (ha : PE X a (TEo G W f)) (hg : Gl X "enumerate" := by rfl) (hs : starEach [a] X.env = [(false, eval a X.env)] := by rfl) : PI X (.Tuple elts kk tpos) (.Call (.Name "enumerate" p) [a] [] pos) (TIo G W (iEnA f)) :=
  pi_of (pi_enumB hg hm (pa_cons ha pa_nil hs) hs) fun σ H Q ⟨F, r, e, p⟩ => by
    have p : TIp G W (iEnA f r) F H σ r Q := p
    refine ⟨F, r, e, (TIp.bind (rel := rV G) p).mono fun v H1 ⟨x, F1, r1, _, e1, q1, p1⟩ => ?_⟩
    cases q1 with
    | @lst b xs ds h1 h2 => exact ⟨b, xs, rfl, .inl ⟨by rw [hK]; exact SqL.of (e1.sub _ _ h1), TIp.here p1 e1 (yl_enum hK (SqL.of h1) h2)⟩⟩
    | @tup b xs ds h1 h2 => exact ⟨b, xs, rfl, .inr ⟨by rw [hK]; exact e1.sub.t h1, TIp.here p1 e1 (yl_enumT hK h1 h2)⟩⟩
    | _ => exact p1.elim
/-! ### x.pop(e) -/
theorem RpLI.erase {K : PySem.W.Frag} {fns : Nat → Option Addr} {F : Hp} : ∀ {vs : List V} {ds : List D} (i : Nat), RpLI K fns F vs ds → RpLI K fns F (vs.eraseIdx i) (ds.eraseIdx i)
  | _, _, _, .nil => .nil
  | _, _, 0, .cons _ t => t
  | _, _, i + 1, .cons q t => .cons q (RpLI.erase i t)
def ePop (i : Nat) (g : En → R D) : En → R D := fun r => if Sl.isM r[i]? = true then (g r).bind fun y r1 => match r1[i]? with
  | some s => match s.mut with
    | some ds => match y with
      | .int k => if (decide (-1000000 ≤ k) && decide (k ≤ 1000000)) = true then match ixN ds.length k with
        | some j => match ds[j]? with
          | some d => .ok d (r1.set i (s.put (ds.eraseIdx j)))
          | none => .st
        | none => .st
        else .st
      | _ => .st
    | none => .st
  | none => .st
  else .st
theorem de_popAt {i : Nat} {x : Str} {p apos cpos : Pos} (hK : X.K = G.K) (ha : PE X a (TEo G W f)) (hN : X.N[i]? = some x := by rfl) (hv : Vis X.env.scope x := by first | exact Or.inl rfl | exact Or.inr (Or.inl rfl) | exact Or.inr (Or.inr rfl))
    (hbase : attributeBase (.Name x p) "pop" X.env (eval (.Name x p) X.env) = eval (.Name x p) X.env := by rfl)
    (hfew : ((backTo cpos (starEach [a] X.env)).all (fun x => !x.1) && (backToKw cpos (keywordEach [] X.env)).all (fun x => x.1.isSome)
      && decide ([a].length + ([] : List Keyword).length + (if ([] : List Keyword).isEmpty then 0 else 1) < 30)) = true := by rfl)
    (hline : (apos.endLine == cpos.line) = true := by rfl) (hs : starEach [a] X.env = (false, eval a X.env) :: starEach [] X.env := by rfl) (hplain : (backTo cpos (starEach [] X.env)).any (·.1) = false := by rfl)
    (hd : (x == ("__debug__" : Str)) = false := by decide) (hcd : (x == ("__classdict__" : Str)) = false := by decide) : PE X (.Call (.Attribute (.Name x p) "pop" apos) [a] [] cpos) (TEo G W (ePop i f)) :=
  pe_of (pe_bm PySem.F.plainAttrs_list PySem.F.slot_list_pop PySem.F.type_list_pop mt_popAt (pe_var hN hv hd hcd) (pa_cons ha pa_nil hs) hbase hfew hline hs hplain) fun σ H Q ⟨F, r, e, q⟩ => by
    unfold ePop at q
    by_cases hh : Sl.isM r[i]? = true
    case neg => rw [if_neg hh] at q; exact q.elim
    rw [if_pos hh] at q
    obtain ⟨pa, vs0, hv, hp0⟩ := e.isM hh
    refine ⟨_, hv, .inl ⟨rfl, _, SqL.of hp0⟩, F, r, e, (Pt.bind (rel1 := rV G) q).mono fun w H1 ⟨y, F1, r1, _, e1, q1, p1⟩ => ?_⟩
    cases hs : r1[i]? with
    | none => rw [hs] at p1; exact p1.elim
    | some s =>
      rw [hs] at p1
      cases hds : s.mut with
      | none => simp only [hds] at p1; exact p1.elim
      | some ds =>
        simp only [hds] at p1
        cases q1 with
        | int k =>
          simp only at p1
          split at p1
          · rename_i hz
            rw [Bool.and_eq_true, decide_eq_true_eq, decide_eq_true_eq] at hz
            cases hj : ixN ds.length k with
            | none => simp only [hj] at p1; exact p1.elim
            | some j =>
              simp only [hj] at p1
              cases hdj : ds[j]? with
              | none => simp only [hdj] at p1; exact p1.elim
              | some d =>
                simp only [hdj] at p1
                obtain ⟨pb, vs, ev, h1, h2, h3, _⟩ := (e1.slot i s _ hs hv).mut hds
                cases ev
                obtain ⟨gg, e2⟩ := e1.write hs hds hv (RpLI.erase j h3)
                obtain ⟨z, hz2, qz⟩ := h3.get hdj
                exact ⟨pa, vs, k, j, z, rfl, rfl, h2, by omega, by omega, (ixN_seq (by rw [h3.len]; exact hj)).1, hz2, p1 _ _ _ gg e2 qz⟩
          · exact p1.elim
        | _ => exact p1.elim
/-! ### repr(a) != repr(b), the same data -/
mutual
def repF : Nat → D → Bool
  | _, .none => true
  | _, .bool _ => true
  | _, .int i => decide (i.natAbs < 2 ^ 200)
  | n + 1, .list xs => repFs n xs
  | n + 1, .tuple xs => repFs n xs
  | _, _ => false
def repFs : Nat → List D → Bool
  | _, [] => true
  | n, x :: xs => repF n x && repFs n xs
end
mutual
def samF : D → D → Bool
  | .none, .none => true
  | .bool a, .bool b => a == b
  | .int a, .int b => decide (a = b)
  | .list xs, .list ys => samFs xs ys
  | .tuple xs, .tuple ys => samFs xs ys
  | _, _ => false
def samFs : List D → List D → Bool
  | [], [] => true
  | x :: xs, y :: ys => samF x y && samFs xs ys
  | _, _ => false
end
mutual
theorem samF_eq : ∀ x y : D, samF x y = true → x = y
  | .none, y, h => by cases y <;> first | rfl | simp [samF] at h
  | .bool a, y, h => by cases y <;> first | (simp [samF] at h; rw [h]) | simp [samF] at h
  | .int a, y, h => by cases y <;> first | (simp [samF] at h; rw [h]) | simp [samF] at h
  | .str a, y, h => by cases y <;> simp [samF] at h
  | .dict a, y, h => by cases y <;> simp [samF] at h
  | .list xs, y, h => by
    cases y with
    | list ys => rw [samFs_eq xs ys (by simpa [samF] using h)]
    | _ => simp [samF] at h
  | .tuple xs, y, h => by
    cases y with
    | tuple ys => rw [samFs_eq xs ys (by simpa [samF] using h)]
    | _ => simp [samF] at h
theorem samFs_eq : ∀ xs ys : List D, samFs xs ys = true → xs = ys
  | [], [], _ => rfl
  | [], _ :: _, h => by simp [samFs] at h
  | _ :: _, [], h => by simp [samFs] at h
  | x :: xs, y :: ys, h => by
    simp only [samFs, Bool.and_eq_true] at h
    rw [samF_eq x y h.1, samFs_eq xs ys h.2]
end
structure RepI (n : Nat) (d : D) : Prop where
  lay : d.canLay0 = true
  dep : d.depth ≤ n
  sht : d.leavesShort 201 = true
  nod : d.hasDict = false
  sho : d.showable = true
theorem int_short {i : Int} (h : i.natAbs < 2 ^ 200) : i.natAbs.log2 < 200 := by
  by_cases h0 : i.natAbs = 0
  · rw [h0]; decide
  · exact (Nat.log2_lt h0).mpr h
mutual
theorem repF_is : ∀ (n : Nat) (d : D), repF n d = true → RepI n d
  | n, .none, _ => ⟨by simp [PyData.canLay0], by simp [PyData.depth], by simp [PyData.leavesShort], by simp [PyData.hasDict], by simp [PyData.showable]⟩
  | n, .bool b, _ => ⟨by simp [PyData.canLay0], by simp [PyData.depth], by simp [PyData.leavesShort], by simp [PyData.hasDict], by simp [PyData.showable]⟩
  | n, .int i, h => by
    have h : i.natAbs < 2 ^ 200 := by cases n <;> simpa [repF] using h
    have l := int_short h
    refine ⟨by simp [PyData.canLay0], by simp [PyData.depth], ?_, by simp [PyData.hasDict], ?_⟩
    · have t := int_text_length_le (by decide) l
      have e : (Str.ofString (toString i)).length = (toString i).length := PySem.ofString_length _
      simp only [PyData.leavesShort, PyData.shown]
      exact decide_eq_true (by rw [e]; omega)
    · simp only [PyData.showable, decide_eq_true_eq]; omega
  | n, .str _, h => by cases n <;> simp [repF] at h
  | n, .dict _, h => by cases n <;> simp [repF] at h
  | 0, .list _, h => by simp [repF] at h
  | 0, .tuple _, h => by simp [repF] at h
  | n + 1, .list xs, h => by
    obtain ⟨a, b, c, d, e⟩ := repFs_is n xs (by simpa [repF] using h)
    exact ⟨by simpa [PyData.canLay0] using a, by simpa [PyData.depth] using b, by simpa [PyData.leavesShort] using c, by simpa [PyData.hasDict] using d, by simpa [PyData.showable] using e⟩
  | n + 1, .tuple xs, h => by
    obtain ⟨a, b, c, d, e⟩ := repFs_is n xs (by simpa [repF] using h)
    exact ⟨by simpa [PyData.canLay0] using a, by simpa [PyData.depth] using b, by simpa [PyData.leavesShort] using c, by simpa [PyData.hasDict] using d, by simpa [PyData.showable] using e⟩
theorem repFs_is : ∀ (n : Nat) (ds : List D), repFs n ds = true → PyData.canLayAll0 ds = true ∧ PyData.depthAll ds ≤ n ∧ PyData.leavesShortAll 201 ds = true ∧ PyData.hasDictAll ds = false ∧ PyData.showableAll ds = true
  | n, [], _ => ⟨by simp [PyData.canLayAll0], by simp [PyData.depthAll], by simp [PyData.leavesShortAll], by simp [PyData.hasDictAll], by simp [PyData.showableAll]⟩
  | n, x :: xs, h => by
    simp only [repFs, Bool.and_eq_true] at h
    obtain ⟨a, b, c, d, e⟩ := repF_is n x h.1
    obtain ⟨a2, b2, c2, d2, e2⟩ := repFs_is n xs h.2
    refine ⟨by simp [PyData.canLayAll0, a, a2], ?_, by simp [PyData.leavesShortAll, c, c2], by simp [PyData.hasDictAll, d, d2], by simp [PyData.showableAll, e, e2]⟩
    simp only [PyData.depthAll]; omega
end
def repOk (d : D) : Bool := repF 9 d && decide (d.bulk ≤ 4000)
theorem repOk_len {d : D} (h : repOk d = true) : RepI 9 d ∧ d.shown.length ≤ sizeLine := by
  unfold repOk at h
  rw [Bool.and_eq_true, decide_eq_true_eq] at h
  have q := repF_is 9 d h.1
  have l := PyData.shown_le_bulk 201 (by decide) d q.sht
  exact ⟨q, small6 (by omega)⟩
def rRepD (K : PySem.W.Frag) : List V → Hp → VK → Prop := fun vs H Q => ∃ v d, vs = [v] ∧ Dp K H v d ∧ repOk d = true ∧ Q (.str d.shown) H
theorem call_repD (hg : X.A.guards = some []) (hu : X.A.units + 64 < cLine) : CallR X (.builtin "repr") (rRepD X.K) := by
  intro pins s σ H xs us Q I rr h
  obtain ⟨v, d, rfl, hd, ok, q⟩ := h
  obtain ⟨u, rfl, ru⟩ := vals1 rr
  obtain ⟨as, rd⟩ := Dp.reads I d v u hd ru
  obtain ⟨⟨q1, q2, q3, q4, q5⟩, q6⟩ := repOk_len ok
  have fin : ∀ h' t tk, (∀ b o, s.heap.get? b = some o → h'.get? b = some o) → EP X pins σ Q (.str d.shown t) { s with heap := h', toks := tk } := fun h' t tk hk => ⟨.str _, H, I.kept (t' := tk) hk, ⟨_, rfl⟩, q⟩
  have box : ∀ a, u = .ref a → wpAny (model X.prog X.w) X.A (call (.builtin "repr") [u]) (EP X pins σ Q) X.xe s := fun a e => by
    subst e
    exact repr_of_reads' rd q5 (fun z => by rw [q4] at z; cases z) hg (by omega) (fun _ _ e => e) (fun h' t tk hk => fin h' t tk hk) q6
  cases rd with
  | none => exact PySem.P.repr_of_none (fin s.heap _ _ fun _ _ e => e)
  | bool b => exact PySem.P.repr_of_bool (fin s.heap _ _ fun _ _ e => e)
  | int n t => exact PySem.P.repr_of_int (by simpa [PyData.showable] using q5) (fin s.heap _ _ fun _ _ e => e)
  | str x t => exact absurd ok (by simp [repOk, repF])
  | _ => exact box _ rfl
def eRep2 (bb : Bool) (f g : En → R D) : En → R D := fun r => (f r).bind fun x r1 => if repOk x = true then (g r1).bind fun y r2 => if samF x y = true then .ok (.bool bb) r2 else .st else .st
theorem Pt.one {x : R D} {Q : List V → Hp → Prop} (h : Pt G W (rV G) x F H σ r fun v H1 => Q [v] H1) : Pt G W (rL G) (x.bind fun d r1 => .ok [d] r1) F H σ r Q := by
  cases x with
  | ok d r' =>
    intro F' H' b g e q
    cases q with
    | cons q1 q2 => cases q2; exact h F' H' _ g e q1
  | ex c d r' => exact h
  | st => exact h
theorem pe_rep {p : Pos} (hg : X.A.guards = some []) (hu : X.A.units + 64 < cLine) (hm : X.mg "repr" = none) (ha : PE X a (TEo G W f)) (gl : Gl X "repr" := by rfl) (he : starEach [a] X.env = (false, eval a X.env) :: starEach [] X.env := by rfl) (hpl : (backTo pos (starEach [] X.env)).any (·.1) = false := by rfl) :
    PE X (.Call (.Name "repr" p) [a] [] pos) (tCB (rRepD X.K) (TAo G W (aCons f aNil))) := pe_callB (call_repD hg hu) gl hm PyProof.Rows.boot_repr (da_cons ha da_nil he) (by decide) (by decide) he hpl
theorem rep_two {bb : Bool} (hK : X.K = G.K) {rr : R2} (hr : ∀ (z : Str) (H : Hp) (Q : VK), Q (.bl bb) H → rr (.str z) (.str z) H Q) (σ : L2.St) (H : Hp) (Q : VK) : TEo G W (eRep2 bb f g) σ H Q → tOp rr (tCB (rRepD X.K) (TAo G W (aCons f aNil))) (tCB (rRepD X.K) (TAo G W (aCons g aNil))) σ H Q := fun ⟨F, r0, e, p⟩ =>
  ⟨F, r0, e, Pt.one (Pt.mono (Pt.bind (rel1 := rV G) p) fun v H1 ⟨x, F1, r1, _, e1, q1, p1⟩ => by
    by_cases ok : repOk x = true
    case neg => rw [if_neg ok] at p1; exact p1.elim
    rw [if_pos ok] at p1
    refine ⟨v, x, rfl, by rw [hK]; exact q1.dp e1.sub (repOk_len ok).1.lay, ok, F1, r1, e1, Pt.one (Pt.mono (Pt.bind (rel1 := rV G) p1) fun w H2 ⟨y, F2, r2, _, e2, q2, p2⟩ => ?_)⟩
    by_cases sm : samF x y = true
    case neg => rw [if_neg sm] at p2; exact p2.elim
    rw [if_pos sm] at p2
    have exy := samF_eq x y sm
    subst exy
    exact ⟨w, x, rfl, by rw [hK]; exact q2.dp e2.sub (repOk_len ok).1.lay, ok, hr _ _ _ (Pt.here p2 e2 (Ext.refl _ _) (.bl _))⟩)⟩
theorem rep_ne (z : Str) (H : Hp) (Q : VK) (h : Q (.bl false) H) : rNe (.str z) (.str z) H Q := ⟨rfl, by simpa using h⟩
theorem rep_eq (z : Str) (H : Hp) (Q : VK) (h : Q (.bl true) H) : rEq (.str z) (.str z) H Q := ⟨rfl, by simpa using h⟩
section
variable {p q p2 q2 : Pos}
theorem de_repNe (hK : X.K = G.K) (hg : X.A.guards = some []) (hu : X.A.units + 64 < cLine) (hm : X.mg "repr" = none) (ha : PE X a (TEo G W f)) (hb : PE X b (TEo G W g)) (gl : Gl X "repr" := by rfl) (he : starEach [a] X.env = (false, eval a X.env) :: starEach [] X.env := by rfl) (he2 : starEach [b] X.env = (false, eval b X.env) :: starEach [] X.env := by rfl) (hpl : (backTo q (starEach [] X.env)).any (·.1) = false := by rfl) (hpl2 : (backTo q2 (starEach [] X.env)).any (·.1) = false := by rfl) (hmk : behindInMarks .NotEq (.Call (.Name "repr" p2) [b] [] q2) = false := by rfl) :
    PE X (.Compare (.Call (.Name "repr" p) [a] [] q) [.NotEq] [.Call (.Name "repr" p2) [b] [] q2] pos) (TEo G W (eRep2 false f g)) :=
  pe_of (pe_cmpR op_ne (pe_rep hg hu hm ha gl he hpl) (pe_rep hg hu hm hb gl he2 hpl2) hmk) (rep_two hK rep_ne)
theorem de_repEq (hK : X.K = G.K) (hg : X.A.guards = some []) (hu : X.A.units + 64 < cLine) (hm : X.mg "repr" = none) (ha : PE X a (TEo G W f)) (hb : PE X b (TEo G W g)) (gl : Gl X "repr" := by rfl) (he : starEach [a] X.env = (false, eval a X.env) :: starEach [] X.env := by rfl) (he2 : starEach [b] X.env = (false, eval b X.env) :: starEach [] X.env := by rfl) (hpl : (backTo q (starEach [] X.env)).any (·.1) = false := by rfl) (hpl2 : (backTo q2 (starEach [] X.env)).any (·.1) = false := by rfl) (hmk : behindInMarks .Eq (.Call (.Name "repr" p2) [b] [] q2) = false := by rfl) :
    PE X (.Compare (.Call (.Name "repr" p) [a] [] q) [.Eq] [.Call (.Name "repr" p2) [b] [] q2] pos) (TEo G W (eRep2 true f g)) :=
  pe_of (pe_cmpR op_eq (pe_rep hg hu hm ha gl he hpl) (pe_rep hg hu hm hb gl he2 hpl2) hmk) (rep_two hK rep_eq)
theorem dt_repNe (hK : X.K = G.K) (hg : X.A.guards = some []) (hu : X.A.units + 64 < cLine) (hm : X.mg "repr" = none) (ha : PE X a (TEo G W f)) (hb : PE X b (TEo G W g)) (gl : Gl X "repr" := by rfl) (he : starEach [a] X.env = (false, eval a X.env) :: starEach [] X.env := by rfl) (he2 : starEach [b] X.env = (false, eval b X.env) :: starEach [] X.env := by rfl) (hpl : (backTo q (starEach [] X.env)).any (·.1) = false := by rfl) (hpl2 : (backTo q2 (starEach [] X.env)).any (·.1) = false := by rfl) (hmk : behindInMarks .NotEq (.Call (.Name "repr" p2) [b] [] q2) = false := by rfl) :
    PT X (.Compare (.Call (.Name "repr" p) [a] [] q) [.NotEq] [.Call (.Name "repr" p2) [b] [] q2] pos) (TTo G W (tB1 (eRep2 false f g))) :=
  pt_of (pt_cmpR op_ne (pe_rep hg hu hm ha gl he hpl) (pe_rep hg hu hm hb gl he2 hpl2) hmk) fun σ H Q z => rep_two hK rep_ne σ H _ (tB_of σ H Q z)
theorem dt_repEq (hK : X.K = G.K) (hg : X.A.guards = some []) (hu : X.A.units + 64 < cLine) (hm : X.mg "repr" = none) (ha : PE X a (TEo G W f)) (hb : PE X b (TEo G W g)) (gl : Gl X "repr" := by rfl) (he : starEach [a] X.env = (false, eval a X.env) :: starEach [] X.env := by rfl) (he2 : starEach [b] X.env = (false, eval b X.env) :: starEach [] X.env := by rfl) (hpl : (backTo q (starEach [] X.env)).any (·.1) = false := by rfl) (hpl2 : (backTo q2 (starEach [] X.env)).any (·.1) = false := by rfl) (hmk : behindInMarks .Eq (.Call (.Name "repr" p2) [b] [] q2) = false := by rfl) :
    PT X (.Compare (.Call (.Name "repr" p) [a] [] q) [.Eq] [.Call (.Name "repr" p2) [b] [] q2] pos) (TTo G W (tB1 (eRep2 true f g))) :=
  pt_of (pt_cmpR op_eq (pe_rep hg hu hm ha gl he hpl) (pe_rep hg hu hm hb gl he2 hpl2) hmk) fun σ H Q z => rep_two hK rep_eq σ H _ (tB_of σ H Q z)
end
end
/-! ### a, b = a tuple, a list -/
def gTA (n : Nat) (u : List D → En → Option En) : D → En → Option En := fun d r => match d with
  | .tuple ds => if ds.length = n then u ds r else none
  | .list ds => if ds.length = n then u ds r else none
  | _ => none
theorem pg_two {X : Cx} {es : List Expr} {k : Nat} {pos : Pos} {t : TGs} {n : Nat} (hc : X.calm = true) (h : PGs X es t) (hn : (assignEach es X.env).length = n) (hst : (assignEach es X.env).findIdx? (·.1) = none) : PG X (.Tuple es k pos) fun v σ H Q => gTup X.K n t v σ H Q ∨ gUnl X.K n t v σ H Q :=
  ⟨fun pins s σ H v u Q I r hw => hw.elim (fun z => (pg_tup hc h hn hst).run pins s σ H v u Q I r z) fun z => (pg_unl hc h hn hst).run pins s σ H v u Q I r z⟩
theorem dg_tupA {X : Cx} {G : Gm} {es : List Expr} {k : Nat} {pos : Pos} {n : Nat} {ix : List Nat} {u : List D → En → Option En} (hK : X.K = G.K) (hc : X.calm = true) (h : PGs X es (TGso G ix u)) (hn : (assignEach es X.env).length = n := by rfl) (hst : (assignEach es X.env).findIdx? (·.1) = none := by rfl) : PG X (.Tuple es k pos) (TGo G ix (gTA n u)) :=
  pg_of (pg_two hc h hn hst) fun v σ H Q ⟨F, r, d, e, q, r', hh, kk⟩ => by
    cases q with
    | @tup a xs ds hs hv =>
      have hh : (if ds.length = n then u ds r else none) = some r' := hh
      by_cases hl : ds.length = n
      · rw [if_pos hl] at hh
        exact .inl ⟨a, xs, rfl, by rw [hK]; exact e.sub.t hs, by rw [hv.len]; exact hl, F, r, ds, e, hv, r', hh, kk⟩
      · rw [if_neg hl] at hh; cases hh
    | @lst a xs ds hs hv =>
      have hh : (if ds.length = n then u ds r else none) = some r' := hh
      by_cases hl : ds.length = n
      · rw [if_pos hl] at hh
        exact .inr ⟨a, xs, rfl, by rw [hK]; exact SqL.of (e.sub _ _ hs), by rw [hv.len]; exact hl, F, r, ds, e, hv, r', hh, kk⟩
      · rw [if_neg hl] at hh; cases hh
    | _ => cases hh
end DL
set_option maxHeartbeats 4000000
/-! DLt: t[::-1], t * k of tuples. -/
namespace DL
open PySem PySem.Calls PyProof.Rows L2
section
variable {P : Program} {w : World} {A : Around} {E : Value → Shared → Prop} {s : Shared}
theorem adjR (n : Nat) : Builtin.Slice.sliceAdjust none none (-1) (n : Int) = ((n : Int) - 1, -1) := by
  unfold Builtin.Slice.sliceAdjust
  simp
theorem plcR (n : Nat) : Builtin.Slice.slicePlaces ((n : Int) - 1) (-1) (-1) = n := by
  unfold Builtin.Slice.slicePlaces
  have h1 : ¬ ((-1 : Int) > 0) := by decide
  simp only [h1, if_false]
  by_cases h : (n : Int) - 1 > -1
  · rw [if_pos h, show (- -1 : Int) = 1 by decide, Int.ediv_one]; omega
  · rw [if_neg h]; omega
theorem appR {sl : Addr} {vs : Value} {n : Nat} {Q : Int × Int × Nat → Shared → Prop} (hs : s.heap.IsSliceOf sl .none .none vs) (ps : IsPart vs (some (-1))) (h : Q ((n : Int) - 1, -1, n) s) : wpAny (model P w) A (Builtin.Slice.sliceApplied (.ref sl) (pure (n : Int))) Q E s := by
  obtain ⟨os, hos, hcs, hds⟩ := id hs
  unfold Builtin.Slice.sliceApplied Builtin.Slice.sliceFields
  refine wpAny_bind (wpAny_bind (wpAny_field hos hds (x := .none) rfl (wpAny_bind (wpAny_field hos hds (x := .none) rfl (wpAny_bind (wpAny_field hos hds (x := vs) rfl (wpAny_pure ?_)))))))
  refine wpAny_bind (HT.slicePart_ ps ?_)
  show wpAny _ _ (if ((-1 : Int) == 0) = true then _ else _) _ _ s
  rw [if_neg (by decide)]
  refine wpAny_bind (HT.slicePart_ .none (wpAny_bind (HT.slicePart_ .none (wpAny_bind (wpAny_pure ?_)))))
  show wpAny _ _ (match Builtin.Slice.sliceAdjust none none (-1) (n : Int) with | (lo, hi) => pure (lo, (-1 : Int), Builtin.Slice.slicePlaces lo hi (-1))) _ _ s
  rw [adjR n]
  show wpAny _ _ (pure ((n : Int) - 1, (-1 : Int), Builtin.Slice.slicePlaces ((n : Int) - 1) (-1) (-1))) _ _ s
  rw [plcR n]
  exact wpAny_pure h
theorem pckR (xs : Array Value) : ((List.range xs.size).filterMap fun (k : Nat) => xs[(((xs.size : Nat) : Int) - 1 + (k : Int) * (-1)).toNat]?).toArray = xs.toList.reverse.toArray := by
  have e : (List.range xs.size).filterMap (fun (k : Nat) => xs[(((xs.size : Nat) : Int) - 1 + (k : Int) * (-1)).toNat]?) = ((List.range xs.size).map fun k => xs.size - 1 - k).filterMap (xs[·]?) := by
    rw [List.filterMap_map]
    exact congrArg (fun f => (List.range xs.size).filterMap f) (funext fun k => by
      show _ = xs[xs.size - 1 - k]?
      rw [show (((xs.size : Nat) : Int) - 1 + (k : Int) * (-1)).toNat = xs.size - 1 - k by omega])
  rw [e, PySem.W.krv_range, List.filterMap_reverse, PySem.W.krv_all]
theorem get_revT {t sl : Addr} {xs : Array Value} {vs : Value} {Q : Value → Shared → Prop} (ht : IsTup s.heap t xs) (hs : s.heap.IsSliceOf sl .none .none vs) (ps : IsPart vs (some (-1)))
    (h : Q (.ref s.heap.objs.size) { s with heap := s.heap.push { cls := .type "tuple", data := .seq xs.toList.reverse.toArray } }) (hsz : xs.size ≤ sizeLine) : wpAny (model P w) A (getItem (.ref t) (.ref sl)) Q E s := by
  have so : sizeOk (.seq xs.toList.reverse.toArray) := by
    show xs.toList.reverse.toArray.size ≤ sizeLine
    rw [List.size_toArray, List.length_reverse, Array.length_toList]; exact hsz
  obtain ⟨os, hos, hcs, hds⟩ := id hs
  have tS : s.TypeIs (.ref sl) "slice" := ⟨os, hos, hcs⟩
  unfold getItem
  try with_reducible refine wpAny_holding ?_
  first | refine wpAny_bind (wpAny_pure ?_) | skip
  refine wpAny_bind (wpAny_sequenceKey ht.typeIs (by decide) (wpAny_bind (wpAny_callSpecial?_slot (name := Str.ofString "__getitem__") ht.typeIs PyProof.Rows.slot_tuple_getitem (wpAny_call_entry PyProof.Rows.slot_tuple_getitem ht.typeIs entry_tuple_getitem ?_ (args_tuple_getitem _ _)))))
  show wpAny _ _ (Builtin.Tuple.tupleItemsOf (.ref t) >>= _) _ _ s
  refine wpAny_bind (tupleItemsOf_ ht (wpAny_bind (wpAny_typeOf tS ?_)))
  rw [if_pos (by decide)]
  refine wpAny_bind (appR (n := xs.size) hs ps ?_)
  show wpAny _ _ (if ((((xs.size : Nat) : Int) - 1) == 0 && (-1 : Int) == 1 && xs.size == xs.size) = true then _ else _) _ _ s
  rw [if_neg (by simp), pckR]
  first
    | exact wpAny_bind (m := Builtin.Tuple.tupleExact _) (wpAny_newObj_type (wpAny_pure ⟨_, rfl, wpAny_pure h⟩) so)
    | exact wpAny_bind (m := Builtin.Tuple.tupleExact _) (wpAny_newObj_type (wpAny_bind (wpAny_pure (wpAny_pure ⟨_, rfl, wpAny_pure h⟩))) so)
    | exact wpAny_bind (wpAny_bind (m := Builtin.Tuple.tupleExact _) (wpAny_newObj_type (wpAny_pure (wpAny_pure ⟨_, rfl, wpAny_pure h⟩)) so))
    | exact wpAny_bind (wpAny_bind (m := Builtin.Tuple.tupleExact _) (wpAny_newObj_type (wpAny_pure ⟨_, rfl, wpAny_pure h⟩) so))
/-! ### t * k, k at most 1 -/
theorem mul_one {l : Addr} {xs : Array Value} {n : Nat} {dd : Option Addr} {sl : Array (Option Value)} {k : Int} {u : Tok} (c0 : (decide (k < -(2 ^ 63)) || decide (k ≥ 2 ^ 63)) = false) (c1 : (xs.isEmpty || k == 1) = true) :
    Meets (Builtin.«tuple.__mul__» ⟨[.ref l, .int k u], []⟩) (fun _ R s => s.heap.get? l = some { cls := .type "tuple", dict := dd, data := .seq xs n, slots := sl } ∧ R (.ok (.ret (Value.ref l))) s) :=
  .of_wp fun prog w A R s h => by
    obtain ⟨hp, g, d, tk, os⟩ := s
    obtain ⟨hl, h⟩ := h
    have f1 := AutoSeq1.idx_int
    wp_walk using wpAny_loadPart' hl
    refine wpAny_ite_false (decide_eq_false (by rw [c0]; exact Bool.false_ne_true)) ?_
    wp_walk using wpAny_loadPart' hl
    exact ⟨_, rfl, h⟩
theorem mul_non {l : Addr} {xs : Array Value} {n : Nat} {dd : Option Addr} {sl : Array (Option Value)} {k : Int} {u : Tok} (c0 : (decide (k < -(2 ^ 63)) || decide (k ≥ 2 ^ 63)) = false) (c1 : (xs.isEmpty || k == 1) = false) (c2 : (decide (k ≤ 0) || xs.isEmpty) = true) :
    Meets (Builtin.«tuple.__mul__» ⟨[.ref l, .int k u], []⟩) (fun _ R s => s.heap.get? l = some { cls := .type "tuple", dict := dd, data := .seq xs n, slots := sl } ∧ R (.ok (.ret (Value.ref s.heap.objs.size))) { s with heap := s.heap.push { cls := Value.type "tuple", data := Data.seq #[] }, toks := s.toks }) :=
  .of_wp fun prog w A R s h => by
    obtain ⟨hp, g, d, tk, os⟩ := s
    obtain ⟨hl, h⟩ := h
    have f1 := AutoSeq1.idx_int
    wp_walk using wpAny_loadPart' hl
    refine wpAny_ite_false (decide_eq_false (by rw [c0]; exact Bool.false_ne_true)) ?_
    wp_walk using wpAny_loadPart' hl
    exact ⟨_, rfl, h⟩
end
section
variable {X : Cx} {G : Gm} {W : WX} {F H F1 H1 : Hp} {σ σ1 : L2.St} {r r1 : En} {a b : Expr} {pos : Pos} {f g : En → R D}
def rRepU (K : PySem.W.Frag) : R2 := fun x y H Q => ∃ l k xs, x = .ref l ∧ y = .int k ∧ SqT K H l xs ∧ -1000 ≤ k ∧ ((xs = [] ∨ k = 1) → k ≤ 1000 → Q (.ref l) H) ∧ (xs ≠ [] → k ≤ 0 → ∀ p, H p = none → Q (.ref p) (upd H p (.tup []))) ∧ (k ≤ 1 ∨ (xs = [] ∧ k ≤ 1000))
theorem op_repU : OpR X (binaryOp .Mult) (rRepU X.K) := by
  intro pins s σ H x y v u Q I rx ry h
  obtain ⟨l, k, xs, rfl, rfl, hT, h0, q1, q2, h1⟩ := h
  cases rx
  obtain ⟨t, rfl⟩ := ry
  obtain ⟨its, r, ⟨⟨cls, dd, data, sl⟩, ho, hc, n, hd⟩, hs⟩ := I.tuple hT
  simp only at hc hd
  subst hc hd
  have em : its.toArray.isEmpty = true ↔ xs = [] := by
    cases r <;> simp
  have c0 : (decide (k < -(2 ^ 63)) || decide (k ≥ 2 ^ 63)) = false := by
    rw [decide_eq_false (by omega), decide_eq_false (by omega)] <;> rfl
  have run : ∀ R : Value → Shared → Prop, wpAny (model X.prog X.w) X.A (call (.builtin "tuple.__mul__") [.ref l, .int k t]) R X.xe s → wpAny (model X.prog X.w) X.A (binaryOp .Mult (.ref l) (.int k t)) R X.xe s := fun R hR =>
    wpAny_binaryOp_repeat_ref (T := "tuple") (U := "int") (by decide) ⟨_, ho, rfl⟩ (fun s' => typeIs_int s' k t) noFill_tuple_mul F.fills_int_mul F.slot_int_rmul repeat_tuple F.slot_int_index.lookup
      (call_meets F.slot_int_rmul (typeIs_int s k t) F.entry_int_rmul (F.args_int_rmul_2 _ _) (int_rmul_tuple k t l its.toArray n dd sl) ⟨ho, rfl, ⟨_, ho, rfl⟩, hR⟩)
  refine run _ ?_
  by_cases hw : xs = [] ∨ k = 1
  · have c1 : (its.toArray.isEmpty || k == 1) = true := by
      rw [Bool.or_eq_true]
      exact hw.imp em.mpr fun z => by rw [z]; rfl
    exact call_meets F.slot_tuple_mul ⟨_, ho, rfl⟩ F.entry_tuple_mul (F.args_tuple_mul_2 _ _) (DL.mul_one c0 c1) ⟨ho, ⟨.ref l, H, I, rfl, q1 hw (by omega)⟩⟩
  · have ne : xs ≠ [] := fun z => hw (.inl z)
    have k0 : k ≤ 0 := by
      rcases h1 with z | z
      · have : k ≠ 1 := fun z => hw (.inr z)
        omega
      · exact absurd z.1 ne
    have hi : its.toArray.isEmpty = false := by
      cases hb : its.toArray.isEmpty with
      | false => rfl
      | true => exact absurd (em.mp hb) ne
    have c1 : (its.toArray.isEmpty || k == 1) = false := by
      rw [hi, Bool.false_or]; exact beq_eq_false_iff_ne.mpr (by omega)
    have c2 : (decide (k ≤ 0) || its.toArray.isEmpty) = true := by
      rw [decide_eq_true k0]; rfl
    refine call_meets F.slot_tuple_mul ⟨_, ho, rfl⟩ F.entry_tuple_mul (F.args_tuple_mul_2 _ _) (DL.mul_non c0 c1 c2) ⟨ho, ?_⟩
    exact ⟨.ref s.heap.objs.size, _, I.laid (t' := s.toks) (o := .tup []) (fun b ob q => Heap.get?_push_of_some _ q) (Nat.le_refl _) ⟨Nat.zero_le _, _, .nil, IsTup.new _ _⟩, rfl, q2 ne k0 _ (I.hok.fresh (Nat.le_refl _))⟩
/-- int * int, tuple * int -/
def oMulT (x y : D) : Option D := match x, y with
  | .tuple xs, .int k => if (decide (-1000 ≤ k) && decide (k ≤ 1000) && decide (xs.length ≤ 1000)) = true then some (.tuple (repD xs k.toNat)) else none
  | x, y => oMul x y
def rMulT (K : PySem.W.Frag) : R2 := fun x y H Q => rI CMulA (fun i j => .int (i * j)) x y H Q ∨ (rRepT K x y H Q ∨ rRepU K x y H Q)
theorem op_mulT : OpR X (binaryOp .Mult) (rMulT X.K) := op_mulA.or (op_repT.or op_repU)
theorem od_mulT : OpD G (rMulT G.K) oMulT := fun x y d F H v w Q h hs q1 q2 k => by
  unfold oMulT at h
  split at h
  · rename_i xs n
    split at h
    · rename_i hz
      cases h
      simp only [Bool.and_eq_true, decide_eq_true_eq] at hz
      obtain ⟨a, vs, rfl, h1, h2⟩ := rp_tup q1
      rw [rp_int q2]
      have len := h2.len
      refine .inr ?_
      by_cases h3 : 2 ≤ n ∧ vs ≠ []
      · exact .inl ⟨a, n, vs, rfl, rfl, hs.t h1, h3.2, h3.1, by omega, by omega, fun p hp => new_tup hs (rp_rep h2 n.toNat) rfl k p hp⟩
      · refine .inr ⟨a, n, vs, rfl, rfl, hs.t h1, by omega, fun hw _ => ?_, fun ne k0 p hp => ?_, ?_⟩
        · have e : repD xs n.toNat = xs := by
            rcases hw with z | z
            · have : xs = [] := List.eq_nil_of_length_eq_zero (by rw [← len, z]; rfl)
              subst this
              have : ∀ m, repD ([] : List D) m = [] := fun m => by
                induction m with
                | zero => rfl
                | succ m ih => exact ih
              exact this _
            · subst z; exact List.append_nil xs
          rw [e] at k
          exact k _ _ _ (Ext.refl _ _) (.tup h1 h2)
        · have e : n.toNat = 0 := by omega
          rw [e] at k
          exact new_tup hs (vs := []) (ds := []) .nil rfl k p hp
        · by_cases z : vs = []
          · exact .inr ⟨z, by omega⟩
          · left; by_cases z2 : 2 ≤ n
            · exact absurd ⟨z2, z⟩ h3
            · omega
    · cases h
  · exact .inl (od_mul x y d F H v w Q h hs q1 q2 k)
/-! ### x[::-1] -/
def tRevT (K : PySem.W.Frag) (te : TE) : TE := fun σ H Q => te σ H fun x H1 => ∃ a xs, x = .ref a ∧ ((SqL K H1 a xs ∧ ∀ p, H1 p = none → Q (.ref p) (upd H1 p (.lst xs.reverse))) ∨ (SqT K H1 a xs ∧ ∀ p, H1 p = none → Q (.ref p) (upd H1 p (.tup xs.reverse))))
theorem pe_revT {e : Expr} {te : TE} {k : Nat} {p1 p2 p3 : Pos} (he : PE X e te) : PE X (.Subscript e (.Slice none none (some (.UnaryOp .USub (.Constant (.int 1) k p1) p2)) p3) pos) (tRevT X.K te) := by
  refine ⟨fun pins s σ H Q I h => Subscript_ (thn (he.run pins s σ H _ I h) fun v s1 ⟨x, H1, I1, r1, a, xs, ex, q⟩ => ?_)⟩
  subst ex
  cases r1
  have st : PO X (some (.UnaryOp .USub (.Constant (.int 1) k p1) p2)) (tPart (tUn (rU fun i => .int (-i)) (tC (.int 1)))) := po_some (pe_un un_neg pe_int)
  refine wpAny_Slice (thn (po_none.run pins s1 σ H1 (fun o H2 => o = none ∧ H2 = H1) I1 ⟨rfl, rfl⟩) fun vl s2 ⟨l, H2, I2, pl, el, e2⟩ => ?_)
  subst el e2
  refine thn (po_none.run pins s2 σ H2 (fun o H3 => o = none ∧ H3 = H2) I2 ⟨rfl, rfl⟩) fun vu s3 ⟨u, H3, I3, pu, eu, e3⟩ => ?_
  subst eu e3
  refine thn (st.run pins s3 σ H3 (fun o H4 => o = some (-1) ∧ H4 = H3) I3 ⟨1, rfl, -1, rfl, rfl, rfl⟩) fun vs s4 ⟨o, H4, I4, ps, eo, e4⟩ => ?_
  subst eo e4
  cases pl
  cases pu
  have I5 : Inv X pins σ H4 { s4 with heap := s4.heap.push { cls := .type "slice", data := .fields #[.none, .none, vs] } } := I4.kept (t' := s4.toks) fun b ob z => Heap.get?_push_of_some _ z
  show wpAny (model X.prog X.w) X.A (subscriptTail e (.Slice none none (some (.UnaryOp .USub (.Constant (.int 1) k p1) p2)) p3) (.ref a) (.ref s4.heap.objs.size)) (EP X pins σ Q) X.xe { s4 with heap := s4.heap.push { cls := .type "slice", data := .fields #[.none, .none, vs] } }
  rcases q with ⟨hx, q⟩ | ⟨hx, q⟩
  · obtain ⟨its, r, ht, hz⟩ := I5.list hx
    have hlen := r.length
    refine tail_any (ops := [.ref a, .ref s4.heap.objs.size]) ht.isList.typeIs (PySem.slot_list_getitem.lookup) ?_ (by with_unfolding_all rfl)
    refine wpAny_getItem_list_slice ht.isList (Heap.IsSliceOf.new _ .none .none vs) .none .none ps (by decide) ?_ (by rw [List.size_toArray]; omega)
    rw [PySem.W.krv_pick]
    exact ⟨.ref _, _, I5.laid (t' := s4.toks) (o := .lst xs.reverse) (fun b ob z => Heap.get?_push_of_some _ z) (Nat.le_refl _) ⟨by rw [List.length_reverse]; exact hz, _, 0, r.reverse, Heap.get?_push_size _ rfl⟩, rfl, q _ (I5.hok.fresh (Nat.le_refl _))⟩
  · obtain ⟨its, r, ht, hz⟩ := I5.tuple hx
    have hlen := r.length
    refine tail_any (ops := [.ref a, .ref s4.heap.objs.size]) ht.typeIs (PyProof.Rows.slot_tuple_getitem.lookup) ?_ (by with_unfolding_all rfl)
    refine get_revT ht (Heap.IsSliceOf.new _ .none .none vs) ps ?_ (by rw [List.size_toArray]; omega)
    exact ⟨.ref _, _, I5.laid (t' := s4.toks) (o := .tup xs.reverse) (fun b ob z => Heap.get?_push_of_some _ z) (Nat.le_refl _) ⟨by rw [List.length_reverse]; exact hz, _, r.reverse, IsTup.new _ _⟩, rfl, q _ (I5.hok.fresh (Nat.le_refl _))⟩
def xRevA (f : En → R D) : En → R Sl := fun r => (f r).bind fun x r1 => match x with
  | .list ds => .ok (.ow ds.reverse) r1
  | .tuple ds => .ok (.vl (.tuple ds.reverse)) r1
  | _ => .st
theorem dx_revA {k : Nat} {p1 p2 p3 : Pos} (hK : X.K = G.K) (ha : PE X a (TEo G W f)) : PE X (.Subscript a (.Slice none none (some (.UnaryOp .USub (.Constant (.int 1) k p1) p2)) p3) pos) (TXo G W (xRevA f)) :=
  pe_of (pe_revT ha) fun σ H Q ⟨F, r0, e, p⟩ => by
    have p : TXp G W (xRevA f r0) F H σ r0 Q := p
    refine ⟨F, r0, e, (TXp.bind (rel := rV G) p).mono fun v H1 ⟨x, F1, r1, _, e1, q1, p1⟩ => ?_⟩
    cases q1 with
    | @lst a xs ds h1 h2 => exact ⟨a, xs, rfl, .inl ⟨by rw [hK]; exact SqL.of (e1.sub _ _ h1), fun l hl => TXp.new (ds := ds.reverse) p1 e1 _ h2.rev l hl⟩⟩
    | @tup a xs ds h1 h2 => exact ⟨a, xs, rfl, .inr ⟨by rw [hK]; exact e1.sub.t h1, fun l hl => new_tup e1.sub h2.rev rfl (TXp.val p1 e1) l hl⟩⟩
    | _ => exact p1.elim
end
end DL
set_option maxHeartbeats 4000000
/-! DLr: dice, rolls, picks: the same text in every law. -/
namespace DL
open PySem PyProof.Rows L2
def F__law_dice : En → Fl := sSeq (sSet (eIf (tB1 (eOp oLt (eV 1) (eLenO 0))) (eCB cInt (aCons (eIxO 0 (eV 1)) (aNil))) (eOp oAdd (eOp oMul (eC (.int 97)) (eV 1)) (eC (.int 43)))) 2) (sSeq (sSet (eOp oMod (eCB cMax2 (aCons (eC (.int 0)) (aCons (eOp oSub (eCB cAbs (aCons (eV 2) (aNil))) (eOp oPow (eC (.int 10)) (eC (.int 17)))) (aNil)))) (eOp oMul (eOp oPow (eC (.int 10)) (eC (.int 60))) (eOp oPow (eC (.int 10)) (eC (.int 60))))) 3) (sRetX (xLst (aCons (eV 3) (aCons (eOp oAdd (eOp oAdd (eOp oAdd (eOp oMul (eOp oMod (eCB cAbs (aCons (eV 2) (aNil))) (eC (.int 1152921504606846737))) (eC (.int 37))) (eOp oMul (eC (.int 859)) (eV 1))) (eOp oMul (eC (.int 31)) (eCB cInt (aCons (eOp oLt (eV 2) (eC (.int 0))) (aNil))))) (eC (.int 17))) (aCons (eC (.int 0)) (aNil)))))))
def f__law_dice : En → Rf := runF 4 2 F__law_dice
def F__law_roll : En → Fl := sSeq (sIf (tB1 (eOp oGt (eIxO 0 (eC (.int 0))) (eC (.int 0)))) (sSeq (sSet (eOp oMod (eCB cInt (aCons (eIxO 0 (eC (.int 0))) (aNil))) (eV 1)) 2) (sSeq (sSetIx 0 (eOp oDiv (eIxO 0 (eC (.int 0))) (eV 1)) (eC (.int 0))) (sRet (eV 2)))) (sNil)) (sSeq (sSetIx 0 (eOp oAdd (eIxO 0 (eC (.int 2))) (eC (.int 1))) (eC (.int 2))) (sSeq (sSet (eOp oMod (eCB cInt (aCons (eOp oAdd (eIxO 0 (eC (.int 1))) (eOp oMul (eC (.int 15486209)) (eIxO 0 (eC (.int 2))))) (aNil))) (eC (.int 2305843009213693951))) 3) (sSeq (sSet (eOp oAdd (eOp oMul (eOp oMod (eCB cInt (aCons (eOp oAdd (eOp oMul (eV 3) (eV 3)) (eOp oMul (eC (.int 199)) (eIxO 0 (eC (.int 2))))) (aNil))) (eC (.int 2305843009213693907))) (eC (.int 7368751))) (eV 3)) 4) (sRet (eOp oMod (eCB cInt (aCons (eOp oDiv (eV 4) (eC (.int 65536))) (aNil))) (eV 1))))))
def f__law_roll : En → Rf := runF 5 2 F__law_roll
def F__law_pick : En → Fl := sRet (eOp oIx (eV 1) (eF (xCallI 0 f__law_roll (aCons (eCB cLen (aCons (eV 1) (aNil))) (aNil)))))
def f__law_pick : En → Rf := runF 2 2 F__law_pick
def IsDice (ds : List D) : Prop := ∃ a b c : Int, ds = [.int a, .int b, .int c]
theorem roll_pos (a b c n : Int) (h : 0 < a) (hn : 0 < n) (h2 : n < 1073741824) : f__law_roll [.io [.int a, .int b, .int c], .vl (.int n)] = .rt (.vl (.int (a % n))) (some [.int (a / n), .int b, .int c]) := by
  simp [f__law_roll, F__law_roll, runF, sSeq, sIf, rF, tB1, eOp, eIxO, Sl.has, Sl.isM, Sl.items, Sl.mut, Sl.put, R.bind, liftO, ixD, atI, ixN, oGt, cmpD, eC, eV, eCB, aCons, aNil, cInt, oMod, oDiv, divOk, sSet, sSetIx, sRet, ioOf, notIo, h, hn, h2]
theorem roll_neg (a b c n : Int) (h : ¬ 0 < a) (hn : 0 < n) (h2 : n < 1073741824) : ∃ x : Int, f__law_roll [.io [.int a, .int b, .int c], .vl (.int n)] = .rt (.vl (.int (x % n))) (some [.int a, .int b, .int (c + 1)]) := by
  refine ⟨(((b + 15486209 * (c + 1)) % 2305843009213693951 * ((b + 15486209 * (c + 1)) % 2305843009213693951) + 199 * (c + 1)) % 2305843009213693907 * 7368751 + (b + 15486209 * (c + 1)) % 2305843009213693951) / 65536, ?_⟩
  have hm : mulOk ((b + 15486209 * (c + 1)) % 2305843009213693951) ((b + 15486209 * (c + 1)) % 2305843009213693951) = true := by
    unfold mulOk
    simp only [Bool.or_eq_true, decide_eq_true_eq]
    omega
  have hm2 : ∀ x : Int, mulOk x 7368751 = true := fun x => by simp [mulOk]
  have hm3 : ∀ x : Int, mulOk 15486209 x = true := fun x => by simp [mulOk]
  have hm4 : ∀ x : Int, mulOk 199 x = true := fun x => by simp [mulOk]
  simp [f__law_roll, F__law_roll, runF, sSeq, sIf, rF, tB1, eOp, eIxO, Sl.has, Sl.isM, Sl.items, Sl.mut, Sl.put, R.bind, liftO, ixD, atI, ixN, oGt, cmpD, eC, eV, eCB, aCons, aNil, cInt, oMod, oDiv, divOk, sSet, sSetIx, sRet, ioOf, notIo, h, hn, h2, sNil, oAdd, oMul, rIntD, hm, hm2, hm3, hm4]
/-- a roll gives some number below the total, the dice stay dice -/
theorem roll_some {ds : List D} {n : Int} (hd : IsDice ds) (hn : 0 < n) (h2 : n < 1073741824) : ∃ r ds', f__law_roll [.io ds, .vl (.int n)] = .rt (.vl (.int r)) (some ds') ∧ 0 ≤ r ∧ r < n ∧ IsDice ds' := by
  obtain ⟨a, b, c, rfl⟩ := hd
  by_cases h : 0 < a
  · exact ⟨_, _, roll_pos a b c n h hn h2, Int.emod_nonneg _ (by omega), Int.emod_lt_of_pos _ hn, _, _, _, rfl⟩
  · obtain ⟨x, hx⟩ := roll_neg a b c n h hn h2
    exact ⟨_, _, hx, Int.emod_nonneg _ (by omega), Int.emod_lt_of_pos _ hn, _, _, _, rfl⟩
/-- a pick gives some item -/
theorem pick_list {ds es : List D} (hd : IsDice ds) (h1 : 0 < es.length) (h2 : es.length < 1073741824) : ∃ x ds', f__law_pick [.io ds, .vl (.list es)] = .rt (.vl x) (some ds') ∧ x ∈ es ∧ IsDice ds' := by
  obtain ⟨r, ds', hr, a1, a2, a3⟩ := roll_some (n := es.length) hd (by omega) (by omega)
  have hlt : r.toNat < es.length := by omega
  refine ⟨es[r.toNat], ds', ?_, List.getElem_mem hlt, a3⟩
  simp [f__law_pick, F__law_pick, runF, sRet, rF, eOp, eV, R.bind, eF, xCallI, Sl.isM, aCons, eCB, aNil, cLen, liftO, Sl.mut, Sl.put, hr, fz, oIx, atI, ixN, a1, a2, ioOf, notIo, hlt]
theorem pick_tup {ds es : List D} (hd : IsDice ds) (h1 : 0 < es.length) (h2 : es.length < 1073741824) : ∃ x ds', f__law_pick [.io ds, .vl (.tuple es)] = .rt (.vl x) (some ds') ∧ x ∈ es ∧ IsDice ds' := by
  obtain ⟨r, ds', hr, a1, a2, a3⟩ := roll_some (n := es.length) hd (by omega) (by omega)
  have hlt : r.toNat < es.length := by omega
  refine ⟨es[r.toNat], ds', ?_, List.getElem_mem hlt, a3⟩
  simp [f__law_pick, F__law_pick, runF, sRet, rF, eOp, eV, R.bind, eF, xCallI, Sl.isM, aCons, eCB, aNil, cLen, liftO, Sl.mut, Sl.put, hr, fz, oIx, atI, ixN, a1, a2, ioOf, notIo, hlt]
/-- the dice of a cell -/
theorem dice_some {ns : List Int} {k : Nat} : ∃ ds, f__law_dice [.fr (ns.map .int), .vl (.int k)] = .rt (.ow ds) none ∧ IsDice ds := by
  suffices h : ∃ a b c : Int, f__law_dice [.fr (ns.map .int), .vl (.int k)] = .rt (.ow [.int a, .int b, .int c]) none by
    obtain ⟨a, b, c, h⟩ := h
    exact ⟨_, h, a, b, c, rfl⟩
  have hl : Nat.log2 1000000000000000000000000000000000000000000000000000000000000 + Nat.log2 1000000000000000000000000000000000000000000000000000000000000 < 1000000 := by decide +kernel
  by_cases hk : k < ns.length
  · simp [f__law_dice, F__law_dice, runF, sSeq, rF, eIf, tB1, eOp, eIxO, eLenO, Sl.has, Sl.isM, Sl.items, Sl.mut, Sl.put, R.bind, liftO, ixD, atI, ixN, oLt, cmpD, eC, eV, eCB, aCons, aNil, cInt, cMax2, cAbs, oMod, oSub, oPow, rIntD, powOk, oMul, mulOk, oAdd, sSet, sRetX, xLst, ioOf, notIo, hk, hl]
  · simp [f__law_dice, F__law_dice, runF, sSeq, rF, eIf, tB1, eOp, eIxO, eLenO, Sl.has, Sl.isM, Sl.items, Sl.mut, Sl.put, R.bind, liftO, ixD, atI, ixN, oLt, cmpD, eC, eV, eCB, aCons, aNil, cInt, cMax2, cAbs, oMod, oSub, oPow, rIntD, powOk, oMul, mulOk, oAdd, sSet, sRetX, xLst, ioOf, notIo, hk, hl]
end DL
set_option maxHeartbeats 4000000
/-! DLs: what loops, comprehensions, sums over data come to. -/
namespace DL
open PySem PyProof.Rows L2
theorem wipe_back_get {r : En} {i : Nat} : ∀ {vs : List Nat}, (backD r (wipeD r vs) vs)[i]? = r[i]? := by
  have len : ∀ us vs, (backD r (wipeD r us) vs).length = r.length := fun us vs => by rw [backD_length, wipeD_length]
  have inn : ∀ {us vs : List Nat} {i : Nat}, i ∈ vs → (backD r (wipeD r us) vs)[i]? = r[i]? := fun {us vs i} h => by
    induction vs with
    | nil => cases h
    | cons v vs ih =>
      unfold backD
      by_cases e : v = i
      · subst e
        by_cases hl : v < r.length
        · rw [List.getElem?_set_self (by rw [len]; exact hl), List.getElem?_eq_getElem hl, List.getD_eq_getElem?_getD, List.getElem?_eq_getElem hl]
          rfl
        · rw [List.getElem?_eq_none (by rw [List.length_set, len]; omega), List.getElem?_eq_none (by omega)]
      · rw [List.getElem?_set_ne e]
        exact ih (by rcases List.mem_cons.mp h with z | z; exact absurd z.symm e; exact z)
  have out : ∀ {us vs : List Nat} {i : Nat}, i ∉ vs → i ∉ us → (backD r (wipeD r us) vs)[i]? = r[i]? := fun {us vs i} h h2 => by
    induction vs with
    | nil =>
      show (wipeD r us)[i]? = r[i]?
      clear h
      induction us with
      | nil => rfl
      | cons v us ih =>
        unfold wipeD
        rw [List.getElem?_set_ne (fun e => h2 (by rw [e]; exact List.mem_cons_self ..))]
        exact ih fun z => h2 (List.mem_cons_of_mem _ z)
    | cons v vs ih =>
      unfold backD
      rw [List.getElem?_set_ne (fun e => h (by rw [e]; exact List.mem_cons_self ..))]
      exact ih fun z => h (List.mem_cons_of_mem _ z)
  intro vs
  by_cases h : i ∈ vs
  · exact inn h
  · exact out h h
theorem backD_wipeD (r : En) (vs : List Nat) : backD r (wipeD r vs) vs = r := List.ext_getElem? fun _ => wipe_back_get
/-- a comprehension whose turns leave the names as they were -/
theorem lcD_map {α : Type} {enc : α → D} {p : α → Bool} {g : α → D} {vs : List Nat} {t : D → En → Option En} {c : En → R Bool} {f : En → R D} {r : En} : ∀ (xs : List α) (acc : List D), (∀ x ∈ xs, ∃ r1, t (enc x) r = some r1 ∧ c r1 = .ok (p x) r1 ∧ (p x = true → f r1 = .ok (g x) r1) ∧ wipeD r1 vs = r) → acc.length + xs.length ≤ 1000000 →
    lcD vs t c f (xs.map enc) r acc = .ok (acc ++ (xs.filter p).map g) r
  | [], acc, _, _ => by simp [lcD]
  | x :: xs, acc, h, hl => by
    obtain ⟨r1, h1, h2, h3, h4⟩ := h x (List.mem_cons_self ..)
    have hl' : acc.length + (xs.length + 1) ≤ 1000000 := hl
    rw [List.map_cons]
    unfold lcD
    simp only [h1, h2]
    cases hp : p x with
    | false =>
      simp only [h4]
      rw [lcD_map xs acc (fun y hy => h y (List.mem_cons_of_mem _ hy)) (by omega), List.filter_cons_of_neg (by rw [hp]; decide)]
    | true =>
      simp only [h3 hp, h4]
      rw [if_pos (by omega), lcD_map xs (acc ++ [g x]) (fun y hy => h y (List.mem_cons_of_mem _ hy)) (by simp; omega), List.filter_cons_of_pos hp]
      simp
theorem xLc_map {α : Type} {enc : α → D} {p : α → Bool} {g : α → D} {vs : List Nat} {it : En → R (List D)} {t : D → En → Option En} {c : En → R Bool} {f : En → R D} {r r1 : En} {xs : List α} (hi : it r = .ok (xs.map enc) r1) (h : ∀ x ∈ xs, ∃ r2, t (enc x) (wipeD r1 vs) = some r2 ∧ c r2 = .ok (p x) r2 ∧ (p x = true → f r2 = .ok (g x) r2) ∧ wipeD r2 vs = wipeD r1 vs) (hl : xs.length ≤ 1000000) :
    xLc vs it t c f r = .ok (.ow ((xs.filter p).map g)) r1 := by
  unfold xLc
  rw [hi]
  simp only [R.bind]
  rw [lcD_map xs [] h (by simpa using hl)]
  simp only [List.nil_append, backD_wipeD]
/-- a loop by its state -/
theorem forD_fold {α σ : Type} {enc : α → D} {e : σ → En} {step : σ → α → σ} {t : D → En → Option En} {f : En → Fl} (P : List α → σ → Prop) (h : ∀ x rest s, P (x :: rest) s → ∃ r1, t (enc x) (e s) = some r1 ∧ f r1 = .nx (e (step s x)) ∧ P rest (step s x)) : ∀ (xs : List α) (s : σ), P xs s → forD t f (xs.map enc) (e s) = .nx (e (xs.foldl step s)) ∧ P [] (xs.foldl step s)
  | [], s, hp => ⟨rfl, hp⟩
  | x :: xs, s, hp => by
    obtain ⟨r1, h1, h2, h3⟩ := h x xs s hp
    rw [List.map_cons]
    unfold forD
    simp only [h1, h2]
    exact forD_fold P h xs (step s x) h3
/-- a loop that keeps what holds of the names -/
theorem forD_keep {t : D → En → Option En} {f : En → Fl} (I : En → Prop) : ∀ (ds : List D) (r : En), (∀ d ∈ ds, ∀ r, I r → ∃ r1 r2, t d r = some r1 ∧ f r1 = .nx r2 ∧ I r2) → I r → ∃ r', forD t f ds r = .nx r' ∧ I r'
  | [], r, _, hi => ⟨r, rfl, hi⟩
  | d :: ds, r, h, hi => by
    obtain ⟨r1, r2, h1, h2, h3⟩ := h d (List.mem_cons_self ..) r hi
    obtain ⟨r', k1, k2⟩ := forD_keep I ds r2 (fun d hd => h d (List.mem_cons_of_mem _ hd)) h3
    refine ⟨r', ?_, k2⟩
    unfold forD
    simp only [h1, h2]
    exact k1
/-- a while by what its turns come to -/
theorem whileD_seq {c : En → R Bool} {f : En → Fl} (it : Nat → En) (m : Nat) (h : ∀ j, j < m → c (it j) = .ok true (it j) ∧ f (it j) = .nx (it (j + 1))) (h2 : c (it m) = .ok false (it m)) : ∀ (fuel j : Nat), j ≤ m → m - j < fuel → whileD c f fuel (it j) = .nx (it m)
  | 0, _, _, hf => absurd hf (Nat.not_lt_zero _)
  | fuel + 1, j, hj, hf => by
    unfold whileD rF
    by_cases e : j = m
    · subst e
      simp [h2]
    · obtain ⟨a, b⟩ := h j (by omega)
      simp only [a, b, if_true]
      exact whileD_seq it m h h2 fuel (j + 1) (by omega) (by omega)
/-- a loop over range by what holds before its i-th turn -/
theorem forD_range {t : D → En → Option En} {f : En → Fl} {lo : Int} {n : Nat} (I : Nat → En → Prop) (h : ∀ i r, i < n → I i r → ∃ r1 r2, t (.int (lo + i)) r = some r1 ∧ f r1 = .nx r2 ∧ I (i + 1) r2) : ∀ {r : En}, I 0 r → ∃ r', forD t f (rngD 1 lo n) r = .nx r' ∧ I n r' := by
  have gen : ∀ (m i : Nat) (lo' : Int) (r : En), i + m = n → lo' = lo + i → I i r → ∃ r', forD t f (rngD 1 lo' m) r = .nx r' ∧ I n r' := by
    intro m
    induction m with
    | zero => intro i lo' r e _ hi; exact ⟨r, rfl, by rw [← e]; exact hi⟩
    | succ m ih =>
      intro i lo' r e el hi
      obtain ⟨r1, r2, h1, h2, h3⟩ := h i r (by omega) hi
      obtain ⟨r', k1, k2⟩ := ih (i + 1) (lo' + 1) r2 (by omega) (by rw [el]; push_cast; omega) h3
      refine ⟨r', ?_, k2⟩
      unfold rngD forD
      rw [el]
      simp only [h1, h2]
      rw [← el]
      exact k1
  intro r hi
  exact gen n 0 lo r (by omega) (by simp) hi
theorem rngD_map (lo : Int) (n : Nat) : rngD 1 lo n = (List.range n).map fun i : Nat => PyData.int (lo + i) := by
  refine List.ext_getElem? fun i => ?_
  by_cases h : i < n
  · rw [rngD_get 1 lo n i h, List.getElem?_map, List.getElem?_range h]
    simp
  · rw [List.getElem?_eq_none (by rw [rngD_len]; omega), List.getElem?_eq_none (by simp; omega)]
theorem sumD_ints : ∀ l : List Int, sumD (l.map PyData.int) = some l.sum
  | [] => rfl
  | i :: l => by
    show (sumD (l.map PyData.int)).map (i + ·) = _
    rw [sumD_ints l]
    rfl
theorem inR_ok {x : Int} (h : -1000000000 ≤ x) (h2 : x ≤ 1000000000) : DL.inR x = true := by
  unfold DL.inR
  rw [Bool.and_eq_true, decide_eq_true_eq, decide_eq_true_eq]
  exact ⟨Int.le_trans (by decide) h, Int.lt_of_le_of_lt h2 (by decide)⟩
theorem iRg1_of {f : En → R D} {r r1 : En} {j : Int} {m : Nat} (hf : f r = .ok (.int j) r1) (h1 : -1000000000 ≤ j) (h2 : j ≤ 1000000000) (hm : j.toNat = m) : iRg1 f r = .ok (rngD 1 0 m) r1 := by
  unfold iRg1
  rw [hf]
  simp only [R.bind]
  rw [if_pos (inR_ok h1 h2), hm]
theorem iRg2_of {f g : En → R D} {r r1 r2 : En} {i j : Int} {m : Nat} (hf : f r = .ok (.int i) r1) (hg : g r1 = .ok (.int j) r2) (h1 : -1000000000 ≤ i) (h2 : i ≤ 1000000000) (h3 : -1000000000 ≤ j) (h4 : j ≤ 1000000000) (hm : (j - i).toNat = m) : iRg2 f g r = .ok (rngD 1 i m) r2 := by
  unfold iRg2
  rw [hf]
  simp only [R.bind]
  rw [hg]
  simp only []
  rw [if_pos (by rw [inR_ok h1 h2, inR_ok h3 h4]; rfl), hm]
theorem sFor_of {it : En → R (List D)} {t : D → En → Option En} {f : En → Fl} {r r1 : En} {ds : List D} (h : it r = .ok ds r1) : sFor it t f r = forD t f ds r1 := by
  unfold sFor
  rw [h]
  rfl
theorem sSeq_of {f g : En → Fl} {r r1 : En} (h : f r = .nx r1) : sSeq f g r = g r1 := by
  unfold sSeq
  rw [h]
theorem runF_rt {n m : Nat} {f : En → Fl} {args r : En} {sl : Sl} {io : Option (List D)} (hm : args.length = m) (hf : f (args ++ List.replicate (n - m) .no) = .rt sl r) (hs : notIo sl = true) (hio : ioOf r = io) : runF n m f args = .rt sl io := by
  unfold runF
  rw [if_pos hm, hf]
  simp only [hs, if_true, hio]
theorem runF_nx {n m : Nat} {f : En → Fl} {args r : En} {io : Option (List D)} (hm : args.length = m) (hf : f (args ++ List.replicate (n - m) .no) = .nx r) (hio : ioOf r = io) : runF n m f args = .rt (.vl .none) io := by
  unfold runF
  rw [if_pos hm, hf]
  simp only [hio]
theorem eC_of {d : D} {r : En} : eC d r = .ok d r := rfl
theorem eVF_ow {i : Nat} {r : En} {ds : List D} (h : r[i]? = some (.ow ds)) : eVF i r = .ok (.list ds) (r.set i (.vl (.list ds))) := by
  unfold eVF
  rw [h]
theorem xCall_of {fD : En → Rf} {fs : En → R (List D)} {r r1 : En} {ds : List D} {s : Sl} (h1 : fs r = .ok ds r1) (h2 : fD (ds.map .vl) = .rt s none) : xCall fD fs r = .ok s r1 := by
  unfold xCall
  rw [h1]
  simp only [R.bind]
  rw [h2]
theorem xCallI_of {i : Nat} {fD : En → Rf} {fs : En → R (List D)} {r r1 : En} {ds xs ys : List D} {s s0 : Sl} (h0 : Sl.isM r[i]? = true) (h1 : fs r = .ok ds r1) (e : r1[i]? = some s0) (hm : s0.mut = some xs) (h2 : fD (.io xs :: ds.map .vl) = .rt s (some ys)) : xCallI i fD fs r = .ok s (r1.set i (s0.put ys)) := by
  unfold xCallI
  rw [if_pos h0, h1]
  simp only [R.bind, e, hm, h2]
theorem xCallR_of {i : Nat} {fD : En → Rf} {fs : En → R (List D)} {r r1 : En} {ds xs : List D} {s : Sl} (e : r[i]? = some (.fr xs)) (h1 : fs r = .ok ds r1) (h2 : fD (.fr xs :: ds.map .vl) = .rt s none) : xCallR i fD fs r = .ok s r1 := by
  unfold xCallR
  simp only [e, h1, R.bind, h2]
theorem eF_of {f : En → R Sl} {r r1 : En} {s : Sl} {d : D} (h : f r = .ok s r1) (h2 : fz s = some d) : eF f r = .ok d r1 := by
  unfold eF
  rw [h]
  simp only [R.bind, h2, liftO]
theorem sDrop_of {f : En → R D} {r r1 : En} {d : D} (h : f r = .ok d r1) : sDrop f r = .nx r1 := by
  unfold sDrop
  rw [h]
  rfl
theorem sSet_of {f : En → R D} {i : Nat} {r r1 : En} {d : D} (h : f r = .ok d r1) : sSet f i r = .nx (r1.set i (.vl d)) := by
  unfold sSet
  rw [h]
  rfl
theorem sAsgX_of {f : En → R Sl} {i : Nat} {r r1 : En} {s : Sl} (h : f r = .ok s r1) : sAsgX f i r = .nx (r1.set i s) := by
  unfold sAsgX
  rw [h]
  rfl
theorem sRet_of {f : En → R D} {r r1 : En} {d : D} (h : f r = .ok d r1) : sRet f r = .rt (.vl d) r1 := by
  unfold sRet
  rw [h]
  rfl
theorem sRetX_of {f : En → R Sl} {r r1 : En} {s : Sl} (h : f r = .ok s r1) : sRetX f r = .rt s r1 := by
  unfold sRetX
  rw [h]
  rfl
theorem eOp_of {o : D → D → Option D} {f g : En → R D} {r r1 r2 : En} {x y d : D} (h1 : f r = .ok x r1) (h2 : g r1 = .ok y r2) (h3 : o x y = some d) : eOp o f g r = .ok d r2 := by
  unfold eOp
  rw [h1]
  simp only [R.bind]
  rw [h2]
  simp only [h3, liftO]
theorem eUn_of {o : D → Option D} {f : En → R D} {r r1 : En} {x d : D} (h1 : f r = .ok x r1) (h3 : o x = some d) : eUn o f r = .ok d r1 := by
  unfold eUn
  rw [h1]
  simp only [R.bind, h3, liftO]
theorem eCB_of {o : List D → Option D} {fs : En → R (List D)} {r r1 : En} {x : List D} {d : D} (h1 : fs r = .ok x r1) (h3 : o x = some d) : eCB o fs r = .ok d r1 := by
  unfold eCB
  rw [h1]
  simp only [R.bind, h3, liftO]
theorem aNil_of {r : En} : aNil r = .ok [] r := rfl
theorem aCons_of {f : En → R D} {fs : En → R (List D)} {r r1 r2 : En} {d : D} {ds : List D} (h1 : f r = .ok d r1) (h2 : fs r1 = .ok ds r2) : aCons f fs r = .ok (d :: ds) r2 := by
  unfold aCons
  rw [h1]
  simp only [R.bind]
  rw [h2]
theorem tB1_of {f : En → R D} {r r1 : En} {k : Bool} (h : f r = .ok (.bool k) r1) : tB1 f r = .ok k r1 := by
  unfold tB1
  rw [h]
  rfl
theorem tTru_of {f : En → R D} {r r1 : En} {k : Bool} (h : f r = .ok (.bool k) r1) : tTru f r = .ok k r1 := by
  unfold tTru
  rw [h]
  rfl
theorem tNot1_of {f : En → R Bool} {r r1 : En} {k : Bool} (h : f r = .ok k r1) : tNot1 f r = .ok (!k) r1 := by
  unfold tNot1
  rw [h]
  rfl
theorem sIf_t {c : En → R Bool} {f g : En → Fl} {r r1 : En} (h : c r = .ok true r1) : sIf c f g r = f r1 := by
  unfold sIf
  rw [h]
  rfl
theorem sIf_f {c : En → R Bool} {f g : En → Fl} {r r1 : En} (h : c r = .ok false r1) : sIf c f g r = g r1 := by
  unfold sIf
  rw [h]
  rfl
theorem sSeq_rt {f g : En → Fl} {r r1 : En} {s : Sl} (h : f r = .rt s r1) : sSeq f g r = .rt s r1 := by
  unfold sSeq
  rw [h]
theorem xLst_of {fs : En → R (List D)} {r r1 : En} {ds : List D} (h1 : fs r = .ok ds r1) (h : ds.length ≤ 1000000) : xLst fs r = .ok (.ow ds) r1 := by
  unfold xLst
  rw [h1]
  simp only [R.bind, if_pos h]
theorem xOp_of {o : D → D → Option (List D)} {f g : En → R D} {r r1 r2 : En} {x y : D} {ds : List D} (h1 : f r = .ok x r1) (h2 : g r1 = .ok y r2) (h3 : o x y = some ds) : xOp o f g r = .ok (.ow ds) r2 := by
  unfold xOp
  rw [h1]
  simp only [R.bind]
  rw [h2]
  simp only [h3]
theorem eAnd_t {f g : En → R D} {r r1 r2 : En} {d : D} (h1 : f r = .ok (.bool true) r1) (h2 : g r1 = .ok d r2) : eAnd f g r = .ok d r2 := by
  unfold eAnd
  rw [h1]
  exact h2
theorem eOr_t {f g : En → R D} {r r1 : En} (h1 : f r = .ok (.bool true) r1) : eOr f g r = .ok (.bool true) r1 := by
  unfold eOr
  rw [h1]
  rfl
theorem eOr_f {f g : En → R D} {r r1 r2 : En} {d : D} (h1 : f r = .ok (.bool false) r1) (h2 : g r1 = .ok d r2) : eOr f g r = .ok d r2 := by
  unfold eOr
  rw [h1]
  exact h2
theorem tAnd1_f {f g : En → R Bool} {r r1 : En} (h1 : f r = .ok false r1) : tAnd1 f g r = .ok false r1 := by
  unfold tAnd1
  rw [h1]
  rfl
theorem tAnd1_t {f g : En → R Bool} {r r1 r2 : En} {k : Bool} (h1 : f r = .ok true r1) (h2 : g r1 = .ok k r2) : tAnd1 f g r = .ok k r2 := by
  unfold tAnd1
  rw [h1]
  exact h2
theorem tOr1_t {f g : En → R Bool} {r r1 : En} (h1 : f r = .ok true r1) : tOr1 f g r = .ok true r1 := by
  unfold tOr1
  rw [h1]
  rfl
theorem tOr1_f {f g : En → R Bool} {r r1 r2 : En} {k : Bool} (h1 : f r = .ok false r1) (h2 : g r1 = .ok k r2) : tOr1 f g r = .ok k r2 := by
  unfold tOr1
  rw [h1]
  exact h2
theorem iSeq_of {f : En → R D} {r r1 : En} {ds : List D} (h : f r = .ok (.tuple ds) r1) : iSeq f r = .ok ds r1 := by
  unfold iSeq
  rw [h]
  rfl
theorem iSeq_ofL {f : En → R D} {r r1 : En} {ds : List D} (h : f r = .ok (.list ds) r1) : iSeq f r = .ok ds r1 := by
  unfold iSeq
  rw [h]
  rfl
theorem eTup_of {fs : En → R (List D)} {r r1 : En} {ds : List D} (h : fs r = .ok ds r1) (hl : ds.length ≤ 1000000) : eTup fs r = .ok (.tuple ds) r1 := by
  unfold eTup
  rw [h]
  simp only [R.bind, if_pos hl]
theorem forD_two {t : D → En → Option En} {f : En → Fl} {d e : D} {r r1 r2 r3 r4 : En} (h1 : t d r = some r1) (h2 : f r1 = .nx r2) (h3 : t e r2 = some r3) (h4 : f r3 = .nx r4) : forD t f [d, e] r = .nx r4 := by
  unfold forD
  simp only [h1, h2]
  unfold forD
  simp only [h3, h4]
  rfl
theorem xV_of {f : En → R D} {r r1 : En} {d : D} (h : f r = .ok d r1) : xV f r = .ok (.vl d) r1 := by
  unfold xV
  rw [h]
  rfl
theorem yCons_of {f : En → R Sl} {g : En → R (List Sl)} {r r1 r2 : En} {s : Sl} {ss : List Sl} (h1 : f r = .ok s r1) (h2 : g r1 = .ok ss r2) : yCons f g r = .ok (s :: ss) r2 := by
  unfold yCons
  rw [h1]
  simp only [R.bind]
  rw [h2]
theorem yNil_of {r : En} : yNil r = .ok [] r := rfl
theorem sPars_of {is : List Nat} {fs : En → R (List Sl)} {r r1 : En} {ss : List Sl} (h : fs r = .ok ss r1) (h2 : (decide (is.length = ss.length) && is.all fun i => decide (i < r1.length)) = true) : sPars is fs r = .nx (DL.putAll is ss r1) := by
  unfold sPars
  rw [h]
  simp only [rF]
  rw [if_pos h2]
theorem oEq_of {x y : D} {b : Bool} (h : oEqB x y = some b) : oEq x y = some (.bool b) := by
  unfold oEq
  rw [h]
  rfl
theorem oMul_of {i j : Int} (h : mulOk i j = true) : oMul (.int i) (.int j) = some (.int (i * j)) := by
  show (if mulOk i j = true then _ else _) = _
  rw [if_pos h]
theorem mulOk_l {i : Int} (h : i.natAbs < 18446744073709551616) (j : Int) : mulOk i j = true := by
  unfold mulOk
  simp only [Bool.or_eq_true, decide_eq_true_eq]
  exact .inl (.inl h)
theorem mulOk_r {j : Int} (h : j.natAbs < 18446744073709551616) (i : Int) : mulOk i j = true := by
  unfold mulOk
  simp only [Bool.or_eq_true, decide_eq_true_eq]
  exact .inl (.inr h)
theorem oMod_of {i j : Int} (h : 0 < j) : oMod (.int i) (.int j) = some (.int (i % j)) := by
  show (if decide (0 < j) = true then _ else _) = _
  rw [if_pos (decide_eq_true h)]
theorem oDiv_of {i j : Int} (h : 0 < j) (h2 : j < 1073741824) : oDiv (.int i) (.int j) = some (.int (i / j)) := by
  show (if divOk j = true then _ else _) = _
  rw [if_pos (by unfold divOk; simp [h, h2])]
theorem oEq_int (i j : Int) : oEq (.int i) (.int j) = some (.bool (i == j)) := rfl
theorem oNe_int (i j : Int) : oNe (.int i) (.int j) = some (.bool (!(i == j))) := rfl
theorem oEq_str (x y : Str) : oEq (.str x) (.str y) = some (.bool (x == y)) := rfl
theorem oNe_str (x y : Str) : oNe (.str x) (.str y) = some (.bool (!(x == y))) := rfl
end DL
set_option maxHeartbeats 1000000
/-! DLu: more lemmas to evaluate; a drawn sequence (mixed); rolls. -/
namespace DL
open PySem PyProof.Rows L2
theorem sApp_of {i : Nat} {f : En → R D} {r r1 : En} {d : D} {s : Sl} {ds : List D} (h0 : Sl.isM r[i]? = true) (h : f r = .ok d r1) (e : r1[i]? = some s) (hm : s.mut = some ds) (hl : ds.length < 1000000) : sApp i f r = .nx (r1.set i (s.put (ds ++ [d]))) := by
  unfold sApp
  rw [if_pos h0, h]
  simp only [rF, e, hm]
  rw [if_pos hl]
theorem ePop_of {i j : Nat} {g : En → R D} {r r1 : En} {k : Int} {d : D} {s : Sl} {ds : List D} (h0 : Sl.isM r[i]? = true) (h : g r = .ok (.int k) r1) (e : r1[i]? = some s) (hm : s.mut = some ds) (hk : (decide (-1000000 ≤ k) && decide (k ≤ 1000000)) = true) (hj : ixN ds.length k = some j) (hd : ds[j]? = some d) : ePop i g r = .ok d (r1.set i (s.put (ds.eraseIdx j))) := by
  unfold ePop
  rw [if_pos h0, h]
  simp only [R.bind, e, hm]
  rw [if_pos hk]
  simp only [hj, hd]
theorem eLenO_of {i : Nat} {r : En} {s : Sl} {ds : List D} (e : r[i]? = some s) (hm : s.items = some ds) : eLenO i r = .ok (.int ds.length) r := by
  unfold eLenO
  simp only [e, hm]
theorem sAsg_of {f : En → R D} {t : D → En → Option En} {r r1 r2 : En} {d : D} (h : f r = .ok d r1) (h2 : t d r1 = some r2) : sAsg f t r = .nx r2 := by
  unfold sAsg
  rw [h]
  simp only [rF, h2]
/-- a roll in an expression, of a fixed number -/
theorem rollX {ds : List D} {r : En} {i : Nat} {n : Int} {s0 : Sl} {fr : En → Rf} (hf : fr = DL.f__law_roll) (hd : IsDice ds) (e : r[i]? = some s0) (hm : s0.mut = some ds) (h0 : Sl.isM r[i]? = true) (hn : 0 < n) (h2 : n < 1073741824) : ∃ k ds', eF (xCallI i fr (aCons (eC (.int n)) aNil)) r = .ok (.int k) (r.set i (s0.put ds')) ∧ 0 ≤ k ∧ k < n ∧ IsDice ds' := by
  subst hf
  obtain ⟨k, ds', w, a, b, c⟩ := roll_some (n := n) hd hn h2
  exact ⟨k, ds', eF_of (xCallI_of (r1 := r) (ds := [.int n]) (s0 := s0) (xs := ds) h0 (aCons_of eC_of aNil_of) e hm w) rfl, a, b, c⟩
theorem sSeq_assoc (a b c : En → Fl) : sSeq (sSeq a b) c = sSeq a (sSeq b c) := funext fun r => by
  unfold sSeq
  cases a r <;> rfl
theorem nat_of {x : Int} (h : 0 ≤ x) : ∃ n : Nat, x = n := ⟨x.toNat, by omega⟩
end DL
set_option maxHeartbeats 1000000
/-! DLv: the frame of a law: for each cell some dice, some turns with them, then what is told. -/
namespace DL
open PySem PyProof.Rows L2
def noIo : Sl → Bool
  | .io _ => false
  | _ => true
theorem ioOf_app : ∀ (r q : En), r.all noIo = true → ioOf (r ++ q) = ioOf q
  | [], _, _ => rfl
  | s :: r, q, h => by
    rw [List.all_cons, Bool.and_eq_true] at h
    have ih := ioOf_app r q h.2
    cases s <;> first | exact ih | cases h.1
section
variable {fR : En → Rf} {more : En} {K T : Int} {b1 b2 rest : En → Fl}
theorem frame1 (right : ∀ ds, IsDice ds → ∃ ds', fR [.io ds] = .rt (.vl (.bool true)) (some ds') ∧ IsDice ds') (f0 s1 s3 : Sl) (ds : List D) (hd : IsDice ds) :
    ∃ ds', sIf (tNot1 (tTru (eF (xCallI 2 fR aNil)))) (sRet (eC (.bool false))) sNil (f0 :: s1 :: .ow ds :: s3 :: more) = .nx (f0 :: s1 :: .ow ds' :: s3 :: more) ∧ IsDice ds' := by
  obtain ⟨ds', h, k⟩ := right ds hd
  exact ⟨ds', Eq.trans (sIf_f (tNot1_of (k := true) (tTru_of (eF_of (xCallI_of (i := 2) (r := f0 :: s1 :: .ow ds :: s3 :: more) (r1 := f0 :: s1 :: .ow ds :: s3 :: more) (ds := []) (s0 := .ow ds) (xs := ds) rfl rfl rfl rfl h) rfl)))) rfl, k⟩
/-- a turn: two things asked -/
theorem turn2 {fS : En → Rf} (right : ∀ ds, IsDice ds → ∃ ds', fR [.io ds] = .rt (.vl (.bool true)) (some ds') ∧ IsDice ds') (great : ∀ ds, IsDice ds → ∃ ds', fS [.io ds] = .rt (.vl (.bool true)) (some ds') ∧ IsDice ds') (f0 s1 s3 : Sl) (ds : List D) (hd : IsDice ds) :
    ∃ ds', sIf (tOr1 (tNot1 (tTru (eF (xCallI 2 fR aNil)))) (tNot1 (tTru (eF (xCallI 2 fS aNil))))) (sRet (eC (.bool false))) sNil (f0 :: s1 :: .ow ds :: s3 :: more) = .nx (f0 :: s1 :: .ow ds' :: s3 :: more) ∧ IsDice ds' := by
  obtain ⟨d1, h, k⟩ := right ds hd
  obtain ⟨d2, h2, k2⟩ := great d1 k
  refine ⟨d2, Eq.trans (sIf_f (tOr1_f (r1 := f0 :: s1 :: .ow d1 :: s3 :: more) ?_ ?_)) rfl, k2⟩
  · exact tNot1_of (k := true) (tTru_of (eF_of (xCallI_of (i := 2) (r := f0 :: s1 :: .ow ds :: s3 :: more) (r1 := f0 :: s1 :: .ow ds :: s3 :: more) (ds := []) (s0 := .ow ds) (xs := ds) rfl rfl rfl rfl h) rfl))
  · exact tNot1_of (k := true) (tTru_of (eF_of (xCallI_of (i := 2) (r := f0 :: s1 :: .ow d1 :: s3 :: more) (r1 := f0 :: s1 :: .ow d1 :: s3 :: more) (ds := []) (s0 := .ow d1) (xs := d1) rfl rfl rfl rfl h2) rfl))
abbrev TurnOk (b1 : En → Fl) (more : En) : Prop := ∀ (f0 s1 s3 : Sl) (ds : List D), IsDice ds → ∃ ds', b1 (f0 :: s1 :: .ow ds :: s3 :: more) = .nx (f0 :: s1 :: .ow ds' :: s3 :: more) ∧ IsDice ds'
theorem frame2 (hT : 0 ≤ T ∧ T ≤ 1000) (turn : TurnOk b1 more) (ns : List Int) (k : Nat) (s2 s3 : Sl) (h3 : noIo s3 = true) :
    ∃ s2' s3', noIo s2' = true ∧ noIo s3' = true ∧ sSeq (sAsgX (xCallR 0 DL.f__law_dice (aCons (eV 1) aNil)) 2) (sFor (iRg1 (eC (.int T))) (gN 3) b1) (.fr (ns.map .int) :: .vl (.int k) :: s2 :: s3 :: more) = .nx (.fr (ns.map .int) :: .vl (.int k) :: s2' :: s3' :: more) := by
  obtain ⟨ds, h1, hd⟩ := dice_some (ns := ns) (k := k)
  obtain ⟨r', k1, ds', s3', k2, k3, k4⟩ := forD_range (t := gN 3) (f := b1) (lo := 0) (n := T.toNat) (fun i r => ∃ ds s3, IsDice ds ∧ noIo s3 = true ∧ r = .fr (ns.map .int) :: .vl (.int k) :: .ow ds :: s3 :: more)
    (fun i r hi ⟨ds, s3, hd, h3, e⟩ => by
      subst e
      obtain ⟨ds', a1, a2⟩ := turn (.fr (ns.map .int)) (.vl (.int k)) (.vl (.int (0 + (i : Int)))) ds hd
      exact ⟨_, _, rfl, a1, ds', _, a2, rfl, rfl⟩) (r := .fr (ns.map .int) :: .vl (.int k) :: .ow ds :: s3 :: more) ⟨ds, s3, hd, h3, rfl⟩
  subst k4
  refine ⟨.ow ds', s3', rfl, k3, ?_⟩
  exact Eq.trans (sSeq_of (sAsgX_of (xCallR_of (i := 0) (r := .fr (ns.map .int) :: .vl (.int k) :: s2 :: s3 :: more) (r1 := .fr (ns.map .int) :: .vl (.int k) :: s2 :: s3 :: more) (ds := [.int k]) rfl rfl h1))) (Eq.trans (sFor_of (iRg1_of (j := T) (m := T.toNat) (r1 := .fr (ns.map .int) :: .vl (.int k) :: .ow ds :: s3 :: more) rfl (by omega) (by omega) rfl)) k1)
theorem frame3 (hK : 1 ≤ K ∧ K ≤ 1000) (ns : List Int) (r : En) : ∃ m : Nat, iRg1 (eCB cMax2 (aCons (eC (.int 1)) (aCons (eCB cMin2 (aCons (eC (.int K)) (aCons (eLenO 0) (aNil)))) (aNil)))) (.fr (ns.map .int) :: r) = .ok (rngD 1 0 m) (.fr (ns.map .int) :: r) := by
  have hl : eLenO 0 (.fr (ns.map .int) :: r) = .ok (.int (ns.length : Int)) (.fr (ns.map .int) :: r) := by
    simp [eLenO, Sl.items]
  generalize hL : (ns.length : Int) = L at hl
  have e1 : cMin2 [.int K, .int L] = some (.int (if L < K then L else K)) := rfl
  generalize hM : (if L < K then L else K) = M at e1
  have e2 : cMax2 [.int 1, .int M] = some (.int (if M > 1 then M else 1)) := rfl
  generalize hN : (if M > 1 then M else 1) = N at e2
  have b : 1 ≤ N ∧ N ≤ 1000 := by
    subst hN hM
    repeat' split
    all_goals omega
  exact ⟨N.toNat, iRg1_of (eCB_of (aCons_of eC_of (aCons_of (eCB_of (aCons_of eC_of (aCons_of hl aNil_of)) e1) aNil_of)) e2) (by omega) (by omega) rfl⟩
/-- the whole law: rest is what stands behind the loop -/
theorem frameT {n : Nat} (hK : 1 ≤ K ∧ K ≤ 1000) (hT : 0 ≤ T ∧ T ≤ 1000) (turn : TurnOk b1 more) (hb2 : b2 = sSeq (sAsgX (xCallR 0 DL.f__law_dice (aCons (eV 1) aNil)) 2) (sFor (iRg1 (eC (.int T))) (gN 3) b1))
    (hn : n = more.length + 4) (hm : more = List.replicate (n - 4) .no) (hrest : ∀ xs s1 s2 s3, ∃ q, q.all noIo = true ∧ rest (.fr xs :: s1 :: s2 :: s3 :: more) = .rt (.vl (.bool true)) (.fr xs :: s1 :: s2 :: s3 :: q)) (ns : List Int) :
    runF n 1 (sSeq (sFor (iRg1 (eCB cMax2 (aCons (eC (.int 1)) (aCons (eCB cMin2 (aCons (eC (.int K)) (aCons (eLenO 0) (aNil)))) (aNil))))) (gN 1) b2) rest) [.fr (ns.map .int)] = .rt (.vl (.bool true)) none := by
  subst hb2
  have e0 : ([.fr (ns.map .int)] : En) ++ List.replicate (n - 1) .no = .fr (ns.map .int) :: .no :: .no :: .no :: more := by
    have : n - 1 = (n - 4) + 1 + 1 + 1 := by omega
    rw [this, List.replicate_succ, List.replicate_succ, List.replicate_succ, ← hm]
    rfl
  obtain ⟨m, e1⟩ := frame3 hK ns (.no :: .no :: .no :: more)
  obtain ⟨r', k1, s1, s2, s3, k2, k3, k4, k5⟩ := forD_range (t := gN 1) (f := sSeq (sAsgX (xCallR 0 DL.f__law_dice (aCons (eV 1) aNil)) 2) (sFor (iRg1 (eC (.int T))) (gN 3) b1)) (lo := 0) (n := m) (fun i r => ∃ s1 s2 s3, noIo s1 = true ∧ noIo s2 = true ∧ noIo s3 = true ∧ r = .fr (ns.map .int) :: s1 :: s2 :: s3 :: more)
    (fun i r hi ⟨s1, s2, s3, h1, h2, h3, e⟩ => by
      subst e
      obtain ⟨s2', s3', a1, a2, a3⟩ := frame2 (more := more) hT turn ns i s2 s3 h3
      refine ⟨.fr (ns.map .int) :: .vl (.int i) :: s2 :: s3 :: more, _, ?_, a3, _, _, _, rfl, a1, a2, rfl⟩
      simp [gN]) (r := .fr (ns.map .int) :: .no :: .no :: .no :: more) ⟨.no, .no, .no, rfl, rfl, rfl, rfl⟩
  subst k5
  obtain ⟨q, q1, q2⟩ := hrest (ns.map .int) s1 s2 s3
  refine runF_rt rfl (by rw [e0]; exact Eq.trans (sSeq_of (Eq.trans (sFor_of e1) k1)) q2) rfl ?_
  have := ioOf_app (.fr (ns.map .int) :: s1 :: s2 :: s3 :: q) [] (by simp only [List.all_cons, k2, k3, k4, q1]; rfl)
  rw [List.append_nil] at this
  exact this
theorem frame {n : Nat} (hK : 1 ≤ K ∧ K ≤ 1000) (hT : 0 ≤ T ∧ T ≤ 1000) (hb : b1 = sIf (tNot1 (tTru (eF (xCallI 2 fR aNil)))) (sRet (eC (.bool false))) sNil) (hb2 : b2 = sSeq (sAsgX (xCallR 0 DL.f__law_dice (aCons (eV 1) aNil)) 2) (sFor (iRg1 (eC (.int T))) (gN 3) b1)) (right : ∀ ds, IsDice ds → ∃ ds', fR [.io ds] = .rt (.vl (.bool true)) (some ds') ∧ IsDice ds')
    (hn : n = more.length + 4) (hm : more = List.replicate (n - 4) .no) (hrest : ∀ xs s1 s2 s3, ∃ q, q.all noIo = true ∧ rest (.fr xs :: s1 :: s2 :: s3 :: more) = .rt (.vl (.bool true)) (.fr xs :: s1 :: s2 :: s3 :: q)) (ns : List Int) :
    runF n 1 (sSeq (sFor (iRg1 (eCB cMax2 (aCons (eC (.int 1)) (aCons (eCB cMin2 (aCons (eC (.int K)) (aCons (eLenO 0) (aNil)))) (aNil))))) (gN 1) b2) rest) [.fr (ns.map .int)] = .rt (.vl (.bool true)) none :=
  frameT hK hT (by subst hb; exact fun f0 s1 s3 ds hd => frame1 right f0 s1 s3 ds hd) hb2 hn hm hrest ns
end
end DL
set_option maxHeartbeats 4000000
/-! DLz: the law's def at the head. -/
namespace DL
open PySem PyProof.Rows L2
/-- nothing gets out -/
def spN (G : Gm) (fD : En → Rf) : Sp := fun vs H Q _ => spD G fD vs H Q fun _ _ _ => False
theorem FnG.fn {P : Program} {w : World} {K : PySem.W.Frag} {mg : Str → Option Value} {base : Heap} {G : Gm} {k : Nat} {f : Addr} {fd : FuncData} {ps : List Str} {fD : En → Rf} (F : FnG false P w K mg base k f fd ps (spD G fD)) : FnOk P w K mg base L2.CX0 k f fd ps (spN G fD) := by
  refine ⟨fun vs H Q E h => F.len vs H Q _ h, fun A outer s H args us vs Q E hr e0 hb r h => codeAny_mono (F.run A outer s H args us vs Q _ (fun z => nomatch z) hr e0 hb r h) fun res s' q => ?_⟩
  cases res with
  | ok u => cases u <;> exact q
  | error e =>
    obtain ⟨a, B, H', cls, d, _, _, _, _, _, _, _, z⟩ := q
    exact z.elim
/-- the law's own def: from the script to True -/
theorem law_sp {K : PySem.W.Frag} {G : Gm} {fD : En → Rf} {H : Hp} {a : Addr} {ns : List Int} {E : XK} (hK : G.K = K) (hT : G.T = []) (hO : Only H) (hS : SqL K H a (ns.map V.int)) (hl : fD [.fr (ns.map .int)] = .rt (.vl (.bool true)) none) : spN G fD [.ref a] H (fun v _ => v = .bl true) E := by
  subst hK
  refine ⟨G.pd, H, [.fr (ns.map .int)], ⟨Sub.refl H, fun b ps e => ?_, ?_, rfl, fun i s v e1 e2 => ?_, fun i j s t p e1 e2 m1 => ?_⟩, ?_⟩
  · rcases hO b with z | ⟨o, xs, z⟩
    · rw [z] at e; cases e
    · rw [z] at e; cases e
  · show LamX.Tabs G.T H
    rw [hT]
    intro p hp
    cases hp
  · match i, e1, e2 with
    | 0, e1, e2 =>
      cases e1
      cases e2
      exact ⟨a, ns.map V.int, rfl, hS, RpLI.ints ns⟩
  · match i, e1 with
    | 0, e1 => cases e1; cases m1
  · rw [hl]
    intro F' H' v g e
    obtain ⟨x, e1, q⟩ := e.slot 0 _ _ rfl rfl
    cases e1
    cases q
    rfl
abbrev G0 (K : PySem.W.Frag) : Gm := ⟨K, [], fun _ => none, fun _ => none, 0⟩
theorem Cal.of {P : Program} {w : World} {K : PySem.W.Frag} {h : Heap} {mg : Str → Option Value} {base : Heap} {k : Nat} {fD : En → Rf} {x : Str} {params : Arguments} {body : List Stmt} {scope : Scope} {fd : FuncData} {ps : List Str} (X : K.In h) (N : h.Ns mainGlobals mg)
    (F : FunD K x x params body scope [] [] (He.ga K x) fd) (Fn : FnG false P w K mg base k (He.ga K x) fd ps (spD (G0 K) fD)) (c : (He.Fa.glo x).ok K = true)
    (hb : ∀ (kV doc pm : Value) (an : Option Addr) (cdv ct : Value) (us : List Value), us.length = ps.length → bindArgs (PySem.W.fnOf x x params body scope .none kV doc pm an cdv ct) ⟨us, []⟩ = pure (ps.zip us)) : Cal (G0 K) false P w mg base k x ps fD :=
  ⟨_, fd, Fn, He.glo_ok X N c, F.kp, F.bindsN hb⟩
end DL
set_option maxHeartbeats 4000000
/-! DLy: the head over defs that may ask repr of lists, tuples: nothing stands around the law's own call that guards. -/
namespace DL
open PySem PyProof.Rows L2
section
variable {P : Program} {w : World} {K : PySem.W.Frag} {mg mb : Str → Option Value} {k : Nat} {fa a : Addr} {fd : FuncData} {x : Str} {fD : En → Rf} {s : Shared} {vs : List Value} {ns : List Int}
/-- what the law's own call ends with -/
abbrev Tru (s : Shared) : Result → Shared → Prop := fun r s' => r = .ok (.ret (.bool true)) ∧ OldK s.heap s'.heap ∧ s'.os = s.os ∧ AllBare s'.gens
theorem callG_core {H : Hp} (KX : K.In s.heap) (hns : s.heap.Ns mainGlobals mg) (hb : s.heap.Ns builtinsNs mb) (hbb : ∀ x : Str, x ≠ "__name__" → mb x = bootBuiltins x) (hlim : s.heap.NoLimit) (hg : s.gens = #[]) (hr : Room k callerA)
    (F : ∀ base : Heap, K.In base → base.Ns mainGlobals mg → FnG true P w K mg base k fa fd [x] (spD (G0 K) fD)) (bind : ∀ (s : Shared) (u : Value), BindsTo s fd ⟨[u], []⟩ [(x, u)]) (hsp : spD (G0 K) fD [.ref a] H (fun v _ => v = .bl true) fun _ _ _ => False)
    (hO : Only H) (ok : HOk P w H s.heap) (free : ∀ b o, s.heap.get? b = some o → (H b = none ∨ ((∀ es ep, o.data ≠ .dict es ep) ∧ K.lookup b = none))) : codeAny (model P w) callerA (.call (.ref fa) ⟨[.ref a], []⟩) (Tru s) s := by
  have low : ∀ {b : Addr} {m : Str → Option Value}, s.heap.Ns b m → (hidT s.heap H).Ns b m := fun {b m} z => by
    obtain ⟨o, es, ep, e, d, r⟩ := z
    rcases free b o e with q | q
    · exact ⟨o, es, ep, hidT_get e q, d, r⟩
    · exact absurd d (q.1 es ep)
  have KB : K.In (hidT s.heap H) := fun b o e => by
    rcases free b o (KX b o e) with q | q
    · exact hidT_get (KX b o e) q
    · rw [q.2] at e; cases e
  obtain ⟨mc, c1, c2⟩ := hlim
  have env : Env0 P w K mg (hidT s.heap H) callerA [] s H := ⟨rfl, ⟨KB, low hns, ⟨mb, low hb, hbb⟩, ⟨mc, low c1, c2⟩⟩, fun b o e => of_hidT e, Nat.le_of_eq (hidT_size _ _), trivial, fun b z => absurd z List.not_mem_nil, ok, .of_eq hg⟩
  have run := (F _ KB (low hns)).run callerA [] s H ⟨[.ref a], []⟩ [.ref a] [.ref a] _ _ (fun _ => rfl) hr env (bind s (.ref a)) (.cons rfl .nil) hsp
  refine codeAny_mono run fun res s' q => ?_
  cases res with
  | error e =>
    obtain ⟨_, _, _, _, _, _, _, _, _, _, _, _, z⟩ := q
    exact z.elim
  | ok fl =>
    cases fl with
    | ret u =>
      obtain ⟨v, H', os, bare, un, ok', rel, e⟩ := q
      have e : v = .bl true := e
      subst e
      have eu : u = Value.bool true := rel
      subst eu
      refine ⟨rfl, OldK.of_keep fun b o eb => ?_, os, bare⟩
      rcases hO b with z | ⟨ob, xs, z⟩
      · exact un.keep b o eb z (fun z => absurd z List.not_mem_nil) (fun z => absurd z List.not_mem_nil)
      · have e1 := (ok b _ z).1
        rw [eb] at e1
        cases e1
        exact (ok' b _ (un.frzs b _ _ z)).1
    | _ => exact False.elim q
theorem callG (KX : K.In s.heap) (hns : s.heap.Ns mainGlobals mg) (hb : s.heap.Ns builtinsNs mb) (hbb : ∀ x : Str, x ≠ "__name__" → mb x = bootBuiltins x) (hlim : s.heap.NoLimit) (hg : s.gens = #[]) (ha : s.heap.get? a = some { cls := .type "list", data := .seq vs.toArray }) (hi : IntsAre vs ns) (hl : ns.length ≤ sizeLine) (hr : Room k callerA)
    (F : ∀ base : Heap, K.In base → base.Ns mainGlobals mg → FnG true P w K mg base k fa fd [x] (spD (G0 K) fD)) (bind : ∀ (s : Shared) (u : Value), BindsTo s fd ⟨[u], []⟩ [(x, u)]) (hsp : ∀ H : Hp, Only H → SqL K H a (ns.map V.int) → spD (G0 K) fD [.ref a] H (fun v _ => v = .bl true) fun _ _ _ => False) :
    codeAny (model P w) callerA (.call (.ref fa) ⟨[.ref a], []⟩) (Tru s) s := by
  have rv := vals_ints hi
  cases hk : K.lookup a with
  | some o =>
    have e := KX a o hk
    rw [ha] at e
    cases e
    have on : Only fun _ => none := fun _ => .inl rfl
    exact callG_core (H := fun _ => none) KX hns hb hbb hlim hg hr F bind (hsp _ on (.inr ⟨_, vs.toArray, _, hk, rfl, rfl, rfl, by rw [List.size_toArray, hi.length]; exact hl, by simpa using rv⟩)) on (fun b u z => by cases z) fun _ _ _ => .inl rfl
  | none =>
    let o1 : Obj := { cls := .type "list", data := .seq vs.toArray }
    let H1 : Hp := fun b => if b = a then some (.frz o1 (.lst (ns.map V.int))) else none
    have at1 : H1 a = some (.frz o1 (.lst (ns.map V.int))) := if_pos rfl
    have off : ∀ b, b ≠ a → H1 b = none := fun b z => if_neg z
    have on : Only H1 := fun b => by
      by_cases z : b = a
      · subst z; exact .inr ⟨_, _, at1⟩
      · exact .inl (off b z)
    refine callG_core (H := H1) KX hns hb hbb hlim hg hr F bind (hsp _ on (.inl (.inr ⟨o1, at1⟩))) on (fun b u z => ?_) fun b o e => ?_
    · by_cases q : b = a
      · subst q
        rw [at1] at z
        cases z
        exact ⟨ha, by rw [List.length_map]; exact hl, vs, _, rv, ha⟩
      · rw [off b q] at z; cases z
    · by_cases q : b = a
      · subst q
        rw [ha] at e
        cases e
        exact .inr ⟨fun es ep z => (nomatch z), hk⟩
      · exact .inl (off b q)
end
theorem walkG {l : PySem.W.OpenLaw} {n k : Nat} {q : Program} {loose : List Str} {XP : (Str → Option Value) → Heap → Prop} {YP : World → Heap → Prop} {d : DefRec} {x : Str} {fD : En → Rf} (hn : l.most = some n) (hn2 : n ≤ sizeLine) (hdf : d.params.defaults = []) (hr : Room k callerA)
    (hl : ∀ ns : List Int, ns.length ≤ n → fD [.fr (ns.map .int)] = .rt (.vl (.bool true)) none)
    (F : ∀ (w : World) (mg : Str → Option Value) (fa : Addr) (h : Heap), YP w h → h.Ns mainGlobals mg → mg d.name = some (.ref fa) → ∃ (K : PySem.W.Frag) (fd : FuncData), K.In h ∧ (∀ (s : Shared) (u : Value), BindsTo s fd ⟨[u], []⟩ [(x, u)]) ∧
        ∀ base : Heap, K.In base → base.Ns mainGlobals mg → FnG true l.prog w K mg base k fa fd [x] (spD (G0 K) fD)) : PySem.W.WalkO q loose XP YP l.row.toRowW d [] (fun f vs => PySem.call f vs) := by
  refine Att.attach_call hn hdf fun w s0 s1 mg mb fa o pm cd doc a vs ns G Y ho hd hcd hmg hobj hints hlen hg => ?_
  obtain ⟨K, fd, KX, bind, hF⟩ := F w mg fa _ Y G.T.g hmg
  exact callG KX G.T.g G.T.b G.T.builtins G.T.nolimit hg hobj hints (Nat.le_trans hlen hn2) hr hF bind fun H hO hS => law_sp (E := fun _ _ _ => False) rfl rfl hO hS (hl ns hlen)
theorem Cal.ofG {P : Program} {w : World} {K : PySem.W.Frag} {h : Heap} {mg : Str → Option Value} {base : Heap} {k : Nat} {fD : En → Rf} {x : Str} {params : Arguments} {body : List Stmt} {scope : Scope} {fd : FuncData} {ps : List Str} (X : K.In h) (N : h.Ns mainGlobals mg)
    (F : FunD K x x params body scope [] [] (He.ga K x) fd) (Fn : FnG true P w K mg base k (He.ga K x) fd ps (spD (G0 K) fD)) (c : (He.Fa.glo x).ok K = true)
    (hb : ∀ (kV doc pm : Value) (an : Option Addr) (cdv ct : Value) (us : List Value), us.length = ps.length → bindArgs (PySem.W.fnOf x x params body scope .none kV doc pm an cdv ct) ⟨us, []⟩ = pure (ps.zip us)) : Cal (G0 K) true P w mg base k x ps fD :=
  ⟨_, fd, Fn, He.glo_ok X N c, F.kp, F.bindsN hb⟩
end DL
set_option maxHeartbeats 4000000
/-! DLx: constants that are texts, tuples of scalars; the hook that sees them. -/
namespace DL
open PySem PySem.Spec PyProof.Rows L2
abbrev AlC : Type := He.AlD × List Bool
def obsC (fa : List He.Fa) (fn : List He.DefD) (cs : List (Str × List He.Dv)) (K : PySem.W.Frag) : AlC := (He.obsD fa fn K, cs.map fun c => He.tupB K c.1 c.2)
def valC (fn : List He.DefD) (cs : List (Str × List He.Dv)) : AlC := (He.valD fn, cs.map fun _ => true)
def SaysC (fa : List He.Fa) (fn : List He.DefD) (cs : List (Str × List He.Dv)) (K : PySem.W.Frag) : Prop := obsC fa fn cs K = valC fn cs
def obsCG (n : Nat) (fa : List He.Fa) (fn : List He.DefD) (cs : List (Str × List He.Dv)) (g : Addr → Option Obj) : AlC := obsC fa fn cs (He.frG g (He.asD g n))
def hookC (n : Nat) (fa : List He.Fa) (fn : List He.DefD) (cs : List (Str × List He.Dv)) : PySem.W.Hook where
  α := AlC
  obs := fun s => obsCG n fa fn cs s.heap.get?
  val := fun _ => valC fn cs
  says := fun _ h => ∃ K : PySem.W.Frag, K.In h ∧ SaysC fa fn cs K
  of := fun _ _ e => ⟨_, He.frG_in, e⟩
  keeps := fun _ _ _ ⟨K, a, b⟩ k => ⟨K, PySem.W.Frag.In.keeps a k, b⟩
theorem obsCG_eq {n : Nat} {fa : List He.Fa} {fn : List He.DefD} {cs : List (Str × List He.Dv)} {g : Addr → Option Obj} {s : Shared} (h : ∀ a, g a = s.heap.get? a) : obsCG n fa fn cs g = (hookC n fa fn cs).obs s := by
  rw [show g = s.heap.get? from funext h] <;> rfl
section
variable {fa : List He.Fa} {fn : List He.DefD} {cs : List (Str × List He.Dv)} {K : PySem.W.Frag}
theorem SaysC.d (c : SaysC fa fn cs K) : He.SaysD fa fn K := congrArg (fun z : AlC => z.1) c
theorem SaysC.tup (c : SaysC fa fn cs K) (i : Nat) {x : Str} {vs : List He.Dv} (h : cs[i]? = some (x, vs) := by rfl) (H : Hp) : SqT K H (He.ga K x) (vs.map (He.Dv.v K)) := by
  have e : cs.map (fun c => He.tupB K c.1 c.2) = cs.map fun _ => true := congrArg (fun z : AlC => z.2) c
  have e2 : (cs.map fun c => He.tupB K c.1 c.2)[i]? = (cs.map fun _ => true)[i]? := by rw [e]
  rw [List.getElem?_map, List.getElem?_map, h] at e2
  exact He.tupB_ok (Option.some.inj e2) H
end
/-- scalars -/
inductive Sca : V → D → Prop
  | non : Sca .non .none
  | bl (b : Bool) : Sca (.bl b) (.bool b)
  | int (i : Int) : Sca (.int i) (.int i)
  | str (x : Str) : Sca (.str x) (.str x)
inductive Scas : List V → List D → Prop
  | nil : Scas [] []
  | cons {v d vs ds} : Sca v d → Scas vs ds → Scas (v :: vs) (d :: ds)
theorem Sca.rp {G : Gm} {F : Hp} {v : V} {d : D} (h : Sca v d) : Rp G F v d := by
  cases h with
  | non => exact .non
  | bl b => exact .bl b
  | int i => exact .int i
  | str x => exact .str x
theorem Scas.rp {G : Gm} {F : Hp} : ∀ {vs : List V} {ds : List D}, Scas vs ds → RpL G F vs ds
  | _, _, .nil => .nil
  | _, _, .cons h t => .cons h.rp t.rp
section
variable {G : Gm} {W : WX} {X : Cx} {pos : Pos}
theorem de_globS {x z : Str} (h : ∃ t, X.mg x = some (.str z t)) (hg : Gl X x := by rfl) (hdb : (x == ("__debug__" : Str)) = false := by decide) : PE X (.Name x pos) (TEo G W (eC (.str z))) := by
  obtain ⟨t, e⟩ := h
  exact de_glob hg e (v := .str z) ⟨t, rfl⟩ (fun F => .str z) hdb
theorem de_globT {x : Str} {vs : List V} {ds : List D} (h : ∃ a, X.mg x = some (.ref a) ∧ (∀ H, SqT G.K H a vs) ∧ Scas vs ds) (hg : Gl X x := by rfl) (hdb : (x == ("__debug__" : Str)) = false := by decide) : PE X (.Name x pos) (TEo G W (eC (.tuple ds))) := by
  obtain ⟨a, e, hs, q⟩ := h
  exact de_glob hg e (v := .ref a) rfl (fun F => .tup (hs F) q.rp) hdb
end
end DL
set_option maxHeartbeats 4000000
/-! DLw: sum of tuples; x.extend(a list at hand); < and the like of tuples of ints. -/
namespace DL
open PySem PySem.Calls PyProof.Rows L2
section
variable {P : Program} {w : World} {A : Around} {E : Value → Shared → Prop} {s : Shared}
theorem sum_tupR {t : Addr} {its : List Value} {ns : List Int} {Q : Value → Shared → Prop} (hh : A.handled = none) (ht : s.heap.IsTuple t its.toArray) (hi : IntsAre its ns)
    (h : ∀ g tk u, (∀ b o, s.heap.get? b = some o → g.get? b = some o) → Q (.int ns.sum u) { s with heap := g, toks := tk }) : wpAny (model P w) A (call (.builtin "sum") [.ref t]) Q E s := by
  obtain ⟨xs, e⟩ := hi.allInts.items
  have hn : numsOf (intItems xs).toList = ns := by rw [← e]; exact hi.numsOf
  rw [nums_intItems] at hn
  rw [e] at ht
  have hlt : t < s.heap.objs.size := by obtain ⟨_, z, _⟩ := ht; exact Heap.lt_size z
  refine call_sum_walkG (wpAny_pyIter_tuple ht ?_)
  refine ⟨s.heap.objs.size, [s.heap.objs.size, t], [s.heap.objs.size], (intItems xs).size, _, _, numAt xs, rfl, Walks.tuple (A := A.in1) hh _ t (Nat.ne_of_lt hlt) (intItems xs), ⟨⟨_, Heap.get?_push_size _ rfl, rfl, rfl⟩, ht.push _⟩, fun b hb => ?_, fun _ _ => intItems_at, fun g tk u hk => ?_⟩
  · show b < (s.heap.push _).objs.size
    rw [Heap.size_push]
    rcases two_cases hb with z | z
    · rw [z]; exact Nat.lt_succ_self _
    · rw [z]; exact Nat.lt_succ_of_lt hlt
  · have q := h g tk u fun b o z => hk b o (fun hm => by
      rw [List.mem_singleton.mp hm] at z
      exact absurd (Heap.lt_size z) (Nat.lt_irrefl _)) (Heap.get?_push_of_some _ z)
    have sz : (intItems xs).size = xs.size := by simp [intItems]
    rw [sz, preSum_eq, List.take_of_length_le (by simp), hn]
    exact q
end
section
variable {X : Cx} {G : Gm} {W : WX} {F H F1 H1 : Hp} {σ σ1 : L2.St} {r r1 : En} {a b : Expr} {pos : Pos} {f g : En → R D}
def rSumA (K : PySem.W.Frag) : List V → Hp → VK → Prop := fun vs H Q => ∃ (a : Addr) (ns : List Int), vs = [V.ref a] ∧ (SqL K H a (ns.map V.int) ∨ SqT K H a (ns.map V.int)) ∧ Q (.int ns.sum) H
theorem cr_sumA (hc : X.calm = true) : CallR X (.builtin "sum") (rSumA X.K) := by
  intro pins s σ H vs us Q I r h
  obtain ⟨a, ns, rfl, hs | hs, q⟩ := h
  · exact cr_sum hc pins s σ H _ us Q I r ⟨a, ns, rfl, hs, q⟩
  · obtain ⟨its, rv, hl, _⟩ := I.tuple hs
    rw [Vals.ref1 r]
    exact sum_tupR (I.ok.hd hc) hl rv.ints fun g tk u hk => ⟨.int _, H, I.kept hk, ⟨_, rfl⟩, q⟩
def cSumA : List D → Option D
  | [.list ds] => (sumD ds).map .int
  | [.tuple ds] => (sumD ds).map .int
  | _ => none
theorem cd_sumA : CallD G (rSumA G.K) cSumA := fun x d F H v Q h hs q k => by
  unfold cSumA at h
  split at h
  · rename_i ds
    obtain ⟨v, rfl, qa⟩ := one_of q
    obtain ⟨a, xs, rfl, h1, h2⟩ := rp_lst qa
    cases hn : sumD ds with
    | none => rw [hn] at h; cases h
    | some n =>
      rw [hn] at h
      cases h
      obtain ⟨ns, e1, e2⟩ := sumD_is hn
      subst e1
      rw [rp_ints h2] at h1
      refine ⟨a, ns, rfl, .inl (SqL.of (hs _ _ h1)), ?_⟩
      rw [e2]
      exact k _ _ _ (Ext.refl _ _) (.int _)
  · rename_i ds
    obtain ⟨v, rfl, qa⟩ := one_of q
    obtain ⟨a, xs, rfl, h1, h2⟩ := rp_tup qa
    cases hn : sumD ds with
    | none => rw [hn] at h; cases h
    | some n =>
      rw [hn] at h
      cases h
      obtain ⟨ns, e1, e2⟩ := sumD_is hn
      subst e1
      rw [rp_ints h2] at h1
      refine ⟨a, ns, rfl, .inr (hs.t h1), ?_⟩
      rw [e2]
      exact k _ _ _ (Ext.refl _ _) (.int _)
  · cases h
/-! ### x.extend(e), e a list at hand -/
def sExtV (i : Nat) (f : En → R D) : En → Fl := fun r => if Sl.isM r[i]? = true then rF (f r) fun d r1 => match d with
  | .list es => match r1[i]? with
    | some s => match s.mut with
      | some ds => if ds.length + es.length ≤ 1000000 then .nx (r1.set i (s.put (ds ++ es))) else .st
      | none => .st
    | none => .st
  | _ => .st
  else .st
theorem ds_extV {i : Nat} {x : Str} {p apos cpos ppos : Pos} (hK : X.K = G.K) (ha : PE X a (TEo G W f)) (hN : X.N[i]? = some x := by rfl) (hv : Vis X.env.scope x := by first | exact Or.inl rfl | exact Or.inr (Or.inl rfl) | exact Or.inr (Or.inr rfl))
    (hbase : attributeBase (.Name x p) "extend" X.env (eval (.Name x p) X.env) = eval (.Name x p) X.env := by rfl)
    (hfew : ((backTo cpos (starEach [a] X.env)).all (fun x => !x.1) && (backToKw cpos (keywordEach [] X.env)).all (fun x => x.1.isSome)
      && decide ([a].length + ([] : List Keyword).length + (if ([] : List Keyword).isEmpty then 0 else 1) < 30)) = true := by rfl)
    (hline : (apos.endLine == cpos.line) = true := by rfl) (hs : starEach [a] X.env = (false, eval a X.env) :: starEach [] X.env := by rfl) (hplain : (backTo cpos (starEach [] X.env)).any (·.1) = false := by rfl)
    (hsw : swapsWith (.Call (.Attribute (.Name x p) "extend" apos) [a] [] cpos) none ppos.line X.env = pure false := by rfl)
    (hd : (x == ("__debug__" : Str)) = false := by decide) (hcd : (x == ("__classdict__" : Str)) = false := by decide) : PS X (.Expr (.Call (.Attribute (.Name x p) "extend" apos) [a] [] cpos) ppos) (TSo G W (sExtV i f)) :=
  ps_of (ps_expr (pe_bm PySem.F.plainAttrs_list PySem.F.slot_list_extend PySem.F.type_list_extend mt_extend (pe_var hN hv hd hcd) (pa_cons ha pa_nil hs) hbase hfew hline hs hplain) hsw) fun E σ H ⟨F, r, e, q⟩ => by
    unfold sExtV at q
    by_cases hh : Sl.isM r[i]? = true
    case neg => rw [if_neg hh] at q; exact q.elim
    rw [if_pos hh] at q
    obtain ⟨pa, vs0, hv, hp0⟩ := e.isM hh
    refine ⟨_, hv, .inl ⟨rfl, _, SqL.of hp0⟩, F, r, e, Pf.ofR q fun d r1 F1 H1 w _ e1 q1 p1 => ?_⟩
    cases q1 with
    | @lst pb ws es hb hw =>
      simp only at p1
      cases hs : r1[i]? with
      | none => rw [hs] at p1; exact p1.elim
      | some s =>
        rw [hs] at p1
        cases hds : s.mut with
        | none => simp only [hds] at p1; exact p1.elim
        | some ds =>
          simp only [hds] at p1
          split at p1
          · rename_i hz
            obtain ⟨pa, vs, ev, h1, h2, h3, _⟩ := (e1.slot i s _ hs hv).mut hds
            cases ev
            obtain ⟨gg, e2⟩ := e1.write hs hds hv (h3.append hw)
            exact ⟨pa, pb, vs, ws, rfl, rfl, h2, e1.sub _ _ hb, small6 (by rw [h3.len, hw.len]; exact hz), p1 _ _ _ gg e2⟩
          · exact p1.elim
    | _ => exact p1.elim
/-! ### a < b and the like -/
def rKd (K : PySem.W.Frag) (o : D → D → Bool) : R2 := fun x y H Q => ∃ d e, Dp K H x d ∧ Dp K H y e ∧ okK [d, e] = true ∧ Q (.bl (o d e)) H
theorem kd_of {d e : D} (h : okK [d, e] = true) : Kd d e ∧ Kd e d := ⟨okK_kd h (by simp) (by simp), okK_kd h (by simp) (by simp)⟩
theorem kd_room {A : Around} {d e : D} (h : okK [d, e] = true) (hu : A.units + 64 < cLine) : A.units + min d.depth e.depth < cLine := by
  have a := (okK_each h (show d ∈ [d, e] by simp)).1
  have := Nat.min_le_left d.depth e.depth
  omega
theorem op_kd {op : CmpOp} {o : D → D → Bool} (hu : X.A.units + 64 < cLine) (hr : ∀ (d e : D) (A : Around) (s : Shared) (a b : Value) (as bs : List Addr), Reads s.heap a d as → Reads s.heap b e bs → okK [d, e] = true → A.units + min d.depth e.depth < cLine → ∀ (P : Program) (w : World) (E : Value → Shared → Prop) (Q : Value → Shared → Prop), Q (.bool (o d e)) s → wpAny (model P w) A (compareOp op a b) Q E s) :
    OpR X (compareOp op) (rKd X.K o) := by
  intro pins s σ H x y v u Q I rx ry h
  obtain ⟨d, e, h1, h2, ok, q⟩ := h
  obtain ⟨as, r1⟩ := Dp.reads I d x v h1 rx
  obtain ⟨bs, r2⟩ := Dp.reads I e y u h2 ry
  exact hr d e X.A s v u as bs r1 r2 ok (kd_room ok hu) X.prog X.w X.xe _ ⟨.bl _, H, I, rfl, q⟩
theorem op_kLt (hu : X.A.units + 64 < cLine) : OpR X (compareOp .Lt) (rKd X.K ltD) := op_kd hu fun d e A s a b as bs r1 r2 ok hm P w E Q q => by
  have k := (kd_of ok).1
  exact PySem.W.rcLt_alike d e A s a b as bs r1 r2 k.alike (okK_each ok (by simp)).2.2 hm P w E Q (by rw [k.lt]; exact q)
theorem op_kGt (hu : X.A.units + 64 < cLine) : OpR X (compareOp .Gt) (rKd X.K fun d e => ltD e d) := op_kd hu fun d e A s a b as bs r1 r2 ok hm P w E Q q => by
  have k := kd_of ok
  exact PySem.W.rcGt_alike d e A s a b as bs r1 r2 k.1.alike (okK_each ok (by simp)).2.2 hm P w E Q (by rw [k.2.lt]; exact q)
theorem op_kLe (hu : X.A.units + 64 < cLine) : OpR X (compareOp .LtE) (rKd X.K fun d e => !ltD e d) := op_kd hu fun d e A s a b as bs r1 r2 ok hm P w E Q q => by
  have k := kd_of ok
  exact PySem.W.rcLe_alike d e A s a b as bs r1 r2 k.1.alike (okK_each ok (by simp)).2.2 hm P w E Q (by rw [k.2.lt]; exact q)
theorem op_kGe (hu : X.A.units + 64 < cLine) : OpR X (compareOp .GtE) (rKd X.K fun d e => !ltD d e) := op_kd hu fun d e A s a b as bs r1 r2 ok hm P w E Q q => by
  have k := kd_of ok
  exact PySem.W.rcGe_alike d e A s a b as bs r1 r2 k.1.alike (okK_each ok (by simp)).2.2 hm P w E Q (by rw [k.1.lt]; exact q)
def cmpK (p : Int → Int → Bool) (o : D → D → Bool) (x y : D) : Option D := match x, y with
  | .int i, .int j => some (.bool (p i j))
  | x, y => if okK [x, y] = true then some (.bool (o x y)) else none
theorem od_cmpK {p : Int → Int → Bool} {o : D → D → Bool} : OpD G (fun x y H Q => rI0 (fun i j => .bl (p i j)) x y H Q ∨ rKd G.K o x y H Q) (cmpK p o) := fun x y d F H v w Q h hs q1 q2 k => by
  unfold cmpK at h
  split at h
  · cases h
    rw [rp_int q1, rp_int q2]
    exact .inl ⟨_, _, rfl, rfl, k _ _ _ (Ext.refl _ _) (.bl _)⟩
  · split at h
    · rename_i ok
      cases h
      exact .inr ⟨x, y, q1.dp hs (okK_each ok (by simp)).2.1, q2.dp hs (okK_each ok (by simp)).2.1, ok, k _ _ _ (Ext.refl _ _) (.bl _)⟩
    · cases h
def oLtK : D → D → Option D := cmpK (fun i j => decide (i < j)) ltD
def oLeK : D → D → Option D := cmpK (fun i j => decide (i ≤ j)) fun d e => !ltD e d
def oGtK : D → D → Option D := cmpK (fun i j => decide (j < i)) fun d e => ltD e d
def oGeK : D → D → Option D := cmpK (fun i j => decide (j ≤ i)) fun d e => !ltD d e
theorem op_ltK (hu : X.A.units + 64 < cLine) : OpR X (compareOp .Lt) (fun x y H Q => rI0 (fun i j => .bl (decide (i < j))) x y H Q ∨ rKd X.K ltD x y H Q) := op_lt.or (op_kLt hu)
theorem op_leK (hu : X.A.units + 64 < cLine) : OpR X (compareOp .LtE) (fun x y H Q => rI0 (fun i j => .bl (decide (i ≤ j))) x y H Q ∨ rKd X.K (fun d e => !ltD e d) x y H Q) := op_le.or (op_kLe hu)
theorem op_gtK (hu : X.A.units + 64 < cLine) : OpR X (compareOp .Gt) (fun x y H Q => rI0 (fun i j => .bl (decide (j < i))) x y H Q ∨ rKd X.K (fun d e => ltD e d) x y H Q) := op_gt.or (op_kGt hu)
theorem op_geK (hu : X.A.units + 64 < cLine) : OpR X (compareOp .GtE) (fun x y H Q => rI0 (fun i j => .bl (decide (j ≤ i))) x y H Q ∨ rKd X.K (fun d e => !ltD d e) x y H Q) := op_ge.or (op_kGe hu)
end
end DL
set_option maxHeartbeats 4000000
/-! DLaa: xs.count(x), xs.index(x) of lists of ints. -/
namespace DL
open PySem PySem.Calls PyProof.Rows L2
def cntI (k : Int) : List D → Option Nat
  | [] => some 0
  | .int i :: r => (cntI k r).map fun n => if i = k then n + 1 else n
  | _ :: _ => none
theorem cntI_is {k : Int} : ∀ {ds : List D} {n : Nat}, cntI k ds = some n → ∃ ns : List Int, ds = ns.map PyData.int ∧ n = ns.count k
  | [], n, h => by cases h; exact ⟨[], rfl, rfl⟩
  | d :: r, n, h => by
    cases d with
    | int i =>
      unfold cntI at h
      cases hr : cntI k r with
      | none => rw [hr] at h; cases h
      | some m =>
        rw [hr] at h
        obtain ⟨ns, e1, e2⟩ := cntI_is hr
        refine ⟨i :: ns, by rw [e1]; rfl, ?_⟩
        have h : (if i = k then m + 1 else m) = n := Option.some.inj h
        rw [← h, e2, List.count_cons]
        by_cases q : i = k
        · simp [q]
        · simp [q]
    | _ => cases h
def idxI (k : Int) : List D → Nat → Option Nat
  | [], _ => none
  | .int i :: r, j => if i = k then (if r.all isI = true then some j else none) else idxI k r (j + 1)
  | _ :: _, _ => none
theorem idxI_is {k : Int} : ∀ {ds : List D} {j0 j : Nat}, idxI k ds j0 = some j → ∃ ns : List Int, ds = ns.map PyData.int ∧ j0 ≤ j ∧ ns[j - j0]? = some k ∧ ∀ m, m < j - j0 → ∀ z, ns[m]? = some z → z ≠ k
  | [], _, _, h => by cases h
  | d :: r, j0, j, h => by
    cases d with
    | int i =>
      unfold idxI at h
      by_cases q : i = k
      · rw [if_pos q] at h
        split at h
        · rename_i ha
          cases h
          obtain ⟨ns, e⟩ := allI_is ha
          exact ⟨i :: ns, by rw [e]; rfl, Nat.le_refl _, by simp [q], fun m hm => absurd hm (by omega)⟩
        · cases h
      · rw [if_neg q] at h
        obtain ⟨ns, e1, e2, e3, e4⟩ := idxI_is h
        refine ⟨i :: ns, by rw [e1]; rfl, by omega, ?_, fun m hm z hz => ?_⟩
        · rw [show j - j0 = (j - (j0 + 1)) + 1 by omega, List.getElem?_cons_succ]; exact e3
        · cases m with
          | zero => simp at hz; rw [← hz]; exact q
          | succ m => exact e4 m (by omega) z (by simpa using hz)
    | _ => cases h
section
variable {X : Cx} {G : Gm} {W : WX} {F H F1 H1 : Hp} {σ σ1 : L2.St} {r r1 : En} {a o : Expr} {pos : Pos} {f g : En → R D}
def eMt (m : List D → D → Option D) (f g : En → R D) : En → R D := fun r => (f r).bind fun x r1 => match x with
  | .list ds => (g r1).bind fun y r2 => liftO (m ds y) r2
  | _ => .st
def mCnt (ds : List D) (y : D) : Option D := match y with
  | .int k => (cntI k ds).map fun n => .int (n : Nat)
  | _ => none
def mIdx (ds : List D) (y : D) : Option D := match y with
  | .int k => (idxI k ds 0).map fun n => .int (n : Nat)
  | _ => none
/-- a list's method of one argument, by data -/
def MtD (G : Gm) (rr : V → List V → Hp → VK → Prop) (m : List D → D → Option D) : Prop := ∀ (ds : List D) (y d : D) (F H : Hp) (p : Addr) (xs : List V) (w : V) (Q : VK), m ds y = some d → Sub F H → F p = some (.lst xs) → RpL G F xs ds → Rp G F w y → (∀ F' H' z, Ext F H F' H' → Rp G F' z d → Q z H') → rr (.ref p) [w] H Q
theorem eMt_of {rr : V → List V → Hp → VK → Prop} {m : List D → D → Option D} (hK : X.K = G.K) (hd : MtD G rr m) (ha : PE X o (TEo G W f)) (σ : L2.St) (H : Hp) (Q : VK) : TEo G W (eMt m f g) σ H Q → tBM X.K "list" rr (TEo G W f) (TAo G W (aCons g aNil)) σ H Q := fun ⟨F, r0, e, p⟩ =>
  ⟨F, r0, e, (Pt.bind (rel1 := rV G) p).mono fun v H1 ⟨x, F1, r1, _, e1, q1, p1⟩ => by
    cases q1 with
    | @lst pb xs ds hb hw =>
      refine ⟨.inl ⟨rfl, _, by rw [hK]; exact SqL.of (e1.sub _ _ hb)⟩, F1, r1, e1, Pt.one (Pt.mono (Pt.bind (rel1 := rV G) p1) fun w H2 ⟨y, F2, r2, s2, e2, q2, p2⟩ => ?_)⟩
      obtain ⟨d, hd', k⟩ := liftO_here e2 p2
      exact hd ds y d F2 H2 pb xs w Q hd' e2.sub (s2 _ _ hb) (hw.mono s2) q2 k
    | _ => exact p1.elim⟩
theorem md_cnt : MtD G (rCntI G.K) mCnt := fun ds y d F H p xs w Q h hs h1 h2 h3 k => by
  unfold mCnt at h
  split at h
  · rename_i i
    cases hn : cntI i ds with
    | none => rw [hn] at h; cases h
    | some n =>
      rw [hn] at h
      cases h
      obtain ⟨ns, e1, e2⟩ := cntI_is hn
      subst e1
      rw [rp_ints h2] at h1
      rw [rp_int h3]
      exact ⟨p, ns, i, rfl, rfl, SqL.of (hs _ _ h1), by rw [e2] at k; exact k _ _ _ (Ext.refl _ _) (.int _)⟩
  · cases h
theorem md_idx : MtD G (rIndex G.K) mIdx := fun ds y d F H p xs w Q h hs h1 h2 h3 k => by
  unfold mIdx at h
  split at h
  · rename_i i
    cases hn : idxI i ds 0 with
    | none => rw [hn] at h; cases h
    | some j =>
      rw [hn] at h
      cases h
      obtain ⟨ns, e1, _, e3, e4⟩ := idxI_is hn
      subst e1
      rw [rp_ints h2] at h1
      rw [rp_int h3]
      have fl : (ns.map V.int).all flatV = true := by
        clear h1 h2 e3 e4 hn
        induction ns with
        | nil => rfl
        | cons x r ih => exact ih
      refine ⟨p, ns.map V.int, .int i, j, .int i, rfl, rfl, SqL.of (hs _ _ h1), rfl, fl, ?_, ?_, fun m z hm hz => ?_, k _ _ _ (Ext.refl _ _) (.int _)⟩
      · rw [List.getElem?_map, show ns[j]? = some i from e3]; rfl
      · simp [eqV]
      · rw [List.getElem?_map] at hz
        cases hq : ns[m]? with
        | none => rw [hq] at hz; cases hz
        | some u =>
          rw [hq] at hz
          cases hz
          have := e4 m (by omega) u hq
          simpa [eqV] using this
  · cases h
theorem de_mt {name : Str} {id : String} {rr : V → List V → Hp → VK → Prop} {m : List D → D → Option D} {apos cpos : Pos} (hK : X.K = G.K) (hm : MtR X id rr) (hd : MtD G rr m) (slot : Slot "list" name id) (hty : typeOf (.builtin id) = pure (.type "method_descriptor")) (ho : PE X o (TEo G W f)) (ha : PE X a (TEo G W g))
    (hbase : attributeBase o name X.env (eval o X.env) = eval o X.env := by rfl)
    (hfew : ((backTo cpos (starEach [a] X.env)).all (fun x => !x.1) && (backToKw cpos (keywordEach [] X.env)).all (fun x => x.1.isSome)
      && decide ([a].length + ([] : List Keyword).length + (if ([] : List Keyword).isEmpty then 0 else 1) < 30)) = true := by rfl)
    (hline : (apos.endLine == cpos.line) = true := by rfl) (hs : starEach [a] X.env = (false, eval a X.env) :: starEach [] X.env := by rfl) (hplain : (backTo cpos (starEach [] X.env)).any (·.1) = false := by rfl) :
    PE X (.Call (.Attribute o name apos) [a] [] cpos) (TEo G W (eMt m f g)) :=
  pe_of (pe_bm PySem.F.plainAttrs_list slot hty hm ho (da_cons ha da_nil hs) hbase hfew hline hs hplain) (eMt_of hK hd ho)
theorem de_cnt {apos cpos : Pos} (hK : X.K = G.K) (ho : PE X o (TEo G W f)) (ha : PE X a (TEo G W g))
    (hbase : attributeBase o "count" X.env (eval o X.env) = eval o X.env := by rfl)
    (hfew : ((backTo cpos (starEach [a] X.env)).all (fun x => !x.1) && (backToKw cpos (keywordEach [] X.env)).all (fun x => x.1.isSome)
      && decide ([a].length + ([] : List Keyword).length + (if ([] : List Keyword).isEmpty then 0 else 1) < 30)) = true := by rfl)
    (hline : (apos.endLine == cpos.line) = true := by rfl) (hs : starEach [a] X.env = (false, eval a X.env) :: starEach [] X.env := by rfl) (hplain : (backTo cpos (starEach [] X.env)).any (·.1) = false := by rfl) :
    PE X (.Call (.Attribute o "count" apos) [a] [] cpos) (TEo G W (eMt mCnt f g)) := de_mt hK (by rw [← hK]; exact mt_lcount) md_cnt PySem.F.slot_list_count PySem.F.type_list_count ho ha hbase hfew hline hs hplain
theorem de_idx {apos cpos : Pos} (hK : X.K = G.K) (ho : PE X o (TEo G W f)) (ha : PE X a (TEo G W g))
    (hbase : attributeBase o "index" X.env (eval o X.env) = eval o X.env := by rfl)
    (hfew : ((backTo cpos (starEach [a] X.env)).all (fun x => !x.1) && (backToKw cpos (keywordEach [] X.env)).all (fun x => x.1.isSome)
      && decide ([a].length + ([] : List Keyword).length + (if ([] : List Keyword).isEmpty then 0 else 1) < 30)) = true := by rfl)
    (hline : (apos.endLine == cpos.line) = true := by rfl) (hs : starEach [a] X.env = (false, eval a X.env) :: starEach [] X.env := by rfl) (hplain : (backTo cpos (starEach [] X.env)).any (·.1) = false := by rfl) :
    PE X (.Call (.Attribute o "index" apos) [a] [] cpos) (TEo G W (eMt mIdx f g)) := de_mt hK (by rw [← hK]; exact mt_index) md_idx PySem.F.slot_list_index PySem.F.type_list_index ho ha hbase hfew hline hs hplain
end
end DL
set_option maxHeartbeats 400000
/-! DLbb: tuples of ints, sorted ints: plain words. -/
namespace DL
open PySem L2
abbrev tI (ns : List Int) : D := .tuple (ns.map .int)
theorem lay_ints : ∀ ns : List Int, PyData.canLayAll0 (ns.map PyData.int) = true ∧ PyData.depthAll (ns.map PyData.int) = 0
  | [] => by simp [PyData.canLayAll0, PyData.depthAll]
  | n :: ns => by
    obtain ⟨a, b⟩ := lay_ints ns
    simp [PyData.canLayAll0, PyData.canLay0, PyData.depthAll, PyData.depth, a, b]
theorem shaped_tI (ns : List Int) : SeqAt.shaped (tI ns) = true := by
  obtain ⟨a, b⟩ := lay_ints ns
  simp [SeqAt.shaped, PyData.canLay0, PyData.depth, a, b]
theorem shaped_lI (ns : List Int) : SeqAt.shaped (.list (ns.map .int)) = true := by
  obtain ⟨a, b⟩ := lay_ints ns
  simp [SeqAt.shaped, PyData.canLay0, PyData.depth, a, b]
theorem eqv_ints : ∀ a b : List Int, PyData.eqvAll (a.map PyData.int) (b.map PyData.int) = decide (a = b)
  | [], [] => by simp [PyData.eqvAll]
  | [], _ :: _ => by simp [PyData.eqvAll]
  | _ :: _, [] => by simp [PyData.eqvAll]
  | x :: xs, y :: ys => by
    have ih := eqv_ints xs ys
    simp only [List.map_cons, PyData.eqvAll, PyData.eqv, ih]
    by_cases h : x = y
    · subst h; simp
    · simp [h]
theorem eqv_tI (a b : List Int) : PyData.eqv (tI a) (tI b) = decide (a = b) := by
  show PyData.eqv (.tuple (a.map .int)) (.tuple (b.map .int)) = _
  rw [PyData.eqv, eqv_ints]
theorem oEq_tI (a b : List Int) : oEq (tI a) (tI b) = some (.bool (decide (a = b))) := by
  refine oEq_of ?_
  show (if _ then _ else _) = _
  rw [if_pos (by rw [shaped_tI, shaped_tI]; rfl), eqv_tI]
theorem oNe_of {x y : D} {b : Bool} (h : oEqB x y = some b) : oNe x y = some (.bool (!b)) := by
  unfold oNe
  rw [h]
  rfl
theorem oNe_tI (a b : List Int) : oNe (tI a) (tI b) = some (.bool (!decide (a = b))) := by
  refine oNe_of ?_
  show (if _ then _ else _) = _
  rw [if_pos (by rw [shaped_tI, shaped_tI]; rfl), eqv_tI]
theorem oEq_lI (a b : List Int) : oEq (.list (a.map .int)) (.list (b.map .int)) = some (.bool (decide (a = b))) := by
  refine oEq_of ?_
  show (if _ then _ else _) = _
  rw [if_pos (by rw [shaped_lI, shaped_lI]; rfl), PyData.eqv, eqv_ints]
theorem oNe_lI (a b : List Int) : oNe (.list (a.map .int)) (.list (b.map .int)) = some (.bool (!decide (a = b))) := by
  refine oNe_of ?_
  show (if _ then _ else _) = _
  rw [if_pos (by rw [shaped_lI, shaped_lI]; rfl), PyData.eqv, eqv_ints]
theorem lay_tIs : ∀ ls : List (List Int), PyData.canLayAll0 (ls.map tI) = true ∧ PyData.depthAll (ls.map tI) ≤ 1
  | [] => by simp [PyData.canLayAll0, PyData.depthAll]
  | l :: ls => by
    obtain ⟨a, b⟩ := lay_tIs ls
    obtain ⟨c, d⟩ := lay_ints l
    refine ⟨by simp [PyData.canLayAll0, PyData.canLay0, a, c], ?_⟩
    simp only [List.map_cons, PyData.depthAll, PyData.depth, d]
    omega
theorem shaped_tIs (ls : List (List Int)) : SeqAt.shaped (.tuple (ls.map tI)) = true := by
  obtain ⟨a, b⟩ := lay_tIs ls
  unfold SeqAt.shaped
  rw [Bool.and_eq_true]
  refine ⟨by simp only [PyData.canLay0, a], decide_eq_true ?_⟩
  rw [PyData.depth]
  omega
theorem shaped_lIs (ls : List (List Int)) : SeqAt.shaped (.list (ls.map tI)) = true := by
  obtain ⟨a, b⟩ := lay_tIs ls
  unfold SeqAt.shaped
  rw [Bool.and_eq_true]
  refine ⟨by simp only [PyData.canLay0, a], decide_eq_true ?_⟩
  rw [PyData.depth]
  omega
theorem eqv_tIs : ∀ a b : List (List Int), PyData.eqvAll (a.map tI) (b.map tI) = decide (a = b)
  | [], [] => by simp [PyData.eqvAll]
  | [], _ :: _ => by simp [PyData.eqvAll]
  | _ :: _, [] => by simp [PyData.eqvAll]
  | x :: xs, y :: ys => by
    have ih := eqv_tIs xs ys
    have e := eqv_tI x y
    simp only [List.map_cons, PyData.eqvAll, ih]
    rw [e]
    by_cases h : x = y
    · subst h; simp
    · simp [h]
theorem oNe_tIs (a b : List (List Int)) : oNe (.tuple (a.map tI)) (.tuple (b.map tI)) = some (.bool (!decide (a = b))) := by
  refine oNe_of ?_
  show (if _ then _ else _) = _
  rw [if_pos (by rw [shaped_tIs, shaped_tIs]; rfl), PyData.eqv, eqv_tIs]
theorem oEq_tIs (a b : List (List Int)) : oEq (.tuple (a.map tI)) (.tuple (b.map tI)) = some (.bool (decide (a = b))) := by
  refine oEq_of ?_
  show (if _ then _ else _) = _
  rw [if_pos (by rw [shaped_tIs, shaped_tIs]; rfl), PyData.eqv, eqv_tIs]
theorem oEq_lIs (a b : List (List Int)) : oEq (.list (a.map tI)) (.list (b.map tI)) = some (.bool (decide (a = b))) := by
  refine oEq_of ?_
  show (if _ then _ else _) = _
  rw [if_pos (by rw [shaped_lIs, shaped_lIs]; rfl), PyData.eqv, eqv_tIs]
/-! ### repr of tuples of ints -/
theorem repFs_ints (n : Nat) : ∀ ns : List Int, (∀ x ∈ ns, x.natAbs < 2 ^ 200) → repFs n (ns.map PyData.int) = true
  | [], _ => by simp [repFs]
  | x :: xs, h => by
    have hx := h x List.mem_cons_self
    have e : repF n (PyData.int x) = true := by cases n <;> simpa [repF] using hx
    simp only [List.map_cons, repFs, e, repFs_ints n xs fun y hy => h y (List.mem_cons_of_mem _ hy), Bool.and_self]
theorem bulk_ints : ∀ ns : List Int, PyData.bulkAll (ns.map PyData.int) ≤ 4 * ns.length
  | [] => by simp [PyData.bulkAll]
  | x :: xs => by
    have := bulk_ints xs
    simp only [List.map_cons, PyData.bulkAll, PyData.bulk, List.length_cons]
    omega
theorem repOk_tI {ns : List Int} (h : ∀ x ∈ ns, x.natAbs < 2 ^ 200) (hl : ns.length ≤ 900) : repOk (tI ns) = true := by
  unfold repOk
  have b := bulk_ints ns
  have e : repF 9 (tI ns) = true := by
    show repF (8 + 1) (.tuple (ns.map .int)) = true
    simp only [repF, repFs_ints 8 ns h]
  rw [e, Bool.true_and]
  refine decide_eq_true ?_
  simp only [PyData.bulk]
  omega
theorem repOk_i {x : Int} (h : x.natAbs < 2 ^ 200) : repOk (.int x) = true := by
  unfold repOk
  have e : repF 9 (.int x) = true := by simpa [repF] using h
  rw [e, Bool.true_and]
  refine decide_eq_true ?_
  simp only [PyData.bulk]
  omega
theorem samFs_ints : ∀ ns : List Int, samFs (ns.map PyData.int) (ns.map PyData.int) = true
  | [] => by simp [samFs]
  | x :: xs => by
    simp only [List.map_cons, samFs, samF, samFs_ints xs, Bool.and_true, decide_true]
theorem eRep2_of {bb : Bool} {f g : En → R D} {r r1 r2 : En} {x : D} (hf : f r = .ok x r1) (hx : repOk x = true) (hg : g r1 = .ok x r2) (hs : samF x x = true) : eRep2 bb f g r = .ok (.bool bb) r2 := by
  unfold eRep2
  rw [hf]
  simp only [R.bind]
  rw [if_pos hx, hg]
  simp only []
  rw [if_pos hs]
theorem samF_tI (ns : List Int) : samF (tI ns) (tI ns) = true := by
  show samF (.tuple (ns.map .int)) (.tuple (ns.map .int)) = true
  simp only [samF, samFs_ints]
/-! ### sorted ints -/
def insI (x : Int) : List Int → List Int
  | [] => [x]
  | y :: ys => if x ≤ y then x :: y :: ys else y :: insI x ys
def isrt : List Int → List Int
  | [] => []
  | x :: xs => insI x (isrt xs)
theorem insI_perm (x : Int) : ∀ ys : List Int, (insI x ys).Perm (x :: ys)
  | [] => List.Perm.refl _
  | y :: ys => by
    unfold insI
    split
    · exact List.Perm.refl _
    · exact ((insI_perm x ys).cons y).trans (List.Perm.swap x y ys)
theorem isrt_perm : ∀ xs : List Int, (isrt xs).Perm xs
  | [] => List.Perm.refl _
  | x :: xs => (insI_perm x (isrt xs)).trans ((isrt_perm xs).cons x)
theorem insI_srt (x : Int) : ∀ ys : List Int, ys.Pairwise (fun a b => a ≤ b) → (insI x ys).Pairwise fun a b => a ≤ b
  | [], _ => List.pairwise_singleton _ _
  | y :: ys, h => by
    unfold insI
    obtain ⟨h1, h2⟩ := List.pairwise_cons.mp h
    split
    · rename_i hx
      refine List.pairwise_cons.mpr ⟨fun z hz => ?_, h⟩
      rcases List.mem_cons.mp hz with e | hz
      · subst e; exact hx
      · exact Int.le_trans hx (h1 z hz)
    · rename_i hx
      refine List.pairwise_cons.mpr ⟨fun z hz => ?_, insI_srt x ys h2⟩
      rcases List.mem_cons.mp ((insI_perm x ys).mem_iff.mp hz) with e | hz
      · subst e; omega
      · exact h1 z hz
theorem isrt_srt : ∀ xs : List Int, (isrt xs).Pairwise fun a b => a ≤ b
  | [] => List.Pairwise.nil
  | x :: xs => insI_srt x _ (isrt_srt xs)
theorem srt_uniq : ∀ {xs ys : List Int}, xs.Perm ys → xs.Pairwise (fun a b => a ≤ b) → ys.Pairwise (fun a b => a ≤ b) → xs = ys
  | [], ys, h, _, _ => (List.perm_nil.mp h.symm).symm
  | x :: xs, [], h, _, _ => by have := h.length_eq; simp at this
  | x :: xs, y :: ys, h, hx, hy => by
    obtain ⟨x1, x2⟩ := List.pairwise_cons.mp hx
    obtain ⟨y1, y2⟩ := List.pairwise_cons.mp hy
    have e : x = y := by
      have a : x ≤ y := by
        rcases List.mem_cons.mp (h.mem_iff.mpr List.mem_cons_self : y ∈ x :: xs) with e | m
        · omega
        · exact x1 y m
      have b : y ≤ x := by
        rcases List.mem_cons.mp (h.mem_iff.mp List.mem_cons_self : x ∈ y :: ys) with e | m
        · omega
        · exact y1 x m
      omega
    subst e
    rw [srt_uniq ((List.perm_cons x).mp h) x2 y2]
theorem isrt_of {xs : List Int} (h : xs.Pairwise (fun a b => a ≤ b)) : isrt xs = xs := srt_uniq (isrt_perm xs) (isrt_srt xs) h
theorem isrt_eq {xs ys : List Int} (h : xs.Perm ys) : isrt xs = isrt ys := srt_uniq ((isrt_perm xs).trans (h.trans (isrt_perm ys).symm)) (isrt_srt xs) (isrt_srt ys)
theorem srt_ints (ps : List Int) : ∃ qs : List Int, srtD (ps.map .int) = qs.map .int ∧ qs.Perm ps ∧ qs.Pairwise (fun a b => a ≤ b) := by
  have pm := srtD_perm (ps.map PyData.int)
  have ai : ∀ d ∈ ps.map PyData.int, isI d = true := fun d hd => by
    obtain ⟨i, _, rfl⟩ := List.mem_map.mp hd
    rfl
  have al : (srtD (ps.map PyData.int)).all isI = true := List.all_eq_true.mpr fun d hd => ai d (pm.mem_iff.mp hd)
  obtain ⟨qs, e⟩ := allI_is al
  have kd : ∀ a b, a ∈ ps.map PyData.int → b ∈ ps.map PyData.int → Kd a b := fun a b ha hb => by
    obtain ⟨i, rfl⟩ := isI_is (ai a ha)
    obtain ⟨j, rfl⟩ := isI_is (ai b hb)
    exact .i i j
  have sr : (srtD (ps.map PyData.int)).Pairwise (fun a b => leD a b = true) := ms_srt (le := leD) (p := fun z => z ∈ ps.map PyData.int) (fun a b c ha hb hc => le_tr (kd a b ha hb) (kd b c hb hc)) (fun a b ha hb => le_to (kd a b ha hb)) _ _ (Nat.le_refl _) fun z hz => hz
  refine ⟨qs, e, ?_, ?_⟩
  · rw [e] at pm
    have := pm.map (fun d : D => match d with | .int i => i | _ => (0 : Int))
    rwa [List.map_map, List.map_map, show ((fun d : D => match d with | .int i => i | _ => (0 : Int)) ∘ PyData.int) = id from rfl, List.map_id, List.map_id] at this
  · rw [e, List.pairwise_map] at sr
    refine sr.imp fun {a b} h => ?_
    have h : (!decide (b < a)) = true := h
    simp at h
    exact h
theorem nSrt_I (ps : List Int) : nSrt [.list (ps.map .int)] = some ((isrt ps).map .int) := by
  have ok : okK (ps.map PyData.int) = true := by
    unfold okK
    rw [Bool.or_eq_true]
    left
    simp [isI]
  obtain ⟨qs, e, p, s⟩ := srt_ints ps
  show (if okK (ps.map PyData.int) = true then _ else _) = _
  rw [if_pos ok, e, srt_uniq (p.trans (isrt_perm ps).symm) s (isrt_srt ps)]
theorem xSrt_of {fs : En → R (List D)} {r r1 : En} {ps : List Int} (h : fs r = .ok [.list (ps.map .int)] r1) : xCB nSrt fs r = .ok (.ow ((isrt ps).map .int)) r1 := by
  unfold xCB
  rw [h]
  simp only [R.bind, nSrt_I]
/-- a map of its own name, for the kernel: it is not told from the other side's by its parts -/
def mapA {α β : Type} (f : α → β) : List α → List β
  | [] => []
  | x :: xs => f x :: mapA f xs
theorem mapA_in {α β : Type} {f g : α → β} : ∀ {xs : List α}, mapA f xs = xs.map g → ∀ x ∈ xs, f x = g x
  | [], _, _, hx => absurd hx (by simp)
  | y :: ys, h, x, hx => by
    rw [mapA, List.map_cons] at h
    obtain ⟨h1, h2⟩ := List.cons.inj h
    rcases List.mem_cons.mp hx with e | hx
    · rw [e]; exact h1
    · exact mapA_in h2 x hx
theorem filt_all {α : Type} (l : List α) : l.filter (fun _ => true) = l := by simp
end DL
set_option maxHeartbeats 400000
/-! DLcc: {} as a value -/
namespace DL
open PySem PySem.Calls PyProof.Rows L2
variable {X : Cx} {G : Gm} {W : WX} {pos : Pos}
def eDic : En → R D := fun r => .ok (.dict []) r
theorem de_dic : PE X (.Dict [] [] pos) (TEo G W eDic) :=
  pe_of pe_dnewK fun σ H Q ⟨F, r0, e, p⟩ => fun q hq =>
    Pt.here p e (Ext.new e.sub hq (by intro ps z; cases z)) (RpI.dct (kvs := []) (ds := []) upd_same RpLI.nil)
end DL
set_option maxHeartbeats 400000
/-! DLdd: sorted of a tuple of ints -/
namespace DL
open PySem PySem.Calls PyProof.Rows L2
variable {X : Cx} {G : Gm} {W : WX} {pos : Pos} {F H : Hp}
def rSrtT (K : PySem.W.Frag) : List V → Hp → VK → Prop := fun vs H Q => ∃ (a : Addr) (ns : List Int), vs = [V.ref a] ∧ SqT K H a (ns.map V.int) ∧
  ∀ (ns' : List Int) (p : Addr), ns'.Perm ns → ns'.Pairwise (· ≤ ·) → H p = none → Q (.ref p) (upd H p (.lst (ns'.map V.int)))
theorem cr_srtT : CallR X (.builtin "sorted") (rSrtT X.K) := by
  intro pins s σ H vs us Q I rr h
  obtain ⟨a, ns, rfl, hs, q⟩ := h
  obtain ⟨its, rv, tp, hz⟩ := I.tuple hs
  rw [Vals.ref1 rr]
  have hi := rv.ints
  have hz' : its.length ≤ sizeLine := by rw [← rv.length]; exact hz
  obtain ⟨o, ho, hc, n, hd⟩ := tp
  refine Calls.call_function_entry PyProof.Rows.kind_sorted PyProof.Rows.plain_sorted PyProof.Rows.entry_sorted (PyProof.Rows.args_sorted1 _) ?_
  unfold Builtin.«sorted»
  refine wpAny_bind (m := checkCount "sorted" 1 1 _) (wpAny_pure ?_)
  refine wpAny_bind (wpAny_collect_seq a (T := "tuple") (.inr rfl) ho hc hd (fun h' hk => ?_) (by simpa using hz'))
  have I1 : Inv X pins σ H { s with heap := h' } := I.kept (t' := s.toks) hk
  refine wpAny_bind (wpAny_newList ?_ (by simpa using hz'))
  have hoL : (h'.push (seqObj "list" its.toArray.toList.toArray 0)).get? h'.objs.size = some (seqObj "list" its.toArray.toList.toArray 0) := Heap.get?_push_size _ rfl
  rw [List.toList_toArray] at hoL ⊢
  refine wpAny_bind (wpAny_holding (wpAny_call_entry PyProof.Rows.slot_list_sort ⟨_, hoL, rfl⟩ PyProof.Rows.entry_list_sort
    (SrtO.list_sort_ord SrtO.swo_int (s := { s with heap := h'.push (seqObj "list" its.toArray 0) }) hoL hz' (fun h2 => SrtO.ints_sortable hi h2) fun out h1 h2 => ⟨_, rfl, ?_⟩) (PyProof.Rows.args_list_sort _)))
  obtain ⟨k1, k2, k3⟩ := SrtO.ints_out hi h1 h2
  obtain ⟨ep, he'⟩ := PyProof.Rows.sortedHeap_at (vs := its) (out := out.toArray) hoL
  have hlen : ((out.map SrtO.iv).map V.int).length ≤ sizeLine := by
    rw [List.length_map, k2.length_eq]
    rw [List.length_map] at hz
    exact hz
  refine wpAny_pure ⟨_, rfl, .ref h'.objs.size, upd H h'.objs.size (.lst ((out.map SrtO.iv).map V.int)), I1.laid (t' := s.toks) (fun b u e => ?_) (Nat.le_refl _)
    (show ObjOk X.prog X.w _ _ _ (.lst ((out.map SrtO.iv).map V.int)) from ⟨hlen, out, ep, vals_of_ints k1, he'⟩), rfl, q _ _ k2 k3 (I1.hok.fresh (Nat.le_refl _))⟩
  have hb : b < h'.objs.size := Heap.lt_size e
  rw [PyProof.Rows.sortedHeap_old (Nat.ne_of_lt hb) (by rw [size_push']; exact Nat.lt_succ_of_lt hb)]
  exact Heap.get?_push_of_some _ e
theorem rpl_ints {G : Gm} {F : Hp} : ∀ ns : List Int, RpL G F (ns.map V.int) (ns.map PyData.int)
  | [] => .nil
  | n :: ns => .cons (.int n) (rpl_ints ns)
def nSrtA : List D → Option (List D)
  | [.tuple ds] => if ds.all isI = true then some (srtD ds) else none
  | x => nSrt x
def rSrtA (K : PySem.W.Frag) : List V → Hp → VK → Prop := fun vs H Q => rSrt K vs H Q ∨ rSrtT K vs H Q
theorem cr_srtA (hu : X.A.units + 64 < cLine) : CallR X (.builtin "sorted") (rSrtA X.K) := (cr_srt hu).or cr_srtT
theorem cn_srtA : CallN G (rSrtA G.K) nSrtA := fun x ds F H v Q h hs q k => by
  unfold nSrtA at h
  split at h
  · split at h
    · rename_i es hok
      cases h
      obtain ⟨v, rfl, qa⟩ := one_of q
      obtain ⟨a, xs, rfl, h1, h2⟩ := rp_tup qa
      obtain ⟨ns, rfl⟩ := allI_is hok
      rw [rp_ints h2] at h1
      refine .inr ⟨a, ns, rfl, hs.t h1, fun ns' p pm sr hp => ?_⟩
      obtain ⟨qs, e, p2, s2⟩ := srt_ints ns
      rw [e, srt_uniq (p2.trans pm.symm) s2 sr] at k
      exact k _ (rpl_ints ns') p hp
    · cases h
  · exact .inl (cn_srt x ds F H v Q h hs q k)
theorem nSrtA_T (ps : List Int) : nSrtA [.tuple (ps.map .int)] = some ((isrt ps).map .int) := by
  obtain ⟨qs, e, p, s⟩ := srt_ints ps
  have ok : (ps.map PyData.int).all isI = true := by simp [isI]
  show (if (ps.map PyData.int).all isI = true then _ else _) = _
  rw [if_pos ok, e, srt_uniq (p.trans (isrt_perm ps).symm) s (isrt_srt ps)]
end DL
set_option maxHeartbeats 0
/-! K62: the defs of law k62, by gen.py -/
namespace K62
open PySem PyProof.Rows L2 DL
abbrev top (i : Nat) : Stmt := PySem.Challenge.pw_hookwide_k62_whole_piles.main.body.getD i (.Pass ⟨0, 0, 0, 0⟩)
def fuel : Nat := 4096
structure Fcts (K : PySem.W.Frag) (mg : Str → Option Value) : Prop where
  n_len : mg "len" = none
  n_int : mg "int" = none
  n_abs : mg "abs" = none
  n_max : mg "max" = none
  n_isinstance : mg "isinstance" = none
  n_bool : mg "bool" = none
  n_range : mg "range" = none
  n_all : mg "all" = none
  n_tuple : mg "tuple" = none
  n_sum : mg "sum" = none
  n_min : mg "min" = none
  n_list : mg "list" = none
  n_enumerate : mg "enumerate" = none
  n_repr : mg "repr" = none
  n_zip : mg "zip" = none
  n_sorted : mg "sorted" = none
  c_FAR : ∃ t, mg "FAR" = some (.int 1000000000000000000000000000000000000000000000000000000000000 t)
  c_MOST_SIDE : ∃ t, mg "MOST_SIDE" = some (.int 12 t)
/-! ### _law_dice -/
def F__law_dice : En → Fl := sSeq (sSet (eIf (tB1 (eOp oLt (eV 1) (eLenO 0))) (eCB cInt (aCons (eIxO 0 (eV 1)) (aNil))) (eOp oAdd (eOp oMul (eC (.int 97)) (eV 1)) (eC (.int 43)))) 2) (sSeq (sSet (eOp oMod (eCB cMax2 (aCons (eC (.int 0)) (aCons (eOp oSub (eCB cAbs (aCons (eV 2) (aNil))) (eOp oPow (eC (.int 10)) (eC (.int 17)))) (aNil)))) (eOp oMul (eOp oPow (eC (.int 10)) (eC (.int 60))) (eOp oPow (eC (.int 10)) (eC (.int 60))))) 3) (sRetX (xLst (aCons (eV 3) (aCons (eOp oAdd (eOp oAdd (eOp oAdd (eOp oMul (eOp oMod (eCB cAbs (aCons (eV 2) (aNil))) (eC (.int 1152921504606846737))) (eC (.int 37))) (eOp oMul (eC (.int 859)) (eV 1))) (eOp oMul (eC (.int 31)) (eCB cInt (aCons (eOp oLt (eV 2) (eC (.int 0))) (aNil))))) (eC (.int 17))) (aCons (eC (.int 0)) (aNil)))))))
def f__law_dice : En → Rf := runF 4 2 F__law_dice
theorem s__law_dice : FnScope ["script", "spot", "cell", "left"] ["script", "spot"] (defScope (top 26)) := ⟨rfl, rfl, rfl, by decide +kernel, rfl, by decide +kernel, by decide +kernel⟩
theorem ok__law_dice {P : Program} {w : World} {mg : Str → Option Value} {base : Heap} {G : Gm} {f : Addr} {fd : FuncData} (F : FunD G.K "_law_dice" "_law_dice" (defArgs (top 26)) (defBody (top 26)) (defScope (top 26)) [] [] f fd) (Z : Fcts G.K mg)  :
    FnG true P w G.K mg base 1 f fd ["script", "spot"] (spD G f__law_dice) :=
  have S := s__law_dice
  fnD' F S fun pd cdv A outer s H E hr hgu =>
    (ds_seq (ds_set (i := 2) S.nd (de_if (dt_cmp op_lt od_cmp (de_var 1) (de_lenO (i := 0) rfl Z.n_len (by decide +kernel)) (nomark _)) (de_callTy call_int1 cd_int Z.n_int (by decide +kernel) (da_cons (de_ixO (i := 0) rfl (de_var 1)) (da_nil))) (de_op op_addA od_add (de_op op_mulA od_mul (de_int) (de_var 1)) (de_int)))) (ds_seq (ds_set (i := 3) S.nd (de_op op_modA od_mod (de_callB (call_max2 rfl) cd_max2 Z.n_max (by decide +kernel) (da_cons (de_int) (da_cons (de_op op_sub od_sub (de_callB call_abs cd_abs Z.n_abs (by decide +kernel) (da_cons (de_var 2) (da_nil))) (de_op op_pow od_pow (de_int) (de_int))) (da_nil)))) (de_op op_mulA od_mul (de_op op_pow od_pow (de_int) (de_int)) (de_op op_pow od_pow (de_int) (de_int))))) (ds_one (ds_retX (dx_lst (da_cons (de_var 3) (da_cons (de_op op_addA od_add (de_op op_addA od_add (de_op op_addA od_add (de_op op_mulA od_mul (de_op op_modA od_mod (de_callB call_abs cd_abs Z.n_abs (by decide +kernel) (da_cons (de_var 2) (da_nil))) (de_int)) (de_int)) (de_op op_mulA od_mul (de_int) (de_var 1))) (de_op op_mulA od_mul (de_int) (de_callTy call_int1 cd_int Z.n_int (by decide +kernel) (da_cons (de_cmp op_lt od_cmp (de_var 2) (de_int) (nomark _)) (da_nil))))) (de_int)) (da_cons (de_int) (da_nil)))))))))
/-! ### is_whole -/
def F_is_whole : En → Fl := sRet (eAnd (eUn (cIsi "int") (eV 0)) (eNot (eUn (cIsi "bool") (eV 0))))
def f_is_whole : En → Rf := runF 1 1 F_is_whole
theorem s_is_whole : FnScope ["value"] ["value"] (defScope (top 6)) := ⟨rfl, rfl, rfl, by decide +kernel, rfl, by decide +kernel, by decide +kernel⟩
theorem ok_is_whole {P : Program} {w : World} {mg : Str → Option Value} {base : Heap} {G : Gm} {f : Addr} {fd : FuncData} (F : FunD G.K "is_whole" "is_whole" (defArgs (top 6)) (defBody (top 6)) (defScope (top 6)) [] [] f fd) (Z : Fcts G.K mg)  :
    FnG true P w G.K mg base 1 f fd ["value"] (spD G f_is_whole) :=
  have S := s_is_whole
  fnD' F S fun pd cdv A outer s H E hr hgu =>
    (ds_one (ds_ret (de_and (de_isi (t := "int") rfl Z.n_isinstance Z.n_int (by decide +kernel) (de_var 0)) (de_one (de_not (de_isi (t := "bool") rfl Z.n_isinstance Z.n_bool (by decide +kernel) (de_var 0)))))))
/-! ### is_near -/
def F_is_near : En → Fl := sRet (eAnd (eF (xCall f_is_whole (aCons (eV 0) (aNil)))) (eChain oLtK oLtK (eUn oNeg (eC (.int 1000000000000000000000000000000000000000000000000000000000000))) (eV 0) (eC (.int 1000000000000000000000000000000000000000000000000000000000000))))
def f_is_near : En → Rf := runF 1 1 F_is_near
theorem s_is_near : FnScope ["value"] ["value"] (defScope (top 7)) := ⟨rfl, rfl, rfl, by decide +kernel, rfl, by decide +kernel, by decide +kernel⟩
theorem ok_is_near {P : Program} {w : World} {mg : Str → Option Value} {base : Heap} {G : Gm} {f : Addr} {fd : FuncData} (F : FunD G.K "is_near" "is_near" (defArgs (top 7)) (defBody (top 7)) (defScope (top 7)) [] [] f fd) (Z : Fcts G.K mg) (C_is_whole : Cal G true P w mg base 1 "is_whole" ["value"] f_is_whole) :
    FnG true P w G.K mg base 2 f fd ["value"] (spD G f_is_near) :=
  have S := s_is_near
  fnD' F S fun pd cdv A outer s H E hr hgu =>
    (ds_one (ds_ret (de_and (de_frz (dx_callC rfl (C_is_whole.pd pd) (hr.mono (by decide)) hgu (takes_of rfl rfl rfl rfl) (da_cons (de_var 0) (da_nil)))) (de_one (de_chain (op_ltK hr.units) od_cmpK (op_ltK hr.units) od_cmpK (de_un un_neg ud_neg ((de_globI Z.c_FAR))) (de_var 0) ((de_globI Z.c_FAR)))))))
/-! ### require_number -/
def F_require_number : En → Fl := sIf (tOr1 (tNot1 (tTru (eF (xCall f_is_near (aCons (eV 0) (aNil)))))) (tOr1 (tAnd1 (tB1 (eOp oNotN (eV 1) (eC .none))) (tB1 (eOp oLtK (eV 0) (eV 1)))) (tAnd1 (tB1 (eOp oNotN (eV 2) (eC .none))) (tB1 (eOp oGtK (eV 0) (eV 2)))))) (sSt) (sNil)
def f_require_number : En → Rf := runF 3 3 F_require_number
theorem s_require_number : FnScope ["value", "least", "most"] ["value", "least", "most"] (defScope (top 9)) := ⟨rfl, rfl, rfl, by decide +kernel, rfl, by decide +kernel, by decide +kernel⟩
theorem ok_require_number {P : Program} {w : World} {mg : Str → Option Value} {base : Heap} {G : Gm} {f : Addr} {fd : FuncData} (F : FunD G.K "require_number" "require_number" (defArgs (top 9)) (defBody (top 9)) (defScope (top 9)) [] [] f fd) (Z : Fcts G.K mg) (C_is_near : Cal G true P w mg base 2 "is_near" ["value"] f_is_near) :
    FnG true P w G.K mg base 3 f fd ["value", "least", "most"] (spD G f_require_number) :=
  have S := s_require_number
  fnD' F S fun pd cdv A outer s H E hr hgu =>
    (ds_one (ds_if (PW.pt (dw_or (dt_not (dt_tru rfl (de_frz (dx_callC rfl (C_is_near.pd pd) (hr.mono (by decide)) hgu (takes_of rfl rfl rfl rfl) (da_cons (de_var 0) (da_nil)))))) (dw_or (PW.pt (dw_and (dt_cmp op_notN od_notN (de_var 1) de_non) (dw_and1 (dt_cmp (op_ltK hr.units) od_cmpK (de_var 0) (de_var 1) (nomark _))))) (dw_or1 (PW.pt (dw_and (dt_cmp op_notN od_notN (de_var 2) de_non) (dw_and1 (dt_cmp (op_gtK hr.units) od_cmpK (de_var 0) (de_var 2) (nomark _))))))))) (ds_one (ds_never)) (ds_nil)))
/-! ### require_box -/
def F_require_box : En → Fl := sSeq (sDrop (eF (xCall f_require_number (aCons (eV 0) (aCons (eC (.int 1)) (aCons (eV 3) (aNil))))))) (sSeq (sDrop (eF (xCall f_require_number (aCons (eV 1) (aCons (eC (.int 1)) (aCons (eV 3) (aNil))))))) (sDrop (eF (xCall f_require_number (aCons (eV 2) (aCons (eC (.int 1)) (aCons (eV 3) (aNil))))))))
def f_require_box : En → Rf := runF 4 4 F_require_box
theorem s_require_box : FnScope ["a", "b", "c", "most"] ["a", "b", "c", "most"] (defScope (top 18)) := ⟨rfl, rfl, rfl, by decide +kernel, rfl, by decide +kernel, by decide +kernel⟩
theorem ok_require_box {P : Program} {w : World} {mg : Str → Option Value} {base : Heap} {G : Gm} {f : Addr} {fd : FuncData} (F : FunD G.K "require_box" "require_box" (defArgs (top 18)) (defBody (top 18)) (defScope (top 18)) [] [] f fd) (Z : Fcts G.K mg) (C_require_number : Cal G true P w mg base 3 "require_number" ["value", "least", "most"] f_require_number) :
    FnG true P w G.K mg base 4 f fd ["a", "b", "c", "most"] (spD G f_require_box) :=
  have S := s_require_box
  fnD' F S fun pd cdv A outer s H E hr hgu =>
    (ds_seq (ds_expr (de_frz (dx_callC rfl (C_require_number.pd pd) (hr.mono (by decide)) hgu (takes_of rfl rfl rfl rfl) (da_cons (de_var 0) (da_cons (de_int) (da_cons (de_var 3) (da_nil))))))) (ds_seq (ds_expr (de_frz (dx_callC rfl (C_require_number.pd pd) (hr.mono (by decide)) hgu (takes_of rfl rfl rfl rfl) (da_cons (de_var 1) (da_cons (de_int) (da_cons (de_var 3) (da_nil))))))) (ds_one (ds_expr (de_frz (dx_callC rfl (C_require_number.pd pd) (hr.mono (by decide)) hgu (takes_of rfl rfl rfl rfl) (da_cons (de_var 2) (da_cons (de_int) (da_cons (de_var 3) (da_nil))))))))))
/-! ### is_falling_line -/
def g_is_falling_line_e1 : En → R D := eOp oLeK (eOp oIx (eV 0) (eOp oAdd (eV 1) (eC (.int 1)))) (eOp oIx (eV 0) (eV 1))
def F_is_falling_line : En → Fl := sRet (eCB cAll (aCons (eF (xLc [1] (iRg1 (eOp oSub (eCB cLen (aCons (eV 0) (aNil))) (eC (.int 1)))) (gN 1) (tT) (g_is_falling_line_e1))) (aNil)))
def f_is_falling_line : En → Rf := runF 2 1 F_is_falling_line
theorem s_is_falling_line : FnScope ["line", "at"] ["line"] (defScope (top 13)) := ⟨rfl, rfl, rfl, by decide +kernel, rfl, by decide +kernel, by decide +kernel⟩
theorem ok_is_falling_line {P : Program} {w : World} {mg : Str → Option Value} {base : Heap} {G : Gm} {f : Addr} {fd : FuncData} (F : FunD G.K "is_falling_line" "is_falling_line" (defArgs (top 13)) (defBody (top 13)) (defScope (top 13)) [] [] f fd) (Z : Fcts G.K mg)  :
    FnG true P w G.K mg base 1 f fd ["line"] (spD G f_is_falling_line) :=
  have S := s_is_falling_line
  fnD' F S fun pd cdv A outer s H E hr hgu =>
    (ds_one (ds_ret (de_callB (cr_all rfl) cd_all Z.n_all (by decide +kernel) (da_cons (de_frz (dx_lc (nm := [("at", 1)]) rfl S.nd (di_range1 Z.n_range (de_op op_sub od_sub (de_callB call_lenA cd_len Z.n_len (by decide +kernel) (da_cons (de_var 0) (da_nil))) (de_int))) (by kernel_rfl) (by decide) (fun _ _ _ _ _ => dg_name (i := 1) S.nd) (fun _ _ _ _ _ => dts_nil) (fun _ _ _ _ _ => de_cmp (op_leK hr.units) od_cmpK (de_ix ix_seq od_ix (de_var 0) (de_op op_addA od_add (de_var 1) (de_int))) (de_ix ix_seq od_ix (de_var 0) (de_var 1)) (nomark _)))) (da_nil)))))
/-! ### is_within -/
def F_is_within : En → Fl := sRet (eAnd (eF (xCall f_is_whole (aCons (eV 0) (aNil)))) (eChain oLeK oLeK (eV 1) (eV 0) (eV 2)))
def f_is_within : En → Rf := runF 3 3 F_is_within
theorem s_is_within : FnScope ["value", "least", "most"] ["value", "least", "most"] (defScope (top 8)) := ⟨rfl, rfl, rfl, by decide +kernel, rfl, by decide +kernel, by decide +kernel⟩
theorem ok_is_within {P : Program} {w : World} {mg : Str → Option Value} {base : Heap} {G : Gm} {f : Addr} {fd : FuncData} (F : FunD G.K "is_within" "is_within" (defArgs (top 8)) (defBody (top 8)) (defScope (top 8)) [] [] f fd) (Z : Fcts G.K mg) (C_is_whole : Cal G true P w mg base 1 "is_whole" ["value"] f_is_whole) :
    FnG true P w G.K mg base 2 f fd ["value", "least", "most"] (spD G f_is_within) :=
  have S := s_is_within
  fnD' F S fun pd cdv A outer s H E hr hgu =>
    (ds_one (ds_ret (de_and (de_frz (dx_callC rfl (C_is_whole.pd pd) (hr.mono (by decide)) hgu (takes_of rfl rfl rfl rfl) (da_cons (de_var 0) (da_nil)))) (de_one (de_chain (op_leK hr.units) od_cmpK (op_leK hr.units) od_cmpK (de_var 1) (de_var 0) (de_var 2))))))
/-! ### is_row_of -/
def g_is_row_of_e1 : En → R D := eF (xCall f_is_within (aCons (eV 3) (aCons (eV 1) (aCons (eV 2) (aNil)))))
def F_is_row_of : En → Fl := sRet (eAnd (eUn (cIsi "tuple") (eV 0)) (eCB cAll (aCons (eF (xLc [3] (iSeq (eV 0)) (gN 3) (tT) (g_is_row_of_e1))) (aNil))))
def f_is_row_of : En → Rf := runF 4 3 F_is_row_of
theorem s_is_row_of : FnScope ["value", "least", "most", "one"] ["value", "least", "most"] (defScope (top 10)) := ⟨rfl, rfl, rfl, by decide +kernel, rfl, by decide +kernel, by decide +kernel⟩
theorem ok_is_row_of {P : Program} {w : World} {mg : Str → Option Value} {base : Heap} {G : Gm} {f : Addr} {fd : FuncData} (F : FunD G.K "is_row_of" "is_row_of" (defArgs (top 10)) (defBody (top 10)) (defScope (top 10)) [] [] f fd) (Z : Fcts G.K mg) (C_is_within : Cal G true P w mg base 2 "is_within" ["value", "least", "most"] f_is_within) :
    FnG true P w G.K mg base 3 f fd ["value", "least", "most"] (spD G f_is_row_of) :=
  have S := s_is_row_of
  fnD' F S fun pd cdv A outer s H E hr hgu =>
    (ds_one (ds_ret (de_and (de_isi (t := "tuple") rfl Z.n_isinstance Z.n_tuple (by decide +kernel) (de_var 0)) (de_one (de_callB (cr_all rfl) cd_all Z.n_all (by decide +kernel) (da_cons (de_frz (dx_lc (nm := [("one", 3)]) rfl S.nd (di_seq rfl (de_var 0)) (by kernel_rfl) (by decide) (fun _ _ _ _ _ => dg_name (i := 3) S.nd) (fun _ _ _ _ _ => dts_nil) (fun _ _ _ _ _ => de_frz (dx_callC rfl (C_is_within.pd pd) (hr.mono (by decide)) hgu L2.takes0 (da_cons (de_var 3) (da_cons (de_var 1) (da_cons (de_var 2) (da_nil)))))))) (da_nil)))))))
/-! ### is_pile_in -/
def g_is_pile_in_e1 : En → R D := eAnd (eF (xCall f_is_row_of (aCons (eV 4) (aCons (eC (.int 0)) (aCons (eV 2) (aNil)))))) (eAnd (eOp oEq (eCB cLen (aCons (eV 4) (aNil))) (eV 1)) (eF (xCall f_is_falling_line (aCons (eV 4) (aNil)))))
def g_is_pile_in_e2 : En → R D := eOp oIx (eV 4) (eV 5)
def g_is_pile_in_e3 : En → R D := eF (xCall f_is_falling_line (aCons (eF (xLc [4] (iSeq (eV 3)) (gN 4) (tT) (g_is_pile_in_e2))) (aNil)))
def F_is_pile_in : En → Fl := sSeq (sIf (tOr1 (tNot1 (tTru (eUn (cIsi "tuple") (eV 3)))) (tB1 (eOp oNe (eCB cLen (aCons (eV 3) (aNil))) (eV 0)))) (sRet (eC (.bool false))) (sNil)) (sSeq (sIf (tNot1 (tTru (eCB cAll (aCons (eF (xLc [4] (iSeq (eV 3)) (gN 4) (tT) (g_is_pile_in_e1))) (aNil))))) (sRet (eC (.bool false))) (sNil)) (sRet (eCB cAll (aCons (eF (xLc [5] (iRg1 (eV 1)) (gN 5) (tT) (g_is_pile_in_e3))) (aNil)))))
def f_is_pile_in : En → Rf := runF 6 4 F_is_pile_in
theorem s_is_pile_in : FnScope ["a", "b", "c", "value", "line", "j"] ["a", "b", "c", "value"] (defScope (top 14)) := ⟨rfl, rfl, rfl, by decide +kernel, rfl, by decide +kernel, by decide +kernel⟩
theorem ok_is_pile_in {P : Program} {w : World} {mg : Str → Option Value} {base : Heap} {G : Gm} {f : Addr} {fd : FuncData} (F : FunD G.K "is_pile_in" "is_pile_in" (defArgs (top 14)) (defBody (top 14)) (defScope (top 14)) [] [] f fd) (Z : Fcts G.K mg) (C_is_row_of : Cal G true P w mg base 3 "is_row_of" ["value", "least", "most"] f_is_row_of) (C_is_falling_line : Cal G true P w mg base 1 "is_falling_line" ["line"] f_is_falling_line) :
    FnG true P w G.K mg base 4 f fd ["a", "b", "c", "value"] (spD G f_is_pile_in) :=
  have S := s_is_pile_in
  fnD' F S fun pd cdv A outer s H E hr hgu =>
    (ds_seq (ds_if (PW.pt (dw_or (dt_not (dt_tru rfl (de_isi (t := "tuple") rfl Z.n_isinstance Z.n_tuple (by decide +kernel) (de_var 3)))) (dw_or1 (dt_cmp (op_neZ hr.units) od_ne (de_callB call_lenA cd_len Z.n_len (by decide +kernel) (da_cons (de_var 3) (da_nil))) (de_var 0) (nomark _))))) (ds_one (ds_ret (de_bl))) (ds_nil)) (ds_seq (ds_if (dt_not (dt_tru rfl (de_callB (cr_all rfl) cd_all Z.n_all (by decide +kernel) (da_cons (de_frz (dx_lc (nm := [("line", 4)]) rfl S.nd (di_seq rfl (de_var 3)) (by kernel_rfl) (by decide) (fun _ _ _ _ _ => dg_name (i := 4) S.nd) (fun _ _ _ _ _ => dts_nil) (fun _ _ _ _ _ => de_and (de_frz (dx_callC rfl (C_is_row_of.pd pd) (hr.mono (by decide)) hgu L2.takes0 (da_cons (de_var 4) (da_cons (de_int) (da_cons (de_var 2) (da_nil)))))) (de_and (de_cmp (op_eqZ hr.units) od_eq (de_callB call_lenA cd_len Z.n_len (by decide +kernel) (da_cons (de_var 4) (da_nil))) (de_var 1) (nomark _)) (de_one (de_frz (dx_callC rfl (C_is_falling_line.pd pd) (hr.mono (by decide)) hgu L2.takes0 (da_cons (de_var 4) (da_nil))))))))) (da_nil))))) (ds_one (ds_ret (de_bl))) (ds_nil)) (ds_one (ds_ret (de_callB (cr_all rfl) cd_all Z.n_all (by decide +kernel) (da_cons (de_frz (dx_lc (nm := [("j", 5)]) rfl S.nd (di_range1 Z.n_range (de_var 1)) (by kernel_rfl) (by decide) (fun _ _ _ _ _ => dg_name (i := 5) S.nd) (fun _ _ _ _ _ => dts_nil) (fun _ _ _ _ _ => de_frz (dx_callC rfl (C_is_falling_line.pd pd) (hr.mono (by decide)) hgu L2.takes0 (da_cons (de_frz (dx_lc (nm := [("line", 4)]) rfl S.nd (di_seq rfl (de_var 3)) (by kernel_rfl) (by decide) (fun _ _ _ _ _ => dg_name (i := 4) S.nd) (fun _ _ _ _ _ => dts_nil) (fun _ _ _ _ _ => de_ix ix_seq od_ix (de_var 4) (de_var 5)))) (da_nil)))))) (da_nil)))))))
/-! ### require_pile -/
def F_require_pile : En → Fl := sSeq (sDrop (eF (xCall f_require_box (aCons (eV 0) (aCons (eV 1) (aCons (eV 2) (aCons (eC (.int 12)) (aNil)))))))) (sIf (tNot1 (tTru (eF (xCall f_is_pile_in (aCons (eV 0) (aCons (eV 1) (aCons (eV 2) (aCons (eV 3) (aNil))))))))) (sSt) (sNil))
def f_require_pile : En → Rf := runF 4 4 F_require_pile
theorem s_require_pile : FnScope ["a", "b", "c", "pile"] ["a", "b", "c", "pile"] (defScope (top 19)) := ⟨rfl, rfl, rfl, by decide +kernel, rfl, by decide +kernel, by decide +kernel⟩
theorem ok_require_pile {P : Program} {w : World} {mg : Str → Option Value} {base : Heap} {G : Gm} {f : Addr} {fd : FuncData} (F : FunD G.K "require_pile" "require_pile" (defArgs (top 19)) (defBody (top 19)) (defScope (top 19)) [] [] f fd) (Z : Fcts G.K mg) (C_require_box : Cal G true P w mg base 4 "require_box" ["a", "b", "c", "most"] f_require_box) (C_is_pile_in : Cal G true P w mg base 4 "is_pile_in" ["a", "b", "c", "value"] f_is_pile_in) :
    FnG true P w G.K mg base 5 f fd ["a", "b", "c", "pile"] (spD G f_require_pile) :=
  have S := s_require_pile
  fnD' F S fun pd cdv A outer s H E hr hgu =>
    (ds_seq (ds_expr (de_frz (dx_callC rfl (C_require_box.pd pd) (hr.mono (by decide)) hgu (takes_of rfl rfl rfl rfl) (da_cons (de_var 0) (da_cons (de_var 1) (da_cons (de_var 2) (da_cons ((de_globI Z.c_MOST_SIDE)) (da_nil)))))))) (ds_one (ds_if (dt_not (dt_tru rfl (de_frz (dx_callC rfl (C_is_pile_in.pd pd) (hr.mono (by decide)) hgu (takes_of rfl rfl rfl rfl) (da_cons (de_var 0) (da_cons (de_var 1) (da_cons (de_var 2) (da_cons (de_var 3) (da_nil))))))))) (ds_one (ds_never)) (ds_nil))))
/-! ### columns_in -/
def g_columns_in_e1 : En → R D := eOp oIx (eV 2) (eV 1)
def g_columns_in_e2 : En → R D := eCB cTup (aCons (eF (xLc [2] (iSeq (eV 0)) (gN 2) (tT) (g_columns_in_e1))) (aNil))
def F_columns_in : En → Fl := sRet (eCB cTup (aCons (eF (xLc [1] (iRg1 (eCB cLen (aCons (eOp oIx (eV 0) (eC (.int 0))) (aNil)))) (gN 1) (tT) (g_columns_in_e2))) (aNil)))
def f_columns_in : En → Rf := runF 3 1 F_columns_in
theorem s_columns_in : FnScope ["pile", "j", "line"] ["pile"] (defScope (top 15)) := ⟨rfl, rfl, rfl, by decide +kernel, rfl, by decide +kernel, by decide +kernel⟩
theorem ok_columns_in {P : Program} {w : World} {mg : Str → Option Value} {base : Heap} {G : Gm} {f : Addr} {fd : FuncData} (F : FunD G.K "columns_in" "columns_in" (defArgs (top 15)) (defBody (top 15)) (defScope (top 15)) [] [] f fd) (Z : Fcts G.K mg)  :
    FnG true P w G.K mg base 1 f fd ["pile"] (spD G f_columns_in) :=
  have S := s_columns_in
  fnD' F S fun pd cdv A outer s H E hr hgu =>
    (ds_one (ds_ret (de_callTy call_tupA cd_tup Z.n_tuple (by decide +kernel) (da_cons (de_frz (dx_lc (nm := [("j", 1)]) rfl S.nd (di_range1 Z.n_range (de_callB call_lenA cd_len Z.n_len (by decide +kernel) (da_cons (de_ix ix_seq od_ix (de_var 0) (de_int)) (da_nil)))) (by kernel_rfl) (by decide) (fun _ _ _ _ _ => dg_name (i := 1) S.nd) (fun _ _ _ _ _ => dts_nil) (fun _ _ _ _ _ => de_callTy call_tupA cd_tup Z.n_tuple (by decide +kernel) (da_cons (de_frz (dx_lc (nm := [("line", 2)]) rfl S.nd (di_seq rfl (de_var 0)) (by kernel_rfl) (by decide) (fun _ _ _ _ _ => dg_name (i := 2) S.nd) (fun _ _ _ _ _ => dts_nil) (fun _ _ _ _ _ => de_ix ix_seq od_ix (de_var 2) (de_var 1)))) (da_nil))))) (da_nil)))))
/-! ### turned_pile -/
def F_turned_pile : En → Fl := sSeq (sDrop (eF (xCall f_require_pile (aCons (eV 0) (aCons (eV 1) (aCons (eV 2) (aCons (eV 3) (aNil)))))))) (sRetX (xCall f_columns_in (aCons (eV 3) (aNil))))
def f_turned_pile : En → Rf := runF 4 4 F_turned_pile
theorem s_turned_pile : FnScope ["a", "b", "c", "pile"] ["a", "b", "c", "pile"] (defScope (top 22)) := ⟨rfl, rfl, rfl, by decide +kernel, rfl, by decide +kernel, by decide +kernel⟩
theorem ok_turned_pile {P : Program} {w : World} {mg : Str → Option Value} {base : Heap} {G : Gm} {f : Addr} {fd : FuncData} (F : FunD G.K "turned_pile" "turned_pile" (defArgs (top 22)) (defBody (top 22)) (defScope (top 22)) [] [] f fd) (Z : Fcts G.K mg) (C_require_pile : Cal G true P w mg base 5 "require_pile" ["a", "b", "c", "pile"] f_require_pile) (C_columns_in : Cal G true P w mg base 1 "columns_in" ["pile"] f_columns_in) :
    FnG true P w G.K mg base 6 f fd ["a", "b", "c", "pile"] (spD G f_turned_pile) :=
  have S := s_turned_pile
  fnD' F S fun pd cdv A outer s H E hr hgu =>
    (ds_seq (ds_expr (de_frz (dx_callC rfl (C_require_pile.pd pd) (hr.mono (by decide)) hgu (takes_of rfl rfl rfl rfl) (da_cons (de_var 0) (da_cons (de_var 1) (da_cons (de_var 2) (da_cons (de_var 3) (da_nil)))))))) (ds_one (ds_retX (dx_callC rfl (C_columns_in.pd pd) (hr.mono (by decide)) hgu (takes_of rfl rfl rfl rfl) (da_cons (de_var 3) (da_nil))))))
/-! ### rest_in -/
def g_rest_in_e1 : En → R D := eOp oSub (eV 0) (eV 3)
def g_rest_in_e2 : En → R D := eCB cTup (aCons (eF (xLc [3] (iSeq (eF (xRevA (eV 2)))) (gN 3) (tT) (g_rest_in_e1))) (aNil))
def F_rest_in : En → Fl := sRet (eCB cTup (aCons (eF (xLc [2] (iSeq (eF (xRevA (eV 1)))) (gN 2) (tT) (g_rest_in_e2))) (aNil)))
def f_rest_in : En → Rf := runF 4 2 F_rest_in
theorem s_rest_in : FnScope ["c", "pile", "line", "one"] ["c", "pile"] (defScope (top 16)) := ⟨rfl, rfl, rfl, by decide +kernel, rfl, by decide +kernel, by decide +kernel⟩
theorem ok_rest_in {P : Program} {w : World} {mg : Str → Option Value} {base : Heap} {G : Gm} {f : Addr} {fd : FuncData} (F : FunD G.K "rest_in" "rest_in" (defArgs (top 16)) (defBody (top 16)) (defScope (top 16)) [] [] f fd) (Z : Fcts G.K mg)  :
    FnG true P w G.K mg base 1 f fd ["c", "pile"] (spD G f_rest_in) :=
  have S := s_rest_in
  fnD' F S fun pd cdv A outer s H E hr hgu =>
    (ds_one (ds_ret (de_callTy call_tupA cd_tup Z.n_tuple (by decide +kernel) (da_cons (de_frz (dx_lc (nm := [("line", 2)]) rfl S.nd (di_seq rfl (de_frz (dx_revA rfl (de_var 1)))) (by kernel_rfl) (by decide) (fun _ _ _ _ _ => dg_name (i := 2) S.nd) (fun _ _ _ _ _ => dts_nil) (fun _ _ _ _ _ => de_callTy call_tupA cd_tup Z.n_tuple (by decide +kernel) (da_cons (de_frz (dx_lc (nm := [("one", 3)]) rfl S.nd (di_seq rfl (de_frz (dx_revA rfl (de_var 2)))) (by kernel_rfl) (by decide) (fun _ _ _ _ _ => dg_name (i := 3) S.nd) (fun _ _ _ _ _ => dts_nil) (fun _ _ _ _ _ => de_op op_sub od_sub (de_var 0) (de_var 3)))) (da_nil))))) (da_nil)))))
/-! ### rest_pile -/
def F_rest_pile : En → Fl := sSeq (sDrop (eF (xCall f_require_pile (aCons (eV 0) (aCons (eV 1) (aCons (eV 2) (aCons (eV 3) (aNil)))))))) (sRetX (xCall f_rest_in (aCons (eV 2) (aCons (eV 3) (aNil)))))
def f_rest_pile : En → Rf := runF 4 4 F_rest_pile
theorem s_rest_pile : FnScope ["a", "b", "c", "pile"] ["a", "b", "c", "pile"] (defScope (top 23)) := ⟨rfl, rfl, rfl, by decide +kernel, rfl, by decide +kernel, by decide +kernel⟩
theorem ok_rest_pile {P : Program} {w : World} {mg : Str → Option Value} {base : Heap} {G : Gm} {f : Addr} {fd : FuncData} (F : FunD G.K "rest_pile" "rest_pile" (defArgs (top 23)) (defBody (top 23)) (defScope (top 23)) [] [] f fd) (Z : Fcts G.K mg) (C_require_pile : Cal G true P w mg base 5 "require_pile" ["a", "b", "c", "pile"] f_require_pile) (C_rest_in : Cal G true P w mg base 1 "rest_in" ["c", "pile"] f_rest_in) :
    FnG true P w G.K mg base 6 f fd ["a", "b", "c", "pile"] (spD G f_rest_pile) :=
  have S := s_rest_pile
  fnD' F S fun pd cdv A outer s H E hr hgu =>
    (ds_seq (ds_expr (de_frz (dx_callC rfl (C_require_pile.pd pd) (hr.mono (by decide)) hgu (takes_of rfl rfl rfl rfl) (da_cons (de_var 0) (da_cons (de_var 1) (da_cons (de_var 2) (da_cons (de_var 3) (da_nil)))))))) (ds_one (ds_retX (dx_callC rfl (C_rest_in.pd pd) (hr.mono (by decide)) hgu (takes_of rfl rfl rfl rfl) (da_cons (de_var 2) (da_cons (de_var 3) (da_nil)))))))
/-! ### is_pile -/
def F_is_pile : En → Fl := sSeq (sDrop (eF (xCall f_require_box (aCons (eV 0) (aCons (eV 1) (aCons (eV 2) (aCons (eC (.int 12)) (aNil)))))))) (sRetX (xCall f_is_pile_in (aCons (eV 0) (aCons (eV 1) (aCons (eV 2) (aCons (eV 3) (aNil)))))))
def f_is_pile : En → Rf := runF 4 4 F_is_pile
theorem s_is_pile : FnScope ["a", "b", "c", "value"] ["a", "b", "c", "value"] (defScope (top 20)) := ⟨rfl, rfl, rfl, by decide +kernel, rfl, by decide +kernel, by decide +kernel⟩
theorem ok_is_pile {P : Program} {w : World} {mg : Str → Option Value} {base : Heap} {G : Gm} {f : Addr} {fd : FuncData} (F : FunD G.K "is_pile" "is_pile" (defArgs (top 20)) (defBody (top 20)) (defScope (top 20)) [] [] f fd) (Z : Fcts G.K mg) (C_require_box : Cal G true P w mg base 4 "require_box" ["a", "b", "c", "most"] f_require_box) (C_is_pile_in : Cal G true P w mg base 4 "is_pile_in" ["a", "b", "c", "value"] f_is_pile_in) :
    FnG true P w G.K mg base 5 f fd ["a", "b", "c", "value"] (spD G f_is_pile) :=
  have S := s_is_pile
  fnD' F S fun pd cdv A outer s H E hr hgu =>
    (ds_seq (ds_expr (de_frz (dx_callC rfl (C_require_box.pd pd) (hr.mono (by decide)) hgu (takes_of rfl rfl rfl rfl) (da_cons (de_var 0) (da_cons (de_var 1) (da_cons (de_var 2) (da_cons ((de_globI Z.c_MOST_SIDE)) (da_nil)))))))) (ds_one (ds_retX (dx_callC rfl (C_is_pile_in.pd pd) (hr.mono (by decide)) hgu (takes_of rfl rfl rfl rfl) (da_cons (de_var 0) (da_cons (de_var 1) (da_cons (de_var 2) (da_cons (de_var 3) (da_nil)))))))))
/-! ### pile_size -/
def g_pile_size_e1 : En → R D := eCB cSumA (aCons (eV 4) (aNil))
def F_pile_size : En → Fl := sSeq (sDrop (eF (xCall f_require_pile (aCons (eV 0) (aCons (eV 1) (aCons (eV 2) (aCons (eV 3) (aNil)))))))) (sRet (eCB cSumA (aCons (eF (xLc [4] (iSeq (eV 3)) (gN 4) (tT) (g_pile_size_e1))) (aNil))))
def f_pile_size : En → Rf := runF 5 4 F_pile_size
theorem s_pile_size : FnScope ["a", "b", "c", "pile", "line"] ["a", "b", "c", "pile"] (defScope (top 21)) := ⟨rfl, rfl, rfl, by decide +kernel, rfl, by decide +kernel, by decide +kernel⟩
theorem ok_pile_size {P : Program} {w : World} {mg : Str → Option Value} {base : Heap} {G : Gm} {f : Addr} {fd : FuncData} (F : FunD G.K "pile_size" "pile_size" (defArgs (top 21)) (defBody (top 21)) (defScope (top 21)) [] [] f fd) (Z : Fcts G.K mg) (C_require_pile : Cal G true P w mg base 5 "require_pile" ["a", "b", "c", "pile"] f_require_pile) :
    FnG true P w G.K mg base 6 f fd ["a", "b", "c", "pile"] (spD G f_pile_size) :=
  have S := s_pile_size
  fnD' F S fun pd cdv A outer s H E hr hgu =>
    (ds_seq (ds_expr (de_frz (dx_callC rfl (C_require_pile.pd pd) (hr.mono (by decide)) hgu (takes_of rfl rfl rfl rfl) (da_cons (de_var 0) (da_cons (de_var 1) (da_cons (de_var 2) (da_cons (de_var 3) (da_nil)))))))) (ds_one (ds_ret (de_callB (cr_sumA rfl) cd_sumA Z.n_sum (by decide +kernel) (da_cons (de_frz (dx_lc (nm := [("line", 4)]) rfl S.nd (di_seq rfl (de_var 3)) (by kernel_rfl) (by decide) (fun _ _ _ _ _ => dg_name (i := 4) S.nd) (fun _ _ _ _ _ => dts_nil) (fun _ _ _ _ _ => de_callB (cr_sumA rfl) cd_sumA Z.n_sum (by decide +kernel) (da_cons (de_var 4) (da_nil))))) (da_nil))))))
/-! ### led_round -/
def g_led_round_e1 : En → R D := eV 5
def g_led_round_t2 : En → R Bool := tB1 (eOp oGtK (eOp oIx (eV 5) (eV 3)) (eV 4))
def g_led_round_e3 : En → R D := eCB cLen (aCons (eF (xLc [5] (iSeq (eV 1)) (gN 5) (g_led_round_t2) (g_led_round_e1))) (aNil))
def g_led_round_b4 : En → Fl := sApp 2 (eCB cTup (aCons (eF (xLc [4] (iRg1 (eV 0)) (gN 4) (tT) (g_led_round_e3))) (aNil)))
def F_led_round : En → Fl := sSeq (sAsgX (xLst (aNil)) 2) (sSeq (sFor (iRg1 (eV 0)) (gN 3) (g_led_round_b4)) (sRet (eCB cTup (aCons (eVF 2) (aNil)))))
def f_led_round : En → Rf := runF 6 2 F_led_round
theorem s_led_round : FnScope ["a", "pile", "found", "j", "k", "line"] ["a", "pile"] (defScope (top 17)) := ⟨rfl, rfl, rfl, by decide +kernel, rfl, by decide +kernel, by decide +kernel⟩
theorem ok_led_round {P : Program} {w : World} {mg : Str → Option Value} {base : Heap} {G : Gm} {f : Addr} {fd : FuncData} (F : FunD G.K "led_round" "led_round" (defArgs (top 17)) (defBody (top 17)) (defScope (top 17)) [] [] f fd) (Z : Fcts G.K mg)  :
    FnG true P w G.K mg base 1 f fd ["a", "pile"] (spD G f_led_round) :=
  have S := s_led_round
  fnD' F S fun pd cdv A outer s H E hr hgu =>
    (ds_seq (ds_setX (i := 2) S.nd (dx_lst (da_nil))) (ds_seq (ds_for (passes_of rfl) rfl (di_range1 Z.n_range (de_var 0)) (dg_name (i := 3) S.nd) (ds_one (ds_app (i := 2) rfl (de_callTy call_tupA cd_tup Z.n_tuple (by decide +kernel) (da_cons (de_frz (dx_lc (nm := [("k", 4)]) rfl S.nd (di_range1 Z.n_range (de_var 0)) (by kernel_rfl) (by decide) (fun _ _ _ _ _ => dg_name (i := 4) S.nd) (fun _ _ _ _ _ => dts_nil) (fun _ _ _ _ _ => de_callB call_lenA cd_len Z.n_len (by decide +kernel) (da_cons (de_frz (dx_lc (nm := [("line", 5)]) rfl S.nd (di_seq rfl (de_var 1)) (by kernel_rfl) (by decide) (fun _ _ _ _ _ => dg_name (i := 5) S.nd) (fun _ _ _ _ _ => dts_one (dt_cmp (op_gtK hr.units) od_cmpK (de_ix ix_seq od_ix (de_var 5) (de_var 3)) (de_var 4) (nomark _))) (fun _ _ _ _ _ => de_var 5))) (da_nil))))) (da_nil)))))) (ds_one (ds_ret (de_callTy call_tupA cd_tup Z.n_tuple (by decide +kernel) (da_cons (de_varF 2) (da_nil)))))))
/-! ### round_pile -/
def F_round_pile : En → Fl := sSeq (sDrop (eF (xCall f_require_pile (aCons (eV 0) (aCons (eV 0) (aCons (eV 0) (aCons (eV 1) (aNil)))))))) (sRetX (xCall f_led_round (aCons (eV 0) (aCons (eV 1) (aNil)))))
def f_round_pile : En → Rf := runF 2 2 F_round_pile
theorem s_round_pile : FnScope ["a", "pile"] ["a", "pile"] (defScope (top 24)) := ⟨rfl, rfl, rfl, by decide +kernel, rfl, by decide +kernel, by decide +kernel⟩
theorem ok_round_pile {P : Program} {w : World} {mg : Str → Option Value} {base : Heap} {G : Gm} {f : Addr} {fd : FuncData} (F : FunD G.K "round_pile" "round_pile" (defArgs (top 24)) (defBody (top 24)) (defScope (top 24)) [] [] f fd) (Z : Fcts G.K mg) (C_require_pile : Cal G true P w mg base 5 "require_pile" ["a", "b", "c", "pile"] f_require_pile) (C_led_round : Cal G true P w mg base 1 "led_round" ["a", "pile"] f_led_round) :
    FnG true P w G.K mg base 6 f fd ["a", "pile"] (spD G f_round_pile) :=
  have S := s_round_pile
  fnD' F S fun pd cdv A outer s H E hr hgu =>
    (ds_seq (ds_expr (de_frz (dx_callC rfl (C_require_pile.pd pd) (hr.mono (by decide)) hgu (takes_of rfl rfl rfl rfl) (da_cons (de_var 0) (da_cons (de_var 0) (da_cons (de_var 0) (da_cons (de_var 1) (da_nil)))))))) (ds_one (ds_retX (dx_callC rfl (C_led_round.pd pd) (hr.mono (by decide)) hgu (takes_of rfl rfl rfl rfl) (da_cons (de_var 0) (da_cons (de_var 1) (da_nil)))))))
/-! ### _law_roll -/
def F__law_roll : En → Fl := sSeq (sIf (tB1 (eOp oGt (eIxO 0 (eC (.int 0))) (eC (.int 0)))) (sSeq (sSet (eOp oMod (eCB cInt (aCons (eIxO 0 (eC (.int 0))) (aNil))) (eV 1)) 2) (sSeq (sSetIx 0 (eOp oDiv (eIxO 0 (eC (.int 0))) (eV 1)) (eC (.int 0))) (sRet (eV 2)))) (sNil)) (sSeq (sSetIx 0 (eOp oAdd (eIxO 0 (eC (.int 2))) (eC (.int 1))) (eC (.int 2))) (sSeq (sSet (eOp oMod (eCB cInt (aCons (eOp oAdd (eIxO 0 (eC (.int 1))) (eOp oMul (eC (.int 15486209)) (eIxO 0 (eC (.int 2))))) (aNil))) (eC (.int 2305843009213693951))) 3) (sSeq (sSet (eOp oAdd (eOp oMul (eOp oMod (eCB cInt (aCons (eOp oAdd (eOp oMul (eV 3) (eV 3)) (eOp oMul (eC (.int 199)) (eIxO 0 (eC (.int 2))))) (aNil))) (eC (.int 2305843009213693907))) (eC (.int 7368751))) (eV 3)) 4) (sRet (eOp oMod (eCB cInt (aCons (eOp oDiv (eV 4) (eC (.int 65536))) (aNil))) (eV 1))))))
def f__law_roll : En → Rf := runF 5 2 F__law_roll
theorem s__law_roll : FnScope ["dice", "total", "found", "one", "two"] ["dice", "total"] (defScope (top 27)) := ⟨rfl, rfl, rfl, by decide +kernel, rfl, by decide +kernel, by decide +kernel⟩
theorem ok__law_roll {P : Program} {w : World} {mg : Str → Option Value} {base : Heap} {G : Gm} {f : Addr} {fd : FuncData} (F : FunD G.K "_law_roll" "_law_roll" (defArgs (top 27)) (defBody (top 27)) (defScope (top 27)) [] [] f fd) (Z : Fcts G.K mg)  :
    FnG true P w G.K mg base 1 f fd ["dice", "total"] (spD G f__law_roll) :=
  have S := s__law_roll
  fnD' F S fun pd cdv A outer s H E hr hgu =>
    (ds_seq (ds_if (dt_cmp op_gt od_cmp (de_ixO (i := 0) rfl (de_int)) (de_int) (nomark _)) (ds_seq (ds_set (i := 2) S.nd (de_op op_modA od_mod (de_callTy call_int1 cd_int Z.n_int (by decide +kernel) (da_cons (de_ixO (i := 0) rfl (de_int)) (da_nil))) (de_var 1))) (ds_seq (ds_setIx (i := 0) rfl (de_op op_divA od_div (de_ixO (i := 0) rfl (de_int)) (de_var 1)) (de_int)) (ds_one (ds_ret (de_var 2))))) (ds_nil)) (ds_seq (ds_setIx (i := 0) rfl (de_op op_addA od_add (de_ixO (i := 0) rfl (de_int)) (de_int)) (de_int)) (ds_seq (ds_set (i := 3) S.nd (de_op op_modA od_mod (de_callTy call_int1 cd_int Z.n_int (by decide +kernel) (da_cons (de_op op_addA od_add (de_ixO (i := 0) rfl (de_int)) (de_op op_mulA od_mul (de_int) (de_ixO (i := 0) rfl (de_int)))) (da_nil))) (de_int))) (ds_seq (ds_set (i := 4) S.nd (de_op op_addA od_add (de_op op_mulA od_mul (de_op op_modA od_mod (de_callTy call_int1 cd_int Z.n_int (by decide +kernel) (da_cons (de_op op_addA od_add (de_op op_mulA od_mul (de_var 3) (de_var 3)) (de_op op_mulA od_mul (de_int) (de_ixO (i := 0) rfl (de_int)))) (da_nil))) (de_int)) (de_int)) (de_var 3))) (ds_one (ds_ret (de_op op_modA od_mod (de_callTy call_int1 cd_int Z.n_int (by decide +kernel) (da_cons (de_op op_divA od_div (de_var 4) (de_int)) (da_nil))) (de_var 1))))))))
/-! ### _law_pile -/
def g__law_pile_b1 : En → Fl := sSeq (sSet (eCB (cBest false) (aCons (eF (xLst (aCons (eIf (tB1 (eOp oGtK (eV 5) (eC (.int 0)))) (eOp oIx (eIxO 4 (eOp oSub (eV 5) (eC (.int 1)))) (eV 7)) (eV 3)) (aCons (eIf (tB1 (eOp oGtK (eV 7) (eC (.int 0)))) (eIxO 6 (eUn oNeg (eC (.int 1)))) (eV 3)) (aNil))))) (aNil))) 8) (sApp 6 (eIf (tB1 (eOp oEq (eF (xCallI 0 f__law_roll (aCons (eC (.int 2)) (aNil)))) (eC (.int 0)))) (eOp oSub (eV 8) (eF (xCallI 0 f__law_roll (aCons (eOp oAdd (eV 8) (eC (.int 1))) (aNil))))) (eV 8)))
def g__law_pile_b2 : En → Fl := sSeq (sAsgX (xLst (aNil)) 6) (sSeq (sFor (iRg1 (eV 2)) (gN 7) (g__law_pile_b1)) (sApp 4 (eVF 6)))
def g__law_pile_e3 : En → R D := eCB cTup (aCons (eV 6) (aNil))
def F__law_pile : En → Fl := sSeq (sAsgX (xLst (aNil)) 4) (sSeq (sFor (iRg1 (eV 1)) (gN 5) (g__law_pile_b2)) (sRet (eCB cTup (aCons (eF (xLc [6] (iSeq (eVF 4)) (gN 6) (tT) (g__law_pile_e3))) (aNil)))))
def f__law_pile : En → Rf := runF 9 4 F__law_pile
theorem s__law_pile : FnScope ["dice", "a", "b", "c", "found", "i", "line", "j", "most"] ["dice", "a", "b", "c"] (defScope (top 29)) := ⟨rfl, rfl, rfl, by decide +kernel, rfl, by decide +kernel, by decide +kernel⟩
theorem ok__law_pile {P : Program} {w : World} {mg : Str → Option Value} {base : Heap} {G : Gm} {f : Addr} {fd : FuncData} (F : FunD G.K "_law_pile" "_law_pile" (defArgs (top 29)) (defBody (top 29)) (defScope (top 29)) [] [] f fd) (Z : Fcts G.K mg) (C__law_roll : Cal G true P w mg base 1 "_law_roll" ["dice", "total"] f__law_roll) :
    FnG true P w G.K mg base 2 f fd ["dice", "a", "b", "c"] (spD G f__law_pile) :=
  have S := s__law_pile
  fnD' F S fun pd cdv A outer s H E hr hgu =>
    (ds_seq (ds_setX (i := 4) S.nd (dx_lst (da_nil))) (ds_seq (ds_for (passes_of rfl) rfl (di_range1 Z.n_range (de_var 1)) (dg_name (i := 5) S.nd) (ds_seq (ds_setX (i := 6) S.nd (dx_lst (da_nil))) (ds_seq (ds_for (passes_of rfl) rfl (di_range1 Z.n_range (de_var 2)) (dg_name (i := 7) S.nd) (ds_seq (ds_set (i := 8) S.nd (de_callB (cr_minS rfl hr.units) cd_best Z.n_min (by decide +kernel) (da_cons (de_frz (dx_lst (da_cons (de_if (dt_cmp (op_gtK hr.units) od_cmpK (de_var 5) (de_int) (nomark _)) (de_ix ix_seq od_ix (de_ixO (i := 4) rfl (de_op op_sub od_sub (de_var 5) (de_int))) (de_var 7)) (de_var 3)) (da_cons (de_if (dt_cmp (op_gtK hr.units) od_cmpK (de_var 7) (de_int) (nomark _)) (de_ixO (i := 6) rfl (de_un un_neg ud_neg (de_int))) (de_var 3)) (da_nil))))) (da_nil)))) (ds_one (ds_app (i := 6) rfl (de_if (dt_cmp (op_eqZ hr.units) od_eq (de_frz (dx_callIC (i := 0) rfl (C__law_roll.pd pd) (hr.mono (by decide)) hgu (takes_of rfl rfl rfl rfl) (da_cons (de_int) (da_nil)))) (de_int) (nomark _)) (de_op op_sub od_sub (de_var 8) (de_frz (dx_callIC (i := 0) rfl (C__law_roll.pd pd) (hr.mono (by decide)) hgu (takes_of rfl rfl rfl rfl) (da_cons (de_op op_addA od_add (de_var 8) (de_int)) (da_nil))))) (de_var 8)))))) (ds_one (ds_app (i := 4) rfl (de_varF 6)))))) (ds_one (ds_ret (de_callTy call_tupA cd_tup Z.n_tuple (by decide +kernel) (da_cons (de_frz (dx_lc (nm := [("line", 6)]) rfl S.nd (di_seq rfl (de_varF 4)) (by kernel_rfl) (by decide) (fun _ _ _ _ _ => dg_name (i := 6) S.nd) (fun _ _ _ _ _ => dts_nil) (fun _ _ _ _ _ => de_callTy call_tupA cd_tup Z.n_tuple (by decide +kernel) (da_cons (de_var 6) (da_nil))))) (da_nil)))))))
/-! ### _law_near -/
def g__law_near_e1 : En → R D := eF (xRevA (eV 9))
def g__law_near_e2 : En → R D := eOp oAdd (eV 9) (eTup (aCons (eC (.int 0)) (aNil)))
def g__law_near_e3 : En → R D := eF (xCB nList (aCons (eV 9) (aNil)))
def g__law_near_b4 : En → Fl := sSeq (sPars [7, 8] (yCons (xV (eF (xCallI 0 f__law_roll (aCons (eV 1) (aNil))))) (yCons (xV (eF (xCallI 0 f__law_roll (aCons (eV 2) (aNil))))) (yNil)))) (sApp 5 (eOp oAdd (eOp oAdd (eF (xSlc (eV 4) (pNo) (pE (eV 7)))) (eTup (aCons (eOp oAdd (eOp oAdd (eF (xSlc (eOp oIx (eV 4) (eV 7)) (pNo) (pE (eV 8)))) (eTup (aCons (eV 6) (aNil)))) (eF (xSlc (eOp oIx (eV 4) (eV 7)) (pE (eOp oAdd (eV 8) (eC (.int 1)))) (pNo)))) (aNil)))) (eF (xSlc (eV 4) (pE (eOp oAdd (eV 7) (eC (.int 1)))) (pNo)))))
def F__law_near : En → Fl := sSeq (sAsgX (xLst (aCons (eV 4) (aCons (eF (xCB nList (aCons (eV 4) (aNil)))) (aCons (eF (xRevA (eV 4))) (aCons (eCB cTup (aCons (eF (xLc [9] (iSeq (eV 4)) (gN 9) (tT) (g__law_near_e1))) (aNil))) (aCons (eF (xSlc (eV 4) (pE (eC (.int 1))) (pNo))) (aCons (eOp oAdd (eV 4) (eTup (aCons (eOp oIx (eV 4) (eUn oNeg (eC (.int 1)))) (aNil)))) (aCons (eC .none) (aCons (eC (.int 0)) (aNil)))))))))) 5) (sSeq (sAsgX (xOp nCat (eVF 5) (eF (xLst (aCons (eTup (aNil)) (aCons (eDic) (aCons (eCB cTup (aCons (eF (xLc [9] (iSeq (eV 4)) (gN 9) (tT) (g__law_near_e3))) (aNil))) (aCons (eCB cTup (aCons (eF (xLc [9] (iSeq (eV 4)) (gN 9) (tT) (g__law_near_e2))) (aNil))) (aNil)))))))) 5) (sSeq (sApp 5 (eOp oMulT (eTup (aCons (eOp oMulT (eTup (aCons (eC (.int 0)) (aNil))) (eV 2)) (aNil))) (eV 1))) (sSeq (sFor (iSeq (eTup (aCons (eOp oAdd (eV 3) (eC (.int 1))) (aCons (eV 3) (aCons (eUn oNeg (eC (.int 1))) (aCons (eC .none) (aCons (eC (.bool true)) (aCons (eC (.str (PySem.Str.ofString "0"))) (aCons (eOp oPow (eC (.int 10)) (eC (.int 60))) (aCons (eTup (aCons (eC (.int 0)) (aNil))) (aNil))))))))))) (gN 6) (g__law_near_b4)) (sRetV 5))))
def f__law_near : En → Rf := runF 10 5 F__law_near
theorem s__law_near : FnScope ["dice", "a", "b", "c", "pile", "found", "odd", "i", "j", "line"] ["dice", "a", "b", "c", "pile"] (defScope (top 33)) := ⟨rfl, rfl, rfl, by decide +kernel, rfl, by decide +kernel, by decide +kernel⟩
theorem ok__law_near {P : Program} {w : World} {mg : Str → Option Value} {base : Heap} {G : Gm} {f : Addr} {fd : FuncData} (F : FunD G.K "_law_near" "_law_near" (defArgs (top 33)) (defBody (top 33)) (defScope (top 33)) [] [] f fd) (Z : Fcts G.K mg) (C__law_roll : Cal G true P w mg base 1 "_law_roll" ["dice", "total"] f__law_roll) :
    FnG true P w G.K mg base 2 f fd ["dice", "a", "b", "c", "pile"] (spD G f__law_near) :=
  have S := s__law_near
  fnD' F S fun pd cdv A outer s H E hr hgu =>
    (ds_seq (ds_setX (i := 5) S.nd (dx_lst (da_cons (de_var 4) (da_cons (de_frz (dx_callTy call_list_of cn_list Z.n_list (by decide +kernel) (da_cons (de_var 4) (da_nil)))) (da_cons (de_frz (dx_revA rfl (de_var 4))) (da_cons (de_callTy call_tupA cd_tup Z.n_tuple (by decide +kernel) (da_cons (de_frz (dx_lc (nm := [("line", 9)]) rfl S.nd (di_seq rfl (de_var 4)) (by kernel_rfl) (by decide) (fun _ _ _ _ _ => dg_name (i := 9) S.nd) (fun _ _ _ _ _ => dts_nil) (fun _ _ _ _ _ => de_frz (dx_revA rfl (de_var 9))))) (da_nil))) (da_cons (de_frz (dx_slc rfl (de_var 4) (dp_some (de_int)) (dp_no))) (da_cons (de_op op_addA od_add (de_var 4) (de_tup (da_cons (de_ix ix_seq od_ix (de_var 4) (de_un un_neg ud_neg (de_int))) (da_nil)))) (da_cons (de_non) (da_cons (de_int) (da_nil))))))))))) (ds_seq (ds_setX (i := 5) S.nd (dx_op op_cat on_cat (de_varF 5) (de_frz (dx_lst (da_cons (de_tup (da_nil)) (da_cons (de_dic) (da_cons (de_callTy call_tupA cd_tup Z.n_tuple (by decide +kernel) (da_cons (de_frz (dx_lc (nm := [("line", 9)]) rfl S.nd (di_seq rfl (de_var 4)) (by kernel_rfl) (by decide) (fun _ _ _ _ _ => dg_name (i := 9) S.nd) (fun _ _ _ _ _ => dts_nil) (fun _ _ _ _ _ => de_frz (dx_callTy call_list_of cn_list Z.n_list (by decide +kernel) (da_cons (de_var 9) (da_nil)))))) (da_nil))) (da_cons (de_callTy call_tupA cd_tup Z.n_tuple (by decide +kernel) (da_cons (de_frz (dx_lc (nm := [("line", 9)]) rfl S.nd (di_seq rfl (de_var 4)) (by kernel_rfl) (by decide) (fun _ _ _ _ _ => dg_name (i := 9) S.nd) (fun _ _ _ _ _ => dts_nil) (fun _ _ _ _ _ => de_op op_addA od_add (de_var 9) (de_tup (da_cons (de_int) (da_nil)))))) (da_nil))) (da_nil))))))))) (ds_seq (ds_app (i := 5) rfl (de_op op_mulT od_mulT (de_tup (da_cons (de_op op_mulT od_mulT (de_tup (da_cons (de_int) (da_nil))) (de_var 2)) (da_nil))) (de_var 1))) (ds_seq (ds_for (passes_of rfl) rfl (di_seq rfl (de_tup (da_cons (de_op op_addA od_add (de_var 3) (de_int)) (da_cons (de_var 3) (da_cons (de_un un_neg ud_neg (de_int)) (da_cons (de_non) (da_cons (de_bl) (da_cons (de_str) (da_cons (de_op op_pow od_pow (de_int) (de_int)) (da_cons (de_tup (da_cons (de_int) (da_nil))) (da_nil))))))))))) (dg_name (i := 6) S.nd) (ds_seq (ds_par2 (i := 7) (j := 8) rfl S.nd (dy_cons (dx_val (de_frz (dx_callIC (i := 0) rfl (C__law_roll.pd pd) (hr.mono (by decide)) hgu (takes_of rfl rfl rfl rfl) (da_cons (de_var 1) (da_nil))))) (dy_cons (dx_val (de_frz (dx_callIC (i := 0) rfl (C__law_roll.pd pd) (hr.mono (by decide)) hgu (takes_of rfl rfl rfl rfl) (da_cons (de_var 2) (da_nil))))) (dy_nil)))) (ds_one (ds_app (i := 5) rfl (de_op op_addA od_add (de_op op_addA od_add (de_frz (dx_slc rfl (de_var 4) (dp_no) (dp_some (de_var 7)))) (de_tup (da_cons (de_op op_addA od_add (de_op op_addA od_add (de_frz (dx_slc rfl (de_ix ix_seq od_ix (de_var 4) (de_var 7)) (dp_no) (dp_some (de_var 8)))) (de_tup (da_cons (de_var 6) (da_nil)))) (de_frz (dx_slc rfl (de_ix ix_seq od_ix (de_var 4) (de_var 7)) (dp_some (de_op op_addA od_add (de_var 8) (de_int))) (dp_no)))) (da_nil)))) (de_frz (dx_slc rfl (de_var 4) (dp_some (de_op op_addA od_add (de_var 7) (de_int))) (dp_no)))))))) (ds_one (ds_retV (i := 5)))))))
/-! ### _law_cubes -/
def g__law_cubes_e1 : En → R D := eTup (aCons (eV 2) (aCons (eV 4) (aCons (eV 6) (aNil))))
def g__law_cubes_b2 : En → Fl := sExt 1 (xLc [6] (iRg1 (eV 5)) (gN 6) (tT) (g__law_cubes_e1))
def g__law_cubes_b3 : En → Fl := sFor (iEnA (eV 3)) (gTA 2 (gsC (gN 4) (gsC (gN 5) (gsN)))) (g__law_cubes_b2)
def F__law_cubes : En → Fl := sSeq (sAsgX (xLst (aNil)) 1) (sSeq (sFor (iEnA (eV 0)) (gTA 2 (gsC (gN 2) (gsC (gN 3) (gsN)))) (g__law_cubes_b3)) (sRetV 1))
def f__law_cubes : En → Rf := runF 7 1 F__law_cubes
theorem s__law_cubes : FnScope ["pile", "found", "i", "line", "j", "one", "k"] ["pile"] (defScope (top 31)) := ⟨rfl, rfl, rfl, by decide +kernel, rfl, by decide +kernel, by decide +kernel⟩
theorem ok__law_cubes {P : Program} {w : World} {mg : Str → Option Value} {base : Heap} {G : Gm} {f : Addr} {fd : FuncData} (F : FunD G.K "_law_cubes" "_law_cubes" (defArgs (top 31)) (defBody (top 31)) (defScope (top 31)) [] [] f fd) (Z : Fcts G.K mg)  :
    FnG true P w G.K mg base 1 f fd ["pile"] (spD G f__law_cubes) :=
  have S := s__law_cubes
  fnD' F S fun pd cdv A outer s H E hr hgu =>
    (ds_seq (ds_setX (i := 1) S.nd (dx_lst (da_nil))) (ds_seq (ds_for (passes_of rfl) rfl (di_enumA rfl Z.n_enumerate (de_var 0)) (dg_tupA rfl rfl (dgs_cons (dg_name (i := 2) S.nd) (dgs_cons (dg_name (i := 3) S.nd) (dgs_nil)))) (ds_one (ds_for (passes_of rfl) rfl (di_enumA rfl Z.n_enumerate (de_var 3)) (dg_tupA rfl rfl (dgs_cons (dg_name (i := 4) S.nd) (dgs_cons (dg_name (i := 5) S.nd) (dgs_nil)))) (ds_one (ds_ext (i := 1) rfl (dx_lc (nm := [("k", 6)]) rfl S.nd (di_range1 Z.n_range (de_var 5)) (by kernel_rfl) (by decide) (fun _ _ _ _ _ => dg_name (i := 6) S.nd) (fun _ _ _ _ _ => dts_nil) (fun _ _ _ _ _ => de_tup (da_cons (de_var 2) (da_cons (de_var 4) (da_cons (de_var 6) (da_nil))))))))))) (ds_one (ds_retV (i := 1)))))
/-! ### _law_by_cubes -/
def g__law_by_cubes_e1 : En → R D := eV 6
def g__law_by_cubes_t2 : En → R Bool := tB1 (eOp oEq (eF (xSlc (eV 6) (pNo) (pE (eC (.int 2))))) (eTup (aCons (eV 4) (aCons (eV 5) (aNil)))))
def g__law_by_cubes_e3 : En → R D := eCB cLen (aCons (eF (xLc [6] (iSeq (eV 2)) (gN 6) (g__law_by_cubes_t2) (g__law_by_cubes_e1))) (aNil))
def g__law_by_cubes_b4 : En → Fl := sApp 3 (eCB cTup (aCons (eF (xLc [5] (iRg1 (eV 1)) (gN 5) (tT) (g__law_by_cubes_e3))) (aNil)))
def F__law_by_cubes : En → Fl := sSeq (sAsgX (xLst (aNil)) 3) (sSeq (sFor (iRg1 (eV 0)) (gN 4) (g__law_by_cubes_b4)) (sRet (eCB cTup (aCons (eVF 3) (aNil)))))
def f__law_by_cubes : En → Rf := runF 7 3 F__law_by_cubes
theorem s__law_by_cubes : FnScope ["a", "b", "cubes", "found", "i", "j", "cube"] ["a", "b", "cubes"] (defScope (top 32)) := ⟨rfl, rfl, rfl, by decide +kernel, rfl, by decide +kernel, by decide +kernel⟩
theorem ok__law_by_cubes {P : Program} {w : World} {mg : Str → Option Value} {base : Heap} {G : Gm} {f : Addr} {fd : FuncData} (F : FunD G.K "_law_by_cubes" "_law_by_cubes" (defArgs (top 32)) (defBody (top 32)) (defScope (top 32)) [] [] f fd) (Z : Fcts G.K mg)  :
    FnG true P w G.K mg base 1 f fd ["a", "b", "cubes"] (spD G f__law_by_cubes) :=
  have S := s__law_by_cubes
  fnD' F S fun pd cdv A outer s H E hr hgu =>
    (ds_seq (ds_setX (i := 3) S.nd (dx_lst (da_nil))) (ds_seq (ds_for (passes_of rfl) rfl (di_range1 Z.n_range (de_var 0)) (dg_name (i := 4) S.nd) (ds_one (ds_app (i := 3) rfl (de_callTy call_tupA cd_tup Z.n_tuple (by decide +kernel) (da_cons (de_frz (dx_lc (nm := [("j", 5)]) rfl S.nd (di_range1 Z.n_range (de_var 1)) (by kernel_rfl) (by decide) (fun _ _ _ _ _ => dg_name (i := 5) S.nd) (fun _ _ _ _ _ => dts_nil) (fun _ _ _ _ _ => de_callB call_lenA cd_len Z.n_len (by decide +kernel) (da_cons (de_frz (dx_lc (nm := [("cube", 6)]) rfl S.nd (di_seq rfl (de_var 2)) (by kernel_rfl) (by decide) (fun _ _ _ _ _ => dg_name (i := 6) S.nd) (fun _ _ _ _ _ => dts_one (dt_cmp (op_eqZ hr.units) od_eq (de_frz (dx_slc rfl (de_var 6) (dp_no) (dp_some (de_int)))) (de_tup (da_cons (de_var 4) (da_cons (de_var 5) (da_nil)))) (nomark _))) (fun _ _ _ _ _ => de_var 6))) (da_nil))))) (da_nil)))))) (ds_one (ds_ret (de_callTy call_tupA cd_tup Z.n_tuple (by decide +kernel) (da_cons (de_varF 3) (da_nil)))))))
/-! ### _law_is_integer -/
def F__law_is_integer : En → Fl := sRet (eAnd (eUn (cIsi "int") (eV 0)) (eAnd (eNot (eUn (cIsi "bool") (eV 0))) (eChain oLeK oLeK (eV 1) (eV 0) (eV 2))))
def f__law_is_integer : En → Rf := runF 3 3 F__law_is_integer
theorem s__law_is_integer : FnScope ["value", "least", "most"] ["value", "least", "most"] (defScope (top 28)) := ⟨rfl, rfl, rfl, by decide +kernel, rfl, by decide +kernel, by decide +kernel⟩
theorem ok__law_is_integer {P : Program} {w : World} {mg : Str → Option Value} {base : Heap} {G : Gm} {f : Addr} {fd : FuncData} (F : FunD G.K "_law_is_integer" "_law_is_integer" (defArgs (top 28)) (defBody (top 28)) (defScope (top 28)) [] [] f fd) (Z : Fcts G.K mg)  :
    FnG true P w G.K mg base 1 f fd ["value", "least", "most"] (spD G f__law_is_integer) :=
  have S := s__law_is_integer
  fnD' F S fun pd cdv A outer s H E hr hgu =>
    (ds_one (ds_ret (de_and (de_isi (t := "int") rfl Z.n_isinstance Z.n_int (by decide +kernel) (de_var 0)) (de_and (de_not (de_isi (t := "bool") rfl Z.n_isinstance Z.n_bool (by decide +kernel) (de_var 0))) (de_one (de_chain (op_leK hr.units) od_cmpK (op_leK hr.units) od_cmpK (de_var 1) (de_var 0) (de_var 2)))))))
/-! ### _law_is_pile -/
def g__law_is_pile_e1 : En → R D := eV 7
def g__law_is_pile_t2 : En → R Bool := tNot1 (tTru (eF (xCall f__law_is_integer (aCons (eV 7) (aCons (eC (.int 0)) (aCons (eV 2) (aNil)))))))
def g__law_is_pile_b3 : En → Fl := sSeq (sIf (tOr1 (tNot1 (tTru (eUn (cIsi "tuple") (eV 4)))) (tB1 (eOp oNe (eCB cLen (aCons (eV 4) (aNil))) (eV 1)))) (sRet (eC (.bool false))) (sNil)) (sIf (tB1 (eOp oNe (eF (xLc [7] (iSeq (eV 4)) (gN 7) (g__law_is_pile_t2) (g__law_is_pile_e1))) (eF (xLst (aNil))))) (sRet (eC (.bool false))) (sNil))
def g__law_is_pile_b4 : En → Fl := sIf (tOr1 (tAnd1 (tB1 (eOp oGtK (eV 5) (eC (.int 0)))) (tB1 (eOp oGtK (eOp oIx (eOp oIx (eV 3) (eV 5)) (eV 6)) (eOp oIx (eOp oIx (eV 3) (eOp oSub (eV 5) (eC (.int 1)))) (eV 6))))) (tAnd1 (tB1 (eOp oGtK (eV 6) (eC (.int 0)))) (tB1 (eOp oGtK (eOp oIx (eOp oIx (eV 3) (eV 5)) (eV 6)) (eOp oIx (eOp oIx (eV 3) (eV 5)) (eOp oSub (eV 6) (eC (.int 1)))))))) (sRet (eC (.bool false))) (sNil)
def g__law_is_pile_b5 : En → Fl := sFor (iRg1 (eV 1)) (gN 6) (g__law_is_pile_b4)
def F__law_is_pile : En → Fl := sSeq (sIf (tOr1 (tNot1 (tTru (eUn (cIsi "tuple") (eV 3)))) (tB1 (eOp oNe (eCB cLen (aCons (eV 3) (aNil))) (eV 0)))) (sRet (eC (.bool false))) (sNil)) (sSeq (sFor (iSeq (eV 3)) (gN 4) (g__law_is_pile_b3)) (sSeq (sFor (iRg1 (eV 0)) (gN 5) (g__law_is_pile_b5)) (sRet (eC (.bool true)))))
def f__law_is_pile : En → Rf := runF 8 4 F__law_is_pile
theorem s__law_is_pile : FnScope ["a", "b", "c", "value", "line", "i", "j", "one"] ["a", "b", "c", "value"] (defScope (top 30)) := ⟨rfl, rfl, rfl, by decide +kernel, rfl, by decide +kernel, by decide +kernel⟩
theorem ok__law_is_pile {P : Program} {w : World} {mg : Str → Option Value} {base : Heap} {G : Gm} {f : Addr} {fd : FuncData} (F : FunD G.K "_law_is_pile" "_law_is_pile" (defArgs (top 30)) (defBody (top 30)) (defScope (top 30)) [] [] f fd) (Z : Fcts G.K mg) (C__law_is_integer : Cal G true P w mg base 1 "_law_is_integer" ["value", "least", "most"] f__law_is_integer) :
    FnG true P w G.K mg base 2 f fd ["a", "b", "c", "value"] (spD G f__law_is_pile) :=
  have S := s__law_is_pile
  fnD' F S fun pd cdv A outer s H E hr hgu =>
    (ds_seq (ds_if (PW.pt (dw_or (dt_not (dt_tru rfl (de_isi (t := "tuple") rfl Z.n_isinstance Z.n_tuple (by decide +kernel) (de_var 3)))) (dw_or1 (dt_cmp (op_neZ hr.units) od_ne (de_callB call_lenA cd_len Z.n_len (by decide +kernel) (da_cons (de_var 3) (da_nil))) (de_var 0) (nomark _))))) (ds_one (ds_ret (de_bl))) (ds_nil)) (ds_seq (ds_for (passes_of rfl) rfl (di_seq rfl (de_var 3)) (dg_name (i := 4) S.nd) (ds_seq (ds_if (PW.pt (dw_or (dt_not (dt_tru rfl (de_isi (t := "tuple") rfl Z.n_isinstance Z.n_tuple (by decide +kernel) (de_var 4)))) (dw_or1 (dt_cmp (op_neZ hr.units) od_ne (de_callB call_lenA cd_len Z.n_len (by decide +kernel) (da_cons (de_var 4) (da_nil))) (de_var 1) (nomark _))))) (ds_one (ds_ret (de_bl))) (ds_nil)) (ds_one (ds_if (dt_cmp (op_neZ hr.units) od_ne (de_frz (dx_lc (nm := [("one", 7)]) rfl S.nd (di_seq rfl (de_var 4)) (by kernel_rfl) (by decide) (fun _ _ _ _ _ => dg_name (i := 7) S.nd) (fun _ _ _ _ _ => dts_one (dt_not (dt_tru rfl (de_frz (dx_callC rfl (C__law_is_integer.pd pd) (hr.mono (by decide)) hgu L2.takes0 (da_cons (de_var 7) (da_cons (de_int) (da_cons (de_var 2) (da_nil))))))))) (fun _ _ _ _ _ => de_var 7))) (de_frz (dx_lst (da_nil))) (nomark _)) (ds_one (ds_ret (de_bl))) (ds_nil))))) (ds_seq (ds_for (passes_of rfl) rfl (di_range1 Z.n_range (de_var 0)) (dg_name (i := 5) S.nd) (ds_one (ds_for (passes_of rfl) rfl (di_range1 Z.n_range (de_var 1)) (dg_name (i := 6) S.nd) (ds_one (ds_if (PW.pt (dw_or (PW.pt (dw_and (dt_cmp (op_gtK hr.units) od_cmpK (de_var 5) (de_int) (nomark _)) (dw_and1 (dt_cmp (op_gtK hr.units) od_cmpK (de_ix ix_seq od_ix (de_ix ix_seq od_ix (de_var 3) (de_var 5)) (de_var 6)) (de_ix ix_seq od_ix (de_ix ix_seq od_ix (de_var 3) (de_op op_sub od_sub (de_var 5) (de_int))) (de_var 6)) (nomark _))))) (dw_or1 (PW.pt (dw_and (dt_cmp (op_gtK hr.units) od_cmpK (de_var 6) (de_int) (nomark _)) (dw_and1 (dt_cmp (op_gtK hr.units) od_cmpK (de_ix ix_seq od_ix (de_ix ix_seq od_ix (de_var 3) (de_var 5)) (de_var 6)) (de_ix ix_seq od_ix (de_ix ix_seq od_ix (de_var 3) (de_var 5)) (de_op op_sub od_sub (de_var 6) (de_int))) (nomark _)))))))) (ds_one (ds_ret (de_bl))) (ds_nil)))))) (ds_one (ds_ret (de_bl))))))
/-! ### _law_right -/
def g__law_right_b1 : En → Fl := sIf (tB1 (eRep2 false (eF (xCall f_is_pile (aCons (eV 1) (aCons (eV 2) (aCons (eV 3) (aCons (eV 5) (aNil))))))) (eF (xCall f__law_is_pile (aCons (eV 1) (aCons (eV 2) (aCons (eV 3) (aCons (eV 5) (aNil))))))))) (sRet (eC (.bool false))) (sNil)
def g__law_right_e2 : En → R D := eTup (aCons (eV 17) (aCons (eV 16) (aCons (eV 18) (aNil))))
def g__law_right_e3 : En → R D := eTup (aCons (eOp oSub (eOp oSub (eV 1) (eC (.int 1))) (eV 16)) (aCons (eOp oSub (eOp oSub (eV 2) (eC (.int 1))) (eV 17)) (aCons (eOp oSub (eOp oSub (eV 3) (eC (.int 1))) (eV 18)) (aNil))))
def g__law_right_t4 : En → R Bool := tB1 (eOp oNotIn (eTup (aCons (eV 16) (aCons (eV 17) (aCons (eV 18) (aNil))))) (eV 6))
def g__law_right_e5 : En → R D := eCB cSumA (aCons (eV 19) (aNil))
def g__law_right_e6 : En → R D := eTup (aCons (eV 21) (aCons (eV 22) (aNil)))
def g__law_right_e7 : En → R D := eF (xLc [21, 22] (iZp (eV 19) (eV 20)) (gTA 2 (gsC (gN 21) (gsC (gN 22) (gsN)))) (tT) (g__law_right_e6))
def g__law_right_e8 : En → R D := eOp oIx (eF (xCB nSrtA (aCons (eV 23) (aNil)))) (eV 12)
def g__law_right_e9 : En → R D := eCB cTup (aCons (eF (xLc [23] (iSeq (eV 19)) (gN 23) (tT) (g__law_right_e8))) (aNil))
def g__law_right_b10 : En → Fl := sSeq (sSet (eCB cTup (aCons (eF (xLc [19] (iSeq (eVF 11)) (gN 19) (tT) (g__law_right_e9))) (aNil))) 13) (sIf (tB1 (eOp oNotB (eF (xCall f_is_pile (aCons (eV 1) (aCons (eV 2) (aCons (eV 3) (aCons (eV 13) (aNil))))))) (eC (.bool true)))) (sRet (eC (.bool false))) (sNil))
def g__law_right_e11 : En → R D := eTup (aCons (eV 17) (aCons (eV 18) (aCons (eV 16) (aNil))))
def F__law_right : En → Fl := sSeq (sPars [1, 2, 3] (yCons (xV (eOp oAdd (eC (.int 1)) (eF (xCallI 0 f__law_roll (aCons (eC (.int 4)) (aNil)))))) (yCons (xV (eOp oAdd (eC (.int 1)) (eF (xCallI 0 f__law_roll (aCons (eC (.int 4)) (aNil)))))) (yCons (xV (eOp oAdd (eC (.int 1)) (eF (xCallI 0 f__law_roll (aCons (eC (.int 4)) (aNil)))))) (yNil))))) (sSeq (sSet (eF (xCallI 0 f__law_pile (aCons (eV 1) (aCons (eV 2) (aCons (eV 3) (aNil)))))) 4) (sSeq (sFor (iSeq (eF (xCallI 0 f__law_near (aCons (eV 1) (aCons (eV 2) (aCons (eV 3) (aCons (eV 4) (aNil)))))))) (gN 5) (g__law_right_b1)) (sSeq (sSet (eF (xCall f__law_cubes (aCons (eV 4) (aNil)))) 6) (sSeq (sIf (tB1 (eRep2 false (eF (xCall f_pile_size (aCons (eV 1) (aCons (eV 2) (aCons (eV 3) (aCons (eV 4) (aNil))))))) (eCB cLen (aCons (eV 6) (aNil))))) (sRet (eC (.bool false))) (sNil)) (sSeq (sSet (eF (xCall f__law_by_cubes (aCons (eV 2) (aCons (eV 1) (aCons (eF (xLc [16, 17, 18] (iSeq (eV 6)) (gTA 3 (gsC (gN 16) (gsC (gN 17) (gsC (gN 18) (gsN))))) (tT) (g__law_right_e2))) (aNil)))))) 7) (sSeq (sSet (eF (xCall f__law_cubes (aCons (eOp oMulT (eTup (aCons (eOp oMulT (eTup (aCons (eV 3) (aNil))) (eV 2)) (aNil))) (eV 1)) (aNil)))) 8) (sSeq (sSet (eF (xCall f__law_by_cubes (aCons (eV 1) (aCons (eV 2) (aCons (eF (xLc [16, 17, 18] (iSeq (eV 8)) (gTA 3 (gsC (gN 16) (gsC (gN 17) (gsC (gN 18) (gsN))))) (g__law_right_t4) (g__law_right_e3))) (aNil)))))) 9) (sSeq (sIf (tB1 (eRep2 false (eF (xLst (aCons (eF (xCall f_turned_pile (aCons (eV 1) (aCons (eV 2) (aCons (eV 3) (aCons (eV 4) (aNil))))))) (aCons (eF (xCall f_rest_pile (aCons (eV 1) (aCons (eV 2) (aCons (eV 3) (aCons (eV 4) (aNil))))))) (aNil))))) (eF (xLst (aCons (eV 7) (aCons (eV 9) (aNil))))))) (sRet (eC (.bool false))) (sNil)) (sSeq (sIf (tOr1 (tB1 (eOp oNe (eF (xCall f_rest_pile (aCons (eV 1) (aCons (eV 2) (aCons (eV 3) (aCons (eV 9) (aNil))))))) (eV 4))) (tB1 (eOp oNe (eF (xCall f_turned_pile (aCons (eV 2) (aCons (eV 1) (aCons (eV 3) (aCons (eV 7) (aNil))))))) (eV 4)))) (sRet (eC (.bool false))) (sNil)) (sSeq (sIf (tB1 (eOp oNe (eOp oAdd (eCB cLen (aCons (eV 6) (aNil))) (eCB cSumA (aCons (eF (xLc [19] (iSeq (eV 9)) (gN 19) (tT) (g__law_right_e5))) (aNil)))) (eOp oMul (eOp oMul (eV 1) (eV 2)) (eV 3)))) (sRet (eC (.bool false))) (sNil)) (sSeq (sSet (eF (xCallI 0 f__law_pile (aCons (eV 1) (aCons (eV 2) (aCons (eV 3) (aNil)))))) 10) (sSeq (sAsgX (xLc [19, 20] (iZp (eV 4) (eV 10)) (gTA 2 (gsC (gN 19) (gsC (gN 20) (gsN)))) (tT) (g__law_right_e7)) 11) (sSeq (sFor (iSeq (eTup (aCons (eC (.int 0)) (aCons (eC (.int 1)) (aNil))))) (gN 12) (g__law_right_b10)) (sSeq (sSet (eF (xCallI 0 f__law_pile (aCons (eV 1) (aCons (eV 1) (aCons (eV 1) (aNil)))))) 14) (sSeq (sSet (eF (xCall f__law_by_cubes (aCons (eV 1) (aCons (eV 1) (aCons (eF (xLc [16, 17, 18] (iSeq (eF (xCall f__law_cubes (aCons (eV 14) (aNil))))) (gTA 3 (gsC (gN 16) (gsC (gN 17) (gsC (gN 18) (gsN))))) (tT) (g__law_right_e11))) (aNil)))))) 15) (sSeq (sIf (tB1 (eRep2 false (eF (xCall f_round_pile (aCons (eV 1) (aCons (eV 14) (aNil))))) (eV 15))) (sRet (eC (.bool false))) (sNil)) (sRet (eOp oEq (eF (xCall f_round_pile (aCons (eV 1) (aCons (eF (xCall f_round_pile (aCons (eV 1) (aCons (eV 15) (aNil))))) (aNil))))) (eV 14)))))))))))))))))))
def f__law_right : En → Rf := runF 24 1 F__law_right
theorem s__law_right : FnScope ["dice", "a", "b", "c", "pile", "value", "cubes", "turned", "every", "rest", "other", "pairs", "spot", "both", "some", "round_one", "i", "j", "k", "line", "more", "one", "two", "pair"] ["dice"] (defScope (top 34)) := ⟨rfl, rfl, rfl, by decide +kernel, rfl, by decide +kernel, by decide +kernel⟩
theorem ok__law_right {P : Program} {w : World} {mg : Str → Option Value} {base : Heap} {G : Gm} {f : Addr} {fd : FuncData} (F : FunD G.K "_law_right" "_law_right" (defArgs (top 34)) (defBody (top 34)) (defScope (top 34)) [] [] f fd) (Z : Fcts G.K mg) (C__law_roll : Cal G true P w mg base 1 "_law_roll" ["dice", "total"] f__law_roll) (C__law_pile : Cal G true P w mg base 2 "_law_pile" ["dice", "a", "b", "c"] f__law_pile) (C__law_near : Cal G true P w mg base 2 "_law_near" ["dice", "a", "b", "c", "pile"] f__law_near) (C_is_pile : Cal G true P w mg base 5 "is_pile" ["a", "b", "c", "value"] f_is_pile) (C__law_is_pile : Cal G true P w mg base 2 "_law_is_pile" ["a", "b", "c", "value"] f__law_is_pile) (C__law_cubes : Cal G true P w mg base 1 "_law_cubes" ["pile"] f__law_cubes) (C_pile_size : Cal G true P w mg base 6 "pile_size" ["a", "b", "c", "pile"] f_pile_size) (C__law_by_cubes : Cal G true P w mg base 1 "_law_by_cubes" ["a", "b", "cubes"] f__law_by_cubes) (C_rest_pile : Cal G true P w mg base 6 "rest_pile" ["a", "b", "c", "pile"] f_rest_pile) (C_turned_pile : Cal G true P w mg base 6 "turned_pile" ["a", "b", "c", "pile"] f_turned_pile) (C_round_pile : Cal G true P w mg base 6 "round_pile" ["a", "pile"] f_round_pile) :
    FnG true P w G.K mg base 7 f fd ["dice"] (spD G f__law_right) :=
  have S := s__law_right
  fnD' F S fun pd cdv A outer s H E hr hgu =>
    (ds_seq (ds_pars (is := [1, 2, 3]) rfl rfl (dy_cons (dx_val (de_op op_addA od_add (de_int) (de_frz (dx_callIC (i := 0) rfl (C__law_roll.pd pd) (hr.mono (by decide)) hgu (takes_of rfl rfl rfl rfl) (da_cons (de_int) (da_nil)))))) (dy_cons (dx_val (de_op op_addA od_add (de_int) (de_frz (dx_callIC (i := 0) rfl (C__law_roll.pd pd) (hr.mono (by decide)) hgu (takes_of rfl rfl rfl rfl) (da_cons (de_int) (da_nil)))))) (dy_cons (dx_val (de_op op_addA od_add (de_int) (de_frz (dx_callIC (i := 0) rfl (C__law_roll.pd pd) (hr.mono (by decide)) hgu (takes_of rfl rfl rfl rfl) (da_cons (de_int) (da_nil)))))) (dy_nil)))) (pgs_cons (pg_name (i := 1) S.nd rfl (by first | exact Or.inl rfl | exact Or.inr rfl)) (pgs_cons (pg_name (i := 2) S.nd rfl (by first | exact Or.inl rfl | exact Or.inr rfl)) (pgs_cons (pg_name (i := 3) S.nd rfl (by first | exact Or.inl rfl | exact Or.inr rfl)) (pgs_nil))))) (ds_seq (ds_set (i := 4) S.nd (de_frz (dx_callIC (i := 0) rfl (C__law_pile.pd pd) (hr.mono (by decide)) hgu (takes_of rfl rfl rfl rfl) (da_cons (de_var 1) (da_cons (de_var 2) (da_cons (de_var 3) (da_nil))))))) (ds_seq (ds_for (passes_of rfl) rfl (di_seq rfl (de_frz (dx_callIC (i := 0) rfl (C__law_near.pd pd) (hr.mono (by decide)) hgu (takes_of rfl rfl rfl rfl) (da_cons (de_var 1) (da_cons (de_var 2) (da_cons (de_var 3) (da_cons (de_var 4) (da_nil)))))))) (dg_name (i := 5) S.nd) (ds_one (ds_if (dt_repNe rfl (hgu rfl) hr.units Z.n_repr (de_frz (dx_callC rfl (C_is_pile.pd pd) (hr.mono (by decide)) hgu (takes_of rfl rfl rfl rfl) (da_cons (de_var 1) (da_cons (de_var 2) (da_cons (de_var 3) (da_cons (de_var 5) (da_nil))))))) (de_frz (dx_callC rfl (C__law_is_pile.pd pd) (hr.mono (by decide)) hgu (takes_of rfl rfl rfl rfl) (da_cons (de_var 1) (da_cons (de_var 2) (da_cons (de_var 3) (da_cons (de_var 5) (da_nil)))))))) (ds_one (ds_ret (de_bl))) (ds_nil)))) (ds_seq (ds_set (i := 6) S.nd (de_frz (dx_callC rfl (C__law_cubes.pd pd) (hr.mono (by decide)) hgu (takes_of rfl rfl rfl rfl) (da_cons (de_var 4) (da_nil))))) (ds_seq (ds_if (dt_repNe rfl (hgu rfl) hr.units Z.n_repr (de_frz (dx_callC rfl (C_pile_size.pd pd) (hr.mono (by decide)) hgu (takes_of rfl rfl rfl rfl) (da_cons (de_var 1) (da_cons (de_var 2) (da_cons (de_var 3) (da_cons (de_var 4) (da_nil))))))) (de_callB call_lenA cd_len Z.n_len (by decide +kernel) (da_cons (de_var 6) (da_nil)))) (ds_one (ds_ret (de_bl))) (ds_nil)) (ds_seq (ds_set (i := 7) S.nd (de_frz (dx_callC rfl (C__law_by_cubes.pd pd) (hr.mono (by decide)) hgu (takes_of rfl rfl rfl rfl) (da_cons (de_var 2) (da_cons (de_var 1) (da_cons (de_frz (dx_lc (nm := [("i", 16), ("j", 17), ("k", 18)]) rfl S.nd (di_seq rfl (de_var 6)) (by kernel_rfl) (by decide) (fun _ _ _ _ _ => dg_tupA rfl rfl (dgs_cons (dg_name (i := 16) S.nd) (dgs_cons (dg_name (i := 17) S.nd) (dgs_cons (dg_name (i := 18) S.nd) (dgs_nil))))) (fun _ _ _ _ _ => dts_nil) (fun _ _ _ _ _ => de_tup (da_cons (de_var 17) (da_cons (de_var 16) (da_cons (de_var 18) (da_nil))))))) (da_nil))))))) (ds_seq (ds_set (i := 8) S.nd (de_frz (dx_callC rfl (C__law_cubes.pd pd) (hr.mono (by decide)) hgu (takes_of rfl rfl rfl rfl) (da_cons (de_op op_mulT od_mulT (de_tup (da_cons (de_op op_mulT od_mulT (de_tup (da_cons (de_var 3) (da_nil))) (de_var 2)) (da_nil))) (de_var 1)) (da_nil))))) (ds_seq (ds_set (i := 9) S.nd (de_frz (dx_callC rfl (C__law_by_cubes.pd pd) (hr.mono (by decide)) hgu (takes_of rfl rfl rfl rfl) (da_cons (de_var 1) (da_cons (de_var 2) (da_cons (de_frz (dx_lc (nm := [("i", 16), ("j", 17), ("k", 18)]) rfl S.nd (di_seq rfl (de_var 8)) (by kernel_rfl) (by decide) (fun _ _ _ _ _ => dg_tupA rfl rfl (dgs_cons (dg_name (i := 16) S.nd) (dgs_cons (dg_name (i := 17) S.nd) (dgs_cons (dg_name (i := 18) S.nd) (dgs_nil))))) (fun _ _ _ _ _ => dts_one (dt_cmp (op_notInZ hr.units65) od_notIn (de_tup (da_cons (de_var 16) (da_cons (de_var 17) (da_cons (de_var 18) (da_nil))))) (de_var 6) (by with_unfolding_all rfl))) (fun _ _ _ _ _ => de_tup (da_cons (de_op op_sub od_sub (de_op op_sub od_sub (de_var 1) (de_int)) (de_var 16)) (da_cons (de_op op_sub od_sub (de_op op_sub od_sub (de_var 2) (de_int)) (de_var 17)) (da_cons (de_op op_sub od_sub (de_op op_sub od_sub (de_var 3) (de_int)) (de_var 18)) (da_nil))))))) (da_nil))))))) (ds_seq (ds_if (dt_repNe rfl (hgu rfl) hr.units Z.n_repr (de_frz (dx_lst (da_cons (de_frz (dx_callC rfl (C_turned_pile.pd pd) (hr.mono (by decide)) hgu (takes_of rfl rfl rfl rfl) (da_cons (de_var 1) (da_cons (de_var 2) (da_cons (de_var 3) (da_cons (de_var 4) (da_nil))))))) (da_cons (de_frz (dx_callC rfl (C_rest_pile.pd pd) (hr.mono (by decide)) hgu (takes_of rfl rfl rfl rfl) (da_cons (de_var 1) (da_cons (de_var 2) (da_cons (de_var 3) (da_cons (de_var 4) (da_nil))))))) (da_nil))))) (de_frz (dx_lst (da_cons (de_var 7) (da_cons (de_var 9) (da_nil)))))) (ds_one (ds_ret (de_bl))) (ds_nil)) (ds_seq (ds_if (PW.pt (dw_or (dt_cmp (op_neZ hr.units) od_ne (de_frz (dx_callC rfl (C_rest_pile.pd pd) (hr.mono (by decide)) hgu (takes_of rfl rfl rfl rfl) (da_cons (de_var 1) (da_cons (de_var 2) (da_cons (de_var 3) (da_cons (de_var 9) (da_nil))))))) (de_var 4) (nomark _)) (dw_or1 (dt_cmp (op_neZ hr.units) od_ne (de_frz (dx_callC rfl (C_turned_pile.pd pd) (hr.mono (by decide)) hgu (takes_of rfl rfl rfl rfl) (da_cons (de_var 2) (da_cons (de_var 1) (da_cons (de_var 3) (da_cons (de_var 7) (da_nil))))))) (de_var 4) (nomark _))))) (ds_one (ds_ret (de_bl))) (ds_nil)) (ds_seq (ds_if (dt_cmp (op_neZ hr.units) od_ne (de_op op_addA od_add (de_callB call_lenA cd_len Z.n_len (by decide +kernel) (da_cons (de_var 6) (da_nil))) (de_callB (cr_sumA rfl) cd_sumA Z.n_sum (by decide +kernel) (da_cons (de_frz (dx_lc (nm := [("line", 19)]) rfl S.nd (di_seq rfl (de_var 9)) (by kernel_rfl) (by decide) (fun _ _ _ _ _ => dg_name (i := 19) S.nd) (fun _ _ _ _ _ => dts_nil) (fun _ _ _ _ _ => de_callB (cr_sumA rfl) cd_sumA Z.n_sum (by decide +kernel) (da_cons (de_var 19) (da_nil))))) (da_nil)))) (de_op op_mulA od_mul (de_op op_mulA od_mul (de_var 1) (de_var 2)) (de_var 3)) (nomark _)) (ds_one (ds_ret (de_bl))) (ds_nil)) (ds_seq (ds_set (i := 10) S.nd (de_frz (dx_callIC (i := 0) rfl (C__law_pile.pd pd) (hr.mono (by decide)) hgu (takes_of rfl rfl rfl rfl) (da_cons (de_var 1) (da_cons (de_var 2) (da_cons (de_var 3) (da_nil))))))) (ds_seq (ds_setLc (i := 11) (nm := [("line", 19), ("more", 20)]) rfl S.nd (di_zip rfl Z.n_zip (de_var 4) (de_var 10)) (by kernel_rfl) (by decide) (fun _ _ _ _ _ => dg_tupA rfl rfl (dgs_cons (dg_name (i := 19) S.nd) (dgs_cons (dg_name (i := 20) S.nd) (dgs_nil)))) (fun _ _ _ _ _ => dts_nil) (fun _ _ _ _ _ => de_frz (dx_lc (nm := [("one", 21), ("two", 22)]) rfl S.nd (di_zip rfl Z.n_zip (de_var 19) (de_var 20)) (by kernel_rfl) (by decide) (fun _ _ _ _ _ => dg_tupA rfl rfl (dgs_cons (dg_name (i := 21) S.nd) (dgs_cons (dg_name (i := 22) S.nd) (dgs_nil)))) (fun _ _ _ _ _ => dts_nil) (fun _ _ _ _ _ => de_tup (da_cons (de_var 21) (da_cons (de_var 22) (da_nil))))))) (ds_seq (ds_for (passes_of rfl) rfl (di_seq rfl (de_tup (da_cons (de_int) (da_cons (de_int) (da_nil))))) (dg_name (i := 12) S.nd) (ds_seq (ds_set (i := 13) S.nd (de_callTy call_tupA cd_tup Z.n_tuple (by decide +kernel) (da_cons (de_frz (dx_lc (nm := [("line", 19)]) rfl S.nd (di_seq rfl (de_varF 11)) (by kernel_rfl) (by decide) (fun _ _ _ _ _ => dg_name (i := 19) S.nd) (fun _ _ _ _ _ => dts_nil) (fun _ _ _ _ _ => de_callTy call_tupA cd_tup Z.n_tuple (by decide +kernel) (da_cons (de_frz (dx_lc (nm := [("pair", 23)]) rfl S.nd (di_seq rfl (de_var 19)) (by kernel_rfl) (by decide) (fun _ _ _ _ _ => dg_name (i := 23) S.nd) (fun _ _ _ _ _ => dts_nil) (fun _ _ _ _ _ => de_ix ix_seq od_ix (de_frz (dx_callB (cr_srtA hr.units) cn_srtA Z.n_sorted (by decide +kernel) (da_cons (de_var 23) (da_nil)))) (de_var 12)))) (da_nil))))) (da_nil)))) (ds_one (ds_if (dt_cmp op_notBl od_notB (de_frz (dx_callC rfl (C_is_pile.pd pd) (hr.mono (by decide)) hgu (takes_of rfl rfl rfl rfl) (da_cons (de_var 1) (da_cons (de_var 2) (da_cons (de_var 3) (da_cons (de_var 13) (da_nil))))))) (de_bl) (nomark _)) (ds_one (ds_ret (de_bl))) (ds_nil))))) (ds_seq (ds_set (i := 14) S.nd (de_frz (dx_callIC (i := 0) rfl (C__law_pile.pd pd) (hr.mono (by decide)) hgu (takes_of rfl rfl rfl rfl) (da_cons (de_var 1) (da_cons (de_var 1) (da_cons (de_var 1) (da_nil))))))) (ds_seq (ds_set (i := 15) S.nd (de_frz (dx_callC rfl (C__law_by_cubes.pd pd) (hr.mono (by decide)) hgu (takes_of rfl rfl rfl rfl) (da_cons (de_var 1) (da_cons (de_var 1) (da_cons (de_frz (dx_lc (nm := [("i", 16), ("j", 17), ("k", 18)]) rfl S.nd (di_seq rfl (de_frz (dx_callC rfl (C__law_cubes.pd pd) (hr.mono (by decide)) hgu (takes_of rfl rfl rfl rfl) (da_cons (de_var 14) (da_nil))))) (by kernel_rfl) (by decide) (fun _ _ _ _ _ => dg_tupA rfl rfl (dgs_cons (dg_name (i := 16) S.nd) (dgs_cons (dg_name (i := 17) S.nd) (dgs_cons (dg_name (i := 18) S.nd) (dgs_nil))))) (fun _ _ _ _ _ => dts_nil) (fun _ _ _ _ _ => de_tup (da_cons (de_var 17) (da_cons (de_var 18) (da_cons (de_var 16) (da_nil))))))) (da_nil))))))) (ds_seq (ds_if (dt_repNe rfl (hgu rfl) hr.units Z.n_repr (de_frz (dx_callC rfl (C_round_pile.pd pd) (hr.mono (by decide)) hgu (takes_of rfl rfl rfl rfl) (da_cons (de_var 1) (da_cons (de_var 14) (da_nil))))) (de_var 15)) (ds_one (ds_ret (de_bl))) (ds_nil)) (ds_one (ds_ret (de_cmp (op_eqZ hr.units) od_eq (de_frz (dx_callC rfl (C_round_pile.pd pd) (hr.mono (by decide)) hgu (takes_of rfl rfl rfl rfl) (da_cons (de_var 1) (da_cons (de_frz (dx_callC rfl (C_round_pile.pd pd) (hr.mono (by decide)) hgu (takes_of rfl rfl rfl rfl) (da_cons (de_var 1) (da_cons (de_var 15) (da_nil))))) (da_nil))))) (de_var 14) (nomark _)))))))))))))))))))))
/-! ### law -/
def g_law_b1 : En → Fl := sIf (tNot1 (tTru (eF (xCallI 2 f__law_right (aNil))))) (sRet (eC (.bool false))) (sNil)
def g_law_b2 : En → Fl := sSeq (sAsgX (xCallR 0 f__law_dice (aCons (eV 1) (aNil))) 2) (sFor (iRg1 (eC (.int 5))) (gN 3) (g_law_b1))
def F_law : En → Fl := sSeq (sFor (iRg1 (eCB cMax2 (aCons (eC (.int 1)) (aCons (eCB cMin2 (aCons (eC (.int 5)) (aCons (eLenO 0) (aNil)))) (aNil))))) (gN 1) (g_law_b2)) (sSeq (sAsgX (xLst (aCons (eF (xCall f_turned_pile (aCons (eC (.int 1)) (aCons (eC (.int 2)) (aCons (eC (.int 2)) (aCons (eTup (aCons (eTup (aCons (eC (.int 2)) (aCons (eC (.int 1)) (aNil)))) (aNil))) (aNil))))))) (aCons (eF (xCall f_rest_pile (aCons (eC (.int 1)) (aCons (eC (.int 2)) (aCons (eC (.int 2)) (aCons (eTup (aCons (eTup (aCons (eC (.int 2)) (aCons (eC (.int 1)) (aNil)))) (aNil))) (aNil))))))) (aCons (eF (xCall f_is_pile (aCons (eC (.int 1)) (aCons (eC (.int 2)) (aCons (eC (.int 2)) (aCons (eTup (aCons (eTup (aCons (eC (.int 1)) (aCons (eC (.int 2)) (aNil)))) (aNil))) (aNil))))))) (aNil))))) 4) (sSeq (sAsgX (xOp nCat (eVF 4) (eF (xLst (aCons (eF (xCall f_round_pile (aCons (eC (.int 2)) (aCons (eTup (aCons (eTup (aCons (eC (.int 2)) (aCons (eC (.int 0)) (aNil)))) (aCons (eTup (aCons (eC (.int 0)) (aCons (eC (.int 0)) (aNil)))) (aNil)))) (aNil))))) (aCons (eF (xCall f_round_pile (aCons (eC (.int 2)) (aCons (eTup (aCons (eTup (aCons (eC (.int 1)) (aCons (eC (.int 1)) (aNil)))) (aCons (eTup (aCons (eC (.int 1)) (aCons (eC (.int 0)) (aNil)))) (aNil)))) (aNil))))) (aCons (eF (xCall f_rest_pile (aCons (eC (.int 2)) (aCons (eC (.int 1)) (aCons (eC (.int 3)) (aCons (eTup (aCons (eTup (aCons (eC (.int 3)) (aNil))) (aCons (eTup (aCons (eC (.int 0)) (aNil))) (aNil)))) (aNil))))))) (aNil))))))) 4) (sSeq (sApp 4 (eF (xCall f_pile_size (aCons (eC (.int 2)) (aCons (eC (.int 2)) (aCons (eC (.int 2)) (aCons (eTup (aCons (eTup (aCons (eC (.int 2)) (aCons (eC (.int 1)) (aNil)))) (aCons (eTup (aCons (eC (.int 1)) (aCons (eC (.int 0)) (aNil)))) (aNil)))) (aNil)))))))) (sSeq (sAsgX (xLst (aCons (eTup (aCons (eTup (aCons (eC (.int 2)) (aNil))) (aCons (eTup (aCons (eC (.int 1)) (aNil))) (aNil)))) (aCons (eTup (aCons (eTup (aCons (eC (.int 1)) (aCons (eC (.int 0)) (aNil)))) (aNil))) (aCons (eC (.bool false)) (aCons (eTup (aCons (eTup (aCons (eC (.int 1)) (aCons (eC (.int 1)) (aNil)))) (aCons (eTup (aCons (eC (.int 0)) (aCons (eC (.int 0)) (aNil)))) (aNil)))) (aCons (eTup (aCons (eTup (aCons (eC (.int 2)) (aCons (eC (.int 0)) (aNil)))) (aCons (eTup (aCons (eC (.int 1)) (aCons (eC (.int 0)) (aNil)))) (aNil)))) (aCons (eTup (aCons (eTup (aCons (eC (.int 3)) (aNil))) (aCons (eTup (aCons (eC (.int 0)) (aNil))) (aNil)))) (aCons (eC (.int 4)) (aNil))))))))) 5) (sRet (eAnd (eOp oEq (eVF 4) (eVF 5)) (eOp oIsB (eF (xCall f_is_pile (aCons (eC (.int 12)) (aCons (eC (.int 12)) (aCons (eC (.int 12)) (aCons (eOp oMulT (eTup (aCons (eOp oMulT (eTup (aCons (eC (.int 12)) (aNil))) (eC (.int 12))) (aNil))) (eC (.int 12))) (aNil))))))) (eC (.bool true)))))))))
def f_law : En → Rf := runF 6 1 F_law
theorem s_law : FnScope ["script", "spot", "dice", "turn", "told", "due"] ["script"] (defScope (top 35)) := ⟨rfl, rfl, rfl, by decide +kernel, rfl, by decide +kernel, by decide +kernel⟩
theorem ok_law {P : Program} {w : World} {mg : Str → Option Value} {base : Heap} {G : Gm} {f : Addr} {fd : FuncData} (F : FunD G.K "law" "law" (defArgs (top 35)) (defBody (top 35)) (defScope (top 35)) [] [] f fd) (Z : Fcts G.K mg) (C__law_dice : Cal G true P w mg base 1 "_law_dice" ["script", "spot"] f__law_dice) (C__law_right : Cal G true P w mg base 7 "_law_right" ["dice"] f__law_right) (C_is_pile : Cal G true P w mg base 5 "is_pile" ["a", "b", "c", "value"] f_is_pile) (C_rest_pile : Cal G true P w mg base 6 "rest_pile" ["a", "b", "c", "pile"] f_rest_pile) (C_turned_pile : Cal G true P w mg base 6 "turned_pile" ["a", "b", "c", "pile"] f_turned_pile) (C_round_pile : Cal G true P w mg base 6 "round_pile" ["a", "pile"] f_round_pile) (C_pile_size : Cal G true P w mg base 6 "pile_size" ["a", "b", "c", "pile"] f_pile_size) :
    FnG true P w G.K mg base 8 f fd ["script"] (spD G f_law) :=
  have S := s_law
  fnD' F S fun pd cdv A outer s H E hr hgu =>
    (ds_seq (ds_for (passes_of rfl) rfl (di_range1 Z.n_range (de_callB (call_max2 rfl) cd_max2 Z.n_max (by decide +kernel) (da_cons (de_int) (da_cons (de_callB (call_min2 rfl) cd_min2 Z.n_min (by decide +kernel) (da_cons (de_int) (da_cons (de_lenO (i := 0) rfl Z.n_len (by decide +kernel)) (da_nil)))) (da_nil))))) (dg_name (i := 1) S.nd) (ds_seq (ds_setX (i := 2) S.nd (dx_callRC (i := 0) rfl (C__law_dice.pd pd) (hr.mono (by decide)) hgu (takes_of rfl rfl rfl rfl) (da_cons (de_var 1) (da_nil)))) (ds_one (ds_for (passes_of rfl) rfl (di_range1 Z.n_range (de_int)) (dg_name (i := 3) S.nd) (ds_one (ds_if (dt_not (dt_tru rfl (de_frz (dx_callIC (i := 2) rfl (C__law_right.pd pd) (hr.mono (by decide)) hgu (takes_of rfl rfl rfl rfl) (da_nil))))) (ds_one (ds_ret (de_bl))) (ds_nil))))))) (ds_seq (ds_setX (i := 4) S.nd (dx_lst (da_cons (de_frz (dx_callC rfl (C_turned_pile.pd pd) (hr.mono (by decide)) hgu (takes_of rfl rfl rfl rfl) (da_cons (de_int) (da_cons (de_int) (da_cons (de_int) (da_cons (de_tup (da_cons (de_tup (da_cons (de_int) (da_cons (de_int) (da_nil)))) (da_nil))) (da_nil))))))) (da_cons (de_frz (dx_callC rfl (C_rest_pile.pd pd) (hr.mono (by decide)) hgu (takes_of rfl rfl rfl rfl) (da_cons (de_int) (da_cons (de_int) (da_cons (de_int) (da_cons (de_tup (da_cons (de_tup (da_cons (de_int) (da_cons (de_int) (da_nil)))) (da_nil))) (da_nil))))))) (da_cons (de_frz (dx_callC rfl (C_is_pile.pd pd) (hr.mono (by decide)) hgu (takes_of rfl rfl rfl rfl) (da_cons (de_int) (da_cons (de_int) (da_cons (de_int) (da_cons (de_tup (da_cons (de_tup (da_cons (de_int) (da_cons (de_int) (da_nil)))) (da_nil))) (da_nil))))))) (da_nil)))))) (ds_seq (ds_setX (i := 4) S.nd (dx_op op_cat on_cat (de_varF 4) (de_frz (dx_lst (da_cons (de_frz (dx_callC rfl (C_round_pile.pd pd) (hr.mono (by decide)) hgu (takes_of rfl rfl rfl rfl) (da_cons (de_int) (da_cons (de_tup (da_cons (de_tup (da_cons (de_int) (da_cons (de_int) (da_nil)))) (da_cons (de_tup (da_cons (de_int) (da_cons (de_int) (da_nil)))) (da_nil)))) (da_nil))))) (da_cons (de_frz (dx_callC rfl (C_round_pile.pd pd) (hr.mono (by decide)) hgu (takes_of rfl rfl rfl rfl) (da_cons (de_int) (da_cons (de_tup (da_cons (de_tup (da_cons (de_int) (da_cons (de_int) (da_nil)))) (da_cons (de_tup (da_cons (de_int) (da_cons (de_int) (da_nil)))) (da_nil)))) (da_nil))))) (da_cons (de_frz (dx_callC rfl (C_rest_pile.pd pd) (hr.mono (by decide)) hgu (takes_of rfl rfl rfl rfl) (da_cons (de_int) (da_cons (de_int) (da_cons (de_int) (da_cons (de_tup (da_cons (de_tup (da_cons (de_int) (da_nil))) (da_cons (de_tup (da_cons (de_int) (da_nil))) (da_nil)))) (da_nil))))))) (da_nil)))))))) (ds_seq (ds_app (i := 4) rfl (de_frz (dx_callC rfl (C_pile_size.pd pd) (hr.mono (by decide)) hgu (takes_of rfl rfl rfl rfl) (da_cons (de_int) (da_cons (de_int) (da_cons (de_int) (da_cons (de_tup (da_cons (de_tup (da_cons (de_int) (da_cons (de_int) (da_nil)))) (da_cons (de_tup (da_cons (de_int) (da_cons (de_int) (da_nil)))) (da_nil)))) (da_nil)))))))) (ds_seq (ds_setX (i := 5) S.nd (dx_lst (da_cons (de_tup (da_cons (de_tup (da_cons (de_int) (da_nil))) (da_cons (de_tup (da_cons (de_int) (da_nil))) (da_nil)))) (da_cons (de_tup (da_cons (de_tup (da_cons (de_int) (da_cons (de_int) (da_nil)))) (da_nil))) (da_cons (de_bl) (da_cons (de_tup (da_cons (de_tup (da_cons (de_int) (da_cons (de_int) (da_nil)))) (da_cons (de_tup (da_cons (de_int) (da_cons (de_int) (da_nil)))) (da_nil)))) (da_cons (de_tup (da_cons (de_tup (da_cons (de_int) (da_cons (de_int) (da_nil)))) (da_cons (de_tup (da_cons (de_int) (da_cons (de_int) (da_nil)))) (da_nil)))) (da_cons (de_tup (da_cons (de_tup (da_cons (de_int) (da_nil))) (da_cons (de_tup (da_cons (de_int) (da_nil))) (da_nil)))) (da_cons (de_int) (da_nil)))))))))) (ds_one (ds_ret (de_and (de_cmp (op_eqZ hr.units) od_eq (de_varF 4) (de_varF 5) (nomark _)) (de_one (de_cmp op_isBl od_isB (de_frz (dx_callC rfl (C_is_pile.pd pd) (hr.mono (by decide)) hgu (takes_of rfl rfl rfl rfl) (da_cons (de_int) (da_cons (de_int) (da_cons (de_int) (da_cons (de_op op_mulT od_mulT (de_tup (da_cons (de_op op_mulT od_mulT (de_tup (da_cons (de_int) (da_nil))) (de_int)) (da_nil))) (de_int)) (da_nil))))))) (de_bl) (nomark _)))))))))))
end K62
set_option maxHeartbeats 400000
/-! K62g: calls, lists by places (as in K18), by mk62g.py -/
namespace K62
open PySem L2 DL
theorem sIf_f0 {t : En → R Bool} {a : En → Fl} {r r1 : En} (h : t r = .ok false r1) : sIf t a sNil r = .nx r1 := Eq.trans (sIf_f h) rfl
theorem eChain_t {o o' : D → D → Option D} {f g h : En → R D} {r r1 r2 r3 : En} {x y z d : D} (h1 : f r = .ok x r1) (h2 : g r1 = .ok y r2) (h3 : o x y = some (.bool true)) (h4 : h r2 = .ok z r3) (h5 : o' y z = some d) : eChain o o' f g h r = .ok d r3 := by
  unfold eChain
  rw [h1]
  simp only [R.bind]
  rw [h2]
  simp only [h3]
  rw [h4]
  simp only [h5, liftO]
theorem bools_map : ∀ bs : List Bool, boolsD (bs.map PyData.bool) = some bs
  | [] => rfl
  | b :: bs => by
    show (boolsD (bs.map PyData.bool)).map (b :: ·) = _
    rw [bools_map bs]
    rfl
theorem cAll_map {α : Type} (p : α → Bool) (xs : List α) : cAll [.list (xs.map fun x => .bool (p x))] = some (.bool (xs.all p)) := by
  have e : xs.map (fun x => PyData.bool (p x)) = (xs.map p).map PyData.bool := by rw [List.map_map]; rfl
  show (boolsD _).map _ = _
  rw [e, bools_map]
  show some (PyData.bool ((xs.map p).all id)) = _
  rw [List.all_map]
  rfl
theorem leK {i j : Int} : oLeK (.int i) (.int j) = some (.bool (decide (i ≤ j))) := rfl
theorem geK {i j : Int} : oGeK (.int i) (.int j) = some (.bool (decide (j ≤ i))) := rfl
theorem gtK {i j : Int} : oGtK (.int i) (.int j) = some (.bool (decide (j < i))) := rfl
theorem zipD_map {α : Type} (f : α → D) : ∀ xs ys : List α, zipD (xs.map f) (ys.map f) = (xs.zip ys).map fun p => .tuple [f p.1, f p.2]
  | [], _ => by simp [zipD]
  | _ :: _, [] => by simp [zipD]
  | x :: xs, y :: ys => by
    simp only [List.map_cons, zipD, List.zip_cons_cons, zipD_map f xs ys]
theorem filt_true {α : Type} (l : List α) : l.filter (fun _ => true) = l := by simp
theorem iZp_of {f g : En → R D} {r r1 r2 : En} {ds es : List D} (h1 : f r = .ok (.tuple ds) r1) (h2 : g r1 = .ok (.tuple es) r2) : iZp f g r = .ok (zipD ds es) r2 := by
  unfold iZp
  rw [h1]
  simp only [R.bind]
  rw [h2]
theorem cut1 (ds : List D) : cutD ds (some 1) none = ds.tail := by
  unfold cutD
  cases ds with
  | nil => rfl
  | cons d ds =>
    have e : HT.sIx (d :: ds).length 0 (some 1) = 1 := by
      simp [HT.sIx]
    rw [e]
    show ((d :: ds).drop 1).take ((d :: ds).length - 1) = ds
    simp
theorem noIo_io {ds : List D} (h : noIo (.io ds) = true) : False := Bool.noConfusion h
theorem ltK {i j : Int} : oLtK (.int i) (.int j) = some (.bool (decide (i < j))) := rfl
/-! ### calls -/

theorem ne_same (a : Int) : oNe (.int a) (.int a) = some (.bool false) := oNe_of (b := true) (by show some (a == a) = _; simp)
theorem call1 {fD : En → Rf} {f : En → R D} {r : En} {a d : D} (ha : f r = .ok a r) (hf : fD [.vl a] = .rt (.vl d) none) : eF (xCall fD (aCons f aNil)) r = .ok d r :=
  eF_of (xCall_of (ds := [a]) (aCons_of ha aNil_of) hf) rfl
theorem call2 {fD : En → Rf} {f g : En → R D} {r : En} {a b d : D} (ha : f r = .ok a r) (hb : g r = .ok b r) (hf : fD [.vl a, .vl b] = .rt (.vl d) none) : eF (xCall fD (aCons f (aCons g aNil))) r = .ok d r :=
  eF_of (xCall_of (ds := [a, b]) (aCons_of ha (aCons_of hb aNil_of)) hf) rfl
theorem call3 {fD : En → Rf} {f g h : En → R D} {r : En} {a b c d : D} (ha : f r = .ok a r) (hb : g r = .ok b r) (hc : h r = .ok c r) (hf : fD [.vl a, .vl b, .vl c] = .rt (.vl d) none) : eF (xCall fD (aCons f (aCons g (aCons h aNil)))) r = .ok d r :=
  eF_of (xCall_of (ds := [a, b, c]) (aCons_of ha (aCons_of hb (aCons_of hc aNil_of))) hf) rfl
theorem addE {f g : En → R D} {r : En} {a b : Int} (h1 : f r = .ok (.int a) r) (h2 : g r = .ok (.int b) r) {c : Int} (e : a + b = c) : eOp oAdd f g r = .ok (.int c) r := by
  subst e
  exact eOp_of h1 h2 rfl
theorem subE {f g : En → R D} {r : En} {a b : Int} (h1 : f r = .ok (.int a) r) (h2 : g r = .ok (.int b) r) {c : Int} (e : a - b = c) : eOp oSub f g r = .ok (.int c) r := by
  subst e
  exact eOp_of h1 h2 rfl
theorem mulE {f g : En → R D} {r : En} {a b : Int} (h1 : f r = .ok (.int a) r) (h2 : g r = .ok (.int b) r) (h : mulOk a b = true) {c : Int} (e : a * b = c) : eOp oMul f g r = .ok (.int c) r := by
  subst e
  exact eOp_of h1 h2 (oMul_of h)
theorem divN (a b : Nat) : (a : Int) / (b : Int) = ((a / b : Nat) : Int) := (Int.natCast_ediv a b).symm
theorem modN (a b : Nat) : (a : Int) % (b : Int) = ((a % b : Nat) : Int) := (Int.natCast_emod a b).symm
theorem beq_cast (a b : Nat) : ((a : Int) == (b : Int)) = Nat.beq a b := by
  rw [Bool.eq_iff_iff, beq_iff_eq, Nat.beq_eq]
  omega
theorem rng0 (m : Nat) : rngD 1 0 m = (List.range m).map fun k : Nat => PyData.int (k : Int) := by
  rw [rngD_map]
  exact List.map_congr_left fun i _ => by rw [Int.zero_add]
theorem rng1 (m : Nat) : rngD 1 1 m = (List.range m).map fun k : Nat => PyData.int ((k + 1 : Nat) : Int) := by
  rw [rngD_map]
  exact List.map_congr_left fun i _ => congrArg PyData.int (by omega)
theorem rollG {ds : List D} {r r1 : En} {n : Int} {f : En → R D} (hd : IsDice ds) (h0 : Sl.isM r[0]? = true) (h1 : r1[0]? = some (.io ds)) (hf : f r = .ok (.int n) r1) (hn : 0 < n) (h2 : n < 1073741824) : ∃ k ds', eF (xCallI 0 f__law_roll (aCons f aNil)) r = .ok (.int k) (r1.set 0 (.io ds')) ∧ 0 ≤ k ∧ k < n ∧ IsDice ds' := by
  obtain ⟨k, ds', w, a, b, c⟩ := roll_some (n := n) hd hn h2
  exact ⟨k, ds', eF_of (xCallI_of (i := 0) (r := r) (r1 := r1) (ds := [.int n]) (s0 := .io ds) (xs := ds) h0 (aCons_of hf aNil_of) h1 rfl w) rfl, a, b, c⟩
/-! ### lists by places -/
theorem atD {α : Type} {e : α → D} {L : List α} {k : Int} {i : Nat} {x : α} (hk : k = (i : Int)) (hx : L[i]? = some x) : atI (L.map e) k = some (e x) := by
  subst hk
  have hl : i < L.length := (List.getElem?_eq_some_iff.mp hx).1
  unfold L2.atI L2.ixN
  rw [List.length_map, if_pos (by omega), if_pos (by omega)]
  simp [hx]
theorem oIxL {α : Type} {e : α → D} {L : List α} {k : Int} {i : Nat} {x : α} (hk : k = (i : Int)) (hx : L[i]? = some x) : oIx (.list (L.map e)) (.int k) = some (e x) := by
  show atI _ _ = _
  exact atD hk hx
theorem oIxT {α : Type} {e : α → D} {L : List α} {k : Int} {i : Nat} {x : α} (hk : k = (i : Int)) (hx : L[i]? = some x) : oIx (.tuple (L.map e)) (.int k) = some (e x) := by
  show atI _ _ = _
  exact atD hk hx
theorem eIxO_at {α : Type} {e : α → D} {i : Nat} {g : En → R D} {r r1 : En} {L : List α} {k : Int} {j : Nat} {x : α} {s : Sl} (h : Sl.has r[i]? = true) (hg : g r = .ok (.int k) r1) (hs : r1[i]? = some s) (hi : s.items = some (L.map e)) (hk : k = (j : Int)) (hx : L[j]? = some x) : eIxO i g r = .ok (e x) r1 := by
  unfold eIxO
  rw [if_pos h, hg]
  simp only [R.bind, hs, hi, ixD, atD hk hx, liftO]
theorem sSetIx_at {α : Type} {e : α → D} {i : Nat} {fe fi : En → R D} {r r1 r2 : En} {L : List α} {v : α} {k : Int} {j : Nat} (h1 : fe r = .ok (e v) r1) (hm : Sl.isM r1[i]? = true) (h2 : fi r1 = .ok (.int k) r2) (hs : r2[i]? = some (.ow (L.map e))) (hk : k = (j : Int)) (hj : j < L.length) : sSetIx i fe fi r = .nx (r2.set i (.ow ((L.set j v).map e))) := by
  subst hk
  unfold sSetIx
  rw [h1]
  simp only [rF]
  rw [if_pos hm, h2]
  have e' : ixN (L.map e).length (j : Int) = some j := by
    unfold L2.ixN
    rw [List.length_map, if_pos (by omega), if_pos (by omega)]
    rfl
  simp only [rF, hs, Sl.mut, e', Sl.put]
  rw [List.map_set]
theorem eAnd_f {f g : En → R D} {r r1 : En} (h1 : f r = .ok (.bool false) r1) : eAnd f g r = .ok (.bool false) r1 := by
  unfold eAnd
  rw [h1]
  rfl
theorem eAnd_b {f g : En → R D} {r : En} {a b : Bool} (h1 : f r = .ok (.bool a) r) (h2 : a = true → g r = .ok (.bool b) r) : eAnd f g r = .ok (.bool (a && b)) r := by
  cases a with
  | true => exact eAnd_t h1 (h2 rfl)
  | false => exact eAnd_f h1
theorem xOp_o {o : D → D → Option (List D)} {f g : En → R D} {r r1 r2 : En} {x y : D} {ds : List D} (h1 : f r = .ok x r1) (h2 : g r1 = .ok y r2) (h3 : o x y = some ds) : xOp o f g r = .ok (.ow ds) r2 := by
  unfold xOp
  rw [h1]
  simp only [R.bind]
  rw [h2]
  simp only [h3]
theorem eIf_t {c : En → R Bool} {a b : En → R D} {r r1 r2 : En} {d : D} (h : c r = .ok true r1) (h2 : a r1 = .ok d r2) : eIf c a b r = .ok d r2 := by
  unfold eIf
  rw [h]
  exact h2
theorem eIf_f {c : En → R Bool} {a b : En → R D} {r r1 r2 : En} {d : D} (h : c r = .ok false r1) (h2 : b r1 = .ok d r2) : eIf c a b r = .ok d r2 := by
  unfold eIf
  rw [h]
  exact h2
structure Near (d : Int) : Prop where
  lo : -1000000000000000000000000000000000000000000000000000000000000 < d
  hi : d < 1000000000000000000000000000000000000000000000000000000000000
theorem near {d : Int} (h : Near d) : f_is_near [.vl (.int d)] = .rt (.vl (.bool true)) none :=
  runF_rt (r := [.vl (.int d)]) rfl (sRet_of (eAnd_t (eF_of (xCall_of (ds := [.int d]) (s := .vl (.bool true)) (aCons_of rfl aNil_of) rfl) rfl) (eChain_t (x := .int (-1000000000000000000000000000000000000000000000000000000000000)) (y := .int d) (z := .int 1000000000000000000000000000000000000000000000000000000000000) rfl rfl (by rw [ltK, decide_eq_true h.lo]) rfl (by rw [ltK, decide_eq_true h.hi])))) rfl rfl
theorem reqN {x lo hi : Int} (hx : Near x) (h1 : lo ≤ x) (h2 : x ≤ hi) : f_require_number [.vl (.int x), .vl (.int lo), .vl (.int hi)] = .rt (.vl .none) none := by
  have a : tB1 (eOp oLtK (eV 0) (eV 1)) [.vl (.int x), .vl (.int lo), .vl (.int hi)] = .ok false [.vl (.int x), .vl (.int lo), .vl (.int hi)] := by
    refine tB1_of (eOp_of (x := .int x) (y := .int lo) rfl rfl ?_)
    rw [ltK, decide_eq_false (by omega)]
  have b : tB1 (eOp oGtK (eV 0) (eV 2)) [.vl (.int x), .vl (.int lo), .vl (.int hi)] = .ok false [.vl (.int x), .vl (.int lo), .vl (.int hi)] := by
    refine tB1_of (eOp_of (x := .int x) (y := .int hi) rfl rfl ?_)
    rw [gtK, decide_eq_false (by omega)]
  have c : tB1 (eOp oNotN (eV 1) (eC .none)) [.vl (.int x), .vl (.int lo), .vl (.int hi)] = .ok true [.vl (.int x), .vl (.int lo), .vl (.int hi)] := rfl
  have d : tB1 (eOp oNotN (eV 2) (eC .none)) [.vl (.int x), .vl (.int lo), .vl (.int hi)] = .ok true [.vl (.int x), .vl (.int lo), .vl (.int hi)] := rfl
  exact runF_nx (r := [.vl (.int x), .vl (.int lo), .vl (.int hi)]) rfl (Eq.trans (sIf_f (tOr1_f (tNot1_of (k := true) (tTru_of (call1 rfl (near hx)))) (tOr1_f (tAnd1_t c a) (tAnd1_t d b)))) rfl) rfl
end K62
set_option maxHeartbeats 400000
/-! K62h: what is a pile: the program's look and the law's -/
namespace K62
open PySem L2 DL
abbrev ni (k : Nat) : D := .int (k : Int)
abbrev vi (n : Nat) : Sl := .vl (.int (n : Int))
abbrev lnD (b : Nat) (f : Nat → D) : List D := (List.range b).map f
abbrev mD (a b : Nat) (E : Nat → Nat → D) : D := .tuple ((List.range a).map fun i => .tuple (lnD b (E i)))
abbrev mx (a b : Nat) (P : Nat → Nat → Nat) : D := mD a b fun i j => ni (P i j)
def isIn (c : Nat) : D → Bool
  | .int k => decide (0 ≤ k) && decide (k ≤ c)
  | _ => false
inductive Smp : D → Prop
  | int (k : Int) : Smp (.int k)
  | non : Smp .none
  | tru : Smp (.bool true)
  | str (x : Str) (h : PyData.strOk x = true) : Smp (.str x)
  | tup : Smp (.tuple [.int 0])
theorem lenC {ds : List D} : cLen [.list ds] = some (.int (ds.length : Nat)) := rfl
theorem lenD {ds : List D} : cLen [.tuple ds] = some (.int (ds.length : Nat)) := rfl
theorem at_ln {b j : Nat} {f : Nat → D} {k : Int} (hk : k = (j : Int)) (hj : j < b) : atI (lnD b f) k = some (f j) := atD (e := f) hk (by rw [List.getElem?_range hj])
theorem ix_ln {b j : Nat} {f : Nat → D} {k : Int} (hk : k = (j : Int)) (hj : j < b) : oIx (.tuple (lnD b f)) (.int k) = some (f j) := at_ln hk hj
theorem ix_lnL {b j : Nat} {f : Nat → D} {k : Int} (hk : k = (j : Int)) (hj : j < b) : oIx (.list (lnD b f)) (.int k) = some (f j) := at_ln hk hj
theorem ix_m {a b i : Nat} {E : Nat → Nat → D} {k : Int} (hk : k = (i : Int)) (hi : i < a) : oIx (mD a b E) (.int k) = some (.tuple (lnD b (E i))) := atD (e := fun i => PyData.tuple (lnD b (E i))) hk (by rw [List.getElem?_range hi])
theorem ln_len (b : Nat) (f : Nat → D) : (lnD b f).length = b := by rw [List.length_map, List.length_range]
theorem irg {n : Nat} {f : En → R D} {r : En} {k : Int} (h : f r = .ok (.int k) r) (hk : k = (n : Int)) (hn : n ≤ 1000) : iRg1 f r = .ok ((List.range n).map ni) r := by
  have e : (List.range n).map ni = rngD 1 0 n := (rng0 _).symm
  rw [e]
  exact iRg1_of (j := k) h (by omega) (by omega) (by omega)
/-! ### one entry -/
theorem eChain_f {o o' : D → D → Option D} {f g h : En → R D} {r r1 r2 : En} {x y : D} (h1 : f r = .ok x r1) (h2 : g r1 = .ok y r2) (h3 : o x y = some (.bool false)) : eChain o o' f g h r = .ok (.bool false) r2 := by
  unfold eChain
  rw [h1]
  simp only [R.bind]
  rw [h2]
  simp only [h3]
theorem chainIn {r : En} {k c : Int} (h0 : r[0]? = some (.vl (.int k))) (h1 : r[1]? = some (.vl (.int 0))) (h2 : r[2]? = some (.vl (.int c))) : eChain oLeK oLeK (eV 1) (eV 0) (eV 2) r = .ok (.bool (decide (0 ≤ k) && decide (k ≤ c))) r := by
  have v0 : eV 0 r = .ok (.int k) r := by unfold eV; rw [h0]
  have v1 : eV 1 r = .ok (.int 0) r := by unfold eV; rw [h1]
  have v2 : eV 2 r = .ok (.int c) r := by unfold eV; rw [h2]
  by_cases z : 0 ≤ k
  · rw [decide_eq_true z, Bool.true_and]
    exact eChain_t v1 v0 (by rw [leK, decide_eq_true z]) v2 leK
  · rw [decide_eq_false z, Bool.false_and]
    exact eChain_f v1 v0 (by rw [leK, decide_eq_false z])
theorem within {c : Nat} {d : D} (h : Smp d) : f_is_within [.vl d, .vl (.int 0), vi c] = .rt (.vl (.bool (isIn c d))) none := by
  cases h with
  | int k => exact runF_rt (r := [.vl (.int k), .vl (.int 0), vi c]) rfl (sRet_of (eAnd_t (call1 (a := .int k) (d := .bool true) rfl rfl) (chainIn rfl rfl rfl))) rfl rfl
  | non => exact runF_rt (r := [.vl .none, .vl (.int 0), vi c]) rfl (sRet_of (eAnd_f (call1 (a := .none) (d := .bool false) rfl rfl))) rfl rfl
  | tru => exact runF_rt (r := [.vl (.bool true), .vl (.int 0), vi c]) rfl (sRet_of (eAnd_f (call1 (a := .bool true) (d := .bool false) rfl rfl))) rfl rfl
  | str x _ => exact runF_rt (r := [.vl (.str x), .vl (.int 0), vi c]) rfl (sRet_of (eAnd_f (call1 (a := .str x) (d := .bool false) rfl rfl))) rfl rfl
  | tup => exact runF_rt (r := [.vl (.tuple [.int 0]), .vl (.int 0), vi c]) rfl (sRet_of (eAnd_f (call1 (a := .tuple [.int 0]) (d := .bool false) rfl rfl))) rfl rfl
theorem lawInt {c : Nat} {d : D} (h : Smp d) : f__law_is_integer [.vl d, .vl (.int 0), vi c] = .rt (.vl (.bool (isIn c d))) none := by
  cases h with
  | int k => exact runF_rt (r := [.vl (.int k), .vl (.int 0), vi c]) rfl (sRet_of (eAnd_t (d := .bool (decide (0 ≤ k) && decide (k ≤ (c : Int)))) rfl (eAnd_t rfl (chainIn rfl rfl rfl)))) rfl rfl
  | non => exact runF_rt (r := [.vl .none, .vl (.int 0), vi c]) rfl (sRet_of (eAnd_f rfl)) rfl rfl
  | tru => exact runF_rt (r := [.vl (.bool true), .vl (.int 0), vi c]) rfl (sRet_of (eAnd_t rfl (eAnd_f rfl))) rfl rfl
  | str x _ => exact runF_rt (r := [.vl (.str x), .vl (.int 0), vi c]) rfl (sRet_of (eAnd_f rfl)) rfl rfl
  | tup => exact runF_rt (r := [.vl (.tuple [.int 0]), .vl (.int 0), vi c]) rfl (sRet_of (eAnd_f rfl)) rfl rfl
/-! ### lines -/
theorem rowOf {b c : Nat} {f : Nat → D} (hb : b ≤ 100) (h : ∀ j, j < b → Smp (f j)) : f_is_row_of [.vl (.tuple (lnD b f)), .vl (.int 0), vi c] = .rt (.vl (.bool ((List.range b).all fun j => isIn c (f j)))) none := by
  refine runF_rt (r := [.vl (.tuple (lnD b f)), .vl (.int 0), vi c, .no]) rfl (sRet_of (eAnd_t rfl (eCB_of (aCons_of (eF_of (xLc_map (enc := f) (p := fun _ => true) (g := fun j => .bool (isIn c (f j))) (xs := List.range b) (r1 := [.vl (.tuple (lnD b f)), .vl (.int 0), vi c, .no]) (iSeq_of (ds := lnD b f) rfl) (fun j hj => ⟨[.vl (.tuple (lnD b f)), .vl (.int 0), vi c, .vl (f j)], rfl, rfl, fun _ => ?_, rfl⟩) (by rw [List.length_range]; omega)) rfl) aNil_of) ?_))) rfl rfl
  · exact call3 (a := f j) (b := .int 0) (c := .int c) rfl rfl rfl (within (h j (List.mem_range.mp hj)))
  · rw [filt_all]
    exact cAll_map (fun j => isIn c (f j)) (List.range b)
def fallL (b : Nat) (f : Nat → Nat) : Bool := (List.range (b - 1)).all fun j => decide (f (j + 1) ≤ f j)
theorem fallE (mk : List D → D) (hl : ∀ ds : List D, cLen [mk ds] = some (.int (ds.length : Nat))) (hx : ∀ (ds : List D) (k : Int), oIx (mk ds) (.int k) = atI ds k) {b : Nat} {f : Nat → Nat} (hb : 1 ≤ b) (hb2 : b ≤ 100) : f_is_falling_line [.vl (mk (lnD b fun j => ni (f j)))] = .rt (.vl (.bool (fallL b f))) none := by
  have it : iRg1 (eOp oSub (eCB cLen (aCons (eV 0) (aNil))) (eC (.int 1))) [.vl (mk (lnD b fun j => ni (f j))), .no] = .ok ((List.range (b - 1)).map ni) [.vl (mk (lnD b fun j => ni (f j))), .no] := by
    refine irg (subE (a := (b : Int)) (b := 1) (eCB_of (x := [mk (lnD b fun j => ni (f j))]) (aCons_of rfl aNil_of) ?_) eC_of rfl) (by omega) (by omega)
    rw [hl, ln_len]
  refine runF_rt (r := [.vl (mk (lnD b fun j => ni (f j))), .no]) rfl (sRet_of (eCB_of (aCons_of (eF_of (xLc_map (enc := ni) (p := fun _ => true) (g := fun j => .bool (decide (f (j + 1) ≤ f j))) (xs := List.range (b - 1)) it (fun j hj => ⟨[.vl (mk (lnD b fun j => ni (f j))), vi j], rfl, rfl, fun _ => ?_, rfl⟩) (by rw [List.length_range]; omega)) rfl) aNil_of) ?_)) rfl rfl
  · have hj := List.mem_range.mp hj
    refine eOp_of (x := ni (f (j + 1))) (y := ni (f j)) (eOp_of (x := mk (lnD b fun j => ni (f j))) (y := .int ((j : Int) + 1)) rfl (addE (f := eV 1) (g := eC (.int 1)) (a := j) (b := 1) rfl eC_of rfl) (by rw [hx]; exact at_ln (j := j + 1) (by omega) (by omega))) (eOp_of (x := mk (lnD b fun j => ni (f j))) (y := ni j) rfl rfl (by rw [hx]; exact at_ln (j := j) rfl (by omega))) ?_
    rw [leK]
    exact congrArg (fun b => some (PyData.bool b)) (decide_eq_decide.mpr (by omega))
  · rw [filt_all]
    exact cAll_map (fun j => decide (f (j + 1) ≤ f j)) (List.range (b - 1))
/-! ### entries that are good, or one that is not -/
structure Ent (a b c : Nat) (E : Nat → Nat → D) (P : Nat → Nat → Nat) : Prop where
  smp : ∀ i, i < a → ∀ j, j < b → Smp (E i j)
  good : ∀ i, i < a → ∀ j, j < b → isIn c (E i j) = true → E i j = ni (P i j)
def rowB (b c : Nat) (E : Nat → Nat → D) (i : Nat) : Bool := (List.range b).all fun j => isIn c (E i j)
def allIn (a b c : Nat) (E : Nat → Nat → D) : Bool := (List.range a).all fun i => rowB b c E i
def rowsB (a b : Nat) (P : Nat → Nat → Nat) : Bool := (List.range a).all fun i => fallL b (P i)
def colsB (a b : Nat) (P : Nat → Nat → Nat) : Bool := (List.range b).all fun j => fallL a fun i => P i j
theorem ln_good {a b c : Nat} {E : Nat → Nat → D} {P : Nat → Nat → Nat} (e : Ent a b c E P) {i : Nat} (hi : i < a) (h : rowB b c E i = true) : lnD b (E i) = lnD b fun j => ni (P i j) :=
  List.map_congr_left fun j hj => e.good i hi j (List.mem_range.mp hj) (List.all_eq_true.mp h j hj)
theorem m_good {a b c : Nat} {E : Nat → Nat → D} {P : Nat → Nat → Nat} (e : Ent a b c E P) (h : allIn a b c E = true) : mD a b E = mx a b P := by
  refine congrArg PyData.tuple (List.map_congr_left fun i hi => congrArg PyData.tuple ?_)
  exact ln_good e (List.mem_range.mp hi) (List.all_eq_true.mp h i hi)
theorem inM {a b c : Nat} {E : Nat → Nat → D} {P : Nat → Nat → Nat} (ha : 1 ≤ a) (ha2 : a ≤ 12) (hb : 1 ≤ b) (hb2 : b ≤ 12) (e : Ent a b c E P) : f_is_pile_in [vi a, vi b, vi c, .vl (mD a b E)] = .rt (.vl (.bool (allIn a b c E && (rowsB a b P && colsB a b P)))) none := by
  have s0 : sIf (tOr1 (tNot1 (tTru (eUn (cIsi "tuple") (eV 3)))) (tB1 (eOp oNe (eCB cLen (aCons (eV 3) (aNil))) (eV 0)))) (sRet (eC (.bool false))) (sNil) [vi a, vi b, vi c, .vl (mD a b E), .no, .no] = .nx [vi a, vi b, vi c, .vl (mD a b E), .no, .no] := by
    refine sIf_f0 (tOr1_f (tNot1_of (k := true) (tTru_of rfl)) (tB1_of (eOp_of (x := ni a) (y := ni a) (eCB_of (x := [mD a b E]) (aCons_of rfl aNil_of) ?_) rfl (ne_same _))))
    refine Eq.trans lenD ?_
    rw [List.length_map, List.length_range]
  have l1 : eCB cAll (aCons (eF (xLc [4] (iSeq (eV 3)) (gN 4) (tT) (g_is_pile_in_e1))) (aNil)) [vi a, vi b, vi c, .vl (mD a b E), .no, .no] = .ok (.bool ((List.range a).all fun i => rowB b c E i && fallL b (P i))) [vi a, vi b, vi c, .vl (mD a b E), .no, .no] := by
    refine eCB_of (aCons_of (eF_of (xLc_map (enc := fun i => PyData.tuple (lnD b (E i))) (p := fun _ => true) (g := fun i => .bool (rowB b c E i && fallL b (P i))) (xs := List.range a) (r1 := [vi a, vi b, vi c, .vl (mD a b E), .no, .no]) (iSeq_of (ds := (List.range a).map fun i => PyData.tuple (lnD b (E i))) rfl) (fun i hi => ⟨[vi a, vi b, vi c, .vl (mD a b E), .vl (.tuple (lnD b (E i))), .no], rfl, rfl, fun _ => ?_, rfl⟩) (by rw [List.length_range]; omega)) rfl) aNil_of) ?_
    · have hi := List.mem_range.mp hi
      have r := call3 (fD := f_is_row_of) (f := eV 4) (g := eC (.int 0)) (h := eV 2) (r := [vi a, vi b, vi c, .vl (mD a b E), .vl (.tuple (lnD b (E i))), .no]) (a := .tuple (lnD b (E i))) (b := .int 0) (c := .int c) rfl eC_of rfl (rowOf (b := b) (c := c) (f := E i) (by omega) (e.smp i hi))
      cases hr : rowB b c E i with
      | false =>
        have hr : ((List.range b).all fun j => isIn c (E i j)) = false := hr
        rw [hr] at r
        exact eAnd_f r
      | true =>
        have g := ln_good e hi hr
        have hr : ((List.range b).all fun j => isIn c (E i j)) = true := hr
        rw [hr] at r
        refine eAnd_t r (eAnd_t (eOp_of (x := ni b) (y := ni b) (eCB_of (x := [.tuple (lnD b (E i))]) (aCons_of rfl aNil_of) (Eq.trans lenD (by rw [ln_len]))) rfl (by rw [oEq_int]; simp)) (call1 (a := .tuple (lnD b (E i))) rfl ?_))
        rw [g]
        exact fallE PyData.tuple (fun _ => rfl) (fun _ _ => rfl) hb (by omega)
    · rw [filt_all]
      exact cAll_map (fun i => rowB b c E i && fallL b (P i)) (List.range a)
  have split : ((List.range a).all fun i => rowB b c E i && fallL b (P i)) = (allIn a b c E && rowsB a b P) := by
    unfold allIn rowsB
    rw [Bool.eq_iff_iff, Bool.and_eq_true, List.all_eq_true, List.all_eq_true, List.all_eq_true]
    constructor
    · intro z
      exact ⟨fun i hi => (Bool.and_eq_true_iff.mp (z i hi)).1, fun i hi => (Bool.and_eq_true_iff.mp (z i hi)).2⟩
    · rintro ⟨z1, z2⟩ i hi
      exact Bool.and_eq_true_iff.mpr ⟨z1 i hi, z2 i hi⟩
  rw [split] at l1
  cases hA : (allIn a b c E && rowsB a b P) with
  | false =>
    rw [hA] at l1
    rw [← Bool.and_assoc, hA, Bool.false_and]
    exact runF_rt (r := [vi a, vi b, vi c, .vl (mD a b E), .no, .no]) rfl (Eq.trans (sSeq_of s0) (sSeq_rt (Eq.trans (sIf_t (tNot1_of (k := false) (tTru_of l1))) (sRet_of eC_of)))) rfl rfl
  | true =>
    rw [hA] at l1
    rw [← Bool.and_assoc, hA, Bool.true_and]
    have hall := (Bool.and_eq_true_iff.mp hA).1
    have it : iRg1 (eV 1) [vi a, vi b, vi c, .vl (mD a b E), .no, .no] = .ok ((List.range b).map ni) [vi a, vi b, vi c, .vl (mD a b E), .no, .no] := irg (n := b) rfl rfl (by omega)
    have mg := m_good e hall
    have l2 : eCB cAll (aCons (eF (xLc [5] (iRg1 (eV 1)) (gN 5) (tT) (g_is_pile_in_e3))) (aNil)) [vi a, vi b, vi c, .vl (mD a b E), .no, .no] = .ok (.bool (colsB a b P)) [vi a, vi b, vi c, .vl (mD a b E), .no, .no] := by
      refine eCB_of (aCons_of (eF_of (xLc_map (enc := ni) (p := fun _ => true) (g := fun j => .bool (fallL a fun i => P i j)) (xs := List.range b) it (fun j hj => ⟨[vi a, vi b, vi c, .vl (mD a b E), .no, vi j], rfl, rfl, fun _ => ?_, rfl⟩) (by rw [List.length_range]; omega)) rfl) aNil_of) ?_
      · have hj := List.mem_range.mp hj
        have cl : eF (xLc [4] (iSeq (eV 3)) (gN 4) (tT) (g_is_pile_in_e2)) [vi a, vi b, vi c, .vl (mD a b E), .no, vi j] = .ok (.list (lnD a fun i => ni (P i j))) [vi a, vi b, vi c, .vl (mD a b E), .no, vi j] := by
          refine eF_of (s := .ow (lnD a fun i => ni (P i j))) (Eq.trans (xLc_map (enc := fun i => PyData.tuple (lnD b (E i))) (p := fun _ => true) (g := fun i => ni (P i j)) (xs := List.range a) (r1 := [vi a, vi b, vi c, .vl (mD a b E), .no, vi j]) (iSeq_of (ds := (List.range a).map fun i => PyData.tuple (lnD b (E i))) rfl) (fun i hi => ⟨[vi a, vi b, vi c, .vl (mD a b E), .vl (.tuple (lnD b (E i))), vi j], rfl, rfl, fun _ => ?_, rfl⟩) (by rw [List.length_range]; omega)) (by rw [filt_all])) rfl
          have hi' := List.mem_range.mp hi
          have q := e.good i hi' j hj (List.all_eq_true.mp (List.all_eq_true.mp hall i hi) j (List.mem_range.mpr hj))
          refine eOp_of (x := .tuple (lnD b (E i))) (y := ni j) rfl rfl ?_
          rw [ix_ln (j := j) rfl hj, q]
        exact call1 cl (fallE PyData.list (fun _ => rfl) (fun _ _ => rfl) ha (by omega))
      · rw [filt_all]
        exact cAll_map (fun j => fallL a fun i => P i j) (List.range b)
    exact runF_rt (r := [vi a, vi b, vi c, .vl (mD a b E), .no, .no]) rfl (Eq.trans (sSeq_of s0) (Eq.trans (sSeq_of (sIf_f0 (tNot1_of (k := true) (tTru_of l1)))) (sRet_of l2))) rfl rfl
/-! ### loops that may end early -/
theorem forD_exit {α : Type} {enc : α → D} {t : D → En → Option En} {f : En → Fl} (p : α → Bool) (I J : En → Prop) : ∀ (xs : List α), (∀ x ∈ xs, ∀ r, I r → ∃ r1, t (enc x) r = some r1 ∧ (p x = true → ∃ r2, f r1 = .rt (.vl (.bool false)) r2 ∧ J r2) ∧ (p x = false → ∃ r2, f r1 = .nx r2 ∧ I r2)) → ∀ r, I r →
    (xs.any p = true → ∃ r', forD t f (xs.map enc) r = .rt (.vl (.bool false)) r' ∧ J r') ∧ (xs.any p = false → ∃ r', forD t f (xs.map enc) r = .nx r' ∧ I r')
  | [], _, r, hr => ⟨fun z => by simp at z, fun _ => ⟨r, rfl, hr⟩⟩
  | x :: xs, h, r, hr => by
    obtain ⟨r1, h1, h2, h3⟩ := h x List.mem_cons_self r hr
    rw [List.any_cons, List.map_cons]
    cases hp : p x with
    | true =>
      obtain ⟨r2, e, j⟩ := h2 hp
      refine ⟨fun _ => ⟨r2, ?_, j⟩, fun z => by simp at z⟩
      unfold forD
      simp only [h1, e]
    | false =>
      obtain ⟨r2, e, i⟩ := h3 hp
      have ih := forD_exit p I J xs (fun y hy => h y (List.mem_cons_of_mem _ hy)) r2 i
      rw [Bool.false_or]
      have st : forD t f (enc x :: xs.map enc) r = forD t f (xs.map enc) r2 := by
        conv => lhs; unfold forD
        simp only [h1, e]
      rw [st]
      exact ih
/-! ### the law's look -/
theorem smp_shaped {d : D} (h : Smp d) : d.canLay0 = true ∧ d.depth ≤ 1 := by
  cases h <;> simp [PyData.canLay0, PyData.canLayAll0, PyData.depth, PyData.depthAll, *]
theorem shaped_smp {ds : List D} (h : ∀ d ∈ ds, Smp d) : SeqAt.shaped (.list ds) = true := by
  unfold SeqAt.shaped
  have a : PyData.canLayAll0 ds = true := okK_lay fun d hd => (smp_shaped (h d hd)).1
  have b : PyData.depthAll ds ≤ 1 := okK_depth fun d hd => (smp_shaped (h d hd)).2
  rw [Bool.and_eq_true, decide_eq_true_eq]
  refine ⟨?_, ?_⟩
  · simpa [PyData.canLay0] using a
  · simp only [PyData.depth]
    omega
theorem ne_nil {ds : List D} (h : ∀ d ∈ ds, Smp d) : oNe (.list ds) (.list []) = some (.bool (!ds.isEmpty)) := by
  refine oNe_of (b := ds.isEmpty) ?_
  show (if _ then _ else _) = _
  rw [if_pos (by rw [shaped_smp h]; rfl)]
  cases ds <;> simp [PyData.eqv, PyData.eqvAll]
def viol (P : Nat → Nat → Nat) (i j : Nat) : Bool := (decide (0 < i) && decide (P (i - 1) j < P i j)) || (decide (0 < j) && decide (P i (j - 1) < P i j))
def anyV (a b : Nat) (P : Nat → Nat → Nat) : Bool := (List.range a).any fun i => (List.range b).any fun j => viol P i j
theorem look_same {a b : Nat} {P : Nat → Nat → Nat} : (rowsB a b P && colsB a b P) = !anyV a b P := by
  rw [Bool.eq_iff_iff, Bool.and_eq_true, Bool.not_eq_true', ← Bool.not_eq_true]
  unfold rowsB colsB anyV fallL
  simp only [List.all_eq_true, List.any_eq_true, List.mem_range, decide_eq_true_eq, viol, Bool.or_eq_true, Bool.and_eq_true, not_exists, not_and]
  constructor
  · rintro ⟨h1, h2⟩ i hi j hj
    rintro (⟨z1, z2⟩ | ⟨z1, z2⟩)
    · have := h2 j hj (i - 1) (by omega)
      rw [show i - 1 + 1 = i by omega] at this
      omega
    · have := h1 i hi (j - 1) (by omega)
      rw [show j - 1 + 1 = j by omega] at this
      omega
  · intro h
    refine ⟨fun i hi j hj => ?_, fun j hj i hi => ?_⟩
    · refine Nat.le_of_not_lt fun z => h i hi (j + 1) (by omega) (.inr ⟨by omega, ?_⟩)
      rw [Nat.add_sub_cancel]
      exact z
    · refine Nat.le_of_not_lt fun z => h (i + 1) (by omega) j hj (.inl ⟨by omega, ?_⟩)
      rw [Nat.add_sub_cancel]
      exact z
theorem lawM {a b c : Nat} {E : Nat → Nat → D} {P : Nat → Nat → Nat} (ha : 1 ≤ a) (ha2 : a ≤ 12) (hb : 1 ≤ b) (hb2 : b ≤ 12) (e : Ent a b c E P) : f__law_is_pile [vi a, vi b, vi c, .vl (mD a b E)] = .rt (.vl (.bool (allIn a b c E && !anyV a b P))) none := by
  have s0 : sIf (tOr1 (tNot1 (tTru (eUn (cIsi "tuple") (eV 3)))) (tB1 (eOp oNe (eCB cLen (aCons (eV 3) (aNil))) (eV 0)))) (sRet (eC (.bool false))) (sNil) [vi a, vi b, vi c, .vl (mD a b E), .no, .no, .no, .no] = .nx [vi a, vi b, vi c, .vl (mD a b E), .no, .no, .no, .no] := by
    refine sIf_f0 (tOr1_f (tNot1_of (k := true) (tTru_of rfl)) (tB1_of (eOp_of (x := ni a) (y := ni a) (eCB_of (x := [mD a b E]) (aCons_of rfl aNil_of) ?_) rfl (ne_same _))))
    refine Eq.trans lenD ?_
    rw [List.length_map, List.length_range]
  -- the lines
  obtain ⟨L1, L2⟩ := forD_exit (enc := fun i => PyData.tuple (lnD b (E i))) (t := gN 4) (f := g__law_is_pile_b3) (fun i => !rowB b c E i) (fun r => ∃ x4 : Sl, noIo x4 = true ∧ r = [vi a, vi b, vi c, .vl (mD a b E), x4, .no, .no, .no]) (fun r => ioOf r = none) (List.range a) (fun i hi r hr => by
    obtain ⟨x4, n4, rfl⟩ := hr
    have hi := List.mem_range.mp hi
    refine ⟨[vi a, vi b, vi c, .vl (mD a b E), .vl (.tuple (lnD b (E i))), .no, .no, .no], rfl, ?_⟩
    have q0 : sIf (tOr1 (tNot1 (tTru (eUn (cIsi "tuple") (eV 4)))) (tB1 (eOp oNe (eCB cLen (aCons (eV 4) (aNil))) (eV 1)))) (sRet (eC (.bool false))) (sNil) [vi a, vi b, vi c, .vl (mD a b E), .vl (.tuple (lnD b (E i))), .no, .no, .no] = .nx [vi a, vi b, vi c, .vl (mD a b E), .vl (.tuple (lnD b (E i))), .no, .no, .no] :=
      sIf_f0 (tOr1_f (tNot1_of (k := true) (tTru_of rfl)) (tB1_of (eOp_of (x := ni b) (y := ni b) (eCB_of (x := [.tuple (lnD b (E i))]) (aCons_of rfl aNil_of) (Eq.trans lenD (by rw [ln_len]))) rfl (ne_same _))))
    have l : eF (xLc [7] (iSeq (eV 4)) (gN 7) (g__law_is_pile_t2) (g__law_is_pile_e1)) [vi a, vi b, vi c, .vl (mD a b E), .vl (.tuple (lnD b (E i))), .no, .no, .no] = .ok (.list (((List.range b).filter fun j => !isIn c (E i j)).map (E i))) [vi a, vi b, vi c, .vl (mD a b E), .vl (.tuple (lnD b (E i))), .no, .no, .no] := by
      refine eF_of (xLc_map (enc := E i) (p := fun j => !isIn c (E i j)) (g := E i) (xs := List.range b) (r1 := [vi a, vi b, vi c, .vl (mD a b E), .vl (.tuple (lnD b (E i))), .no, .no, .no]) (iSeq_of (ds := lnD b (E i)) rfl) (fun j hj => ⟨[vi a, vi b, vi c, .vl (mD a b E), .vl (.tuple (lnD b (E i))), .no, .no, .vl (E i j)], rfl, ?_, fun _ => rfl, rfl⟩) (by rw [List.length_range]; omega)) rfl
      exact tNot1_of (tTru_of (call3 (a := E i j) (b := .int 0) (c := .int c) rfl eC_of rfl (lawInt (e.smp i hi j (List.mem_range.mp hj)))))
    have ne := ne_nil (ds := ((List.range b).filter fun j => !isIn c (E i j)).map (E i)) fun d hd => by
      obtain ⟨j, hj, rfl⟩ := List.mem_map.mp hd
      exact e.smp i hi j (List.mem_range.mp (List.mem_filter.mp hj).1)
    have em : (((List.range b).filter fun j => !isIn c (E i j)).map (E i)).isEmpty = rowB b c E i := by
      unfold rowB
      rw [List.isEmpty_map, Bool.eq_iff_iff, List.isEmpty_iff, List.filter_eq_nil_iff, List.all_eq_true]
      constructor
      · intro z j hj
        have := z j hj
        simpa using this
      · intro z j hj w
        rw [z j hj] at w
        cases w
    rw [em] at ne
    have ne := eOp_of (f := eF (xLc [7] (iSeq (eV 4)) (gN 7) (g__law_is_pile_t2) (g__law_is_pile_e1))) (g := eF (xLst (aNil))) l (y := .list []) (r2 := [vi a, vi b, vi c, .vl (mD a b E), .vl (.tuple (lnD b (E i))), .no, .no, .no]) rfl ne
    refine ⟨fun z => ?_, fun z => ?_⟩
    · rw [z] at ne
      exact ⟨_, Eq.trans (sSeq_of q0) (Eq.trans (sIf_t (tB1_of ne)) (sRet_of eC_of)), rfl⟩
    · rw [z] at ne
      exact ⟨_, Eq.trans (sSeq_of q0) (sIf_f0 (tB1_of ne)), .vl (.tuple (lnD b (E i))), rfl, rfl⟩) [vi a, vi b, vi c, .vl (mD a b E), .no, .no, .no, .no] ⟨.no, rfl, rfl⟩
  have it : iSeq (eV 3) [vi a, vi b, vi c, .vl (mD a b E), .no, .no, .no, .no] = .ok ((List.range a).map fun i => PyData.tuple (lnD b (E i))) [vi a, vi b, vi c, .vl (mD a b E), .no, .no, .no, .no] := iSeq_of rfl
  have neg : ((List.range a).any fun i => !rowB b c E i) = !allIn a b c E := by
    unfold allIn
    rw [List.not_all_eq_any_not]
  cases hA : allIn a b c E with
  | false =>
    rw [neg, hA] at L1
    obtain ⟨r', e1, j1⟩ := L1 rfl
    exact runF_rt (r := r') rfl (Eq.trans (sSeq_of s0) (sSeq_rt (Eq.trans (sFor_of it) e1))) rfl j1
  | true =>
    rw [neg, hA] at L2
    obtain ⟨r', e1, x4, n4, rfl⟩ := L2 rfl
    have good : ∀ i, i < a → ∀ j, j < b → E i j = ni (P i j) := fun i hi j hj => e.good i hi j hj (List.all_eq_true.mp (List.all_eq_true.mp hA i (List.mem_range.mpr hi)) j (List.mem_range.mpr hj))
    obtain ⟨M1, M2⟩ := forD_exit (enc := ni) (t := gN 5) (f := g__law_is_pile_b5) (fun i => (List.range b).any fun j => viol P i j) (fun r => ∃ x5 x6 : Sl, noIo x5 = true ∧ noIo x6 = true ∧ r = [vi a, vi b, vi c, .vl (mD a b E), x4, x5, x6, .no]) (fun r => ioOf r = none) (List.range a) (fun i hi r hr => by
      obtain ⟨x5, x6, n5, n6, rfl⟩ := hr
      have hi := List.mem_range.mp hi
      refine ⟨[vi a, vi b, vi c, .vl (mD a b E), x4, vi i, x6, .no], rfl, ?_⟩
      obtain ⟨N1, N2⟩ := forD_exit (enc := ni) (t := gN 6) (f := g__law_is_pile_b4) (fun j => viol P i j) (fun r => ∃ x6 : Sl, noIo x6 = true ∧ r = [vi a, vi b, vi c, .vl (mD a b E), x4, vi i, x6, .no]) (fun r => ioOf r = none) (List.range b) (fun j hj r hr => by
        obtain ⟨x6, n6, rfl⟩ := hr
        have hj := List.mem_range.mp hj
        refine ⟨[vi a, vi b, vi c, .vl (mD a b E), x4, vi i, vi j, .no], rfl, ?_⟩
        have v : ∀ {g h : En → R D} {i' j' : Nat}, i' < a → j' < b → g [vi a, vi b, vi c, .vl (mD a b E), x4, vi i, vi j, .no] = .ok (ni i') [vi a, vi b, vi c, .vl (mD a b E), x4, vi i, vi j, .no] → h [vi a, vi b, vi c, .vl (mD a b E), x4, vi i, vi j, .no] = .ok (ni j') [vi a, vi b, vi c, .vl (mD a b E), x4, vi i, vi j, .no] → eOp oIx (eOp oIx (eV 3) g) h [vi a, vi b, vi c, .vl (mD a b E), x4, vi i, vi j, .no] = .ok (ni (P i' j')) [vi a, vi b, vi c, .vl (mD a b E), x4, vi i, vi j, .no] := fun {g h i' j'} h1 h2 hg hh => by
          refine eOp_of (x := .tuple (lnD b (E i'))) (y := ni j') (eOp_of (x := mD a b E) (y := ni i') rfl hg (ix_m rfl h1)) hh ?_
          rw [ix_ln (j := j') rfl h2, good i' h1 j' h2]
        have gt : ∀ x y : Nat, oGtK (ni x) (ni y) = some (.bool (decide (y < x))) := fun x y => by
          rw [gtK]
          exact congrArg (fun b => some (PyData.bool b)) (decide_eq_decide.mpr (by omega))
        have A : tAnd1 (tB1 (eOp oGtK (eV 5) (eC (.int 0)))) (tB1 (eOp oGtK (eOp oIx (eOp oIx (eV 3) (eV 5)) (eV 6)) (eOp oIx (eOp oIx (eV 3) (eOp oSub (eV 5) (eC (.int 1)))) (eV 6)))) [vi a, vi b, vi c, .vl (mD a b E), x4, vi i, vi j, .no] = .ok (decide (0 < i) && decide (P (i - 1) j < P i j)) [vi a, vi b, vi c, .vl (mD a b E), x4, vi i, vi j, .no] := by
          have z : tB1 (eOp oGtK (eV 5) (eC (.int 0))) [vi a, vi b, vi c, .vl (mD a b E), x4, vi i, vi j, .no] = .ok (decide (0 < i)) [vi a, vi b, vi c, .vl (mD a b E), x4, vi i, vi j, .no] := tB1_of (eOp_of (x := ni i) (y := ni 0) rfl eC_of (gt i 0))
          by_cases w : 0 < i
          · rw [decide_eq_true w] at z ⊢
            rw [Bool.true_and]
            exact tAnd1_t z (tB1_of (eOp_of (v (g := eV 5) (h := eV 6) hi hj rfl rfl) (v (g := eOp oSub (eV 5) (eC (.int 1))) (h := eV 6) (i' := i - 1) (by omega) hj (subE (f := eV 5) (g := eC (.int 1)) (a := i) (b := 1) rfl eC_of (by omega)) rfl) (gt _ _)))
          · rw [decide_eq_false w] at z ⊢
            exact tAnd1_f z
        have B : tAnd1 (tB1 (eOp oGtK (eV 6) (eC (.int 0)))) (tB1 (eOp oGtK (eOp oIx (eOp oIx (eV 3) (eV 5)) (eV 6)) (eOp oIx (eOp oIx (eV 3) (eV 5)) (eOp oSub (eV 6) (eC (.int 1)))))) [vi a, vi b, vi c, .vl (mD a b E), x4, vi i, vi j, .no] = .ok (decide (0 < j) && decide (P i (j - 1) < P i j)) [vi a, vi b, vi c, .vl (mD a b E), x4, vi i, vi j, .no] := by
          have z : tB1 (eOp oGtK (eV 6) (eC (.int 0))) [vi a, vi b, vi c, .vl (mD a b E), x4, vi i, vi j, .no] = .ok (decide (0 < j)) [vi a, vi b, vi c, .vl (mD a b E), x4, vi i, vi j, .no] := tB1_of (eOp_of (x := ni j) (y := ni 0) rfl eC_of (gt j 0))
          by_cases w : 0 < j
          · rw [decide_eq_true w] at z ⊢
            rw [Bool.true_and]
            exact tAnd1_t z (tB1_of (eOp_of (v (g := eV 5) (h := eV 6) hi hj rfl rfl) (v (g := eV 5) (h := eOp oSub (eV 6) (eC (.int 1))) (j' := j - 1) hi (by omega) rfl (subE (f := eV 6) (g := eC (.int 1)) (a := j) (b := 1) rfl eC_of (by omega))) (gt _ _)))
          · rw [decide_eq_false w] at z ⊢
            exact tAnd1_f z
        have T : tOr1 (tAnd1 (tB1 (eOp oGtK (eV 5) (eC (.int 0)))) (tB1 (eOp oGtK (eOp oIx (eOp oIx (eV 3) (eV 5)) (eV 6)) (eOp oIx (eOp oIx (eV 3) (eOp oSub (eV 5) (eC (.int 1)))) (eV 6))))) (tAnd1 (tB1 (eOp oGtK (eV 6) (eC (.int 0)))) (tB1 (eOp oGtK (eOp oIx (eOp oIx (eV 3) (eV 5)) (eV 6)) (eOp oIx (eOp oIx (eV 3) (eV 5)) (eOp oSub (eV 6) (eC (.int 1))))))) [vi a, vi b, vi c, .vl (mD a b E), x4, vi i, vi j, .no] = .ok (viol P i j) [vi a, vi b, vi c, .vl (mD a b E), x4, vi i, vi j, .no] := by
          unfold viol
          cases hx : (decide (0 < i) && decide (P (i - 1) j < P i j)) with
          | true => rw [hx] at A; exact tOr1_t A
          | false => rw [hx] at A; exact tOr1_f A B
        refine ⟨fun z => ?_, fun z => ?_⟩
        · rw [z] at T
          exact ⟨[vi a, vi b, vi c, .vl (mD a b E), x4, vi i, vi j, .no], Eq.trans (sIf_t T) (sRet_of eC_of), by cases x4 <;> first | rfl | exact (noIo_io n4).elim⟩
        · rw [z] at T
          exact ⟨_, sIf_f0 T, vi j, rfl, rfl⟩) [vi a, vi b, vi c, .vl (mD a b E), x4, vi i, x6, .no] ⟨x6, n6, rfl⟩
      have itj : iRg1 (eV 1) [vi a, vi b, vi c, .vl (mD a b E), x4, vi i, x6, .no] = .ok ((List.range b).map ni) [vi a, vi b, vi c, .vl (mD a b E), x4, vi i, x6, .no] := irg (n := b) rfl rfl (by omega)
      refine ⟨fun z => ?_, fun z => ?_⟩
      · obtain ⟨r2, e2, j2⟩ := N1 z
        exact ⟨r2, Eq.trans (sFor_of itj) e2, j2⟩
      · obtain ⟨r2, e2, x6', n6', rfl⟩ := N2 z
        exact ⟨_, Eq.trans (sFor_of itj) e2, vi i, x6', rfl, n6', rfl⟩) [vi a, vi b, vi c, .vl (mD a b E), x4, .no, .no, .no] ⟨.no, .no, rfl, rfl, rfl⟩
    have iti : iRg1 (eV 0) [vi a, vi b, vi c, .vl (mD a b E), x4, .no, .no, .no] = .ok ((List.range a).map ni) [vi a, vi b, vi c, .vl (mD a b E), x4, .no, .no, .no] := irg (n := a) rfl rfl (by omega)
    cases hV : anyV a b P with
    | true =>
      obtain ⟨r2, e2, j2⟩ := M1 hV
      exact runF_rt (r := r2) rfl (Eq.trans (sSeq_of s0) (Eq.trans (sSeq_of (Eq.trans (sFor_of it) e1)) (sSeq_rt (Eq.trans (sFor_of iti) e2)))) rfl j2
    | false =>
      obtain ⟨r2, e2, x5, x6, n5, n6, rfl⟩ := M2 hV
      refine runF_rt (r := [vi a, vi b, vi c, .vl (mD a b E), x4, x5, x6, .no]) rfl (Eq.trans (sSeq_of s0) (Eq.trans (sSeq_of (Eq.trans (sFor_of it) e1)) (Eq.trans (sSeq_of (Eq.trans (sFor_of iti) e2)) (sRet_of eC_of)))) rfl ?_
      cases x4 <;> cases x5 <;> cases x6 <;> first | rfl | exact (noIo_io n4).elim | exact (noIo_io n5).elim | exact (noIo_io n6).elim
end K62
set_option maxHeartbeats 400000
/-! K62n: drawn piles, values near them -/
namespace K62
open PySem L2 DL
theorem box {a b c : Nat} (ha : 1 ≤ a) (ha2 : a ≤ 12) (hb : 1 ≤ b) (hb2 : b ≤ 12) (hc : 1 ≤ c) (hc2 : c ≤ 12) : f_require_box [vi a, vi b, vi c, .vl (.int 12)] = .rt (.vl .none) none :=
  runF_nx (r := [vi a, vi b, vi c, .vl (.int 12)]) rfl (Eq.trans (sSeq_of (sDrop_of (call3 (a := .int a) (b := .int 1) (c := .int 12) rfl eC_of rfl (reqN ⟨by omega, by omega⟩ (by omega) (by omega))))) (Eq.trans (sSeq_of (sDrop_of (call3 (a := .int b) (b := .int 1) (c := .int 12) rfl eC_of rfl (reqN ⟨by omega, by omega⟩ (by omega) (by omega))))) (sDrop_of (call3 (a := .int c) (b := .int 1) (c := .int 12) rfl eC_of rfl (reqN ⟨by omega, by omega⟩ (by omega) (by omega)))))) rfl
structure Bx (a b c : Nat) : Prop where
  a1 : 1 ≤ a
  a2 : a ≤ 4
  b1 : 1 ≤ b
  b2 : b ≤ 4
  c1 : 1 ≤ c
  c2 : c ≤ 4
theorem call4 {fD : En → Rf} {f g h k : En → R D} {r : En} {a b c d e : D} (ha : f r = .ok a r) (hb : g r = .ok b r) (hc : h r = .ok c r) (hd : k r = .ok d r) (hf : fD [.vl a, .vl b, .vl c, .vl d] = .rt (.vl e) none) : eF (xCall fD (aCons f (aCons g (aCons h (aCons k aNil))))) r = .ok e r :=
  eF_of (xCall_of (ds := [a, b, c, d]) (aCons_of ha (aCons_of hb (aCons_of hc (aCons_of hd aNil_of)))) hf) rfl
theorem Bx.box {a b c : Nat} (x : Bx a b c) : f_require_box [vi a, vi b, vi c, .vl (.int 12)] = .rt (.vl .none) none :=
  K62.box x.a1 (by have := x.a2; omega) x.b1 (by have := x.b2; omega) x.c1 (by have := x.c2; omega)
theorem isP {a b c : Nat} {v : D} {z : Bool} (x : Bx a b c) (h : f_is_pile_in [vi a, vi b, vi c, .vl v] = .rt (.vl (.bool z)) none) : f_is_pile [vi a, vi b, vi c, .vl v] = .rt (.vl (.bool z)) none :=
  runF_rt (r := [vi a, vi b, vi c, .vl v]) rfl (Eq.trans (sSeq_of (sDrop_of (call4 (a := .int a) (b := .int b) (c := .int c) (d := .int 12) rfl rfl rfl eC_of x.box))) (sRetX_of (xCall_of (ds := [.int a, .int b, .int c, v]) (aCons_of rfl (aCons_of rfl (aCons_of rfl (aCons_of rfl aNil_of)))) h))) rfl rfl
/-- both looks tell the same -/
def Jd (a b c : Nat) (v : D) : Prop := ∃ z : Bool, f_is_pile [vi a, vi b, vi c, .vl v] = .rt (.vl (.bool z)) none ∧ f__law_is_pile [vi a, vi b, vi c, .vl v] = .rt (.vl (.bool z)) none
theorem jd_not {a b c : Nat} {v : D} (x : Bx a b c) (h : cIsi "tuple" v = some (.bool false)) : Jd a b c v := by
  refine ⟨false, isP x ?_, ?_⟩
  · exact runF_rt (r := [vi a, vi b, vi c, .vl v, .no, .no]) rfl (sSeq_rt (Eq.trans (sIf_t (tOr1_t (tNot1_of (k := false) (tTru_of (eUn_of (x := v) rfl h))))) (sRet_of eC_of))) rfl rfl
  · exact runF_rt (r := [vi a, vi b, vi c, .vl v, .no, .no, .no, .no]) rfl (sSeq_rt (Eq.trans (sIf_t (tOr1_t (tNot1_of (k := false) (tTru_of (eUn_of (x := v) rfl h))))) (sRet_of eC_of))) rfl rfl
theorem ne_true {x y : Nat} (h : x ≠ y) : oNe (ni x) (ni y) = some (.bool true) := by
  rw [oNe_int, beq_cast]
  cases e : Nat.beq x y with
  | true => exact absurd (Nat.eq_of_beq_eq_true e) h
  | false => rfl
theorem jd_len {a b c : Nat} {ds : List D} (x : Bx a b c) (h : ds.length ≠ a) : Jd a b c (.tuple ds) := by
  refine ⟨false, isP x ?_, ?_⟩
  · exact runF_rt (r := [vi a, vi b, vi c, .vl (.tuple ds), .no, .no]) rfl (sSeq_rt (Eq.trans (sIf_t (tOr1_f (tNot1_of (k := true) (tTru_of rfl)) (tB1_of (eOp_of (x := ni ds.length) (y := ni a) (eCB_of (x := [.tuple ds]) (aCons_of rfl aNil_of) rfl) rfl (ne_true h))))) (sRet_of eC_of))) rfl rfl
  · exact runF_rt (r := [vi a, vi b, vi c, .vl (.tuple ds), .no, .no, .no, .no]) rfl (sSeq_rt (Eq.trans (sIf_t (tOr1_f (tNot1_of (k := true) (tTru_of rfl)) (tB1_of (eOp_of (x := ni ds.length) (y := ni a) (eCB_of (x := [.tuple ds]) (aCons_of rfl aNil_of) rfl) rfl (ne_true h))))) (sRet_of eC_of))) rfl rfl
theorem jd_m {a b c : Nat} {E : Nat → Nat → D} {P : Nat → Nat → Nat} (x : Bx a b c) (e : Ent a b c E P) : Jd a b c (mD a b E) := by
  have p := inM (c := c) x.a1 (by have := x.a2; omega) x.b1 (by have := x.b2; omega) e
  have l := lawM (c := c) x.a1 (by have := x.a2; omega) x.b1 (by have := x.b2; omega) e
  rw [look_same] at p
  exact ⟨_, isP x p, l⟩
theorem ent_mx {a b c : Nat} (P : Nat → Nat → Nat) : Ent a b c (fun i j => ni (P i j)) P := ⟨fun _ _ _ _ => .int _, fun _ _ _ _ _ => rfl⟩
theorem jd_mx {a b c : Nat} (P : Nat → Nat → Nat) (x : Bx a b c) : Jd a b c (mx a b P) := jd_m x (ent_mx P)
theorem jd_lines {a b c : Nat} {Ln : Nat → D} (x : Bx a b c) (h1 : ∀ i v, g_is_pile_in_e1 [vi a, vi b, vi c, v, .vl (Ln i), .no] = .ok (.bool false) [vi a, vi b, vi c, v, .vl (Ln i), .no])
    (h2 : ∀ i v, tOr1 (tNot1 (tTru (eUn (cIsi "tuple") (eV 4)))) (tB1 (eOp oNe (eCB cLen (aCons (eV 4) (aNil))) (eV 1))) [vi a, vi b, vi c, v, .vl (Ln i), .no, .no, .no] = .ok true [vi a, vi b, vi c, v, .vl (Ln i), .no, .no, .no]) : Jd a b c (.tuple ((List.range a).map Ln)) := by
  have a1 := x.a1
  have a2 := x.a2
  refine ⟨false, isP x ?_, ?_⟩
  · have s0 : sIf (tOr1 (tNot1 (tTru (eUn (cIsi "tuple") (eV 3)))) (tB1 (eOp oNe (eCB cLen (aCons (eV 3) (aNil))) (eV 0)))) (sRet (eC (.bool false))) (sNil) [vi a, vi b, vi c, .vl (.tuple ((List.range a).map Ln)), .no, .no] = .nx [vi a, vi b, vi c, .vl (.tuple ((List.range a).map Ln)), .no, .no] := by
      refine sIf_f0 (tOr1_f (tNot1_of (k := true) (tTru_of rfl)) (tB1_of (eOp_of (x := ni a) (y := ni a) (eCB_of (x := [.tuple ((List.range a).map Ln)]) (aCons_of rfl aNil_of) ?_) rfl (ne_same _))))
      refine Eq.trans lenD ?_
      rw [List.length_map, List.length_range]
    have l1 : eCB cAll (aCons (eF (xLc [4] (iSeq (eV 3)) (gN 4) (tT) (g_is_pile_in_e1))) (aNil)) [vi a, vi b, vi c, .vl (.tuple ((List.range a).map Ln)), .no, .no] = .ok (.bool false) [vi a, vi b, vi c, .vl (.tuple ((List.range a).map Ln)), .no, .no] := by
      refine eCB_of (aCons_of (eF_of (xLc_map (enc := Ln) (p := fun _ => true) (g := fun _ => .bool false) (xs := List.range a) (r1 := [vi a, vi b, vi c, .vl (.tuple ((List.range a).map Ln)), .no, .no]) (iSeq_of (ds := (List.range a).map Ln) rfl) (fun i _ => ⟨[vi a, vi b, vi c, .vl (.tuple ((List.range a).map Ln)), .vl (Ln i), .no], rfl, rfl, fun _ => h1 i _, rfl⟩) (by rw [List.length_range]; omega)) rfl) aNil_of) ?_
      rw [filt_all]
      refine Eq.trans (cAll_map (fun _ => false) (List.range a)) ?_
      refine congrArg (fun b => some (PyData.bool b)) ?_
      rw [List.all_eq_false]
      exact ⟨0, List.mem_range.mpr (by omega), by decide⟩
    exact runF_rt (r := [vi a, vi b, vi c, .vl (.tuple ((List.range a).map Ln)), .no, .no]) rfl (Eq.trans (sSeq_of s0) (sSeq_rt (Eq.trans (sIf_t (tNot1_of (k := false) (tTru_of l1))) (sRet_of eC_of)))) rfl rfl
  · have s0 : sIf (tOr1 (tNot1 (tTru (eUn (cIsi "tuple") (eV 3)))) (tB1 (eOp oNe (eCB cLen (aCons (eV 3) (aNil))) (eV 0)))) (sRet (eC (.bool false))) (sNil) [vi a, vi b, vi c, .vl (.tuple ((List.range a).map Ln)), .no, .no, .no, .no] = .nx [vi a, vi b, vi c, .vl (.tuple ((List.range a).map Ln)), .no, .no, .no, .no] := by
      refine sIf_f0 (tOr1_f (tNot1_of (k := true) (tTru_of rfl)) (tB1_of (eOp_of (x := ni a) (y := ni a) (eCB_of (x := [.tuple ((List.range a).map Ln)]) (aCons_of rfl aNil_of) ?_) rfl (ne_same _))))
      refine Eq.trans lenD ?_
      rw [List.length_map, List.length_range]
    obtain ⟨L1, _⟩ := forD_exit (enc := Ln) (t := gN 4) (f := g__law_is_pile_b3) (fun _ => true) (fun r => ∃ x4 : Sl, noIo x4 = true ∧ r = [vi a, vi b, vi c, .vl (.tuple ((List.range a).map Ln)), x4, .no, .no, .no]) (fun r => ioOf r = none) (List.range a) (fun i _ r hr => by
      obtain ⟨x4, n4, rfl⟩ := hr
      refine ⟨[vi a, vi b, vi c, .vl (.tuple ((List.range a).map Ln)), .vl (Ln i), .no, .no, .no], rfl, fun _ => ?_, fun z => Bool.noConfusion z⟩
      exact ⟨_, sSeq_rt (Eq.trans (sIf_t (h2 i _)) (sRet_of eC_of)), rfl⟩) [vi a, vi b, vi c, .vl (.tuple ((List.range a).map Ln)), .no, .no, .no, .no] ⟨.no, rfl, rfl⟩
    have it : iSeq (eV 3) [vi a, vi b, vi c, .vl (.tuple ((List.range a).map Ln)), .no, .no, .no, .no] = .ok ((List.range a).map Ln) [vi a, vi b, vi c, .vl (.tuple ((List.range a).map Ln)), .no, .no, .no, .no] := iSeq_of rfl
    obtain ⟨r', e1, j1⟩ := L1 (by rw [List.any_eq_true]; exact ⟨0, List.mem_range.mpr (by omega), rfl⟩)
    exact runF_rt (r := r') rfl (Eq.trans (sSeq_of s0) (sSeq_rt (Eq.trans (sFor_of it) e1))) rfl j1
/-! ### lists -/
theorem rev_map {n : Nat} {α : Type} (f : Nat → α) : ((List.range n).map f).reverse = (List.range n).map fun i => f (n - 1 - i) := by
  refine List.ext_getElem? fun i => ?_
  by_cases hi : i < n
  · rw [List.getElem?_reverse (by rw [List.length_map, List.length_range]; exact hi), List.length_map, List.length_range, List.getElem?_map, List.getElem?_map, List.getElem?_range (by omega), List.getElem?_range hi]
    rfl
  · rw [List.getElem?_eq_none (by rw [List.length_reverse, List.length_map, List.length_range]; omega), List.getElem?_eq_none (by rw [List.length_map, List.length_range]; omega)]
theorem set_map {n k : Nat} {α : Type} (f : Nat → α) (x : α) (hk : k < n) : (((List.range n).map f).take k ++ [x]) ++ ((List.range n).map f).drop (k + 1) = (List.range n).map fun i => if i = k then x else f i := by
  have e := List.set_eq_take_append_cons_drop (l := (List.range n).map f) (i := k) (a := x)
  rw [if_pos (by rw [List.length_map, List.length_range]; exact hk)] at e
  have e2 : (((List.range n).map f).take k ++ [x]) ++ ((List.range n).map f).drop (k + 1) = ((List.range n).map f).set k x := by
    rw [e, List.append_assoc]
    rfl
  rw [e2]
  refine List.ext_getElem? fun i => ?_
  rw [List.getElem?_set]
  by_cases hi : i < n
  · rw [List.getElem?_map, List.getElem?_range hi, List.getElem?_map, List.getElem?_range hi, List.length_map, List.length_range]
    by_cases z : k = i
    · subst z
      rw [if_pos rfl, if_pos hi]
      simp
    · rw [if_neg z]
      show some (f i) = some (if i = k then x else f i)
      rw [if_neg fun w => z w.symm]
  · rw [List.length_map, List.length_range, if_neg (by omega : ¬ k = i), List.getElem?_eq_none (by rw [List.length_map, List.length_range]; omega), List.getElem?_eq_none (by rw [List.length_map, List.length_range]; omega)]
theorem cut_take (ds : List D) (i : Nat) (hi : i ≤ ds.length) : cutD ds none (some (i : Int)) = ds.take i := by
  unfold cutD
  rw [HT.sIx_none, HT.sIx_nat, List.drop_zero, Nat.sub_zero, Nat.min_eq_left hi]
theorem cut_drop (ds : List D) (i : Nat) (hi : i ≤ ds.length) : cutD ds (some (i : Int)) none = ds.drop i := by
  unfold cutD
  rw [HT.sIx_none, HT.sIx_nat, Nat.min_eq_left hi]
  exact List.take_of_length_le (by rw [List.length_drop]; omega)
theorem repD_n (x : D) : ∀ k, repD [x] k = (List.range k).map fun _ => x
  | 0 => rfl
  | k + 1 => by
    show [x] ++ repD [x] k = _
    rw [repD_n x k, List.range_succ_eq_map, List.map_cons, List.map_map]
    rfl
theorem mulT {x : D} {k : Nat} (hk : k ≤ 100) : oMulT (.tuple [x]) (ni k) = some (.tuple ((List.range k).map fun _ => x)) := by
  show (if (decide (-1000 ≤ (k : Int)) && decide ((k : Int) ≤ 1000) && decide ([x].length ≤ 1000)) = true then some (PyData.tuple (repD [x] ((k : Int)).toNat)) else none) = _
  rw [if_pos (by rw [decide_eq_true (by omega), decide_eq_true (by omega)]; rfl)]
  exact congrArg (fun l => some (PyData.tuple l)) (repD_n x k)
theorem addT (xs ys : List D) (h : xs.length + ys.length ≤ 1000) : oAdd (.tuple xs) (.tuple ys) = some (.tuple (xs ++ ys)) := by
  show (if xs.length + ys.length ≤ 1000000 then _ else _) = _
  rw [if_pos (by omega)]
end K62
set_option maxHeartbeats 400000
/-! K62o: a drawn pile, the values near it -/
namespace K62
open PySem L2 DL
/-! ### a drawn pile -/
structure PL (a b c : Nat) (P : Nat → Nat → Nat) : Prop where
  le : ∀ i, i < a → ∀ j, j < b → P i j ≤ c
  col : ∀ i, 0 < i → i < a → ∀ j, j < b → P i j ≤ P (i - 1) j
  row : ∀ i, i < a → ∀ j, 0 < j → j < b → P i j ≤ P i (j - 1)
theorem PL.noV {a b c : Nat} {P : Nat → Nat → Nat} (h : PL a b c P) : anyV a b P = false := by
  rw [← Bool.not_eq_true]
  unfold anyV
  simp only [List.any_eq_true, List.mem_range, viol, Bool.or_eq_true, Bool.and_eq_true, decide_eq_true_eq, not_exists, not_and]
  intro i hi j hj
  rintro (⟨z1, z2⟩ | ⟨z1, z2⟩)
  · have := h.col i z1 hi j hj; omega
  · have := h.row i hi j z1 hj; omega
theorem PL.isin {a b c : Nat} {P : Nat → Nat → Nat} (h : PL a b c P) : allIn a b c (fun i j => ni (P i j)) = true := by
  unfold allIn rowB
  simp only [List.all_eq_true, List.mem_range]
  intro i hi j hj
  have := h.le i hi j hj
  show (decide ((0 : Int) ≤ (P i j : Int)) && decide ((P i j : Int) ≤ (c : Int))) = true
  rw [decide_eq_true (by omega), decide_eq_true (by omega)]
  rfl
theorem PL.inP {a b c : Nat} {P : Nat → Nat → Nat} (h : PL a b c P) (x : Bx a b c) : f_is_pile_in [vi a, vi b, vi c, .vl (mx a b P)] = .rt (.vl (.bool true)) none := by
  have p := inM (c := c) x.a1 (by have := x.a2; omega) x.b1 (by have := x.b2; omega) (ent_mx P)
  rw [look_same, h.noV, h.isin] at p
  exact p
theorem PL.req {a b c : Nat} {P : Nat → Nat → Nat} (h : PL a b c P) (x : Bx a b c) : f_require_pile [vi a, vi b, vi c, .vl (mx a b P)] = .rt (.vl .none) none :=
  runF_nx (r := [vi a, vi b, vi c, .vl (mx a b P)]) rfl (Eq.trans (sSeq_of (sDrop_of (call4 (a := .int a) (b := .int b) (c := .int c) (d := .int 12) rfl rfl rfl eC_of x.box))) (sIf_f0 (tNot1_of (k := true) (tTru_of (call4 (a := .int a) (b := .int b) (c := .int c) (d := mx a b P) rfl rfl rfl rfl (h.inP x)))))) rfl
theorem best_two (x y : Nat) : cBest false [.list [ni x, ni y]] = some (ni (min x y)) := by
  have ok : okK [ni x, ni y] = true := rfl
  show (if okK [ni x, ni y] = true then some (bestD false (ni x) [ni y]) else none) = _
  rw [if_pos ok]
  refine congrArg some ?_
  show (if (if false = true then ltD (ni x) (ni y) else ltD (ni y) (ni x)) = true then ni y else ni x) = _
  rw [if_neg (by decide : ¬ false = true)]
  have l : ltD (ni y) (ni x) = decide (y < x) := by
    show decide ((y : Int) < (x : Int)) = _
    exact decide_eq_decide.mpr (by omega)
  rw [l]
  by_cases z : y < x
  · rw [if_pos (decide_eq_true z)]
    exact congrArg ni (by omega)
  · rw [if_neg (by simpa using z)]
    exact congrArg ni (by omega)
abbrev Rw (d : List D) (a b c i : Nat) (P : Nat → Nat → Nat) (s5 s6 s7 s8 : Sl) : En := [.io d, vi a, vi b, vi c, .ow ((List.range i).map fun i => .list (lnD b fun j => ni (P i j))), s5, s6, s7, s8]
structure Up (b c i : Nat) (P : Nat → Nat → Nat) : Prop where
  le : ∀ i', i' < i → ∀ j, j < b → P i' j ≤ c
  col : ∀ i', 0 < i' → i' < i → ∀ j, j < b → P i' j ≤ P (i' - 1) j
  row : ∀ i', i' < i → ∀ j, 0 < j → j < b → P i' j ≤ P i' (j - 1)
structure Ln (c i : Nat) (P : Nat → Nat → Nat) (j : Nat) (Q : Nat → Nat) : Prop where
  le : ∀ j', j' < j → Q j' ≤ c
  up : 0 < i → ∀ j', j' < j → Q j' ≤ P (i - 1) j'
  row : ∀ j', 0 < j' → j' < j → Q j' ≤ Q (j' - 1)
theorem inner {a b c i : Nat} {P : Nat → Nat → Nat} (x : Bx a b c) (hi : i < a) (U : Up b c i P) (d : List D) (hd : IsDice d) (s8 : Sl) (n8 : noIo s8 = true) :
    ∃ d' Q x7 x8, forD (gN 7) g__law_pile_b1 (rngD 1 0 b) (Rw d a b c i P (vi i) (.ow (lnD 0 fun j => ni 0)) .no s8) = .nx (Rw d' a b c i P (vi i) (.ow (lnD b fun j => ni (Q j))) x7 x8) ∧ IsDice d' ∧ noIo x7 = true ∧ noIo x8 = true ∧ Ln c i P b Q := by
  have b2 := x.b2
  have c2 := x.c2
  have a2 := x.a2
  obtain ⟨r', e1, d', Q, x7, x8, k, n7, n8', L, rfl⟩ := forD_range (t := gN 7) (f := g__law_pile_b1) (lo := 0) (n := b) (fun j r => ∃ d' Q x7 x8, IsDice d' ∧ noIo x7 = true ∧ noIo x8 = true ∧ Ln c i P j Q ∧ r = Rw d' a b c i P (vi i) (.ow (lnD j fun j => ni (Q j))) x7 x8) (fun j r hj hr => by
    obtain ⟨d, Q, x7, x8, hd, n7, n8, L, rfl⟩ := hr
    have e0 : (0 : Int) + (j : Int) = (j : Int) := Int.zero_add _
    -- the most
    obtain ⟨u, hu, eu⟩ : ∃ u : Nat, (u ≤ c ∧ (0 < i → u ≤ P (i - 1) j)) ∧ eIf (tB1 (eOp oGtK (eV 5) (eC (.int 0)))) (eOp oIx (eIxO 4 (eOp oSub (eV 5) (eC (.int 1)))) (eV 7)) (eV 3) (Rw d a b c i P (vi i) (.ow (lnD j fun j => ni (Q j))) (vi j) x8) = .ok (ni u) (Rw d a b c i P (vi i) (.ow (lnD j fun j => ni (Q j))) (vi j) x8) := by
      have z : tB1 (eOp oGtK (eV 5) (eC (.int 0))) (Rw d a b c i P (vi i) (.ow (lnD j fun j => ni (Q j))) (vi j) x8) = .ok (decide ((0 : Int) < (i : Int))) (Rw d a b c i P (vi i) (.ow (lnD j fun j => ni (Q j))) (vi j) x8) := tB1_of (eOp_of (x := ni i) (y := .int 0) rfl eC_of gtK)
      by_cases w : 0 < i
      · rw [decide_eq_true (by omega)] at z
        refine ⟨P (i - 1) j, ⟨U.le (i - 1) (by omega) j hj, fun _ => Nat.le_refl _⟩, eIf_t z ?_⟩
        have q : eIxO 4 (eOp oSub (eV 5) (eC (.int 1))) (Rw d a b c i P (vi i) (.ow (lnD j fun j => ni (Q j))) (vi j) x8) = .ok (.list (lnD b fun j => ni (P (i - 1) j))) (Rw d a b c i P (vi i) (.ow (lnD j fun j => ni (Q j))) (vi j) x8) :=
          eIxO_at (e := fun i => PyData.list (lnD b fun j => ni (P i j))) (i := 4) (g := eOp oSub (eV 5) (eC (.int 1))) (L := List.range i) (k := (i : Int) - 1) (j := i - 1) (x := i - 1) (s := .ow ((List.range i).map fun i => .list (lnD b fun j => ni (P i j)))) rfl (subE (f := eV 5) (g := eC (.int 1)) (a := i) (b := 1) rfl eC_of rfl) rfl rfl (by omega) (List.getElem?_range (by omega))
        exact eOp_of q (y := ni j) rfl (ix_lnL (j := j) rfl hj)
      · rw [decide_eq_false (by omega)] at z
        exact ⟨c, ⟨Nat.le_refl _, fun z => absurd z w⟩, eIf_f z rfl⟩
    obtain ⟨v, hv, ev⟩ : ∃ v : Nat, (0 < j → v ≤ Q (j - 1)) ∧ eIf (tB1 (eOp oGtK (eV 7) (eC (.int 0)))) (eIxO 6 (eUn oNeg (eC (.int 1)))) (eV 3) (Rw d a b c i P (vi i) (.ow (lnD j fun j => ni (Q j))) (vi j) x8) = .ok (ni v) (Rw d a b c i P (vi i) (.ow (lnD j fun j => ni (Q j))) (vi j) x8) := by
      have z : tB1 (eOp oGtK (eV 7) (eC (.int 0))) (Rw d a b c i P (vi i) (.ow (lnD j fun j => ni (Q j))) (vi j) x8) = .ok (decide ((0 : Int) < (j : Int))) (Rw d a b c i P (vi i) (.ow (lnD j fun j => ni (Q j))) (vi j) x8) := tB1_of (eOp_of (x := ni j) (y := .int 0) rfl eC_of gtK)
      by_cases w : 0 < j
      · rw [decide_eq_true (by omega)] at z
        refine ⟨Q (j - 1), fun _ => Nat.le_refl _, eIf_t z ?_⟩
        show liftO (atI (lnD j fun j => ni (Q j)) (-1)) _ = _
        have l : atI (lnD j fun j => ni (Q j)) (-1) = some (ni (Q (j - 1))) := by
          unfold L2.atI L2.ixN
          rw [ln_len, if_neg (by omega), if_pos (by omega), show (-1 + (j : Int)).toNat = j - 1 by omega]
          show ((List.range j).map fun j => ni (Q j))[j - 1]? = _
          rw [List.getElem?_map, List.getElem?_range (by omega)]
          rfl
        rw [l]
        rfl
      · rw [decide_eq_false (by omega)] at z
        exact ⟨c, fun z => absurd z w, eIf_f z rfl⟩
    have q1 : sSet (eCB (cBest false) (aCons (eF (xLst (aCons (eIf (tB1 (eOp oGtK (eV 5) (eC (.int 0)))) (eOp oIx (eIxO 4 (eOp oSub (eV 5) (eC (.int 1)))) (eV 7)) (eV 3)) (aCons (eIf (tB1 (eOp oGtK (eV 7) (eC (.int 0)))) (eIxO 6 (eUn oNeg (eC (.int 1)))) (eV 3)) (aNil))))) (aNil))) 8 (Rw d a b c i P (vi i) (.ow (lnD j fun j => ni (Q j))) (vi j) x8) = .nx (Rw d a b c i P (vi i) (.ow (lnD j fun j => ni (Q j))) (vi j) (vi (min u v))) :=
      sSet_of (i := 8) (eCB_of (x := [.list [ni u, ni v]]) (aCons_of (eF_of (s := .ow [ni u, ni v]) (xLst_of (aCons_of eu (aCons_of ev aNil_of)) (by show 2 ≤ 1000000; decide)) rfl) aNil_of) (best_two u v))
    obtain ⟨t, d1, w1, a1, b1, k1⟩ := rollG (f := eC (.int 2)) (n := 2) (r := Rw d a b c i P (vi i) (.ow (lnD j fun j => ni (Q j))) (vi j) (vi (min u v))) (r1 := Rw d a b c i P (vi i) (.ow (lnD j fun j => ni (Q j))) (vi j) (vi (min u v))) hd rfl rfl eC_of (by decide) (by decide)
    have zt : tB1 (eOp oEq (eF (xCallI 0 f__law_roll (aCons (eC (.int 2)) (aNil)))) (eC (.int 0))) (Rw d a b c i P (vi i) (.ow (lnD j fun j => ni (Q j))) (vi j) (vi (min u v))) = .ok (t == 0) (Rw d1 a b c i P (vi i) (.ow (lnD j fun j => ni (Q j))) (vi j) (vi (min u v))) := tB1_of (eOp_of w1 eC_of (oEq_int _ _))
    obtain ⟨n, d2, hn, k2, en⟩ : ∃ (n : Nat) (d2 : List D), n ≤ min u v ∧ IsDice d2 ∧ eIf (tB1 (eOp oEq (eF (xCallI 0 f__law_roll (aCons (eC (.int 2)) (aNil)))) (eC (.int 0)))) (eOp oSub (eV 8) (eF (xCallI 0 f__law_roll (aCons (eOp oAdd (eV 8) (eC (.int 1))) (aNil))))) (eV 8) (Rw d a b c i P (vi i) (.ow (lnD j fun j => ni (Q j))) (vi j) (vi (min u v))) = .ok (ni n) (Rw d2 a b c i P (vi i) (.ow (lnD j fun j => ni (Q j))) (vi j) (vi (min u v))) := by
      cases ht : (t == 0) with
      | true =>
        rw [ht] at zt
        obtain ⟨q, d2, w2, a2, b2, k2⟩ := rollG (f := eOp oAdd (eV 8) (eC (.int 1))) (n := ((min u v : Nat) : Int) + 1) (r := Rw d1 a b c i P (vi i) (.ow (lnD j fun j => ni (Q j))) (vi j) (vi (min u v))) (r1 := Rw d1 a b c i P (vi i) (.ow (lnD j fun j => ni (Q j))) (vi j) (vi (min u v))) k1 rfl rfl (addE (f := eV 8) (g := eC (.int 1)) (a := ((min u v : Nat) : Int)) (b := 1) rfl eC_of rfl) (by omega) (by omega)
        refine ⟨min u v - q.toNat, d2, by omega, k2, eIf_t zt (eOp_of (x := ni (min u v)) (y := .int q) rfl w2 ?_)⟩
        show some (PyData.int (((min u v : Nat) : Int) - q)) = _
        refine congrArg (fun z => some (PyData.int z)) ?_
        omega
      | false =>
        rw [ht] at zt
        exact ⟨min u v, d1, Nat.le_refl _, k1, eIf_f zt rfl⟩
    have grow : (lnD j fun j => ni (Q j)) ++ [ni n] = lnD (j + 1) fun j' => ni (if j' = j then n else Q j') := by
      show (List.range j).map (fun j => ni (Q j)) ++ [ni n] = (List.range (j + 1)).map fun j' => ni (if j' = j then n else Q j')
      rw [List.range_succ, List.map_append]
      congr 1
      · refine List.map_congr_left fun j' hj' => ?_
        have := List.mem_range.mp hj'
        rw [if_neg (by omega)]
      · simp
    have q2 := sApp_of (i := 6) (s := .ow (lnD j fun j => ni (Q j))) (ds := lnD j fun j => ni (Q j)) (r := Rw d a b c i P (vi i) (.ow (lnD j fun j => ni (Q j))) (vi j) (vi (min u v))) rfl en rfl rfl (by rw [ln_len]; omega)
    refine ⟨Rw d a b c i P (vi i) (.ow (lnD j fun j => ni (Q j))) (vi j) x8, Rw d2 a b c i P (vi i) (.ow (lnD (j + 1) fun j' => ni (if j' = j then n else Q j'))) (vi j) (vi (min u v)), by rw [e0]; rfl, ?_, d2, fun j' => if j' = j then n else Q j', vi j, vi (min u v), k2, rfl, rfl, ⟨fun j' hj' => ?_, fun hi0 j' hj' => ?_, fun j' h0 hj' => ?_⟩, rfl⟩
    · refine Eq.trans (sSeq_of q1) (Eq.trans q2 ?_)
      rw [← grow]
      rfl
    · by_cases z : j' = j
      · rw [if_pos z]; omega
      · rw [if_neg z]; exact L.le j' (by omega)
    · by_cases z : j' = j
      · rw [if_pos z, z]; have := hu.2 hi0; omega
      · rw [if_neg z]; exact L.up hi0 j' (by omega)
    · by_cases z : j' = j
      · rw [if_pos z, if_neg (by omega), z]; have := hv (by omega); omega
      · rw [if_neg z, if_neg (by omega)]; exact L.row j' h0 (by omega)) (r := Rw d a b c i P (vi i) (.ow (lnD 0 fun j => ni 0)) .no s8) ⟨d, fun _ => 0, .no, s8, hd, rfl, n8, ⟨fun j' h => absurd h (Nat.not_lt_zero _), fun _ j' h => absurd h (Nat.not_lt_zero _), fun j' _ h => absurd h (Nat.not_lt_zero _)⟩, rfl⟩
  exact ⟨d', Q, x7, x8, e1, k, n7, n8', L⟩
end K62
set_option maxHeartbeats 400000
/-! K62r: a drawn pile (the lines), the values near it -/
namespace K62
open PySem L2 DL
theorem pileE {a b c : Nat} (x : Bx a b c) (ds : List D) (hd : IsDice ds) : ∃ ds' P, f__law_pile [.io ds, vi a, vi b, vi c] = .rt (.vl (mx a b P)) (some ds') ∧ IsDice ds' ∧ PL a b c P := by
  have a2 := x.a2
  have b2 := x.b2
  obtain ⟨r', e1, d', P, x5, x6, x7, x8, k, n5, n6, n7, n8, U, rfl⟩ := forD_range (t := gN 5) (f := g__law_pile_b2) (lo := 0) (n := a) (fun i r => ∃ d' P x5 x6 x7 x8, IsDice d' ∧ noIo x5 = true ∧ noIo x6 = true ∧ noIo x7 = true ∧ noIo x8 = true ∧ Up b c i P ∧ r = Rw d' a b c i P x5 x6 x7 x8) (fun i r hi hr => by
    obtain ⟨d, P, x5, x6, x7, x8, hd, n5, n6, n7, n8, U, rfl⟩ := hr
    have e0 : (0 : Int) + (i : Int) = (i : Int) := Int.zero_add _
    obtain ⟨d1, Q, y7, y8, e1, k1, m7, m8, L⟩ := inner x hi U d hd x8 n8
    have grow : ((List.range i).map fun i => PyData.list (lnD b fun j => ni (P i j))) ++ [.list (lnD b fun j => ni (Q j))] = (List.range (i + 1)).map fun i' => PyData.list (lnD b fun j => ni (if i' = i then Q j else P i' j)) := by
      rw [List.range_succ, List.map_append]
      congr 1
      · refine List.map_congr_left fun i' hi' => ?_
        have := List.mem_range.mp hi'
        simp only [show ¬ i' = i by omega, if_false]
      · simp
    refine ⟨Rw d a b c i P (vi i) x6 x7 x8, Rw d1 a b c (i + 1) (fun i' j => if i' = i then Q j else P i' j) (vi i) (.vl (.list (lnD b fun j => ni (Q j)))) y7 y8, by rw [e0]; rfl, ?_, d1, fun i' j => if i' = i then Q j else P i' j, vi i, .vl (.list (lnD b fun j => ni (Q j))), y7, y8, k1, rfl, rfl, m7, m8, ⟨fun i' hi' j hj => ?_, fun i' h0 hi' j hj => ?_, fun i' hi' j h0 hj => ?_⟩, rfl⟩
    · have itj : iRg1 (eV 2) (Rw d a b c i P (vi i) (.ow (lnD 0 fun j => ni 0)) x7 x8) = .ok (rngD 1 0 b) (Rw d a b c i P (vi i) (.ow (lnD 0 fun j => ni 0)) x7 x8) := iRg1_of (j := b) rfl (by omega) (by omega) (by omega)
      have st : forD (gN 7) g__law_pile_b1 (rngD 1 0 b) (Rw d a b c i P (vi i) (.ow (lnD 0 fun j => ni 0)) x7 x8) = forD (gN 7) g__law_pile_b1 (rngD 1 0 b) (Rw d a b c i P (vi i) (.ow (lnD 0 fun j => ni 0)) .no x8) := by
        have b1 := x.b1
        obtain ⟨n, rfl⟩ : ∃ n, b = n + 1 := ⟨b - 1, by omega⟩
        rw [rngD]
        conv => lhs; unfold forD
        conv => rhs; unfold forD
        rfl
      have q2 : sApp 4 (eVF 6) (Rw d1 a b c i P (vi i) (.ow (lnD b fun j => ni (Q j))) y7 y8) = .nx (Rw d1 a b c (i + 1) (fun i' j => if i' = i then Q j else P i' j) (vi i) (.vl (.list (lnD b fun j => ni (Q j)))) y7 y8) := by
        refine Eq.trans (sApp_of (i := 4) (s := .ow ((List.range i).map fun i => .list (lnD b fun j => ni (P i j)))) (ds := (List.range i).map fun i => .list (lnD b fun j => ni (P i j))) rfl (eVF_ow (ds := lnD b fun j => ni (Q j)) rfl) rfl rfl (by rw [List.length_map, List.length_range]; omega)) ?_
        rw [grow]
        rfl
      exact Eq.trans (sSeq_of (r1 := Rw d a b c i P (vi i) (.ow (lnD 0 fun j => ni 0)) x7 x8) rfl) (Eq.trans (sSeq_of (Eq.trans (sFor_of itj) (Eq.trans st e1))) q2)
    · by_cases z : i' = i
      · simp only [z, if_true]; exact L.le j hj
      · simp only [z, if_false]; exact U.le i' (by omega) j hj
    · by_cases z : i' = i
      · subst z
        simp only [if_true, show ¬ i' - 1 = i' by omega, if_false]
        exact L.up h0 j hj
      · simp only [z, if_false, show ¬ i' - 1 = i by omega]
        exact U.col i' h0 (by omega) j hj
    · by_cases z : i' = i
      · simp only [z, if_true]; exact L.row j h0 hj
      · simp only [z, if_false]; exact U.row i' (by omega) j h0 hj) (r := Rw ds a b c 0 (fun _ _ => 0) .no .no .no .no) ⟨ds, fun _ _ => 0, .no, .no, .no, .no, hd, rfl, rfl, rfl, rfl, ⟨fun i' h => absurd h (Nat.not_lt_zero _), fun i' _ h => absurd h (Nat.not_lt_zero _), fun i' h => absurd h (Nat.not_lt_zero _)⟩, rfl⟩
  have it : iRg1 (eV 1) (Rw ds a b c 0 (fun _ _ => 0) .no .no .no .no) = .ok (rngD 1 0 a) (Rw ds a b c 0 (fun _ _ => 0) .no .no .no .no) := iRg1_of (j := a) rfl (by omega) (by omega) (by omega)
  have fin : ∀ x6 : Sl, noIo x6 = true → eCB cTup (aCons (eF (xLc [6] (iSeq (eVF 4)) (gN 6) (tT) (g__law_pile_e3))) (aNil)) (Rw d' a b c a P x5 x6 x7 x8) = .ok (mx a b P) [.io d', vi a, vi b, vi c, .vl (.list ((List.range a).map fun i => .list (lnD b fun j => ni (P i j)))), x5, x6, x7, x8] := fun x6 _ => by
    refine eCB_of (x := [.list ((List.range a).map fun i => PyData.tuple (lnD b fun j => ni (P i j)))]) (aCons_of (eF_of (s := .ow ((List.range a).map fun i => PyData.tuple (lnD b fun j => ni (P i j)))) (Eq.trans (xLc_map (enc := fun i => PyData.list (lnD b fun j => ni (P i j))) (p := fun _ => true) (g := fun i => PyData.tuple (lnD b fun j => ni (P i j))) (xs := List.range a) (r1 := [.io d', vi a, vi b, vi c, .vl (.list ((List.range a).map fun i => .list (lnD b fun j => ni (P i j)))), x5, x6, x7, x8]) (iSeq_ofL (eVF_ow (ds := (List.range a).map fun i => .list (lnD b fun j => ni (P i j))) rfl)) (fun i _ => ⟨[.io d', vi a, vi b, vi c, .vl (.list ((List.range a).map fun i => .list (lnD b fun j => ni (P i j)))), x5, .vl (.list (lnD b fun j => ni (P i j))), x7, x8], rfl, rfl, fun _ => rfl, rfl⟩) (by rw [List.length_range]; omega)) (by rw [filt_all])) rfl) aNil_of) rfl
  refine ⟨d', P, runF_rt (r := [.io d', vi a, vi b, vi c, .vl (.list ((List.range a).map fun i => .list (lnD b fun j => ni (P i j)))), x5, x6, x7, x8]) rfl (Eq.trans (sSeq_of (r1 := Rw ds a b c 0 (fun _ _ => 0) .no .no .no .no) rfl) (Eq.trans (sSeq_of (Eq.trans (sFor_of it) e1)) (sRet_of (fin x6 n6)))) rfl ?_, k, ⟨U.le, fun i h0 hi j hj => U.col i h0 hi j hj, fun i hi j h0 hj => U.row i hi j h0 hj⟩⟩
  cases x5 <;> cases x6 <;> cases x7 <;> cases x8 <;> first | rfl | exact (noIo_io n5).elim | exact (noIo_io n6).elim | exact (noIo_io n7).elim | exact (noIo_io n8).elim
/-! ### values near a pile -/
abbrev N (d : List D) (a b c : Nat) (v : D) (vs : List D) (s6 s7 s8 : Sl) : En := [.io d, vi a, vi b, vi c, .vl v, .ow vs, s6, s7, s8, .no]
def odds (c : Nat) : List D := [ni (c + 1), ni c, .int (-1), .none, .bool true, .str (Str.ofString "0"), .int (1000000000000000000000000000000000000000000000000000000000000), .tuple [.int 0]]
theorem smp_odds {c : Nat} {d : D} (h : d ∈ odds c) : Smp d := by
  simp only [odds, List.mem_cons, List.not_mem_nil, or_false] at h
  rcases h with h | h | h | h | h | h | h | h <;> subst h
  · exact .int _
  · exact .int _
  · exact .int _
  · exact .non
  · exact .tru
  · exact .str _ (by decide +kernel)
  · exact .int _
  · exact .tup
def natOf : D → Nat
  | .int k => k.toNat
  | _ => 0
theorem isin_nat {c : Nat} {d : D} (h : isIn c d = true) : d = ni (natOf d) := by
  cases d with
  | int k =>
    have h : (decide ((0 : Int) ≤ k) && decide (k ≤ (c : Int))) = true := h
    rw [Bool.and_eq_true, decide_eq_true_eq, decide_eq_true_eq] at h
    show PyData.int k = .int ((k.toNat : Nat) : Int)
    rw [Int.toNat_of_nonneg h.1]
  | _ => exact Bool.noConfusion h
theorem ent_odd {a b c i j : Nat} {P : Nat → Nat → Nat} {o : D} (ho : Smp o) : Ent a b c (fun i' j' => if i' = i then (if j' = j then o else ni (P i' j')) else ni (P i' j')) (fun i' j' => if i' = i then (if j' = j then natOf o else P i' j') else P i' j') where
  smp := fun i' _ j' _ => by
    by_cases z : i' = i
    · by_cases w : j' = j
      · simp only [z, w, if_true]; exact ho
      · simp only [z, w, if_true, if_false]; exact .int _
    · simp only [z, if_false]; exact .int _
  good := fun i' _ j' _ h => by
    by_cases z : i' = i
    · by_cases w : j' = j
      · simp only [z, w, if_true] at h ⊢; exact isin_nat h
      · simp only [z, w, if_true, if_false]
    · simp only [z, if_false]
theorem oddV {a b i j : Nat} {P : Nat → Nat → Nat} {o : D} {r : En} (ha : a ≤ 4) (hb : b ≤ 4) (hi : i < a) (hj : j < b) (h4 : r[4]? = some (.vl (mx a b P))) (h6 : r[6]? = some (.vl o)) (h7 : r[7]? = some (vi i)) (h8 : r[8]? = some (vi j)) :
    eOp oAdd (eOp oAdd (eF (xSlc (eV 4) (pNo) (pE (eV 7)))) (eTup (aCons (eOp oAdd (eOp oAdd (eF (xSlc (eOp oIx (eV 4) (eV 7)) (pNo) (pE (eV 8)))) (eTup (aCons (eV 6) (aNil)))) (eF (xSlc (eOp oIx (eV 4) (eV 7)) (pE (eOp oAdd (eV 8) (eC (.int 1)))) (pNo)))) (aNil)))) (eF (xSlc (eV 4) (pE (eOp oAdd (eV 7) (eC (.int 1)))) (pNo))) r = .ok (mD a b fun i' j' => if i' = i then (if j' = j then o else ni (P i' j')) else ni (P i' j')) r := by
  have v4 : eV 4 r = .ok (mx a b P) r := by unfold eV; rw [h4]
  have v6 : eV 6 r = .ok o r := by unfold eV; rw [h6]
  have v7 : eV 7 r = .ok (ni i) r := by unfold eV; rw [h7]
  have v8 : eV 8 r = .ok (ni j) r := by unfold eV; rw [h8]
  have ln : eOp oIx (eV 4) (eV 7) r = .ok (.tuple (lnD b fun j => ni (P i j))) r := eOp_of v4 v7 (ix_m rfl hi)
  have sl1 : ∀ {f g : En → R D} {ds : List D} {k : Nat}, f r = .ok (.tuple ds) r → g r = .ok (ni k) r → k ≤ ds.length → eF (xSlc f (pNo) (pE g)) r = .ok (.tuple (ds.take k)) r := fun {f g ds k} hf hg hk => by
    rw [← cut_take ds k hk]
    refine eF_of (s := .vl (.tuple (cutD ds none (some (k : Int))))) ?_ rfl
    unfold xSlc pNo pE
    rw [hf]
    simp only [R.bind]
    rw [hg]
  have sl2 : ∀ {f g : En → R D} {ds : List D} {k : Nat}, f r = .ok (.tuple ds) r → g r = .ok (ni k) r → k ≤ ds.length → eF (xSlc f (pE g) (pNo)) r = .ok (.tuple (ds.drop k)) r := fun {f g ds k} hf hg hk => by
    rw [← cut_drop ds k hk]
    refine eF_of (s := .vl (.tuple (cutD ds (some (k : Int)) none))) ?_ rfl
    unfold xSlc pNo pE
    rw [hf]
    simp only [R.bind]
    rw [hg]
  have j1 : eOp oAdd (eV 8) (eC (.int 1)) r = .ok (ni (j + 1)) r := addE (a := j) (b := 1) v8 eC_of rfl
  have i1 : eOp oAdd (eV 7) (eC (.int 1)) r = .ok (ni (i + 1)) r := addE (a := i) (b := 1) v7 eC_of rfl
  have L : eOp oAdd (eOp oAdd (eF (xSlc (eOp oIx (eV 4) (eV 7)) (pNo) (pE (eV 8)))) (eTup (aCons (eV 6) (aNil)))) (eF (xSlc (eOp oIx (eV 4) (eV 7)) (pE (eOp oAdd (eV 8) (eC (.int 1)))) (pNo))) r = .ok (.tuple (lnD b fun j' => if j' = j then o else ni (P i j'))) r := by
    show _ = R.ok (PyData.tuple ((List.range b).map fun j' => if j' = j then o else ni (P i j'))) r
    rw [← set_map (fun j => ni (P i j)) o hj]
    refine eOp_of (eOp_of (sl1 ln v8 (by rw [ln_len]; omega)) (eTup_of (ds := [o]) (aCons_of v6 aNil_of) (by show 1 ≤ 1000000; decide)) (addT _ _ (by rw [List.length_take, ln_len]; show _ + 1 ≤ _; omega))) (sl2 ln j1 (by rw [ln_len]; omega)) (addT _ _ (by rw [List.length_append, List.length_take, List.length_drop, ln_len]; show _ + 1 + _ ≤ _; omega))
  have len4 : ((List.range a).map fun i => PyData.tuple (lnD b fun j => ni (P i j))).length = a := by rw [List.length_map, List.length_range]
  have M : eOp oAdd (eOp oAdd (eF (xSlc (eV 4) (pNo) (pE (eV 7)))) (eTup (aCons (eOp oAdd (eOp oAdd (eF (xSlc (eOp oIx (eV 4) (eV 7)) (pNo) (pE (eV 8)))) (eTup (aCons (eV 6) (aNil)))) (eF (xSlc (eOp oIx (eV 4) (eV 7)) (pE (eOp oAdd (eV 8) (eC (.int 1)))) (pNo)))) (aNil)))) (eF (xSlc (eV 4) (pE (eOp oAdd (eV 7) (eC (.int 1)))) (pNo))) r = .ok (.tuple ((((List.range a).map fun i => PyData.tuple (lnD b fun j => ni (P i j))).take i ++ [.tuple (lnD b fun j' => if j' = j then o else ni (P i j'))]) ++ ((List.range a).map fun i => PyData.tuple (lnD b fun j => ni (P i j))).drop (i + 1))) r :=
    eOp_of (eOp_of (sl1 v4 v7 (by rw [len4]; omega)) (eTup_of (ds := [.tuple (lnD b fun j' => if j' = j then o else ni (P i j'))]) (aCons_of L aNil_of) (by show 1 ≤ 1000000; decide)) (addT _ _ (by rw [List.length_take, len4]; show _ + 1 ≤ _; omega))) (sl2 v4 i1 (by rw [len4]; omega)) (addT _ _ (by rw [List.length_append, List.length_take, List.length_drop, len4]; show _ + 1 + _ ≤ _; omega))
  rw [M, set_map (fun i => PyData.tuple (lnD b fun j => ni (P i j))) _ hi]
  congr 2
  refine List.map_congr_left fun i' _ => ?_
  by_cases z : i' = i
  · subst z
    simp only [if_true]
  · simp only [z, if_false]
theorem nearE {a b c : Nat} {P : Nat → Nat → Nat} (x : Bx a b c) (ds : List D) (hd : IsDice ds) : ∃ ds' vs, f__law_near [.io ds, vi a, vi b, vi c, .vl (mx a b P)] = .rt (.ow vs) (some ds') ∧ IsDice ds' ∧ (∀ v ∈ vs, Jd a b c v) := by
  have a1 := x.a1
  have a2 := x.a2
  have b1 := x.b1
  have b2 := x.b2
  have len4 : ((List.range a).map fun i => PyData.tuple (lnD b fun j => ni (P i j))).length = a := by rw [List.length_map, List.length_range]
  -- the first eight
  have i3 : eF (xRevA (eV 4)) [.io ds, vi a, vi b, vi c, .vl (mx a b P), .no, .no, .no, .no, .no] = .ok (mx a b fun i j => P (a - 1 - i) j) [.io ds, vi a, vi b, vi c, .vl (mx a b P), .no, .no, .no, .no, .no] := by
    have z : eF (xRevA (eV 4)) [.io ds, vi a, vi b, vi c, .vl (mx a b P), .no, .no, .no, .no, .no] = .ok (.tuple ((List.range a).map fun i => PyData.tuple (lnD b fun j => ni (P i j))).reverse) [.io ds, vi a, vi b, vi c, .vl (mx a b P), .no, .no, .no, .no, .no] := rfl
    rw [rev_map] at z
    exact z
  have lines : ∀ {e : En → R D} {h : Nat → D} (s5 : Sl), (∀ i, i < a → e [.io ds, vi a, vi b, vi c, .vl (mx a b P), s5, .no, .no, .no, .vl (.tuple (lnD b fun j => ni (P i j)))] = .ok (h i) [.io ds, vi a, vi b, vi c, .vl (mx a b P), s5, .no, .no, .no, .vl (.tuple (lnD b fun j => ni (P i j)))]) → eCB cTup (aCons (eF (xLc [9] (iSeq (eV 4)) (gN 9) (tT) e)) (aNil)) [.io ds, vi a, vi b, vi c, .vl (mx a b P), s5, .no, .no, .no, .no] = .ok (.tuple ((List.range a).map h)) [.io ds, vi a, vi b, vi c, .vl (mx a b P), s5, .no, .no, .no, .no] := fun {e h} s5 hh => by
    refine eCB_of (x := [.list ((List.range a).map h)]) (aCons_of (eF_of (s := .ow ((List.range a).map h)) (Eq.trans (xLc_map (enc := fun i => PyData.tuple (lnD b fun j => ni (P i j))) (p := fun _ => true) (g := h) (xs := List.range a) (r1 := [.io ds, vi a, vi b, vi c, .vl (mx a b P), s5, .no, .no, .no, .no]) (iSeq_of (ds := (List.range a).map fun i => PyData.tuple (lnD b fun j => ni (P i j))) rfl) (fun i hi => ⟨[.io ds, vi a, vi b, vi c, .vl (mx a b P), s5, .no, .no, .no, .vl (.tuple (lnD b fun j => ni (P i j)))], rfl, rfl, fun _ => hh i (List.mem_range.mp hi), rfl⟩) (by rw [List.length_range]; omega)) (by rw [filt_all])) rfl) aNil_of) rfl
  have i4 := lines (e := g__law_near_e1) (h := fun i => .tuple (lnD b fun j => ni (P i (b - 1 - j)))) .no (fun i _ => by
    have z : g__law_near_e1 [.io ds, vi a, vi b, vi c, .vl (mx a b P), .no, .no, .no, .no, .vl (.tuple (lnD b fun j => ni (P i j)))] = .ok (.tuple (lnD b fun j => ni (P i j)).reverse) [.io ds, vi a, vi b, vi c, .vl (mx a b P), .no, .no, .no, .no, .vl (.tuple (lnD b fun j => ni (P i j)))] := rfl
    rw [rev_map] at z
    exact z)
  have i5 : eF (xSlc (eV 4) (pE (eC (.int 1))) (pNo)) [.io ds, vi a, vi b, vi c, .vl (mx a b P), .no, .no, .no, .no, .no] = .ok (.tuple ((List.range a).map fun i => PyData.tuple (lnD b fun j => ni (P i j))).tail) [.io ds, vi a, vi b, vi c, .vl (mx a b P), .no, .no, .no, .no, .no] := by
    rw [← cut1]
    rfl
  have i6 : eOp oAdd (eV 4) (eTup (aCons (eOp oIx (eV 4) (eUn oNeg (eC (.int 1)))) (aNil))) [.io ds, vi a, vi b, vi c, .vl (mx a b P), .no, .no, .no, .no, .no] = .ok (.tuple (((List.range a).map fun i => PyData.tuple (lnD b fun j => ni (P i j))) ++ [.tuple (lnD b fun j => ni (P (a - 1) j))])) [.io ds, vi a, vi b, vi c, .vl (mx a b P), .no, .no, .no, .no, .no] := by
    refine eOp_of (x := mx a b P) (y := .tuple [.tuple (lnD b fun j => ni (P (a - 1) j))]) rfl (eTup_of (ds := [.tuple (lnD b fun j => ni (P (a - 1) j))]) (aCons_of (eOp_of (x := mx a b P) (y := .int (-1)) rfl rfl ?_) aNil_of) (by show 1 ≤ 1000000; decide)) (addT _ _ (by rw [len4]; show _ + 1 ≤ _; omega))
    show atI ((List.range a).map fun i => PyData.tuple (lnD b fun j => ni (P i j))) (-1) = _
    unfold L2.atI L2.ixN
    rw [len4, if_neg (by omega), if_pos (by omega), show (-1 + (a : Int)).toNat = a - 1 by omega]
    show ((List.range a).map fun i => PyData.tuple (lnD b fun j => ni (P i j)))[a - 1]? = _
    rw [List.getElem?_map, List.getElem?_range (by omega)]
    rfl
  have q0 : sAsgX (xLst (aCons (eV 4) (aCons (eF (xCB nList (aCons (eV 4) (aNil)))) (aCons (eF (xRevA (eV 4))) (aCons (eCB cTup (aCons (eF (xLc [9] (iSeq (eV 4)) (gN 9) (tT) (g__law_near_e1))) (aNil))) (aCons (eF (xSlc (eV 4) (pE (eC (.int 1))) (pNo))) (aCons (eOp oAdd (eV 4) (eTup (aCons (eOp oIx (eV 4) (eUn oNeg (eC (.int 1)))) (aNil)))) (aCons (eC .none) (aCons (eC (.int 0)) (aNil)))))))))) 5 [.io ds, vi a, vi b, vi c, .vl (mx a b P), .no, .no, .no, .no, .no] = .nx (N ds a b c (mx a b P) [mx a b P, .list ((List.range a).map fun i => PyData.tuple (lnD b fun j => ni (P i j))), mx a b fun i j => P (a - 1 - i) j, mx a b fun i j => P i (b - 1 - j), .tuple ((List.range a).map fun i => PyData.tuple (lnD b fun j => ni (P i j))).tail, .tuple (((List.range a).map fun i => PyData.tuple (lnD b fun j => ni (P i j))) ++ [.tuple (lnD b fun j => ni (P (a - 1) j))]), .none, .int 0] .no .no .no) :=
    sAsgX_of (i := 5) (xLst_of (aCons_of rfl (aCons_of (d := .list ((List.range a).map fun i => PyData.tuple (lnD b fun j => ni (P i j)))) (r1 := [.io ds, vi a, vi b, vi c, .vl (mx a b P), .no, .no, .no, .no, .no]) rfl (aCons_of i3 (aCons_of i4 (aCons_of i5 (aCons_of i6 (aCons_of eC_of (aCons_of eC_of aNil_of)))))))) (by show 8 ≤ 1000000; decide))
  generalize hv0 : [mx a b P, PyData.list ((List.range a).map fun i => PyData.tuple (lnD b fun j => ni (P i j))), mx a b fun i j => P (a - 1 - i) j, mx a b fun i j => P i (b - 1 - j), .tuple ((List.range a).map fun i => PyData.tuple (lnD b fun j => ni (P i j))).tail, .tuple (((List.range a).map fun i => PyData.tuple (lnD b fun j => ni (P i j))) ++ [.tuple (lnD b fun j => ni (P (a - 1) j))]), .none, .int 0] = v0 at q0
  have l0 : v0.length = 8 := by rw [← hv0]; rfl
  have J0 : ∀ v ∈ v0, Jd a b c v := fun v hv => by
    rw [← hv0] at hv
    simp only [List.mem_cons, List.not_mem_nil, or_false] at hv
    rcases hv with h | h | h | h | h | h | h | h <;> subst h
    · exact jd_mx P x
    · exact jd_not x rfl
    · exact jd_mx _ x
    · exact jd_mx _ x
    · exact jd_len x (by rw [List.length_tail, len4]; omega)
    · exact jd_len x (by rw [List.length_append, len4]; show a + 1 ≠ a; omega)
    · exact jd_not x rfl
    · exact jd_not x rfl
  -- four more
  have m3 := lines (e := g__law_near_e3) (h := fun i => .list (lnD b fun j => ni (P i j))) (.vl (.list v0)) (fun i _ => rfl)
  have m4 := lines (e := g__law_near_e2) (h := fun i => .tuple ((lnD b fun j => ni (P i j)) ++ [.int 0])) (.vl (.list v0)) (fun i _ => eOp_of (x := .tuple (lnD b fun j => ni (P i j))) (y := .tuple [.int 0]) rfl rfl (addT _ _ (by rw [ln_len]; show _ + 1 ≤ _; omega)))
  have q1 : sAsgX (xOp nCat (eVF 5) (eF (xLst (aCons (eTup (aNil)) (aCons (eDic) (aCons (eCB cTup (aCons (eF (xLc [9] (iSeq (eV 4)) (gN 9) (tT) (g__law_near_e3))) (aNil))) (aCons (eCB cTup (aCons (eF (xLc [9] (iSeq (eV 4)) (gN 9) (tT) (g__law_near_e2))) (aNil))) (aNil)))))))) 5 (N ds a b c (mx a b P) v0 .no .no .no) = .nx (N ds a b c (mx a b P) (v0 ++ [.tuple [], .dict [], .tuple ((List.range a).map fun i => PyData.list (lnD b fun j => ni (P i j))), .tuple ((List.range a).map fun i => PyData.tuple ((lnD b fun j => ni (P i j)) ++ [.int 0]))]) .no .no .no) := by
    refine sAsgX_of (i := 5) (r1 := [.io ds, vi a, vi b, vi c, .vl (mx a b P), .vl (.list v0), .no, .no, .no, .no]) (xOp_o (eVF_ow (ds := v0) rfl) (eF_of (s := .ow [.tuple [], .dict [], .tuple ((List.range a).map fun i => PyData.list (lnD b fun j => ni (P i j))), .tuple ((List.range a).map fun i => PyData.tuple ((lnD b fun j => ni (P i j)) ++ [.int 0]))]) (xLst_of (aCons_of rfl (aCons_of (d := .dict []) (r1 := [.io ds, vi a, vi b, vi c, .vl (mx a b P), .vl (.list v0), .no, .no, .no, .no]) rfl (aCons_of m3 (aCons_of m4 aNil_of)))) (by show 4 ≤ 1000000; decide)) rfl) ?_)
    show (if _ then _ else _) = _
    rw [if_pos (by rw [l0]; show 8 + 4 ≤ 1000000; decide)]
  generalize hv1 : v0 ++ [PyData.tuple [], .dict [], .tuple ((List.range a).map fun i => PyData.list (lnD b fun j => ni (P i j))), .tuple ((List.range a).map fun i => PyData.tuple ((lnD b fun j => ni (P i j)) ++ [.int 0]))] = v1 at q1
  have l1 : v1.length = 12 := by rw [← hv1, List.length_append, l0]; rfl
  have J1 : ∀ v ∈ v1, Jd a b c v := fun v hv => by
    rw [← hv1] at hv
    rcases List.mem_append.mp hv with hv | hv
    · exact J0 v hv
    · simp only [List.mem_cons, List.not_mem_nil, or_false] at hv
      rcases hv with h | h | h | h <;> subst h
      · exact jd_len x (by show 0 ≠ a; omega)
      · exact jd_not x rfl
      · exact jd_lines x (fun i v => eAnd_f (call3 (a := .list (lnD b fun j => ni (P i j))) (b := .int 0) (c := .int c) rfl eC_of rfl (runF_rt (r := [.vl (.list (lnD b fun j => ni (P i j))), .vl (.int 0), vi c, .no]) rfl (sRet_of (eAnd_f rfl)) rfl rfl))) (fun i v => tOr1_t (tNot1_of (k := false) (tTru_of rfl)))
      · have ap : ∀ i, ((lnD b fun j => ni (P i j)) ++ [.int 0]) = lnD (b + 1) fun j => if j = b then ni 0 else ni (P i j) := fun i => by
          show (List.range b).map (fun j => ni (P i j)) ++ [.int 0] = (List.range (b + 1)).map fun j => if j = b then ni 0 else ni (P i j)
          rw [List.range_succ, List.map_append]
          congr 1
          · refine List.map_congr_left fun j hj => ?_
            have := List.mem_range.mp hj
            rw [if_neg (by omega)]
          · simp
        have e : ((List.range a).map fun i => PyData.tuple ((lnD b fun j => ni (P i j)) ++ [.int 0])) = (List.range a).map fun i => PyData.tuple (lnD (b + 1) fun j => if j = b then ni 0 else ni (P i j)) := List.map_congr_left fun i _ => by rw [ap]
        rw [e]
        have lE : ∀ i, cLen [.tuple (lnD (b + 1) fun j => if j = b then ni 0 else ni (P i j))] = some (ni (b + 1)) := fun i => Eq.trans lenD (by rw [ln_len])
        refine jd_lines x (fun i v => ?_) (fun i v => tOr1_f (tNot1_of (k := true) (tTru_of rfl)) (tB1_of (eOp_of (x := ni (b + 1)) (y := ni b) (eCB_of (x := [.tuple (lnD (b + 1) fun j => if j = b then ni 0 else ni (P i j))]) (aCons_of rfl aNil_of) (lE i)) rfl (ne_true (by omega)))))
        have rw' := call3 (fD := f_is_row_of) (f := eV 4) (g := eC (.int 0)) (h := eV 2) (r := [vi a, vi b, vi c, v, .vl (.tuple (lnD (b + 1) fun j => if j = b then ni 0 else ni (P i j))), .no]) (a := .tuple (lnD (b + 1) fun j => if j = b then ni 0 else ni (P i j))) (b := .int 0) (c := .int c) rfl eC_of rfl (rowOf (b := b + 1) (c := c) (f := fun j => if j = b then ni 0 else ni (P i j)) (by omega) (fun j _ => by by_cases z : j = b <;> simp only [z, if_true, if_false] <;> exact .int _))
        cases hz : ((List.range (b + 1)).all fun j => isIn c (if j = b then ni 0 else ni (P i j))) with
        | false => rw [hz] at rw'; exact eAnd_f rw'
        | true =>
          rw [hz] at rw'
          refine eAnd_t rw' (eAnd_f (eOp_of (x := ni (b + 1)) (y := ni b) (eCB_of (x := [.tuple (lnD (b + 1) fun j => if j = b then ni 0 else ni (P i j))]) (aCons_of rfl aNil_of) (lE i)) rfl ?_))
          rw [oEq_int, beq_cast]
          cases ee : Nat.beq (b + 1) b with
          | true => have := Nat.eq_of_beq_eq_true ee; omega
          | false => rfl
  -- noughts
  have zl : eOp oMulT (eTup (aCons (eC (.int 0)) (aNil))) (eV 2) (N ds a b c (mx a b P) v1 .no .no .no) = .ok (.tuple (lnD b fun _ => ni 0)) (N ds a b c (mx a b P) v1 .no .no .no) := eOp_of (x := .tuple [ni 0]) (y := ni b) rfl rfl (mulT (by omega))
  have zm : eOp oMulT (eTup (aCons (eOp oMulT (eTup (aCons (eC (.int 0)) (aNil))) (eV 2)) (aNil))) (eV 1) (N ds a b c (mx a b P) v1 .no .no .no) = .ok (mx a b fun _ _ => 0) (N ds a b c (mx a b P) v1 .no .no .no) := eOp_of (x := .tuple [.tuple (lnD b fun _ => ni 0)]) (y := ni a) (eTup_of (ds := [.tuple (lnD b fun _ => ni 0)]) (aCons_of zl aNil_of) (by show 1 ≤ 1000000; decide)) rfl (mulT (by omega))
  have q2 : sApp 5 (eOp oMulT (eTup (aCons (eOp oMulT (eTup (aCons (eC (.int 0)) (aNil))) (eV 2)) (aNil))) (eV 1)) (N ds a b c (mx a b P) v1 .no .no .no) = .nx (N ds a b c (mx a b P) (v1 ++ [mx a b fun _ _ => 0]) .no .no .no) :=
    sApp_of (i := 5) (s := .ow v1) (ds := v1) rfl zm rfl rfl (by rw [l1]; decide)
  have J2 : ∀ v ∈ v1 ++ [mx a b fun _ _ => 0], Jd a b c v := fun v hv => by
    rcases List.mem_append.mp hv with hv | hv
    · exact J1 v hv
    · rw [List.mem_singleton] at hv
      subst hv
      exact jd_mx _ x
  have l2 : (v1 ++ [mx a b fun _ _ => 0]).length = 13 := by rw [List.length_append, l1]; rfl
  generalize v1 ++ [mx a b fun _ _ => 0] = v2 at *
  -- odd ones
  have oddL : ∀ (os : List D), (∀ o ∈ os, Smp o) → ∀ (d : List D) (vs : List D) (s6 s7 s8 : Sl), IsDice d → noIo s6 = true → noIo s7 = true → noIo s8 = true → (∀ v ∈ vs, Jd a b c v) → vs.length + os.length ≤ 1000 → ∃ d' vs' s6' s7' s8', forD (gN 6) g__law_near_b4 os (N d a b c (mx a b P) vs s6 s7 s8) = .nx (N d' a b c (mx a b P) vs' s6' s7' s8') ∧ IsDice d' ∧ noIo s6' = true ∧ noIo s7' = true ∧ noIo s8' = true ∧ (∀ v ∈ vs', Jd a b c v) := by
    intro os
    induction os with
    | nil => intro _ d vs s6 s7 s8 hd n6 n7 n8 hJ _; exact ⟨d, vs, s6, s7, s8, rfl, hd, n6, n7, n8, hJ⟩
    | cons o os ih =>
      intro hS d vs s6 s7 s8 hd n6 n7 n8 hJ hl
      rw [List.length_cons] at hl
      obtain ⟨i, d1, w1, i0, i1, k1⟩ := rollG (f := eV 1) (n := a) (r := N d a b c (mx a b P) vs (.vl o) s7 s8) (r1 := N d a b c (mx a b P) vs (.vl o) s7 s8) hd rfl rfl rfl (by omega) (by omega)
      obtain ⟨i, rfl⟩ : ∃ m : Nat, i = m := ⟨i.toNat, by omega⟩
      obtain ⟨j, d2, w2, j0, j1, k2⟩ := rollG (f := eV 2) (n := b) (r := N d1 a b c (mx a b P) vs (.vl o) s7 s8) (r1 := N d1 a b c (mx a b P) vs (.vl o) s7 s8) k1 rfl rfl rfl (by omega) (by omega)
      obtain ⟨j, rfl⟩ : ∃ m : Nat, j = m := ⟨j.toNat, by omega⟩
      have p1 : sPars [7, 8] (yCons (xV (eF (xCallI 0 f__law_roll (aCons (eV 1) (aNil))))) (yCons (xV (eF (xCallI 0 f__law_roll (aCons (eV 2) (aNil))))) (yNil))) (N d a b c (mx a b P) vs (.vl o) s7 s8) = .nx (N d2 a b c (mx a b P) vs (.vl o) (vi i) (vi j)) :=
        sPars_of (is := [7, 8]) (ss := [vi i, vi j]) (r1 := N d2 a b c (mx a b P) vs (.vl o) s7 s8) (yCons_of (xV_of w1) (yCons_of (xV_of w2) yNil_of)) rfl
      have v := oddV (a := a) (b := b) (i := i) (j := j) (P := P) (o := o) (r := N d2 a b c (mx a b P) vs (.vl o) (vi i) (vi j)) a2 b2 (by omega) (by omega) rfl rfl rfl rfl
      have p2 := sApp_of (i := 5) (s := .ow vs) (ds := vs) (r := N d2 a b c (mx a b P) vs (.vl o) (vi i) (vi j)) rfl v rfl rfl (by omega)
      obtain ⟨d', vs', s6', s7', s8', e, r1, r2, r3, r4, r5⟩ := ih (fun o' h => hS o' (List.mem_cons_of_mem _ h)) d2 (vs ++ [mD a b fun i' j' => if i' = i then (if j' = j then o else ni (P i' j')) else ni (P i' j')]) (.vl o) (vi i) (vi j) k2 rfl rfl rfl (fun v hv => by
        rcases List.mem_append.mp hv with hv | hv
        · exact hJ v hv
        · rw [List.mem_singleton] at hv
          subst hv
          exact jd_m x (ent_odd (hS o List.mem_cons_self))) (by rw [List.length_append]; show _ + 1 + _ ≤ _; omega)
      refine ⟨d', vs', s6', s7', s8', ?_, r1, r2, r3, r4, r5⟩
      unfold forD
      have t : gN 6 o (N d a b c (mx a b P) vs s6 s7 s8) = some (N d a b c (mx a b P) vs (.vl o) s7 s8) := rfl
      have bd : g__law_near_b4 (N d a b c (mx a b P) vs (.vl o) s7 s8) = .nx (N d2 a b c (mx a b P) (vs ++ [mD a b fun i' j' => if i' = i then (if j' = j then o else ni (P i' j')) else ni (P i' j')]) (.vl o) (vi i) (vi j)) := Eq.trans (sSeq_of p1) p2
      simp only [t, bd]
      exact e
  obtain ⟨d', vs', s6', s7', s8', e3, r1, r2, r3, r4, r5⟩ := oddL (odds c) (fun o h => smp_odds h) ds v2 .no .no .no hd rfl rfl rfl J2 (by rw [l2]; show 13 + 8 ≤ 1000; decide)
  have it : iSeq (eTup (aCons (eOp oAdd (eV 3) (eC (.int 1))) (aCons (eV 3) (aCons (eUn oNeg (eC (.int 1))) (aCons (eC .none) (aCons (eC (.bool true)) (aCons (eC (.str (PySem.Str.ofString "0"))) (aCons (eOp oPow (eC (.int 10)) (eC (.int 60))) (aCons (eTup (aCons (eC (.int 0)) (aNil))) (aNil)))))))))) (N ds a b c (mx a b P) v2 .no .no .no) = .ok (odds c) (N ds a b c (mx a b P) v2 .no .no .no) := by
    refine iSeq_of (ds := odds c) (eTup_of (ds := odds c) (aCons_of (addE (f := eV 3) (g := eC (.int 1)) (a := c) (b := 1) rfl eC_of rfl) (aCons_of rfl (aCons_of (d := .int (-1)) (r1 := N ds a b c (mx a b P) v2 .no .no .no) rfl (aCons_of eC_of (aCons_of eC_of (aCons_of eC_of (aCons_of (eOp_of (x := .int 10) (y := .int 60) (d := .int (1000000000000000000000000000000000000000000000000000000000000)) eC_of eC_of (by kernel_rfl)) (aCons_of (d := .tuple [.int 0]) (r1 := N ds a b c (mx a b P) v2 .no .no .no) rfl aNil_of)))))))) (by show 8 ≤ 1000000; decide))
  refine ⟨d', vs', runF_rt (r := [.io d', vi a, vi b, vi c, .vl (mx a b P), .no, s6', s7', s8', .no]) rfl (Eq.trans (sSeq_of q0) (Eq.trans (sSeq_of q1) (Eq.trans (sSeq_of q2) (Eq.trans (sSeq_of (Eq.trans (sFor_of it) e3)) rfl)))) rfl ?_, r1, r5⟩
  cases s6' <;> cases s7' <;> cases s8' <;> first | rfl | exact (noIo_io r2).elim | exact (noIo_io r3).elim | exact (noIo_io r4).elim
end K62
set_option maxHeartbeats 400000
/-! K62s: cubes, and piles by cubes -/
namespace K62
open PySem L2 DL
abbrev Tr := Nat × Nat × Nat
abbrev enT (t : Tr) : D := tI [(t.1 : Int), (t.2.1 : Int), (t.2.2 : Int)]
def lnC (i : Nat) (P : Nat → Nat → Nat) (j : Nat) : List Tr := (List.range j).flatMap fun j => (List.range (P i j)).map fun k => (i, j, k)
def cubesL (a b : Nat) (P : Nat → Nat → Nat) : List Tr := (List.range a).flatMap fun i => lnC i P b
theorem flat_len {α : Type} {f : Nat → List α} {m : Nat} : ∀ n, (∀ i, i < n → (f i).length ≤ m) → ((List.range n).flatMap f).length ≤ n * m
  | 0, _ => by simp
  | n + 1, h => by
    rw [List.range_succ, List.flatMap_append, List.length_append, Nat.succ_mul]
    have a := flat_len n fun i hi => h i (by omega)
    have b := h n (by omega)
    simp only [List.flatMap_cons, List.flatMap_nil, List.append_nil]
    omega
theorem forD_idx {t : D → En → Option En} {f : En → Fl} {enc : Nat → D} {n : Nat} (I : Nat → En → Prop) (h : ∀ i r, i < n → I i r → ∃ r1 r2, t (enc i) r = some r1 ∧ f r1 = .nx r2 ∧ I (i + 1) r2) {r : En} (h0 : I 0 r) : ∃ r', forD t f ((List.range n).map enc) r = .nx r' ∧ I n r' := by
  have key : ∀ m lo r, lo + m = n → I lo r → ∃ r', forD t f ((List.range' lo m).map enc) r = .nx r' ∧ I n r' := by
    intro m
    induction m with
    | zero => intro lo r e hr; exact ⟨r, rfl, by rw [Nat.add_zero] at e; rw [← e]; exact hr⟩
    | succ m ih =>
      intro lo r e hr
      obtain ⟨r1, r2, a1, a2, a3⟩ := h lo r (by omega) hr
      obtain ⟨r', b1, b2⟩ := ih (lo + 1) r2 (by omega) a3
      refine ⟨r', ?_, b2⟩
      rw [List.range'_succ, List.map_cons]
      unfold forD
      simp only [a1, a2]
      exact b1
  rw [List.range_eq_range']
  exact key n 0 r (by omega) h0
theorem enum_map {n : Nat} (f : Nat → D) : enumD 0 ((List.range n).map f) = (List.range n).map fun i => PyData.tuple [ni i, f i] := by
  refine List.ext_getElem? fun i => ?_
  rw [List.getElem?_map]
  by_cases hi : i < n
  · rw [List.getElem?_range hi, enumD_get ((List.range n).map f) 0 i (f i) (by rw [List.getElem?_map, List.getElem?_range hi]; rfl), Nat.zero_add]
    rfl
  · rw [List.getElem?_eq_none (by rw [enumD_len, List.length_map, List.length_range]; omega), List.getElem?_eq_none (by rw [List.length_range]; omega)]
    rfl
theorem iEnA_of {f : En → R D} {r r1 : En} {n : Nat} {g : Nat → D} (h : f r = .ok (.tuple ((List.range n).map g)) r1) : iEnA f r = .ok ((List.range n).map fun i => PyData.tuple [ni i, g i]) r1 := by
  rw [← enum_map]
  unfold iEnA
  rw [h]
  rfl
theorem sExt_of {i : Nat} {f : En → R Sl} {r r1 : En} {ds es : List D} (h0 : Sl.isM r[i]? = true) (h : f r = .ok (.ow es) r1) (h1 : r1[i]? = some (.ow ds)) (hl : ds.length + es.length ≤ 1000000) : sExt i f r = .nx (r1.set i (.ow (ds ++ es))) := by
  unfold sExt
  rw [if_pos h0, h]
  simp only [rF, h1, Sl.mut]
  rw [if_pos hl]
  rfl
theorem cubesE {a b : Nat} {P : Nat → Nat → Nat} (ha : a ≤ 4) (hb : b ≤ 4) (hP : ∀ i, i < a → ∀ j, j < b → P i j ≤ 4) : f__law_cubes [.vl (mx a b P)] = .rt (.ow ((cubesL a b P).map enT)) none := by
  have lenR : ∀ i, i < a → ∀ j, j ≤ b → (lnC i P j).length ≤ 16 := fun i hi j hj => by
    have := flat_len (f := fun j => (List.range (P i j)).map fun k => ((i, j, k) : Tr)) (m := 4) j fun j' hj' => by
      rw [List.length_map, List.length_range]
      exact hP i hi j' (by omega)
    unfold lnC
    omega
  have lenC' : ∀ i, i ≤ a → (cubesL i b P).length ≤ 64 := fun i hi => by
    have := flat_len (f := fun i => lnC i P b) (m := 16) i fun i' hi' => lenR i' (by omega) b (Nat.le_refl _)
    unfold cubesL
    omega
  obtain ⟨r', e1, x2, x3, x4, x5, n2, n3, n4, n5, rfl⟩ := forD_idx (t := gTA 2 (gsC (gN 2) (gsC (gN 3) (gsN)))) (f := g__law_cubes_b3) (enc := fun i => PyData.tuple [ni i, .tuple (lnD b fun j => ni (P i j))]) (n := a) (fun i r => ∃ x2 x3 x4 x5 : Sl, noIo x2 = true ∧ noIo x3 = true ∧ noIo x4 = true ∧ noIo x5 = true ∧ r = [.vl (mx a b P), .ow ((cubesL i b P).map enT), x2, x3, x4, x5, .no]) (fun i r hi hr => by
    obtain ⟨x2, x3, x4, x5, n2, n3, n4, n5, rfl⟩ := hr
    obtain ⟨r2, e2, y4, y5, m4, m5, rfl⟩ := forD_idx (t := gTA 2 (gsC (gN 4) (gsC (gN 5) (gsN)))) (f := g__law_cubes_b2) (enc := fun j => PyData.tuple [ni j, ni (P i j)]) (n := b) (fun j r => ∃ y4 y5 : Sl, noIo y4 = true ∧ noIo y5 = true ∧ r = [.vl (mx a b P), .ow ((cubesL i b P ++ lnC i P j).map enT), vi i, .vl (.tuple (lnD b fun j => ni (P i j))), y4, y5, .no]) (fun j r hj hr => by
      obtain ⟨y4, y5, m4, m5, rfl⟩ := hr
      refine ⟨[.vl (mx a b P), .ow ((cubesL i b P ++ lnC i P j).map enT), vi i, .vl (.tuple (lnD b fun j => ni (P i j))), vi j, vi (P i j), .no], [.vl (mx a b P), .ow ((cubesL i b P ++ lnC i P (j + 1)).map enT), vi i, .vl (.tuple (lnD b fun j => ni (P i j))), vi j, vi (P i j), .no], rfl, ?_, vi j, vi (P i j), rfl, rfl, rfl⟩
      have p4 := hP i hi j hj
      have l : xLc [6] (iRg1 (eV 5)) (gN 6) (tT) (g__law_cubes_e1) [.vl (mx a b P), .ow ((cubesL i b P ++ lnC i P j).map enT), vi i, .vl (.tuple (lnD b fun j => ni (P i j))), vi j, vi (P i j), .no] = .ok (.ow (((List.range (P i j)).map fun k => ((i, j, k) : Tr)).map enT)) [.vl (mx a b P), .ow ((cubesL i b P ++ lnC i P j).map enT), vi i, .vl (.tuple (lnD b fun j => ni (P i j))), vi j, vi (P i j), .no] := by
        refine Eq.trans (xLc_map (enc := ni) (p := fun _ => true) (g := fun k => enT (i, j, k)) (xs := List.range (P i j)) (irg (n := P i j) rfl rfl (by omega)) (fun k _ => ⟨[.vl (mx a b P), .ow ((cubesL i b P ++ lnC i P j).map enT), vi i, .vl (.tuple (lnD b fun j => ni (P i j))), vi j, vi (P i j), vi k], rfl, rfl, fun _ => ?_, rfl⟩) (by rw [List.length_range]; omega)) ?_
        · exact eTup_of (ds := [ni i, ni j, ni k]) (aCons_of rfl (aCons_of rfl (aCons_of rfl aNil_of))) (by show 3 ≤ 1000000; decide)
        · rw [filt_all, List.map_map]
          rfl
      have q := sExt_of (i := 1) (ds := (cubesL i b P ++ lnC i P j).map enT) (r := [.vl (mx a b P), .ow ((cubesL i b P ++ lnC i P j).map enT), vi i, .vl (.tuple (lnD b fun j => ni (P i j))), vi j, vi (P i j), .no]) rfl l rfl (by
        have := lenC' i (by omega)
        have := lenR i hi j (by omega)
        rw [List.length_map, List.length_append, List.length_map, List.length_map, List.length_range]
        omega)
      have g : (cubesL i b P ++ lnC i P j).map enT ++ ((List.range (P i j)).map fun k => ((i, j, k) : Tr)).map enT = (cubesL i b P ++ lnC i P (j + 1)).map enT := by
        have g0 : lnC i P j ++ (List.range (P i j)).map (fun k => ((i, j, k) : Tr)) = lnC i P (j + 1) := by
          unfold lnC
          rw [List.range_succ, List.flatMap_append]
          simp
        rw [← List.map_append, List.append_assoc, g0]
      rw [g] at q
      exact q) (r := [.vl (mx a b P), .ow ((cubesL i b P ++ lnC i P 0).map enT), vi i, .vl (.tuple (lnD b fun j => ni (P i j))), x4, x5, .no]) ⟨x4, x5, n4, n5, rfl⟩
    have z0 : cubesL i b P ++ lnC i P 0 = cubesL i b P := by unfold lnC; simp
    have z1 : cubesL i b P ++ lnC i P b = cubesL (i + 1) b P := by
      unfold cubesL
      rw [List.range_succ, List.flatMap_append]
      simp
    rw [z0, z1] at e2
    refine ⟨[.vl (mx a b P), .ow ((cubesL i b P).map enT), vi i, .vl (.tuple (lnD b fun j => ni (P i j))), x4, x5, .no], [.vl (mx a b P), .ow ((cubesL (i + 1) b P).map enT), vi i, .vl (.tuple (lnD b fun j => ni (P i j))), y4, y5, .no], rfl, ?_, vi i, .vl (.tuple (lnD b fun j => ni (P i j))), y4, y5, rfl, rfl, m4, m5, rfl⟩
    exact Eq.trans (sFor_of (iEnA_of (f := eV 3) (g := fun j => ni (P i j)) rfl)) e2) (r := [.vl (mx a b P), .ow ((cubesL 0 b P).map enT), .no, .no, .no, .no, .no]) ⟨.no, .no, .no, .no, rfl, rfl, rfl, rfl, rfl⟩
  refine runF_rt (r := [.vl (mx a b P), .no, x2, x3, x4, x5, .no]) rfl (Eq.trans (sSeq_of (r1 := [.vl (mx a b P), .ow ((cubesL 0 b P).map enT), .no, .no, .no, .no, .no]) rfl) (Eq.trans (sSeq_of (Eq.trans (sFor_of (iEnA_of (f := eV 0) (g := fun i => PyData.tuple (lnD b fun j => ni (P i j))) rfl)) e1)) rfl)) rfl ?_
  cases x2 <;> cases x3 <;> cases x4 <;> cases x5 <;> first | rfl | exact (noIo_io n2).elim | exact (noIo_io n3).elim | exact (noIo_io n4).elim | exact (noIo_io n5).elim
/-! ### by cubes -/
def cnt (L : List Tr) (i j : Nat) : Nat := (L.filter fun t => decide (t.1 = i) && decide (t.2.1 = j)).length
theorem byE {a b : Nat} {L : List Tr} (ha : a ≤ 4) (hb : b ≤ 4) (hL : L.length ≤ 1000) : f__law_by_cubes [vi a, vi b, .vl (.list (L.map enT))] = .rt (.vl (mx a b (cnt L))) none := by
  obtain ⟨r', e1, x4, n4, rfl⟩ := forD_idx (t := gN 4) (f := g__law_by_cubes_b4) (enc := ni) (n := a) (fun i r => ∃ x4 : Sl, noIo x4 = true ∧ r = [vi a, vi b, .vl (.list (L.map enT)), .ow ((List.range i).map fun i => PyData.tuple (lnD b fun j => ni (cnt L i j))), x4, .no, .no]) (fun i r hi hr => by
    obtain ⟨x4, n4, rfl⟩ := hr
    refine ⟨[vi a, vi b, .vl (.list (L.map enT)), .ow ((List.range i).map fun i => PyData.tuple (lnD b fun j => ni (cnt L i j))), vi i, .no, .no], [vi a, vi b, .vl (.list (L.map enT)), .ow ((List.range (i + 1)).map fun i => PyData.tuple (lnD b fun j => ni (cnt L i j))), vi i, .no, .no], rfl, ?_, vi i, rfl, rfl⟩
    have l : eCB cTup (aCons (eF (xLc [5] (iRg1 (eV 1)) (gN 5) (tT) (g__law_by_cubes_e3))) (aNil)) [vi a, vi b, .vl (.list (L.map enT)), .ow ((List.range i).map fun i => PyData.tuple (lnD b fun j => ni (cnt L i j))), vi i, .no, .no] = .ok (.tuple (lnD b fun j => ni (cnt L i j))) [vi a, vi b, .vl (.list (L.map enT)), .ow ((List.range i).map fun i => PyData.tuple (lnD b fun j => ni (cnt L i j))), vi i, .no, .no] := by
      refine eCB_of (x := [.list (lnD b fun j => ni (cnt L i j))]) (aCons_of (eF_of (s := .ow (lnD b fun j => ni (cnt L i j))) (Eq.trans (xLc_map (enc := ni) (p := fun _ => true) (g := fun j => ni (cnt L i j)) (xs := List.range b) (irg (n := b) rfl rfl (by omega)) (fun j _ => ⟨[vi a, vi b, .vl (.list (L.map enT)), .ow ((List.range i).map fun i => PyData.tuple (lnD b fun j => ni (cnt L i j))), vi i, vi j, .no], rfl, rfl, fun _ => ?_, rfl⟩) (by rw [List.length_range]; omega)) (by rw [filt_all])) rfl) aNil_of) rfl
      have f : eF (xLc [6] (iSeq (eV 2)) (gN 6) (g__law_by_cubes_t2) (g__law_by_cubes_e1)) [vi a, vi b, .vl (.list (L.map enT)), .ow ((List.range i).map fun i => PyData.tuple (lnD b fun j => ni (cnt L i j))), vi i, vi j, .no] = .ok (.list ((L.filter fun t => decide (t.1 = i) && decide (t.2.1 = j)).map enT)) [vi a, vi b, .vl (.list (L.map enT)), .ow ((List.range i).map fun i => PyData.tuple (lnD b fun j => ni (cnt L i j))), vi i, vi j, .no] := by
        refine eF_of (xLc_map (enc := enT) (p := fun t => decide (t.1 = i) && decide (t.2.1 = j)) (g := enT) (xs := L) (r1 := [vi a, vi b, .vl (.list (L.map enT)), .ow ((List.range i).map fun i => PyData.tuple (lnD b fun j => ni (cnt L i j))), vi i, vi j, .no]) (iSeq_ofL (ds := L.map enT) rfl) (fun t _ => ⟨[vi a, vi b, .vl (.list (L.map enT)), .ow ((List.range i).map fun i => PyData.tuple (lnD b fun j => ni (cnt L i j))), vi i, vi j, .vl (enT t)], rfl, ?_, fun _ => rfl, rfl⟩) (by omega)) rfl
        refine tB1_of (eOp_of (x := tI [(t.1 : Int), (t.2.1 : Int)]) (y := tI [(i : Int), (j : Int)]) rfl (eTup_of (ds := [ni i, ni j]) (aCons_of rfl (aCons_of rfl aNil_of)) (by show 2 ≤ 1000000; decide)) ?_)
        rw [oEq_tI]
        refine congrArg (fun b => some (PyData.bool b)) ?_
        rw [Bool.eq_iff_iff, decide_eq_true_eq, Bool.and_eq_true, decide_eq_true_eq, decide_eq_true_eq]
        constructor
        · intro z
          injection z with z1 z2
          injection z2 with z2 _
          omega
        · rintro ⟨z1, z2⟩
          rw [z1, z2]
      refine eCB_of (aCons_of f aNil_of) (Eq.trans lenC ?_)
      rw [List.length_map]
      rfl
    refine Eq.trans (sApp_of (i := 3) (s := .ow ((List.range i).map fun i => PyData.tuple (lnD b fun j => ni (cnt L i j)))) (ds := (List.range i).map fun i => PyData.tuple (lnD b fun j => ni (cnt L i j))) rfl l rfl rfl (by rw [List.length_map, List.length_range]; omega)) ?_
    rw [List.range_succ, List.map_append]
    rfl) (r := [vi a, vi b, .vl (.list (L.map enT)), .ow [], .no, .no, .no]) ⟨.no, rfl, rfl⟩
  have z : eCB cTup (aCons (eVF 3) (aNil)) [vi a, vi b, .vl (.list (L.map enT)), .ow ((List.range a).map fun i => PyData.tuple (lnD b fun j => ni (cnt L i j))), x4, .no, .no] = .ok (mx a b (cnt L)) [vi a, vi b, .vl (.list (L.map enT)), .vl (.list ((List.range a).map fun i => PyData.tuple (lnD b fun j => ni (cnt L i j)))), x4, .no, .no] :=
    eCB_of (x := [.list ((List.range a).map fun i => PyData.tuple (lnD b fun j => ni (cnt L i j)))]) (aCons_of (eVF_ow (ds := (List.range a).map fun i => PyData.tuple (lnD b fun j => ni (cnt L i j))) rfl) aNil_of) rfl
  refine runF_rt (r := [vi a, vi b, .vl (.list (L.map enT)), .vl (.list ((List.range a).map fun i => PyData.tuple (lnD b fun j => ni (cnt L i j)))), x4, .no, .no]) rfl (Eq.trans (sSeq_of (r1 := [vi a, vi b, .vl (.list (L.map enT)), .ow [], .no, .no, .no]) rfl) (Eq.trans (sSeq_of (Eq.trans (sFor_of (irg (n := a) rfl rfl (by omega))) e1)) (sRet_of z))) rfl ?_
  cases x4 <;> first | rfl | exact (noIo_io n4).elim
/-! ### the program's piles -/
theorem columnsE {a b : Nat} {P : Nat → Nat → Nat} (ha : 1 ≤ a) (ha2 : a ≤ 4) (hb2 : b ≤ 4) : f_columns_in [.vl (mx a b P)] = .rt (.vl (mx b a fun j i => P i j)) none := by
  have it : iRg1 (eCB cLen (aCons (eOp oIx (eV 0) (eC (.int 0))) (aNil))) [.vl (mx a b P), .no, .no] = .ok ((List.range b).map ni) [.vl (mx a b P), .no, .no] := by
    refine irg (eCB_of (x := [.tuple (lnD b fun j => ni (P 0 j))]) (aCons_of (eOp_of (x := mx a b P) (y := .int 0) rfl eC_of (ix_m (i := 0) rfl (by omega))) aNil_of) (Eq.trans lenD ?_)) rfl (by omega)
    rw [ln_len]
  refine runF_rt (r := [.vl (mx a b P), .no, .no]) rfl (sRet_of (eCB_of (x := [.list ((List.range b).map fun j => PyData.tuple (lnD a fun i => ni (P i j)))]) (aCons_of (eF_of (s := .ow ((List.range b).map fun j => PyData.tuple (lnD a fun i => ni (P i j)))) (Eq.trans (xLc_map (enc := ni) (p := fun _ => true) (g := fun j => PyData.tuple (lnD a fun i => ni (P i j))) (xs := List.range b) it (fun j hj => ⟨[.vl (mx a b P), vi j, .no], rfl, rfl, fun _ => ?_, rfl⟩) (by rw [List.length_range]; omega)) (by rw [filt_all])) rfl) aNil_of) rfl)) rfl rfl
  refine eCB_of (x := [.list (lnD a fun i => ni (P i j))]) (aCons_of (eF_of (s := .ow (lnD a fun i => ni (P i j))) (Eq.trans (xLc_map (enc := fun i => PyData.tuple (lnD b fun j => ni (P i j))) (p := fun _ => true) (g := fun i => ni (P i j)) (xs := List.range a) (r1 := [.vl (mx a b P), vi j, .no]) (iSeq_of (ds := (List.range a).map fun i => PyData.tuple (lnD b fun j => ni (P i j))) rfl) (fun i _ => ⟨[.vl (mx a b P), vi j, .vl (.tuple (lnD b fun j => ni (P i j)))], rfl, rfl, fun _ => ?_, rfl⟩) (by rw [List.length_range]; omega)) (by rw [filt_all])) rfl) aNil_of) rfl
  exact eOp_of (x := .tuple (lnD b fun j => ni (P i j))) (y := ni j) rfl rfl (ix_ln (j := j) rfl (List.mem_range.mp hj))
theorem turnedE {a b c : Nat} {P : Nat → Nat → Nat} (x : Bx a b c) (h : PL a b c P) : f_turned_pile [vi a, vi b, vi c, .vl (mx a b P)] = .rt (.vl (mx b a fun j i => P i j)) none :=
  runF_rt (r := [vi a, vi b, vi c, .vl (mx a b P)]) rfl (Eq.trans (sSeq_of (sDrop_of (call4 (a := .int a) (b := .int b) (c := .int c) (d := mx a b P) rfl rfl rfl rfl (h.req x)))) (sRetX_of (xCall_of (ds := [mx a b P]) (aCons_of rfl aNil_of) (columnsE x.a1 x.a2 x.b2)))) rfl rfl
theorem rev_ln {b : Nat} (f : Nat → D) : (lnD b f).reverse = lnD b fun j => f (b - 1 - j) := rev_map f
theorem restIn {a b c : Nat} {P : Nat → Nat → Nat} (ha2 : a ≤ 4) (hb2 : b ≤ 4) (hP : ∀ i, i < a → ∀ j, j < b → P i j ≤ c) : f_rest_in [vi c, .vl (mx a b P)] = .rt (.vl (mx a b fun i j => c - P (a - 1 - i) (b - 1 - j))) none := by
  have it : iSeq (eF (xRevA (eV 1))) [vi c, .vl (mx a b P), .no, .no] = .ok ((List.range a).map fun i => PyData.tuple (lnD b fun j => ni (P (a - 1 - i) j))) [vi c, .vl (mx a b P), .no, .no] := by
    have z : eF (xRevA (eV 1)) [vi c, .vl (mx a b P), .no, .no] = .ok (.tuple ((List.range a).map fun i => PyData.tuple (lnD b fun j => ni (P i j))).reverse) [vi c, .vl (mx a b P), .no, .no] := rfl
    rw [rev_map] at z
    exact iSeq_of z
  refine runF_rt (r := [vi c, .vl (mx a b P), .no, .no]) rfl (sRet_of (eCB_of (x := [.list ((List.range a).map fun i => PyData.tuple (lnD b fun j => ni (c - P (a - 1 - i) (b - 1 - j))))]) (aCons_of (eF_of (s := .ow ((List.range a).map fun i => PyData.tuple (lnD b fun j => ni (c - P (a - 1 - i) (b - 1 - j))))) (Eq.trans (xLc_map (enc := fun i => PyData.tuple (lnD b fun j => ni (P (a - 1 - i) j))) (p := fun _ => true) (g := fun i => PyData.tuple (lnD b fun j => ni (c - P (a - 1 - i) (b - 1 - j)))) (xs := List.range a) it (fun i hi => ⟨[vi c, .vl (mx a b P), .vl (.tuple (lnD b fun j => ni (P (a - 1 - i) j))), .no], rfl, rfl, fun _ => ?_, rfl⟩) (by rw [List.length_range]; omega)) (by rw [filt_all])) rfl) aNil_of) rfl)) rfl rfl
  have hi := List.mem_range.mp hi
  have itj : iSeq (eF (xRevA (eV 2))) [vi c, .vl (mx a b P), .vl (.tuple (lnD b fun j => ni (P (a - 1 - i) j))), .no] = .ok (lnD b fun j => ni (P (a - 1 - i) (b - 1 - j))) [vi c, .vl (mx a b P), .vl (.tuple (lnD b fun j => ni (P (a - 1 - i) j))), .no] := by
    have z : eF (xRevA (eV 2)) [vi c, .vl (mx a b P), .vl (.tuple (lnD b fun j => ni (P (a - 1 - i) j))), .no] = .ok (.tuple (lnD b fun j => ni (P (a - 1 - i) j)).reverse) [vi c, .vl (mx a b P), .vl (.tuple (lnD b fun j => ni (P (a - 1 - i) j))), .no] := rfl
    rw [rev_ln] at z
    exact iSeq_of z
  refine eCB_of (x := [.list (lnD b fun j => ni (c - P (a - 1 - i) (b - 1 - j)))]) (aCons_of (eF_of (s := .ow (lnD b fun j => ni (c - P (a - 1 - i) (b - 1 - j)))) (Eq.trans (xLc_map (enc := fun j => ni (P (a - 1 - i) (b - 1 - j))) (p := fun _ => true) (g := fun j => ni (c - P (a - 1 - i) (b - 1 - j))) (xs := List.range b) itj (fun j hj => ⟨[vi c, .vl (mx a b P), .vl (.tuple (lnD b fun j => ni (P (a - 1 - i) j))), vi (P (a - 1 - i) (b - 1 - j))], rfl, rfl, fun _ => ?_, rfl⟩) (by rw [List.length_range]; omega)) (by rw [filt_all])) rfl) aNil_of) rfl
  have hj := List.mem_range.mp hj
  have := hP (a - 1 - i) (by omega) (b - 1 - j) (by omega)
  exact subE (f := eV 0) (g := eV 3) (a := c) (b := (P (a - 1 - i) (b - 1 - j) : Nat)) rfl rfl (by omega)
theorem restE {a b c : Nat} {P : Nat → Nat → Nat} (x : Bx a b c) (h : PL a b c P) : f_rest_pile [vi a, vi b, vi c, .vl (mx a b P)] = .rt (.vl (mx a b fun i j => c - P (a - 1 - i) (b - 1 - j))) none :=
  runF_rt (r := [vi a, vi b, vi c, .vl (mx a b P)]) rfl (Eq.trans (sSeq_of (sDrop_of (call4 (a := .int a) (b := .int b) (c := .int c) (d := mx a b P) rfl rfl rfl rfl (h.req x)))) (sRetX_of (xCall_of (ds := [.int c, mx a b P]) (aCons_of rfl (aCons_of rfl aNil_of)) (restIn x.a2 x.b2 h.le)))) rfl rfl
def led (a : Nat) (P : Nat → Nat → Nat) (j k : Nat) : Nat := ((List.range a).filter fun i => decide (k < P i j)).length
theorem ledE {a : Nat} {P : Nat → Nat → Nat} (ha2 : a ≤ 4) : f_led_round [vi a, .vl (mx a a P)] = .rt (.vl (mx a a (led a P))) none := by
  obtain ⟨r', e1, x3, n3, rfl⟩ := forD_idx (t := gN 3) (f := g_led_round_b4) (enc := ni) (n := a) (fun j r => ∃ x3 : Sl, noIo x3 = true ∧ r = [vi a, .vl (mx a a P), .ow ((List.range j).map fun j => PyData.tuple (lnD a fun k => ni (led a P j k))), x3, .no, .no]) (fun j r hj hr => by
    obtain ⟨x3, n3, rfl⟩ := hr
    refine ⟨[vi a, .vl (mx a a P), .ow ((List.range j).map fun j => PyData.tuple (lnD a fun k => ni (led a P j k))), vi j, .no, .no], [vi a, .vl (mx a a P), .ow ((List.range (j + 1)).map fun j => PyData.tuple (lnD a fun k => ni (led a P j k))), vi j, .no, .no], rfl, ?_, vi j, rfl, rfl⟩
    have l : eCB cTup (aCons (eF (xLc [4] (iRg1 (eV 0)) (gN 4) (tT) (g_led_round_e3))) (aNil)) [vi a, .vl (mx a a P), .ow ((List.range j).map fun j => PyData.tuple (lnD a fun k => ni (led a P j k))), vi j, .no, .no] = .ok (.tuple (lnD a fun k => ni (led a P j k))) [vi a, .vl (mx a a P), .ow ((List.range j).map fun j => PyData.tuple (lnD a fun k => ni (led a P j k))), vi j, .no, .no] := by
      refine eCB_of (x := [.list (lnD a fun k => ni (led a P j k))]) (aCons_of (eF_of (s := .ow (lnD a fun k => ni (led a P j k))) (Eq.trans (xLc_map (enc := ni) (p := fun _ => true) (g := fun k => ni (led a P j k)) (xs := List.range a) (irg (n := a) rfl rfl (by omega)) (fun k _ => ⟨[vi a, .vl (mx a a P), .ow ((List.range j).map fun j => PyData.tuple (lnD a fun k => ni (led a P j k))), vi j, vi k, .no], rfl, rfl, fun _ => ?_, rfl⟩) (by rw [List.length_range]; omega)) (by rw [filt_all])) rfl) aNil_of) rfl
      have f : eF (xLc [5] (iSeq (eV 1)) (gN 5) (g_led_round_t2) (g_led_round_e1)) [vi a, .vl (mx a a P), .ow ((List.range j).map fun j => PyData.tuple (lnD a fun k => ni (led a P j k))), vi j, vi k, .no] = .ok (.list (((List.range a).filter fun i => decide (k < P i j)).map fun i => PyData.tuple (lnD a fun j => ni (P i j)))) [vi a, .vl (mx a a P), .ow ((List.range j).map fun j => PyData.tuple (lnD a fun k => ni (led a P j k))), vi j, vi k, .no] := by
        refine eF_of (xLc_map (enc := fun i => PyData.tuple (lnD a fun j => ni (P i j))) (p := fun i => decide (k < P i j)) (g := fun i => PyData.tuple (lnD a fun j => ni (P i j))) (xs := List.range a) (r1 := [vi a, .vl (mx a a P), .ow ((List.range j).map fun j => PyData.tuple (lnD a fun k => ni (led a P j k))), vi j, vi k, .no]) (iSeq_of (ds := (List.range a).map fun i => PyData.tuple (lnD a fun j => ni (P i j))) rfl) (fun i _ => ⟨[vi a, .vl (mx a a P), .ow ((List.range j).map fun j => PyData.tuple (lnD a fun k => ni (led a P j k))), vi j, vi k, .vl (.tuple (lnD a fun j => ni (P i j)))], rfl, ?_, fun _ => rfl, rfl⟩) (by rw [List.length_range]; omega)) rfl
        refine tB1_of (eOp_of (x := ni (P i j)) (y := ni k) (eOp_of (x := .tuple (lnD a fun j => ni (P i j))) (y := ni j) rfl rfl (ix_ln (j := j) rfl hj)) rfl ?_)
        rw [gtK]
        exact congrArg (fun b => some (PyData.bool b)) (decide_eq_decide.mpr (by omega))
      refine eCB_of (aCons_of f aNil_of) (Eq.trans lenC ?_)
      rw [List.length_map]
      rfl
    refine Eq.trans (sApp_of (i := 2) (s := .ow ((List.range j).map fun j => PyData.tuple (lnD a fun k => ni (led a P j k)))) (ds := (List.range j).map fun j => PyData.tuple (lnD a fun k => ni (led a P j k))) rfl l rfl rfl (by rw [List.length_map, List.length_range]; omega)) ?_
    rw [List.range_succ, List.map_append]
    rfl) (r := [vi a, .vl (mx a a P), .ow [], .no, .no, .no]) ⟨.no, rfl, rfl⟩
  have z : eCB cTup (aCons (eVF 2) (aNil)) [vi a, .vl (mx a a P), .ow ((List.range a).map fun j => PyData.tuple (lnD a fun k => ni (led a P j k))), x3, .no, .no] = .ok (mx a a (led a P)) [vi a, .vl (mx a a P), .vl (.list ((List.range a).map fun j => PyData.tuple (lnD a fun k => ni (led a P j k)))), x3, .no, .no] :=
    eCB_of (x := [.list ((List.range a).map fun j => PyData.tuple (lnD a fun k => ni (led a P j k)))]) (aCons_of (eVF_ow (ds := (List.range a).map fun j => PyData.tuple (lnD a fun k => ni (led a P j k))) rfl) aNil_of) rfl
  refine runF_rt (r := [vi a, .vl (mx a a P), .vl (.list ((List.range a).map fun j => PyData.tuple (lnD a fun k => ni (led a P j k)))), x3, .no, .no]) rfl (Eq.trans (sSeq_of (r1 := [vi a, .vl (mx a a P), .ow [], .no, .no, .no]) rfl) (Eq.trans (sSeq_of (Eq.trans (sFor_of (irg (n := a) rfl rfl (by omega))) e1)) (sRet_of z))) rfl ?_
  cases x3 <;> first | rfl | exact (noIo_io n3).elim
theorem roundE {a : Nat} {P : Nat → Nat → Nat} (x : Bx a a a) (h : PL a a a P) : f_round_pile [vi a, .vl (mx a a P)] = .rt (.vl (mx a a (led a P))) none :=
  runF_rt (r := [vi a, .vl (mx a a P)]) rfl (Eq.trans (sSeq_of (sDrop_of (call4 (a := .int a) (b := .int a) (c := .int a) (d := mx a a P) rfl rfl rfl rfl (h.req x)))) (sRetX_of (xCall_of (ds := [.int a, mx a a P]) (aCons_of rfl (aCons_of rfl aNil_of)) (ledE x.a2)))) rfl rfl
def lnS (b : Nat) (f : Nat → Nat) : Nat := ((List.range b).map f).sum
def mxS (a b : Nat) (P : Nat → Nat → Nat) : Nat := lnS a fun i => lnS b (P i)
theorem sum_cast : ∀ l : List Nat, ((l.map fun n : Nat => (n : Int)).sum) = ((l.sum : Nat) : Int)
  | [] => rfl
  | x :: l => by rw [List.map_cons, List.sum_cons, List.sum_cons, sum_cast l]; push_cast; rfl
theorem sumLn {b : Nat} {f : Nat → Nat} {g : En → R D} {r : En} (mk : List D → D) (hm : ∀ ds : List D, cSumA [mk ds] = (sumD ds).map PyData.int) (h : g r = .ok (mk (lnD b fun j => ni (f j))) r) : eCB cSumA (aCons g (aNil)) r = .ok (ni (lnS b f)) r := by
  refine eCB_of (x := [mk (lnD b fun j => ni (f j))]) (aCons_of h aNil_of) ?_
  rw [hm]
  have e : (lnD b fun j => ni (f j)) = (((List.range b).map f).map fun n : Nat => (n : Int)).map PyData.int := by
    rw [List.map_map, List.map_map]
    rfl
  rw [e, sumD_ints, sum_cast]
  rfl
theorem sizeE {a b c : Nat} {P : Nat → Nat → Nat} (x : Bx a b c) (h : PL a b c P) : f_pile_size [vi a, vi b, vi c, .vl (mx a b P)] = .rt (.vl (ni (mxS a b P))) none := by
  have a2 := x.a2
  have l : eF (xLc [4] (iSeq (eV 3)) (gN 4) (tT) (g_pile_size_e1)) [vi a, vi b, vi c, .vl (mx a b P), .no] = .ok (.list (lnD a fun i => ni (lnS b (P i)))) [vi a, vi b, vi c, .vl (mx a b P), .no] :=
    eF_of (s := .ow (lnD a fun i => ni (lnS b (P i)))) (Eq.trans (xLc_map (enc := fun i => PyData.tuple (lnD b fun j => ni (P i j))) (p := fun _ => true) (g := fun i => ni (lnS b (P i))) (xs := List.range a) (r1 := [vi a, vi b, vi c, .vl (mx a b P), .no]) (iSeq_of (ds := (List.range a).map fun i => PyData.tuple (lnD b fun j => ni (P i j))) rfl) (fun i _ => ⟨[vi a, vi b, vi c, .vl (mx a b P), .vl (.tuple (lnD b fun j => ni (P i j)))], rfl, rfl, fun _ => sumLn PyData.tuple (fun _ => rfl) rfl, rfl⟩) (by rw [List.length_range]; omega)) (by rw [filt_all])) rfl
  exact runF_rt (r := [vi a, vi b, vi c, .vl (mx a b P), .no]) rfl (Eq.trans (sSeq_of (sDrop_of (call4 (a := .int a) (b := .int b) (c := .int c) (d := mx a b P) rfl rfl rfl rfl (h.req x)))) (sRet_of (sumLn PyData.list (fun _ => rfl) l))) rfl rfl
end K62
set_option maxHeartbeats 400000
/-! K62t: numbers of cubes; repr and equality of piles -/
namespace K62
open PySem L2 DL
theorem filter_lt (c : Nat) : ∀ m, (List.range m).filter (fun i => decide (i < c)) = List.range (min c m)
  | 0 => by simp
  | m + 1 => by
    rw [List.range_succ, List.filter_append, filter_lt c m]
    by_cases h : m < c
    · rw [show min c m = m by omega, show min c (m + 1) = m + 1 by omega, List.range_succ]
      simp [h]
    · rw [show min c m = c by omega, show min c (m + 1) = c by omega]
      simp [h]
theorem lnS_cong {n : Nat} {f g : Nat → Nat} (h : ∀ i, i < n → f i = g i) : lnS n f = lnS n g := by
  unfold lnS
  rw [List.map_congr_left fun i hi => h i (List.mem_range.mp hi)]
theorem lnS_succ (n : Nat) (f : Nat → Nat) : lnS (n + 1) f = lnS n f + f n := by
  unfold lnS
  rw [List.range_succ, List.map_append, List.sum_append]
  simp
theorem lnS_add (f g : Nat → Nat) : ∀ n, lnS n (fun i => f i + g i) = lnS n f + lnS n g
  | 0 => rfl
  | n + 1 => by rw [lnS_succ, lnS_succ, lnS_succ, lnS_add f g n]; omega
theorem lnS_const (c : Nat) : ∀ n, lnS n (fun _ => c) = n * c
  | 0 => by rw [Nat.zero_mul]; rfl
  | n + 1 => by rw [lnS_succ, lnS_const c n, Nat.succ_mul]
theorem lnS_zero : ∀ n, lnS n (fun _ => 0) = 0
  | 0 => rfl
  | n + 1 => by rw [lnS_succ, lnS_zero n]
theorem lnS_one {v i : Nat} : ∀ n, i < n → lnS n (fun x => if x = i then v else 0) = v
  | 0, h => absurd h (Nat.not_lt_zero _)
  | n + 1, h => by
    rw [lnS_succ]
    by_cases z : n = i
    · subst z
      rw [if_pos rfl, lnS_cong (g := fun _ => 0) fun x hx => if_neg (by omega), lnS_zero]
      omega
    · rw [if_neg z, lnS_one n (by omega)]
      rfl
theorem lnS_first (f : Nat → Nat) : ∀ n, lnS (n + 1) f = f 0 + lnS n (fun i => f (i + 1))
  | 0 => by rw [lnS_succ]; show 0 + f 0 = f 0 + 0; omega
  | n + 1 => by rw [lnS_succ, lnS_first f n, lnS_succ]; omega
theorem lnS_rev : ∀ (n : Nat) (f : Nat → Nat), lnS n (fun i => f (n - 1 - i)) = lnS n f
  | 0, _ => rfl
  | n + 1, f => by
    rw [lnS_first, lnS_succ n f]
    have e : lnS n (fun i => f (n + 1 - 1 - (i + 1))) = lnS n (fun i => f (n - 1 - i)) := lnS_cong fun i _ => congrArg f (by omega)
    rw [e, lnS_rev n f]
    show f (n + 1 - 1 - 0) + _ = _
    rw [show n + 1 - 1 - 0 = n by omega]
    omega
theorem flat_filter {α : Type} (p : α → Bool) (f : Nat → List α) : ∀ n, (((List.range n).flatMap f).filter p).length = lnS n fun i => ((f i).filter p).length
  | 0 => rfl
  | n + 1 => by
    rw [List.range_succ, List.flatMap_append, List.filter_append, List.length_append, flat_filter p f n, lnS_succ]
    simp
theorem cf (a b : Nat) (P : Nat → Nat → Nat) (p : Tr → Bool) : ((cubesL a b P).filter p).length = lnS a fun i => lnS b fun j => ((List.range (P i j)).filter fun k => p (i, j, k)).length := by
  unfold cubesL
  rw [flat_filter]
  refine lnS_cong fun i _ => ?_
  unfold lnC
  rw [flat_filter]
  refine lnS_cong fun j _ => ?_
  rw [List.filter_map, List.length_map]
  rfl
theorem cubes_len (a b : Nat) (P : Nat → Nat → Nat) : (cubesL a b P).length = mxS a b P := by
  have h := cf a b P fun _ => true
  rw [List.filter_eq_self.mpr fun _ _ => rfl] at h
  rw [h]
  unfold mxS
  refine lnS_cong fun i _ => lnS_cong fun j _ => ?_
  rw [List.filter_eq_self.mpr fun _ _ => rfl, List.length_range]
theorem cubes_mem {a b : Nat} {P : Nat → Nat → Nat} {t : Tr} : t ∈ cubesL a b P ↔ t.1 < a ∧ t.2.1 < b ∧ t.2.2 < P t.1 t.2.1 := by
  obtain ⟨i, j, k⟩ := t
  unfold cubesL lnC
  simp only [List.mem_flatMap, List.mem_range, List.mem_map]
  constructor
  · rintro ⟨i', hi, j', hj, k', hk, e⟩
    injection e with e1 e2
    injection e2 with e2 e3
    subst e1 e2 e3
    exact ⟨hi, hj, hk⟩
  · rintro ⟨hi, hj, hk⟩
    exact ⟨i, hi, j, hj, k, hk, rfl⟩
/-- one place counted -/
theorem at_place {a b i j : Nat} {Q : Nat → Nat → Nat} {p : Tr → Bool} {q : Nat → Bool} (hi : i < a) (hj : j < b) (h : ∀ i' j' k, p (i', j', k) = (decide (i' = i) && (decide (j' = j) && q k))) : ((cubesL a b Q).filter p).length = ((List.range (Q i j)).filter q).length := by
  rw [cf]
  have e : (lnS a fun i' => lnS b fun j' => ((List.range (Q i' j')).filter fun k => p (i', j', k)).length) = lnS a fun i' => if i' = i then ((List.range (Q i j)).filter q).length else 0 := by
    refine lnS_cong fun i' _ => ?_
    by_cases z : i' = i
    · subst z
      rw [if_pos rfl]
      have e2 : (lnS b fun j' => ((List.range (Q i' j')).filter fun k => p (i', j', k)).length) = lnS b fun j' => if j' = j then ((List.range (Q i' j)).filter q).length else 0 := by
        refine lnS_cong fun j' _ => ?_
        by_cases w : j' = j
        · subst w
          rw [if_pos rfl]
          congr 2
          funext k
          rw [h, decide_eq_true rfl, decide_eq_true rfl]
          rfl
        · rw [if_neg w, List.filter_eq_nil_iff.mpr]
          · rfl
          · intro k _ q2
            rw [h, decide_eq_false w, Bool.false_and, Bool.and_false] at q2
            cases q2
      rw [e2, lnS_one b hj]
    · rw [if_neg z]
      have e2 : (lnS b fun j' => ((List.range (Q i' j')).filter fun k => p (i', j', k)).length) = lnS b fun _ => 0 := by
        refine lnS_cong fun j' _ => ?_
        rw [List.filter_eq_nil_iff.mpr]
        · rfl
        · intro k _ q2
          rw [h, decide_eq_false z, Bool.false_and] at q2
          cases q2
      rw [e2, lnS_zero]
  rw [e, lnS_one a hi]
def turnT (a b : Nat) (P : Nat → Nat → Nat) : List Tr := (cubesL a b P).map fun t => (t.2.1, t.1, t.2.2)
theorem cnt_turn {a b i j : Nat} {P : Nat → Nat → Nat} (hi : i < a) (hj : j < b) : cnt (turnT a b P) j i = P i j := by
  unfold cnt turnT
  rw [List.filter_map, List.length_map, at_place (Q := P) (q := fun _ => true) hi hj, List.filter_eq_self.mpr fun _ _ => rfl, List.length_range]
  intro i' j' k
  show (decide (j' = j) && decide (i' = i)) = _
  cases decide (j' = j) <;> cases decide (i' = i) <;> rfl
def everyL (a b c : Nat) : List Tr := cubesL a b fun _ _ => c
def restT (a b c : Nat) (P : Nat → Nat → Nat) : List Tr := ((everyL a b c).filter fun t => !decide (t ∈ cubesL a b P)).map fun t => (a - 1 - t.1, b - 1 - t.2.1, c - 1 - t.2.2)
theorem cnt_rest {a b c i j : Nat} {P : Nat → Nat → Nat} (hP : ∀ i, i < a → ∀ j, j < b → P i j ≤ c) (hi : i < a) (hj : j < b) : cnt (restT a b c P) i j = c - P (a - 1 - i) (b - 1 - j) := by
  have le := hP (a - 1 - i) (by omega) (b - 1 - j) (by omega)
  unfold cnt restT everyL
  rw [List.filter_map, List.length_map, List.filter_filter]
  have cg : (cubesL a b fun _ _ => c).filter (fun t => ((fun t : Tr => decide (t.1 = i) && decide (t.2.1 = j)) ∘ fun t : Tr => (a - 1 - t.1, b - 1 - t.2.1, c - 1 - t.2.2)) t && !decide (t ∈ cubesL a b P)) = (cubesL a b fun _ _ => c).filter fun t => decide (t.1 = a - 1 - i) && (decide (t.2.1 = b - 1 - j) && !decide (t.2.2 < P (a - 1 - i) (b - 1 - j))) := by
    refine List.filter_congr fun t ht => ?_
    obtain ⟨t1, t2, t3⟩ := cubes_mem.mp ht
    rw [Bool.eq_iff_iff]
    simp only [Function.comp, Bool.and_eq_true, decide_eq_true_eq, Bool.not_eq_true', decide_eq_false_iff_not, cubes_mem]
    constructor
    · rintro ⟨⟨e1, e2⟩, e3⟩
      have f1 : t.1 = a - 1 - i := by omega
      have f2 : t.2.1 = b - 1 - j := by omega
      refine ⟨f1, f2, fun z => e3 ⟨t1, t2, ?_⟩⟩
      rw [f1, f2]
      exact z
    · rintro ⟨f1, f2, e3⟩
      refine ⟨⟨by omega, by omega⟩, fun z => e3 ?_⟩
      have z := z.2.2
      rw [f1, f2] at z
      exact z
  rw [cg, at_place (Q := fun _ _ => c) (q := fun k => !decide (k < P (a - 1 - i) (b - 1 - j))) (i := a - 1 - i) (j := b - 1 - j) (by omega) (by omega) fun i' j' k => rfl]
  have two := filter_lt (P (a - 1 - i) (b - 1 - j)) c
  have both : ∀ (q : Nat → Bool) (l : List Nat), (l.filter q).length + (l.filter fun k => !q k).length = l.length := fun q l => by
    induction l with
    | nil => rfl
    | cons x l ih =>
      rw [List.filter_cons, List.filter_cons]
      cases q x <;> simp <;> omega
  have s := both (fun k => decide (k < P (a - 1 - i) (b - 1 - j))) (List.range c)
  rw [two, List.length_range, List.length_range] at s
  omega
def roundT (a : Nat) (P : Nat → Nat → Nat) : List Tr := (cubesL a a P).map fun t => (t.2.1, t.2.2, t.1)
theorem cnt_round {a j k : Nat} {P : Nat → Nat → Nat} (hj : j < a) (hk : k < a) : cnt (roundT a P) j k = led a P j k := by
  unfold cnt roundT
  rw [List.filter_map, List.length_map, cf]
  have e : (lnS a fun i => lnS a fun j' => ((List.range (P i j')).filter fun k' => ((fun t : Tr => decide (t.1 = j) && decide (t.2.1 = k)) ∘ fun t : Tr => (t.2.1, t.2.2, t.1)) (i, j', k')).length) = lnS a fun i => if k < P i j then 1 else 0 := by
    refine lnS_cong fun i _ => ?_
    have e2 : (lnS a fun j' => ((List.range (P i j')).filter fun k' => ((fun t : Tr => decide (t.1 = j) && decide (t.2.1 = k)) ∘ fun t : Tr => (t.2.1, t.2.2, t.1)) (i, j', k')).length) = lnS a fun j' => if j' = j then (if k < P i j then 1 else 0) else 0 := by
      refine lnS_cong fun j' _ => ?_
      by_cases w : j' = j
      · subst w
        rw [if_pos rfl]
        have e3 : (List.range (P i j')).filter (fun k' => ((fun t : Tr => decide (t.1 = j') && decide (t.2.1 = k)) ∘ fun t : Tr => (t.2.1, t.2.2, t.1)) (i, j', k')) = (List.range (P i j')).filter fun k' => decide (k' = k) := List.filter_congr fun k' _ => by
          show (decide (j' = j') && decide (k' = k)) = _
          rw [decide_eq_true rfl, Bool.true_and]
        rw [e3]
        have s := at_one (P i j') k
        exact s
      · rw [if_neg w, List.filter_eq_nil_iff.mpr]
        · rfl
        · intro k' _ q2
          have q2 : (decide (j' = j) && decide (k' = k)) = true := q2
          rw [decide_eq_false w, Bool.false_and] at q2
          cases q2
    rw [e2, lnS_one a hj]
  rw [e]
  have s := count_if (fun i => decide (k < P i j)) a
  unfold led
  rw [← s]
  refine lnS_cong fun i _ => ?_
  by_cases z : k < P i j
  · rw [if_pos z, if_pos (decide_eq_true z)]
  · rw [if_neg z, if_neg (by simpa using z)]
where
  at_one (n k : Nat) : ((List.range n).filter fun k' => decide (k' = k)).length = if k < n then 1 else 0 := by
    induction n with
    | zero => rfl
    | succ n ih =>
      rw [List.range_succ, List.filter_append, List.length_append, ih]
      by_cases z : n = k
      · subst z
        simp
      · by_cases w : k < n
        · rw [if_pos w, if_pos (by omega)]
          simp [z]
        · rw [if_neg w, if_neg (by omega)]
          simp [z]
  count_if (p : Nat → Bool) (n : Nat) : lnS n (fun i => if p i = true then 1 else 0) = ((List.range n).filter p).length := by
    induction n with
    | zero => rfl
    | succ n ih =>
      rw [lnS_succ, ih, List.range_succ, List.filter_append, List.length_append]
      cases h : p n <;> simp [h]
/-! ### what stays a pile -/
theorem PL.turn {a b c : Nat} {P : Nat → Nat → Nat} (h : PL a b c P) : PL b a c fun j i => P i j :=
  ⟨fun j hj i hi => h.le i hi j hj, fun j h0 hj i hi => h.row i hi j h0 hj, fun j hj i h0 hi => h.col i h0 hi j hj⟩
theorem PL.rest {a b c : Nat} {P : Nat → Nat → Nat} (h : PL a b c P) : PL a b c fun i j => c - P (a - 1 - i) (b - 1 - j) where
  le := fun i _ j _ => Nat.sub_le _ _
  col := fun i h0 hi j hj => by
    have := h.col (a - 1 - (i - 1)) (by omega) (by omega) (b - 1 - j) (by omega)
    rw [show a - 1 - (i - 1) - 1 = a - 1 - i by omega] at this
    show c - P (a - 1 - i) (b - 1 - j) ≤ c - P (a - 1 - (i - 1)) (b - 1 - j)
    omega
  row := fun i hi j h0 hj => by
    have := h.row (a - 1 - i) (by omega) (b - 1 - (j - 1)) (by omega) (by omega)
    rw [show b - 1 - (j - 1) - 1 = b - 1 - j by omega] at this
    show c - P (a - 1 - i) (b - 1 - j) ≤ c - P (a - 1 - i) (b - 1 - (j - 1))
    omega
theorem PL.min {a b c : Nat} {P Q : Nat → Nat → Nat} (h : PL a b c P) (g : PL a b c Q) : PL a b c fun i j => Min.min (P i j) (Q i j) :=
  ⟨fun i hi j hj => by have := h.le i hi j hj; omega, fun i h0 hi j hj => by have := h.col i h0 hi j hj; have := g.col i h0 hi j hj; omega, fun i hi j h0 hj => by have := h.row i hi j h0 hj; have := g.row i hi j h0 hj; omega⟩
theorem PL.max {a b c : Nat} {P Q : Nat → Nat → Nat} (h : PL a b c P) (g : PL a b c Q) : PL a b c fun i j => Max.max (P i j) (Q i j) :=
  ⟨fun i hi j hj => by have := h.le i hi j hj; have := g.le i hi j hj; omega, fun i h0 hi j hj => by have := h.col i h0 hi j hj; have := g.col i h0 hi j hj; omega, fun i hi j h0 hj => by have := h.row i hi j h0 hj; have := g.row i hi j h0 hj; omega⟩
theorem led_mono {a : Nat} {P : Nat → Nat → Nat} {j k j' k' : Nat} (h : ∀ i, i < a → k < P i j → k' < P i j') : led a P j k ≤ led a P j' k' := by
  unfold led
  rw [← List.countP_eq_length_filter, ← List.countP_eq_length_filter]
  refine List.countP_mono_left fun i hi z => ?_
  exact decide_eq_true (h i (List.mem_range.mp hi) (of_decide_eq_true z))
theorem led_le (a : Nat) (P : Nat → Nat → Nat) (j k : Nat) : led a P j k ≤ a := by
  unfold led
  refine Nat.le_trans (List.length_filter_le ..) ?_
  rw [List.length_range]
  exact Nat.le_refl _
theorem PL.led {a : Nat} {P : Nat → Nat → Nat} (h : PL a a a P) : PL a a a (led a P) where
  le := fun j _ k _ => led_le a P j k
  col := fun j h0 hj k _ => led_mono fun i hi z => by have := h.row i hi j h0 hj; omega
  row := fun j _ k h0 _ => led_mono fun i _ z => by omega
theorem col_mono {a : Nat} {P : Nat → Nat → Nat} (h : PL a a a P) {j : Nat} (hj : j < a) : ∀ (d i : Nat), i + d < a → P (i + d) j ≤ P i j
  | 0, i, _ => Nat.le_refl _
  | d + 1, i, hd => by
    have a1 := col_mono h hj d i (by omega)
    have a2 := h.col (i + (d + 1)) (by omega) hd j hj
    rw [show i + (d + 1) - 1 = i + d by omega] at a2
    omega
theorem led_iff {a i j k : Nat} {P : Nat → Nat → Nat} (h : PL a a a P) (hi : i < a) (hj : j < a) : i < K62.led a P j k ↔ k < P i j := by
  have least : ∀ m : Nat, ∃ c, c ≤ m ∧ (∀ i, i < c → k < P i j) ∧ (c < m → ¬ k < P c j) := by
    intro m
    induction m with
    | zero => exact ⟨0, Nat.le_refl _, fun i h => absurd h (Nat.not_lt_zero _), fun h => absurd h (Nat.lt_irrefl _)⟩
    | succ m ih =>
      obtain ⟨c, c1, c2, c3⟩ := ih
      by_cases e : c < m
      · exact ⟨c, by omega, c2, fun _ => c3 e⟩
      · have e : c = m := by omega
        subst e
        by_cases p : k < P c j
        · refine ⟨c + 1, Nat.le_refl _, fun i hi => ?_, fun z => absurd z (Nat.lt_irrefl _)⟩
          rcases Nat.lt_or_eq_of_le (Nat.le_of_lt_succ hi) with w | w
          · exact c2 i w
          · rw [w]; exact p
        · exact ⟨c, by omega, c2, fun _ => p⟩
  obtain ⟨c, c1, c2, c3⟩ := least a
  have up : ∀ i, c ≤ i → i < a → ¬ k < P i j := fun i hc hi => by
    have := c3 (by omega)
    have := col_mono h hj (i - c) c (by omega)
    rw [show c + (i - c) = i by omega] at this
    omega
  have e : (List.range a).filter (fun i => decide (k < P i j)) = (List.range a).filter fun i => decide (i < c) := List.filter_congr fun i hi => by
    have hi := List.mem_range.mp hi
    refine decide_eq_decide.mpr ⟨fun z => Nat.lt_of_not_le fun w => up i w hi z, fun z => c2 i z⟩
  have l : K62.led a P j k = c := by
    unfold K62.led
    rw [e, filter_lt, List.length_range]
    omega
  rw [l]
  exact ⟨fun z => c2 i z, fun z => Nat.lt_of_not_le fun w => up i w hi z⟩
theorem led3 {a i j : Nat} {P : Nat → Nat → Nat} (h : PL a a a P) (hi : i < a) (hj : j < a) : K62.led a (K62.led a (K62.led a P)) i j = P i j := by
  have h1 := h.led
  have h2 := h1.led
  have key : ∀ k, k < a → (k < K62.led a (K62.led a (K62.led a P)) i j ↔ k < P i j) := fun k hk => by
    rw [led_iff h2 hk hi, led_iff h1 hj hk, led_iff h hi hj]
  have b1 := led_le a (K62.led a (K62.led a P)) i j
  have b2 := h.le i hi j hj
  rcases Nat.lt_trichotomy (K62.led a (K62.led a (K62.led a P)) i j) (P i j) with z | z | z
  · have := (key _ (by omega)).mpr z
    omega
  · exact z
  · have := (key _ (by omega)).mp z
    omega
theorem rest_sum {a b c : Nat} {P : Nat → Nat → Nat} (h : PL a b c P) : mxS a b P + mxS a b (fun i j => c - P (a - 1 - i) (b - 1 - j)) = a * (b * c) := by
  have r : mxS a b P = mxS a b fun i j => P (a - 1 - i) (b - 1 - j) := by
    unfold mxS
    rw [← lnS_rev a fun i => lnS b (P i)]
    exact lnS_cong fun i _ => (lnS_rev b (P (a - 1 - i))).symm
  rw [r]
  unfold mxS
  rw [← lnS_add]
  have e : (lnS a fun i => lnS b (fun j => P (a - 1 - i) (b - 1 - j)) + lnS b (fun j => c - P (a - 1 - i) (b - 1 - j))) = lnS a fun _ => b * c := lnS_cong fun i hi => by
    rw [← lnS_add]
    have e2 : (lnS b fun j => P (a - 1 - i) (b - 1 - j) + (c - P (a - 1 - i) (b - 1 - j))) = lnS b fun _ => c := lnS_cong fun j hj => by
      have := h.le (a - 1 - i) (by omega) (b - 1 - j) (by omega)
      omega
    rw [e2, lnS_const]
  rw [e, lnS_const]
/-! ### equal piles -/
theorem mx_cong {a b : Nat} {P Q : Nat → Nat → Nat} (h : ∀ i, i < a → ∀ j, j < b → P i j = Q i j) : mx a b P = mx a b Q := by
  refine congrArg PyData.tuple (List.map_congr_left fun i hi => congrArg PyData.tuple (List.map_congr_left fun j hj => ?_))
  show ni (P i j) = ni (Q i j)
  rw [h i (List.mem_range.mp hi) j (List.mem_range.mp hj)]
theorem mx_tIs (a b : Nat) (P : Nat → Nat → Nat) : mx a b P = .tuple (((List.range a).map fun i => (List.range b).map fun j => (P i j : Int)).map tI) := by
  refine congrArg PyData.tuple ?_
  rw [List.map_map]
  refine List.map_congr_left fun i _ => ?_
  show PyData.tuple _ = PyData.tuple _
  rw [List.map_map]
  rfl
theorem ne_mx (a b : Nat) (P : Nat → Nat → Nat) : oNe (mx a b P) (mx a b P) = some (.bool false) := by
  rw [mx_tIs, oNe_tIs, decide_eq_true rfl]
  rfl
theorem eq_mx (a b : Nat) (P : Nat → Nat → Nat) : oEq (mx a b P) (mx a b P) = some (.bool true) := by
  rw [mx_tIs, oEq_tIs, decide_eq_true rfl]
theorem samFs_map {α : Type} {f : α → D} : ∀ {xs : List α}, (∀ x ∈ xs, samF (f x) (f x) = true) → samFs (xs.map f) (xs.map f) = true
  | [], _ => by simp [samFs]
  | x :: xs, h => by
    simp only [List.map_cons, samFs, h x List.mem_cons_self, samFs_map fun y hy => h y (List.mem_cons_of_mem _ hy), Bool.and_self]
theorem repFs_map {α : Type} {n : Nat} {f : α → D} : ∀ {xs : List α}, (∀ x ∈ xs, repF n (f x) = true) → repFs n (xs.map f) = true
  | [], _ => by simp [repFs]
  | x :: xs, h => by
    simp only [List.map_cons, repFs, h x List.mem_cons_self, repFs_map fun y hy => h y (List.mem_cons_of_mem _ hy), Bool.and_self]
theorem bulk_map {α : Type} {m : Nat} {f : α → D} : ∀ {xs : List α}, (∀ x ∈ xs, (f x).bulk ≤ m) → PyData.bulkAll (xs.map f) ≤ xs.length * (m + 1)
  | [], _ => by simp [PyData.bulkAll]
  | x :: xs, h => by
    have a := h x List.mem_cons_self
    have b := bulk_map fun y hy => h y (List.mem_cons_of_mem _ hy)
    simp only [List.map_cons, PyData.bulkAll, List.length_cons, Nat.succ_mul]
    omega
theorem sam_mx (a b : Nat) (P : Nat → Nat → Nat) : samF (mx a b P) (mx a b P) = true := by
  simp only [samF]
  refine samFs_map fun i _ => ?_
  simp only [samF]
  exact samFs_map fun j _ => by simp [samF]
theorem rep_mx (n : Nat) {a b : Nat} {P : Nat → Nat → Nat} (hP : ∀ i, i < a → ∀ j, j < b → P i j ≤ 100) : repF (n + 2) (mx a b P) = true := by
  simp only [repF]
  refine repFs_map fun i hi => ?_
  simp only [repF]
  refine repFs_map fun j hj => ?_
  have := hP i (List.mem_range.mp hi) j (List.mem_range.mp hj)
  have e : repF n (ni (P i j)) = decide (((P i j : Nat) : Int).natAbs < 2 ^ 200) := by cases n <;> simp [repF]
  rw [e]
  exact decide_eq_true (Nat.lt_of_le_of_lt (show P i j ≤ 100 from this) (by decide))
theorem bulk_mx {a b : Nat} {P : Nat → Nat → Nat} (ha : a ≤ 4) (hb : b ≤ 4) : (mx a b P).bulk ≤ 100 := by
  have l : ∀ i, (PyData.tuple (lnD b fun j => ni (P i j))).bulk ≤ 4 := fun i => by
    have this : PyData.bulkAll (lnD b fun j => ni (P i j)) ≤ (List.range b).length * (0 + 1) := bulk_map (m := 0) (f := fun j => ni (P i j)) (xs := List.range b) fun j _ => by simp [PyData.bulk]
    rw [List.length_range] at this
    simp only [PyData.bulk]
    omega
  have this : PyData.bulkAll ((List.range a).map fun i => PyData.tuple (lnD b fun j => ni (P i j))) ≤ (List.range a).length * (4 + 1) := bulk_map (m := 4) (f := fun i => PyData.tuple (lnD b fun j => ni (P i j))) (xs := List.range a) fun i _ => l i
  rw [List.length_range] at this
  simp only [PyData.bulk]
  omega
theorem repOk_mx {a b : Nat} {P : Nat → Nat → Nat} (ha : a ≤ 4) (hb : b ≤ 4) (hP : ∀ i, i < a → ∀ j, j < b → P i j ≤ 100) : repOk (mx a b P) = true := by
  unfold repOk
  have := bulk_mx (P := P) ha hb
  rw [rep_mx 7 hP, Bool.true_and]
  exact decide_eq_true (by omega)
theorem repOk_two {a b : Nat} {P Q : Nat → Nat → Nat} (ha : a ≤ 4) (hb : b ≤ 4) (hP : ∀ i, i < b → ∀ j, j < a → P i j ≤ 100) (hQ : ∀ i, i < a → ∀ j, j < b → Q i j ≤ 100) : repOk (.list [mx b a P, mx a b Q]) = true ∧ samF (.list [mx b a P, mx a b Q]) (.list [mx b a P, mx a b Q]) = true := by
  refine ⟨?_, ?_⟩
  · unfold repOk
    have b1 := bulk_mx (P := P) hb ha
    have b2 := bulk_mx (P := Q) ha hb
    have e : repF 9 (.list [mx b a P, mx a b Q]) = true := by
      show repFs 8 [mx b a P, mx a b Q] = true
      show (repF 8 (mx b a P) && (repF 8 (mx a b Q) && repFs 8 [])) = true
      rw [rep_mx 6 hP, rep_mx 6 hQ]
      rfl
    rw [e, Bool.true_and]
    refine decide_eq_true ?_
    have : (PyData.list [mx b a P, mx a b Q]).bulk = (mx b a P).bulk + 1 + ((mx a b Q).bulk + 1 + 0) := by simp only [PyData.bulk, PyData.bulkAll]
    omega
  · show (samF (mx b a P) (mx b a P) && (samF (mx a b Q) (mx a b Q) && samFs [] [])) = true
    rw [sam_mx, sam_mx]
    rfl
/-! ### the statements of a turn -/
def Sg0 : En → Fl := sPars [1, 2, 3] (yCons (xV (eOp oAdd (eC (.int 1)) (eF (xCallI 0 f__law_roll (aCons (eC (.int 4)) (aNil)))))) (yCons (xV (eOp oAdd (eC (.int 1)) (eF (xCallI 0 f__law_roll (aCons (eC (.int 4)) (aNil)))))) (yCons (xV (eOp oAdd (eC (.int 1)) (eF (xCallI 0 f__law_roll (aCons (eC (.int 4)) (aNil)))))) (yNil))))
def Sg1 : En → Fl := sSet (eF (xCallI 0 f__law_pile (aCons (eV 1) (aCons (eV 2) (aCons (eV 3) (aNil)))))) 4
def Sg2 : En → Fl := sFor (iSeq (eF (xCallI 0 f__law_near (aCons (eV 1) (aCons (eV 2) (aCons (eV 3) (aCons (eV 4) (aNil)))))))) (gN 5) (g__law_right_b1)
def Sg3 : En → Fl := sSet (eF (xCall f__law_cubes (aCons (eV 4) (aNil)))) 6
def Sg4 : En → Fl := sIf (tB1 (eRep2 false (eF (xCall f_pile_size (aCons (eV 1) (aCons (eV 2) (aCons (eV 3) (aCons (eV 4) (aNil))))))) (eCB cLen (aCons (eV 6) (aNil))))) (sRet (eC (.bool false))) (sNil)
def Sg5 : En → Fl := sSet (eF (xCall f__law_by_cubes (aCons (eV 2) (aCons (eV 1) (aCons (eF (xLc [16, 17, 18] (iSeq (eV 6)) (gTA 3 (gsC (gN 16) (gsC (gN 17) (gsC (gN 18) (gsN))))) (tT) (g__law_right_e2))) (aNil)))))) 7
def Sg6 : En → Fl := sSet (eF (xCall f__law_cubes (aCons (eOp oMulT (eTup (aCons (eOp oMulT (eTup (aCons (eV 3) (aNil))) (eV 2)) (aNil))) (eV 1)) (aNil)))) 8
def Sg7 : En → Fl := sSet (eF (xCall f__law_by_cubes (aCons (eV 1) (aCons (eV 2) (aCons (eF (xLc [16, 17, 18] (iSeq (eV 8)) (gTA 3 (gsC (gN 16) (gsC (gN 17) (gsC (gN 18) (gsN))))) (g__law_right_t4) (g__law_right_e3))) (aNil)))))) 9
def Sg8 : En → Fl := sIf (tB1 (eRep2 false (eF (xLst (aCons (eF (xCall f_turned_pile (aCons (eV 1) (aCons (eV 2) (aCons (eV 3) (aCons (eV 4) (aNil))))))) (aCons (eF (xCall f_rest_pile (aCons (eV 1) (aCons (eV 2) (aCons (eV 3) (aCons (eV 4) (aNil))))))) (aNil))))) (eF (xLst (aCons (eV 7) (aCons (eV 9) (aNil))))))) (sRet (eC (.bool false))) (sNil)
def Sg9 : En → Fl := sIf (tOr1 (tB1 (eOp oNe (eF (xCall f_rest_pile (aCons (eV 1) (aCons (eV 2) (aCons (eV 3) (aCons (eV 9) (aNil))))))) (eV 4))) (tB1 (eOp oNe (eF (xCall f_turned_pile (aCons (eV 2) (aCons (eV 1) (aCons (eV 3) (aCons (eV 7) (aNil))))))) (eV 4)))) (sRet (eC (.bool false))) (sNil)
def Sg10 : En → Fl := sIf (tB1 (eOp oNe (eOp oAdd (eCB cLen (aCons (eV 6) (aNil))) (eCB cSumA (aCons (eF (xLc [19] (iSeq (eV 9)) (gN 19) (tT) (g__law_right_e5))) (aNil)))) (eOp oMul (eOp oMul (eV 1) (eV 2)) (eV 3)))) (sRet (eC (.bool false))) (sNil)
def Sg11 : En → Fl := sSet (eF (xCallI 0 f__law_pile (aCons (eV 1) (aCons (eV 2) (aCons (eV 3) (aNil)))))) 10
def Sg12 : En → Fl := sAsgX (xLc [19, 20] (iZp (eV 4) (eV 10)) (gTA 2 (gsC (gN 19) (gsC (gN 20) (gsN)))) (tT) (g__law_right_e7)) 11
def Sg13 : En → Fl := sFor (iSeq (eTup (aCons (eC (.int 0)) (aCons (eC (.int 1)) (aNil))))) (gN 12) (g__law_right_b10)
def Sg14 : En → Fl := sSet (eF (xCallI 0 f__law_pile (aCons (eV 1) (aCons (eV 1) (aCons (eV 1) (aNil)))))) 14
def Sg15 : En → Fl := sSet (eF (xCall f__law_by_cubes (aCons (eV 1) (aCons (eV 1) (aCons (eF (xLc [16, 17, 18] (iSeq (eF (xCall f__law_cubes (aCons (eV 14) (aNil))))) (gTA 3 (gsC (gN 16) (gsC (gN 17) (gsC (gN 18) (gsN))))) (tT) (g__law_right_e11))) (aNil)))))) 15
def Sg16 : En → Fl := sIf (tB1 (eRep2 false (eF (xCall f_round_pile (aCons (eV 1) (aCons (eV 14) (aNil))))) (eV 15))) (sRet (eC (.bool false))) (sNil)
def Sg17 : En → Fl := sRet (eOp oEq (eF (xCall f_round_pile (aCons (eV 1) (aCons (eF (xCall f_round_pile (aCons (eV 1) (aCons (eV 15) (aNil))))) (aNil))))) (eV 14))
theorem right_is : F__law_right = sSeq Sg0 (sSeq Sg1 (sSeq Sg2 (sSeq Sg3 (sSeq Sg4 (sSeq Sg5 (sSeq Sg6 (sSeq Sg7 (sSeq Sg8 (sSeq Sg9 (sSeq Sg10 (sSeq Sg11 (sSeq Sg12 (sSeq Sg13 (sSeq Sg14 (sSeq Sg15 (sSeq Sg16 (Sg17))))))))))))))))) := rfl
end K62
set_option maxHeartbeats 0
/-! K62: the head of law k62, by gen.py -/
namespace K62
open PySem PySem.Spec PyProof.Rows L2 DL
def d__law_dice : He.DefD := ⟨("_law_dice", none), "_law_dice", "_law_dice", defArgs (top 26), defBody (top 26), defScope (top 26), [], []⟩
def d_is_whole : He.DefD := ⟨("is_whole", none), "is_whole", "is_whole", defArgs (top 6), defBody (top 6), defScope (top 6), [], []⟩
def d_is_near : He.DefD := ⟨("is_near", none), "is_near", "is_near", defArgs (top 7), defBody (top 7), defScope (top 7), [], []⟩
def d_require_number : He.DefD := ⟨("require_number", none), "require_number", "require_number", defArgs (top 9), defBody (top 9), defScope (top 9), [], []⟩
def d_require_box : He.DefD := ⟨("require_box", none), "require_box", "require_box", defArgs (top 18), defBody (top 18), defScope (top 18), [], []⟩
def d_is_falling_line : He.DefD := ⟨("is_falling_line", none), "is_falling_line", "is_falling_line", defArgs (top 13), defBody (top 13), defScope (top 13), [], []⟩
def d_is_within : He.DefD := ⟨("is_within", none), "is_within", "is_within", defArgs (top 8), defBody (top 8), defScope (top 8), [], []⟩
def d_is_row_of : He.DefD := ⟨("is_row_of", none), "is_row_of", "is_row_of", defArgs (top 10), defBody (top 10), defScope (top 10), [], []⟩
def d_is_pile_in : He.DefD := ⟨("is_pile_in", none), "is_pile_in", "is_pile_in", defArgs (top 14), defBody (top 14), defScope (top 14), [], []⟩
def d_require_pile : He.DefD := ⟨("require_pile", none), "require_pile", "require_pile", defArgs (top 19), defBody (top 19), defScope (top 19), [], []⟩
def d_columns_in : He.DefD := ⟨("columns_in", none), "columns_in", "columns_in", defArgs (top 15), defBody (top 15), defScope (top 15), [], []⟩
def d_turned_pile : He.DefD := ⟨("turned_pile", none), "turned_pile", "turned_pile", defArgs (top 22), defBody (top 22), defScope (top 22), [], []⟩
def d_rest_in : He.DefD := ⟨("rest_in", none), "rest_in", "rest_in", defArgs (top 16), defBody (top 16), defScope (top 16), [], []⟩
def d_rest_pile : He.DefD := ⟨("rest_pile", none), "rest_pile", "rest_pile", defArgs (top 23), defBody (top 23), defScope (top 23), [], []⟩
def d_is_pile : He.DefD := ⟨("is_pile", none), "is_pile", "is_pile", defArgs (top 20), defBody (top 20), defScope (top 20), [], []⟩
def d_pile_size : He.DefD := ⟨("pile_size", none), "pile_size", "pile_size", defArgs (top 21), defBody (top 21), defScope (top 21), [], []⟩
def d_led_round : He.DefD := ⟨("led_round", none), "led_round", "led_round", defArgs (top 17), defBody (top 17), defScope (top 17), [], []⟩
def d_round_pile : He.DefD := ⟨("round_pile", none), "round_pile", "round_pile", defArgs (top 24), defBody (top 24), defScope (top 24), [], []⟩
def d__law_roll : He.DefD := ⟨("_law_roll", none), "_law_roll", "_law_roll", defArgs (top 27), defBody (top 27), defScope (top 27), [], []⟩
def d__law_pile : He.DefD := ⟨("_law_pile", none), "_law_pile", "_law_pile", defArgs (top 29), defBody (top 29), defScope (top 29), [], []⟩
def d__law_near : He.DefD := ⟨("_law_near", none), "_law_near", "_law_near", defArgs (top 33), defBody (top 33), defScope (top 33), [], []⟩
def d__law_cubes : He.DefD := ⟨("_law_cubes", none), "_law_cubes", "_law_cubes", defArgs (top 31), defBody (top 31), defScope (top 31), [], []⟩
def d__law_by_cubes : He.DefD := ⟨("_law_by_cubes", none), "_law_by_cubes", "_law_by_cubes", defArgs (top 32), defBody (top 32), defScope (top 32), [], []⟩
def d__law_is_integer : He.DefD := ⟨("_law_is_integer", none), "_law_is_integer", "_law_is_integer", defArgs (top 28), defBody (top 28), defScope (top 28), [], []⟩
def d__law_is_pile : He.DefD := ⟨("_law_is_pile", none), "_law_is_pile", "_law_is_pile", defArgs (top 30), defBody (top 30), defScope (top 30), [], []⟩
def d__law_right : He.DefD := ⟨("_law_right", none), "_law_right", "_law_right", defArgs (top 34), defBody (top 34), defScope (top 34), [], []⟩
def d_law : He.DefD := ⟨("law", none), "law", "law", defArgs (top 35), defBody (top 35), defScope (top 35), [], []⟩
def fn : List He.DefD := [d__law_dice, d_is_whole, d_is_near, d_require_number, d_require_box, d_is_falling_line, d_is_within, d_is_row_of, d_is_pile_in, d_require_pile, d_columns_in, d_turned_pile, d_rest_in, d_rest_pile, d_is_pile, d_pile_size, d_led_round, d_round_pile, d__law_roll, d__law_pile, d__law_near, d__law_cubes, d__law_by_cubes, d__law_is_integer, d__law_is_pile, d__law_right, d_law]
def cs : List (Str × List He.Dv) := []
def fa : List He.Fa := [.glo "_law_dice", .glo "is_whole", .glo "is_near", .glo "require_number", .glo "require_box", .glo "is_falling_line", .glo "is_within", .glo "is_row_of", .glo "is_pile_in", .glo "require_pile", .glo "columns_in", .glo "turned_pile", .glo "rest_in", .glo "rest_pile", .glo "is_pile", .glo "pile_size", .glo "led_round", .glo "round_pile", .glo "_law_roll", .glo "_law_pile", .glo "_law_near", .glo "_law_cubes", .glo "_law_by_cubes", .glo "_law_is_integer", .glo "_law_is_pile", .glo "_law_right", .glo "law", .free "len", .free "int", .free "abs", .free "max", .free "isinstance", .free "bool", .free "range", .free "all", .free "tuple", .free "sum", .free "min", .free "list", .free "enumerate", .free "repr", .free "zip", .free "sorted", .int "FAR" 1000000000000000000000000000000000000000000000000000000000000, .int "MOST_SIDE" 12]
abbrev Row0 : PySem.W.OpenRow := PySem.W.OpenLaw.row PySem.Challenge.rw_hookwide_k62_whole_piles
abbrev hk : PySem.W.Hook := hookC 4 fa fn cs
def ob (s : PySem.W.SharedT) : AlC := obsCG 4 fa fn cs (HandSHeadRun.getT s)
theorem ob_eq (s : PySem.W.SharedT) : ob s = hk.obs s.abs := obsCG_eq (HandSHeadRun.getT_eq s)
def loose0 : List PySem.Str := ["PartError", "InvalidPile", "InvalidNumber", "FAR", "is_whole", "is_near", "is_within", "require_number", "is_row_of", "MOST_SIDE", "is_falling_line", "is_pile_in", "columns_in", "rest_in", "led_round", "require_box", "require_pile", "is_pile", "pile_size", "turned_pile"]
def loose1 : List PySem.Str := ["rest_pile", "round_pile", "_law_dice", "_law_roll", "_law_is_integer", "_law_pile", "_law_is_pile", "_law_cubes", "_law_by_cubes", "_law_near", "_law_right"]
abbrev loose : List PySem.Str := loose0 ++ loose1
theorem run (w : World) : HandSHeadRun.RunEq Row0 (PySem.W.view Row0.prog [35]) hk ob 4000 loose w := by
  intro os
  kernel_rfl
theorem facts {P : Program} {w : World} {K : PySem.W.Frag} {h : Heap} {mg : Str → Option Value} {f : Addr} (X : K.In h) (N : h.Ns mainGlobals mg) (hfa : mg ("law" : Str) = some (.ref f)) (cc : SaysC fa fn cs K) :
    ∃ fd : FuncData, (∀ (s : Shared) (v : Value), BindsTo s fd ⟨[v], []⟩ [("script", v)]) ∧ ∀ base : Heap, K.In base → base.Ns mainGlobals mg → FnG true P w K mg base 8 f fd ["script"] (spD (G0 K) f_law) := by
  have c := cc.d
  have Z : Fcts K mg := ⟨He.free_ok X N (c.fact 27 rfl), He.free_ok X N (c.fact 28 rfl), He.free_ok X N (c.fact 29 rfl), He.free_ok X N (c.fact 30 rfl), He.free_ok X N (c.fact 31 rfl), He.free_ok X N (c.fact 32 rfl), He.free_ok X N (c.fact 33 rfl), He.free_ok X N (c.fact 34 rfl), He.free_ok X N (c.fact 35 rfl), He.free_ok X N (c.fact 36 rfl), He.free_ok X N (c.fact 37 rfl), He.free_ok X N (c.fact 38 rfl), He.free_ok X N (c.fact 39 rfl), He.free_ok X N (c.fact 40 rfl), He.free_ok X N (c.fact 41 rfl), He.free_ok X N (c.fact 42 rfl), He.int_ok X N (c.fact 43 rfl), He.int_ok X N (c.fact 44 rfl)⟩
  obtain ⟨fd__law_dice, D__law_dice⟩ := c.def_ 0 (d := d__law_dice) rfl
  obtain ⟨fd_is_whole, D_is_whole⟩ := c.def_ 1 (d := d_is_whole) rfl
  obtain ⟨fd_is_near, D_is_near⟩ := c.def_ 2 (d := d_is_near) rfl
  obtain ⟨fd_require_number, D_require_number⟩ := c.def_ 3 (d := d_require_number) rfl
  obtain ⟨fd_require_box, D_require_box⟩ := c.def_ 4 (d := d_require_box) rfl
  obtain ⟨fd_is_falling_line, D_is_falling_line⟩ := c.def_ 5 (d := d_is_falling_line) rfl
  obtain ⟨fd_is_within, D_is_within⟩ := c.def_ 6 (d := d_is_within) rfl
  obtain ⟨fd_is_row_of, D_is_row_of⟩ := c.def_ 7 (d := d_is_row_of) rfl
  obtain ⟨fd_is_pile_in, D_is_pile_in⟩ := c.def_ 8 (d := d_is_pile_in) rfl
  obtain ⟨fd_require_pile, D_require_pile⟩ := c.def_ 9 (d := d_require_pile) rfl
  obtain ⟨fd_columns_in, D_columns_in⟩ := c.def_ 10 (d := d_columns_in) rfl
  obtain ⟨fd_turned_pile, D_turned_pile⟩ := c.def_ 11 (d := d_turned_pile) rfl
  obtain ⟨fd_rest_in, D_rest_in⟩ := c.def_ 12 (d := d_rest_in) rfl
  obtain ⟨fd_rest_pile, D_rest_pile⟩ := c.def_ 13 (d := d_rest_pile) rfl
  obtain ⟨fd_is_pile, D_is_pile⟩ := c.def_ 14 (d := d_is_pile) rfl
  obtain ⟨fd_pile_size, D_pile_size⟩ := c.def_ 15 (d := d_pile_size) rfl
  obtain ⟨fd_led_round, D_led_round⟩ := c.def_ 16 (d := d_led_round) rfl
  obtain ⟨fd_round_pile, D_round_pile⟩ := c.def_ 17 (d := d_round_pile) rfl
  obtain ⟨fd__law_roll, D__law_roll⟩ := c.def_ 18 (d := d__law_roll) rfl
  obtain ⟨fd__law_pile, D__law_pile⟩ := c.def_ 19 (d := d__law_pile) rfl
  obtain ⟨fd__law_near, D__law_near⟩ := c.def_ 20 (d := d__law_near) rfl
  obtain ⟨fd__law_cubes, D__law_cubes⟩ := c.def_ 21 (d := d__law_cubes) rfl
  obtain ⟨fd__law_by_cubes, D__law_by_cubes⟩ := c.def_ 22 (d := d__law_by_cubes) rfl
  obtain ⟨fd__law_is_integer, D__law_is_integer⟩ := c.def_ 23 (d := d__law_is_integer) rfl
  obtain ⟨fd__law_is_pile, D__law_is_pile⟩ := c.def_ 24 (d := d__law_is_pile) rfl
  obtain ⟨fd__law_right, D__law_right⟩ := c.def_ 25 (d := d__law_right) rfl
  obtain ⟨fd_law, D_law⟩ := c.def_ 26 (d := d_law) rfl
  have e := hfa.symm.trans (He.glo_ok X N (c.fact 26 (f := .glo "law") rfl))
  cases e
  have b := FunD.bindsA (ps := ["script"]) D_law fun _ _ _ _ _ _ us hl => match us, hl with | [_], _ => rfl
  refine ⟨fd_law, fun s v => b s [v] rfl, fun base _ _ => ?_⟩
  have C__law_dice : Cal (G0 K) true P w mg base 1 "_law_dice" ["script", "spot"] f__law_dice := Cal.ofG X N D__law_dice (ok__law_dice (G := G0 K) D__law_dice Z ) (c.fact 0 rfl) fun _ _ _ _ _ _ us hl => match us, hl with | [_, _], _ => rfl
  have C_is_whole : Cal (G0 K) true P w mg base 1 "is_whole" ["value"] f_is_whole := Cal.ofG X N D_is_whole (ok_is_whole (G := G0 K) D_is_whole Z ) (c.fact 1 rfl) fun _ _ _ _ _ _ us hl => match us, hl with | [_], _ => rfl
  have C_is_near : Cal (G0 K) true P w mg base 2 "is_near" ["value"] f_is_near := Cal.ofG X N D_is_near (ok_is_near (G := G0 K) D_is_near Z C_is_whole) (c.fact 2 rfl) fun _ _ _ _ _ _ us hl => match us, hl with | [_], _ => rfl
  have C_require_number : Cal (G0 K) true P w mg base 3 "require_number" ["value", "least", "most"] f_require_number := Cal.ofG X N D_require_number (ok_require_number (G := G0 K) D_require_number Z C_is_near) (c.fact 3 rfl) fun _ _ _ _ _ _ us hl => match us, hl with | [_, _, _], _ => rfl
  have C_require_box : Cal (G0 K) true P w mg base 4 "require_box" ["a", "b", "c", "most"] f_require_box := Cal.ofG X N D_require_box (ok_require_box (G := G0 K) D_require_box Z C_require_number) (c.fact 4 rfl) fun _ _ _ _ _ _ us hl => match us, hl with | [_, _, _, _], _ => rfl
  have C_is_falling_line : Cal (G0 K) true P w mg base 1 "is_falling_line" ["line"] f_is_falling_line := Cal.ofG X N D_is_falling_line (ok_is_falling_line (G := G0 K) D_is_falling_line Z ) (c.fact 5 rfl) fun _ _ _ _ _ _ us hl => match us, hl with | [_], _ => rfl
  have C_is_within : Cal (G0 K) true P w mg base 2 "is_within" ["value", "least", "most"] f_is_within := Cal.ofG X N D_is_within (ok_is_within (G := G0 K) D_is_within Z C_is_whole) (c.fact 6 rfl) fun _ _ _ _ _ _ us hl => match us, hl with | [_, _, _], _ => rfl
  have C_is_row_of : Cal (G0 K) true P w mg base 3 "is_row_of" ["value", "least", "most"] f_is_row_of := Cal.ofG X N D_is_row_of (ok_is_row_of (G := G0 K) D_is_row_of Z C_is_within) (c.fact 7 rfl) fun _ _ _ _ _ _ us hl => match us, hl with | [_, _, _], _ => rfl
  have C_is_pile_in : Cal (G0 K) true P w mg base 4 "is_pile_in" ["a", "b", "c", "value"] f_is_pile_in := Cal.ofG X N D_is_pile_in (ok_is_pile_in (G := G0 K) D_is_pile_in Z C_is_row_of C_is_falling_line) (c.fact 8 rfl) fun _ _ _ _ _ _ us hl => match us, hl with | [_, _, _, _], _ => rfl
  have C_require_pile : Cal (G0 K) true P w mg base 5 "require_pile" ["a", "b", "c", "pile"] f_require_pile := Cal.ofG X N D_require_pile (ok_require_pile (G := G0 K) D_require_pile Z C_require_box C_is_pile_in) (c.fact 9 rfl) fun _ _ _ _ _ _ us hl => match us, hl with | [_, _, _, _], _ => rfl
  have C_columns_in : Cal (G0 K) true P w mg base 1 "columns_in" ["pile"] f_columns_in := Cal.ofG X N D_columns_in (ok_columns_in (G := G0 K) D_columns_in Z ) (c.fact 10 rfl) fun _ _ _ _ _ _ us hl => match us, hl with | [_], _ => rfl
  have C_turned_pile : Cal (G0 K) true P w mg base 6 "turned_pile" ["a", "b", "c", "pile"] f_turned_pile := Cal.ofG X N D_turned_pile (ok_turned_pile (G := G0 K) D_turned_pile Z C_require_pile C_columns_in) (c.fact 11 rfl) fun _ _ _ _ _ _ us hl => match us, hl with | [_, _, _, _], _ => rfl
  have C_rest_in : Cal (G0 K) true P w mg base 1 "rest_in" ["c", "pile"] f_rest_in := Cal.ofG X N D_rest_in (ok_rest_in (G := G0 K) D_rest_in Z ) (c.fact 12 rfl) fun _ _ _ _ _ _ us hl => match us, hl with | [_, _], _ => rfl
  have C_rest_pile : Cal (G0 K) true P w mg base 6 "rest_pile" ["a", "b", "c", "pile"] f_rest_pile := Cal.ofG X N D_rest_pile (ok_rest_pile (G := G0 K) D_rest_pile Z C_require_pile C_rest_in) (c.fact 13 rfl) fun _ _ _ _ _ _ us hl => match us, hl with | [_, _, _, _], _ => rfl
  have C_is_pile : Cal (G0 K) true P w mg base 5 "is_pile" ["a", "b", "c", "value"] f_is_pile := Cal.ofG X N D_is_pile (ok_is_pile (G := G0 K) D_is_pile Z C_require_box C_is_pile_in) (c.fact 14 rfl) fun _ _ _ _ _ _ us hl => match us, hl with | [_, _, _, _], _ => rfl
  have C_pile_size : Cal (G0 K) true P w mg base 6 "pile_size" ["a", "b", "c", "pile"] f_pile_size := Cal.ofG X N D_pile_size (ok_pile_size (G := G0 K) D_pile_size Z C_require_pile) (c.fact 15 rfl) fun _ _ _ _ _ _ us hl => match us, hl with | [_, _, _, _], _ => rfl
  have C_led_round : Cal (G0 K) true P w mg base 1 "led_round" ["a", "pile"] f_led_round := Cal.ofG X N D_led_round (ok_led_round (G := G0 K) D_led_round Z ) (c.fact 16 rfl) fun _ _ _ _ _ _ us hl => match us, hl with | [_, _], _ => rfl
  have C_round_pile : Cal (G0 K) true P w mg base 6 "round_pile" ["a", "pile"] f_round_pile := Cal.ofG X N D_round_pile (ok_round_pile (G := G0 K) D_round_pile Z C_require_pile C_led_round) (c.fact 17 rfl) fun _ _ _ _ _ _ us hl => match us, hl with | [_, _], _ => rfl
  have C__law_roll : Cal (G0 K) true P w mg base 1 "_law_roll" ["dice", "total"] f__law_roll := Cal.ofG X N D__law_roll (ok__law_roll (G := G0 K) D__law_roll Z ) (c.fact 18 rfl) fun _ _ _ _ _ _ us hl => match us, hl with | [_, _], _ => rfl
  have C__law_pile : Cal (G0 K) true P w mg base 2 "_law_pile" ["dice", "a", "b", "c"] f__law_pile := Cal.ofG X N D__law_pile (ok__law_pile (G := G0 K) D__law_pile Z C__law_roll) (c.fact 19 rfl) fun _ _ _ _ _ _ us hl => match us, hl with | [_, _, _, _], _ => rfl
  have C__law_near : Cal (G0 K) true P w mg base 2 "_law_near" ["dice", "a", "b", "c", "pile"] f__law_near := Cal.ofG X N D__law_near (ok__law_near (G := G0 K) D__law_near Z C__law_roll) (c.fact 20 rfl) fun _ _ _ _ _ _ us hl => match us, hl with | [_, _, _, _, _], _ => rfl
  have C__law_cubes : Cal (G0 K) true P w mg base 1 "_law_cubes" ["pile"] f__law_cubes := Cal.ofG X N D__law_cubes (ok__law_cubes (G := G0 K) D__law_cubes Z ) (c.fact 21 rfl) fun _ _ _ _ _ _ us hl => match us, hl with | [_], _ => rfl
  have C__law_by_cubes : Cal (G0 K) true P w mg base 1 "_law_by_cubes" ["a", "b", "cubes"] f__law_by_cubes := Cal.ofG X N D__law_by_cubes (ok__law_by_cubes (G := G0 K) D__law_by_cubes Z ) (c.fact 22 rfl) fun _ _ _ _ _ _ us hl => match us, hl with | [_, _, _], _ => rfl
  have C__law_is_integer : Cal (G0 K) true P w mg base 1 "_law_is_integer" ["value", "least", "most"] f__law_is_integer := Cal.ofG X N D__law_is_integer (ok__law_is_integer (G := G0 K) D__law_is_integer Z ) (c.fact 23 rfl) fun _ _ _ _ _ _ us hl => match us, hl with | [_, _, _], _ => rfl
  have C__law_is_pile : Cal (G0 K) true P w mg base 2 "_law_is_pile" ["a", "b", "c", "value"] f__law_is_pile := Cal.ofG X N D__law_is_pile (ok__law_is_pile (G := G0 K) D__law_is_pile Z C__law_is_integer) (c.fact 24 rfl) fun _ _ _ _ _ _ us hl => match us, hl with | [_, _, _, _], _ => rfl
  have C__law_right : Cal (G0 K) true P w mg base 7 "_law_right" ["dice"] f__law_right := Cal.ofG X N D__law_right (ok__law_right (G := G0 K) D__law_right Z C__law_roll C__law_pile C__law_near C_is_pile C__law_is_pile C__law_cubes C_pile_size C__law_by_cubes C_rest_pile C_turned_pile C_round_pile) (c.fact 25 rfl) fun _ _ _ _ _ _ us hl => match us, hl with | [_], _ => rfl
  exact ok_law (G := G0 K) D_law Z C__law_dice C__law_right C_is_pile C_rest_pile C_turned_pile C_round_pile C_pile_size
end K62
open PySem PySem.W PySem.Calls PyProof.Rows DL
theorem K62_of (hlaw : ∀ ns : List Int, ns.length ≤ 63 → K62.f_law [.fr (ns.map .int)] = .rt (.vl (.bool true)) none) : PySem.Challenge.rw_hookwide_k62_whole_piles.Holds := by
  w_on; o_law
  refine HandSHeadRun.head_any (r := OpenLaw.row PySem.Challenge.rw_hookwide_k62_whole_piles) (q := view (OpenLaw.row PySem.Challenge.rw_hookwide_k62_whole_piles).prog [35]) (H := K62.hk) (ob := K62.ob) (M := 4000) (loose := K62.loose) (d := HandSHeadRun.topDef (OpenLaw.row PySem.Challenge.rw_hookwide_k62_whole_piles).prog 35) (kwd := []) K62.ob_eq
    (by kernel_rfl) (fun s => by kernel_rfl) K62.run (by kernel_rfl) (by kernel_rfl) (by kernel_rfl) (by rfl) (by first | assumption | decide +kernel) (by decide +kernel) ⟨rfl, rfl, rfl, rfl, rfl, by decide +kernel⟩ ?hw ?hc
  case hw => w_witness2
  case hc =>
    refine DL.walkG (l := PySem.Challenge.rw_hookwide_k62_whole_piles) (n := 63) (k := 8) (x := "script") (fD := K62.f_law) rfl (by decide) (by kernel_rfl) ⟨rfl, by decide, by decide⟩ hlaw ?F
    intro w mg fa h Y G hmg0
    obtain ⟨K, KX, c⟩ := Y
    have hmg : mg ("law" : PySem.Str) = some (.ref fa) := by
      have e : (HandSHeadRun.topDef (OpenLaw.row PySem.Challenge.rw_hookwide_k62_whole_piles).prog 35).name = ("law" : PySem.Str) := by kernel_rfl
      rw [← e]
      exact hmg0
    obtain ⟨fd, hb, hF⟩ := K62.facts (P := (PySem.Challenge.rw_hookwide_k62_whole_piles).prog) (w := w) KX G hmg c
    exact ⟨K, fd, KX, hb, hF⟩
set_option maxHeartbeats 400000
/-! K62m: law k62, a turn -/
namespace K62
open PySem L2 DL
abbrev E (d : List D) (s1 s2 s3 s4 s5 s6 s7 s8 s9 s10 s11 s12 s13 s14 s15 : Sl) : En := [.io d, s1, s2, s3, s4, s5, s6, s7, s8, s9, s10, s11, s12, s13, s14, s15, .no, .no, .no, .no, .no, .no, .no, .no]
theorem bool_rep (b : Bool) : repOk (.bool b) = true ∧ samF (.bool b) (.bool b) = true := by
  cases b <;> decide +kernel
theorem int_rep (n : Nat) (h : n ≤ 1000) : repOk (ni n) = true ∧ samF (ni n) (ni n) = true := by
  refine ⟨repOk_i (Nat.lt_of_le_of_lt (show n ≤ 1000 from h) (by decide)), by simp [samF]⟩
/-- the values near -/
theorem t2 {a b c : Nat} {P : Nat → Nat → Nat} (x : Bx a b c) (d : List D) (hd : IsDice d) : ∃ d' x5, Sg2 (E d (vi a) (vi b) (vi c) (.vl (mx a b P)) .no .no .no .no .no .no .no .no .no .no .no) = .nx (E d' (vi a) (vi b) (vi c) (.vl (mx a b P)) x5 .no .no .no .no .no .no .no .no .no .no) ∧ IsDice d' ∧ noIo x5 = true := by
  obtain ⟨d', vs, w, k, J⟩ := nearE (P := P) x d hd
  have it : iSeq (eF (xCallI 0 f__law_near (aCons (eV 1) (aCons (eV 2) (aCons (eV 3) (aCons (eV 4) (aNil))))))) (E d (vi a) (vi b) (vi c) (.vl (mx a b P)) .no .no .no .no .no .no .no .no .no .no .no) = .ok vs (E d' (vi a) (vi b) (vi c) (.vl (mx a b P)) .no .no .no .no .no .no .no .no .no .no .no) :=
    iSeq_ofL (eF_of (s := .ow vs) (xCallI_of (i := 0) (r := E d (vi a) (vi b) (vi c) (.vl (mx a b P)) .no .no .no .no .no .no .no .no .no .no .no) (r1 := E d (vi a) (vi b) (vi c) (.vl (mx a b P)) .no .no .no .no .no .no .no .no .no .no .no) (ds := [.int a, .int b, .int c, mx a b P]) (s0 := .io d) (xs := d) rfl (aCons_of rfl (aCons_of rfl (aCons_of rfl (aCons_of rfl aNil_of)))) rfl rfl w) rfl)
  obtain ⟨r', e, x5, n5, rfl⟩ := forD_keep (t := gN 5) (f := g__law_right_b1) (fun r => ∃ x5 : Sl, noIo x5 = true ∧ r = E d' (vi a) (vi b) (vi c) (.vl (mx a b P)) x5 .no .no .no .no .no .no .no .no .no .no) vs _ (fun v hv r hr => by
    obtain ⟨x5, n5, rfl⟩ := hr
    obtain ⟨z, z1, z2⟩ := J v hv
    refine ⟨E d' (vi a) (vi b) (vi c) (.vl (mx a b P)) (.vl v) .no .no .no .no .no .no .no .no .no .no, _, rfl, ?_, .vl v, rfl, rfl⟩
    exact sIf_f0 (tB1_of (eRep2_of (bb := false) (x := .bool z) (call4 (a := .int a) (b := .int b) (c := .int c) (d := v) rfl rfl rfl rfl z1) (bool_rep z).1 (call4 (a := .int a) (b := .int b) (c := .int c) (d := v) rfl rfl rfl rfl z2) (bool_rep z).2))) ⟨.no, rfl, rfl⟩
  exact ⟨d', x5, Eq.trans (sFor_of it) e, k, n5⟩
theorem small {a b c : Nat} {P : Nat → Nat → Nat} (x : Bx a b c) (h : PL a b c P) : ∀ i, i < a → ∀ j, j < b → P i j ≤ 4 := fun i hi j hj => Nat.le_trans (h.le i hi j hj) x.c2
theorem mxS_le {a b c : Nat} {P : Nat → Nat → Nat} (x : Bx a b c) (h : PL a b c P) : mxS a b P ≤ 64 := by
  have e := rest_sum h
  have : a * (b * c) ≤ 4 * (4 * 4) := Nat.mul_le_mul x.a2 (Nat.mul_le_mul x.b2 x.c2)
  omega
theorem t3 {a b c : Nat} {P : Nat → Nat → Nat} (x : Bx a b c) (h : PL a b c P) (d : List D) (x5 : Sl) : Sg3 (E d (vi a) (vi b) (vi c) (.vl (mx a b P)) x5 .no .no .no .no .no .no .no .no .no .no) = .nx (E d (vi a) (vi b) (vi c) (.vl (mx a b P)) x5 (.vl (.list ((cubesL a b P).map enT))) .no .no .no .no .no .no .no .no .no) :=
  sSet_of (i := 6) (eF_of (s := .ow ((cubesL a b P).map enT)) (xCall_of (ds := [mx a b P]) (aCons_of rfl aNil_of) (cubesE x.a2 x.b2 (small x h))) rfl)
theorem len6 {a b c : Nat} {P : Nat → Nat → Nat} {r : En} (h6 : r[6]? = some (.vl (.list ((cubesL a b P).map enT)))) : eCB cLen (aCons (eV 6) (aNil)) r = .ok (ni (mxS a b P)) r := by
  have v : eV 6 r = .ok (.list ((cubesL a b P).map enT)) r := by unfold eV; rw [h6]
  refine eCB_of (x := [.list ((cubesL a b P).map enT)]) (aCons_of v aNil_of) (Eq.trans lenC ?_)
  rw [List.length_map, cubes_len]
theorem t4 {a b c : Nat} {P : Nat → Nat → Nat} (x : Bx a b c) (h : PL a b c P) (d : List D) (x5 : Sl) : Sg4 (E d (vi a) (vi b) (vi c) (.vl (mx a b P)) x5 (.vl (.list ((cubesL a b P).map enT))) .no .no .no .no .no .no .no .no .no) = .nx (E d (vi a) (vi b) (vi c) (.vl (mx a b P)) x5 (.vl (.list ((cubesL a b P).map enT))) .no .no .no .no .no .no .no .no .no) := by
  have r := int_rep (mxS a b P) (by have := mxS_le x h; omega)
  exact sIf_f0 (tB1_of (eRep2_of (bb := false) (x := ni (mxS a b P)) (call4 (a := .int a) (b := .int b) (c := .int c) (d := mx a b P) rfl rfl rfl rfl (sizeE x h)) r.1 (len6 (a := a) (b := b) (c := c) (P := P) rfl) r.2))
theorem cub_len {a b c : Nat} {P : Nat → Nat → Nat} (x : Bx a b c) (h : PL a b c P) : (cubesL a b P).length ≤ 64 := by
  rw [cubes_len]
  exact mxS_le x h
theorem t5 {a b c : Nat} {P : Nat → Nat → Nat} (x : Bx a b c) (h : PL a b c P) (d : List D) (x5 : Sl) : Sg5 (E d (vi a) (vi b) (vi c) (.vl (mx a b P)) x5 (.vl (.list ((cubesL a b P).map enT))) .no .no .no .no .no .no .no .no .no) = .nx (E d (vi a) (vi b) (vi c) (.vl (mx a b P)) x5 (.vl (.list ((cubesL a b P).map enT))) (.vl (mx b a fun j i => P i j)) .no .no .no .no .no .no .no .no) := by
  have cl := cub_len x h
  have l : eF (xLc [16, 17, 18] (iSeq (eV 6)) (gTA 3 (gsC (gN 16) (gsC (gN 17) (gsC (gN 18) (gsN))))) (tT) (g__law_right_e2)) (E d (vi a) (vi b) (vi c) (.vl (mx a b P)) x5 (.vl (.list ((cubesL a b P).map enT))) .no .no .no .no .no .no .no .no .no) = .ok (.list ((turnT a b P).map enT)) (E d (vi a) (vi b) (vi c) (.vl (mx a b P)) x5 (.vl (.list ((cubesL a b P).map enT))) .no .no .no .no .no .no .no .no .no) := by
    refine eF_of (s := .ow ((turnT a b P).map enT)) (Eq.trans (xLc_map (enc := enT) (p := fun _ => true) (g := fun t => enT (t.2.1, t.1, t.2.2)) (xs := cubesL a b P) (r1 := E d (vi a) (vi b) (vi c) (.vl (mx a b P)) x5 (.vl (.list ((cubesL a b P).map enT))) .no .no .no .no .no .no .no .no .no) (iSeq_ofL (ds := (cubesL a b P).map enT) rfl) (fun t _ => ⟨[.io d, vi a, vi b, vi c, .vl (mx a b P), x5, .vl (.list ((cubesL a b P).map enT)), .no, .no, .no, .no, .no, .no, .no, .no, .no, vi t.1, vi t.2.1, vi t.2.2, .no, .no, .no, .no, .no], rfl, rfl, fun _ => ?_, rfl⟩) (by omega)) ?_) rfl
    · exact eTup_of (ds := [ni t.2.1, ni t.1, ni t.2.2]) (aCons_of rfl (aCons_of rfl (aCons_of rfl aNil_of))) (by show 3 ≤ 1000000; decide)
    · rw [filt_all]
      unfold turnT
      rw [List.map_map]
      rfl
  have e := byE (a := b) (b := a) (L := turnT a b P) x.b2 x.a2 (by unfold turnT; rw [List.length_map]; omega)
  rw [mx_cong (P := cnt (turnT a b P)) (Q := fun j i => P i j) fun j hj i hi => cnt_turn hi hj] at e
  exact sSet_of (i := 7) (call3 (a := .int b) (b := .int a) (c := .list ((turnT a b P).map enT)) rfl rfl l e)
theorem t6 {a b c : Nat} {P : Nat → Nat → Nat} (x : Bx a b c) (d : List D) (x5 x6 x7 : Sl) : Sg6 (E d (vi a) (vi b) (vi c) (.vl (mx a b P)) x5 x6 x7 .no .no .no .no .no .no .no .no) = .nx (E d (vi a) (vi b) (vi c) (.vl (mx a b P)) x5 x6 x7 (.vl (.list ((everyL a b c).map enT))) .no .no .no .no .no .no .no) := by
  have b2 := x.b2
  have a2 := x.a2
  have zl : eOp oMulT (eTup (aCons (eV 3) (aNil))) (eV 2) (E d (vi a) (vi b) (vi c) (.vl (mx a b P)) x5 x6 x7 .no .no .no .no .no .no .no .no) = .ok (.tuple (lnD b fun _ => ni c)) (E d (vi a) (vi b) (vi c) (.vl (mx a b P)) x5 x6 x7 .no .no .no .no .no .no .no .no) := eOp_of (x := .tuple [ni c]) (y := ni b) rfl rfl (mulT (by omega))
  have zm : eOp oMulT (eTup (aCons (eOp oMulT (eTup (aCons (eV 3) (aNil))) (eV 2)) (aNil))) (eV 1) (E d (vi a) (vi b) (vi c) (.vl (mx a b P)) x5 x6 x7 .no .no .no .no .no .no .no .no) = .ok (mx a b fun _ _ => c) (E d (vi a) (vi b) (vi c) (.vl (mx a b P)) x5 x6 x7 .no .no .no .no .no .no .no .no) := eOp_of (x := .tuple [.tuple (lnD b fun _ => ni c)]) (y := ni a) (eTup_of (ds := [.tuple (lnD b fun _ => ni c)]) (aCons_of zl aNil_of) (by show 1 ≤ 1000000; decide)) rfl (mulT (by omega))
  exact sSet_of (i := 8) (eF_of (s := .ow ((everyL a b c).map enT)) (xCall_of (ds := [mx a b fun _ _ => c]) (aCons_of zm aNil_of) (cubesE (P := fun _ _ => c) x.a2 x.b2 fun _ _ _ _ => x.c2)) rfl)
theorem any_T (t : Tr) : ∀ L : List Tr, ((L.map enT).any fun z => PyData.eqv z (enT t)) = decide (t ∈ L)
  | [] => by simp
  | u :: L => by
    rw [List.map_cons, List.any_cons, any_T t L, eqv_tI]
    obtain ⟨t1, t2, t3⟩ := t
    obtain ⟨u1, u2, u3⟩ := u
    rw [Bool.eq_iff_iff]
    simp only [Bool.or_eq_true, decide_eq_true_eq, List.mem_cons, List.cons.injEq, and_true, Prod.mk.injEq]
    constructor
    · rintro (⟨a, b, c⟩ | h)
      · exact .inl ⟨by omega, by omega, by omega⟩
      · exact .inr h
    · rintro (⟨a, b, c⟩ | h)
      · exact .inl ⟨by omega, by omega, by omega⟩
      · exact .inr h
theorem notIn_T (t : Tr) (L : List Tr) : oNotIn (enT t) (.list (L.map enT)) = some (.bool (!decide (t ∈ L))) := by
  have sh : SeqAt.shaped (.list (L.map enT)) = true := by
    have e : L.map enT = (L.map fun t : Tr => [(t.1 : Int), (t.2.1 : Int), (t.2.2 : Int)]).map tI := by rw [List.map_map]; rfl
    rw [e]
    exact shaped_lIs _
  have e : oInB (enT t) (.list (L.map enT)) = some (decide (t ∈ L)) := by
    show (if (flatD (enT t) && (L.map enT).all flatD) = true then some ((L.map enT).any fun z => PyData.eqv z (enT t)) else if (SeqAt.shaped (enT t) && SeqAt.shaped (.list (L.map enT))) = true then some ((L.map enT).any fun z => PyData.eqv z (enT t)) else none) = _
    rw [if_neg (by rw [show flatD (enT t) = false from rfl]; simp), if_pos (by rw [sh, shaped_tI]; rfl), any_T]
  unfold oNotIn
  rw [e]
  rfl
theorem t7 {a b c : Nat} {P : Nat → Nat → Nat} (x : Bx a b c) (h : PL a b c P) (d : List D) (x5 x7 : Sl) : Sg7 (E d (vi a) (vi b) (vi c) (.vl (mx a b P)) x5 (.vl (.list ((cubesL a b P).map enT))) x7 (.vl (.list ((everyL a b c).map enT))) .no .no .no .no .no .no .no) = .nx (E d (vi a) (vi b) (vi c) (.vl (mx a b P)) x5 (.vl (.list ((cubesL a b P).map enT))) x7 (.vl (.list ((everyL a b c).map enT))) (.vl (mx a b fun i j => c - P (a - 1 - i) (b - 1 - j))) .no .no .no .no .no .no) := by
  have cl : (everyL a b c).length ≤ 64 := cub_len x (P := fun _ _ => c) ⟨fun _ _ _ _ => Nat.le_refl _, fun _ _ _ _ _ => Nat.le_refl _, fun _ _ _ _ _ => Nat.le_refl _⟩
  have l : eF (xLc [16, 17, 18] (iSeq (eV 8)) (gTA 3 (gsC (gN 16) (gsC (gN 17) (gsC (gN 18) (gsN))))) (g__law_right_t4) (g__law_right_e3)) (E d (vi a) (vi b) (vi c) (.vl (mx a b P)) x5 (.vl (.list ((cubesL a b P).map enT))) x7 (.vl (.list ((everyL a b c).map enT))) .no .no .no .no .no .no .no) = .ok (.list ((restT a b c P).map enT)) (E d (vi a) (vi b) (vi c) (.vl (mx a b P)) x5 (.vl (.list ((cubesL a b P).map enT))) x7 (.vl (.list ((everyL a b c).map enT))) .no .no .no .no .no .no .no) := by
    refine eF_of (s := .ow ((restT a b c P).map enT)) (Eq.trans (xLc_map (enc := enT) (p := fun t => !decide (t ∈ cubesL a b P)) (g := fun t => enT (a - 1 - t.1, b - 1 - t.2.1, c - 1 - t.2.2)) (xs := everyL a b c) (r1 := E d (vi a) (vi b) (vi c) (.vl (mx a b P)) x5 (.vl (.list ((cubesL a b P).map enT))) x7 (.vl (.list ((everyL a b c).map enT))) .no .no .no .no .no .no .no) (iSeq_ofL (ds := (everyL a b c).map enT) rfl) (fun t ht => ⟨[.io d, vi a, vi b, vi c, .vl (mx a b P), x5, .vl (.list ((cubesL a b P).map enT)), x7, .vl (.list ((everyL a b c).map enT)), .no, .no, .no, .no, .no, .no, .no, vi t.1, vi t.2.1, vi t.2.2, .no, .no, .no, .no, .no], rfl, ?_, fun _ => ?_, rfl⟩) (by omega)) ?_) rfl
    · exact tB1_of (eOp_of (x := enT t) (y := .list ((cubesL a b P).map enT)) (eTup_of (ds := [ni t.1, ni t.2.1, ni t.2.2]) (aCons_of rfl (aCons_of rfl (aCons_of rfl aNil_of))) (by show 3 ≤ 1000000; decide)) rfl (notIn_T _ _))
    · obtain ⟨m1, m2, m3⟩ := cubes_mem.mp ht
      have s : ∀ {g h : En → R D} {r : En} {n k : Nat}, g r = .ok (ni n) r → h r = .ok (ni k) r → k < n → eOp oSub (eOp oSub g (eC (.int 1))) h r = .ok (ni (n - 1 - k)) r := fun {g h r n k} h1 h2 hk => subE (a := (n : Int) - 1) (b := k) (subE (a := n) (b := 1) h1 eC_of rfl) h2 (by omega)
      exact eTup_of (ds := [ni (a - 1 - t.1), ni (b - 1 - t.2.1), ni (c - 1 - t.2.2)]) (aCons_of (s (g := eV 1) (h := eV 16) rfl rfl m1) (aCons_of (s (g := eV 2) (h := eV 17) rfl rfl m2) (aCons_of (s (g := eV 3) (h := eV 18) rfl rfl m3) aNil_of))) (by show 3 ≤ 1000000; decide)
    · unfold restT
      rw [List.map_map]
      rfl
  have rl : (restT a b c P).length ≤ 64 := by
    unfold restT
    rw [List.length_map]
    exact Nat.le_trans (List.length_filter_le ..) cl
  have e := byE (a := a) (b := b) (L := restT a b c P) x.a2 x.b2 (by omega)
  rw [mx_cong (P := cnt (restT a b c P)) (Q := fun i j => c - P (a - 1 - i) (b - 1 - j)) fun i hi j hj => cnt_rest h.le hi hj] at e
  exact sSet_of (i := 9) (call3 (a := .int a) (b := .int b) (c := .list ((restT a b c P).map enT)) rfl rfl l e)
theorem Bx.flip {a b c : Nat} (x : Bx a b c) : Bx b a c := ⟨x.b1, x.b2, x.a1, x.a2, x.c1, x.c2⟩
theorem le100 {a b c : Nat} {P : Nat → Nat → Nat} (x : Bx a b c) (h : PL a b c P) : ∀ i, i < a → ∀ j, j < b → P i j ≤ 100 := fun i hi j hj => by
  have := small x h i hi j hj
  omega
abbrev RP (a b c : Nat) (P : Nat → Nat → Nat) : Nat → Nat → Nat := fun i j => c - P (a - 1 - i) (b - 1 - j)
theorem t8 {a b c : Nat} {P : Nat → Nat → Nat} (x : Bx a b c) (h : PL a b c P) (d : List D) (x5 x6 x8 : Sl) : Sg8 (E d (vi a) (vi b) (vi c) (.vl (mx a b P)) x5 x6 (.vl (mx b a fun j i => P i j)) x8 (.vl (mx a b (RP a b c P))) .no .no .no .no .no .no) = .nx (E d (vi a) (vi b) (vi c) (.vl (mx a b P)) x5 x6 (.vl (mx b a fun j i => P i j)) x8 (.vl (mx a b (RP a b c P))) .no .no .no .no .no .no) := by
  have rp := repOk_two (a := a) (b := b) (P := fun j i => P i j) (Q := RP a b c P) x.a2 x.b2 (le100 x.flip h.turn) (le100 x h.rest)
  have l : eF (xLst (aCons (eF (xCall f_turned_pile (aCons (eV 1) (aCons (eV 2) (aCons (eV 3) (aCons (eV 4) (aNil))))))) (aCons (eF (xCall f_rest_pile (aCons (eV 1) (aCons (eV 2) (aCons (eV 3) (aCons (eV 4) (aNil))))))) (aNil)))) (E d (vi a) (vi b) (vi c) (.vl (mx a b P)) x5 x6 (.vl (mx b a fun j i => P i j)) x8 (.vl (mx a b (RP a b c P))) .no .no .no .no .no .no) = .ok (.list [mx b a fun j i => P i j, mx a b (RP a b c P)]) (E d (vi a) (vi b) (vi c) (.vl (mx a b P)) x5 x6 (.vl (mx b a fun j i => P i j)) x8 (.vl (mx a b (RP a b c P))) .no .no .no .no .no .no) :=
    eF_of (xLst_of (aCons_of (call4 (a := .int a) (b := .int b) (c := .int c) (d := mx a b P) rfl rfl rfl rfl (turnedE x h)) (aCons_of (call4 (a := .int a) (b := .int b) (c := .int c) (d := mx a b P) rfl rfl rfl rfl (restE x h)) aNil_of)) (by show 2 ≤ 1000000; decide)) rfl
  have l2 : eF (xLst (aCons (eV 7) (aCons (eV 9) (aNil)))) (E d (vi a) (vi b) (vi c) (.vl (mx a b P)) x5 x6 (.vl (mx b a fun j i => P i j)) x8 (.vl (mx a b (RP a b c P))) .no .no .no .no .no .no) = .ok (.list [mx b a fun j i => P i j, mx a b (RP a b c P)]) (E d (vi a) (vi b) (vi c) (.vl (mx a b P)) x5 x6 (.vl (mx b a fun j i => P i j)) x8 (.vl (mx a b (RP a b c P))) .no .no .no .no .no .no) :=
    eF_of (xLst_of (ds := [mx b a fun j i => P i j, mx a b (RP a b c P)]) (aCons_of rfl (aCons_of rfl aNil_of)) (by show 2 ≤ 1000000; decide)) rfl
  exact sIf_f0 (tB1_of (eRep2_of (bb := false) l rp.1 l2 rp.2))
theorem t9 {a b c : Nat} {P : Nat → Nat → Nat} (x : Bx a b c) (h : PL a b c P) (d : List D) (x5 x6 x8 : Sl) : Sg9 (E d (vi a) (vi b) (vi c) (.vl (mx a b P)) x5 x6 (.vl (mx b a fun j i => P i j)) x8 (.vl (mx a b (RP a b c P))) .no .no .no .no .no .no) = .nx (E d (vi a) (vi b) (vi c) (.vl (mx a b P)) x5 x6 (.vl (mx b a fun j i => P i j)) x8 (.vl (mx a b (RP a b c P))) .no .no .no .no .no .no) := by
  have e1 := restE x h.rest
  rw [mx_cong (P := fun i j => c - RP a b c P (a - 1 - i) (b - 1 - j)) (Q := P) fun i hi j hj => by
    have := h.le i hi j hj
    show c - (c - P (a - 1 - (a - 1 - i)) (b - 1 - (b - 1 - j))) = P i j
    rw [show a - 1 - (a - 1 - i) = i by omega, show b - 1 - (b - 1 - j) = j by omega]
    omega] at e1
  have e2 := turnedE x.flip h.turn
  exact sIf_f0 (tOr1_f (tB1_of (eOp_of (x := mx a b P) (y := mx a b P) (call4 (a := .int a) (b := .int b) (c := .int c) (d := mx a b (RP a b c P)) rfl rfl rfl rfl e1) rfl (ne_mx _ _ _))) (tB1_of (eOp_of (x := mx a b P) (y := mx a b P) (call4 (a := .int b) (b := .int a) (c := .int c) (d := mx b a fun j i => P i j) rfl rfl rfl rfl e2) rfl (ne_mx _ _ _))))
theorem t10 {a b c : Nat} {P : Nat → Nat → Nat} (x : Bx a b c) (h : PL a b c P) (d : List D) (x5 x7 x8 : Sl) : Sg10 (E d (vi a) (vi b) (vi c) (.vl (mx a b P)) x5 (.vl (.list ((cubesL a b P).map enT))) x7 x8 (.vl (mx a b (RP a b c P))) .no .no .no .no .no .no) = .nx (E d (vi a) (vi b) (vi c) (.vl (mx a b P)) x5 (.vl (.list ((cubesL a b P).map enT))) x7 x8 (.vl (mx a b (RP a b c P))) .no .no .no .no .no .no) := by
  have a2 := x.a2
  have b2 := x.b2
  have c2 := x.c2
  have l : eF (xLc [19] (iSeq (eV 9)) (gN 19) (tT) (g__law_right_e5)) (E d (vi a) (vi b) (vi c) (.vl (mx a b P)) x5 (.vl (.list ((cubesL a b P).map enT))) x7 x8 (.vl (mx a b (RP a b c P))) .no .no .no .no .no .no) = .ok (.list (lnD a fun i => ni (lnS b (RP a b c P i)))) (E d (vi a) (vi b) (vi c) (.vl (mx a b P)) x5 (.vl (.list ((cubesL a b P).map enT))) x7 x8 (.vl (mx a b (RP a b c P))) .no .no .no .no .no .no) :=
    eF_of (s := .ow (lnD a fun i => ni (lnS b (RP a b c P i)))) (Eq.trans (xLc_map (enc := fun i => PyData.tuple (lnD b fun j => ni (RP a b c P i j))) (p := fun _ => true) (g := fun i => ni (lnS b (RP a b c P i))) (xs := List.range a) (r1 := E d (vi a) (vi b) (vi c) (.vl (mx a b P)) x5 (.vl (.list ((cubesL a b P).map enT))) x7 x8 (.vl (mx a b (RP a b c P))) .no .no .no .no .no .no) (iSeq_of (ds := (List.range a).map fun i => PyData.tuple (lnD b fun j => ni (RP a b c P i j))) rfl) (fun i _ => ⟨[.io d, vi a, vi b, vi c, .vl (mx a b P), x5, .vl (.list ((cubesL a b P).map enT)), x7, x8, .vl (mx a b (RP a b c P)), .no, .no, .no, .no, .no, .no, .no, .no, .no, .vl (.tuple (lnD b fun j => ni (RP a b c P i j))), .no, .no, .no, .no], rfl, rfl, fun _ => sumLn PyData.tuple (fun _ => rfl) rfl, rfl⟩) (by rw [List.length_range]; omega)) (by rw [filt_all])) rfl
  have sm := sumLn PyData.list (fun _ => rfl) l
  have e1 := addE (len6 (a := a) (b := b) (c := c) (P := P) (r := E d (vi a) (vi b) (vi c) (.vl (mx a b P)) x5 (.vl (.list ((cubesL a b P).map enT))) x7 x8 (.vl (mx a b (RP a b c P))) .no .no .no .no .no .no) rfl) sm (c := ((a * (b * c) : Nat) : Int)) (by rw [← rest_sum h]; push_cast; rfl)
  have e2 : eOp oMul (eOp oMul (eV 1) (eV 2)) (eV 3) (E d (vi a) (vi b) (vi c) (.vl (mx a b P)) x5 (.vl (.list ((cubesL a b P).map enT))) x7 x8 (.vl (mx a b (RP a b c P))) .no .no .no .no .no .no) = .ok (.int ((a * (b * c) : Nat) : Int)) (E d (vi a) (vi b) (vi c) (.vl (mx a b P)) x5 (.vl (.list ((cubesL a b P).map enT))) x7 x8 (.vl (mx a b (RP a b c P))) .no .no .no .no .no .no) :=
    mulE (g := eV 3) (a := ((a * b : Nat) : Int)) (b := c) (mulE (f := eV 1) (g := eV 2) (a := a) (b := b) rfl rfl (mulOk_l (by omega) _) (Int.natCast_mul a b).symm) rfl (mulOk_r (by omega) _) (by rw [← Int.natCast_mul, Nat.mul_assoc])
  exact sIf_f0 (tB1_of (eOp_of e1 e2 (ne_same _)))
/-! ### two piles place by place -/
theorem zip_map {n : Nat} (f g : Nat → D) : zipD ((List.range n).map f) ((List.range n).map g) = (List.range n).map fun i => PyData.tuple [f i, g i] := by
  have key : ∀ l : List Nat, zipD (l.map f) (l.map g) = l.map fun i => PyData.tuple [f i, g i] := by
    intro l
    induction l with
    | nil => rfl
    | cons x l ih => rw [List.map_cons, List.map_cons, zipD, ih, List.map_cons]
  exact key _
abbrev prs (a b : Nat) (P Q : Nat → Nat → Nat) : List D := (List.range a).map fun i => PyData.list (lnD b fun j => tI [(P i j : Int), (Q i j : Int)])
theorem t12 {a b c : Nat} {P Q : Nat → Nat → Nat} (x : Bx a b c) (d : List D) (x5 x6 x7 x8 x9 : Sl) : Sg12 (E d (vi a) (vi b) (vi c) (.vl (mx a b P)) x5 x6 x7 x8 x9 (.vl (mx a b Q)) .no .no .no .no .no) = .nx (E d (vi a) (vi b) (vi c) (.vl (mx a b P)) x5 x6 x7 x8 x9 (.vl (mx a b Q)) (.ow (prs a b P Q)) .no .no .no .no) := by
  have a2 := x.a2
  have b2 := x.b2
  have it : iZp (eV 4) (eV 10) (E d (vi a) (vi b) (vi c) (.vl (mx a b P)) x5 x6 x7 x8 x9 (.vl (mx a b Q)) .no .no .no .no .no) = .ok ((List.range a).map fun i => PyData.tuple [.tuple (lnD b fun j => ni (P i j)), .tuple (lnD b fun j => ni (Q i j))]) (E d (vi a) (vi b) (vi c) (.vl (mx a b P)) x5 x6 x7 x8 x9 (.vl (mx a b Q)) .no .no .no .no .no) := by
    rw [← zip_map]
    exact iZp_of (f := eV 4) (g := eV 10) (r1 := E d (vi a) (vi b) (vi c) (.vl (mx a b P)) x5 x6 x7 x8 x9 (.vl (mx a b Q)) .no .no .no .no .no) rfl rfl
  refine sAsgX_of (i := 11) (r1 := E d (vi a) (vi b) (vi c) (.vl (mx a b P)) x5 x6 x7 x8 x9 (.vl (mx a b Q)) .no .no .no .no .no) (Eq.trans (xLc_map (enc := fun i => PyData.tuple [.tuple (lnD b fun j => ni (P i j)), .tuple (lnD b fun j => ni (Q i j))]) (p := fun _ => true) (g := fun i => PyData.list (lnD b fun j => tI [(P i j : Int), (Q i j : Int)])) (xs := List.range a) it (fun i _ => ⟨[.io d, vi a, vi b, vi c, .vl (mx a b P), x5, x6, x7, x8, x9, .vl (mx a b Q), .no, .no, .no, .no, .no, .no, .no, .no, .vl (.tuple (lnD b fun j => ni (P i j))), .vl (.tuple (lnD b fun j => ni (Q i j))), .no, .no, .no], rfl, rfl, fun _ => ?_, rfl⟩) (by rw [List.length_range]; omega)) (by rw [filt_all]))
  have itj : iZp (eV 19) (eV 20) [.io d, vi a, vi b, vi c, .vl (mx a b P), x5, x6, x7, x8, x9, .vl (mx a b Q), .no, .no, .no, .no, .no, .no, .no, .no, .vl (.tuple (lnD b fun j => ni (P i j))), .vl (.tuple (lnD b fun j => ni (Q i j))), .no, .no, .no] = .ok ((List.range b).map fun j => PyData.tuple [ni (P i j), ni (Q i j)]) [.io d, vi a, vi b, vi c, .vl (mx a b P), x5, x6, x7, x8, x9, .vl (mx a b Q), .no, .no, .no, .no, .no, .no, .no, .no, .vl (.tuple (lnD b fun j => ni (P i j))), .vl (.tuple (lnD b fun j => ni (Q i j))), .no, .no, .no] := by
    rw [← zip_map]
    exact iZp_of (f := eV 19) (g := eV 20) (r1 := [.io d, vi a, vi b, vi c, .vl (mx a b P), x5, x6, x7, x8, x9, .vl (mx a b Q), .no, .no, .no, .no, .no, .no, .no, .no, .vl (.tuple (lnD b fun j => ni (P i j))), .vl (.tuple (lnD b fun j => ni (Q i j))), .no, .no, .no]) rfl rfl
  refine eF_of (s := .ow (lnD b fun j => tI [(P i j : Int), (Q i j : Int)])) (Eq.trans (xLc_map (enc := fun j => PyData.tuple [ni (P i j), ni (Q i j)]) (p := fun _ => true) (g := fun j => tI [(P i j : Int), (Q i j : Int)]) (xs := List.range b) itj (fun j _ => ⟨[.io d, vi a, vi b, vi c, .vl (mx a b P), x5, x6, x7, x8, x9, .vl (mx a b Q), .no, .no, .no, .no, .no, .no, .no, .no, .vl (.tuple (lnD b fun j => ni (P i j))), .vl (.tuple (lnD b fun j => ni (Q i j))), vi (P i j), vi (Q i j), .no], rfl, rfl, fun _ => ?_, rfl⟩) (by rw [List.length_range]; omega)) (by rw [filt_all])) rfl
  exact eTup_of (ds := [ni (P i j), ni (Q i j)]) (aCons_of rfl (aCons_of rfl aNil_of)) (by show 2 ≤ 1000000; decide)
theorem isrt_two (x y : Nat) : isrt [(x : Int), (y : Int)] = [((min x y : Nat) : Int), ((max x y : Nat) : Int)] := by
  by_cases h : x ≤ y
  · rw [isrt_of (List.pairwise_cons.mpr ⟨fun z hz => by rw [List.mem_singleton] at hz; omega, List.pairwise_singleton _ _⟩), Nat.min_eq_left h, Nat.max_eq_right h]
  · rw [isrt_eq (List.Perm.swap (y : Int) (x : Int) []), isrt_of (List.pairwise_cons.mpr ⟨fun z hz => by rw [List.mem_singleton] at hz; omega, List.pairwise_singleton _ _⟩), Nat.min_eq_right (by omega), Nat.max_eq_left (by omega)]
def sp (k : Nat) (x y : Nat) : Nat := if k = 0 then min x y else max x y
theorem xCB_of {o : List D → Option (List D)} {fs : En → R (List D)} {r r1 : En} {x ds : List D} (h1 : fs r = .ok x r1) (h3 : o x = some ds) : xCB o fs r = .ok (.ow ds) r1 := by
  unfold xCB
  rw [h1]
  simp only [R.bind, h3]
theorem spotE {a b c k : Nat} {P Q : Nat → Nat → Nat} (x : Bx a b c) (hk : k < 2) (hS : PL a b c fun i j => sp k (P i j) (Q i j)) (d : List D) (x5 x6 x7 x8 x9 x10 x11 x13 : Sl) (h11 : ∀ s12 s13 : Sl, eVF 11 (E d (vi a) (vi b) (vi c) (.vl (mx a b P)) x5 x6 x7 x8 x9 x10 x11 s12 s13 .no .no) = .ok (.list (prs a b P Q)) (E d (vi a) (vi b) (vi c) (.vl (mx a b P)) x5 x6 x7 x8 x9 x10 (.vl (.list (prs a b P Q))) s12 s13 .no .no)) :
    g__law_right_b10 (E d (vi a) (vi b) (vi c) (.vl (mx a b P)) x5 x6 x7 x8 x9 x10 x11 (vi k) x13 .no .no) = .nx (E d (vi a) (vi b) (vi c) (.vl (mx a b P)) x5 x6 x7 x8 x9 x10 (.vl (.list (prs a b P Q))) (vi k) (.vl (mx a b fun i j => sp k (P i j) (Q i j))) .no .no) := by
  have a2 := x.a2
  have b2 := x.b2
  have l : eCB cTup (aCons (eF (xLc [19] (iSeq (eVF 11)) (gN 19) (tT) (g__law_right_e9))) (aNil)) (E d (vi a) (vi b) (vi c) (.vl (mx a b P)) x5 x6 x7 x8 x9 x10 x11 (vi k) x13 .no .no) = .ok (mx a b fun i j => sp k (P i j) (Q i j)) (E d (vi a) (vi b) (vi c) (.vl (mx a b P)) x5 x6 x7 x8 x9 x10 (.vl (.list (prs a b P Q))) (vi k) x13 .no .no) := by
    refine eCB_of (x := [.list ((List.range a).map fun i => PyData.tuple (lnD b fun j => ni (sp k (P i j) (Q i j))))]) (aCons_of (eF_of (s := .ow ((List.range a).map fun i => PyData.tuple (lnD b fun j => ni (sp k (P i j) (Q i j))))) (Eq.trans (xLc_map (enc := fun i => PyData.list (lnD b fun j => tI [(P i j : Int), (Q i j : Int)])) (p := fun _ => true) (g := fun i => PyData.tuple (lnD b fun j => ni (sp k (P i j) (Q i j)))) (xs := List.range a) (r1 := E d (vi a) (vi b) (vi c) (.vl (mx a b P)) x5 x6 x7 x8 x9 x10 (.vl (.list (prs a b P Q))) (vi k) x13 .no .no) (iSeq_ofL (h11 _ _)) (fun i _ => ⟨[.io d, vi a, vi b, vi c, .vl (mx a b P), x5, x6, x7, x8, x9, x10, .vl (.list (prs a b P Q)), vi k, x13, .no, .no, .no, .no, .no, .vl (.list (lnD b fun j => tI [(P i j : Int), (Q i j : Int)])), .no, .no, .no, .no], rfl, rfl, fun _ => ?_, rfl⟩) (by rw [List.length_range]; omega)) (by rw [filt_all])) rfl) aNil_of) rfl
    refine eCB_of (x := [.list (lnD b fun j => ni (sp k (P i j) (Q i j)))]) (aCons_of (eF_of (s := .ow (lnD b fun j => ni (sp k (P i j) (Q i j)))) (Eq.trans (xLc_map (enc := fun j => tI [(P i j : Int), (Q i j : Int)]) (p := fun _ => true) (g := fun j => ni (sp k (P i j) (Q i j))) (xs := List.range b) (r1 := [.io d, vi a, vi b, vi c, .vl (mx a b P), x5, x6, x7, x8, x9, x10, .vl (.list (prs a b P Q)), vi k, x13, .no, .no, .no, .no, .no, .vl (.list (lnD b fun j => tI [(P i j : Int), (Q i j : Int)])), .no, .no, .no, .no]) (iSeq_ofL (ds := lnD b fun j => tI [(P i j : Int), (Q i j : Int)]) rfl) (fun j _ => ⟨[.io d, vi a, vi b, vi c, .vl (mx a b P), x5, x6, x7, x8, x9, x10, .vl (.list (prs a b P Q)), vi k, x13, .no, .no, .no, .no, .no, .vl (.list (lnD b fun j => tI [(P i j : Int), (Q i j : Int)])), .no, .no, .no, .vl (tI [(P i j : Int), (Q i j : Int)])], rfl, rfl, fun _ => ?_, rfl⟩) (by rw [List.length_range]; omega)) (by rw [filt_all])) rfl) aNil_of) rfl
    have s := nSrtA_T [(P i j : Int), (Q i j : Int)]
    rw [isrt_two] at s
    refine eOp_of (x := .list [ni (min (P i j) (Q i j)), ni (max (P i j) (Q i j))]) (y := ni k) (eF_of (s := .ow [ni (min (P i j) (Q i j)), ni (max (P i j) (Q i j))]) (xCB_of (o := nSrtA) (x := [tI [(P i j : Int), (Q i j : Int)]]) (aCons_of rfl aNil_of) s) rfl) rfl ?_
    have hk' : k = 0 ∨ k = 1 := by omega
    rcases hk' with e | e <;> subst e <;> rfl
  have p := hS.inP x
  have q := isP x p
  exact Eq.trans (sSeq_of (sSet_of (i := 13) l)) (sIf_f0 (tB1_of (eOp_of (x := .bool true) (y := .bool true) (call4 (a := .int a) (b := .int b) (c := .int c) (d := mx a b fun i j => sp k (P i j) (Q i j)) rfl rfl rfl rfl q) eC_of rfl)))
theorem t13 {a b c : Nat} {P Q : Nat → Nat → Nat} (x : Bx a b c) (h : PL a b c P) (g : PL a b c Q) (d : List D) (x5 x6 x7 x8 x9 x10 : Sl) : ∃ x13 : Sl, noIo x13 = true ∧ Sg13 (E d (vi a) (vi b) (vi c) (.vl (mx a b P)) x5 x6 x7 x8 x9 x10 (.ow (prs a b P Q)) .no .no .no .no) = .nx (E d (vi a) (vi b) (vi c) (.vl (mx a b P)) x5 x6 x7 x8 x9 x10 (.vl (.list (prs a b P Q))) (vi 1) x13 .no .no) := by
  have it : iSeq (eTup (aCons (eC (.int 0)) (aCons (eC (.int 1)) (aNil)))) (E d (vi a) (vi b) (vi c) (.vl (mx a b P)) x5 x6 x7 x8 x9 x10 (.ow (prs a b P Q)) .no .no .no .no) = .ok [ni 0, ni 1] (E d (vi a) (vi b) (vi c) (.vl (mx a b P)) x5 x6 x7 x8 x9 x10 (.ow (prs a b P Q)) .no .no .no .no) := iSeq_of rfl
  have s0 := spotE (k := 0) x (by decide) (h.min g) d x5 x6 x7 x8 x9 x10 (.ow (prs a b P Q)) .no (fun _ _ => eVF_ow (ds := prs a b P Q) rfl)
  have s1 := spotE (k := 1) x (by decide) (h.max g) d x5 x6 x7 x8 x9 x10 (.vl (.list (prs a b P Q))) (.vl (mx a b fun i j => sp 0 (P i j) (Q i j))) (fun _ _ => rfl)
  exact ⟨_, rfl, Eq.trans (sFor_of it) (forD_two (r1 := E d (vi a) (vi b) (vi c) (.vl (mx a b P)) x5 x6 x7 x8 x9 x10 (.ow (prs a b P Q)) (vi 0) .no .no .no) (r3 := E d (vi a) (vi b) (vi c) (.vl (mx a b P)) x5 x6 x7 x8 x9 x10 (.vl (.list (prs a b P Q))) (vi 1) (.vl (mx a b fun i j => sp 0 (P i j) (Q i j))) .no .no) rfl s0 rfl s1)⟩
/-! ### led round -/
theorem t15 {a : Nat} {S : Nat → Nat → Nat} (x : Bx a a a) (h : PL a a a S) (d : List D) (x2 x3 x4 x5 x6 x7 x8 x9 x10 x11 x12 x13 : Sl) : Sg15 (E d (vi a) x2 x3 x4 x5 x6 x7 x8 x9 x10 x11 x12 x13 (.vl (mx a a S)) .no) = .nx (E d (vi a) x2 x3 x4 x5 x6 x7 x8 x9 x10 x11 x12 x13 (.vl (mx a a S)) (.vl (mx a a (led a S)))) := by
  have cl := cub_len x h
  have c0 : eF (xCall f__law_cubes (aCons (eV 14) (aNil))) (E d (vi a) x2 x3 x4 x5 x6 x7 x8 x9 x10 x11 x12 x13 (.vl (mx a a S)) .no) = .ok (.list ((cubesL a a S).map enT)) (E d (vi a) x2 x3 x4 x5 x6 x7 x8 x9 x10 x11 x12 x13 (.vl (mx a a S)) .no) := eF_of (s := .ow ((cubesL a a S).map enT)) (xCall_of (ds := [mx a a S]) (aCons_of rfl aNil_of) (cubesE x.a2 x.a2 (small x h))) rfl
  have l : eF (xLc [16, 17, 18] (iSeq (eF (xCall f__law_cubes (aCons (eV 14) (aNil))))) (gTA 3 (gsC (gN 16) (gsC (gN 17) (gsC (gN 18) (gsN))))) (tT) (g__law_right_e11)) (E d (vi a) x2 x3 x4 x5 x6 x7 x8 x9 x10 x11 x12 x13 (.vl (mx a a S)) .no) = .ok (.list ((roundT a S).map enT)) (E d (vi a) x2 x3 x4 x5 x6 x7 x8 x9 x10 x11 x12 x13 (.vl (mx a a S)) .no) := by
    refine eF_of (s := .ow ((roundT a S).map enT)) (Eq.trans (xLc_map (enc := enT) (p := fun _ => true) (g := fun t => enT (t.2.1, t.2.2, t.1)) (xs := cubesL a a S) (iSeq_ofL c0) (fun t _ => ⟨[.io d, vi a, x2, x3, x4, x5, x6, x7, x8, x9, x10, x11, x12, x13, .vl (mx a a S), .no, vi t.1, vi t.2.1, vi t.2.2, .no, .no, .no, .no, .no], rfl, rfl, fun _ => ?_, rfl⟩) (by omega)) ?_) rfl
    · exact eTup_of (ds := [ni t.2.1, ni t.2.2, ni t.1]) (aCons_of rfl (aCons_of rfl (aCons_of rfl aNil_of))) (by show 3 ≤ 1000000; decide)
    · rw [filt_all]
      unfold roundT
      rw [List.map_map]
      rfl
  have e := byE (a := a) (b := a) (L := roundT a S) x.a2 x.a2 (by unfold roundT; rw [List.length_map]; omega)
  rw [mx_cong (P := cnt (roundT a S)) (Q := led a S) fun j hj k hk => cnt_round hj hk] at e
  exact sSet_of (i := 15) (call3 (a := .int a) (b := .int a) (c := .list ((roundT a S).map enT)) rfl rfl l e)
theorem t16 {a : Nat} {S : Nat → Nat → Nat} (x : Bx a a a) (h : PL a a a S) (d : List D) (x2 x3 x4 x5 x6 x7 x8 x9 x10 x11 x12 x13 : Sl) : Sg16 (E d (vi a) x2 x3 x4 x5 x6 x7 x8 x9 x10 x11 x12 x13 (.vl (mx a a S)) (.vl (mx a a (led a S)))) = .nx (E d (vi a) x2 x3 x4 x5 x6 x7 x8 x9 x10 x11 x12 x13 (.vl (mx a a S)) (.vl (mx a a (led a S)))) :=
  sIf_f0 (tB1_of (eRep2_of (bb := false) (x := mx a a (led a S)) (call2 (a := .int a) (b := mx a a S) rfl rfl (roundE x h)) (repOk_mx x.a2 x.a2 (le100 x h.led)) rfl (sam_mx _ _ _)))
theorem t17 {a : Nat} {S : Nat → Nat → Nat} (x : Bx a a a) (h : PL a a a S) (d : List D) (x2 x3 x4 x5 x6 x7 x8 x9 x10 x11 x12 x13 : Sl) : Sg17 (E d (vi a) x2 x3 x4 x5 x6 x7 x8 x9 x10 x11 x12 x13 (.vl (mx a a S)) (.vl (mx a a (led a S)))) = .rt (.vl (.bool true)) (E d (vi a) x2 x3 x4 x5 x6 x7 x8 x9 x10 x11 x12 x13 (.vl (mx a a S)) (.vl (mx a a (led a S)))) := by
  have r1 := roundE x h.led
  have r2 := roundE x h.led.led
  rw [mx_cong (P := led a (led a (led a S))) (Q := S) fun i hi j hj => led3 h hi hj] at r2
  have c1 : eF (xCall f_round_pile (aCons (eV 1) (aCons (eV 15) (aNil)))) (E d (vi a) x2 x3 x4 x5 x6 x7 x8 x9 x10 x11 x12 x13 (.vl (mx a a S)) (.vl (mx a a (led a S)))) = .ok (mx a a (led a (led a S))) (E d (vi a) x2 x3 x4 x5 x6 x7 x8 x9 x10 x11 x12 x13 (.vl (mx a a S)) (.vl (mx a a (led a S)))) := call2 (a := .int a) (b := mx a a (led a S)) rfl rfl r1
  exact sRet_of (eOp_of (x := mx a a S) (y := mx a a S) (call2 (a := .int a) (b := mx a a (led a (led a S))) rfl c1 r2) rfl (eq_mx _ _ _))
theorem right (ds : List D) (hd : IsDice ds) : ∃ ds', f__law_right [.io ds] = .rt (.vl (.bool true)) (some ds') ∧ IsDice ds' := by
  obtain ⟨a, d1, w1, a0, a1, k1⟩ := rollG (f := eC (.int 4)) (n := 4) (r := E ds .no .no .no .no .no .no .no .no .no .no .no .no .no .no .no) (r1 := E ds .no .no .no .no .no .no .no .no .no .no .no .no .no .no .no) hd rfl rfl eC_of (by decide) (by decide)
  obtain ⟨a, rfl⟩ : ∃ m : Nat, a = m := ⟨a.toNat, by omega⟩
  obtain ⟨b, d2, w2, b0, b1, k2⟩ := rollG (f := eC (.int 4)) (n := 4) (r := E d1 .no .no .no .no .no .no .no .no .no .no .no .no .no .no .no) (r1 := E d1 .no .no .no .no .no .no .no .no .no .no .no .no .no .no .no) k1 rfl rfl eC_of (by decide) (by decide)
  obtain ⟨b, rfl⟩ : ∃ m : Nat, b = m := ⟨b.toNat, by omega⟩
  obtain ⟨c, d3, w3, c0, c1, k3⟩ := rollG (f := eC (.int 4)) (n := 4) (r := E d2 .no .no .no .no .no .no .no .no .no .no .no .no .no .no .no) (r1 := E d2 .no .no .no .no .no .no .no .no .no .no .no .no .no .no .no) k2 rfl rfl eC_of (by decide) (by decide)
  obtain ⟨c, rfl⟩ : ∃ m : Nat, c = m := ⟨c.toNat, by omega⟩
  have x : Bx (1 + a) (1 + b) (1 + c) := ⟨by omega, by omega, by omega, by omega, by omega, by omega⟩
  have xa : Bx (1 + a) (1 + a) (1 + a) := ⟨by omega, by omega, by omega, by omega, by omega, by omega⟩
  have e0 : Sg0 (E ds .no .no .no .no .no .no .no .no .no .no .no .no .no .no .no) = .nx (E d3 (vi (1 + a)) (vi (1 + b)) (vi (1 + c)) .no .no .no .no .no .no .no .no .no .no .no .no) := by
    refine sPars_of (is := [1, 2, 3]) (ss := [vi (1 + a), vi (1 + b), vi (1 + c)]) (r1 := E d3 .no .no .no .no .no .no .no .no .no .no .no .no .no .no .no) (yCons_of (xV_of (eOp_of (x := .int 1) eC_of w1 ?_)) (yCons_of (xV_of (eOp_of (x := .int 1) eC_of w2 ?_)) (yCons_of (xV_of (eOp_of (x := .int 1) eC_of w3 ?_)) yNil_of))) rfl
    · rw [Int.natCast_add]; rfl
    · rw [Int.natCast_add]; rfl
    · rw [Int.natCast_add]; rfl
  generalize 1 + a = a at *
  generalize 1 + b = b at *
  generalize 1 + c = c at *
  obtain ⟨d4, P, w4, k4, h⟩ := pileE x d3 k3
  have e1 : Sg1 (E d3 (vi a) (vi b) (vi c) .no .no .no .no .no .no .no .no .no .no .no .no) = .nx (E d4 (vi a) (vi b) (vi c) (.vl (mx a b P)) .no .no .no .no .no .no .no .no .no .no .no) :=
    sSet_of (i := 4) (eF_of (xCallI_of (i := 0) (r := E d3 (vi a) (vi b) (vi c) .no .no .no .no .no .no .no .no .no .no .no .no) (r1 := E d3 (vi a) (vi b) (vi c) .no .no .no .no .no .no .no .no .no .no .no .no) (ds := [.int a, .int b, .int c]) (s0 := .io d3) (xs := d3) rfl (aCons_of rfl (aCons_of rfl (aCons_of rfl aNil_of))) rfl rfl w4) rfl)
  obtain ⟨d5, x5, e2, k5, n5⟩ := t2 (P := P) x d4 k4
  have e3 := t3 x h d5 x5
  have e4 := t4 x h d5 x5
  have e5 := t5 x h d5 x5
  have e6 := t6 (P := P) x d5 x5 (.vl (.list ((cubesL a b P).map enT))) (.vl (mx b a fun j i => P i j))
  have e7 := t7 x h d5 x5 (.vl (mx b a fun j i => P i j))
  have e8 := t8 x h d5 x5 (.vl (.list ((cubesL a b P).map enT))) (.vl (.list ((everyL a b c).map enT)))
  have e9 := t9 x h d5 x5 (.vl (.list ((cubesL a b P).map enT))) (.vl (.list ((everyL a b c).map enT)))
  have e10 := t10 x h d5 x5 (.vl (mx b a fun j i => P i j)) (.vl (.list ((everyL a b c).map enT)))
  generalize Sl.vl (.list ((cubesL a b P).map enT)) = q6 at *
  generalize Sl.vl (mx b a fun j i => P i j) = q7 at *
  generalize Sl.vl (.list ((everyL a b c).map enT)) = q8 at *
  generalize hq9 : Sl.vl (mx a b (RP a b c P)) = q9 at *
  obtain ⟨d6, Q, w6, k6, g⟩ := pileE x d5 k5
  have e11 : Sg11 (E d5 (vi a) (vi b) (vi c) (.vl (mx a b P)) x5 q6 q7 q8 q9 .no .no .no .no .no .no) = .nx (E d6 (vi a) (vi b) (vi c) (.vl (mx a b P)) x5 q6 q7 q8 q9 (.vl (mx a b Q)) .no .no .no .no .no) :=
    sSet_of (i := 10) (eF_of (xCallI_of (i := 0) (r := E d5 (vi a) (vi b) (vi c) (.vl (mx a b P)) x5 q6 q7 q8 q9 .no .no .no .no .no .no) (r1 := E d5 (vi a) (vi b) (vi c) (.vl (mx a b P)) x5 q6 q7 q8 q9 .no .no .no .no .no .no) (ds := [.int a, .int b, .int c]) (s0 := .io d5) (xs := d5) rfl (aCons_of rfl (aCons_of rfl (aCons_of rfl aNil_of))) rfl rfl w6) rfl)
  have e12 := t12 (P := P) (Q := Q) x d6 x5 q6 q7 q8 q9
  obtain ⟨x13, n13, e13⟩ := t13 x h g d6 x5 q6 q7 q8 q9 (.vl (mx a b Q))
  obtain ⟨d7, S, w7, k7, hS⟩ := pileE xa d6 k6
  generalize Sl.vl (mx a b P) = q4 at *
  generalize Sl.vl (mx a b Q) = q10 at *
  generalize Sl.vl (.list (prs a b P Q)) = q11 at *
  have e14 : Sg14 (E d6 (vi a) (vi b) (vi c) q4 x5 q6 q7 q8 q9 q10 q11 (vi 1) x13 .no .no) = .nx (E d7 (vi a) (vi b) (vi c) q4 x5 q6 q7 q8 q9 q10 q11 (vi 1) x13 (.vl (mx a a S)) .no) :=
    sSet_of (i := 14) (eF_of (xCallI_of (i := 0) (r := E d6 (vi a) (vi b) (vi c) q4 x5 q6 q7 q8 q9 q10 q11 (vi 1) x13 .no .no) (r1 := E d6 (vi a) (vi b) (vi c) q4 x5 q6 q7 q8 q9 q10 q11 (vi 1) x13 .no .no) (ds := [.int a, .int a, .int a]) (s0 := .io d6) (xs := d6) rfl (aCons_of rfl (aCons_of rfl (aCons_of rfl aNil_of))) rfl rfl w7) rfl)
  have e15 := t15 xa hS d7 (vi b) (vi c) q4 x5 q6 q7 q8 q9 q10 q11 (vi 1) x13
  have e16 := t16 xa hS d7 (vi b) (vi c) q4 x5 q6 q7 q8 q9 q10 q11 (vi 1) x13
  have e17 := t17 xa hS d7 (vi b) (vi c) q4 x5 q6 q7 q8 q9 q10 q11 (vi 1) x13
  exact ⟨d7, runF_rt (r := E d7 (vi a) (vi b) (vi c) q4 x5 q6 q7 q8 q9 q10 q11 (vi 1) x13 (.vl (mx a a S)) (.vl (mx a a (led a S)))) rfl (Eq.trans (congrFun right_is _) (Eq.trans (sSeq_of e0) (Eq.trans (sSeq_of e1) (Eq.trans (sSeq_of e2) (Eq.trans (sSeq_of e3) (Eq.trans (sSeq_of e4) (Eq.trans (sSeq_of e5) (Eq.trans (sSeq_of e6) (Eq.trans (sSeq_of e7) (Eq.trans (sSeq_of e8) (Eq.trans (sSeq_of e9) (Eq.trans (sSeq_of e10) (Eq.trans (sSeq_of e11) (Eq.trans (sSeq_of e12) (Eq.trans (sSeq_of e13) (Eq.trans (sSeq_of e14) (Eq.trans (sSeq_of e15) (Eq.trans (sSeq_of e16) e17)))))))))))))))))) rfl rfl, k7⟩
end K62
set_option maxHeartbeats 400000
/-! K62l: law k62, at every script, by mklaw.py -/
namespace K62
open PySem L2 DL
def rest : En → Fl := sSeq (sAsgX (xLst (aCons (eF (xCall f_turned_pile (aCons (eC (.int 1)) (aCons (eC (.int 2)) (aCons (eC (.int 2)) (aCons (eTup (aCons (eTup (aCons (eC (.int 2)) (aCons (eC (.int 1)) (aNil)))) (aNil))) (aNil))))))) (aCons (eF (xCall f_rest_pile (aCons (eC (.int 1)) (aCons (eC (.int 2)) (aCons (eC (.int 2)) (aCons (eTup (aCons (eTup (aCons (eC (.int 2)) (aCons (eC (.int 1)) (aNil)))) (aNil))) (aNil))))))) (aCons (eF (xCall f_is_pile (aCons (eC (.int 1)) (aCons (eC (.int 2)) (aCons (eC (.int 2)) (aCons (eTup (aCons (eTup (aCons (eC (.int 1)) (aCons (eC (.int 2)) (aNil)))) (aNil))) (aNil))))))) (aNil))))) 4) (sSeq (sAsgX (xOp nCat (eVF 4) (eF (xLst (aCons (eF (xCall f_round_pile (aCons (eC (.int 2)) (aCons (eTup (aCons (eTup (aCons (eC (.int 2)) (aCons (eC (.int 0)) (aNil)))) (aCons (eTup (aCons (eC (.int 0)) (aCons (eC (.int 0)) (aNil)))) (aNil)))) (aNil))))) (aCons (eF (xCall f_round_pile (aCons (eC (.int 2)) (aCons (eTup (aCons (eTup (aCons (eC (.int 1)) (aCons (eC (.int 1)) (aNil)))) (aCons (eTup (aCons (eC (.int 1)) (aCons (eC (.int 0)) (aNil)))) (aNil)))) (aNil))))) (aCons (eF (xCall f_rest_pile (aCons (eC (.int 2)) (aCons (eC (.int 1)) (aCons (eC (.int 3)) (aCons (eTup (aCons (eTup (aCons (eC (.int 3)) (aNil))) (aCons (eTup (aCons (eC (.int 0)) (aNil))) (aNil)))) (aNil))))))) (aNil))))))) 4) (sSeq (sApp 4 (eF (xCall f_pile_size (aCons (eC (.int 2)) (aCons (eC (.int 2)) (aCons (eC (.int 2)) (aCons (eTup (aCons (eTup (aCons (eC (.int 2)) (aCons (eC (.int 1)) (aNil)))) (aCons (eTup (aCons (eC (.int 1)) (aCons (eC (.int 0)) (aNil)))) (aNil)))) (aNil)))))))) (sSeq (sAsgX (xLst (aCons (eTup (aCons (eTup (aCons (eC (.int 2)) (aNil))) (aCons (eTup (aCons (eC (.int 1)) (aNil))) (aNil)))) (aCons (eTup (aCons (eTup (aCons (eC (.int 1)) (aCons (eC (.int 0)) (aNil)))) (aNil))) (aCons (eC (.bool false)) (aCons (eTup (aCons (eTup (aCons (eC (.int 1)) (aCons (eC (.int 1)) (aNil)))) (aCons (eTup (aCons (eC (.int 0)) (aCons (eC (.int 0)) (aNil)))) (aNil)))) (aCons (eTup (aCons (eTup (aCons (eC (.int 2)) (aCons (eC (.int 0)) (aNil)))) (aCons (eTup (aCons (eC (.int 1)) (aCons (eC (.int 0)) (aNil)))) (aNil)))) (aCons (eTup (aCons (eTup (aCons (eC (.int 3)) (aNil))) (aCons (eTup (aCons (eC (.int 0)) (aNil))) (aNil)))) (aCons (eC (.int 4)) (aNil))))))))) 5) (sRet (eAnd (eOp oEq (eVF 4) (eVF 5)) (eOp oIsB (eF (xCall f_is_pile (aCons (eC (.int 12)) (aCons (eC (.int 12)) (aCons (eC (.int 12)) (aCons (eOp oMulT (eTup (aCons (eOp oMulT (eTup (aCons (eC (.int 12)) (aNil))) (eC (.int 12))) (aNil))) (eC (.int 12))) (aNil))))))) (eC (.bool true))))))))
theorem rest_ok (xs : List D) (s1 s2 s3 : Sl) : rest (.fr xs :: s1 :: s2 :: s3 :: [.no, .no]) = .rt (.vl (.bool true)) (.fr xs :: s1 :: s2 :: s3 :: [.vl (.list [.tuple [.tuple [.int 2], .tuple [.int 1]], .tuple [.tuple [.int 1, .int 0]], .bool false, .tuple [.tuple [.int 1, .int 1], .tuple [.int 0, .int 0]], .tuple [.tuple [.int 2, .int 0], .tuple [.int 1, .int 0]], .tuple [.tuple [.int 3], .tuple [.int 0]], .int 4]), .vl (.list [.tuple [.tuple [.int 2], .tuple [.int 1]], .tuple [.tuple [.int 1, .int 0]], .bool false, .tuple [.tuple [.int 1, .int 1], .tuple [.int 0, .int 0]], .tuple [.tuple [.int 2, .int 0], .tuple [.int 1, .int 0]], .tuple [.tuple [.int 3], .tuple [.int 0]], .int 4])]) := by kernel_rfl
theorem law (ns : List Int) (hn : ns.length ≤ 63) : f_law [.fr (ns.map .int)] = .rt (.vl (.bool true)) none :=
  frameT (K := 5) (T := 5) (n := 6) (more := [.no, .no]) (b1 := g_law_b1) (b2 := g_law_b2) (rest := rest) ⟨by decide, by decide⟩ ⟨by decide, by decide⟩ (fun f0 s1 s3 ds hd => frame1 right f0 s1 s3 ds hd) rfl rfl rfl (fun xs s1 s2 s3 => ⟨_, rfl, rest_ok xs s1 s2 s3⟩) ns
end K62
theorem PySem.Challenge.cw_hookwide_k62_whole_piles_holds : PySem.Challenge.rw_hookwide_k62_whole_piles.Holds :=
  K62_of K62.law
