import PyProof.Rows.All
import Wide.All
import OpenK.AllK
import Wide.FinOn
import HandS.ForMost
import HandS.Exc
import HandS.Lambda
import HandS.Zip
import HandS.Wide
import HandS.Walk
import HandS.ForExc
import HandS.Conv
import HandS.TupAny
import HandS.RaiseMore
import HandS.Style
import HandS.Flow
import HandS.IsInst
import HandS.Defaults
import HandS.WideMore
import HandS.Deep
import HandS.Ends
import HandS.Head0
import HandS.Head1
import HandS.Head2
import HandS.HeadEnd
import HandS.HeadHook1
import HandS.HeadHook2
import PySem.Challenge.RW_hookwide_k47_whole_pentagons_and_divisor
set_option Elab.async false
set_option linter.all false
set_option maxRecDepth 100000
set_option maxHeartbeats 4000000
/-! DLa: data in place of the heap. A def's names hold data (PyData), frozen ones or own lists; readings of the hand layer that say just this. -/
namespace DL
open PySem L2

abbrev D := PyData
/-- what a name holds: nothing known; data that no one changes; a list that is read alone; an own list; the list handed in; an own dict -/
inductive Sl where
  | no
  | vl (d : D)
  | fr (ds : List D)
  | ow (ds : List D)
  | io (ds : List D)
  | od (kvs : List (D × D))
def Sl.mine : Sl → Bool
  | .ow _ => true
  | .io _ => true
  | .od _ => true
  | _ => false
abbrev En := List Sl

inductive R (α : Type) where
  | ok (a : α) (r : En)
  | ex (c : Nat) (d : Option D) (r : En)
  | st
def R.bind {α β : Type} (x : R α) (k : α → En → R β) : R β := match x with
  | .ok a r => k a r
  | .ex c d r => .ex c d r
  | .st => .st
inductive Fl where
  | nx (r : En)
  | rt (s : Sl) (r : En)
  | bk (r : En)
  | ct (r : En)
  | ex (c : Nat) (d : Option D) (r : En)
  | st

structure Gm where
  K : PySem.W.Frag
  T : List (Addr × Str)
  fns : Nat → Option Addr
  exc : Nat → Option (Value × Option Str)
  pd : Addr

def kD : Key → D
  | .inl i => .int i
  | .inr x => .str x
def kT (l : List Key) : D := .tuple (l.map kD)
/-- a def as data -/
abbrev fnD (k : Nat) : D := .dict [(.none, .int k)]

mutual
inductive RpI (K : PySem.W.Frag) (fns : Nat → Option Addr) (F : Hp) : V → D → Prop
  | non : RpI K fns F .non .none
  | bl (b : Bool) : RpI K fns F (.bl b) (.bool b)
  | int (i : Int) : RpI K fns F (.int i) (.int i)
  | str (x : Str) : RpI K fns F (.str x) (.str x)
  | lst {a : Addr} {xs : List V} {ds : List D} : F a = some (.lst xs) → RpLI K fns F xs ds → RpI K fns F (.ref a) (.list ds)
  | tup {a : Addr} {xs : List V} {ds : List D} : SqT K F a xs → RpLI K fns F xs ds → RpI K fns F (.ref a) (.tuple ds)
  | dct {a : Addr} {kvs : List (Key × V)} {ds : List D} : F a = some (.dK kvs) → RpLI K fns F (kvs.map (·.2)) ds → RpI K fns F (.ref a) (.dict ((kvs.map fun p => kD p.1).zip ds))
  | dcT {a : Addr} {kvs : List (List Key × V)} {ds : List D} : F a = some (.dT kvs) → RpLI K fns F (kvs.map (·.2)) ds → RpI K fns F (.ref a) (.dict ((kvs.map fun p => kT p.1).zip ds))
  | fn {a : Addr} {k : Nat} : fns k = some a → RpI K fns F (.ref a) (fnD k)
inductive RpLI (K : PySem.W.Frag) (fns : Nat → Option Addr) (F : Hp) : List V → List D → Prop
  | nil : RpLI K fns F [] []
  | cons {v : V} {vs : List V} {d : D} {ds : List D} : RpI K fns F v d → RpLI K fns F vs ds → RpLI K fns F (v :: vs) (d :: ds)
end
abbrev Rp (G : Gm) (F : Hp) (v : V) (d : D) : Prop := RpI G.K G.fns F v d
abbrev RpL (G : Gm) (F : Hp) (vs : List V) (ds : List D) : Prop := RpLI G.K G.fns F vs ds

def Sub (F H : Hp) : Prop := ∀ a o, F a = some o → H a = some o
theorem Sub.refl (F : Hp) : Sub F F := fun _ _ h => h
theorem Sub.trans {F G H : Hp} (a : Sub F G) (b : Sub G H) : Sub F H := fun x o h => b x o (a x o h)
theorem Sub.rd {F H : Hp} {a : Addr} {u : HO} (e : Sub F H) (h : Rd F a u) : Rd H a u := by
  rcases h with h | ⟨o, h⟩
  · exact .inl (e a _ h)
  · exact .inr ⟨o, e a _ h⟩
theorem Sub.l {K : PySem.W.Frag} {F H : Hp} {a : Addr} {xs : List V} (e : Sub F H) (h : SqL K F a xs) : SqL K H a xs := by
  rcases h with h | h
  · exact .inl (e.rd h)
  · exact .inr h
theorem Sub.t {K : PySem.W.Frag} {F H : Hp} {a : Addr} {xs : List V} (e : Sub F H) (h : SqT K F a xs) : SqT K H a xs := by
  rcases h with h | h
  · exact .inl (e.rd h)
  · exact .inr h
mutual
theorem RpI.mono {K : PySem.W.Frag} {fns : Nat → Option Addr} {F H : Hp} (e : Sub F H) : ∀ {v : V} {d : D}, RpI K fns F v d → RpI K fns H v d
  | _, _, .non => .non
  | _, _, .bl b => .bl b
  | _, _, .int i => .int i
  | _, _, .str x => .str x
  | _, _, .lst h hs => .lst (e _ _ h) (RpLI.mono e hs)
  | _, _, .tup h hs => .tup (e.t h) (RpLI.mono e hs)
  | _, _, .dct h hs => .dct (e _ _ h) (RpLI.mono e hs)
  | _, _, .dcT h hs => .dcT (e _ _ h) (RpLI.mono e hs)
  | _, _, .fn h => .fn h
theorem RpLI.mono {K : PySem.W.Frag} {fns : Nat → Option Addr} {F H : Hp} (e : Sub F H) : ∀ {vs : List V} {ds : List D}, RpLI K fns F vs ds → RpLI K fns H vs ds
  | _, _, .nil => .nil
  | _, _, .cons h hs => .cons (RpI.mono e h) (RpLI.mono e hs)
end
section
variable {K : PySem.W.Frag} {fns : Nat → Option Addr} {F : Hp}
theorem RpLI.len : ∀ {vs : List V} {ds : List D}, RpLI K fns F vs ds → vs.length = ds.length
  | _, _, .nil => rfl
  | _, _, .cons _ t => congrArg (· + 1) (RpLI.len t)
theorem RpLI.get : ∀ {vs : List V} {ds : List D} {i : Nat} {d : D}, RpLI K fns F vs ds → ds[i]? = some d → ∃ v, vs[i]? = some v ∧ RpI K fns F v d
  | _, _, _, _, .nil, e => by simp at e
  | _, _, 0, d, .cons h _, e => by simp at e; subst e; exact ⟨_, rfl, h⟩
  | _, _, i + 1, d, .cons _ t, e => by
    obtain ⟨v, h1, h2⟩ := RpLI.get (i := i) (d := d) t (by simpa using e)
    exact ⟨v, by simpa using h1, h2⟩
theorem RpLI.getV : ∀ {vs : List V} {ds : List D} {i : Nat} {v : V}, RpLI K fns F vs ds → vs[i]? = some v → ∃ d, ds[i]? = some d ∧ RpI K fns F v d
  | _, _, _, _, .nil, e => by simp at e
  | _, _, 0, d, .cons h _, e => by simp at e; subst e; exact ⟨_, rfl, h⟩
  | _, _, i + 1, d, .cons _ t, e => by
    obtain ⟨v, h1, h2⟩ := RpLI.getV (i := i) (v := d) t (by simpa using e)
    exact ⟨v, by simpa using h1, h2⟩
theorem RpLI.set {v : V} {d : D} (h : RpI K fns F v d) : ∀ {vs : List V} {ds : List D} (i : Nat), RpLI K fns F vs ds → RpLI K fns F (vs.set i v) (ds.set i d)
  | _, _, _, .nil => .nil
  | _, _, 0, .cons _ t => .cons h t
  | _, _, i + 1, .cons q t => .cons q (RpLI.set h i t)
theorem RpLI.append : ∀ {vs ws : List V} {ds es : List D}, RpLI K fns F vs ds → RpLI K fns F ws es → RpLI K fns F (vs ++ ws) (ds ++ es)
  | _, _, _, _, .nil, s => s
  | _, _, _, _, .cons r t, s => .cons r (RpLI.append t s)
theorem RpLI.take : ∀ {vs : List V} {ds : List D} (n : Nat), RpLI K fns F vs ds → RpLI K fns F (vs.take n) (ds.take n)
  | _, _, 0, _ => .nil
  | _, _, _ + 1, .nil => .nil
  | _, _, n + 1, .cons r t => .cons r (RpLI.take n t)
theorem RpLI.drop : ∀ {vs : List V} {ds : List D} (n : Nat), RpLI K fns F vs ds → RpLI K fns F (vs.drop n) (ds.drop n)
  | _, _, 0, r => r
  | _, _, _ + 1, .nil => .nil
  | _, _, n + 1, .cons _ t => RpLI.drop n t
theorem RpLI.rev : ∀ {vs : List V} {ds : List D}, RpLI K fns F vs ds → RpLI K fns F vs.reverse ds.reverse
  | _, _, .nil => .nil
  | _, _, .cons r t => by
    rw [List.reverse_cons, List.reverse_cons]
    exact (RpLI.rev t).append (.cons r .nil)
theorem RpLI.ints : ∀ (ns : List Int), RpLI K fns F (ns.map V.int) (ns.map PyData.int)
  | [] => .nil
  | n :: r => .cons (.int n) (RpLI.ints r)
end

/-! ### how the tracked part goes on: F what is frozen, O the addresses that may change -/
structure Go (F H : Hp) (O : Addr → Prop) (F' H' : Hp) (O' : Addr → Prop) : Prop where
  sub : Sub F F'
  new : ∀ a o, F' a = some o → F a = some o ∨ H a = none ∨ O a
  keep : ∀ a o, H a = some o → ¬ O a → (∀ ps, o ≠ .tbl ps) → H' a = some o
  own : ∀ a, O' a → O a ∨ H a = none
  there : ∀ a, H' a = none → H a = none
def noO : Addr → Prop := fun _ => False
theorem Go.refl {F H : Hp} {O O' : Addr → Prop} (h : ∀ a, O' a → O a) : Go F H O F H O' :=
  ⟨Sub.refl F, fun _ _ e => .inl e, fun _ _ e _ _ => e, fun a e => .inl (h a e), fun _ e => e⟩
theorem Go.trans {F H F1 H1 F2 H2 : Hp} {O O1 O2 : Addr → Prop} (a : Go F H O F1 H1 O1) (b : Go F1 H1 O1 F2 H2 O2) : Go F H O F2 H2 O2 where
  sub := a.sub.trans b.sub
  new := fun x o e => by
    rcases b.new x o e with h | h | h
    · exact a.new x o h
    · exact .inr (.inl (a.there x h))
    · rcases a.own x h with h | h
      · exact .inr (.inr h)
      · exact .inr (.inl h)
  keep := fun x o e n t => b.keep x o (a.keep x o e n t) (fun z => by
    rcases a.own x z with z | z
    · exact n z
    · rw [e] at z; cases z) t
  own := fun x e => by
    rcases b.own x e with h | h
    · exact a.own x h
    · exact .inr (a.there x h)
  there := fun x e => a.there x (b.there x e)
/-- the own addresses may be more, ahead; fewer behind -/
theorem Go.wide {F H F1 H1 : Hp} {O O1 P P1 : Addr → Prop} (a : Go F H O F1 H1 O1) (h : ∀ x, O x → P x) (h1 : ∀ x, P1 x → P x ∨ H x = none) : Go F H P F1 H1 P1 :=
  ⟨a.sub, fun x o e => (a.new x o e).imp id fun z => z.imp id (h x), fun x o e n t => a.keep x o e (fun z => n (h x z)) t, h1, a.there⟩
/-- a value is made: nothing that stood changes -/
structure Ext (F H F' H' : Hp) : Prop where
  go : Go F H noO F' H' noO
  ntb : ∀ a ps, F' a = some (.tbl ps) → F a = some (.tbl ps)
  tabs : ∀ T, LamX.Tabs T H → LamX.Tabs T H'
  sub : Sub F H → Sub F' H'
theorem Ext.refl (F H : Hp) : Ext F H F H := ⟨Go.refl fun _ e => e, fun _ _ e => e, fun _ e => e, fun e => e⟩
theorem Ext.trans {F H F1 H1 F2 H2 : Hp} (a : Ext F H F1 H1) (b : Ext F1 H1 F2 H2) : Ext F H F2 H2 :=
  ⟨a.go.trans b.go, fun x ps e => a.ntb x ps (b.ntb x ps e), fun T e => b.tabs T (a.tabs T e), fun e => b.sub (a.sub e)⟩
theorem sub_upd {H : Hp} {p : Addr} {o : HO} (h : H p = none) : Sub H (upd H p o) := fun a u e => by
  rw [upd_ne (ne_of_none e h)]
  exact e
/-- a new object is made and frozen -/
theorem Ext.new {F H : Hp} {p : Addr} {o : HO} (hs : Sub F H) (h : H p = none) (ho : ∀ ps, o ≠ .tbl ps) : Ext F H (upd F p o) (upd H p o) := by
  have hF : F p = none := by
    cases q : F p with
    | none => rfl
    | some u => rw [hs p u q] at h; cases h
  refine ⟨⟨sub_upd hF, fun a u e => ?_, fun a u e _ _ => sub_upd h a u e, fun a e => .inl e, fun a e => ?_⟩, fun a ps e => ?_, fun T t => t.ext (sub_upd h), fun e a u q => ?_⟩
  · by_cases hb : a = p
    · subst hb; exact .inr (.inl h)
    · rw [upd_ne hb] at e; exact .inl e
  · by_cases hb : a = p
    · subst hb; exact h
    · rw [upd_ne hb] at e; exact e
  · by_cases hb : a = p
    · subst hb; rw [upd_same] at e; cases e; exact absurd rfl (ho ps)
    · rw [upd_ne hb] at e; exact e
  · by_cases hb : a = p
    · subst hb; rw [upd_same] at q ⊢; exact q
    · rw [upd_ne hb] at q ⊢; exact e a u q
/-- a new object is made, not frozen -/
theorem Ext.made {F H : Hp} {p : Addr} {o : HO} (h : H p = none) (hs : Sub F H) : Ext F H F (upd H p o) := by
  refine ⟨⟨Sub.refl F, fun a u e => .inl e, fun a u e _ _ => sub_upd h a u e, fun a e => .inl e, fun a e => ?_⟩, fun _ _ e => e, fun T t => t.ext (sub_upd h), fun e a u q => sub_upd h a u (e a u q)⟩
  by_cases hb : a = p
  · subst hb; exact h
  · rw [upd_ne hb] at e; exact e

/-! ### names and data -/
def OwnL (G : Gm) (F H : Hp) (p : Addr) (ds : List D) : Prop := F p = none ∧ ∃ vs, H p = some (.lst vs) ∧ RpL G F vs ds
def OwnD (G : Gm) (F H : Hp) (p : Addr) (kvs : List (D × D)) : Prop := F p = none ∧
  ((∃ ks : List (Key × V), ∃ ds, H p = some (.dK ks) ∧ RpL G F (ks.map (·.2)) ds ∧ kvs = (ks.map fun q => kD q.1).zip ds) ∨
   ∃ ks : List (List Key × V), ∃ ds, H p = some (.dT ks) ∧ RpL G F (ks.map (·.2)) ds ∧ kvs = (ks.map fun q => kT q.1).zip ds)
def SlOk (G : Gm) (F H : Hp) (v : Option V) : Sl → Prop
  | .no => True
  | .vl d => ∃ x, v = some x ∧ Rp G F x d
  | .fr ds => ∃ p vs, v = some (.ref p) ∧ SqL G.K F p vs ∧ RpL G F vs ds
  | .ow ds => ∃ p, v = some (.ref p) ∧ OwnL G F H p ds
  | .io ds => v = some (.ref G.pd) ∧ OwnL G F H G.pd ds
  | .od kvs => ∃ p, v = some (.ref p) ∧ OwnD G F H p kvs
def oA (σ : L2.St) (r : En) : Addr → Prop := fun a => ∃ (i : Nat) (s : Sl), r[i]? = some s ∧ s.mine = true ∧ σ[i]? = some (some (V.ref a))
structure Rel (G : Gm) (F H : Hp) (σ : St) (r : En) : Prop where
  sub : Sub F H
  ntb : ∀ a ps, F a ≠ some (.tbl ps)
  tabs : LamX.Tabs G.T H
  len : σ.length = r.length
  slot : ∀ (i : Nat) (s : Sl) (v : Option V), r[i]? = some s → σ[i]? = some v → SlOk G F H v s
  apart : ∀ (i j : Nat) (s t : Sl) (p : Addr), r[i]? = some s → r[j]? = some t → s.mine = true → t.mine = true → σ[i]? = some (some (V.ref p)) → σ[j]? = some (some (V.ref p)) → i = j
theorem Rel.at {G : Gm} {F H : Hp} {σ : St} {r : En} (h : Rel G F H σ r) {i : Nat} {s : Sl} (e : r[i]? = some s) : ∃ v, σ[i]? = some v ∧ SlOk G F H v s := by
  have hi : i < σ.length := by rw [h.len]; exact (List.getElem?_eq_some_iff.mp e).1
  exact ⟨σ[i], List.getElem?_eq_getElem hi, h.slot i s _ e (List.getElem?_eq_getElem hi)⟩
theorem OwnL.mono {G : Gm} {F H F' H' : Hp} {p : Addr} {ds : List D} (h : OwnL G F H p ds) (s : Sub F F') (hn : F' p = none) (hk : ∀ o, H p = some o → (∀ ps, o ≠ .tbl ps) → H' p = some o) : OwnL G F' H' p ds := by
  obtain ⟨_, vs, h1, h2⟩ := h
  exact ⟨hn, vs, hk _ h1 (by intro ps z; cases z), h2.mono s⟩
theorem OwnD.mono {G : Gm} {F H F' H' : Hp} {p : Addr} {ds : List (D × D)} (h : OwnD G F H p ds) (s : Sub F F') (hn : F' p = none) (hk : ∀ o, H p = some o → (∀ ps, o ≠ .tbl ps) → H' p = some o) : OwnD G F' H' p ds := by
  obtain ⟨_, h⟩ := h
  refine ⟨hn, ?_⟩
  rcases h with ⟨vs, ds, h1, h2, h3⟩ | ⟨vs, ds, h1, h2, h3⟩
  · exact .inl ⟨vs, ds, hk _ h1 (by intro ps z; cases z), h2.mono s, h3⟩
  · exact .inr ⟨vs, ds, hk _ h1 (by intro ps z; cases z), h2.mono s, h3⟩
/-- an own address is tracked and not frozen -/
theorem SlOk.own {G : Gm} {F H : Hp} {v : Option V} {s : Sl} {p : Addr} (h : SlOk G F H v s) (m : s.mine = true) (e : v = some (.ref p)) : F p = none ∧ ∃ o, H p = some o ∧ (∀ ps, o ≠ .tbl ps) := by
  cases s with
  | no => cases m
  | vl d => cases m
  | fr d => cases m
  | ow ds =>
    obtain ⟨q, e1, h1, vs, h2, _⟩ := h
    rw [e] at e1; cases e1
    exact ⟨h1, _, h2, by intro ps z; cases z⟩
  | io ds =>
    obtain ⟨e1, h1, vs, h2, _⟩ := h
    rw [e] at e1; cases e1
    exact ⟨h1, _, h2, by intro ps z; cases z⟩
  | od ds =>
    obtain ⟨q, e1, h1, h2⟩ := h
    rw [e] at e1; cases e1
    refine ⟨h1, ?_⟩
    rcases h2 with ⟨vs, _, h2, _⟩ | ⟨vs, _, h2, _⟩
    · exact ⟨_, h2, by intro ps z; cases z⟩
    · exact ⟨_, h2, by intro ps z; cases z⟩
theorem SlOk.mono {G : Gm} {F H F' H' : Hp} {v : Option V} {s : Sl} (h : SlOk G F H v s) (hs : Sub F F') (hn : ∀ p, s.mine = true → v = some (.ref p) → F' p = none ∧ ∀ o, H p = some o → (∀ ps, o ≠ .tbl ps) → H' p = some o) : SlOk G F' H' v s := by
  cases s with
  | no => trivial
  | vl d => obtain ⟨x, e, q⟩ := h; exact ⟨x, e, q.mono hs⟩
  | fr d => obtain ⟨p, vs, e, q1, q2⟩ := h; exact ⟨p, vs, e, hs.l q1, q2.mono hs⟩
  | ow ds => obtain ⟨p, e, q⟩ := h; exact ⟨p, e, q.mono hs (hn p rfl e).1 (hn p rfl e).2⟩
  | io ds => obtain ⟨e, q⟩ := h; exact ⟨e, q.mono hs (hn _ rfl e).1 (hn _ rfl e).2⟩
  | od ds => obtain ⟨p, e, q⟩ := h; exact ⟨p, e, q.mono hs (hn p rfl e).1 (hn p rfl e).2⟩
theorem Rel.none_of {G : Gm} {F H : Hp} {σ : St} {r : En} (h : Rel G F H σ r) {a : Addr} (e : H a = none) : F a = none := by
  cases q : F a with
  | none => rfl
  | some u => rw [h.sub a u q] at e; cases e
theorem Rel.own {G : Gm} {F H : Hp} {σ : St} {r : En} (h : Rel G F H σ r) {a : Addr} (e : oA σ r a) : F a = none ∧ ∃ o, H a = some o ∧ (∀ ps, o ≠ .tbl ps) := by
  obtain ⟨i, s, e1, m, e2⟩ := e
  exact (h.slot i s _ e1 e2).own m rfl
/-- through what changes no own list -/
theorem Rel.ext {G : Gm} {F H F' H' : Hp} {σ : St} {r : En} (h : Rel G F H σ r) (e : Ext F H F' H') : Rel G F' H' σ r := by
  refine ⟨e.sub h.sub, fun a ps q => h.ntb a ps (e.ntb a ps q), e.tabs _ h.tabs, h.len, fun i s v e1 e2 => ?_, h.apart⟩
  refine (h.slot i s v e1 e2).mono e.go.sub fun p m ev => ?_
  obtain ⟨n1, o, n2, n3⟩ := (h.slot i s v e1 e2).own m ev
  refine ⟨?_, fun o' q1 q2 => e.go.keep p o' q1 (fun z => z) q2⟩
  cases q : F' p with
  | none => rfl
  | some u =>
    rcases e.go.new p u q with z | z | z
    · rw [n1] at z; cases z
    · rw [n2] at z; cases z
    · exact z.elim
theorem Ext.goO {F H F' H' : Hp} (e : Ext F H F' H') {O O' : Addr → Prop} (h : ∀ a, O' a → O a) : Go F H O F' H' O' := e.go.wide (fun _ z => z.elim) fun a z => .inl (h a z)
end DL
set_option maxHeartbeats 4000000
/-! DLb: the readings: a run to data, f, stands for what an expression, a statement does. -/
namespace DL
open PySem L2

def XOk (G : Gm) (F H : Hp) (c : Nat) (d : Option D) (cls : Value) (dd : Option Addr) : Prop :=
  ∃ fld, G.exc c = some (cls, fld) ∧ ((fld = none ∧ d = none) ∨ ∃ f x v p, fld = some f ∧ d = some x ∧ dd = some p ∧ H p = some (.xd [(f, v)]) ∧ Rp G F v x)
section
variable {G : Gm} {W : WX} {α β γ δ ε ζ : Type} {rel : Hp → β → α → Prop} {rel1 : Hp → δ → γ → Prop} {F H F1 H1 : Hp} {σ : L2.St} {r r1 : En} {Q Q' : β → Hp → Prop}
def Pt (G : Gm) (W : WX) (rel : Hp → β → α → Prop) (x : R α) (F H : Hp) (σ : L2.St) (r : En) (Q : β → Hp → Prop) : Prop := match x with
  | .ok a r' => ∀ F' H' b, Go F H (oA σ r) F' H' (oA σ r') → Rel G F' H' σ r' → rel F' b a → Q b H'
  | .ex c d r' => ∀ F' H' cls dd, Go F H (oA σ r) F' H' (oA σ r') → Rel G F' H' σ r' → XOk G F' H' c d cls dd → W cls dd σ H'
  | .st => False
def Ps (G : Gm) (W : WX) (rel : Hp → β → α → Prop) (f : En → R α) : L2.St → Hp → (β → Hp → Prop) → Prop := fun σ H Q => ∃ F r, Rel G F H σ r ∧ Pt G W rel (f r) F H σ r Q
theorem Pt.mono {x : R α} (h : Pt G W rel x F H σ r Q) (k : ∀ b H', Q b H' → Q' b H') : Pt G W rel x F H σ r Q' := by
  cases x with
  | ok a r' => exact fun F' H' b g e q => k _ _ (h F' H' b g e q)
  | ex c d r' => exact h
  | st => exact h
theorem Pt.from {x : R α} (g : Go F H (oA σ r) F1 H1 (oA σ r1)) (h : Pt G W rel x F H σ r Q) : Pt G W rel x F1 H1 σ r1 Q := by
  cases x with
  | ok a r' => exact fun F' H' b g' e q => h F' H' b (g.trans g') e q
  | ex c d r' => exact fun F' H' cls dd g' e q => h F' H' cls dd (g.trans g') e q
  | st => exact h
theorem Pt.bind {x : R γ} {k : γ → En → R α} (h : Pt G W rel (x.bind k) F H σ r Q) :
    Pt G W rel1 x F H σ r (fun b H1 => ∃ a F1 r1, Sub F F1 ∧ Rel G F1 H1 σ r1 ∧ rel1 F1 b a ∧ Pt G W rel (k a r1) F1 H1 σ r1 Q) := by
  cases x with
  | ok a r' => exact fun F' H' b g e q => ⟨a, F', r', g.sub, e, q, Pt.from g h⟩
  | ex c d r' => exact h
  | st => exact h
theorem Ps.mono {f : En → R α} (h : Ps G W rel f σ H Q) (k : ∀ b H', Q b H' → Q' b H') : Ps G W rel f σ H Q' := by
  obtain ⟨F, r, e, p⟩ := h
  exact ⟨F, r, e, p.mono k⟩
/-- the value is at hand -/
theorem Pt.here {a : α} {b : β} {F2 H2 : Hp} (h : Pt G W rel (.ok a r) F H σ r Q) (e : Rel G F H σ r) (x : Ext F H F2 H2) (q : rel F2 b a) : Q b H2 :=
  h F2 H2 b (x.goO fun _ z => z) (e.ext x) q
end

abbrev rV (G : Gm) : Hp → V → D → Prop := fun F v d => Rp G F v d
abbrev rB : Hp → Bool → Bool → Prop := fun _ b c => b = c
abbrev rL (G : Gm) : Hp → List V → List D → Prop := fun F vs ds => RpL G F vs ds
abbrev TEo (G : Gm) (W : WX) (f : En → R D) : TE := Ps G W (rV G) f
abbrev TTo (G : Gm) (W : WX) (f : En → R Bool) : TT := Ps G W rB f
abbrev TAo (G : Gm) (W : WX) (f : En → R (List D)) : TA := Ps G W (rL G) f
/-- a value that may be one's own -/
def TXo (G : Gm) (W : WX) (f : En → R Sl) : TE := fun σ H Q => ∃ F r, Rel G F H σ r ∧ match f r with
  | .ok s r' => ∀ F' H' v, Go F H (oA σ r) F' H' (oA (σ ++ [some v]) (r' ++ [s])) → Rel G F' H' (σ ++ [some v]) (r' ++ [s]) → Q v H'
  | .ex c d r' => ∀ F' H' cls dd, Go F H (oA σ r) F' H' (oA σ r') → Rel G F' H' σ r' → XOk G F' H' c d cls dd → W cls dd σ H'
  | .st => False

theorem pe_of {X : Cx} {e : Expr} {t t' : TE} (h : PE X e t) (k : ∀ σ H Q, t' σ H Q → t σ H Q) : PE X e t' := ⟨fun pins s σ H Q I q => h.run pins s σ H Q I (k σ H Q q)⟩
theorem pt_of {X : Cx} {e : Expr} {t t' : TT} (h : PT X e t) (k : ∀ σ H Q, t' σ H Q → t σ H Q) : PT X e t' := ⟨fun pins s σ H Q I q => h.run pins s σ H Q I (k σ H Q q)⟩
theorem pw_of {X : Cx} {e : Expr} {t t' : TT} (h : PW X e t) (k : ∀ σ H Q, t' σ H Q → t σ H Q) : PW X e t' := ⟨fun w pins s σ H Q I q => h.run w pins s σ H Q I (k σ H Q q)⟩
theorem pa_of {X : Cx} {es : List Expr} {t t' : TA} (h : PA X es t) (k : ∀ σ H Q, t' σ H Q → t σ H Q) : PA X es t' := ⟨fun pos pins s σ H Q I q => h.run pos pins s σ H Q I (k σ H Q q)⟩
theorem ps_of {X : Cx} {e : Stmt} {t t' : TS} (h : PS X e t) (k : ∀ D σ H, t' D σ H → t D σ H) : PS X e t' := ⟨fun pins s σ H D I q => h.run pins s σ H D I (k D σ H q)⟩
theorem pss_of {X : Cx} {e : List Stmt} {t t' : TS} (h : PSs X e t) (k : ∀ D σ H, t' D σ H → t D σ H) : PSs X e t' := ⟨fun pins s σ H D I q => h.run pins s σ H D I (k D σ H q)⟩

/-! ### names, constants -/
def eC (d : D) : En → R D := fun r => .ok d r
/-- a name that holds frozen data -/
def eV (i : Nat) : En → R D := fun r => match r[i]? with
  | some (.vl d) => .ok d r
  | _ => .st
section
variable {X : Cx} {G : Gm} {W : WX}
theorem de_int {i : Int} {j pos} : PE X (.Constant (.int i) j pos) (TEo G W (eC (.int i))) := pe_of pe_int fun _ _ _ ⟨_, _, e, p⟩ => Pt.here p e (Ext.refl _ _) (.int i)
theorem de_bl {i : Bool} {j pos} : PE X (.Constant (.bool i) j pos) (TEo G W (eC (.bool i))) := pe_of pe_bl fun _ _ _ ⟨_, _, e, p⟩ => Pt.here p e (Ext.refl _ _) (.bl i)
theorem de_str {i : Str} {j pos} : PE X (.Constant (.str i) j pos) (TEo G W (eC (.str i))) := pe_of pe_str fun _ _ _ ⟨_, _, e, p⟩ => Pt.here p e (Ext.refl _ _) (.str i)
theorem de_non {j pos} : PE X (.Constant .none j pos) (TEo G W (eC .none)) := pe_of pe_non fun _ _ _ ⟨_, _, e, p⟩ => Pt.here p e (Ext.refl _ _) .non
theorem de_var (i : Nat) {x : Str} {pos : Pos} (hN : X.N[i]? = some x := by rfl) (hv : Vis X.env.scope x := by first | exact Or.inl rfl | exact Or.inr (Or.inl rfl) | exact Or.inr (Or.inr rfl)) (hd : (x == ("__debug__" : Str)) = false := by decide)
    (hcd : (x == ("__classdict__" : Str)) = false := by decide) : PE X (.Name x pos) (TEo G W (eV i)) :=
  pe_of (pe_var hN hv hd hcd) fun σ H Q ⟨F, r, e, p⟩ => by
    unfold eV at p
    split at p
    · rename_i d hr
      obtain ⟨v, e1, x, e2, q⟩ := e.at hr
      subst e2
      exact ⟨x, e1, Pt.here p e (Ext.refl _ _) q⟩
    · exact p.elim
/-- a module's constant -/
theorem de_glob {x : Str} {u : Value} {v : V} {d : D} {pos : Pos} (hg : Gl X x) (hm : X.mg x = some u) (rr : RelV v u) (hd : ∀ F, Rp G F v d) (hdb : (x == ("__debug__" : Str)) = false := by decide) : PE X (.Name x pos) (TEo G W (eC d)) :=
  pe_of (pe_glob hg hm rr hdb) fun _ _ _ ⟨F, _, e, p⟩ => Pt.here p e (Ext.refl _ _) (hd F)

/-! ### two operands, one operand -/
def liftO (o : Option D) (r : En) : R D := match o with
  | some d => .ok d r
  | none => .st
def eOp (o : D → D → Option D) (f g : En → R D) : En → R D := fun r => (f r).bind fun x r1 => (g r1).bind fun y r2 => liftO (o x y) r2
def eUn (o : D → Option D) (f : En → R D) : En → R D := fun r => (f r).bind fun x r1 => liftO (o x) r1
/-- what an operation by values makes of data -/
def OpD (G : Gm) (r : R2) (o : D → D → Option D) : Prop := ∀ (x y d : D) (F H : Hp) (v w : V) (Q : VK), o x y = some d → Sub F H → Rp G F v x → Rp G F w y → (∀ F' H' z, Ext F H F' H' → Rp G F' z d → Q z H') → r v w H Q
def UnD (G : Gm) (r : V → Hp → VK → Prop) (o : D → Option D) : Prop := ∀ (x d : D) (F H : Hp) (v : V) (Q : VK), o x = some d → Sub F H → Rp G F v x → (∀ F' H' z, Ext F H F' H' → Rp G F' z d → Q z H') → r v H Q
theorem liftO_here {o : Option D} {F H : Hp} {σ : L2.St} {r : En} {Q : VK} (e : Rel G F H σ r) (p : Pt G W (rV G) (liftO o r) F H σ r Q) : ∃ d, o = some d ∧ ∀ F' H' z, Ext F H F' H' → Rp G F' z d → Q z H' := by
  cases o with
  | none => exact p.elim
  | some d => exact ⟨d, rfl, fun F' H' z x q => Pt.here p e x q⟩
theorem tOp_of {r : R2} {o : D → D → Option D} {f g : En → R D} (hd : OpD G r o) (σ : L2.St) (H : Hp) (Q : VK) : TEo G W (eOp o f g) σ H Q → tOp r (TEo G W f) (TEo G W g) σ H Q := fun ⟨F, r0, e, p⟩ =>
  ⟨F, r0, e, (Pt.bind (rel1 := rV G) p).mono fun v H1 ⟨x, F1, r1, _, e1, q1, p1⟩ => ⟨F1, r1, e1, (Pt.bind (rel1 := rV G) p1).mono fun w H2 ⟨y, F2, r2, s2, e2, q2, p2⟩ => by
    obtain ⟨d, hd', k⟩ := liftO_here e2 p2
    exact hd x y d F2 H2 v w Q hd' e2.sub (q1.mono s2) q2 k⟩⟩
theorem tUn_of {r : V → Hp → VK → Prop} {o : D → Option D} {f : En → R D} (hd : UnD G r o) (σ : L2.St) (H : Hp) (Q : VK) : TEo G W (eUn o f) σ H Q → tUn r (TEo G W f) σ H Q := fun ⟨F, r0, e, p⟩ =>
  ⟨F, r0, e, (Pt.bind (rel1 := rV G) p).mono fun v H1 ⟨x, F1, r1, _, e1, q1, p1⟩ => by
    obtain ⟨d, hd', k⟩ := liftO_here e1 p1
    exact hd x d F1 H1 v Q hd' e1.sub q1 k⟩
variable {a b c : Expr} {pos : Pos} {f g h : En → R D} {ft gt : En → R Bool}
theorem de_op {op : Operator} {r : R2} {o : D → D → Option D} (ho : OpR X (binaryOp op) r) (hd : OpD G r o) (ha : PE X a (TEo G W f)) (hb : PE X b (TEo G W g)) : PE X (.BinOp a op b pos) (TEo G W (eOp o f g)) :=
  pe_of (pe_op ho ha hb) (tOp_of hd)
theorem de_un {op : UnaryOp} {r : V → Hp → VK → Prop} {o : D → Option D} (ho : UnR X (unaryOp op) r) (hd : UnD G r o) (ha : PE X a (TEo G W f)) : PE X (.UnaryOp op a pos) (TEo G W (eUn o f)) :=
  pe_of (pe_un ho ha) (tUn_of hd)
theorem de_cmp {op : CmpOp} {r : R2} {o : D → D → Option D} (ho : OpR X (compareOp op) r) (hd : OpD G r o) (ha : PE X a (TEo G W f)) (hb : PE X b (TEo G W g)) (hm : behindInMarks op b = false := by rfl) : PE X (.Compare a [op] [b] pos) (TEo G W (eOp o f g)) :=
  pe_of (pe_cmpR ho ha hb hm) (tOp_of hd)
theorem de_ix {r : R2} {o : D → D → Option D} (ho : IxR X r) (hd : OpD G r o) (ha : PE X a (TEo G W f)) (hb : PE X b (TEo G W g)) (hs : PlainIx b := by exact fun _ _ => rfl) : PE X (.Subscript a b pos) (TEo G W (eOp o f g)) :=
  pe_of (pe_ix ho ha hb hs) (tOp_of hd)

/-! ### tests -/
/-- True or False -/
def tB1 (f : En → R D) : En → R Bool := fun r => (f r).bind fun x r1 => match x with
  | .bool k => .ok k r1
  | _ => .st
theorem tB_of (σ : L2.St) (H : Hp) (Q : Bool → Hp → Prop) : TTo G W (tB1 f) σ H Q → tB (TEo G W f) σ H Q := fun ⟨F, r0, e, p⟩ =>
  ⟨F, r0, e, (Pt.bind (rel1 := rV G) p).mono fun v H1 ⟨x, F1, r1, _, e1, q1, p1⟩ => by
    cases q1 with
    | bl k => exact ⟨k, rfl, Pt.here p1 e1 (Ext.refl _ _) rfl⟩
    | _ => exact p1.elim⟩
theorem dt_val (ha : PE X a (TEo G W f)) (he : ∀ whole, isTrue a X.env whole = (do let v ← whole; standAt a.pos; holding [v] (truthy v)) := by intro _; rfl) : PT X a (TTo G W (tB1 f)) :=
  pt_of (pt_val ha he) tB_of
/-- the truth of data -/
def truD : D → Option Bool
  | .none => some false
  | .bool _ => none
  | .int i => some (i != 0)
  | .str z => if z.length ≤ sizeLine then some (z.length != 0) else none
  | .list ds => some (!ds.isEmpty)
  | .tuple ds => some (!ds.isEmpty)
  | .dict _ => none
def tTru (f : En → R D) : En → R Bool := fun r => (f r).bind fun x r1 => match x with
  | .bool k => .ok k r1
  | x => match truD x with
    | some k => .ok k r1
    | none => .st
def tAnd1 (f g : En → R Bool) : En → R Bool := fun r => (f r).bind fun k r1 => if k = true then g r1 else .ok false r1
def tOr1 (f g : En → R Bool) : En → R Bool := fun r => (f r).bind fun k r1 => if k = true then .ok true r1 else g r1
def tNot1 (f : En → R Bool) : En → R Bool := fun r => (f r).bind fun k r1 => .ok (!k) r1
theorem dw_and1 (ha : PT X a (TTo G W ft)) : PW X (.BoolOp .And [a] pos) (TTo G W ft) := pw_and1 ha
theorem dw_or1 (ha : PT X a (TTo G W ft)) : PW X (.BoolOp .Or [a] pos) (TTo G W ft) := pw_or1 ha
theorem dw_and {rest : List Expr} (ha : PT X a (TTo G W ft)) (hb : PW X (.BoolOp .And (b :: rest) pos) (TTo G W gt)) : PW X (.BoolOp .And (a :: b :: rest) pos) (TTo G W (tAnd1 ft gt)) :=
  pw_of (pw_and ha hb) fun σ H Q ⟨F, r0, e, p⟩ => ⟨F, r0, e, (Pt.bind (rel1 := rB) p).mono fun k H1 ⟨k', F1, r1, _, e1, q1, p1⟩ => by
    have q1 : k = k' := q1
    subst q1
    cases k with
    | true => exact ⟨F1, r1, e1, p1⟩
    | false => exact Pt.here p1 e1 (Ext.refl _ _) rfl⟩
theorem dw_or {rest : List Expr} (ha : PT X a (TTo G W ft)) (hb : PW X (.BoolOp .Or (b :: rest) pos) (TTo G W gt)) : PW X (.BoolOp .Or (a :: b :: rest) pos) (TTo G W (tOr1 ft gt)) :=
  pw_of (pw_or ha hb) fun σ H Q ⟨F, r0, e, p⟩ => ⟨F, r0, e, (Pt.bind (rel1 := rB) p).mono fun k H1 ⟨k', F1, r1, _, e1, q1, p1⟩ => by
    have q1 : k = k' := q1
    subst q1
    cases k with
    | false => exact ⟨F1, r1, e1, p1⟩
    | true => exact Pt.here p1 e1 (Ext.refl _ _) rfl⟩
theorem dt_not (ha : PT X a (TTo G W ft)) : PT X (.UnaryOp .Not a pos) (TTo G W (tNot1 ft)) :=
  pt_of (pt_not ha) fun σ H Q ⟨F, r0, e, p⟩ => ⟨F, r0, e, (Pt.bind (rel1 := rB) p).mono fun k H1 ⟨k', F1, r1, _, e1, q1, p1⟩ => by
    have q1 : k = k' := q1
    subst q1
    exact Pt.here p1 e1 (Ext.refl _ _) rfl⟩
/-- and, or, not as values of truth values -/
def eAnd (f g : En → R D) : En → R D := fun r => (f r).bind fun x r1 => match x with
  | .bool true => g r1
  | .bool false => .ok (.bool false) r1
  | _ => .st
def eOr (f g : En → R D) : En → R D := fun r => (f r).bind fun x r1 => match x with
  | .bool true => .ok (.bool true) r1
  | .bool false => g r1
  | _ => .st
def eNot (f : En → R D) : En → R D := fun r => (f r).bind fun x r1 => match x with
  | .bool k => .ok (.bool (!k)) r1
  | _ => .st
theorem de_and {rest : List Expr} (ha : PE X a (TEo G W f)) (hb : PE X (.BoolOp .And (b :: rest) pos) (TEo G W g)) : PE X (.BoolOp .And (a :: b :: rest) pos) (TEo G W (eAnd f g)) :=
  pe_of (pe_and ha hb) fun σ H Q ⟨F, r0, e, p⟩ => ⟨F, r0, e, (Pt.bind (rel1 := rV G) p).mono fun v H1 ⟨x, F1, r1, _, e1, q1, p1⟩ => by
    cases q1 with
    | bl k =>
      cases k with
      | true => exact ⟨true, rfl, ⟨F1, r1, e1, p1⟩⟩
      | false => exact ⟨false, rfl, Pt.here p1 e1 (Ext.refl _ _) (.bl _)⟩
    | _ => exact p1.elim⟩
theorem de_or {rest : List Expr} (ha : PE X a (TEo G W f)) (hb : PE X (.BoolOp .Or (b :: rest) pos) (TEo G W g)) : PE X (.BoolOp .Or (a :: b :: rest) pos) (TEo G W (eOr f g)) :=
  pe_of (pe_or ha hb) fun σ H Q ⟨F, r0, e, p⟩ => ⟨F, r0, e, (Pt.bind (rel1 := rV G) p).mono fun v H1 ⟨x, F1, r1, _, e1, q1, p1⟩ => by
    cases q1 with
    | bl k =>
      cases k with
      | false => exact ⟨false, rfl, ⟨F1, r1, e1, p1⟩⟩
      | true => exact ⟨true, rfl, Pt.here p1 e1 (Ext.refl _ _) (.bl _)⟩
    | _ => exact p1.elim⟩
theorem de_one {op} (ha : PE X a (TEo G W f)) : PE X (.BoolOp op [a] pos) (TEo G W f) := pe_one ha
theorem de_not (ha : PE X a (TEo G W f)) : PE X (.UnaryOp .Not a pos) (TEo G W (eNot f)) :=
  pe_of (pe_not ha) fun σ H Q ⟨F, r0, e, p⟩ => ⟨F, r0, e, (Pt.bind (rel1 := rV G) p).mono fun v H1 ⟨x, F1, r1, _, e1, q1, p1⟩ => by
    cases q1 with
    | bl k => exact ⟨k, rfl, Pt.here p1 e1 (Ext.refl _ _) (.bl _)⟩
    | _ => exact p1.elim⟩
def eIf (c : En → R Bool) (f g : En → R D) : En → R D := fun r => (c r).bind fun k r1 => if k = true then f r1 else g r1
theorem de_if (hc : PT X c (TTo G W ft)) (ha : PE X a (TEo G W f)) (hb : PE X b (TEo G W g)) : PE X (.IfExp c a b pos) (TEo G W (eIf ft f g)) :=
  pe_of (pe_ifExp hc ha hb) fun σ H Q ⟨F, r0, e, p⟩ => ⟨F, r0, e, (Pt.bind (rel1 := rB) p).mono fun k H1 ⟨k', F1, r1, _, e1, q1, p1⟩ => by
    have q1 : k = k' := q1
    subst q1
    cases k with
    | true => exact ⟨F1, r1, e1, p1⟩
    | false => exact ⟨F1, r1, e1, p1⟩⟩
/-- a < b < c -/
def eChain (o o' : D → D → Option D) (f g h : En → R D) : En → R D := fun r => (f r).bind fun x r1 => (g r1).bind fun y r2 => match o x y with
  | some (.bool true) => (h r2).bind fun z r3 => liftO (o' y z) r3
  | some (.bool false) => .ok (.bool false) r2
  | _ => .st

/-! ### arguments -/
def aNil : En → R (List D) := fun r => .ok [] r
def aCons (f : En → R D) (g : En → R (List D)) : En → R (List D) := fun r => (f r).bind fun x r1 => (g r1).bind fun y r2 => .ok (x :: y) r2
theorem da_nil : PA X [] (TAo G W aNil) := pa_of pa_nil fun σ H Q ⟨F, r0, e, p⟩ => Pt.here p e (Ext.refl _ _) .nil
theorem da_cons {es : List Expr} {fs : En → R (List D)} (ha : PE X a (TEo G W f)) (hr : PA X es (TAo G W fs)) (hs : starEach (a :: es) X.env = (false, eval a X.env) :: starEach es X.env := by rfl) : PA X (a :: es) (TAo G W (aCons f fs)) :=
  pa_of (pa_cons ha hr hs) fun σ H Q ⟨F, r0, e, p⟩ => ⟨F, r0, e, (Pt.bind (rel1 := rV G) p).mono fun v H1 ⟨x, F1, r1, _, e1, q1, p1⟩ => ⟨F1, r1, e1, (Pt.bind (rel1 := rL G) p1).mono fun vs H2 ⟨y, F2, r2, s2, e2, q2, p2⟩ =>
    Pt.here p2 e2 (Ext.refl _ _) (.cons (q1.mono s2) q2)⟩⟩
def eTup (fs : En → R (List D)) : En → R D := fun r => (fs r).bind fun ds r1 => if ds.length ≤ 1000000 then .ok (.tuple ds) r1 else .st
theorem de_tup {es : List Expr} {fs : En → R (List D)} {x1} (h : PA X es (TAo G W fs)) : PE X (.Tuple es x1 pos) (TEo G W (eTup fs)) :=
  pe_of (pe_tup h) fun σ H Q ⟨F, r0, e, p⟩ => ⟨F, r0, e, (Pt.bind (rel1 := rL G) p).mono fun vs H1 ⟨ds, F1, r1, _, e1, q1, p1⟩ => by
    by_cases hz : ds.length ≤ 1000000
    · rw [if_pos hz] at p1
      refine ⟨Nat.le_trans (by rw [q1.len]; exact hz) (by decide), fun q hq => Pt.here p1 e1 (Ext.new e1.sub hq (by intro ps z; cases z)) (.tup (SqT.of upd_same) (q1.mono (sub_upd (e1.none_of hq))))⟩
    · rw [if_neg hz] at p1
      exact p1.elim⟩
/-- built-in functions -/
def CallD (G : Gm) (r : List V → Hp → VK → Prop) (o : List D → Option D) : Prop := ∀ (x : List D) (d : D) (F H : Hp) (v : List V) (Q : VK), o x = some d → Sub F H → RpL G F v x → (∀ F' H' z, Ext F H F' H' → Rp G F' z d → Q z H') → r v H Q
def eCB (o : List D → Option D) (fs : En → R (List D)) : En → R D := fun r => (fs r).bind fun x r1 => liftO (o x) r1
theorem tCB_of {r : List V → Hp → VK → Prop} {o : List D → Option D} {fs : En → R (List D)} (hd : CallD G r o) (σ : L2.St) (H : Hp) (Q : VK) : TEo G W (eCB o fs) σ H Q → tCB r (TAo G W fs) σ H Q := fun ⟨F, r0, e, p⟩ =>
  ⟨F, r0, e, (Pt.bind (rel1 := rL G) p).mono fun v H1 ⟨x, F1, r1, _, e1, q1, p1⟩ => by
    obtain ⟨d, hd', k⟩ := liftO_here e1 p1
    exact hd x d F1 H1 v Q hd' e1.sub q1 k⟩
theorem de_callB {id : String} {x : Str} {es : List Expr} {p : Pos} {r : List V → Hp → VK → Prop} {o : List D → Option D} {fs : En → R (List D)} (hc : CallR X (.builtin id) r) (hd : CallD G r o) (hm : X.mg x = none) (hv : bootBuiltins x = some (.builtin id)) (ha : PA X (a :: es) (TAo G W fs)) (hg : Gl X x := by rfl)
    (hn : x ≠ "__name__" := by decide) (hdb : (x == ("__debug__" : Str)) = false := by decide) (he : starEach (a :: es) X.env = (false, eval a X.env) :: starEach es X.env := by rfl) (hpl : (backTo pos (starEach es X.env)).any (·.1) = false := by rfl) :
    PE X (.Call (.Name x p) (a :: es) [] pos) (TEo G W (eCB o fs)) := pe_of (pe_callB hc hg hm hv ha hn hdb he hpl) (tCB_of hd)
theorem de_callTy {id : String} {x : Str} {es : List Expr} {p : Pos} {r : List V → Hp → VK → Prop} {o : List D → Option D} {fs : En → R (List D)} (hc : CallR X (.type id) r) (hd : CallD G r o) (hm : X.mg x = none) (hv : bootBuiltins x = some (.type id)) (ha : PA X (a :: es) (TAo G W fs)) (hg : Gl X x := by rfl)
    (hn : x ≠ "__name__" := by decide) (hdb : (x == ("__debug__" : Str)) = false := by decide) (he : starEach (a :: es) X.env = (false, eval a X.env) :: starEach es X.env := by rfl) (hpl : (backTo pos (starEach es X.env)).any (·.1) = false := by rfl) :
    PE X (.Call (.Name x p) (a :: es) [] pos) (TEo G W (eCB o fs)) := pe_of (pe_callTy hc hg hm hv ha hn hdb he hpl) (tCB_of hd)
end
end DL
set_option maxHeartbeats 4000000
/-! DLc: own values, statements, loops, comprehensions. -/
namespace DL
open PySem L2

/-! ### own values -/
section
variable {G : Gm} {W : WX} {F H F' H' : Hp} {σ : L2.St} {r : En}
theorem get_snoc {α : Type} {l : List α} {x : α} {i : Nat} (h : i < l.length) : (l ++ [x])[i]? = l[i]? := List.getElem?_append_left h
theorem get_last {α : Type} {l : List α} {x : α} : (l ++ [x])[l.length]? = some x := by simp
/-- one more name, one less -/
theorem Rel.init {v : V} {s : Sl} (h : Rel G F H (σ ++ [some v]) (r ++ [s])) : Rel G F H σ r := by
  have hl : σ.length = r.length := by have := h.len; simp at this; exact this
  refine ⟨h.sub, h.ntb, h.tabs, hl, fun i t w e1 e2 => ?_, fun i j s' t p e1 e2 m1 m2 e3 e4 => ?_⟩
  · have hi := (List.getElem?_eq_some_iff.mp e1).1
    exact h.slot i t w (by rw [get_snoc hi]; exact e1) (by rw [get_snoc (by rw [hl]; exact hi)]; exact e2)
  · have hi := (List.getElem?_eq_some_iff.mp e1).1
    have hj := (List.getElem?_eq_some_iff.mp e2).1
    exact h.apart i j s' t p (by rw [get_snoc hi]; exact e1) (by rw [get_snoc hj]; exact e2) m1 m2 (by rw [get_snoc (by rw [hl]; exact hi)]; exact e3) (by rw [get_snoc (by rw [hl]; exact hj)]; exact e4)
theorem Rel.last {v : V} {s : Sl} (h : Rel G F H (σ ++ [some v]) (r ++ [s])) : SlOk G F H (some v) s := by
  have hl : σ.length = r.length := by have := h.len; simp at this; exact this
  exact h.slot r.length s (some v) get_last (by rw [← hl]; exact get_last)
theorem own_init {v : V} {s : Sl} (hl : σ.length = r.length) : ∀ a, oA σ r a → oA (σ ++ [some v]) (r ++ [s]) a := fun a ⟨i, t, e1, m, e2⟩ => by
  have hi := (List.getElem?_eq_some_iff.mp e1).1
  exact ⟨i, t, by rw [get_snoc hi]; exact e1, m, by rw [get_snoc (by rw [hl]; exact hi)]; exact e2⟩
theorem own_snoc {v : V} {s : Sl} (hl : σ.length = r.length) {a : Addr} (h : oA (σ ++ [some v]) (r ++ [s]) a) : oA σ r a ∨ (s.mine = true ∧ v = .ref a) := by
  obtain ⟨i, t, e1, m, e2⟩ := h
  by_cases hi : i < r.length
  · rw [get_snoc hi] at e1
    rw [get_snoc (by rw [hl]; exact hi)] at e2
    exact .inl ⟨i, t, e1, m, e2⟩
  · have hi2 : i = r.length := by
      have := (List.getElem?_eq_some_iff.mp e1).1
      simp at this
      omega
    subst hi2
    rw [get_last] at e1
    cases e1
    rw [← hl, get_last] at e2
    cases e2
    exact .inr ⟨m, rfl⟩
/-- a new name -/
theorem Rel.snoc {v : V} {s : Sl} (h : Rel G F H σ r) (hs : SlOk G F H (some v) s) (hn : ∀ p, s.mine = true → v = .ref p → ¬ oA σ r p) : Rel G F H (σ ++ [some v]) (r ++ [s]) := by
  refine ⟨h.sub, h.ntb, h.tabs, by simp [h.len], fun i t w e1 e2 => ?_, fun i j s' t p e1 e2 m1 m2 e3 e4 => ?_⟩
  · by_cases hi : i < r.length
    · rw [get_snoc hi] at e1
      rw [get_snoc (by rw [h.len]; exact hi)] at e2
      exact h.slot i t w e1 e2
    · have hi2 : i = r.length := by
        have := (List.getElem?_eq_some_iff.mp e1).1
        simp at this
        omega
      subst hi2
      rw [get_last] at e1
      cases e1
      rw [← h.len, get_last] at e2
      cases e2
      exact hs
  · have bound : ∀ {k : Nat} {u : Sl}, (r ++ [s])[k]? = some u → k < r.length ∨ k = r.length := fun {k u} e => by
      have := (List.getElem?_eq_some_iff.mp e).1
      simp at this
      omega
    rcases bound e1 with hi | hi
    · rw [get_snoc hi] at e1
      rw [get_snoc (by rw [h.len]; exact hi)] at e3
      rcases bound e2 with hj | hj
      · rw [get_snoc hj] at e2
        rw [get_snoc (by rw [h.len]; exact hj)] at e4
        exact h.apart i j s' t p e1 e2 m1 m2 e3 e4
      · subst hj
        rw [get_last] at e2
        cases e2
        rw [← h.len, get_last] at e4
        cases e4
        exact absurd ⟨i, s', e1, m1, e3⟩ (hn p m2 rfl)
    · subst hi
      rw [get_last] at e1
      cases e1
      rw [← h.len, get_last] at e3
      cases e3
      rcases bound e2 with hj | hj
      · rw [get_snoc hj] at e2
        rw [get_snoc (by rw [h.len]; exact hj)] at e4
        exact absurd ⟨j, t, e2, m2, e4⟩ (hn p m1 rfl)
      · exact hj.symm
theorem Rel.val {v : V} {d : D} (h : Rel G F H σ r) (q : Rp G F v d) : Rel G F H (σ ++ [some v]) (r ++ [.vl d]) := h.snoc ⟨v, rfl, q⟩ fun p m => by cases m
theorem own_val {v : V} {d : D} (hl : σ.length = r.length) {a : Addr} (h : oA (σ ++ [some v]) (r ++ [.vl d]) a) : oA σ r a := by
  rcases own_snoc hl h with z | ⟨z, _⟩
  · exact z
  · cases z
/-- frozen, from now on -/
def fz : Sl → Option D
  | .vl d => some d
  | .ow ds => some (.list ds)
  | _ => none
def eF (f : En → R Sl) : En → R D := fun r => (f r).bind fun s r1 => liftO (fz s) r1
theorem frz_new {p : Addr} {o : HO} (hF : F p = none) (hp : H p = some o) (hs : Sub F H) : Sub (upd F p o) H := fun a u e => by
  by_cases hb : a = p
  · subst hb; rw [upd_same] at e; cases e; exact hp
  · rw [upd_ne hb] at e; exact hs a u e
/-- an own list that no name holds is frozen -/
theorem Rel.frz {v : V} {ds : List D} (h : Rel G F H (σ ++ [some v]) (r ++ [.ow ds])) : ∃ F', Sub F F' ∧ (∀ a o, F' a = some o → F a = some o ∨ v = .ref a) ∧ Rel G F' H σ r ∧ Rp G F' v (.list ds) := by
  obtain ⟨p, e, hF, vs, hp, hv⟩ := h.last
  cases e
  have hl : σ.length = r.length := by have := h.len; simp at this; exact this
  have s1 : Sub F (upd F p (.lst vs)) := sub_upd hF
  refine ⟨upd F p (.lst vs), s1, fun a o e => ?_, ?_, .lst upd_same (hv.mono s1)⟩
  · by_cases hb : a = p
    · subst hb; exact .inr rfl
    · rw [upd_ne hb] at e; exact .inl e
  · have h0 := h.init
    refine ⟨frz_new hF hp h.sub, fun a ps e => ?_, h.tabs, hl, fun i s w e1 e2 => ?_, h0.apart⟩
    · by_cases hb : a = p
      · subst hb; rw [upd_same] at e; cases e
      · rw [upd_ne hb] at e; exact h.ntb a ps e
    · refine (h0.slot i s w e1 e2).mono s1 fun q m ew => ⟨?_, fun o e _ => e⟩
      have ne : q ≠ p := by
        intro z
        subst z
        subst ew
        have hi := (List.getElem?_eq_some_iff.mp e1).1
        have z := h.apart i r.length s (.ow ds) q (by rw [get_snoc hi]; exact e1) get_last m rfl (by rw [get_snoc (by rw [hl]; exact hi)]; exact e2) (by rw [← hl]; exact get_last)
        omega
      rw [upd_ne ne]
      exact ((h0.slot i s w e1 e2).own m ew).1
theorem tF_of {f : En → R Sl} (σ : L2.St) (H : Hp) (Q : VK) : TEo G W (eF f) σ H Q → TXo G W f σ H Q := fun ⟨F, r0, e, p⟩ => by
  refine ⟨F, r0, e, ?_⟩
  unfold eF at p
  cases hf : f r0 with
  | st => rw [hf] at p; exact p
  | ex c d r' => rw [hf] at p; exact p
  | ok s r' =>
    rw [hf] at p
    intro F' H' v g e'
    have hl : σ.length = r'.length := by have := e'.len; simp at this; exact this
    have p : Pt G W (rV G) (liftO (fz s) r') F H σ r0 Q := p
    cases s with
    | no => exact p.elim
    | fr ds => exact p.elim
    | io ds => exact p.elim
    | od ds => exact p.elim
    | vl d =>
      obtain ⟨x, ex, q⟩ := e'.last
      cases ex
      refine p F' H' v (g.wide (fun _ z => z) fun x z => ?_) e'.init q
      exact g.own x (own_init hl x z)
    | ow ds =>
      obtain ⟨F2, s2, n2, e2, q2⟩ := e'.frz
      refine p F2 H' v ⟨g.sub.trans s2, fun a o ea => ?_, g.keep, fun x z => g.own x (own_init hl x z), g.there⟩ e2 q2
      rcases n2 a o ea with z | z
      · exact g.new a o z
      · subst z
        have hown : oA (σ ++ [some (.ref a)]) (r' ++ [.ow ds]) a := ⟨r'.length, .ow ds, get_last, rfl, by rw [← hl]; exact get_last⟩
        rcases g.own a hown with z | z
        · exact .inr (.inr z)
        · exact .inr (.inl z)
/-- an own value, used as frozen data -/
theorem de_frz {X : Cx} {e : Expr} {f : En → R Sl} (h : PE X e (TXo G W f)) : PE X e (TEo G W (eF f)) := pe_of h tF_of
def xV (f : En → R D) : En → R Sl := fun r => (f r).bind fun d r1 => .ok (.vl d) r1
theorem dx_val {X : Cx} {e : Expr} {f : En → R D} (h : PE X e (TEo G W f)) : PE X e (TXo G W (xV f)) := pe_of h fun σ H Q ⟨F, r0, e, p⟩ => by
  refine ⟨F, r0, e, ?_⟩
  unfold xV at p
  cases hf : f r0 with
  | st => rw [hf] at p; exact p.elim
  | ex c d r' => rw [hf] at p; exact p
  | ok d r' =>
    rw [hf] at p
    exact fun F' H' v g e' q => p F' H' v (g.wide (fun _ z => z) fun x z => g.own x (own_val e'.len z)) (e'.val q)
/-- a new list from the arguments -/
theorem Rel.newL {p : Addr} {vs : List V} {ds : List D} (h : Rel G F H σ r) (hp : H p = none) (q : RpL G F vs ds) : Go F H (oA σ r) F (upd H p (.lst vs)) (oA (σ ++ [some (.ref p)]) (r ++ [.ow ds])) ∧ Rel G F (upd H p (.lst vs)) (σ ++ [some (.ref p)]) (r ++ [.ow ds]) := by
  have x := Ext.made (o := .lst vs) hp h.sub
  refine ⟨x.go.wide (fun _ z => z.elim) fun a z => ?_, (h.ext x).snoc ⟨p, rfl, h.none_of hp, vs, upd_same, q⟩ fun a _ e z => ?_⟩
  · rcases own_snoc h.len z with z | ⟨_, z⟩
    · exact .inl z
    · cases z; exact .inr hp
  · cases e
    obtain ⟨_, o, e, _⟩ := h.own z
    rw [hp] at e; cases e
def xLst (fs : En → R (List D)) : En → R Sl := fun r => (fs r).bind fun ds r1 => if ds.length ≤ 1000000 then .ok (.ow ds) r1 else .st
/-- the end of an own value's reading: a new list -/
theorem tX_new {vs : List V} {ds : List D} {F1 H1 : Hp} {r1 : En} {p : Addr} {Q : VK} (e1 : Rel G F1 H1 σ r1) (hp : H1 p = none) (q : RpL G F1 vs ds) (g : Go F H (oA σ r) F1 H1 (oA σ r1))
    (k : ∀ F' H' v, Go F H (oA σ r) F' H' (oA (σ ++ [some v]) (r1 ++ [Sl.ow ds])) → Rel G F' H' (σ ++ [some v]) (r1 ++ [Sl.ow ds]) → Q v H') : Q (.ref p) (upd H1 p (.lst vs)) := by
  obtain ⟨g2, e2⟩ := e1.newL hp q
  exact k _ _ _ (g.trans g2) e2
theorem dx_lst {X : Cx} {es : List Expr} {fs : En → R (List D)} {pos : Pos} (h : PA X es (TAo G W fs)) : PE X (.List es pos) (TXo G W (xLst fs)) :=
  pe_of (pe_lst h) fun σ H Q ⟨F, r0, e, p⟩ => by
    refine ⟨F, r0, e, ?_⟩
    unfold xLst at p
    cases hf : fs r0 with
    | st => rw [hf] at p; exact p.elim
    | ex c d r' => rw [hf] at p; exact p
    | ok ds r' =>
      rw [hf] at p
      intro F' H' vs g e' q
      by_cases hz : ds.length ≤ 1000000
      · have p : ∀ F' H' v, Go F H (oA σ r0) F' H' (oA (σ ++ [some v]) (r' ++ [Sl.ow ds])) → Rel G F' H' (σ ++ [some v]) (r' ++ [Sl.ow ds]) → Q v H' := by
          have p' := p
          simp only [R.bind] at p'
          rw [if_pos hz] at p'
          exact p'
        exact ⟨Nat.le_trans (by rw [q.len]; exact hz) (by decide), fun a ha => tX_new e' ha q g p⟩
      · simp only [R.bind] at p
        rw [if_neg hz] at p
        exact p.elim
end

/-! ### statements -/
section
variable {G : Gm} {W : WX} {F H F1 H1 : Hp} {σ σ1 : L2.St} {r r1 : En}
def Pf (G : Gm) (W : WX) (x : Fl) (F H : Hp) (σ : L2.St) (r : En) (E : Ends) : Prop := match x with
  | .nx r' => ∀ F' H' σ', Go F H (oA σ r) F' H' (oA σ' r') → Rel G F' H' σ' r' → E.nx σ' H'
  | .bk r' => ∀ F' H' σ', Go F H (oA σ r) F' H' (oA σ' r') → Rel G F' H' σ' r' → E.bk σ' H'
  | .ct r' => ∀ F' H' σ', Go F H (oA σ r) F' H' (oA σ' r') → Rel G F' H' σ' r' → E.ct σ' H'
  | .rt s r' => ∀ F' H' σ' v, Go F H (oA σ r) F' H' (oA (σ' ++ [some v]) (r' ++ [s])) → Rel G F' H' (σ' ++ [some v]) (r' ++ [s]) → E.rt v H'
  | .ex c d r' => ∀ F' H' σ' cls dd, Go F H (oA σ r) F' H' (oA σ' r') → Rel G F' H' σ' r' → XOk G F' H' c d cls dd → W cls dd σ' H'
  | .st => False
def TSo (G : Gm) (W : WX) (f : En → Fl) : TS := fun E σ H => ∃ F r, Rel G F H σ r ∧ Pf G W (f r) F H σ r E
theorem Pf.from {x : Fl} {E : Ends} (g : Go F H (oA σ r) F1 H1 (oA σ1 r1)) (h : Pf G W x F H σ r E) : Pf G W x F1 H1 σ1 r1 E := by
  cases x with
  | nx r' => exact fun F' H' σ' g' e => h F' H' σ' (g.trans g') e
  | bk r' => exact fun F' H' σ' g' e => h F' H' σ' (g.trans g') e
  | ct r' => exact fun F' H' σ' g' e => h F' H' σ' (g.trans g') e
  | rt s r' => exact fun F' H' σ' v g' e => h F' H' σ' v (g.trans g') e
  | ex c d r' => exact fun F' H' σ' cls dd g' e => h F' H' σ' cls dd (g.trans g') e
  | st => exact h
/-- the exception of an expression is a statement's -/
theorem Pt.exF {α β : Type} {rel : Hp → β → α → Prop} {c : Nat} {d : Option D} {r' : En} {E : Ends} {Q : β → Hp → Prop} (h : Pf G W (.ex c d r') F H σ r E) : Pt G W rel (.ex c d r') F H σ r Q := fun F' H' cls dd g e x => h F' H' σ cls dd g e x
/-- an expression ahead of what goes on -/
def rF {α : Type} (x : R α) (k : α → En → Fl) : Fl := match x with
  | .ok a r => k a r
  | .ex c d r => .ex c d r
  | .st => .st
theorem Pf.ofR {α β : Type} {rel : Hp → β → α → Prop} {x : R α} {k : α → En → Fl} {E : Ends} {Q : β → Hp → Prop} (h : Pf G W (rF x k) F H σ r E) (hk : ∀ a r1 F1 H1 b, Sub F F1 → Rel G F1 H1 σ r1 → rel F1 b a → Pf G W (k a r1) F1 H1 σ r1 E → Q b H1) : Pt G W rel x F H σ r Q := by
  cases x with
  | ok a r1 => exact fun F' H' b g e q => hk a r1 F' H' b g.sub e q (Pf.from g h)
  | ex c d r' => exact fun F' H' cls dd g e x => h F' H' σ cls dd g e x
  | st => exact h
def sSeq (f g : En → Fl) : En → Fl := fun r => match f r with
  | .nx r1 => g r1
  | o => o
def sNil : En → Fl := fun r => .nx r
theorem ds_nil {X : Cx} : PSs X [] (TSo G W sNil) := pss_of pss_nil fun E σ H ⟨F, r, e, p⟩ => p F H σ (Go.refl fun _ z => z) e
theorem ds_seq {X : Cx} {st : Stmt} {rest : List Stmt} {f g : En → Fl} (h1 : PS X st (TSo G W f)) (h2 : PSs X rest (TSo G W g)) : PSs X (st :: rest) (TSo G W (sSeq f g)) :=
  pss_of (pss_cons h1 h2) fun E σ H ⟨F, r, e, p⟩ => by
    refine ⟨F, r, e, ?_⟩
    unfold sSeq at p
    cases hf : f r with
    | nx r1 => rw [hf] at p; exact fun F' H' σ' g' e' => ⟨F', r1, e', Pf.from g' p⟩
    | bk r1 => rw [hf] at p; exact p
    | ct r1 => rw [hf] at p; exact p
    | rt s r1 => rw [hf] at p; exact p
    | ex c d r1 => rw [hf] at p; exact p
    | st => rw [hf] at p; exact p
theorem ds_one {X : Cx} {st : Stmt} {f : En → Fl} (h1 : PS X st (TSo G W f)) : PSs X [st] (TSo G W f) := pss_one h1
theorem ds_pass {X : Cx} {pos : Pos} : PS X (.Pass pos) (TSo G W sNil) := ps_of ps_pass fun E σ H ⟨F, r, e, p⟩ => p F H σ (Go.refl fun _ z => z) e
def sBrk : En → Fl := fun r => .bk r
theorem ds_brk {X : Cx} {pos : Pos} : PS X (.Break pos) (TSo G W sBrk) := ps_of ps_break fun E σ H ⟨F, r, e, p⟩ => p F H σ (Go.refl fun _ z => z) e
/-- a statement that is never reached -/
def sSt : En → Fl := fun _ => .st
theorem ds_never {X : Cx} {st : Stmt} : PS X st (TSo G W sSt) := ps_of ps_never fun E σ H ⟨F, r, e, p⟩ => p
def sIf (c : En → R Bool) (f g : En → Fl) : En → Fl := fun r => rF (c r) fun k r1 => if k = true then f r1 else g r1
theorem ds_if {X : Cx} {c : Expr} {a b : List Stmt} {fc : En → R Bool} {f g : En → Fl} {pos : Pos} (hc : PT X c (TTo G W fc)) (ha : PSs X a (TSo G W f)) (hb : PSs X b (TSo G W g)) : PS X (.If c a b pos) (TSo G W (sIf fc f g)) :=
  ps_of (ps_if hc ha hb) fun E σ H ⟨F, r, e, p⟩ => ⟨F, r, e, Pf.ofR p fun a r1 F1 H1 b _ e1 q p1 => by
    have q : b = a := q
    subst q
    cases b with
    | true => exact ⟨F1, r1, e1, p1⟩
    | false => exact ⟨F1, r1, e1, p1⟩⟩
def sRet (f : En → R D) : En → Fl := fun r => rF (f r) fun d r1 => .rt (.vl d) r1
theorem ds_ret {X : Cx} {a : Expr} {f : En → R D} {pos : Pos} (ha : PE X a (TEo G W f)) : PS X (.Return (some a) pos) (TSo G W (sRet f)) :=
  ps_of (ps_ret ha) fun E σ H ⟨F, r, e, p⟩ => ⟨F, r, e, Pf.ofR p fun d r1 F1 H1 v _ e1 q p1 => p1 F1 H1 σ v (Go.refl fun a z => own_val e1.len z) (e1.val q)⟩
def sRetX (f : En → R Sl) : En → Fl := fun r => rF (f r) fun s r1 => .rt s r1
theorem ds_retX {X : Cx} {a : Expr} {f : En → R Sl} {pos : Pos} (ha : PE X a (TXo G W f)) : PS X (.Return (some a) pos) (TSo G W (sRetX f)) :=
  ps_of (ps_ret ha) fun E σ H ⟨F, r, e, p⟩ => by
    refine ⟨F, r, e, ?_⟩
    unfold sRetX rF at p
    cases hf : f r with
    | ok s r1 => rw [hf] at p; exact fun F' H' v g e' => p F' H' σ v g e'
    | ex c d r' => rw [hf] at p; exact fun F' H' cls dd g e x => p F' H' σ cls dd g e x
    | st => rw [hf] at p; exact p
def sRetN : En → Fl := fun r => .rt (.vl .none) r
theorem ds_retN {X : Cx} {pos : Pos} : PS X (.Return none pos) (TSo G W sRetN) :=
  ps_of ps_retN fun E σ H ⟨F, r, e, p⟩ => p F H σ .non (Go.refl fun a z => own_val e.len z) (e.val .non)
/-- the end of a block is None's return where nothing follows -/
def sDrop (f : En → R D) : En → Fl := fun r => rF (f r) fun _ r1 => .nx r1
theorem ds_expr {X : Cx} {a : Expr} {f : En → R D} {pos : Pos} (ha : PE X a (TEo G W f)) (hs : swapsWith a none pos.line X.env = pure false := by rfl) : PS X (.Expr a pos) (TSo G W (sDrop f)) :=
  ps_of (ps_expr ha hs) fun E σ H ⟨F, r, e, p⟩ => ⟨F, r, e, Pf.ofR p fun d r1 F1 H1 v _ e1 q p1 => p1 F1 H1 σ (Go.refl fun _ z => z) e1⟩

/-! ### stores -/
theorem get_set {α : Type} {l : List α} {i j : Nat} {x y : α} (h : (l.set i x)[j]? = some y) : (j = i ∧ y = x ∧ i < l.length) ∨ (j ≠ i ∧ l[j]? = some y) := by
  by_cases e : j = i
  · subst e
    by_cases hl : j < l.length
    · rw [List.getElem?_set_self hl] at h
      cases h
      exact .inl ⟨rfl, rfl, hl⟩
    · rw [List.getElem?_eq_none (by simpa using hl)] at h
      cases h
  · rw [List.getElem?_set_ne (Ne.symm e)] at h
    exact .inr ⟨e, h⟩
/-- a name gets what the last one holds -/
theorem Rel.store {i : Nat} {v : V} {s : Sl} (h : Rel G F H (σ ++ [some v]) (r ++ [s])) : Rel G F H (σ.set i (some v)) (r.set i s) := by
  have h0 := h.init
  refine ⟨h.sub, h.ntb, h.tabs, by simp [h0.len], fun j t w e1 e2 => ?_, fun j k s' t p e1 e2 m1 m2 e3 e4 => ?_⟩
  · rcases get_set e1 with ⟨a, b, c⟩ | ⟨a, b⟩
    · rcases get_set e2 with ⟨_, b2, _⟩ | ⟨a2, _⟩
      · subst b; subst b2; exact h.last
      · exact absurd a a2
    · rcases get_set e2 with ⟨a2, _, _⟩ | ⟨_, b2⟩
      · exact absurd a2 a
      · exact h0.slot j t w b b2
  · have hl := h0.len
    have at_last : ∀ {u : Sl} {m : Nat}, m = i → (r.set i s)[m]? = some u → (σ.set i (some v))[m]? = some (some (.ref p)) → u = s ∧ v = .ref p := fun {u m} hm e e' => by
      rcases get_set e with ⟨_, b, _⟩ | ⟨a, _⟩
      · rcases get_set e' with ⟨_, b', _⟩ | ⟨a', _⟩
        · cases b'; exact ⟨b, rfl⟩
        · exact absurd hm a'
      · exact absurd hm a
    have at_old : ∀ {u : Sl} {m : Nat}, m ≠ i → (r.set i s)[m]? = some u → (σ.set i (some v))[m]? = some (some (.ref p)) → r[m]? = some u ∧ σ[m]? = some (some (.ref p)) := fun {u m} hm e e' => by
      rcases get_set e with ⟨a, _, _⟩ | ⟨_, b⟩
      · exact absurd a hm
      · rcases get_set e' with ⟨a', _, _⟩ | ⟨_, b'⟩
        · exact absurd a' hm
        · exact ⟨b, b'⟩
    have cross : ∀ {u : Sl} {m : Nat}, m ≠ i → (r.set i s)[m]? = some u → u.mine = true → (σ.set i (some v))[m]? = some (some (.ref p)) → s.mine = true → v = .ref p → False := fun {u m} hm e mu e' ms ev => by
      obtain ⟨b, b'⟩ := at_old hm e e'
      have hi := (List.getElem?_eq_some_iff.mp b).1
      have z := h.apart m r.length u s p (by rw [get_snoc hi]; exact b) get_last mu ms (by rw [get_snoc (by rw [hl]; exact hi)]; exact b') (by rw [← hl, ev]; exact get_last)
      omega
    by_cases hj : j = i
    · by_cases hk : k = i
      · rw [hj, hk]
      · obtain ⟨u1, u2⟩ := at_last hj e1 e3
        subst u1
        exact (cross hk e2 m2 e4 m1 u2).elim
    · by_cases hk : k = i
      · obtain ⟨u1, u2⟩ := at_last hk e2 e4
        subst u1
        exact (cross hj e1 m1 e3 m2 u2).elim
      · obtain ⟨b1, c1⟩ := at_old hj e1 e3
        obtain ⟨b2, c2⟩ := at_old hk e2 e4
        exact h0.apart j k s' t p b1 b2 m1 m2 c1 c2
theorem own_store {i : Nat} {v : V} {s : Sl} (hl : σ.length = r.length) {a : Addr} (h : oA (σ.set i (some v)) (r.set i s) a) : oA (σ ++ [some v]) (r ++ [s]) a := by
  obtain ⟨j, t, e1, m, e2⟩ := h
  rcases get_set e1 with ⟨a1, b, c⟩ | ⟨a1, b⟩
  · rcases get_set e2 with ⟨_, b2, _⟩ | ⟨a2, _⟩
    · subst b; cases b2; exact ⟨r.length, t, get_last, m, by rw [← hl]; exact get_last⟩
    · exact absurd a1 a2
  · rcases get_set e2 with ⟨a2, _, _⟩ | ⟨_, b2⟩
    · exact absurd a2 a1
    · exact own_init hl a ⟨j, t, b, m, b2⟩
/-- a target: what the names hold behind it -/
def TGo (G : Gm) (ix : List Nat) (t : D → En → Option En) : TG := fun v σ H Q => ∃ F r d, Rel G F H σ r ∧ Rp G F v d ∧ ∃ r', t d r = some r' ∧ ∀ σ', Rel G F H σ' r' → (∀ a, oA σ' r' a → oA σ r a) → (σ'.length = σ.length ∧ ∀ j, j ∉ ix → σ'[j]? = σ[j]?) → Q σ' H
def TGso (G : Gm) (ix : List Nat) (t : List D → En → Option En) : TGs := fun vs σ H Q => ∃ F r ds, Rel G F H σ r ∧ RpL G F vs ds ∧ ∃ r', t ds r = some r' ∧ ∀ σ', Rel G F H σ' r' → (∀ a, oA σ' r' a → oA σ r a) → (σ'.length = σ.length ∧ ∀ j, j ∉ ix → σ'[j]? = σ[j]?) → Q σ' H
def gN (i : Nat) : D → En → Option En := fun d r => some (r.set i (.vl d))
def gsN : List D → En → Option En := fun ds r => match ds with
  | [] => some r
  | _ => none
def gsC (t : D → En → Option En) (u : List D → En → Option En) : List D → En → Option En := fun ds r => match ds with
  | d :: ds => (t d r).bind fun r1 => u ds r1
  | [] => none
def gT (n : Nat) (u : List D → En → Option En) : D → En → Option En := fun d r => match d with
  | .tuple ds => if ds.length = n then u ds r else none
  | _ => none
theorem pg_of {X : Cx} {e : Expr} {t t' : TG} (h : PG X e t) (k : ∀ v σ H Q, t' v σ H Q → t v σ H Q) : PG X e t' := ⟨fun pins s σ H v u Q I rr q => h.run pins s σ H v u Q I rr (k _ _ _ _ q)⟩
theorem pgs_of {X : Cx} {e : List Expr} {t t' : TGs} (h : PGs X e t) (k : ∀ v σ H Q, t' v σ H Q → t v σ H Q) : PGs X e t' := ⟨fun pins s σ H v u Q I rr q => h.run pins s σ H v u Q I rr (k _ _ _ _ q)⟩
theorem dg_name {X : Cx} {i : Nat} {x : Str} {pos : Pos} (hN : X.N.Nodup) (hi : X.N[i]? = some x := by rfl) (hx : Loc X.env.scope x := by first | exact Or.inl rfl | exact Or.inr rfl) (hf : X.fn x = true ∨ X.env.scope.names.lookup x = some .local := by first | exact .inl rfl | exact .inr rfl) : PG X (.Name x pos) (TGo G [i] (gN i)) :=
  pg_of (pg_name hN hi hx hf) fun v σ H Q ⟨F, r, d, e, q, r', h, k⟩ => by
    cases h
    exact k _ (e.val q).store (fun a z => own_val e.len (own_store e.len z)) ⟨List.length_set, fun j hj => List.getElem?_set_ne fun z => hj (by rw [← z]; exact List.mem_cons_self)⟩
theorem dgs_nil {X : Cx} : PGs X [] (TGso G [] gsN) := pgs_of pgs_nil fun vs σ H Q ⟨F, r, ds, e, q, r', h, k⟩ => by
  cases q with
  | nil => cases h; exact ⟨rfl, k σ e (fun _ z => z) ⟨rfl, fun _ _ => rfl⟩⟩
  | cons _ _ => cases h
theorem dgs_cons {X : Cx} {e : Expr} {es : List Expr} {i1 i2 : List Nat} {t : D → En → Option En} {u : List D → En → Option En} (h1 : PG X e (TGo G i1 t)) (h2 : PGs X es (TGso G i2 u)) (hs : (assignEach (e :: es) X.env).map (·.2) = assign e X.env :: (assignEach es X.env).map (·.2) := by rfl) : PGs X (e :: es) (TGso G (i1 ++ i2) (gsC t u)) :=
  pgs_of (pgs_cons h1 h2 hs) fun vs σ H Q ⟨F, r, ds, e, q, r', h, k⟩ => by
    cases q with
    | nil => cases h
    | @cons v vs d ds q1 q2 =>
      refine ⟨v, vs, rfl, F, r, d, e, q1, ?_⟩
      have h : (t d r).bind (fun r1 => u ds r1) = some r' := h
      cases ht : t d r with
      | none => rw [ht] at h; cases h
      | some r1 =>
        rw [ht] at h
        exact ⟨r1, rfl, fun σ1 e1 o1 w1 => ⟨F, r1, ds, e1, q2, r', h, fun σ2 e2 o2 w2 => k σ2 e2 (fun a z => o1 a (o2 a z)) ⟨w2.1.trans w1.1, fun j hj => (w2.2 j fun z => hj (List.mem_append_right _ z)).trans (w1.2 j fun z => hj (List.mem_append_left _ z))⟩⟩⟩
theorem dg_tup {X : Cx} {es : List Expr} {k : Nat} {pos : Pos} {n : Nat} {ix : List Nat} {u : List D → En → Option En} (hK : X.K = G.K) (hc : X.calm = true) (h : PGs X es (TGso G ix u)) (hn : (assignEach es X.env).length = n := by rfl) (hst : (assignEach es X.env).findIdx? (·.1) = none := by rfl) : PG X (.Tuple es k pos) (TGo G ix (gT n u)) :=
  pg_of (pg_tup hc h hn hst) fun v σ H Q ⟨F, r, d, e, q, r', hh, kk⟩ => by
    cases q with
    | @tup a xs ds hs hv =>
      have hh : (if ds.length = n then u ds r else none) = some r' := hh
      split at hh
      · rename_i hl
        exact ⟨a, xs, rfl, by rw [hK]; exact e.sub.t hs, by rw [hv.len]; exact hl, F, r, ds, e, hv, r', hh, kk⟩
      · cases hh
    | _ => cases hh
def sAsg (f : En → R D) (t : D → En → Option En) : En → Fl := fun r => rF (f r) fun d r1 => match t d r1 with
  | some r2 => .nx r2
  | none => .st
theorem Pf.asg {t : D → En → Option En} {E : Ends} {d : D} {v : V} (e1 : Rel G F H σ r) (q : Rp G F v d) {ix : List Nat} (p : Pf G W (match t d r with | some r2 => .nx r2 | none => .st) F H σ r E) : TGo G ix t v σ H E.nx := by
  refine ⟨F, r, d, e1, q, ?_⟩
  cases ht : t d r with
  | none => rw [ht] at p; exact p.elim
  | some r2 => rw [ht] at p; exact ⟨r2, rfl, fun σ' e' o _ => p F H σ' (Go.refl o) e'⟩
theorem ds_asg {X : Cx} {tg a : Expr} {f : En → R D} {ix : List Nat} {t : D → En → Option En} {pos : Pos} (ha : PE X a (TEo G W f)) (hg : PG X tg (TGo G ix t)) (hs : swapsWithSole [tg] a pos.line X.env = pure false := by rfl) (hw : swappedStores [tg] a X.env = pure none := by rfl)
    (h1 : (assignEach [tg] X.env).map (·.2) = [assign tg X.env] := by rfl) : PS X (.Assign [tg] a pos) (TSo G W (sAsg f t)) :=
  ps_of (ps_asg ha hg hs hw h1) fun E σ H ⟨F, r, e, p⟩ => ⟨F, r, e, Pf.ofR p fun d r1 F1 H1 v _ e1 q p1 => Pf.asg e1 q p1⟩
/-- name = an own value -/
def sAsgX (f : En → R Sl) (i : Nat) : En → Fl := fun r => rF (f r) fun s r1 => .nx (r1.set i s)
theorem tAsgX_of {i : Nat} {f : En → R Sl} (E : Ends) (σ : L2.St) (H : Hp) : TSo G W (sAsgX f i) E σ H → tAsg (TXo G W f) (gName i) E σ H := fun ⟨F, r, e, p⟩ => by
  refine ⟨F, r, e, ?_⟩
  unfold sAsgX rF at p
  cases hf : f r with
  | ok s r1 =>
    rw [hf] at p
    intro F' H' v g e'
    have hl : σ.length = r1.length := e'.init.len
    exact p F' H' _ (g.wide (fun _ z => z) fun x z => g.own x (own_store hl z)) e'.store
  | ex c d r' => rw [hf] at p; exact fun F' H' cls dd g e x => p F' H' σ cls dd g e x
  | st => rw [hf] at p; exact p
theorem ds_setX {X : Cx} {i : Nat} {x : Str} {a : Expr} {f : En → R Sl} {pos pos' : Pos} (hN : X.N.Nodup) (ha : PE X a (TXo G W f)) (hi : X.N[i]? = some x := by rfl) (hx : Loc X.env.scope x := by first | exact Or.inl rfl | exact Or.inr rfl) (hs : swapsWith a (some (.Name x pos')) pos.line X.env = pure false := by rfl)
    (hf : X.fn x = true ∨ X.env.scope.names.lookup x = some .local := by first | exact .inl rfl | exact .inr rfl) : PS X (.Assign [.Name x pos'] a pos) (TSo G W (sAsgX f i)) :=
  ps_of (ps_set hN hi hx ha hs hf) tAsgX_of
/-- name = data -/
def sSet (f : En → R D) (i : Nat) : En → Fl := fun r => rF (f r) fun d r1 => .nx (r1.set i (.vl d))
theorem tSet_of {i : Nat} {f : En → R D} (E : Ends) (σ : L2.St) (H : Hp) : TSo G W (sSet f i) E σ H → tAsg (TEo G W f) (gName i) E σ H := fun ⟨F, r, e, p⟩ =>
  ⟨F, r, e, Pf.ofR p fun d r1 F1 H1 v _ e1 q p1 => p1 F1 H1 _ (Go.refl fun a z => own_val e1.len (own_store e1.len z)) (e1.val q).store⟩
theorem ds_set {X : Cx} {i : Nat} {x : Str} {a : Expr} {f : En → R D} {pos pos' : Pos} (hN : X.N.Nodup) (ha : PE X a (TEo G W f)) (hi : X.N[i]? = some x := by rfl) (hx : Loc X.env.scope x := by first | exact Or.inl rfl | exact Or.inr rfl) (hs : swapsWith a (some (.Name x pos')) pos.line X.env = pure false := by rfl)
    (hf : X.fn x = true ∨ X.env.scope.names.lookup x = some .local := by first | exact .inl rfl | exact .inr rfl) : PS X (.Assign [.Name x pos'] a pos) (TSo G W (sSet f i)) :=
  ps_of (ps_set hN hi hx ha hs hf) tSet_of
end
end DL
set_option maxHeartbeats 4000000
/-! DLd: own lists read and changed; loops, comprehensions. -/
namespace DL
open PySem L2

/-- the list that a name holds, own or not -/
def Sl.items : Sl → Option (List D)
  | .ow ds => some ds
  | .io ds => some ds
  | .fr ds => some ds
  | .vl (.list ds) => some ds
  | _ => none
def Sl.mut : Sl → Option (List D)
  | .ow ds => some ds
  | .io ds => some ds
  | _ => none
def Sl.put (s : Sl) (ds : List D) : Sl := match s with
  | .ow _ => .ow ds
  | .io _ => .io ds
  | s => s
section
variable {G : Gm} {W : WX} {F H F1 H1 : Hp} {σ σ1 : L2.St} {r r1 : En}
theorem SlOk.items {v : Option V} {s : Sl} {ds : List D} (h : SlOk G F H v s) (hs : Sub F H) (e : s.items = some ds) : ∃ p vs, v = some (.ref p) ∧ SqL G.K H p vs ∧ RpL G F vs ds := by
  cases s with
  | no => cases e
  | od _ => cases e
  | ow es => cases e; obtain ⟨p, e1, _, vs, h1, h2⟩ := h; exact ⟨p, vs, e1, SqL.of h1, h2⟩
  | io es => cases e; obtain ⟨e1, _, vs, h1, h2⟩ := h; exact ⟨_, vs, e1, SqL.of h1, h2⟩
  | vl d =>
    cases d with
    | list es =>
      cases e
      obtain ⟨x, e1, q⟩ := h
      cases q with
      | lst h1 h2 => exact ⟨_, _, e1, SqL.of (hs _ _ h1), h2⟩
    | _ => cases e
  | fr es => cases e; obtain ⟨p, vs, e1, h1, h2⟩ := h; exact ⟨p, vs, e1, hs.l h1, h2⟩
theorem SlOk.mut {v : Option V} {s : Sl} {ds : List D} (h : SlOk G F H v s) (e : s.mut = some ds) : ∃ p vs, v = some (.ref p) ∧ F p = none ∧ H p = some (.lst vs) ∧ RpL G F vs ds ∧ s.mine = true := by
  cases s with
  | no => cases e
  | od _ => cases e
  | fr _ => cases e
  | vl _ => cases e
  | ow es => cases e; obtain ⟨p, e1, h0, vs, h1, h2⟩ := h; exact ⟨p, vs, e1, h0, h1, h2, rfl⟩
  | io es => cases e; obtain ⟨e1, h0, vs, h1, h2⟩ := h; exact ⟨_, vs, e1, h0, h1, h2, rfl⟩
/-- a list that a name holds is changed in place -/
theorem Rel.write {i : Nat} {s : Sl} {ds ds' : List D} {p : Addr} {vs' : List V} (h : Rel G F H σ r) (hi : r[i]? = some s) (hm : s.mut = some ds) (hp : σ[i]? = some (some (.ref p))) (q : RpL G F vs' ds') :
    Go F H (oA σ r) F (upd H p (.lst vs')) (oA σ (r.set i (s.put ds'))) ∧ Rel G F (upd H p (.lst vs')) σ (r.set i (s.put ds')) := by
  obtain ⟨p', vs, e1, hF, hH, hv, mine⟩ := (h.slot i s _ hi hp).mut hm
  cases e1
  have hil : i < r.length := (List.getElem?_eq_some_iff.mp hi).1
  have hmine : (s.put ds').mine = true := by cases s <;> first | rfl | cases hm
  have hown : oA σ r p := ⟨i, s, hi, mine, hp⟩
  have own' : ∀ a, oA σ (r.set i (s.put ds')) a → oA σ r a := fun a ⟨j, t, e1, m, e2⟩ => by
    rcases get_set e1 with ⟨a1, b, _⟩ | ⟨_, b⟩
    · subst a1; exact ⟨j, s, hi, mine, e2⟩
    · exact ⟨j, t, b, m, e2⟩
  refine ⟨⟨Sub.refl F, fun a o e => .inl e, fun a o e n _ => ?_, fun a e => .inl (own' a e), fun a e => ?_⟩, ?_⟩
  · rw [upd_ne (fun z => n (by subst z; exact hown))]
    exact e
  · by_cases hb : a = p
    · subst hb; rw [upd_same] at e; cases e
    · rw [upd_ne hb] at e; exact e
  · refine ⟨fun a u e => ?_, h.ntb, ?_, by simp [h.len], fun j t w e1 e2 => ?_, fun j k t u a e1 e2 m1 m2 e3 e4 => ?_⟩
    · rw [upd_ne (ne_of_none e hF)]
      exact h.sub a u e
    · intro c hc
      obtain ⟨ps, a1, a2, a3⟩ := h.tabs c hc
      have n1 : c.1 ≠ p := fun z => by rw [z, hH] at a1; cases a1
      refine ⟨ps, by rw [upd_ne n1]; exact a1, a2, fun pos cv hcv => ?_⟩
      obtain ⟨c0, b1, b2⟩ := a3 pos cv hcv
      have n2 : c0 ≠ p := fun z => by rw [z, hH] at b2; cases b2
      exact ⟨c0, b1, by rw [upd_ne n2]; exact b2⟩
    · rcases get_set e1 with ⟨a1, b, _⟩ | ⟨a1, b⟩
      · subst a1; subst b
        rw [hp] at e2; cases e2
        cases s with
        | no => cases hm
        | od _ => cases hm
        | fr _ => cases hm
        | vl _ => cases hm
        | ow es => exact ⟨p, rfl, hF, vs', upd_same, q⟩
        | io es =>
          obtain ⟨e5, _⟩ := h.slot j _ _ hi hp
          cases e5
          exact ⟨rfl, hF, vs', upd_same, q⟩
      · refine (h.slot j t w b e2).mono (Sub.refl F) fun a m ew => ⟨((h.slot j t w b e2).own m ew).1, fun o e _ => ?_⟩
        have ne : a ≠ p := fun z => a1 (by subst z; subst ew; exact h.apart j i t s a b hi m mine e2 hp)
        rw [upd_ne ne]
        exact e
    · have old : ∀ {m : Nat} {w : Sl}, (r.set i (s.put ds'))[m]? = some w → w.mine = true → ∃ w', r[m]? = some w' ∧ w'.mine = true := fun {m w} e mw => by
        rcases get_set e with ⟨a1, b, _⟩ | ⟨_, b⟩
        · subst a1; exact ⟨s, hi, mine⟩
        · exact ⟨w, b, mw⟩
      obtain ⟨t', b1, c1⟩ := old e1 m1
      obtain ⟨u', b2, c2⟩ := old e2 m2
      exact h.apart j k t' u' a b1 b2 c1 c2 e3 e4

/-! ### own lists read -/
/-- x[e], x a name that holds a list, own or not -/
def ixD (ds : List D) (y : D) : Option D := match y with
  | .int k => atI ds k
  | _ => none
def Sl.has : Option Sl → Bool
  | none => false
  | some .no => false
  | _ => true
theorem Rel.has {i : Nat} (h : Rel G F H σ r) (e : Sl.has r[i]? = true) : ∃ v, σ[i]? = some (some v) := by
  cases hs : r[i]? with
  | none => rw [hs] at e; cases e
  | some s =>
    obtain ⟨v, e1, q⟩ := h.at hs
    cases s with
    | no => rw [hs] at e; cases e
    | vl d => obtain ⟨x, e2, _⟩ := q; subst e2; exact ⟨x, e1⟩
    | fr d => obtain ⟨x, _, e2, _⟩ := q; subst e2; exact ⟨_, e1⟩
    | ow d => obtain ⟨x, e2, _⟩ := q; subst e2; exact ⟨_, e1⟩
    | od d => obtain ⟨x, e2, _⟩ := q; subst e2; exact ⟨_, e1⟩
    | io d => obtain ⟨e2, _⟩ := q; subst e2; exact ⟨_, e1⟩
def Sl.isM : Option Sl → Bool
  | some (.ow _) => true
  | some (.io _) => true
  | _ => false
theorem Rel.isM {i : Nat} (h : Rel G F H σ r) (e : Sl.isM r[i]? = true) : ∃ p vs, σ[i]? = some (some (.ref p)) ∧ H p = some (.lst vs) := by
  cases hs : r[i]? with
  | none => rw [hs] at e; cases e
  | some s =>
    obtain ⟨v, e1, q⟩ := h.at hs
    cases s with
    | ow d => obtain ⟨p, e2, _, vs, h1, _⟩ := q; subst e2; exact ⟨p, vs, e1, h1⟩
    | io d => obtain ⟨e2, _, vs, h1, _⟩ := q; subst e2; exact ⟨_, vs, e1, h1⟩
    | _ => rw [hs] at e; cases e
/-- what the name i holds behind g -/
def eIxO (i : Nat) (g : En → R D) : En → R D := fun r => if Sl.has r[i]? = true then (g r).bind fun y r1 => match r1[i]? with
  | some s => match s.items with
    | some ds => liftO (ixD ds y) r1
    | none => .st
  | none => .st
  else .st
theorem RpLI.atI {K : PySem.W.Frag} {fns : Nat → Option Addr} {F : Hp} {vs : List V} {ds : List D} {k : Int} {d : D} (h : RpLI K fns F vs ds) (e : atI ds k = some d) : ∃ v, atI vs k = some v ∧ RpI K fns F v d := by
  unfold L2.atI at e ⊢
  rw [h.len]
  cases hk : ixN ds.length k with
  | none => rw [hk] at e; cases e
  | some j =>
    rw [hk] at e
    exact h.get e
variable {X : Cx} {a b : Expr} {pos pos2 : Pos} {f g : En → R D}
theorem de_ixO {i : Nat} {x : Str} {p : Pos} (hK : X.K = G.K) (hb : PE X b (TEo G W g)) (hN : X.N[i]? = some x := by rfl) (hv : Vis X.env.scope x := by first | exact Or.inl rfl | exact Or.inr (Or.inl rfl) | exact Or.inr (Or.inr rfl)) (hs : PlainIx b := by exact fun _ _ => rfl)
    (hd : (x == ("__debug__" : Str)) = false := by decide) (hcd : (x == ("__classdict__" : Str)) = false := by decide) : PE X (.Subscript (.Name x p) b pos) (TEo G W (eIxO i g)) :=
  pe_of (pe_ix ix_list (pe_var hN hv hd hcd) hb hs) fun σ H Q ⟨F, r, e, q⟩ => by
    unfold eIxO at q
    by_cases hh : Sl.has r[i]? = true
    case neg => rw [if_neg hh] at q; exact q.elim
    rw [if_pos hh] at q
    obtain ⟨v, hv⟩ := e.has hh
    refine ⟨v, hv, F, r, e, (Pt.bind (rel1 := rV G) q).mono fun w H1 ⟨y, F1, r1, _, e1, q1, p1⟩ => ?_⟩
    cases hs : r1[i]? with
    | none => rw [hs] at p1; exact p1.elim
    | some s =>
      rw [hs] at p1
      cases hds : s.items with
      | none => simp only [hds] at p1; exact p1.elim
      | some ds =>
        simp only [hds] at p1
        obtain ⟨d, hd', k⟩ := liftO_here e1 p1
        obtain ⟨pa, vs, ev, h1, h2⟩ := (e1.slot i s _ hs hv).items e1.sub hds
        cases ev
        cases q1 with
        | int j =>
          obtain ⟨z, hz, qz⟩ := h2.atI hd'
          exact ⟨pa, vs, j, z, rfl, rfl, by rw [hK]; exact h1, hz, k _ _ _ (Ext.refl _ _) qz⟩
        | _ => cases hd'
/-- len(x) -/
def eLenO (i : Nat) : En → R D := fun r => match r[i]? with
  | some s => match s.items with
    | some ds => .ok (.int ds.length) r
    | none => .st
  | none => .st
theorem de_lenO {i : Nat} {x : Str} {p p2 : Pos} (hK : X.K = G.K) (hm : X.mg "len" = none) (hv0 : bootBuiltins "len" = some (.builtin "len")) (hN : X.N[i]? = some x := by rfl) (hv : Vis X.env.scope x := by first | exact Or.inl rfl | exact Or.inr (Or.inl rfl) | exact Or.inr (Or.inr rfl)) (hg : Gl X "len" := by rfl)
    (hd : (x == ("__debug__" : Str)) = false := by decide) (hcd : (x == ("__classdict__" : Str)) = false := by decide) : PE X (.Call (.Name "len" p2) [.Name x p] [] pos) (TEo G W (eLenO i)) :=
  pe_of (pe_callB call_len_seq hg hm hv0 (pa_cons (pe_var hN hv hd hcd) pa_nil)) fun σ H Q ⟨F, r, e, q⟩ => by
    unfold eLenO at q
    cases hs : r[i]? with
    | none => rw [hs] at q; exact q.elim
    | some s =>
      rw [hs] at q
      cases hds : s.items with
      | none => simp only [hds] at q; exact q.elim
      | some ds =>
        simp only [hds] at q
        obtain ⟨v, e1, ok⟩ := e.at hs
        obtain ⟨pa, vs, ev, h1, h2⟩ := ok.items e.sub hds
        subst ev
        refine ⟨_, e1, pa, vs, rfl, .inl (by rw [hK]; exact h1), ?_⟩
        rw [h2.len]
        exact Pt.here q e (Ext.refl _ _) (.int _)
/-- a name's value, frozen from now on -/
def eVF (i : Nat) : En → R D := fun r => match r[i]? with
  | some (.vl d) => .ok d r
  | some (.ow ds) => .ok (.list ds) (r.set i (.vl (.list ds)))
  | _ => .st
theorem set_id {α : Type} : ∀ {l : List α} {i : Nat} {x : α}, l[i]? = some x → l.set i x = l
  | [], _, _, h => by simp at h
  | a :: l, 0, x, h => by simp at h; subst h; rfl
  | a :: l, i + 1, x, h => by
    have := set_id (l := l) (i := i) (x := x) (by simpa using h)
    simp [this]
/-- a name's own value is handed on: the name is done with -/
theorem Rel.move {i : Nat} {s : Sl} {v : V} (h : Rel G F H σ r) (hi : r[i]? = some s) (hv : σ[i]? = some (some v)) : Rel G F H (σ ++ [some v]) (r.set i .no ++ [s]) ∧ ∀ a, oA (σ ++ [some v]) (r.set i .no ++ [s]) a → oA σ r a := by
  have h1 : Rel G F H σ (r.set i .no) := by
    refine ⟨h.sub, h.ntb, h.tabs, by simp [h.len], fun j t w e1 e2 => ?_, fun j k t u a e1 e2 m1 m2 e3 e4 => ?_⟩
    · rcases get_set e1 with ⟨_, b, _⟩ | ⟨_, b⟩
      · subst b; trivial
      · exact h.slot j t w b e2
    · rcases get_set e1 with ⟨_, b, _⟩ | ⟨_, b⟩
      · subst b; cases m1
      · rcases get_set e2 with ⟨_, b2, _⟩ | ⟨_, b2⟩
        · subst b2; cases m2
        · exact h.apart j k t u a b b2 m1 m2 e3 e4
  have sub : ∀ a, oA σ (r.set i .no) a → oA σ r a := fun a ⟨j, t, e1, m, e2⟩ => by
    rcases get_set e1 with ⟨_, b, _⟩ | ⟨_, b⟩
    · subst b; cases m
    · exact ⟨j, t, b, m, e2⟩
  refine ⟨h1.snoc (h.slot i s _ hi hv) fun p m ev z => ?_, fun a z => ?_⟩
  · obtain ⟨j, t, e1, m2, e2⟩ := z
    rcases get_set e1 with ⟨_, b, _⟩ | ⟨n, b⟩
    · subst b; cases m2
    · subst ev
      exact n (h.apart j i t s p b hi m2 m e2 hv)
  · rcases own_snoc (by rw [List.length_set]; exact h.len) z with z | ⟨m, ev⟩
    · exact sub a z
    · subst ev
      exact ⟨i, s, hi, m, hv⟩
theorem de_varF (i : Nat) {x : Str} {pos : Pos} (hN : X.N[i]? = some x := by rfl) (hv : Vis X.env.scope x := by first | exact Or.inl rfl | exact Or.inr (Or.inl rfl) | exact Or.inr (Or.inr rfl)) (hd : (x == ("__debug__" : Str)) = false := by decide)
    (hcd : (x == ("__classdict__" : Str)) = false := by decide) : PE X (.Name x pos) (TEo G W (eVF i)) :=
  pe_of (pe_var hN hv hd hcd) fun σ H Q ⟨F, r, e, p⟩ => by
    unfold eVF at p
    split at p
    · rename_i d hr
      obtain ⟨v, e1, x, e2, q⟩ := e.at hr
      subst e2
      exact ⟨x, e1, Pt.here p e (Ext.refl _ _) q⟩
    · rename_i ds hr
      obtain ⟨v, e1, ok⟩ := e.at hr
      have ok' := ok
      obtain ⟨pa, e2, _⟩ := ok'
      subst e2
      obtain ⟨m1, m2⟩ := e.move hr e1
      obtain ⟨F2, s2, n2, e3, q3⟩ := m1.frz
      refine ⟨_, e1, ?_⟩
      have e4 := (e3.val q3).store (i := i)
      rw [List.set_set] at e4
      rw [set_id e1] at e4
      have q5 : Rp G F2 (.ref pa) (.list ds) := q3
      refine p F2 H (.ref pa) ⟨s2, fun a o z => ?_, fun a o z _ _ => z, fun a z => .inl ?_, fun a z => z⟩ e4 q5
      · rcases n2 a o z with z | z
        · exact .inl z
        · cases z
          exact .inr (.inr ⟨i, .ow ds, hr, rfl, e1⟩)
      · obtain ⟨j, t, f1, m, f2⟩ := z
        rcases get_set f1 with ⟨_, b, _⟩ | ⟨_, b⟩
        · subst b; cases m
        · exact ⟨j, t, b, m, f2⟩
    · exact p.elim
def sRetV (i : Nat) : En → Fl := fun r => match r[i]? with
  | some .no => .st
  | some s => .rt s (r.set i .no)
  | none => .st
theorem ds_retV (i : Nat) {x : Str} {pos : Pos} (hN : X.N[i]? = some x := by rfl) (hv : Vis X.env.scope x := by first | exact Or.inl rfl | exact Or.inr (Or.inl rfl) | exact Or.inr (Or.inr rfl)) (hd : (x == ("__debug__" : Str)) = false := by decide)
    (hcd : (x == ("__classdict__" : Str)) = false := by decide) : PS X (.Return (some (.Name x pos)) pos2) (TSo G W (sRetV i)) :=
  ps_of (ps_ret (pe_var hN hv hd hcd)) fun E σ H ⟨F, r, e, p⟩ => by
    unfold sRetV at p
    split at p
    · exact p.elim
    · rename_i s hns hr
      have hh : Sl.has r[i]? = true := by rw [hr]; cases s <;> first | rfl | exact absurd rfl hns
      obtain ⟨v, e1⟩ := e.has hh
      obtain ⟨m1, m2⟩ := e.move hr e1
      exact ⟨v, e1, p F H σ v (Go.refl m2) m1⟩
    · exact p.elim

/-! ### own lists changed -/
def sApp (i : Nat) (f : En → R D) : En → Fl := fun r => if Sl.isM r[i]? = true then rF (f r) fun d r1 => match r1[i]? with
  | some s => match s.mut with
    | some ds => if ds.length < 1000000 then .nx (r1.set i (s.put (ds ++ [d]))) else .st
    | none => .st
  | none => .st
  else .st
theorem small6 {n : Nat} (h : n ≤ 1000000) : n ≤ sizeLine := Nat.le_trans h (by decide)
theorem small6' {n : Nat} (h : n < 1000000) : n < sizeLine := Nat.lt_of_lt_of_le h (by decide)
theorem ds_app {i : Nat} {x : Str} {p apos cpos ppos : Pos} (hK : X.K = G.K) (ha : PE X a (TEo G W f)) (hN : X.N[i]? = some x := by rfl) (hv : Vis X.env.scope x := by first | exact Or.inl rfl | exact Or.inr (Or.inl rfl) | exact Or.inr (Or.inr rfl))
    (hbase : attributeBase (.Name x p) "append" X.env (eval (.Name x p) X.env) = eval (.Name x p) X.env := by rfl)
    (hfew : ((backTo cpos (starEach [a] X.env)).all (fun x => !x.1) && (backToKw cpos (keywordEach [] X.env)).all (fun x => x.1.isSome)
      && decide ([a].length + ([] : List Keyword).length + (if ([] : List Keyword).isEmpty then 0 else 1) < 30)) = true := by rfl)
    (hline : (apos.endLine == cpos.line) = true := by rfl) (hs : starEach [a] X.env = (false, eval a X.env) :: starEach [] X.env := by rfl) (hplain : (backTo cpos (starEach [] X.env)).any (·.1) = false := by rfl)
    (hsw : swapsWith (.Call (.Attribute (.Name x p) "append" apos) [a] [] cpos) none ppos.line X.env = pure false := by rfl)
    (hd : (x == ("__debug__" : Str)) = false := by decide) (hcd : (x == ("__classdict__" : Str)) = false := by decide) : PS X (.Expr (.Call (.Attribute (.Name x p) "append" apos) [a] [] cpos) ppos) (TSo G W (sApp i f)) :=
  ps_of (ps_expr (pe_bm PySem.F.plainAttrs_list PySem.F.slot_list_append PySem.F.type_list_append mt_append (pe_var hN hv hd hcd) (pa_cons ha pa_nil hs) hbase hfew hline hs hplain) hsw) fun E σ H ⟨F, r, e, q⟩ => by
    unfold sApp at q
    by_cases hh : Sl.isM r[i]? = true
    case neg => rw [if_neg hh] at q; exact q.elim
    rw [if_pos hh] at q
    obtain ⟨pa, vs0, hv, hp0⟩ := e.isM hh
    refine ⟨_, hv, .inl ⟨rfl, _, SqL.of hp0⟩, F, r, e, ?_⟩
    refine Pf.ofR q fun d r1 F1 H1 w _ e1 q1 p1 => ?_
    cases hs : r1[i]? with
    | none => rw [hs] at p1; exact p1.elim
    | some s =>
      rw [hs] at p1
      cases hds : s.mut with
      | none => simp only [hds] at p1; exact p1.elim
      | some ds =>
        simp only [hds] at p1
        split at p1
        · rename_i hz
          obtain ⟨pa, vs, ev, h1, h2, h3, _⟩ := (e1.slot i s _ hs hv).mut hds
          cases ev
          obtain ⟨g, e2⟩ := e1.write hs hds hv (h3.append (.cons q1 .nil))
          exact ⟨pa, vs, w, rfl, rfl, h2, small6' (by rw [h3.len]; exact hz), p1 _ _ _ g e2⟩
        · exact p1.elim
/-- x.extend(e), e a new list -/
def sExt (i : Nat) (f : En → R Sl) : En → Fl := fun r => if Sl.isM r[i]? = true then rF (f r) fun s' r1 => match s' with
  | .ow es => match r1[i]? with
    | some s => match s.mut with
      | some ds => if ds.length + es.length ≤ 1000000 then .nx (r1.set i (s.put (ds ++ es))) else .st
      | none => .st
    | none => .st
  | _ => .st
  else .st
theorem ds_ext {i : Nat} {x : Str} {fx : En → R Sl} {p apos cpos ppos : Pos} (hK : X.K = G.K) (ha : PE X a (TXo G W fx)) (hN : X.N[i]? = some x := by rfl) (hv : Vis X.env.scope x := by first | exact Or.inl rfl | exact Or.inr (Or.inl rfl) | exact Or.inr (Or.inr rfl))
    (hbase : attributeBase (.Name x p) "extend" X.env (eval (.Name x p) X.env) = eval (.Name x p) X.env := by rfl)
    (hfew : ((backTo cpos (starEach [a] X.env)).all (fun x => !x.1) && (backToKw cpos (keywordEach [] X.env)).all (fun x => x.1.isSome)
      && decide ([a].length + ([] : List Keyword).length + (if ([] : List Keyword).isEmpty then 0 else 1) < 30)) = true := by rfl)
    (hline : (apos.endLine == cpos.line) = true := by rfl) (hs : starEach [a] X.env = (false, eval a X.env) :: starEach [] X.env := by rfl) (hplain : (backTo cpos (starEach [] X.env)).any (·.1) = false := by rfl)
    (hsw : swapsWith (.Call (.Attribute (.Name x p) "extend" apos) [a] [] cpos) none ppos.line X.env = pure false := by rfl)
    (hd : (x == ("__debug__" : Str)) = false := by decide) (hcd : (x == ("__classdict__" : Str)) = false := by decide) : PS X (.Expr (.Call (.Attribute (.Name x p) "extend" apos) [a] [] cpos) ppos) (TSo G W (sExt i fx)) :=
  ps_of (ps_expr (pe_bm PySem.F.plainAttrs_list PySem.F.slot_list_extend PySem.F.type_list_extend mt_extend (pe_var hN hv hd hcd) (pa_cons ha pa_nil hs) hbase hfew hline hs hplain) hsw) fun E σ H ⟨F, r, e, q⟩ => by
    unfold sExt at q
    by_cases hh : Sl.isM r[i]? = true
    case neg => rw [if_neg hh] at q; exact q.elim
    rw [if_pos hh] at q
    obtain ⟨pa, vs0, hv, hp0⟩ := e.isM hh
    refine ⟨_, hv, .inl ⟨rfl, _, SqL.of hp0⟩, F, r, e, ?_⟩
    unfold rF at q
    cases hf : fx r with
    | st => rw [hf] at q; exact q.elim
    | ex c d r' => rw [hf] at q; exact fun F' H' cls dd g e x => q F' H' σ cls dd g e x
    | ok s' r1 =>
      rw [hf] at q
      intro F1 H1 w g1 e1
      cases s' with
      | ow es =>
        simp only at q
        cases hs : r1[i]? with
        | none => rw [hs] at q; exact q.elim
        | some s =>
          rw [hs] at q
          cases hds : s.mut with
          | none => simp only [hds] at q; exact q.elim
          | some ds =>
            simp only [hds] at q
            split at q
            · rename_i hz
              obtain ⟨pb, ev, hFb, ws, hHb, hwb⟩ := e1.last
              cases ev
              have e0 := e1.init
              obtain ⟨pa, vs, ev, h1, h2, h3, _⟩ := (e0.slot i s _ hs hv).mut hds
              cases ev
              obtain ⟨g, e2⟩ := e0.write hs hds hv (h3.append hwb)
              refine ⟨pa, pb, vs, ws, rfl, rfl, h2, hHb, small6 (by rw [h3.len, hwb.len]; exact hz), q _ _ _ (Go.trans ?_ g) e2⟩
              exact g1.wide (fun _ z => z) fun a z => g1.own a (own_init (by rw [e0.len]) a z)
            · exact q.elim
      | _ => exact q.elim
/-- x[i] = e -/
def sSetIx (i : Nat) (fe fi : En → R D) : En → Fl := fun r => rF (fe r) fun d r1 => if Sl.isM r1[i]? = true then rF (fi r1) fun y r2 => match r2[i]? with
  | some s => match s.mut with
    | some ds => match y with
      | .int k => match ixN ds.length k with
        | some j => .nx (r2.set i (s.put (ds.set j d)))
        | none => .st
      | _ => .st
    | none => .st
  | none => .st
  else .st
theorem ds_setIx {i : Nat} {x : Str} {p spos : Pos} (hK : X.K = G.K) (ha : PE X a (TEo G W f)) (hb : PE X b (TEo G W g)) (hN : X.N[i]? = some x := by rfl) (hv : Vis X.env.scope x := by first | exact Or.inl rfl | exact Or.inr (Or.inl rfl) | exact Or.inr (Or.inr rfl))
    (hs : swapsWithSole [.Subscript (.Name x p) b spos] a pos.line X.env = pure false := by rfl) (hw : swappedStores [.Subscript (.Name x p) b spos] a X.env = pure none := by rfl)
    (h1 : (assignEach [.Subscript (.Name x p) b spos] X.env).map (·.2) = [assign (.Subscript (.Name x p) b spos) X.env] := by rfl)
    (hasg : ∀ v, assign (.Subscript (.Name x p) b spos) X.env v = (do
      let ov ← holding [v] (eval (.Name x p) X.env)
      let iv ← holding [v, ov] (eval b X.env)
      standAt spos
      holding [v, ov, iv] (setItem ov iv v)
      release [v, ov, iv] []) := by intro _; rfl)
    (hd : (x == ("__debug__" : Str)) = false := by decide) (hcd : (x == ("__classdict__" : Str)) = false := by decide) : PS X (.Assign [.Subscript (.Name x p) b spos] a pos) (TSo G W (sSetIx i f g)) :=
  ps_of (ps_asg ha (pg_sub (pe_var hN hv hd hcd) hb set_list hasg) hs hw h1) fun E σ H ⟨F, r, e, q⟩ => ⟨F, r, e, Pf.ofR q fun d r1 F1 H1 w s1 e1 q1 p1 => by
    by_cases hh : Sl.isM r1[i]? = true
    case neg => rw [if_neg hh] at p1; exact p1.elim
    rw [if_pos hh] at p1
    obtain ⟨pa, vs0, hv, hp0⟩ := e1.isM hh
    refine ⟨_, hv, F1, r1, e1, Pf.ofR p1 fun y r2 F2 H2 u s2 e2 q2 p2 => ?_⟩
    cases hs : r2[i]? with
    | none => rw [hs] at p2; exact p2.elim
    | some s =>
      rw [hs] at p2
      cases hds : s.mut with
      | none => simp only [hds] at p2; exact p2.elim
      | some ds =>
        simp only [hds] at p2
        cases q2 with
        | int k =>
          simp only at p2
          cases hk : ixN ds.length k with
          | none => rw [hk] at p2; exact p2.elim
          | some j =>
            rw [hk] at p2
            obtain ⟨pa, vs, ev, h1, h2, h3, _⟩ := (e2.slot i s _ hs hv).mut hds
            cases ev
            obtain ⟨g, e3⟩ := e2.write hs hds hv (h3.set (q1.mono s2) j)
            exact ⟨pa, vs, k, j, rfl, rfl, h2, by rw [h3.len]; exact hk, p2 _ _ _ g e3⟩
        | _ => exact p2.elim⟩
end

/-! ### loops -/
section
variable {G : Gm} {W : WX} {F H F1 H1 : Hp} {σ σ1 : L2.St} {r r1 : En} {X : Cx}
def whileD (c : En → R Bool) (f : En → Fl) : Nat → En → Fl
  | 0, _ => .st
  | n + 1, r => rF (c r) fun k r1 => if k = true then (match f r1 with
      | .nx r2 => whileD c f n r2
      | .ct r2 => whileD c f n r2
      | .bk r2 => .nx r2
      | o => o) else .nx r1
theorem ds_while {c : Expr} {body : List Stmt} {fc : En → R Bool} {fb : En → Fl} {pos : Pos} (n : Nat) (hp : PassesOwn (model X.prog X.w) X.A X.env X.xe) (hc : PT X c (TTo G W fc)) (hb : PSs X body (TSo G W fb)) : PS X (.While c body [] pos) (TSo G W (whileD fc fb n)) :=
  ps_of (ps_while hp hc hb) fun E σ H ⟨F, r, e, p⟩ => by
    refine ⟨fun m σ H => ∃ F r, Rel G F H σ r ∧ Pf G W (whileD fc fb m r) F H σ r E, ⟨n, F, r, e, p⟩, ?_⟩
    rintro m σ H ⟨F, r, e, p⟩
    cases m with
    | zero => exact p.elim
    | succ m =>
      refine ⟨F, r, e, Pf.ofR p fun k r1 F1 H1 b _ e1 q p1 => ?_⟩
      have q : b = k := q
      subst q
      cases b with
      | false => exact p1 F1 H1 σ (Go.refl fun _ z => z) e1
      | true =>
        rw [if_pos rfl] at p1 ⊢
        refine ⟨fun σ' H' => ∃ F r, Rel G F H' σ' r ∧ Pf G W (whileD fc fb m r) F H' σ' r E, fun σ' H' z => ⟨m, Nat.lt_succ_self m, z⟩, F1, r1, e1, ?_⟩
        cases hf : fb r1 with
        | nx r2 => rw [hf] at p1; exact fun F' H' σ' g e' => ⟨F', r2, e', Pf.from g p1⟩
        | ct r2 => rw [hf] at p1; exact fun F' H' σ' g e' => ⟨F', r2, e', Pf.from g p1⟩
        | bk r2 => rw [hf] at p1; exact p1
        | rt s r2 => rw [hf] at p1; exact p1
        | ex c d r2 => rw [hf] at p1; exact p1
        | st => rw [hf] at p1; exact p1.elim
/-- what is walked gives the data ds, one by one, as long as F0 is frozen -/
structure Yl (G : Gm) (J : It) (F0 : Hp) (ds : List D) : Prop where
  go : ∀ i F H, Sub F0 F → Sub F H → i < ds.length → J.go i H ∧ ∀ x H', J.yld i H x H' → ∃ F' d, ds[i]? = some d ∧ Ext F H F' H' ∧ Rp G F' x d
  stop : ∀ i F H, Sub F0 F → Sub F H → ds.length = i → J.stop i H
def TIo (G : Gm) (W : WX) (f : En → R (List D)) : TI := fun σ H Q => ∃ F r, Rel G F H σ r ∧ match f r with
  | .ok ds r' => ∀ F' H' J, Go F H (oA σ r) F' H' (oA σ r') → Rel G F' H' σ r' → Yl G J F' ds → Q J H'
  | .ex c d r' => ∀ F' H' cls dd, Go F H (oA σ r) F' H' (oA σ r') → Rel G F' H' σ r' → XOk G F' H' c d cls dd → W cls dd σ H'
  | .st => False
theorem pi_of {tg e : Expr} {t t' : TI} (h : PI X tg e t) (k : ∀ σ H Q, t' σ H Q → t σ H Q) : PI X tg e t' := ⟨fun pins s σ H Q I q => h.run pins s σ H Q I (k σ H Q q)⟩
def forD (t : D → En → Option En) (f : En → Fl) : List D → En → Fl
  | [], r => .nx r
  | d :: ds, r => match t d r with
    | none => .st
    | some r1 => match f r1 with
      | .nx r2 => forD t f ds r2
      | .ct r2 => forD t f ds r2
      | .bk r2 => .nx r2
      | o => o
def sFor (it : En → R (List D)) (t : D → En → Option En) (f : En → Fl) : En → Fl := fun r => rF (it r) fun ds r1 => forD t f ds r1
theorem drop_get {α : Type} {l : List α} {i : Nat} {x : α} (h : l[i]? = some x) : l.drop i = x :: l.drop (i + 1) := by
  obtain ⟨hi, e⟩ := List.getElem?_eq_some_iff.mp h
  rw [List.drop_eq_getElem_cons hi, e]
theorem ds_for {tg iter : Expr} {body : List Stmt} {fi : En → R (List D)} {ix : List Nat} {t : D → En → Option En} {fb : En → Fl} {pos : Pos} (hp : PassesOwn (model X.prog X.w) X.A X.env X.xe) (hc : X.calm = true) (hi : PI X tg iter (TIo G W fi)) (hg : PG X tg (TGo G ix t)) (hb : PSs X body (TSo G W fb))
    (hs : ∀ x, foldedSetIterable iter X.env x = pure x := by intro _; rfl) : PS X (.For tg iter body [] pos) (TSo G W (sFor fi t fb)) :=
  ps_of (ps_for hp hc hi hg hb hs) fun E σ H ⟨F, r, e, p⟩ => by
    refine ⟨F, r, e, ?_⟩
    unfold sFor rF at p
    cases hf : fi r with
    | st => rw [hf] at p; exact p
    | ex c d r' => rw [hf] at p; exact fun F' H' cls dd g e x => p F' H' σ cls dd g e x
    | ok ds r0 =>
      rw [hf] at p
      intro F0 H0 J g0 e0 y
      have p := Pf.from g0 p
      refine ⟨fun i m σ' H' => m + i = ds.length ∧ ∃ F' r', Sub F0 F' ∧ Rel G F' H' σ' r' ∧ Pf G W (forD t fb (ds.drop i) r') F' H' σ' r' E, ⟨ds.length, rfl, F0, r0, Sub.refl _, e0, p⟩, ?_⟩
      rintro i m σ' H' ⟨hm, F', r', s', e', p'⟩
      by_cases hlt : i < ds.length
      · obtain ⟨go, yl⟩ := y.go i F' H' s' e'.sub hlt
        refine .inr ⟨go, fun σ2 H2 => ∃ F2 r2, Sub F0 F2 ∧ Rel G F2 H2 σ2 r2 ∧ Pf G W (forD t fb (ds.drop (i + 1)) r2) F2 H2 σ2 r2 E, fun σ2 H2 z => ⟨m - 1, by omega, by omega, z⟩, fun x H2 hy => ?_⟩
        obtain ⟨F2, d, hd, x2, q2⟩ := yl x H2 hy
        rw [drop_get hd] at p'
        have e2 := e'.ext x2
        have p' := Pf.from (r1 := r') (x2.goO fun _ z => z) p'
        refine ⟨F2, r', d, e2, q2, ?_⟩
        unfold forD at p'
        cases ht : t d r' with
        | none => rw [ht] at p'; exact p'.elim
        | some r3 =>
          rw [ht] at p'
          refine ⟨r3, rfl, fun σ3 e3 o3 _ => ⟨F2, r3, e3, ?_⟩⟩
          have p' := Pf.from (Go.refl o3) p'
          have s2 := s'.trans x2.go.sub
          cases hb : fb r3 with
          | nx r4 => simp only [hb] at p'; exact fun F4 H4 σ4 g4 e4 => ⟨F4, r4, s2.trans g4.sub, e4, Pf.from g4 p'⟩
          | ct r4 => simp only [hb] at p'; exact fun F4 H4 σ4 g4 e4 => ⟨F4, r4, s2.trans g4.sub, e4, Pf.from g4 p'⟩
          | bk r4 => simp only [hb] at p'; exact p'
          | rt s r4 => simp only [hb] at p'; exact p'
          | ex c d r4 => simp only [hb] at p'; exact p'
          | st => simp only [hb] at p'; exact p'.elim
      · have hi : ds.length = i := by omega
        refine .inl ⟨y.stop i F' H' s' e'.sub hi, ?_⟩
        rw [List.drop_eq_nil_of_le (by omega)] at p'
        exact p' F' H' σ' (Go.refl fun _ z => z) e'
end
end DL
set_option maxHeartbeats 4000000
/-! DLe: x op= e, x[i] op= e; comprehensions; what is walked. -/
namespace DL
open PySem L2
section
variable {G : Gm} {W : WX} {F H F1 H1 : Hp} {σ σ1 : L2.St} {r r1 : En} {X : Cx} {a b : Expr} {pos : Pos} {f g : En → R D}
/-- a list's item, by values -/
theorem get_listV : PGet X (rIxL X.K) := by
  intro pins s σ H o i ov iv Q I ro ri h
  obtain ⟨p, xs, k, z, rfl, rfl, hq, he, q⟩ := h
  cases ro
  obtain ⟨t, rfl⟩ := ri
  obtain ⟨its, rr, pl, hz⟩ := I.list hq
  obtain ⟨j, e1, e2, e3, e4, e5⟩ := atI_get he
  obtain ⟨w, ew, rw'⟩ := rr.get e2
  have len := rr.length
  have big : (sizeLine : Nat) < 2 ^ 63 := line63
  by_cases up : 0 ≤ k
  · have ej : k.toNat = j := by
      rw [seqIndex_of up e5] at e1
      exact Option.some.inj e1
    exact wpAny_getItem_list pl.isList up (by omega) (by rw [ej]; simpa using ew) ⟨z, H, I, rw', q⟩
  · have ej : (k + (its.toArray.size : Int)).toNat = j := by
      rw [PySem.seqIndex_neg (by omega) e4] at e1
      rw [List.size_toArray, ← len]
      exact Option.some.inj e1
    exact wpAny_getItem_list_neg pl.isList (by omega) (by rw [List.size_toArray] <;> omega) (by omega) (by rw [ej]; simpa using ew) ⟨z, H, I, rw', q⟩
/-- an operation in place, by values -/
def IpD (G : Gm) (t : TIp) (o : D → D → Option D) : Prop := OpD G t o
def sAug (i : Nat) (o : D → D → Option D) (f : En → R D) : En → Fl := fun r => match r[i]? with
  | some (.vl x) => rF (f r) fun y r1 => match o x y with
    | some d => .nx (r1.set i (.vl d))
    | none => .st
  | _ => .st
theorem ds_aug {i : Nat} {x : Str} {op : Operator} {t : TIp} {o : D → D → Option D} {pos' : Pos} (hN : X.N.Nodup) (ho : PIp X op t) (hd : IpD G t o) (ha : PE X a (TEo G W f)) (hi : X.N[i]? = some x := by rfl) (hx : Loc X.env.scope x := by first | exact Or.inl rfl | exact Or.inr rfl)
    (hf : X.fn x = true ∨ X.env.scope.names.lookup x = some .local := by first | exact .inl rfl | exact .inr rfl) : PS X (.AugAssign (.Name x pos') op a pos) (TSo G W (sAug i o f)) :=
  ps_of (ps_aug hN hi hx ha ho hf) fun E σ H ⟨F, r, e, p⟩ => by
    unfold sAug at p
    split at p
    · rename_i d0 hr
      obtain ⟨v, e1, x, e2, q⟩ := e.at hr
      subst e2
      refine ⟨x, e1, F, r, e, Pf.ofR p fun y r1 F1 H1 w s1 e3 q1 p1 => ?_⟩
      cases ho : o d0 y with
      | none => rw [ho] at p1; exact p1.elim
      | some d =>
        rw [ho] at p1
        refine hd d0 y d F1 H1 x w _ ho e3.sub (q.mono s1) q1 fun F2 H2 z x2 q2 => ?_
        have e4 := (e3.ext x2)
        exact p1 F2 H2 _ ((x2.goO fun _ z => z).wide (fun _ z => z) fun a z => .inl (own_val e4.len (own_store e4.len z))) (e4.val q2).store
    · exact p.elim
/-- x[i] op= e -/
def sAugIx (i : Nat) (gi : En → R D) (o : D → D → Option D) (f : En → R D) : En → Fl := fun r => if Sl.isM r[i]? = true then rF (gi r) fun y r1 => match r1[i]? with
  | some s1 => match s1.items with
    | some ds1 => match ixD ds1 y with
      | some x => rF (f r1) fun z r2 => match r2[i]? with
        | some s => match s.mut with
          | some ds => match y with
            | .int k => match ixN ds.length k with
              | some j => match o x z with
                | some d => .nx (r2.set i (s.put (ds.set j d)))
                | none => .st
              | none => .st
            | _ => .st
          | none => .st
        | none => .st
      | none => .st
    | none => .st
  | none => .st
  else .st
theorem ds_augIx {i : Nat} {x : Str} {op : Operator} {t : TIp} {o : D → D → Option D} {p spos : Pos} (hK : X.K = G.K) (ho : PIp X op t) (hd : IpD G t o) (hb : PE X b (TEo G W g)) (ha : PE X a (TEo G W f)) (hN : X.N[i]? = some x := by rfl) (hv : Vis X.env.scope x := by first | exact Or.inl rfl | exact Or.inr (Or.inl rfl) | exact Or.inr (Or.inr rfl))
    (hst : ∀ ov iv new, augStore b ov iv new = (do holding [new, ov, iv] (setItem ov iv new); release [new, ov, iv] []; pure .next) := by intros; rfl)
    (hdb : (x == ("__debug__" : Str)) = false := by decide) (hcd : (x == ("__classdict__" : Str)) = false := by decide) : PS X (.AugAssign (.Subscript (.Name x p) b spos) op a pos) (TSo G W (sAugIx i g o f)) :=
  ps_of (ps_augS (pe_var hN hv hdb hcd) hb get_listV ha ho set_list hst) fun E σ H ⟨F, r, e, q⟩ => by
    unfold sAugIx at q
    by_cases hh : Sl.isM r[i]? = true
    case neg => rw [if_neg hh] at q; exact q.elim
    rw [if_pos hh] at q
    obtain ⟨pa, vs0, hv, hp0⟩ := e.isM hh
    refine ⟨_, hv, F, r, e, Pf.ofR q fun y r1 F1 H1 w s1 e1 q1 p1 => ?_⟩
    cases hs1 : r1[i]? with
    | none => rw [hs1] at p1; exact p1.elim
    | some t1 =>
      rw [hs1] at p1
      cases hds1 : t1.items with
      | none => simp only [hds1] at p1; exact p1.elim
      | some ds1 =>
        simp only [hds1] at p1
        cases hx : ixD ds1 y with
        | none => rw [hx] at p1; exact p1.elim
        | some x1 =>
          rw [hx] at p1
          obtain ⟨pb, vs1, ev, h1, h2⟩ := (e1.slot i t1 _ hs1 hv).items e1.sub hds1
          cases ev
          cases q1 with
          | int k =>
            obtain ⟨xv, hxv, qx⟩ := h2.atI hx
            refine ⟨pa, vs1, k, xv, rfl, rfl, by rw [hK]; exact h1, hxv, F1, r1, e1, Pf.ofR p1 fun z r2 F2 H2 zv s2 e2 q2 p2 => ?_⟩
            cases hs2 : r2[i]? with
            | none => rw [hs2] at p2; exact p2.elim
            | some t2 =>
              rw [hs2] at p2
              cases hds2 : t2.mut with
              | none => simp only [hds2] at p2; exact p2.elim
              | some ds =>
                simp only [hds2] at p2
                cases hk : ixN ds.length k with
                | none => rw [hk] at p2; exact p2.elim
                | some j =>
                  rw [hk] at p2
                  cases hod : o x1 z with
                  | none => simp only [hod] at p2; exact p2.elim
                  | some d =>
                    simp only [hod] at p2
                    refine hd x1 z d F2 H2 xv zv _ hod e2.sub (qx.mono s2) q2 fun F3 H3 zz x3 q3 => ?_
                    have e3 := e2.ext x3
                    obtain ⟨pc, vs, ev, h1, h2, h3, _⟩ := (e3.slot i t2 _ hs2 hv).mut hds2
                    cases ev
                    obtain ⟨g, e4⟩ := e3.write hs2 hds2 hv (h3.set q3 j)
                    exact ⟨pa, vs, k, j, rfl, rfl, h2, by rw [h3.len]; exact hk, p2 _ _ _ ((x3.goO fun _ z => z).trans g) e4⟩
          | _ => cases hx

/-! ### comprehensions -/
def wipeD (r : En) : List Nat → En
  | [] => r
  | v :: vs => (wipeD r vs).set v .no
/-- the names of the comprehension hold again what they held -/
def backD (r1 r2 : En) : List Nat → En
  | [] => r2
  | v :: vs => (backD r1 r2 vs).set v (r1.getD v .no)
theorem wipeD_length (r : En) : ∀ vs, (wipeD r vs).length = r.length
  | [] => rfl
  | v :: vs => by unfold wipeD; rw [List.length_set, wipeD_length r vs]
theorem backD_length (r1 r2 : En) : ∀ vs, (backD r1 r2 vs).length = r2.length
  | [] => rfl
  | v :: vs => by unfold backD; rw [List.length_set, backD_length r1 r2 vs]
theorem wipeD_get {r : En} {i : Nat} {s : Sl} : ∀ {vs : List Nat}, (wipeD r vs)[i]? = some s → (i ∈ vs ∧ s = .no) ∨ (i ∉ vs ∧ r[i]? = some s)
  | [], h => .inr ⟨by simp, h⟩
  | v :: vs, h => by
    unfold wipeD at h
    rcases get_set h with ⟨a, b, _⟩ | ⟨a, b⟩
    · exact .inl ⟨by rw [a]; exact List.mem_cons_self, b⟩
    · rcases wipeD_get b with ⟨c, d⟩ | ⟨c, d⟩
      · exact .inl ⟨List.mem_cons_of_mem _ c, d⟩
      · exact .inr ⟨by simp [a, c], d⟩
theorem wipe_get {σ : L2.St} {i : Nat} {v : V} : ∀ {vs : List Nat}, (wipe σ vs)[i]? = some (some v) → i ∉ vs ∧ σ[i]? = some (some v)
  | vs, h => let ⟨a, b⟩ := wipe_some h; ⟨b, a⟩
theorem wipe_out' {σ : L2.St} {i : Nat} {vs : List Nat} (h : i ∉ vs) : (wipe σ vs)[i]? = σ[i]? := wipe_out h
theorem backD_get {r1 r2 : En} {i : Nat} {s : Sl} (hl : r1.length = r2.length) : ∀ {vs : List Nat}, (backD r1 r2 vs)[i]? = some s → (i ∈ vs ∧ r1[i]? = some s) ∨ (i ∉ vs ∧ r2[i]? = some s)
  | [], h => .inr ⟨by simp, h⟩
  | v :: vs, h => by
    unfold backD at h
    rcases get_set h with ⟨a, b, c⟩ | ⟨a, b⟩
    · rw [backD_length] at c
      refine .inl ⟨by rw [a]; exact List.mem_cons_self, ?_⟩
      rw [a, b]
      rw [List.getElem?_eq_getElem (by rw [hl]; exact c), List.getD_eq_getElem?_getD, List.getElem?_eq_getElem (by rw [hl]; exact c)] <;> rfl
    · rcases backD_get hl b with ⟨c, d⟩ | ⟨c, d⟩
      · exact .inl ⟨List.mem_cons_of_mem _ c, d⟩
      · exact .inr ⟨by simp [a, c], d⟩
theorem Rel.wipe (h : Rel G F H σ r) (vs : List Nat) : Rel G F H (L2.wipe σ vs) (wipeD r vs) ∧ ∀ a, oA (L2.wipe σ vs) (wipeD r vs) a → oA σ r a := by
  refine ⟨⟨h.sub, h.ntb, h.tabs, by rw [wipe_length, wipeD_length]; exact h.len, fun i s v e1 e2 => ?_, fun i j s t p e1 e2 m1 m2 e3 e4 => ?_⟩, fun a ⟨i, s, e1, m, e2⟩ => ?_⟩
  · rcases wipeD_get e1 with ⟨_, b⟩ | ⟨a, b⟩
    · subst b; trivial
    · rw [wipe_out' a] at e2; exact h.slot i s v b e2
  · rcases wipeD_get e1 with ⟨_, b⟩ | ⟨_, b⟩
    · subst b; cases m1
    · rcases wipeD_get e2 with ⟨_, b2⟩ | ⟨_, b2⟩
      · subst b2; cases m2
      · exact h.apart i j s t p b b2 m1 m2 (wipe_get e3).2 (wipe_get e4).2
  · rcases wipeD_get e1 with ⟨_, b⟩ | ⟨_, b⟩
    · subst b; cases m
    · exact ⟨i, s, b, m, (wipe_get e2).2⟩
theorem Rel.apart_new' {p : Addr} (h : Rel G F H σ r) (hp : H p = none) : ¬ oA σ r p := fun z => by
  obtain ⟨_, o, e, _⟩ := h.own z
  rw [hp] at e; cases e
/-- behind a comprehension -/
theorem Rel.back {r2 : En} {vs : List Nat} (h : Rel G F H σ r) (g : Go F H (oA (L2.wipe σ vs) (wipeD r vs)) F1 H1 (oA (L2.wipe σ vs) r2)) (h2 : Rel G F1 H1 (L2.wipe σ vs) r2) :
    Rel G F1 H1 σ (backD r r2 vs) ∧ ∀ a, oA σ (backD r r2 vs) a → oA σ r a ∨ H a = none := by
  have hl : r.length = r2.length := by have := h2.len; rw [wipe_length] at this; rw [← h.len]; exact this
  -- what a wiped name owned is not touched within
  have far : ∀ i s p, i ∈ vs → r[i]? = some s → s.mine = true → σ[i]? = some (some (.ref p)) → ¬ oA (L2.wipe σ vs) (wipeD r vs) p := fun i s p hi e1 m e2 ⟨j, t, f1, m2, f2⟩ => by
    rcases wipeD_get f1 with ⟨_, b⟩ | ⟨n, b⟩
    · subst b; cases m2
    · have z := h.apart i j s t p e1 b m m2 e2 (wipe_get f2).2
      subst z
      exact n hi
  have far2 : ∀ i s p, i ∈ vs → r[i]? = some s → s.mine = true → σ[i]? = some (some (.ref p)) → ¬ oA (L2.wipe σ vs) r2 p := fun i s p hi e1 m e2 z => by
    rcases g.own p z with z | z
    · exact far i s p hi e1 m e2 z
    · obtain ⟨_, o, e, _⟩ := h.own ⟨i, s, e1, m, e2⟩
      rw [e] at z; cases z
  have out : ∀ {i : Nat} {s : Sl} {p : Addr}, i ∉ vs → r2[i]? = some s → s.mine = true → σ[i]? = some (some (.ref p)) → oA (L2.wipe σ vs) r2 p := fun {i s p} n e1 m e2 => ⟨i, s, e1, m, by rw [wipe_out' n]; exact e2⟩
  refine ⟨⟨h2.sub, h2.ntb, h2.tabs, by rw [backD_length, ← hl]; exact h.len, fun i s v e1 e2 => ?_, fun i j s t p e1 e2 m1 m2 e3 e4 => ?_⟩, fun a ⟨i, s, e1, m, e2⟩ => ?_⟩
  · rcases backD_get hl e1 with ⟨a, b⟩ | ⟨a, b⟩
    · refine (h.slot i s v b e2).mono g.sub fun p m ev => ?_
      subst ev
      have nf := far i s p a b m e2
      obtain ⟨n1, o, n2, n3⟩ := h.own ⟨i, s, b, m, e2⟩
      refine ⟨?_, fun o' q1 q2 => g.keep p o' q1 nf q2⟩
      cases q : F1 p with
      | none => rfl
      | some u =>
        rcases g.new p u q with z | z | z
        · rw [n1] at z; cases z
        · rw [n2] at z; cases z
        · exact absurd z nf
    · exact h2.slot i s v b (by rw [wipe_out' a]; exact e2)
  · rcases backD_get hl e1 with ⟨a1, b1⟩ | ⟨a1, b1⟩
    · rcases backD_get hl e2 with ⟨a2, b2⟩ | ⟨a2, b2⟩
      · exact h.apart i j s t p b1 b2 m1 m2 e3 e4
      · exact absurd (out a2 b2 m2 e4) (far2 i s p a1 b1 m1 e3)
    · rcases backD_get hl e2 with ⟨a2, b2⟩ | ⟨a2, b2⟩
      · exact absurd (out a1 b1 m1 e3) (far2 j t p a2 b2 m2 e4)
      · exact h2.apart i j s t p b1 b2 m1 m2 (by rw [wipe_out' a1]; exact e3) (by rw [wipe_out' a2]; exact e4)
  · rcases backD_get hl e1 with ⟨a1, b1⟩ | ⟨a1, b1⟩
    · exact .inl ⟨i, s, b1, m, e2⟩
    · rcases g.own a (out a1 b1 m e2) with z | z
      · exact .inl ((h.wipe vs).2 a z)
      · exact .inr z
/-- the last name's own list is not touched by what goes on without it -/
theorem Rel.frame {v : V} {s : Sl} {σ2 : L2.St} {r2 : En} (h : Rel G F H (σ ++ [some v]) (r ++ [s])) (g : Go F H (oA σ r) F1 H1 (oA σ2 r2)) (h2 : Rel G F1 H1 σ2 r2) :
    Rel G F1 H1 (σ2 ++ [some v]) (r2 ++ [s]) ∧ Go F H (oA (σ ++ [some v]) (r ++ [s])) F1 H1 (oA (σ2 ++ [some v]) (r2 ++ [s])) := by
  have hl : σ.length = r.length := h.init.len
  have nown : ∀ p, s.mine = true → v = .ref p → ¬ oA σ r p := fun p m ev ⟨j, t, e1, m2, e2⟩ => by
    have hj := (List.getElem?_eq_some_iff.mp e1).1
    have z := h.apart j r.length t s p (by rw [get_snoc hj]; exact e1) get_last m2 m (by rw [get_snoc (by rw [hl]; exact hj)]; exact e2) (by rw [← hl, ev]; exact get_last)
    omega
  have tr : ∀ p, s.mine = true → v = .ref p → F p = none ∧ ∃ o, H p = some o ∧ (∀ ps, o ≠ .tbl ps) := fun p m ev => h.last.own m (by rw [ev])
  have ok : SlOk G F1 H1 (some v) s := h.last.mono g.sub fun p m ev => by
    cases ev
    obtain ⟨n1, o, n2, n3⟩ := tr p m rfl
    refine ⟨?_, fun o' q1 q2 => g.keep p o' q1 (nown p m rfl) q2⟩
    cases q : F1 p with
    | none => rfl
    | some u =>
      rcases g.new p u q with z | z | z
      · rw [n1] at z; cases z
      · rw [n2] at z; cases z
      · exact absurd z (nown p m rfl)
  have n2 : ∀ p, s.mine = true → v = .ref p → ¬ oA σ2 r2 p := fun p m ev z => by
    rcases g.own p z with z | z
    · exact nown p m ev z
    · obtain ⟨_, o, e, _⟩ := tr p m ev
      rw [e] at z; cases z
  refine ⟨h2.snoc ok n2, g.wide (own_init hl) fun a z => ?_⟩
  rcases own_snoc h2.len z with z | ⟨m, ev⟩
  · rcases g.own a z with z | z
    · exact .inl (own_init hl a z)
    · exact .inr z
  · exact .inl ⟨r.length, s, get_last, m, by rw [← hl, ev]; exact get_last⟩
theorem wipe_snoc {σ : L2.St} {x : Option V} : ∀ {vs : List Nat}, (∀ v ∈ vs, v < σ.length) → L2.wipe (σ ++ [x]) vs = L2.wipe σ vs ++ [x]
  | [], _ => rfl
  | v :: vs, h => by
    unfold L2.wipe
    rw [wipe_snoc fun w hw => h w (List.mem_cons_of_mem _ hw), List.set_append_left _ _ (by rw [wipe_length]; exact h v List.mem_cons_self)]
theorem wipeD_snoc {r : En} {x : Sl} : ∀ {vs : List Nat}, (∀ v ∈ vs, v < r.length) → wipeD (r ++ [x]) vs = wipeD r vs ++ [x]
  | [], _ => rfl
  | v :: vs, h => by
    unfold wipeD
    rw [wipeD_snoc fun w hw => h w (List.mem_cons_of_mem _ hw), List.set_append_left _ _ (by rw [wipeD_length]; exact h v List.mem_cons_self)]
theorem backD_snoc {r1 r2 : En} {x y : Sl} (hl : r2.length = r1.length) : ∀ {vs : List Nat}, (∀ v ∈ vs, v < r1.length) → backD (r1 ++ [x]) (r2 ++ [y]) vs = backD r1 r2 vs ++ [y]
  | [], _ => rfl
  | v :: vs, h => by
    have hv := h v List.mem_cons_self
    unfold backD
    rw [backD_snoc hl fun w hw => h w (List.mem_cons_of_mem _ hw), List.set_append_left _ _ (by rw [backD_length, hl]; exact hv)]
    rw [List.getD_eq_getElem?_getD, List.getD_eq_getElem?_getD, List.getElem?_append_left hv]
/-- the turns of a comprehension -/
def lcD (vs : List Nat) (t : D → En → Option En) (c : En → R Bool) (f : En → R D) : List D → En → List D → R (List D)
  | [], r, acc => .ok acc r
  | d :: ds, r, acc => match t d r with
    | none => .st
    | some r1 => match c r1 with
      | .ok true r2 => match f r2 with
        | .ok y r3 => if acc.length < 1000000 then lcD vs t c f ds (wipeD r3 vs) (acc ++ [y]) else .st
        | _ => .st
      | .ok false r2 => lcD vs t c f ds (wipeD r2 vs) acc
      | _ => .st
/-- [e for target in iter if test], the names of its own wiped -/
def xLc (vs : List Nat) (it : En → R (List D)) (t : D → En → Option En) (c : En → R Bool) (f : En → R D) : En → R Sl := fun r => (it r).bind fun ds r1 => match lcD vs t c f ds (wipeD r1 vs) [] with
  | .ok ys r2 => .ok (.ow ys) (backD r1 r2 vs)
  | _ => .st
def noW : WX := fun _ _ _ _ => False
theorem wipe_eq {σ σ2 : L2.St} {vs : List Nat} (hl : σ2.length = σ.length) (h : ∀ j, j ∉ vs → σ2[j]? = σ[j]?) : L2.wipe σ2 vs = L2.wipe σ vs := by
  refine List.ext_getElem? fun j => ?_
  by_cases hj : j ∈ vs
  · by_cases hlt : j < σ.length
    · have a : ∀ {τ : L2.St}, τ.length = σ.length → (L2.wipe τ vs)[j]? = some none := fun {τ} e => by
        have b : j < (L2.wipe τ vs).length := by rw [wipe_length, e]; exact hlt
        cases q : (L2.wipe τ vs)[j]? with
        | none => rw [List.getElem?_eq_none_iff] at q; omega
        | some o =>
          cases o with
          | none => rfl
          | some v => exact absurd hj (wipe_get q).1
      rw [a hl, a rfl]
    · rw [List.getElem?_eq_none (by rw [wipe_length]; omega), List.getElem?_eq_none (by rw [wipe_length]; omega)]
  · rw [wipe_out' hj, wipe_out' hj, h j hj]
theorem tLc_of {vs ix : List Nat} {fi : En → R (List D)} {t : D → En → Option En} {fc : En → R Bool} {fe : En → R D} (hix : ∀ j ∈ ix, j ∈ vs) (σ : L2.St) (H : Hp) (Q : VK) (hvs : ∀ v ∈ vs, v < σ.length) :
    TXo G W (xLc vs fi t fc fe) σ H Q → tLc (TIo G W fi) (TGo G ix t) (TTo G noW fc) (TEo G noW fe) vs σ H Q := fun ⟨F, r, e, p⟩ => by
  refine ⟨F, r, e, ?_⟩
  unfold xLc at p
  cases hf : fi r with
  | st => rw [hf] at p; exact p
  | ex c d r' => rw [hf] at p; exact p
  | ok ds r0 =>
    rw [hf] at p
    simp only [R.bind] at p
    intro F0 H0 J g0 e0 y Dl hD
    obtain ⟨gA, eA⟩ := e0.newL (ds := []) (vs := []) hD .nil
    obtain ⟨w0, o0⟩ := (e0.ext (Ext.made (o := .lst []) hD e0.sub)).wipe vs
    have w1 : Rel G F0 (upd H0 Dl (.lst [])) (L2.wipe σ vs ++ [some (.ref Dl)]) (wipeD r0 vs ++ [.ow []]) :=
      w0.snoc eA.last fun q _ ev z => by cases ev; exact e0.apart_new' hD (o0 _ z)
    cases hr : lcD vs t fc fe ds (wipeD r0 vs) [] with
    | st => rw [hr] at p; exact p.elim
    | ex c d r' => rw [hr] at p; exact p.elim
    | ok ys rz =>
      rw [hr] at p
      simp only at p
      refine ⟨fun i m H' => m + i = ds.length ∧ ∃ F' r' acc, Go F0 (upd H0 Dl (.lst [])) (oA (L2.wipe σ vs ++ [some (.ref Dl)]) (wipeD r0 vs ++ [.ow []])) F' H' (oA (L2.wipe σ vs ++ [some (.ref Dl)]) (r' ++ [Sl.ow acc])) ∧ Rel G F' H' (L2.wipe σ vs ++ [some (.ref Dl)]) (r' ++ [Sl.ow acc]) ∧ lcD vs t fc fe (ds.drop i) r' acc = .ok ys rz,
        ⟨ds.length, rfl, F0, wipeD r0 vs, [], Go.refl fun _ z => z, w1, hr⟩, ?_⟩
      rintro i m H' ⟨hm, F', r', acc, g', e', run⟩
      by_cases hlt : i < ds.length
      · obtain ⟨go, yl⟩ := y.go i F' H' g'.sub e'.sub hlt
        refine .inr ⟨go, fun H2 => ∃ F2 r2 acc2, Go F0 (upd H0 Dl (.lst [])) (oA (L2.wipe σ vs ++ [some (.ref Dl)]) (wipeD r0 vs ++ [.ow []])) F2 H2 (oA (L2.wipe σ vs ++ [some (.ref Dl)]) (r2 ++ [Sl.ow acc2])) ∧ Rel G F2 H2 (L2.wipe σ vs ++ [some (.ref Dl)]) (r2 ++ [Sl.ow acc2]) ∧ lcD vs t fc fe (ds.drop (i + 1)) r2 acc2 = .ok ys rz,
          fun H2 z => ⟨m - 1, by omega, by omega, z⟩, fun x H2 hy => ?_⟩
        obtain ⟨F2, d, hd, x2, q2⟩ := yl x H2 hy
        have e2 := e'.ext x2
        have g2 := g'.trans (x2.goO fun _ z => z)
        rw [drop_get hd] at run
        unfold lcD at run
        cases ht : t d r' with
        | none => simp only [ht] at run; cases run
        | some r1 =>
          simp only [ht] at run
          refine ⟨F2, r', d, e2.init, q2, r1, ht, fun σ3 e3 o3 k3 => ?_⟩
          have hw : L2.wipe σ3 vs = L2.wipe (L2.wipe σ vs) vs := wipe_eq k3.1 fun j hj => k3.2 j fun z => hj (hix j z)
          have hww : L2.wipe (L2.wipe σ vs) vs = L2.wipe σ vs := wipe_eq (wipe_length _ _) fun j hj => wipe_out' hj
          rw [hww] at hw
          refine ⟨hw, F2, r1, e3, ?_⟩
          obtain ⟨e3', g3'⟩ := e2.frame (Go.refl o3) e3
          cases hc : fc r1 with
          | st => simp only [hc] at run; cases run
          | ex c d r2 => simp only [hc] at run; cases run
          | ok k r2 =>
            intro F4 H4 b g4 e4 hb
            have hb : b = k := hb
            subst hb
            obtain ⟨e4', g4'⟩ := e3'.frame g4 e4
            have gall := (g2.trans g3').trans g4'
            have fin : ∀ {F5 H5 r5 acc5}, Rel G F5 H5 (σ3 ++ [some (.ref Dl)]) (r5 ++ [Sl.ow acc5]) → Rel G F5 H5 (L2.wipe σ vs ++ [some (.ref Dl)]) (wipeD r5 vs ++ [Sl.ow acc5]) ∧ ∀ a, oA (L2.wipe σ vs ++ [some (.ref Dl)]) (wipeD r5 vs ++ [Sl.ow acc5]) a → oA (σ3 ++ [some (.ref Dl)]) (r5 ++ [Sl.ow acc5]) a := fun {F5 H5 r5 acc5} e5 => by
              obtain ⟨w5, o5⟩ := e5.init.wipe vs
              rw [hw] at w5 o5
              obtain ⟨a1, a2⟩ := e5.frame (Go.refl (F := F5) (H := H5) o5) w5
              refine ⟨a1, fun a z => ?_⟩
              rcases own_snoc w5.len z with z | ⟨m, ev⟩
              · exact own_init e5.init.len a (o5 a z)
              · exact ⟨r5.length, _, get_last, m, by rw [← e5.init.len, ev]; exact get_last⟩
            cases b with
            | false =>
              simp only [hc] at run
              obtain ⟨a1, a2⟩ := fin e4'
              exact ⟨F4, _, acc, gall.trans (Go.refl a2), a1, run⟩
            | true =>
              simp only [hc] at run
              cases hfe : fe r2 with
              | st => simp only [hfe] at run; cases run
              | ex c d r3 => simp only [hfe] at run; cases run
              | ok yv r3 =>
                simp only [hfe] at run
                refine ⟨F4, r2, e4, ?_⟩
                rw [hfe]
                intro F5 H5 u g5 e5 qu
                obtain ⟨e5', g5'⟩ := e4'.frame g5 e5
                by_cases hz : acc.length < 1000000
                · rw [if_pos hz] at run
                  obtain ⟨pd, epd, hFd, vacc, hHd, hva⟩ := e5'.last
                  cases epd
                  have hix5 : (r3 ++ [Sl.ow acc])[r3.length]? = some (.ow acc) := get_last
                  have hix6 : (σ3 ++ [some (V.ref Dl)])[r3.length]? = some (some (.ref Dl)) := by rw [← e5.len]; exact get_last
                  obtain ⟨g6, e6⟩ := e5'.write hix5 (ds := acc) rfl hix6 (hva.append (.cons qu .nil))
                  have es : (r3 ++ [Sl.ow acc]).set r3.length (Sl.put (.ow acc) (acc ++ [yv])) = r3 ++ [Sl.ow (acc ++ [yv])] := by
                    rw [List.set_append_right _ _ (Nat.le_refl _), Nat.sub_self] <;> rfl
                  rw [es] at g6 e6
                  obtain ⟨a1, a2⟩ := fin e6
                  exact ⟨vacc, hHd, small6' (by rw [hva.len]; exact hz), F5, _, acc ++ [yv], ((gall.trans g5').trans g6).trans (Go.refl a2), a1, run⟩
                · rw [if_neg hz] at run
                  cases run
      · have hi : ds.length = i := by omega
        refine .inl ⟨y.stop i F' H' g'.sub e'.sub hi, ?_⟩
        rw [List.drop_eq_nil_of_le (by omega)] at run
        cases run
        have h0 : ∀ v ∈ vs, v < r0.length := fun v hv => by rw [← e0.len]; exact hvs v hv
        have hlz : rz.length = r0.length := by have := e'.init.len; rw [wipe_length] at this; rw [← this, e0.len]
        rw [← wipe_snoc hvs, ← wipeD_snoc h0] at g'
        rw [← wipe_snoc hvs] at e'
        obtain ⟨b1, b2⟩ := eA.back g' e'
        rw [backD_snoc (by rw [hlz]) h0] at b1 b2
        refine p F' H' _ ((g0.trans gA).trans ⟨g'.sub, fun a o z => (g'.new a o z).imp id fun z => z.imp id fun z => (eA.wipe vs).2 a z, fun a o z n => g'.keep a o z fun w => n ((eA.wipe vs).2 a w), b2, g'.there⟩) b1
variable {elt tg iter : Expr} {ifs : List Expr} {scope : Scope} {ix : List Nat} {nm : List (Str × Nat)} {fi : En → R (List D)} {t : D → En → Option En} {fc : En → R Bool} {fe : En → R D}
def tT : En → R Bool := fun r => .ok true r
theorem dts_nil : PTs X [] (TTo G W tT) := ⟨fun pins s σ H Q I ⟨F, r, e, p⟩ => pts_nil.run pins s σ H Q I (Pt.here p e (Ext.refl _ _) rfl)⟩
theorem dts_one {c : Expr} (h : PT X c (TTo G W fc)) : PTs X [c] (TTo G W fc) := pts_one h
theorem dx_lc (hc : X.calm = true) (hN : X.N.Nodup) (hi : PI X tg iter (TIo G W fi)) (ok : blkC X.N X.env.scope scope nm = true) (hix : (ix.all fun j => (nm.map (·.2)).contains j) = true)
    (hg : ∀ (s : Shared) (H : Hp) (C : Addr) (cl : List (Str × Addr)) (fp : List Addr), PG (X.blk s H scope (compEnvC scope cl C X.env) fp) tg (TGo G ix t)) (ht : ∀ (s : Shared) (H : Hp) (C : Addr) (cl : List (Str × Addr)) (fp : List Addr), PTs (X.blk s H scope (compEnvC scope cl C X.env) fp) ifs (TTo G noW fc))
    (he : ∀ (s : Shared) (H : Hp) (C : Addr) (cl : List (Str × Addr)) (fp : List Addr), PE (X.blk s H scope (compEnvC scope cl C X.env) fp) elt (TEo G noW fe)) (hs : ∀ x, foldedSetIterable iter X.env x = pure x := by intro _; rfl) :
    PE X (.ListComp elt [⟨tg, iter, ifs, 0⟩] scope pos) (TXo G W (xLc (nm.map (·.2)) fi t fc fe)) := ⟨fun pins s σ H Q I h => (pe_lc hc hN hi (blkOk_by ok) hg ht he hs).run pins s σ H Q I (tLc_of (fun j hj => by
      have a := List.all_eq_true.mp hix j hj
      simpa using a) σ H Q (fun v hv => by
      obtain ⟨p, hp, e⟩ := List.mem_map.mp hv
      rw [I.len]
      subst e
      exact (List.getElem?_eq_some_iff.mp ((blkOk_by ok).ix p hp)).1) h)⟩
/-- y = [..] on one row -/
theorem ds_setLc {i : Nat} {y : Str} {py spos : Pos} (hc : X.calm = true) (hN : X.N.Nodup) (hi : PI X tg iter (TIo G W fi)) (ok : blkC X.N X.env.scope scope nm = true) (hix : (ix.all fun j => (nm.map (·.2)).contains j) = true)
    (hg : ∀ (s : Shared) (H : Hp) (C : Addr) (cl : List (Str × Addr)) (fp : List Addr), PG (X.blk s H scope (compEnvC scope cl C X.env) fp) tg (TGo G ix t)) (ht : ∀ (s : Shared) (H : Hp) (C : Addr) (cl : List (Str × Addr)) (fp : List Addr), PTs (X.blk s H scope (compEnvC scope cl C X.env) fp) ifs (TTo G noW fc))
    (he : ∀ (s : Shared) (H : Hp) (C : Addr) (cl : List (Str × Addr)) (fp : List Addr), PE (X.blk s H scope (compEnvC scope cl C X.env) fp) elt (TEo G noW fe)) (hs : ∀ x, foldedSetIterable iter X.env x = pure x := by intro _; rfl)
    (hy : X.N[i]? = some y := by rfl) (hyl : X.env.scope.names.lookup y = some .local := by rfl)
    (hsw : swapsWith (.ListComp elt [⟨tg, iter, ifs, 0⟩] scope pos) (some (.Name y py)) spos.line X.env = pure true := by exact sw_true rfl rfl rfl (by decide +kernel)) :
    PS X (.Assign [.Name y py] (.ListComp elt [⟨tg, iter, ifs, 0⟩] scope pos) spos) (TSo G W (sAsgX (xLc (nm.map (·.2)) fi t fc fe) i)) := ⟨fun pins s σ H E I h => (ps_setLc hc hN hy hyl hsw hi (blkOk_by ok) hg ht he hs).run pins s σ H E I (by
      have hvs : ∀ v ∈ nm.map (·.2), v < σ.length := fun v hv => by
        obtain ⟨p, hp, e⟩ := List.mem_map.mp hv
        rw [I.len]
        subst e
        exact (List.getElem?_eq_some_iff.mp ((blkOk_by ok).ix p hp)).1
      exact tLc_of (fun j hj => by
        have a := List.all_eq_true.mp hix j hj
        simpa using a) σ H _ hvs (tAsgX_of E σ H h))⟩
end
end DL
set_option maxHeartbeats 4000000
/-! DLf: defs and their calls; what is walked. -/
namespace DL
open PySem PyProof.Rows L2
/-! ### what is walked -/
section
variable {G : Gm} {W : WX} {F H F1 H1 : Hp} {σ σ1 : L2.St} {r r1 : En} {X : Cx} {a b c tg : Expr} {pos : Pos} {f g : En → R D}
/-- a reading that hands on what it walks -/
theorem TIo.use {fi : En → R (List D)} {Q : It → Hp → Prop} (h : TIo G W fi σ H Q) : ∃ F r, Rel G F H σ r ∧ match fi r with
  | .ok ds r' => ∀ F' H' J, Go F H (oA σ r) F' H' (oA σ r') → Rel G F' H' σ r' → Yl G J F' ds → Q J H'
  | .ex c d r' => ∀ F' H' cls dd, Go F H (oA σ r) F' H' (oA σ r') → Rel G F' H' σ r' → XOk G F' H' c d cls dd → W cls dd σ H'
  | .st => False := h
def iSeq (f : En → R D) : En → R (List D) := fun r => (f r).bind fun d r1 => match d with
  | .list ds => .ok ds r1
  | .tuple ds => .ok ds r1
  | _ => .st
theorem yl_list {K : PySem.W.Frag} {xs : List V} {ds : List D} {p : Addr} (hK : K = G.K) (h : SqL G.K F p xs) (q : RpL G F xs ds) : Yl G (Itl K p) F ds := by
  subst hK
  refine ⟨fun i F' H' s1 s2 hi => ?_, fun i F' H' s1 s2 hi => ⟨xs, s2.l (s1.l h), by rw [q.len]; omega⟩⟩
  obtain ⟨v, hv, qv⟩ := q.get (List.getElem?_eq_getElem hi)
  have hs := s2.l (s1.l h)
  exact ⟨⟨xs, v, hs, hv⟩, fun x H2 ⟨e, k⟩ => by
    subst e
    have z := k xs hs
    rw [hv] at z
    cases z
    exact ⟨F', _, List.getElem?_eq_getElem hi, Ext.refl _ _, qv.mono s1⟩⟩
theorem yl_tup {K : PySem.W.Frag} {xs : List V} {ds : List D} {p : Addr} (hK : K = G.K) (h : SqT G.K F p xs) (q : RpL G F xs ds) : Yl G (Itt K p) F ds := by
  subst hK
  refine ⟨fun i F' H' s1 s2 hi => ?_, fun i F' H' s1 s2 hi => ⟨xs, s2.t (s1.t h), by rw [q.len]; omega⟩⟩
  obtain ⟨v, hv, qv⟩ := q.get (List.getElem?_eq_getElem hi)
  have hs := s2.t (s1.t h)
  exact ⟨⟨xs, v, hs, hv⟩, fun x H2 ⟨e, k⟩ => by
    subst e
    have z := k xs hs
    rw [hv] at z
    cases z
    exact ⟨F', _, List.getElem?_eq_getElem hi, Ext.refl _ _, qv.mono s1⟩⟩
theorem di_seq (hK : X.K = G.K) (ha : PE X a (TEo G W f)) : PI X tg a (TIo G W (iSeq f)) := ⟨fun pins s σ H Q I ⟨F, r, e, p⟩ => by
  unfold iSeq at p
  cases hf : f r with
  | st => rw [hf] at p; exact p.elim
  | ex c d r' =>
    rw [hf] at p
    exact (pi_list ha).run pins s σ H Q I ⟨F, r, e, by rw [hf]; exact p⟩
  | ok d r' =>
    rw [hf] at p
    simp only [R.bind] at p
    cases d with
    | list ds =>
      refine (pi_list ha).run pins s σ H Q I ⟨F, r, e, ?_⟩
      rw [hf]
      intro F' H' v g e' q
      cases q with
      | @lst pa xs _ h q => exact ⟨pa, rfl, ⟨xs, by rw [hK]; exact SqL.of (e'.sub _ _ h)⟩, p F' H' _ g e' (yl_list hK (SqL.of h) q)⟩
    | tuple ds =>
      refine (pi_tup ha).run pins s σ H Q I ⟨F, r, e, ?_⟩
      rw [hf]
      intro F' H' v g e' q
      cases q with
      | @tup pa xs _ h q => exact ⟨pa, rfl, ⟨xs, by rw [hK]; exact e'.sub.t h⟩, p F' H' _ g e' (yl_tup hK h q)⟩
    | _ => exact p.elim⟩
/-- lo, lo + c, .. -/
def rngD (c : Int) : Int → Nat → List D
  | _, 0 => []
  | lo, n + 1 => .int lo :: rngD c (lo + c) n
theorem rngD_len (c : Int) : ∀ (lo : Int) (n : Nat), (rngD c lo n).length = n
  | _, 0 => rfl
  | lo, n + 1 => by unfold rngD; rw [List.length_cons, rngD_len c _ n]
theorem rngD_get (c : Int) : ∀ (lo : Int) (n i : Nat), i < n → (rngD c lo n)[i]? = some (.int (lo + (i : Int) * c))
  | _, 0, i, h => absurd h (Nat.not_lt_zero i)
  | lo, n + 1, 0, _ => by simp [rngD]
  | lo, n + 1, i + 1, h => by
    unfold rngD
    rw [List.getElem?_cons_succ, rngD_get c (lo + c) n i (by omega)]
    congr 2
    have e : ((i + 1 : Nat) : Int) * c = (i : Int) * c + c := by rw [Int.natCast_add, Int.add_mul]; simp
    rw [e]
    omega
theorem yl_range {lo : Int} {n : Nat} : Yl G (Itr lo n) F (rngD 1 lo n) := by
  refine ⟨fun i F' H' s1 s2 hi => ?_, fun i F' H' s1 s2 hi => by rw [rngD_len] at hi; exact Nat.le_of_eq hi⟩
  rw [rngD_len] at hi
  refine ⟨hi, fun x H2 ⟨e, k⟩ => ?_⟩
  subst e k
  refine ⟨F', _, rngD_get 1 lo n i hi, Ext.refl _ _, ?_⟩
  rw [Int.mul_one]
  exact .int _
theorem yl_rangeC {lo c : Int} {n : Nat} : Yl G (Itc lo c n) F (rngD c lo n) := by
  refine ⟨fun i F' H' s1 s2 hi => ?_, fun i F' H' s1 s2 hi => by rw [rngD_len] at hi; exact Nat.le_of_eq hi⟩
  rw [rngD_len] at hi
  refine ⟨hi, fun x H2 ⟨e, k⟩ => ?_⟩
  subst e k
  exact ⟨F', _, rngD_get c lo n i hi, Ext.refl _ _, .int _⟩
def inR (i : Int) : Bool := decide (-4611686018427387904 ≤ i) && decide (i < 4611686018427387904)
theorem inR_of {i : Int} (h : inR i = true) : -(2 ^ 62) ≤ i ∧ i < 2 ^ 62 := by
  unfold inR at h
  rw [Bool.and_eq_true, decide_eq_true_eq, decide_eq_true_eq] at h
  exact h
/-- what follows an expression in a walk's reading -/
def TIp (G : Gm) (W : WX) (x : R (List D)) (F H : Hp) (σ : L2.St) (r : En) (Q : It → Hp → Prop) : Prop := match x with
  | .ok es r' => ∀ F' H' J, Go F H (oA σ r) F' H' (oA σ r') → Rel G F' H' σ r' → Yl G J F' es → Q J H'
  | .ex c d r' => ∀ F' H' cls dd, Go F H (oA σ r) F' H' (oA σ r') → Rel G F' H' σ r' → XOk G F' H' c d cls dd → W cls dd σ H'
  | .st => False
theorem TIp.bind {α β : Type} {rel : Hp → β → α → Prop} {x : R α} {k : α → En → R (List D)} {Q : It → Hp → Prop} (h : TIp G W (x.bind k) F H σ r Q) :
    Pt G W rel x F H σ r (fun b H1 => ∃ a F1 r1, Sub F F1 ∧ Rel G F1 H1 σ r1 ∧ rel F1 b a ∧ TIp G W (k a r1) F1 H1 σ r1 Q) := by
  cases x with
  | ok a r' =>
    intro F' H' b g e q
    refine ⟨a, F', r', g.sub, e, q, ?_⟩
    have h : TIp G W (k a r') F H σ r Q := h
    cases hk : k a r' with
    | ok es r2 => rw [hk] at h; exact fun F2 H2 J g2 => h F2 H2 J (g.trans g2)
    | ex c d r2 => rw [hk] at h; exact fun F2 H2 cls dd g2 => h F2 H2 cls dd (g.trans g2)
    | st => rw [hk] at h; exact h
  | ex c d r' => exact h
  | st => exact h
theorem TIp.here {es : List D} {J : It} {Q : It → Hp → Prop} (h : TIp G W (.ok es r) F H σ r Q) (e : Rel G F H σ r) (y : Yl G J F es) : Q J H := h F H J (Go.refl fun _ z => z) e y
def iRg1 (f : En → R D) : En → R (List D) := fun r => (f r).bind fun x r1 => match x with
  | .int j => if inR j = true then .ok (rngD 1 0 j.toNat) r1 else .st
  | _ => .st
def iRg2 (f g : En → R D) : En → R (List D) := fun r => (f r).bind fun x r1 => (g r1).bind fun y r2 => match x, y with
  | .int i, .int j => if (inR i && inR j) = true then .ok (rngD 1 i (j - i).toNat) r2 else .st
  | _, _ => .st
def rgOk (i j c : Int) : Bool := decide (c ≠ 0) && decide (c.natAbs < 1073741824) && Builtin.Range.small i j c && decide (Builtin.Range.rangeSize i j c = ((Builtin.Range.rangeSize i j c).toNat : Int))
def iRg3 (f g h : En → R D) : En → R (List D) := fun r => (f r).bind fun x r1 => (g r1).bind fun y r2 => (h r2).bind fun z r3 => match x, y, z with
  | .int i, .int j, .int c => if rgOk i j c = true then .ok (rngD c i (Builtin.Range.rangeSize i j c).toNat) r3 else .st
  | _, _, _ => .st
theorem di_range1 {p : Pos} (hm : X.mg "range" = none) (ha : PE X a (TEo G W f)) (hg : Gl X "range" := by rfl) (hs : starEach [a] X.env = [(false, eval a X.env)] := by rfl) : PI X tg (.Call (.Name "range" p) [a] [] pos) (TIo G W (iRg1 f)) :=
  pi_of (pi_range1 hg hm (pa_cons ha pa_nil hs) hs) fun σ H Q ⟨F, r, e, p⟩ => by
    have p : TIp G W (iRg1 f r) F H σ r Q := p
    refine ⟨F, r, e, (TIp.bind (rel := rV G) p).mono fun v H1 ⟨x, F1, r1, _, e1, q1, p1⟩ => ?_⟩
    cases q1 with
    | int j =>
      simp only at p1
      split at p1
      · rename_i hz
        exact ⟨j, rfl, (inR_of hz).1, (inR_of hz).2, p1.here e1 yl_range⟩
      · exact p1.elim
    | _ => exact p1.elim
theorem di_range2 {p : Pos} (hm : X.mg "range" = none) (ha : PE X a (TEo G W f)) (hb : PE X b (TEo G W g)) (hg : Gl X "range" := by rfl) (hs : starEach [a, b] X.env = [(false, eval a X.env), (false, eval b X.env)] := by rfl) (hs2 : starEach [b] X.env = [(false, eval b X.env)] := by rfl) :
    PI X tg (.Call (.Name "range" p) [a, b] [] pos) (TIo G W (iRg2 f g)) :=
  pi_of (pi_range2 hg hm (pa_cons ha (pa_cons hb pa_nil hs2) (by rw [hs, hs2])) hs hs2) fun σ H Q ⟨F, r, e, p⟩ => by
    have p : TIp G W (iRg2 f g r) F H σ r Q := p
    refine ⟨F, r, e, (TIp.bind (rel := rV G) p).mono fun v H1 ⟨x, F1, r1, _, e1, q1, p1⟩ => ⟨F1, r1, e1, (TIp.bind (rel := rV G) p1).mono fun w H2 ⟨y, F2, r2, _, e2, q2, p2⟩ => ?_⟩⟩
    cases q1 with
    | int i =>
      cases q2 with
      | int j =>
        simp only at p2
        split at p2
        · rename_i hz
          rw [Bool.and_eq_true] at hz
          exact ⟨i, j, rfl, ⟨(inR_of hz.1).1, (inR_of hz.1).2, (inR_of hz.2).1, (inR_of hz.2).2⟩, p2.here e2 yl_range⟩
        · exact p2.elim
      | _ => exact p2.elim
    | _ => exact p2.elim
theorem di_range3 {h : En → R D} {p : Pos} (hm : X.mg "range" = none) (ha : PE X a (TEo G W f)) (hb : PE X b (TEo G W g)) (hc : PE X c (TEo G W h)) (hg : Gl X "range" := by rfl) (hs : starEach [a, b, c] X.env = (false, eval a X.env) :: starEach [b, c] X.env := by rfl) (hs2 : starEach [b, c] X.env = (false, eval b X.env) :: starEach [c] X.env := by rfl)
    (hs3 : starEach [c] X.env = (false, eval c X.env) :: starEach [] X.env := by rfl) (hpl : (backTo pos (starEach [b, c] X.env)).any (·.1) = false := by rfl) :
    PI X tg (.Call (.Name "range" p) [a, b, c] [] pos) (TIo G W (iRg3 f g h)) :=
  pi_of (pi_range3 hg hm (pa_cons ha (pa_cons hb (pa_cons hc pa_nil hs3) hs2) hs) hs hpl) fun σ H Q ⟨F, r, e, p⟩ => by
    have p : TIp G W (iRg3 f g h r) F H σ r Q := p
    refine ⟨F, r, e, (TIp.bind (rel := rV G) p).mono fun v H1 ⟨x, F1, r1, _, e1, q1, p1⟩ => ⟨F1, r1, e1, (TIp.bind (rel := rV G) p1).mono fun w H2 ⟨y, F2, r2, _, e2, q2, p2⟩ => ⟨F2, r2, e2, (TIp.bind (rel := rV G) p2).mono fun u H3 ⟨z, F3, r3, _, e3, q3, p3⟩ => ?_⟩⟩⟩
    cases q1 with
    | int i =>
      cases q2 with
      | int j =>
        cases q3 with
        | int k =>
          simp only at p3
          split at p3
          · rename_i hz
            unfold rgOk at hz
            simp only [Bool.and_eq_true, decide_eq_true_eq] at hz
            exact ⟨i, j, k, _, rfl, ⟨hz.1.1.1, hz.1.1.2, hz.1.2, hz.2⟩, p3.here e3 yl_rangeC⟩
          · exact p3.elim
        | _ => exact p3.elim
      | _ => exact p3.elim
    | _ => exact p3.elim
end

/-! ### defs -/
/-- what a call gives: its value, the list that was handed in as it stands behind the call -/
inductive Rf where
  | rt (s : Sl) (io : Option (List D))
  | ex (c : Nat) (d : Option D)
  | st
def ioOf : En → Option (List D)
  | [] => none
  | .io ds :: _ => some ds
  | _ :: r => ioOf r
def ioS : Option (List D) → Sl
  | some ds => .io ds
  | none => .no
def notIo : Sl → Bool
  | .io _ => false
  | .no => false
  | _ => true
def runF (n m : Nat) (f : En → Fl) (args : En) : Rf := if args.length = m then (match f (args ++ List.replicate (n - m) .no) with
  | .nx r => .rt (.vl .none) (ioOf r)
  | .rt s r => if notIo s = true then .rt s (ioOf r) else .st
  | .ex c d _ => .ex c d
  | _ => .st) else .st
def spD (G : Gm) (fD : En → Rf) : Sp := fun vs H Q E => ∃ pd F args, Rel { G with pd := pd } F H (vs.map some) args ∧ match fD args with
  | .rt s io => ∀ F' H' v, Go F H (oA (vs.map some) args) F' H' (oA [some v, some (.ref pd)] [s, ioS io]) → Rel { G with pd := pd } F' H' [some v, some (.ref pd)] [s, ioS io] → Q v H'
  | .ex c d => ∀ F' H' cls dd, Go F H (oA (vs.map some) args) F' H' noO → Rel { G with pd := pd } F' H' [] [] → XOk G F' H' c d cls dd → E cls dd H'
  | .st => False
/-- a def keeps its promise; gu: what runs around stands in no repr -/
structure FnG (gu : Bool) (P : Program) (w : World) (K : PySem.W.Frag) (mg : Str → Option Value) (base : Heap) (k : Nat) (f : Addr) (fd : FuncData) (ps : List Str) (sp : Sp) : Prop where
  len : ∀ vs H Q E, sp vs H Q E → vs.length = ps.length
  run : ∀ (A : Around) (outer : List Env) (s : Shared) (H : Hp) (args : Args) (us : List Value) (vs : List V) (Q : VK) (E : XK), (gu = true → A.guards = some []) → Room k A → Env0 P w K mg base A outer s H → BindsTo s fd args (ps.zip us) → Vals vs us → sp vs H Q E →
    codeAny (model P w) A (.call (.ref f) args) (CR (L2.CX P w) outer P w H s Q E) s
theorem ioOf_at : ∀ {r : En} {ds : List D}, ioOf r = some ds → ∃ i : Nat, r[i]? = some (Sl.io ds)
  | [], _, h => nomatch h
  | s :: r, ds, h => by
    cases s with
    | io es => cases h; exact ⟨0, rfl⟩
    | _ =>
      obtain ⟨i, e⟩ := ioOf_at (r := r) (ds := ds) h
      exact ⟨i + 1, e⟩
section
variable {G : Gm} {F H F' H' : Hp} {σ : L2.St} {r : En}
/-- what is left of the names at a def's end -/
theorem Rel.leave {v : V} {s : Sl} (h : Rel G F H (σ ++ [some v]) (r ++ [s])) (hs : notIo s = true) : Rel G F H [some v, some (.ref G.pd)] [s, ioS (ioOf r)] ∧ ∀ a, oA [some v, some (.ref G.pd)] [s, ioS (ioOf r)] a → oA (σ ++ [some v]) (r ++ [s]) a := by
  have hl := h.init.len
  have io : ∀ {ds}, ioOf r = some ds → ∃ i, i < r.length ∧ (r ++ [s])[i]? = some (.io ds) ∧ (σ ++ [some v])[i]? = some (some (.ref G.pd)) ∧ OwnL G F H G.pd ds := fun {ds} e => by
    obtain ⟨i, ei⟩ := ioOf_at e
    obtain ⟨w, e1, e2, e3⟩ := h.init.at ei
    subst e2
    have hi := (List.getElem?_eq_some_iff.mp ei).1
    exact ⟨i, hi, by rw [get_snoc hi]; exact ei, by rw [get_snoc (by rw [hl]; exact hi)]; exact e1, e3⟩
  have two : ∀ {α : Type} {x y z : α} {i : Nat}, ([x, y] : List α)[i]? = some z → (i = 0 ∧ x = z) ∨ (i = 1 ∧ y = z) := fun {α x y z i} e => by
    match i, e with
    | 0, e => exact .inl ⟨rfl, Option.some.inj e⟩
    | 1, e => exact .inr ⟨rfl, Option.some.inj e⟩
  refine ⟨⟨h.sub, h.ntb, h.tabs, rfl, fun i t w e1 e2 => ?_, fun i j t u p e1 e2 m1 m2 e3 e4 => ?_⟩, fun a ⟨i, t, e1, m, e2⟩ => ?_⟩
  · rcases two e1 with ⟨a, b⟩ | ⟨a, b⟩
    · subst a b; cases e2; exact h.last
    · subst a b
      cases e2
      cases q : ioOf r with
      | none => trivial
      | some ds => obtain ⟨_, _, _, _, k⟩ := io q; exact ⟨rfl, k⟩
  · have cross : ∀ {p : Addr}, s.mine = true → v = .ref p → (ioS (ioOf r)).mine = true → G.pd = p → False := fun {p} m ev m2 ep => by
      cases q : ioOf r with
      | none => rw [q] at m2; cases m2
      | some ds =>
        obtain ⟨i, hi, a1, a2, _⟩ := io q
        have z := h.apart i r.length (.io ds) s p a1 get_last rfl m (by rw [a2, ep]) (by rw [← hl, ev]; exact get_last)
        omega
    rcases two e1 with ⟨a, b⟩ | ⟨a, b⟩
    · rcases two e2 with ⟨a', b'⟩ | ⟨a', b'⟩
      · rw [a, a']
      · subst a a' b b'
        cases e3
        exact (cross m1 rfl m2 (by have := Option.some.inj e4; cases this; rfl)).elim
    · rcases two e2 with ⟨a', b'⟩ | ⟨a', b'⟩
      · subst a a' b b'
        cases e4
        exact (cross m2 rfl m1 (by have := Option.some.inj e3; cases this; rfl)).elim
      · rw [a, a']
  · rcases two e1 with ⟨a', b⟩ | ⟨a', b⟩
    · subst a' b
      cases e2
      exact ⟨r.length, s, get_last, m, by rw [← hl]; exact get_last⟩
    · subst a' b
      cases q : ioOf r with
      | none => rw [q] at m; cases m
      | some ds =>
        obtain ⟨i, _, a1, a2, _⟩ := io q
        cases e2
        exact ⟨i, _, a1, rfl, a2⟩
end
section
variable {P : Program} {w : World} {K : PySem.W.Frag} {mg : Str → Option Value} {base : Heap} {G : Gm}
theorem rel_start {F H : Hp} {vs : List V} {args : En} {n m : Nat} (h : Rel G F H (vs.map some) args) (hm : args.length = m) : Rel G F H (vs.map some ++ List.replicate (n - m) none) (args ++ List.replicate (n - m) .no) ∧ ∀ a, oA (vs.map some ++ List.replicate (n - m) none) (args ++ List.replicate (n - m) .no) a → oA (vs.map some) args a := by
  have old : ∀ {i : Nat} {s : Sl}, (args ++ List.replicate (n - m) Sl.no)[i]? = some s → (args[i]? = some s ∧ (vs.map some ++ List.replicate (n - m) none)[i]? = (vs.map some)[i]?) ∨ s = .no := fun {i s} e => by
    by_cases hi : i < args.length
    · rw [List.getElem?_append_left hi] at e
      exact .inl ⟨e, List.getElem?_append_left (by rw [h.len]; exact hi)⟩
    · rw [List.getElem?_append_right (by omega)] at e
      have := List.mem_of_getElem? e
      exact .inr (List.eq_of_mem_replicate this)
  refine ⟨⟨h.sub, h.ntb, h.tabs, by rw [List.length_append, List.length_append, h.len]; simp, fun i s v e1 e2 => ?_, fun i j s t p e1 e2 m1 m2 e3 e4 => ?_⟩, fun a ⟨i, s, e1, m1, e2⟩ => ?_⟩
  · rcases old e1 with ⟨a, b⟩ | a
    · rw [b] at e2; exact h.slot i s v a e2
    · subst a; trivial
  · rcases old e1 with ⟨a, b⟩ | a
    · rcases old e2 with ⟨a', b'⟩ | a'
      · rw [b] at e3; rw [b'] at e4; exact h.apart i j s t p a a' m1 m2 e3 e4
      · subst a'; cases m2
    · subst a; cases m1
  · rcases old e1 with ⟨a, b⟩ | a
    · rw [b] at e2; exact ⟨i, s, a, m1, e2⟩
    · subst a; cases m1
/-- THE RULE of a def -/
theorem fnG {gu : Bool} {x qual : Str} {st : Stmt} {f : Addr} {fd : FuncData} {N ps : List Str} {k : Nat} {fB : En → Fl} (F : Fun K x qual st f fd) (S : FnScope N ps (defScope st))
    (hbody : ∀ (pd : Addr) (cdv : Value) (A : Around) (outer : List Env) (s : Shared) (H : Hp) (E : XK), Room k (A.deeper (envOfC qual (defScope st) s.heap.objs.size f cdv)) → (gu = true → A.guards = some []) →
      PSs (cxOf (L2.CX P w) P w K mg base N qual (defScope st) f cdv A outer s H E) (defBody st) (TSo { G with pd := pd } (fun cls d _ H => E cls d H) fB)) :
    FnG gu P w K mg base (k + 1) f fd ps (spD G (runF N.length ps.length fB)) := by
  obtain ⟨oc, od, kV, doc, pm, an, cdv, ct, osl, rfl, lk, hcd⟩ := F.ex
  have len : ∀ vs H Q E, spD G (runF N.length ps.length fB) vs H Q E → vs.length = ps.length := fun vs H Q E ⟨pd, F0, args, e, p⟩ => by
    have l := e.len
    rw [List.length_map] at l
    unfold runF at p
    split at p
    · rename_i hz
      split at hz
      · rename_i h0; rw [l]; exact h0
      · cases hz
    · rename_i hz
      split at hz
      · rename_i h0; rw [l]; exact h0
      · cases hz
    · exact p.elim
  refine ⟨len, fun A outer s H args us vs Q E hgu hr e0 hb r hsp => ?_⟩
  have hl := len vs H Q E hsp
  refine LamX.run_ofS lk hcd S hr e0 hb r hl fun hr' => ?_
  obtain ⟨pd, F0, ar, e, p⟩ := hsp
  refine ⟨_, hbody pd cdv A outer s H E hr' hgu, ?_⟩
  have hal : ar.length = ps.length := by rw [← e.len, List.length_map]; exact hl
  obtain ⟨e1, o1⟩ := rel_start (n := N.length) e hal
  have es : vs.map some ++ List.replicate (N.length - ps.length) none = L2.start N vs := by unfold L2.start; rw [hl]
  rw [es] at e1 o1
  refine ⟨F0, _, e1, ?_⟩
  unfold runF at p
  rw [if_pos hal] at p
  cases hf : fB (ar ++ List.replicate (N.length - ps.length) .no) with
  | nx r' =>
    simp only [hf] at p
    intro F' H' σ' g e'
    obtain ⟨a1, a2⟩ := (e'.val .non).leave rfl
    exact p F' H' .non (g.wide o1 fun a z => (g.own a (own_val e'.len (a2 a z))).imp (o1 a) id) a1
  | rt s' r' =>
    simp only [hf] at p
    split at p
    · rename_i hq
      split at hq
      · rename_i hio
        cases hq
        intro F' H' σ' v g e'
        obtain ⟨a1, a2⟩ := e'.leave hio
        exact p F' H' v (g.wide o1 fun a z => (g.own a (a2 a z)).imp (o1 a) id) a1
      · cases hq
    · rename_i hq
      split at hq
      · cases hq
      · cases hq
    · exact p.elim
  | ex c d r' =>
    simp only [hf] at p
    intro F' H' σ' cls dd g e' x
    exact p F' H' cls dd (g.wide o1 fun a z => z.elim) ⟨e'.sub, e'.ntb, e'.tabs, rfl, fun i s v e1 => by simp at e1, fun i j s t p e1 => by simp at e1⟩ x
  | bk r' => simp only [hf] at p
  | ct r' => simp only [hf] at p
  | st => simp only [hf] at p
end
end DL
set_option maxHeartbeats 4000000
/-! DLg: calls of defs. -/
namespace DL
open PySem PyProof.Rows L2
section
variable {G : Gm} {W : WX} {F H F1 H1 F' H' : Hp} {σ σ1 : L2.St} {r r1 : En} {X : Cx} {a b c tg : Expr} {pos : Pos} {f g : En → R D}
/-- the callee runs, from a place where W is wished of exceptions -/
theorem run_fnG {gu : Bool} {k : Nat} {f : Addr} {fd : FuncData} {ps : List Str} {sp : Sp} {pins : List (Addr × Obj)} {σ : L2.St} {H : Hp} {s : Shared} {Q : VK} {us : List Value} {vs : List V} (Fn : FnG gu X.prog X.w X.K X.mg X.base k f fd ps sp) (hr : Room k X.A) (hgu : gu = true → X.A.guards = some [])
    (hb : Binds X.K fd ps []) (tk : Takes X W) (I : L2.Inv X pins σ H s) (rv : Vals vs us) (h : sp vs H Q (fun cls d H => W cls d σ H)) : wpAny (model X.prog X.w) X.A (call (.ref f) us) (EP X pins σ Q) X.xe s := by
  have hl : us.length = ps.length := by rw [← rv.length]; exact Fn.len _ _ _ _ h
  have bt := hb s us I.kIn (by rw [List.append_nil]; exact hl)
  rw [List.append_nil] at bt
  refine wpAny_call (codeAny_mono (Fn.run X.A X.stack s H ⟨us, []⟩ us vs Q _ hgu hr I.env0 bt rv h) fun res s' hq => ?_)
  cases res with
  | error e => exact passAt tk σ pins H s e s' I hq
  | ok fl =>
    cases fl with
    | ret u => exact I.after hq
    | next => exact False.elim hq
    | brk => exact False.elim hq
    | cont => exact False.elim hq
def tCallG (sp : Sp) (W : WX) (t : TA) : TE := fun σ H Q => t σ H fun vs H1 => sp vs H1 Q (fun cls d H => W cls d σ H)
theorem pe_callG {gu : Bool} {k : Nat} {f : Addr} {fd : FuncData} {ps : List Str} {sp : Sp} {x : Str} {p : Pos} {e : Expr} {es : List Expr} {t : TA} (Fn : FnG gu X.prog X.w X.K X.mg X.base k f fd ps sp) (hr : Room k X.A) (hgu : gu = true → X.A.guards = some []) (hm : X.mg x = some (.ref f)) (hk : PySem.W.keepIn X.K (.ref f) = true)
    (hb : Binds X.K fd ps []) (tk : Takes X W) (ha : PA X (e :: es) t) (hg : Gl X x := by rfl) (hdb : (x == ("__debug__" : Str)) = false := by decide) (he : starEach (e :: es) X.env = (false, eval e X.env) :: starEach es X.env := by rfl) (hpl : (backTo pos (starEach es X.env)).any (·.1) = false := by rfl) :
    PE X (.Call (.Name x p) (e :: es) [] pos) (tCallG sp W t) := ⟨fun pins s σ H Q I h => by
  refine wpAny_Call_Name_kw (ld_glob I hg hm ?_ hdb)
  exact PySem.W.callWith_K (h₀ := X.base) I.ok.mod.kin hk (thn (ha.run pos pins s σ H _ I h) fun us s1 ⟨vs, H1, I1, rv, q⟩ => ⟨I1.kIn, run_fnG Fn hr hgu hb tk I1 rv q⟩) he hpl⟩
theorem pe_callG0 {gu : Bool} {k : Nat} {f : Addr} {fd : FuncData} {ps : List Str} {sp : Sp} {x : Str} {p : Pos} (Fn : FnG gu X.prog X.w X.K X.mg X.base k f fd ps sp) (hr : Room k X.A) (hgu : gu = true → X.A.guards = some []) (hm : X.mg x = some (.ref f)) (hk : PySem.W.keepIn X.K (.ref f) = true)
    (hb : Binds X.K fd ps []) (tk : Takes X W) (hg : Gl X x := by rfl) (hdb : (x == ("__debug__" : Str)) = false := by decide) :
    PE X (.Call (.Name x p) [] [] pos) (tCallG sp W tNil) := ⟨fun pins s σ H Q I h => by
  refine wpAny_Call_Name_kw (ld_glob I hg hm ?_ hdb)
  exact PySem.W.callWith_K0 I.kIn hk (run_fnG (us := []) Fn hr hgu hb tk I .nil h)⟩
/-- behind what owns nothing of ours -/
theorem Rel.pass {O O' : Addr → Prop} (h : Rel G F H σ r) (g : Go F H O F' H' O') (hO : ∀ a, O a → ¬ oA σ r a) (hs : Sub F' H') (hn : ∀ a ps, F' a ≠ some (.tbl ps)) (ht : LamX.Tabs G.T H') : Rel G F' H' σ r := by
  refine ⟨hs, hn, ht, h.len, fun i s v e1 e2 => (h.slot i s v e1 e2).mono g.sub fun p m ev => ?_, h.apart⟩
  subst ev
  have hp : oA σ r p := ⟨i, s, e1, m, e2⟩
  obtain ⟨n1, o, n2, n3⟩ := h.own hp
  refine ⟨?_, fun o' q1 q2 => g.keep p o' q1 (fun z => hO p z hp) q2⟩
  cases q : F' p with
  | none => rfl
  | some u =>
    rcases g.new p u q with z | z | z
    · rw [n1] at z; cases z
    · rw [n2] at z; cases z
    · exact absurd hp (hO p z)
theorem rel_vals {vs : List V} {ds : List D} (h : Rel G F H σ r) (q : RpL G F vs ds) (pd : Addr) : Rel { G with pd := pd } F H (vs.map some) (ds.map Sl.vl) ∧ ∀ a, ¬ oA (vs.map some) (ds.map Sl.vl) a := by
  have nm : ∀ {i : Nat} {s : Sl}, (ds.map Sl.vl)[i]? = some s → ∃ d, ds[i]? = some d ∧ s = .vl d := fun {i s} e => by
    rw [List.getElem?_map] at e
    cases hd : ds[i]? with
    | none => rw [hd] at e; cases e
    | some d => rw [hd] at e; exact ⟨d, rfl, (Option.some.inj e).symm⟩
  refine ⟨⟨h.sub, h.ntb, h.tabs, by rw [List.length_map, List.length_map]; exact q.len, fun i s v e1 e2 => ?_, fun i j s t p e1 e2 m1 => ?_⟩, fun a ⟨i, s, e1, m, e2⟩ => ?_⟩
  · obtain ⟨d, hd, es⟩ := nm e1
    subst es
    obtain ⟨x, hx, qx⟩ := q.get hd
    rw [List.getElem?_map, hx] at e2
    cases e2
    exact ⟨x, rfl, qx⟩
  · obtain ⟨d, _, es⟩ := nm e1
    subst es
    cases m1
  · obtain ⟨d, _, es⟩ := nm e1
    subst es
    cases m
/-- f(e, ..), whose arguments are data -/
def xCall (fD : En → Rf) (fs : En → R (List D)) : En → R Sl := fun r => (fs r).bind fun ds r1 => match fD (ds.map .vl) with
  | .rt s none => .ok s r1
  | .ex c d => .ex c d r1
  | _ => .st
theorem tCallG_of {fD : En → Rf} {fs : En → R (List D)} (σ : L2.St) (H : Hp) (Q : VK) : TXo G W (xCall fD fs) σ H Q → tCallG (spD G fD) W (TAo G W fs) σ H Q := fun ⟨F, r, e, p⟩ => by
  refine ⟨F, r, e, ?_⟩
  unfold xCall at p
  cases hf : fs r with
  | st => rw [hf] at p; exact p
  | ex c d r' => rw [hf] at p; exact p
  | ok ds r1 =>
    rw [hf] at p
    simp only [R.bind] at p
    intro F1 H1 vs g1 e1 q
    obtain ⟨ea, na⟩ := rel_vals e1 q G.pd
    refine ⟨G.pd, F1, ds.map .vl, ea, ?_⟩
    cases hd : fD (ds.map .vl) with
    | st => rw [hd] at p; exact p
    | ex c d =>
      rw [hd] at p
      intro F' H' cls dd g e' x
      exact p F' H' cls dd (g1.trans (g.wide (fun a z => (na a z).elim) fun a z => .inl z)) (e1.pass g (fun a z => (na a z).elim) e'.sub e'.ntb e'.tabs) x
    | rt s io =>
      rw [hd] at p
      cases io with
      | some _ => exact p.elim
      | none =>
        simp only at p
        intro F' H' v g e'
        have e2 := e1.pass g (fun a z => (na a z).elim) e'.sub e'.ntb e'.tabs
        have hs : SlOk G F' H' (some v) s := e'.slot 0 s (some v) rfl rfl
        have own0 : ∀ p, s.mine = true → v = .ref p → H1 p = none := fun p m ev => by
          rcases g.own p ⟨0, s, rfl, m, congrArg (fun z => some (some z)) ev⟩ with z | z
          · exact (na p z).elim
          · exact z
        refine p F' H' v (g1.trans (g.wide (fun a z => (na a z).elim) fun a z => ?_)) (e2.snoc hs fun p m ev z => ?_)
        · rcases own_snoc e2.len z with z | ⟨m, ev⟩
          · exact .inl z
          · exact .inr (own0 a m ev)
        · obtain ⟨_, o, eo, _⟩ := e1.own z
          rw [own0 p m ev] at eo
          cases eo
theorem dx_call {gu : Bool} {k : Nat} {fa : Addr} {fd : FuncData} {ps : List Str} {fD : En → Rf} {x : Str} {p : Pos} {e : Expr} {es : List Expr} {fs : En → R (List D)} (Fn : FnG gu X.prog X.w X.K X.mg X.base k fa fd ps (spD G fD)) (hr : Room k X.A) (hgu : gu = true → X.A.guards = some []) (hm : X.mg x = some (.ref fa)) (hk : PySem.W.keepIn X.K (.ref fa) = true)
    (hb : Binds X.K fd ps []) (tk : Takes X W) (ha : PA X (e :: es) (TAo G W fs)) (hg : Gl X x := by rfl) (hdb : (x == ("__debug__" : Str)) = false := by decide) (he : starEach (e :: es) X.env = (false, eval e X.env) :: starEach es X.env := by rfl) (hpl : (backTo pos (starEach es X.env)).any (·.1) = false := by rfl) :
    PE X (.Call (.Name x p) (e :: es) [] pos) (TXo G W (xCall fD fs)) := pe_of (pe_callG Fn hr hgu hm hk hb tk ha hg hdb he hpl) tCallG_of
/-- f(x, e, ..), the first one a list of ours that the callee may change -/
def xCallI (i : Nat) (fD : En → Rf) (fs : En → R (List D)) : En → R Sl := fun r => if Sl.isM r[i]? = true then (fs r).bind fun es r1 => match r1[i]? with
  | some s0 => match s0.mut with
    | some ds => match fD (.io ds :: es.map .vl) with
      | .rt s (some ds') => .ok s (r1.set i (s0.put ds'))
      | _ => .st
    | none => .st
  | none => .st
  else .st
theorem tCallI_of {i : Nat} {fD : En → Rf} {fs : En → R (List D)} (σ : L2.St) (H : Hp) (Q : VK) : TXo G W (xCallI i fD fs) σ H Q → tCallG (spD G fD) W (tCons (tVar i) (TAo G W fs)) σ H Q := fun ⟨F, r, e, p⟩ => by
  unfold xCallI at p
  by_cases hh : Sl.isM r[i]? = true
  case neg => rw [if_neg hh] at p; exact p.elim
  rw [if_pos hh] at p
  obtain ⟨pa, vs0, hv, hp0⟩ := e.isM hh
  refine ⟨_, hv, F, r, e, ?_⟩
  cases hf : fs r with
  | st => rw [hf] at p; exact p
  | ex c d r' => rw [hf] at p; exact p
  | ok es r1 =>
    rw [hf] at p
    simp only [R.bind] at p
    intro F1 H1 vs g1 e1 q
    cases hs0 : r1[i]? with
    | none => rw [hs0] at p; exact p.elim
    | some s0 =>
      rw [hs0] at p
      cases hds : s0.mut with
      | none => simp only [hds] at p
      | some ds =>
        simp only [hds] at p
        obtain ⟨pa', vsl, ev, h1, h2, h3, mine⟩ := (e1.slot i s0 _ hs0 hv).mut hds
        cases ev
        have hown : oA σ r1 pa := ⟨i, s0, hs0, mine, hv⟩
        obtain ⟨ea, na⟩ := rel_vals e1 q pa
        -- the arguments
        have ea2 : Rel { G with pd := pa } F1 H1 ((V.ref pa :: vs).map some) (.io ds :: es.map .vl) := by
          refine ⟨e1.sub, e1.ntb, e1.tabs, by have := ea.len; simp only [List.map_cons, List.length_cons]; rw [this], fun j s v f1 f2 => ?_, fun j k s t p' f1 f2 m1 m2 f3 f4 => ?_⟩
          · cases j with
            | zero => cases f1; cases f2; exact ⟨rfl, h1, vsl, h2, h3⟩
            | succ j => exact ea.slot j s v f1 f2
          · cases j with
            | zero =>
              cases k with
              | zero => rfl
              | succ k => exact ((na p') ⟨k, t, f2, m2, f4⟩).elim
            | succ j => exact ((na p') ⟨j, s, f1, m1, f3⟩).elim
        have oa2 : ∀ a, oA ((V.ref pa :: vs).map some) (.io ds :: es.map .vl) a → a = pa := fun a ⟨j, s, f1, m, f2⟩ => by
          cases j with
          | zero => cases f2; rfl
          | succ j => exact ((na a) ⟨j, s, f1, m, f2⟩).elim
        refine ⟨pa, F1, _, ea2, ?_⟩
        cases hd : fD (.io ds :: es.map .vl) with
        | st => rw [hd] at p; exact p
        | ex c d => rw [hd] at p; exact p.elim
        | rt s io =>
          rw [hd] at p
          cases io with
          | none => exact p.elim
          | some ds' =>
            simp only at p
            intro F' H' v g e'
            obtain ⟨_, hF', vl', hH', hv'⟩ : SlOk { G with pd := pa } F' H' (some (.ref pa)) (.io ds') := e'.slot 1 (.io ds') _ rfl rfl
            have hs : SlOk { G with pd := pa } F' H' (some v) s := e'.slot 0 s (some v) rfl rfl
            have hil : i < r1.length := (List.getElem?_eq_some_iff.mp hs0).1
            have hmine : (s0.put ds').mine = true := by cases s0 <;> first | rfl | cases hds
            have other : ∀ j t p', j ≠ i → r1[j]? = some t → t.mine = true → σ[j]? = some (some (.ref p')) → p' ≠ pa := fun j t p' hj f1 m f2 z => by
              subst z
              exact hj (e1.apart j i t s0 p' f1 hs0 m mine f2 hv)
            have e2 : Rel G F' H' σ (r1.set i (s0.put ds')) := by
              refine ⟨e'.sub, e'.ntb, e'.tabs, by rw [List.length_set]; exact e1.len, fun j t w f1 f2 => ?_, fun j k t u p' f1 f2 m1 m2 f3 f4 => ?_⟩
              · rcases get_set f1 with ⟨a1, b1, _⟩ | ⟨a1, b1⟩
                · subst a1 b1
                  rw [hv] at f2; cases f2
                  cases s0 with
                  | no => cases hds
                  | od _ => cases hds
                  | fr _ => cases hds
                  | vl _ => cases hds
                  | ow _ => exact ⟨pa, rfl, hF', vl', hH', hv'⟩
                  | io _ =>
                    obtain ⟨e5, _⟩ := e1.slot j _ _ hs0 hv
                    cases e5
                    exact ⟨rfl, hF', vl', hH', hv'⟩
                · refine (e1.slot j t w b1 f2).mono g.sub fun p' m ew => ?_
                  subst ew
                  have hne := other j t p' a1 b1 m f2
                  obtain ⟨n1, o, n2, n3⟩ := e1.own ⟨j, t, b1, m, f2⟩
                  refine ⟨?_, fun o' q1 q2 => g.keep p' o' q1 (fun z => hne (oa2 _ z)) q2⟩
                  cases q : F' p' with
                  | none => rfl
                  | some u =>
                    rcases g.new p' u q with z | z | z
                    · rw [n1] at z; cases z
                    · rw [n2] at z; cases z
                    · exact absurd (oa2 _ z) hne
              · have old : ∀ {m : Nat} {w : Sl}, (r1.set i (s0.put ds'))[m]? = some w → w.mine = true → ∃ w', r1[m]? = some w' ∧ w'.mine = true := fun {m w} ee mw => by
                  rcases get_set ee with ⟨a1, b1, _⟩ | ⟨_, b1⟩
                  · subst a1; exact ⟨s0, hs0, mine⟩
                  · exact ⟨w, b1, mw⟩
                obtain ⟨t', b1, c1⟩ := old f1 m1
                obtain ⟨u', b2, c2⟩ := old f2 m2
                exact e1.apart j k t' u' p' b1 b2 c1 c2 f3 f4
            have oset : ∀ a, oA σ (r1.set i (s0.put ds')) a → oA σ r1 a := fun a ⟨j, t, f1, m, f2⟩ => by
              rcases get_set f1 with ⟨a1, b1, _⟩ | ⟨_, b1⟩
              · subst a1; exact ⟨j, s0, hs0, mine, f2⟩
              · exact ⟨j, t, b1, m, f2⟩
            -- the value's own list is none of ours
            have nio : ∀ p', s.mine = true → v = .ref p' → p' ≠ pa := fun p' m ev z => by
              subst ev z
              have := e'.apart 0 1 s (.io ds') p' rfl rfl m rfl rfl rfl
              cases this
            have own0 : ∀ p', s.mine = true → v = .ref p' → H1 p' = none := fun p' m ev => by
              rcases g.own p' ⟨0, s, rfl, m, congrArg (fun z => some (some z)) ev⟩ with z | z
              · exact absurd (oa2 _ z) (nio p' m ev)
              · exact z
            have hs2 : SlOk G F' H' (some v) s := by
              cases s with
              | io _ =>
                exfalso
                obtain ⟨e5, _⟩ := hs
                cases e5
                exact nio pa rfl rfl rfl
              | _ => exact hs
            refine p F' H' v (g1.trans (g.wide (fun a z => by rw [oa2 a z]; exact hown) fun a z => ?_)) (e2.snoc hs2 fun p' m ev z => ?_)
            · rcases own_snoc e2.len z with z | ⟨m, ev⟩
              · exact .inl (oset a z)
              · exact .inr (own0 a m ev)
            · obtain ⟨_, o, eo, _⟩ := e1.own (oset _ z)
              rw [own0 p' m ev] at eo
              cases eo
theorem dx_callI {i : Nat} {gu : Bool} {k : Nat} {fa : Addr} {fd : FuncData} {ps : List Str} {fD : En → Rf} {x y : Str} {p py : Pos} {es : List Expr} {fs : En → R (List D)} (Fn : FnG gu X.prog X.w X.K X.mg X.base k fa fd ps (spD G fD)) (hr : Room k X.A) (hgu : gu = true → X.A.guards = some []) (hm : X.mg x = some (.ref fa)) (hk : PySem.W.keepIn X.K (.ref fa) = true)
    (hb : Binds X.K fd ps []) (tk : Takes X W) (ha : PA X es (TAo G W fs)) (hN : X.N[i]? = some y := by rfl) (hv : Vis X.env.scope y := by first | exact Or.inl rfl | exact Or.inr (Or.inl rfl) | exact Or.inr (Or.inr rfl)) (hg : Gl X x := by rfl) (hdb : (x == ("__debug__" : Str)) = false := by decide)
    (hdy : (y == ("__debug__" : Str)) = false := by decide) (hcy : (y == ("__classdict__" : Str)) = false := by decide) (he : starEach (.Name y py :: es) X.env = (false, eval (.Name y py) X.env) :: starEach es X.env := by rfl) (hpl : (backTo pos (starEach es X.env)).any (·.1) = false := by rfl) :
    PE X (.Call (.Name x p) (.Name y py :: es) [] pos) (TXo G W (xCallI i fD fs)) := pe_of (pe_callG Fn hr hgu hm hk hb tk (pa_cons (pe_var hN hv hdy hcy) ha he) hg hdb he hpl) tCallI_of
/-- f(x, e, ..), the first one a list that is read alone -/
def xCallR (i : Nat) (fD : En → Rf) (fs : En → R (List D)) : En → R Sl := fun r => match r[i]? with
  | some (.fr xs) => (fs r).bind fun es r1 => match fD (.fr xs :: es.map .vl) with
    | .rt s none => .ok s r1
    | _ => .st
  | _ => .st
theorem tCallR_of {i : Nat} {fD : En → Rf} {fs : En → R (List D)} (σ : L2.St) (H : Hp) (Q : VK) : TXo G W (xCallR i fD fs) σ H Q → tCallG (spD G fD) W (tCons (tVar i) (TAo G W fs)) σ H Q := fun ⟨F, r, e, p⟩ => by
  unfold xCallR at p
  cases hs0 : r[i]? with
  | none => rw [hs0] at p; exact p.elim
  | some s0 =>
    rw [hs0] at p
    cases s0 with
    | fr xs =>
      simp only at p
      obtain ⟨v, hv, pa, vl, ev, h1, h2⟩ := e.at hs0
      subst ev
      refine ⟨_, hv, F, r, e, ?_⟩
      cases hf : fs r with
      | st => rw [hf] at p; exact p
      | ex c d r' => rw [hf] at p; exact p
      | ok es r1 =>
        rw [hf] at p
        simp only [R.bind] at p
        intro F1 H1 vs g1 e1 q
        obtain ⟨ea, na⟩ := rel_vals e1 q G.pd
        have ea2 : Rel { G with pd := G.pd } F1 H1 ((V.ref pa :: vs).map some) (.fr xs :: es.map .vl) := by
          refine ⟨e1.sub, e1.ntb, e1.tabs, by have := ea.len; simp only [List.map_cons, List.length_cons]; rw [this], fun j s v f1 f2 => ?_, fun j k s t p' f1 f2 m1 m2 f3 f4 => ?_⟩
          · cases j with
            | zero => cases f1; cases f2; exact ⟨pa, vl, rfl, g1.sub.l h1, h2.mono g1.sub⟩
            | succ j => exact ea.slot j s v f1 f2
          · cases j with
            | zero => cases f1; cases m1
            | succ j => exact ((na p') ⟨j, s, f1, m1, f3⟩).elim
        have oa2 : ∀ a, ¬ oA ((V.ref pa :: vs).map some) (.fr xs :: es.map .vl) a := fun a ⟨j, s, f1, m, f2⟩ => by
          cases j with
          | zero => cases f1; cases m
          | succ j => exact ((na a) ⟨j, s, f1, m, f2⟩).elim
        refine ⟨G.pd, F1, _, ea2, ?_⟩
        cases hd : fD (.fr xs :: es.map .vl) with
        | st => rw [hd] at p; exact p
        | ex c d => rw [hd] at p; exact p.elim
        | rt s io =>
          rw [hd] at p
          cases io with
          | some _ => exact p.elim
          | none =>
            simp only at p
            intro F' H' v g e'
            have e2 := e1.pass g (fun a z => (oa2 a z).elim) e'.sub e'.ntb e'.tabs
            have hs : SlOk G F' H' (some v) s := e'.slot 0 s (some v) rfl rfl
            have own0 : ∀ p, s.mine = true → v = .ref p → H1 p = none := fun p m ev => by
              rcases g.own p ⟨0, s, rfl, m, congrArg (fun z => some (some z)) ev⟩ with z | z
              · exact (oa2 p z).elim
              · exact z
            refine p F' H' v (g1.trans (g.wide (fun a z => (oa2 a z).elim) fun a z => ?_)) (e2.snoc hs fun p m ev z => ?_)
            · rcases own_snoc e2.len z with z | ⟨m, ev⟩
              · exact .inl z
              · exact .inr (own0 a m ev)
            · obtain ⟨_, o, eo, _⟩ := e1.own z
              rw [own0 p m ev] at eo
              cases eo
    | _ => exact p.elim
theorem dx_callR {i : Nat} {gu : Bool} {k : Nat} {fa : Addr} {fd : FuncData} {ps : List Str} {fD : En → Rf} {x y : Str} {p py : Pos} {es : List Expr} {fs : En → R (List D)} (Fn : FnG gu X.prog X.w X.K X.mg X.base k fa fd ps (spD G fD)) (hr : Room k X.A) (hgu : gu = true → X.A.guards = some []) (hm : X.mg x = some (.ref fa)) (hk : PySem.W.keepIn X.K (.ref fa) = true)
    (hb : Binds X.K fd ps []) (tk : Takes X W) (ha : PA X es (TAo G W fs)) (hN : X.N[i]? = some y := by rfl) (hv : Vis X.env.scope y := by first | exact Or.inl rfl | exact Or.inr (Or.inl rfl) | exact Or.inr (Or.inr rfl)) (hg : Gl X x := by rfl) (hdb : (x == ("__debug__" : Str)) = false := by decide)
    (hdy : (y == ("__debug__" : Str)) = false := by decide) (hcy : (y == ("__classdict__" : Str)) = false := by decide) (he : starEach (.Name y py :: es) X.env = (false, eval (.Name y py) X.env) :: starEach es X.env := by rfl) (hpl : (backTo pos (starEach es X.env)).any (·.1) = false := by rfl) :
    PE X (.Call (.Name x p) (.Name y py :: es) [] pos) (TXo G W (xCallR i fD fs)) := pe_of (pe_callG Fn hr hgu hm hk hb tk (pa_cons (pe_var hN hv hdy hcy) ha he) hg hdb he hpl) tCallR_of
end
end DL
set_option maxHeartbeats 4000000
/-! DLh: operations by data. -/
namespace DL
open PySem PyProof.Rows L2
section
variable {G : Gm} {X : Cx}
/-! ### numbers -/
def rAddA (K : PySem.W.Frag) : R2 := fun x y H Q => rI0 (fun i j => .int (i + j)) x y H Q ∨ (∃ i j, x = .str i ∧ y = .str j ∧ i.length + j.length ≤ sizeLine ∧ Q (.str (i ++ j)) H) ∨ rCatA K x y H Q
theorem op_addA : OpR X (binaryOp .Add) (rAddA X.K) := op_add.or (op_add_str.or op_catA)
def oAdd : D → D → Option D
  | .int i, .int j => some (.int (i + j))
  | .str x, .str y => if x.length + y.length ≤ 1000000 then some (.str (x ++ y)) else none
  | .tuple xs, .tuple ys => if xs.length + ys.length ≤ 1000000 then some (.tuple (xs ++ ys)) else none
  | _, _ => none
theorem rp_int {F : Hp} {v : V} {i : Int} (h : Rp G F v (.int i)) : v = .int i := by cases h; rfl
theorem rp_str {F : Hp} {v : V} {i : Str} (h : Rp G F v (.str i)) : v = .str i := by cases h; rfl
theorem rp_bl {F : Hp} {v : V} {i : Bool} (h : Rp G F v (.bool i)) : v = .bl i := by cases h; rfl
theorem rp_non {F : Hp} {v : V} (h : Rp G F v .none) : v = .non := by cases h; rfl
theorem rp_tup {F : Hp} {v : V} {ds : List D} (h : Rp G F v (.tuple ds)) : ∃ a xs, v = .ref a ∧ SqT G.K F a xs ∧ RpL G F xs ds := by cases h with | tup h1 h2 => exact ⟨_, _, rfl, h1, h2⟩
theorem rp_lst {F : Hp} {v : V} {ds : List D} (h : Rp G F v (.list ds)) : ∃ a xs, v = .ref a ∧ F a = some (.lst xs) ∧ RpL G F xs ds := by cases h with | lst h1 h2 => exact ⟨_, _, rfl, h1, h2⟩
theorem new_tup {F H : Hp} {Q : VK} {vs : List V} {ds : List D} {d : D} (hs : Sub F H) (q : RpL G F vs ds) (hd : d = .tuple ds) (k : ∀ F' H' z, Ext F H F' H' → Rp G F' z d → Q z H') : ∀ p, H p = none → Q (.ref p) (upd H p (.tup vs)) := fun p hp => by
  subst hd
  have hF : F p = none := by
    cases e : F p with
    | none => rfl
    | some u => rw [hs p u e] at hp; cases hp
  exact k _ _ _ (Ext.new hs hp (by intro ps z; cases z)) (.tup (SqT.of upd_same) (q.mono (sub_upd hF)))
theorem od_add : OpD G (rAddA G.K) oAdd := fun x y d F H v w Q h hs q1 q2 k => by
  unfold oAdd at h
  split at h
  · cases h
    rw [rp_int q1, rp_int q2]
    exact .inl ⟨_, _, rfl, rfl, k _ _ _ (Ext.refl _ _) (.int _)⟩
  · split at h
    · rename_i hz
      cases h
      rw [rp_str q1, rp_str q2]
      exact .inr (.inl ⟨_, _, rfl, rfl, small6 hz, k _ _ _ (Ext.refl _ _) (.str _)⟩)
    · cases h
  · split at h
    · rename_i xs ys hz
      cases h
      obtain ⟨a, vs, rfl, h1, h2⟩ := rp_tup q1
      obtain ⟨b, ws, rfl, h3, h4⟩ := rp_tup q2
      refine .inr (.inr ⟨a, b, vs, ws, rfl, rfl, hs.t h1, hs.t h3, small6 (by rw [h2.len, h4.len]; exact hz), fun e => ?_, fun e e' => ?_, fun e e' => ?_⟩)
      · subst e
        cases h2
        exact k _ _ _ (Ext.refl _ _) q2
      · subst e'
        cases h4
        rw [List.append_nil] at k
        exact k _ _ _ (Ext.refl _ _) q1
      · exact new_tup hs (h2.append h4) rfl k
    · cases h
  · cases h
def rIntD (C : Int → Int → Bool) (g : Int → Int → Int) : D → D → Option D
  | .int i, .int j => if C i j = true then some (.int (g i j)) else none
  | _, _ => none
theorem od_int {C : Int → Int → Prop} {c : Int → Int → Bool} {g : Int → Int → Int} (hc : ∀ i j, c i j = true → C i j) : OpD G (rI C fun i j => .int (g i j)) (rIntD c g) := fun x y d F H v w Q h hs q1 q2 k => by
  unfold rIntD at h
  split at h
  · split at h
    · rename_i hz
      cases h
      rw [rp_int q1, rp_int q2]
      exact ⟨_, _, rfl, rfl, hc _ _ hz, k _ _ _ (Ext.refl _ _) (.int _)⟩
    · cases h
  · cases h
def oSub : D → D → Option D
  | .int i, .int j => some (.int (i - j))
  | _, _ => none
theorem od_sub : OpD G (rI0 fun i j => .int (i - j)) oSub := fun x y d F H v w Q h hs q1 q2 k => by
  unfold oSub at h
  split at h
  · cases h
    rw [rp_int q1, rp_int q2]
    exact ⟨_, _, rfl, rfl, k _ _ _ (Ext.refl _ _) (.int _)⟩
  · cases h
/-- a product that the machine takes -/
def mulOk (i j : Int) : Bool := decide (i.natAbs < 18446744073709551616) || decide (j.natAbs < 18446744073709551616) || decide (i.natAbs.log2 + j.natAbs.log2 < 1000000)
def oMul : D → D → Option D := rIntD mulOk (· * ·)
def CMulA (i j : Int) : Prop := CMul i j ∨ CMulW i j
theorem op_mulA : OpR X (binaryOp .Mult) (rI CMulA fun i j => .int (i * j)) := opI fun _ _ _ _ _ _ _ hc q => mul_int q (hc.elim (fun z => z.ok) fun z => z.ok)
theorem mulOk_of (i j : Int) (h : mulOk i j = true) : CMulA i j := by
  unfold mulOk at h
  simp only [Bool.or_eq_true, decide_eq_true_eq] at h
  rcases h with (h | h) | h
  · exact .inl (.inl ⟨by omega, by omega⟩)
  · exact .inl (.inr ⟨by omega, by omega⟩)
  · exact .inr h
theorem od_mul : OpD G (rI CMulA fun i j => .int (i * j)) oMul := od_int mulOk_of
def divOk (j : Int) : Bool := decide (0 < j) && (decide (j < 1073741824) || decide (j.natAbs.log2 < 9000))
def rDivA : R2 := fun x y H Q => rI (fun i j => CDiv i j ∨ CDivW i j) (fun i j => .int (i / j)) x y H Q ∨ rI CDivN (fun i j => .int (i.fdiv j)) x y H Q
theorem op_div0 : OpR X (binaryOp .FloorDiv) (rI (fun i j => CDiv i j ∨ CDivW i j) fun i j => .int (i / j)) := fun pins s σ H x y v u Q I rx ry ⟨i, j, e1, e2, hc, q⟩ => by
  rcases hc with hc | hc
  · exact op_fdiv pins s σ H x y v u Q I rx ry ⟨i, j, e1, e2, hc, q⟩
  · exact op_fdivW pins s σ H x y v u Q I rx ry ⟨i, j, e1, e2, hc, q⟩
theorem op_divA : OpR X (binaryOp .FloorDiv) rDivA := op_div0.or op_fdivN
def oDiv : D → D → Option D
  | .int i, .int j => if divOk j = true then some (.int (i / j)) else if (decide (j < 0) && decide (-1073741824 < j)) = true then some (.int (i.fdiv j)) else none
  | _, _ => none
theorem od_div : OpD G rDivA oDiv := fun x y d F H v w Q h hs q1 q2 k => by
  unfold oDiv at h
  split at h
  · rename_i i j
    rw [rp_int q1, rp_int q2]
    split at h
    · rename_i hz
      cases h
      unfold divOk at hz
      simp only [Bool.and_eq_true, Bool.or_eq_true, decide_eq_true_eq] at hz
      refine .inl ⟨_, _, rfl, rfl, ?_, k _ _ _ (Ext.refl _ _) (.int _)⟩
      rcases hz.2 with z | z
      · exact .inl ⟨hz.1, z⟩
      · exact .inr ⟨hz.1, z⟩
    · split at h
      · rename_i hz
        cases h
        simp only [Bool.and_eq_true, decide_eq_true_eq] at hz
        exact .inr ⟨_, _, rfl, rfl, ⟨by omega, by omega⟩, k _ _ _ (Ext.refl _ _) (.int _)⟩
      · cases h
  · cases h
def rModA : R2 := fun x y H Q => rI (fun _ j => 0 < j) (fun i j => .int (i % j)) x y H Q ∨ rI (fun _ j => j ≠ 0) (fun i j => .int (i.fmod j)) x y H Q
theorem op_modA : OpR X (binaryOp .Mod) rModA := op_mod.or op_modN
def oMod : D → D → Option D
  | .int i, .int j => if decide (0 < j) = true then some (.int (i % j)) else if decide (j < 0) = true then some (.int (i.fmod j)) else none
  | _, _ => none
theorem od_mod : OpD G rModA oMod := fun x y d F H v w Q h hs q1 q2 k => by
  unfold oMod at h
  split at h
  · rename_i i j
    rw [rp_int q1, rp_int q2]
    split at h
    · rename_i hz
      cases h
      exact .inl ⟨_, _, rfl, rfl, of_decide_eq_true hz, k _ _ _ (Ext.refl _ _) (.int _)⟩
    · split at h
      · rename_i hz
        cases h
        have := of_decide_eq_true hz
        exact .inr ⟨_, _, rfl, rfl, by omega, k _ _ _ (Ext.refl _ _) (.int _)⟩
      · cases h
  · cases h
def powOk (i j : Int) : Bool := decide (0 ≤ j) && decide (j ≤ 1000000) && decide (i.natAbs < 18446744073709551616)
def oPow : D → D → Option D := rIntD powOk fun i j => i ^ j.toNat
theorem od_pow : OpD G (rI CPow fun i j => .int (i ^ j.toNat)) oPow := od_int fun i j h => by
  unfold powOk at h
  simp only [Bool.and_eq_true, decide_eq_true_eq] at h
  exact ⟨h.1.1, h.1.2, h.2⟩
def oNeg : D → Option D
  | .int i => some (.int (-i))
  | _ => none
theorem ud_neg : UnD G (rU fun i => .int (-i)) oNeg := fun x d F H v Q h hs q k => by
  unfold oNeg at h
  split at h
  · cases h
    rw [rp_int q]
    exact ⟨_, rfl, k _ _ _ (Ext.refl _ _) (.int _)⟩
  · cases h

/-! ### comparisons -/
def cmpD (p : Int → Int → Bool) : D → D → Option D
  | .int i, .int j => some (.bool (p i j))
  | _, _ => none
theorem od_cmp {p : Int → Int → Bool} : OpD G (rI0 fun i j => .bl (p i j)) (cmpD p) := fun x y d F H v w Q h hs q1 q2 k => by
  unfold cmpD at h
  split at h
  · cases h
    rw [rp_int q1, rp_int q2]
    exact ⟨_, _, rfl, rfl, k _ _ _ (Ext.refl _ _) (.bl _)⟩
  · cases h
def oLt : D → D → Option D := cmpD fun i j => decide (i < j)
def oLe : D → D → Option D := cmpD fun i j => decide (i ≤ j)
def oGt : D → D → Option D := cmpD fun i j => decide (j < i)
def oGe : D → D → Option D := cmpD fun i j => decide (j ≤ i)
mutual
theorem RpI.dp {K : PySem.W.Frag} {fns : Nat → Option Addr} {F H : Hp} (s : Sub F H) : ∀ {v : V} {d : D}, RpI K fns F v d → d.canLay0 = true → Dp K H v d
  | _, _, .non, _ => .non
  | _, _, .bl b, _ => .bl b
  | _, _, .int i, _ => .int i
  | _, _, .str x, _ => .str x
  | _, _, .lst h hs, c => .lst (SqL.of (s _ _ h)) (RpLI.dp s hs (by simpa [PyData.canLay0] using c))
  | _, _, .tup h hs, c => .tup (s.t h) (RpLI.dp s hs (by simpa [PyData.canLay0] using c))
  | _, _, .dct _ _, c => by simp [PyData.canLay0] at c
  | _, _, .dcT _ _, c => by simp [PyData.canLay0] at c
  | _, _, .fn _, c => by simp [PyData.canLay0] at c
theorem RpLI.dp {K : PySem.W.Frag} {fns : Nat → Option Addr} {F H : Hp} (s : Sub F H) : ∀ {vs : List V} {ds : List D}, RpLI K fns F vs ds → PyData.canLayAll0 ds = true → DpAll K H vs ds
  | _, _, .nil, _ => .nil
  | _, _, .cons h hs, c => by
    simp only [PyData.canLayAll0, Bool.and_eq_true] at c
    exact .cons (RpI.dp s h c.1) (RpLI.dp s hs c.2)
end
def oEqB (x y : D) : Option Bool := match x, y with
  | .int i, .int j => some (i == j)
  | .str i, .str j => some (i == j)
  | x, y => if (SeqAt.shaped x && SeqAt.shaped y) = true then some (PyData.eqv x y) else none
theorem oEqB_is {x y : D} {b : Bool} (h : oEqB x y = some b) : (∃ i j, x = .str i ∧ y = .str j ∧ b = (i == j)) ∨ (SeqAt.shaped x = true ∧ SeqAt.shaped y = true ∧ b = PyData.eqv x y) := by
  unfold oEqB at h
  split at h
  · cases h; exact .inr ⟨by simp [SeqAt.shaped, PyData.canLay0, PyData.depth], by simp [SeqAt.shaped, PyData.canLay0, PyData.depth], by simp only [PyData.eqv]⟩
  · cases h; exact .inl ⟨_, _, rfl, rfl, rfl⟩
  · split at h
    · rename_i hz
      rw [Bool.and_eq_true] at hz
      cases h
      exact .inr ⟨hz.1, hz.2, rfl⟩
    · cases h
def oEq (x y : D) : Option D := (oEqB x y).map fun b => .bool b
def oNe (x y : D) : Option D := (oEqB x y).map fun b => .bool (!b)
def rEqZ (K : PySem.W.Frag) : R2 := fun x y H Q => rEq x y H Q ∨ rEqD K x y H Q
def rNeZ (K : PySem.W.Frag) : R2 := fun x y H Q => rNe x y H Q ∨ rNeD K x y H Q
theorem op_eqZ (hu : X.A.units + 64 < cLine) : OpR X (compareOp .Eq) (rEqZ X.K) := op_eq.or (op_eqD hu)
theorem op_neZ (hu : X.A.units + 64 < cLine) : OpR X (compareOp .NotEq) (rNeZ X.K) := op_ne.or (op_neD hu)
theorem od_eq : OpD G (rEqZ G.K) oEq := fun x y d F H v w Q h hs q1 q2 k => by
  unfold oEq at h
  cases hb : oEqB x y with
  | none => rw [hb] at h; cases h
  | some b =>
    rw [hb] at h
    cases h
    rcases oEqB_is hb with ⟨i, j, rfl, rfl, rfl⟩ | ⟨h1, h2, rfl⟩
    · rw [rp_str q1, rp_str q2]
      exact .inl ⟨rfl, by rw [dec_str]; exact k _ _ _ (Ext.refl _ _) (.bl _)⟩
    · exact .inr ⟨x, y, q1.dp hs (SeqAt.canLay_of_shaped h1), q2.dp hs (SeqAt.canLay_of_shaped h2), h1, h2, k _ _ _ (Ext.refl _ _) (.bl _)⟩
theorem od_ne : OpD G (rNeZ G.K) oNe := fun x y d F H v w Q h hs q1 q2 k => by
  unfold oNe at h
  cases hb : oEqB x y with
  | none => rw [hb] at h; cases h
  | some b =>
    rw [hb] at h
    cases h
    rcases oEqB_is hb with ⟨i, j, rfl, rfl, rfl⟩ | ⟨h1, h2, rfl⟩
    · rw [rp_str q1, rp_str q2]
      exact .inl ⟨rfl, by rw [dec_str]; exact k _ _ _ (Ext.refl _ _) (.bl _)⟩
    · exact .inr ⟨x, y, q1.dp hs (SeqAt.canLay_of_shaped h1), q2.dp hs (SeqAt.canLay_of_shaped h2), h1, h2, k _ _ _ (Ext.refl _ _) (.bl _)⟩
def isN : D → Bool
  | .none => true
  | _ => false
theorem isN_of {F : Hp} {v : V} {d : D} (q : Rp G F v d) : decide (v = .non) = isN d := by
  cases q <;> first | rfl | exact decide_eq_false (by intro z; cases z)
def oIsN : D → D → Option D
  | x, .none => some (.bool (isN x))
  | _, _ => none
def oNotN : D → D → Option D
  | x, .none => some (.bool (!isN x))
  | _, _ => none
theorem od_isN : OpD G (fun x y H Q => y = .non ∧ Q (.bl (decide (x = .non))) H) oIsN := fun x y d F H v w Q h hs q1 q2 k => by
  unfold oIsN at h
  split at h
  · cases h
    rw [rp_non q2]
    refine ⟨rfl, ?_⟩
    rw [isN_of q1]
    exact k _ _ _ (Ext.refl _ _) (.bl _)
  · cases h
theorem od_notN : OpD G (fun x y H Q => y = .non ∧ Q (.bl (!decide (x = .non))) H) oNotN := fun x y d F H v w Q h hs q1 q2 k => by
  unfold oNotN at h
  split at h
  · cases h
    rw [rp_non q2]
    refine ⟨rfl, ?_⟩
    rw [isN_of q1]
    exact k _ _ _ (Ext.refl _ _) (.bl _)
  · cases h

/-! ### items -/
def oIx : D → D → Option D
  | .list ds, .int k => atI ds k
  | .tuple ds, .int k => atI ds k
  | .str z, .int k => if z.length ≤ 1000000 then (atI z.cps.toList k).map fun c => .str ⟨#[c]⟩ else none
  | _, _ => none
theorem od_ix : OpD G (rIx G.K) oIx := fun x y d F H v w Q h hs q1 q2 k => by
  unfold oIx at h
  split at h
  · obtain ⟨a, xs, rfl, h1, h2⟩ := rp_lst q1
    rw [rp_int q2]
    obtain ⟨z, hz, qz⟩ := h2.atI h
    exact .inl ⟨a, xs, _, z, rfl, rfl, SqL.of (hs _ _ h1), hz, k _ _ _ (Ext.refl _ _) qz⟩
  · obtain ⟨a, xs, rfl, h1, h2⟩ := rp_tup q1
    rw [rp_int q2]
    obtain ⟨z, hz, qz⟩ := h2.atI h
    exact .inr (.inl ⟨a, xs, _, z, rfl, rfl, hs.t h1, hz, k _ _ _ (Ext.refl _ _) qz⟩)
  · rw [rp_str q1, rp_int q2]
    split at h
    · rename_i hl
      cases hc : atI _ _ with
      | none => rw [hc] at h; cases h
      | some c =>
        rw [hc] at h
        cases h
        exact .inr (.inr ⟨_, _, c, rfl, rfl, small6 hl, hc, k _ _ _ (Ext.refl _ _) (.str _)⟩)
    · cases h
  · cases h

/-! ### built-in functions -/
def cLen : List D → Option D
  | [.list ds] => some (.int ds.length)
  | [.tuple ds] => some (.int ds.length)
  | [.str z] => if z.length ≤ 1000000 then some (.int z.length) else none
  | _ => none
theorem one_of {F : Hp} {vs : List V} {d : D} (q : RpL G F vs [d]) : ∃ v, vs = [v] ∧ Rp G F v d := by
  cases q with
  | cons h t => cases t; exact ⟨_, rfl, h⟩
theorem two_of {F : Hp} {vs : List V} {d e : D} (q : RpL G F vs [d, e]) : ∃ v w, vs = [v, w] ∧ Rp G F v d ∧ Rp G F w e := by
  cases q with
  | cons h t => obtain ⟨w, rfl, h2⟩ := one_of t; exact ⟨_, _, rfl, h, h2⟩
def rLenA (K : PySem.W.Frag) : List V → Hp → VK → Prop := fun xs H Q => (∃ p ys, xs = [.ref p] ∧ (SqL K H p ys ∨ SqT K H p ys) ∧ Q (.int ys.length) H) ∨ ∃ z, xs = [.str z] ∧ z.length ≤ sizeLine ∧ Q (.int z.length) H
theorem call_lenA : CallR X (.builtin "len") (rLenA X.K) := fun pins s σ H xs us Q I r h => by
  rcases h with h | h
  · exact call_len_seq pins s σ H xs us Q I r h
  · exact call_len_str pins s σ H xs us Q I r h
theorem cd_len : CallD G (rLenA G.K) cLen := fun x d F H v Q h hs q k => by
  unfold cLen at h
  split at h
  · cases h
    obtain ⟨v, rfl, qa⟩ := one_of q
    obtain ⟨a, xs, rfl, h1, h2⟩ := rp_lst qa
    refine .inl ⟨a, xs, rfl, .inl (SqL.of (hs _ _ h1)), ?_⟩
    rw [h2.len]
    exact k _ _ _ (Ext.refl _ _) (.int _)
  · cases h
    obtain ⟨v, rfl, qa⟩ := one_of q
    obtain ⟨a, xs, rfl, h1, h2⟩ := rp_tup qa
    refine .inl ⟨a, xs, rfl, .inr (hs.t h1), ?_⟩
    rw [h2.len]
    exact k _ _ _ (Ext.refl _ _) (.int _)
  · split at h
    · rename_i hl
      cases h
      obtain ⟨v, rfl, qa⟩ := one_of q
      rw [rp_str qa]
      exact .inr ⟨_, rfl, small6 hl, k _ _ _ (Ext.refl _ _) (.int _)⟩
    · cases h
  · cases h
def cAbs : List D → Option D
  | [.int i] => some (.int (if i < 0 then -i else i))
  | _ => none
theorem cd_abs : CallD G (fun xs H Q => ∃ i, xs = [.int i] ∧ Q (.int (if i < 0 then -i else i)) H) cAbs := fun x d F H v Q h hs q k => by
  unfold cAbs at h
  split at h
  · cases h
    obtain ⟨v, rfl, qa⟩ := one_of q
    rw [rp_int qa]
    exact ⟨_, rfl, k _ _ _ (Ext.refl _ _) (.int _)⟩
  · cases h
def cMax2 : List D → Option D
  | [.int i, .int j] => some (.int (if j > i then j else i))
  | _ => none
theorem cd_max2 : CallD G (fun xs H Q => ∃ i j, xs = [.int i, .int j] ∧ Q (.int (if j > i then j else i)) H) cMax2 := fun x d F H v Q h hs q k => by
  unfold cMax2 at h
  split at h
  · cases h
    obtain ⟨v, w, rfl, qa, qb⟩ := two_of q
    rw [rp_int qa, rp_int qb]
    exact ⟨_, _, rfl, k _ _ _ (Ext.refl _ _) (.int _)⟩
  · cases h
def cMin2 : List D → Option D
  | [.int i, .int j] => some (.int (if j < i then j else i))
  | _ => none
theorem cd_min2 : CallD G (fun xs H Q => ∃ i j, xs = [.int i, .int j] ∧ Q (.int (if j < i then j else i)) H) cMin2 := fun x d F H v Q h hs q k => by
  unfold cMin2 at h
  split at h
  · cases h
    obtain ⟨v, w, rfl, qa, qb⟩ := two_of q
    rw [rp_int qa, rp_int qb]
    exact ⟨_, _, rfl, k _ _ _ (Ext.refl _ _) (.int _)⟩
  · cases h
def cInt : List D → Option D
  | [.int i] => some (.int i)
  | [.bool b] => some (.int (if b then 1 else 0))
  | _ => none
theorem cd_int : CallD G (fun xs H Q => (∃ i, xs = [.int i] ∧ Q (.int i) H) ∨ ∃ k, xs = [.bl k] ∧ Q (.int (if k then 1 else 0)) H) cInt := fun x d F H v Q h hs q k => by
  unfold cInt at h
  split at h
  · cases h
    obtain ⟨v, rfl, qa⟩ := one_of q
    rw [rp_int qa]
    exact .inl ⟨_, rfl, k _ _ _ (Ext.refl _ _) (.int _)⟩
  · cases h
    obtain ⟨v, rfl, qa⟩ := one_of q
    rw [rp_bl qa]
    exact .inr ⟨_, rfl, k _ _ _ (Ext.refl _ _) (.int _)⟩
  · cases h
/-- the whole numbers of a list of such -/
def intsD : List D → Option (List Int)
  | [] => some []
  | .int i :: r => (intsD r).map (i :: ·)
  | _ :: _ => none
theorem ints_is : ∀ {ds : List D} {ns : List Int}, intsD ds = some ns → ds = ns.map PyData.int
  | [], ns, h => by cases h; rfl
  | d :: r, ns, h => by
    cases d with
    | int i =>
      unfold intsD at h
      cases hr : intsD r with
      | none => rw [hr] at h; cases h
      | some ms => rw [hr] at h; cases h; rw [ints_is hr]; rfl
    | _ => cases h
theorem rp_ints {F : Hp} : ∀ {ns : List Int} {vs : List V}, RpL G F vs (ns.map PyData.int) → vs = ns.map V.int
  | [], _, q => by cases q; rfl
  | n :: ns, _, q => by
    cases q with
    | cons h t => rw [rp_int h, rp_ints t]; rfl
theorem rp_intsO {F : Hp} {ds : List D} {ns : List Int} {vs : List V} (h : intsD ds = some ns) (q : RpL G F vs ds) : vs = ns.map V.int := by
  rw [ints_is h] at q
  exact rp_ints q
/-- a sum, from the left -/
def sumD : List D → Option Int
  | [] => some 0
  | .int i :: r => (sumD r).map (i + ·)
  | _ :: _ => none
theorem sumD_is : ∀ {ds : List D} {n : Int}, sumD ds = some n → ∃ ns : List Int, ds = ns.map PyData.int ∧ ns.sum = n
  | [], n, h => by cases h; exact ⟨[], rfl, rfl⟩
  | d :: r, n, h => by
    cases d with
    | int i =>
      unfold sumD at h
      cases hr : sumD r with
      | none => rw [hr] at h; cases h
      | some m =>
        rw [hr] at h
        cases h
        obtain ⟨ns, e1, e2⟩ := sumD_is hr
        exact ⟨i :: ns, by rw [e1]; rfl, by rw [List.sum_cons, e2]⟩
    | _ => cases h
def cSum : List D → Option D
  | [.list ds] => (sumD ds).map .int
  | _ => none
theorem cd_sum : CallD G (rSum G.K) cSum := fun x d F H v Q h hs q k => by
  unfold cSum at h
  split at h
  · rename_i ds
    obtain ⟨v, rfl, qa⟩ := one_of q
    obtain ⟨a, xs, rfl, h1, h2⟩ := rp_lst qa
    cases hn : sumD ds with
    | none => rw [hn] at h; cases h
    | some n =>
      rw [hn] at h
      cases h
      obtain ⟨ns, e1, e2⟩ := sumD_is hn
      subst e1
      rw [rp_ints h2] at h1
      refine ⟨a, ns, rfl, SqL.of (hs _ _ h1), ?_⟩
      rw [e2]
      exact k _ _ _ (Ext.refl _ _) (.int _)
  · cases h
/-- a new list from a call -/
def CallN (G : Gm) (r : List V → Hp → VK → Prop) (o : List D → Option (List D)) : Prop := ∀ (x : List D) (ds : List D) (F H : Hp) (v : List V) (Q : VK), o x = some ds → Sub F H → RpL G F v x → (∀ vs, RpL G F vs ds → ∀ p, H p = none → Q (.ref p) (upd H p (.lst vs))) → r v H Q
def OpN (G : Gm) (r : R2) (o : D → D → Option (List D)) : Prop := ∀ (x y : D) (ds : List D) (F H : Hp) (v w : V) (Q : VK), o x y = some ds → Sub F H → Rp G F v x → Rp G F w y → (∀ vs, RpL G F vs ds → ∀ p, H p = none → Q (.ref p) (upd H p (.lst vs))) → r v w H Q
def xCB (o : List D → Option (List D)) (fs : En → R (List D)) : En → R Sl := fun r => (fs r).bind fun x r1 => match o x with
  | some ds => .ok (.ow ds) r1
  | none => .st
def xOp (o : D → D → Option (List D)) (f g : En → R D) : En → R Sl := fun r => (f r).bind fun x r1 => (g r1).bind fun y r2 => match o x y with
  | some ds => .ok (.ow ds) r2
  | none => .st
variable {W : WX} {F H F1 H1 : Hp} {σ : L2.St} {r r1 : En} {a b : Expr} {pos : Pos} {f g : En → R D}
/-- an own value's reading, behind an expression -/
def TXp (G : Gm) (W : WX) (x : R Sl) (F H : Hp) (σ : L2.St) (r : En) (Q : VK) : Prop := match x with
  | .ok s r' => ∀ F' H' v, Go F H (oA σ r) F' H' (oA (σ ++ [some v]) (r' ++ [s])) → Rel G F' H' (σ ++ [some v]) (r' ++ [s]) → Q v H'
  | .ex c d r' => ∀ F' H' cls dd, Go F H (oA σ r) F' H' (oA σ r') → Rel G F' H' σ r' → XOk G F' H' c d cls dd → W cls dd σ H'
  | .st => False
theorem TXp.bind {α β : Type} {rel : Hp → β → α → Prop} {x : R α} {k : α → En → R Sl} {Q : VK} (h : TXp G W (x.bind k) F H σ r Q) :
    Pt G W rel x F H σ r (fun b H1 => ∃ a F1 r1, Sub F F1 ∧ Rel G F1 H1 σ r1 ∧ rel F1 b a ∧ TXp G W (k a r1) F1 H1 σ r1 Q) := by
  cases x with
  | ok a r' =>
    intro F' H' b g e q
    refine ⟨a, F', r', g.sub, e, q, ?_⟩
    have h : TXp G W (k a r') F H σ r Q := h
    cases hk : k a r' with
    | ok es r2 => rw [hk] at h; exact fun F2 H2 J g2 => h F2 H2 J (g.trans g2)
    | ex c d r2 => rw [hk] at h; exact fun F2 H2 cls dd g2 => h F2 H2 cls dd (g.trans g2)
    | st => rw [hk] at h; exact h
  | ex c d r' => exact h
  | st => exact h
theorem TXp.new {ds : List D} {Q : VK} (h : TXp G W (.ok (.ow ds) r) F H σ r Q) (e : Rel G F H σ r) (vs : List V) (q : RpL G F vs ds) (p : Addr) (hp : H p = none) : Q (.ref p) (upd H p (.lst vs)) := by
  obtain ⟨g, e2⟩ := e.newL hp q
  exact h _ _ _ g e2
theorem tCBn_of {rr : List V → Hp → VK → Prop} {o : List D → Option (List D)} {fs : En → R (List D)} (hd : CallN G rr o) (σ : L2.St) (H : Hp) (Q : VK) : TXo G W (xCB o fs) σ H Q → tCB rr (TAo G W fs) σ H Q := fun ⟨F, r0, e, p⟩ => by
  have p : TXp G W (xCB o fs r0) F H σ r0 Q := p
  refine ⟨F, r0, e, (TXp.bind (rel := rL G) p).mono fun v H1 ⟨x, F1, r1, _, e1, q1, p1⟩ => ?_⟩
  cases ho : o x with
  | none => simp only [ho] at p1; exact p1.elim
  | some ds =>
    simp only [ho] at p1
    exact hd x ds F1 H1 v Q ho e1.sub q1 fun vs qv p hp => p1.new e1 vs qv p hp
theorem dx_callB {id : String} {x : Str} {es : List Expr} {p : Pos} {rr : List V → Hp → VK → Prop} {o : List D → Option (List D)} {fs : En → R (List D)} (hc : CallR X (.builtin id) rr) (hd : CallN G rr o) (hm : X.mg x = none) (hv : bootBuiltins x = some (.builtin id)) (ha : PA X (a :: es) (TAo G W fs)) (hg : Gl X x := by rfl)
    (hn : x ≠ "__name__" := by decide) (hdb : (x == ("__debug__" : Str)) = false := by decide) (he : starEach (a :: es) X.env = (false, eval a X.env) :: starEach es X.env := by rfl) (hpl : (backTo pos (starEach es X.env)).any (·.1) = false := by rfl) :
    PE X (.Call (.Name x p) (a :: es) [] pos) (TXo G W (xCB o fs)) := pe_of (pe_callB hc hg hm hv ha hn hdb he hpl) (tCBn_of hd)
theorem dx_callTy {id : String} {x : Str} {es : List Expr} {p : Pos} {rr : List V → Hp → VK → Prop} {o : List D → Option (List D)} {fs : En → R (List D)} (hc : CallR X (.type id) rr) (hd : CallN G rr o) (hm : X.mg x = none) (hv : bootBuiltins x = some (.type id)) (ha : PA X (a :: es) (TAo G W fs)) (hg : Gl X x := by rfl)
    (hn : x ≠ "__name__" := by decide) (hdb : (x == ("__debug__" : Str)) = false := by decide) (he : starEach (a :: es) X.env = (false, eval a X.env) :: starEach es X.env := by rfl) (hpl : (backTo pos (starEach es X.env)).any (·.1) = false := by rfl) :
    PE X (.Call (.Name x p) (a :: es) [] pos) (TXo G W (xCB o fs)) := pe_of (pe_callTy hc hg hm hv ha hn hdb he hpl) (tCBn_of hd)
theorem dx_op {op : Operator} {rr : R2} {o : D → D → Option (List D)} (ho : OpR X (binaryOp op) rr) (hd : OpN G rr o) (ha : PE X a (TEo G W f)) (hb : PE X b (TEo G W g)) : PE X (.BinOp a op b pos) (TXo G W (xOp o f g)) :=
  pe_of (pe_op ho ha hb) fun σ H Q ⟨F, r0, e, p⟩ => by
    have p : TXp G W (xOp o f g r0) F H σ r0 Q := p
    refine ⟨F, r0, e, (TXp.bind (rel := rV G) p).mono fun v H1 ⟨x, F1, r1, _, e1, q1, p1⟩ => ⟨F1, r1, e1, (TXp.bind (rel := rV G) p1).mono fun w H2 ⟨y, F2, r2, s2, e2, q2, p2⟩ => ?_⟩⟩
    cases ho : o x y with
    | none => simp only [ho] at p2; exact p2.elim
    | some ds =>
      simp only [ho] at p2
      exact hd x y ds F2 H2 v w Q ho e2.sub (q1.mono s2) q2 fun vs qv p hp => p2.new e2 vs qv p hp
/-- two lists, one behind the other; a list many times -/
def nCat : D → D → Option (List D)
  | .list xs, .list ys => if xs.length + ys.length ≤ 1000000 then some (xs ++ ys) else none
  | _, _ => none
theorem on_cat : OpN G rCat nCat := fun x y ds F H v w Q h hs q1 q2 k => by
  unfold nCat at h
  split at h
  · split at h
    · rename_i hz
      cases h
      obtain ⟨a, xs, rfl, h1, h2⟩ := rp_lst q1
      obtain ⟨b, ys, rfl, h3, h4⟩ := rp_lst q2
      exact ⟨a, b, xs, ys, rfl, rfl, hs _ _ h1, hs _ _ h3, small6 (by rw [h2.len, h4.len]; exact hz), k _ (h2.append h4)⟩
    · cases h
  · cases h
def repD (ds : List D) : Nat → List D
  | 0 => []
  | n + 1 => ds ++ repD ds n
theorem rp_rep {F : Hp} {vs : List V} {ds : List D} (q : RpL G F vs ds) : ∀ n, RpL G F (List.replicate n vs).flatten (repD ds n)
  | 0 => .nil
  | n + 1 => by
    rw [List.replicate_succ, List.flatten_cons]
    exact q.append (rp_rep q n)
def nRep : D → D → Option (List D)
  | .list xs, .int k => if (decide (-1000000 ≤ k) && decide (k ≤ 1000000) && decide (xs.length * k.toNat ≤ 1000000)) = true then some (repD xs k.toNat) else none
  | _, _ => none
theorem on_rep : OpN G rRep nRep := fun x y ds F H v w Q h hs q1 q2 k => by
  unfold nRep at h
  split at h
  · rename_i xs n
    split at h
    · rename_i hz
      cases h
      simp only [Bool.and_eq_true, decide_eq_true_eq] at hz
      obtain ⟨a, vs, rfl, h1, h2⟩ := rp_lst q1
      rw [rp_int q2]
      exact ⟨a, n, vs, rfl, rfl, hs _ _ h1, by omega, by omega, small6 (by rw [h2.len]; exact hz.2), k _ (rp_rep h2 _)⟩
    · cases h
  · cases h
def nList : List D → Option (List D)
  | [.list ds] => some ds
  | [.tuple ds] => some ds
  | _ => none
theorem cn_list : CallN G (fun xs H Q => ∃ p ys, xs = [.ref p] ∧ (SqL G.K H p ys ∨ SqT G.K H p ys) ∧ ∀ l, H l = none → Q (.ref l) (upd H l (.lst ys))) nList := fun x ds F H v Q h hs q k => by
  unfold nList at h
  split at h
  · cases h
    obtain ⟨v, rfl, qa⟩ := one_of q
    obtain ⟨a, xs, rfl, h1, h2⟩ := rp_lst qa
    exact ⟨a, xs, rfl, .inl (SqL.of (hs _ _ h1)), k _ h2⟩
  · cases h
    obtain ⟨v, rfl, qa⟩ := one_of q
    obtain ⟨a, xs, rfl, h1, h2⟩ := rp_tup qa
    exact ⟨a, xs, rfl, .inr (hs.t h1), k _ h2⟩
  · cases h
end
end DL
set_option maxHeartbeats 4000000
/-! DLi: chains, truth, isinstance, repr of scalars, two names at once; a def as the head tells it. -/
namespace DL
open PySem PyProof.Rows L2
section
variable {G : Gm} {W : WX} {F H F1 H1 F' H' : Hp} {σ σ1 : L2.St} {r r1 : En} {X : Cx} {a b c tg : Expr} {pos : Pos} {f g h : En → R D}
theorem dt_cmp {op : CmpOp} {rr : R2} {o : D → D → Option D} (ho : OpR X (compareOp op) rr) (hd : OpD G rr o) (ha : PE X a (TEo G W f)) (hb : PE X b (TEo G W g)) (hm : behindInMarks op b = false := by rfl) : PT X (.Compare a [op] [b] pos) (TTo G W (tB1 (eOp o f g))) :=
  pt_of (pt_cmpR ho ha hb hm) fun σ H Q z => tOp_of hd σ H _ (tB_of σ H Q z)
/-- a op b op' c -/
theorem tChain_of {ra rb : R2} {o o' : D → D → Option D} (hd : OpD G ra o) (hd' : OpD G rb o') (σ : L2.St) (H : Hp) (Q : VK) : TEo G W (eChain o o' f g h) σ H Q → tChain ra rb (TEo G W f) (TEo G W g) (TEo G W h) σ H Q :=
  fun ⟨F, r0, e, p⟩ =>
    ⟨F, r0, e, (Pt.bind (rel1 := rV G) p).mono fun v H1 ⟨x, F1, r1, _, e1, q1, p1⟩ => ⟨F1, r1, e1, (Pt.bind (rel1 := rV G) p1).mono fun w H2 ⟨y, F2, r2, s2, e2, q2, p2⟩ => by
      cases hxy : o x y with
      | none => simp only [hxy] at p2; exact p2.elim
      | some d =>
        simp only [hxy] at p2
        refine hd x y d F2 H2 v w _ hxy e2.sub (q1.mono s2) q2 fun F3 H3 z x3 q3 => ?_
        cases d with
        | bool k =>
          cases q3
          have e3 := e2.ext x3
          refine ⟨k, rfl, ?_⟩
          cases k with
          | false => exact Pt.here p2 e2 x3 (.bl _)
          | true =>
            rw [if_pos rfl]
            have p2 := Pt.from (r1 := r2) (x3.goO fun _ z => z) p2
            exact ⟨F3, r2, e3, (Pt.bind (rel1 := rV G) p2).mono fun u H4 ⟨y', F4, r4, s4, e4, q4, p4⟩ => by
              obtain ⟨d', h1, h2⟩ := liftO_here e4 p4
              exact hd' y y' d' F4 H4 w u Q h1 e4.sub ((q2.mono x3.go.sub).mono s4) q4 h2⟩
        | _ => exact p2.elim⟩⟩
theorem de_chain {op op' : CmpOp} {ra rb : R2} {o o' : D → D → Option D} (ho : OpR X (compareOp op) ra) (hd : OpD G ra o) (ho' : OpR X (compareOp op') rb) (hd' : OpD G rb o') (ha : PE X a (TEo G W f)) (hb : PE X b (TEo G W g)) (hc : PE X c (TEo G W h))
    (hm : lastMarks [op, op'] [b, c] = false := by with_unfolding_all rfl) : PE X (.Compare a [op, op'] [b, c] pos) (TEo G W (eChain o o' f g h)) := pe_of (pe_chain ho ho' ha hb hc hm) (tChain_of hd hd')
theorem dt_chain {op op' : CmpOp} {ra rb : R2} {o o' : D → D → Option D} (ho : OpR X (compareOp op) ra) (hd : OpD G ra o) (ho' : OpR X (compareOp op') rb) (hd' : OpD G rb o') (ha : PE X a (TEo G W f)) (hb : PE X b (TEo G W g)) (hc : PE X c (TEo G W h))
    (hm : lastMarks [op, op'] [b, c] = false := by with_unfolding_all rfl) : PT X (.Compare a [op, op'] [b, c] pos) (TTo G W (tB1 (eChain o o' f g h))) := pt_of (pt_chain ho ho' ha hb hc hm) fun σ H Q z => tChain_of hd hd' σ H _ (tB_of σ H Q z)
/-- the truth of data, as a test -/
theorem truD_of (hK : X.K = G.K) {v : V} {d : D} {k : Bool} (s : Sub F H) (q : Rp G F v d) (h : truD d = some k) : TruV X.K v H k := by
  cases q with
  | non => cases h; exact rfl
  | bl b => cases h
  | int i => cases h; exact rfl
  | str x =>
    have h : (if x.length ≤ sizeLine then some (x.length != 0) else none) = some k := h
    split at h
    · rename_i hz
      cases h
      refine ⟨hz, ?_⟩
      rw [Bool.eq_iff_iff]
      simp
    · cases h
  | @lst a xs ds e hs =>
    cases h
    refine Or.inl ⟨xs, .inl (.inl (s _ _ e)), ?_⟩
    have := hs.len
    cases xs <;> cases ds <;> simp_all
  | @tup a xs ds e hs =>
    cases h
    refine Or.inr (Or.inl ⟨xs, by rw [hK]; exact s.t e, ?_⟩)
    have := hs.len
    cases xs <;> cases ds <;> simp_all
  | dct _ _ => cases h
  | dcT _ _ => cases h
  | fn _ => cases h
theorem dt_tru (hK : X.K = G.K) (ha : PE X a (TEo G W f)) (he : ∀ whole, isTrue a X.env whole = (do let v ← whole; standAt a.pos; holding [v] (truthy v)) := by intro _; rfl) : PT X a (TTo G W (tTru f)) :=
  pt_of (pt_truth ha he) fun σ H Q ⟨F, r0, e, p⟩ => ⟨F, r0, e, (Pt.bind (rel1 := rV G) p).mono fun v H1 ⟨x, F1, r1, _, e1, q1, p1⟩ => by
    cases hx : truD x with
    | some k =>
      have : ∀ b, x ≠ .bool b := fun b z => by subst z; cases hx
      refine ⟨k, truD_of hK e1.sub q1 hx, ?_⟩
      have p1 : Pt G W rB (.ok k r1) F1 H1 σ r1 Q := by
        cases x with
        | bool b => exact absurd rfl (this b)
        | _ => simp only [hx] at p1; exact p1
      exact Pt.here p1 e1 (Ext.refl _ _) rfl
    | none =>
      cases x with
      | bool k =>
        cases q1
        exact ⟨k, rfl, Pt.here p1 e1 (Ext.refl _ _) rfl⟩
      | _ => simp only [hx] at p1; exact p1.elim⟩
/-! ### isinstance -/
def tyD : D → Option String
  | .none => some "NoneType"
  | .bool _ => some "bool"
  | .int _ => some "int"
  | .str _ => some "str"
  | .list _ => some "list"
  | .tuple _ => some "tuple"
  | .dict ((.none, _) :: _) => none
  | .dict _ => some "dict"
theorem tyD_dict {l : List (D × D)} {t : String} (h : tyD (.dict l) = some t) : t = "dict" := by
  rcases l with _ | ⟨⟨k, v⟩, l⟩
  · cases h; rfl
  · cases k <;> first | (cases h; rfl) | cases h
def cIsi (t : String) (d : D) : Option D := match tyD d with
  | some a => (kitB a t).map .bool
  | none => none
theorem tyD_of (hK : X.K = G.K) {v : V} {d : D} {t : String} (s : Sub F H) (q : Rp G F v d) (h : tyD d = some t) : TyX X.K H v (.type t) := by
  cases q with
  | non => cases h; exact .base .non
  | bl b => cases h; exact .base (.bl b)
  | int i => cases h; exact .base (.int i)
  | str x => cases h; exact .base (.str x)
  | @lst a xs ds e hs => cases h; exact .base (.lst (s _ _ e))
  | @tup a xs ds e hs =>
    cases h
    rcases e with (e | ⟨o, e⟩) | ⟨o, its, n, e, c, _⟩
    · exact .base (.tup (s _ _ e))
    · exact .fTuple (s _ _ e)
    · exact .kTuple (by rw [hK]; exact e) c
  | @dct a kvs ds e _ =>
    have : t = "dict" := tyD_dict h
    subst this
    exact .base (.dK (s _ _ e))
  | @dcT a kvs ds e _ =>
    have : t = "dict" := tyD_dict h
    subst this
    exact .base (.dT (s _ _ e))
  | fn _ => cases h
theorem de_isi {T : Str} {t : String} {p p2 : Pos} (hK : X.K = G.K) (hm : X.mg "isinstance" = none) (hmT : X.mg T = none) (hT : bootBuiltins T = some (.type t)) (ha : PE X a (TEo G W f)) (hg : Gl X "isinstance" := by rfl) (hgT : Gl X T := by rfl)
    (hn : T ≠ "__name__" := by decide) (hdb : (T == ("__debug__" : Str)) = false := by decide) (he : starEach [a, .Name T p2] X.env = (false, eval a X.env) :: starEach [.Name T p2] X.env := by rfl) (he2 : starEach [.Name T p2] X.env = (false, eval (.Name T p2) X.env) :: starEach [] X.env := by rfl)
    (hpl : (backTo pos (starEach [.Name T p2] X.env)).any (·.1) = false := by rfl) :
    PE X (.Call (.Name "isinstance" p) [a, .Name T p2] [] pos) (TEo G W (eUn (cIsi t) f)) :=
  pe_of (pe_callB call_isi hg hm (by decide +kernel) (pa_cons ha (pa_cons (pe_bltn (v := .ty t) hgT hmT hT rfl hn hdb) pa_nil he2) he) (by decide) (by decide) he hpl) fun σ H Q ⟨F, r0, e, p⟩ =>
    ⟨F, r0, e, (Pt.bind (rel1 := rV G) p).mono fun v H1 ⟨x, F1, r1, _, e1, q1, p1⟩ => by
      obtain ⟨d, hd, k⟩ := liftO_here e1 p1
      unfold cIsi at hd
      split at hd
      · rename_i ta hta
        cases hb : kitB ta t with
        | none => rw [hb] at hd; cases hd
        | some b =>
          rw [hb] at hd
          cases hd
          exact ⟨v, .ty t, _, _, b, rfl, .ty t, tyD_of hK e1.sub q1 hta, kit_ty hb, k _ _ _ (Ext.refl _ _) (.bl b)⟩
      · cases hd⟩
/-! ### repr of numbers -/
def cRepI : List D → Option D
  | [.int i] => if i.natAbs.log2 < 1920 then some (.str (toString i)) else none
  | [.none] => some (.str "None")
  | [.bool k] => some (.str (if k then "True" else "False"))
  | [.str x] => if (reprText x).length ≤ 1000000 then some (.str (reprText x)) else none
  | _ => none
def rRepZ : List V → Hp → VK → Prop := fun xs H Q => ∃ x, xs = [x] ∧ match x with
  | .int i => i.natAbs.log2 < 1920 ∧ Q (.str (toString i)) H
  | .non => Q (.str "None") H
  | .bl k => Q (.str (if k then "True" else "False")) H
  | .str z => (reprText z).length ≤ sizeLine ∧ Q (.str (reprText z)) H
  | _ => False
theorem call_repZ : CallR X (.builtin "repr") rRepZ := fun pins s σ H xs us Q I r h => by
  obtain ⟨x, rfl, h⟩ := h
  obtain ⟨u, rfl, rx⟩ := vals1 r
  cases x with
  | int i =>
    obtain ⟨t, rfl⟩ := rx
    exact PySem.P.repr_of_int h.1 ⟨.str _, H, I.tok _, ⟨_, rfl⟩, h.2⟩
  | non =>
    cases rx
    exact PySem.P.repr_of_none ⟨.str _, H, I.tok _, ⟨_, rfl⟩, h⟩
  | bl k =>
    cases rx
    exact PySem.P.repr_of_bool ⟨.str _, H, I.tok _, ⟨_, rfl⟩, h⟩
  | str z =>
    obtain ⟨t, rfl⟩ := rx
    exact PySem.P.repr_of_str ⟨.str _, H, I.tok _, ⟨_, rfl⟩, h.2⟩ h.1
  | _ => exact h.elim
theorem cd_repI : CallD G rRepZ cRepI := fun x d F H v Q h hs q k => by
  unfold cRepI at h
  split at h
  · split at h
    · rename_i hz
      cases h
      obtain ⟨v, rfl, qa⟩ := one_of q
      rw [rp_int qa]
      exact ⟨_, rfl, hz, k _ _ _ (Ext.refl _ _) (.str _)⟩
    · cases h
  · cases h
    obtain ⟨v, rfl, qa⟩ := one_of q
    rw [rp_non qa]
    exact ⟨_, rfl, k _ _ _ (Ext.refl _ _) (.str _)⟩
  · cases h
    obtain ⟨v, rfl, qa⟩ := one_of q
    rw [rp_bl qa]
    exact ⟨_, rfl, k _ _ _ (Ext.refl _ _) (.str _)⟩
  · split at h
    · rename_i hz
      cases h
      obtain ⟨v, rfl, qa⟩ := one_of q
      rw [rp_str qa]
      exact ⟨_, rfl, small6 hz, k _ _ _ (Ext.refl _ _) (.str _)⟩
    · cases h
  · cases h
/-! ### x, y = a, b -/
def sPar (fx fy : En → R Sl) (i j : Nat) : En → Fl := fun r => rF (fx r) fun s r1 => rF (fy r1) fun t r2 => .nx ((r2.set i s).set j t)
theorem own_frame {v w : V} {s t : Sl} {i j : Nat} (hl : σ.length = r.length) {x : Addr} (h : oA ((σ.set i (some v)).set j (some w)) ((r.set i s).set j t) x) : oA (σ ++ [some w] ++ [some v]) (r ++ [t] ++ [s]) x := by
  obtain ⟨k, u, e1, m, e2⟩ := h
  have l2 : (σ ++ [some w]).length = (r ++ [t]).length := by simp [hl]
  rcases get_set e1 with ⟨a1, b1, c1⟩ | ⟨a1, b1⟩
  · rcases get_set e2 with ⟨_, b2, _⟩ | ⟨a2, _⟩
    · subst b1; cases b2
      refine own_init l2 x ⟨r.length, u, get_last, m, ?_⟩
      rw [← hl]; exact get_last
    · exact absurd a1 a2
  · rcases get_set e2 with ⟨a2, _, _⟩ | ⟨_, b2⟩
    · exact absurd a2 a1
    · rcases get_set b1 with ⟨a3, b3, c3⟩ | ⟨a3, b3⟩
      · rcases get_set b2 with ⟨_, b4, _⟩ | ⟨a4, _⟩
        · subst b3; cases b4
          exact ⟨(r ++ [t]).length, u, get_last, m, by rw [← l2]; exact get_last⟩
        · exact absurd a3 a4
      · rcases get_set b2 with ⟨a4, _, _⟩ | ⟨_, b4⟩
        · exact absurd a4 a3
        · exact own_init l2 x (own_init hl x ⟨k, u, b3, m, b4⟩)
theorem ds_par {i j : Nat} {x y : Str} {fx fy : En → R Sl} {px py pt : Pos} {kt k2 pt2} (hc : X.calm = true) (hN : X.N.Nodup) (ha : PE X a (TXo G W fx)) (hb : PE X b (TXo G W fy)) (hi : X.N[i]? = some x := by rfl) (hj : X.N[j]? = some y := by rfl) (hij : i ≠ j := by decide)
    (hx : X.env.scope.names.lookup x = some .local := by rfl) (hy : X.env.scope.names.lookup y = some .local := by rfl) (h1 : starEach [a, b] X.env = (false, eval a X.env) :: starEach [b] X.env := by rfl) (h2 : starEach [b] X.env = (false, eval b X.env) :: starEach [] X.env := by rfl)
    (hw : swappedStores [.Tuple [.Name x px, .Name y py] kt pt] (.Tuple [a, b] k2 pt2) X.env = pure (some [x, y]) := by rfl)
    (hs : swapsWithSole [.Tuple [.Name x px, .Name y py] kt pt] (.Tuple [a, b] k2 pt2) pos.line X.env = pure false := by rfl) :
    PS X (.Assign [.Tuple [.Name x px, .Name y py] kt pt] (.Tuple [a, b] k2 pt2) pos) (TSo G W (sPar fx fy i j)) :=
  ps_of (ps_par hc hN hi hj hij hx hy (pa_cons ha (pa_cons hb pa_nil h2) h1) hw hs) fun E σ H ⟨F, r, e, p⟩ => by
    refine ⟨F, r, e, ?_⟩
    unfold sPar rF at p
    cases hf : fx r with
    | st => rw [hf] at p; exact p.elim
    | ex c d r' => rw [hf] at p; exact fun F' H' cls dd g e x => p F' H' σ cls dd g e x
    | ok s r1 =>
      rw [hf] at p
      intro F1 H1 v g1 e1
      refine ⟨F1, r1, e1.init, ?_⟩
      simp only at p
      have l1 := e1.init.len
      have g0 : Go F H (oA σ r) F1 H1 (oA σ r1) := g1.wide (fun _ z => z) fun a z => g1.own a (own_init l1 a z)
      cases hg : fy r1 with
      | st => rw [hg] at p; exact p.elim
      | ex c d r' => rw [hg] at p; exact fun F' H' cls dd g e x => p F' H' σ cls dd (g0.trans g) e x
      | ok t r2 =>
        rw [hg] at p
        intro F2 H2 w g2 e2
        refine ⟨v, w, rfl, ?_⟩
        obtain ⟨e3, g3⟩ := e1.frame g2 e2
        have l2 := e2.init.len
        have e4 := e3.store (i := i)
        have hA : ∀ {α : Type} {l : List α} {z u : α} {i : Nat}, i < l.length → (l ++ [z]).set i u = l.set i u ++ [z] := fun {α l z u i} h => List.set_append_left _ _ h
        have hil : i < σ.length ∨ ¬ i < σ.length := Classical.em _
        rcases hil with hil | hil
        · rw [hA hil, hA (by rw [← l2]; exact hil)] at e4
          have e5 := e4.store (i := j)
          exact p F2 H2 _ ((g1.trans g3).wide (fun _ z => z) fun a z => (g1.trans g3).own a (own_frame l2 z)) e5
        · -- no such name: nothing is stored there
          have a1 : σ.set i (some v) = σ := List.set_eq_of_length_le (by omega)
          have a2 : r2.set i s = r2 := List.set_eq_of_length_le (by omega)
          have e5 := e2.store (i := j)
          have hown : ∀ a, oA ((σ.set i (some v)).set j (some w)) ((r2.set i s).set j t) a → oA (σ ++ [some w] ++ [some v]) (r2 ++ [t] ++ [s]) a := fun a z => own_frame l2 z
          rw [← a1, ← a2] at e5
          rw [a1, a2] at e5
          exact p F2 H2 _ ((g1.trans g3).wide (fun _ z => z) fun a z => (g1.trans g3).own a (own_frame l2 z)) (by rw [a1, a2]; exact e5)
end
/-! ### a def as the head tells it -/
section
variable {P : Program} {w : World} {K : PySem.W.Frag} {mg : Str → Option Value} {base : Heap} {G : Gm}
theorem fnD' {gu : Bool} {x qual : Str} {params : Arguments} {body : List Stmt} {scope : Scope} {dvs : List V} {kws : List (Str × V)} {f : Addr} {fd : FuncData} {N ps : List Str} {k : Nat} {fB : En → Fl} (F : FunD K x qual params body scope dvs kws f fd) (S : FnScope N ps scope)
    (hbody : ∀ (pd : Addr) (cdv : Value) (A : Around) (outer : List Env) (s : Shared) (H : Hp) (E : XK), Room k (A.deeper (envOfC qual scope s.heap.objs.size f cdv)) → (gu = true → A.guards = some []) →
      PSs (cxOf (L2.CX P w) P w K mg base N qual scope f cdv A outer s H E) body (TSo { G with pd := pd } (fun cls d _ H => E cls d H) fB)) :
    FnG gu P w K mg base (k + 1) f fd ps (spD G (runF N.length ps.length fB)) := by
  obtain ⟨oc, od, dV, kV, doc, pm, an, cdv, ct, osl, rfl, lk, hcd, _, _⟩ := F.ex
  have len : ∀ vs H Q E, spD G (runF N.length ps.length fB) vs H Q E → vs.length = ps.length := fun vs H Q E ⟨pd, F0, args, e, p⟩ => by
    have l := e.len
    rw [List.length_map] at l
    unfold runF at p
    split at p
    · rename_i hz
      split at hz
      · rename_i h0; rw [l]; exact h0
      · cases hz
    · rename_i hz
      split at hz
      · rename_i h0; rw [l]; exact h0
      · cases hz
    · exact p.elim
  refine ⟨len, fun A outer s H args us vs Q E hgu hr e0 hb r hsp => ?_⟩
  have hl := len vs H Q E hsp
  refine LamX.run_ofS lk hcd S hr e0 hb r hl fun hr' => ?_
  obtain ⟨pd, F0, ar, e, p⟩ := hsp
  refine ⟨_, hbody pd cdv A outer s H E hr' hgu, ?_⟩
  have hal : ar.length = ps.length := by rw [← e.len, List.length_map]; exact hl
  obtain ⟨e1, o1⟩ := rel_start (n := N.length) e hal
  have es : vs.map some ++ List.replicate (N.length - ps.length) none = L2.start N vs := by unfold L2.start; rw [hl]
  rw [es] at e1 o1
  refine ⟨F0, _, e1, ?_⟩
  unfold runF at p
  rw [if_pos hal] at p
  cases hf : fB (ar ++ List.replicate (N.length - ps.length) .no) with
  | nx r' =>
    simp only [hf] at p
    intro F' H' σ' g e'
    obtain ⟨a1, a2⟩ := (e'.val .non).leave rfl
    exact p F' H' .non (g.wide o1 fun a z => (g.own a (own_val e'.len (a2 a z))).imp (o1 a) id) a1
  | rt s' r' =>
    simp only [hf] at p
    split at p
    · rename_i hq
      split at hq
      · rename_i hio
        cases hq
        intro F' H' σ' v g e'
        obtain ⟨a1, a2⟩ := e'.leave hio
        exact p F' H' v (g.wide o1 fun a z => (g.own a (a2 a z)).imp (o1 a) id) a1
      · cases hq
    · rename_i hq
      split at hq
      · cases hq
      · cases hq
    · exact p.elim
  | ex c d r' =>
    simp only [hf] at p
    intro F' H' σ' cls dd g e' x
    exact p F' H' cls dd (g.wide o1 fun a z => z.elim) ⟨e'.sub, e'.ntb, e'.tabs, rfl, fun i s v e1 => by simp at e1, fun i j s t p e1 => by simp at e1⟩ x
  | bk r' => simp only [hf] at p
  | ct r' => simp only [hf] at p
  | st => simp only [hf] at p
end
end DL
set_option maxHeartbeats 4000000
/-! DLj: several names at once; facts about callees. -/
namespace DL
open PySem PyProof.Rows L2
section
variable {G : Gm} {W : WX} {F H F1 H1 F' H' : Hp} {σ σ1 : L2.St} {r r1 : En} {X : Cx} {a b c tg : Expr} {pos : Pos}
def stk : List V → L2.St
  | [] => []
  | v :: vs => stk vs ++ [some v]
def rvS : List Sl → En
  | [] => []
  | s :: ss => rvS ss ++ [s]
/-- own values, one behind the other, all of them still ours -/
def TYo (G : Gm) (W : WX) (fs : En → R (List Sl)) : TA := fun σ H Q => ∃ F r, Rel G F H σ r ∧ match fs r with
  | .ok ss r' => ∀ F' H' vs, vs.length = ss.length → Go F H (oA σ r) F' H' (oA (σ ++ stk vs) (r' ++ rvS ss)) → Rel G F' H' (σ ++ stk vs) (r' ++ rvS ss) → Q vs H'
  | .ex c d r' => ∀ F' H' cls dd, Go F H (oA σ r) F' H' (oA σ r') → Rel G F' H' σ r' → XOk G F' H' c d cls dd → W cls dd σ H'
  | .st => False
def yNil : En → R (List Sl) := fun r => .ok [] r
def yCons (f : En → R Sl) (g : En → R (List Sl)) : En → R (List Sl) := fun r => (f r).bind fun s r1 => (g r1).bind fun ss r2 => .ok (s :: ss) r2
theorem dy_nil : PA X [] (TYo G W yNil) := pa_of pa_nil fun σ H Q ⟨F, r0, e, p⟩ => by
  have p : ∀ F' H' vs, vs.length = 0 → Go F H (oA σ r0) F' H' (oA (σ ++ stk vs) (r0 ++ [])) → Rel G F' H' (σ ++ stk vs) (r0 ++ []) → Q vs H' := p
  exact p F H [] rfl (Go.refl fun a z => by simpa [stk] using z) (by simpa [stk] using e)
theorem dy_cons {es : List Expr} {f : En → R Sl} {fs : En → R (List Sl)} (ha : PE X a (TXo G W f)) (hr : PA X es (TYo G W fs)) (hs : starEach (a :: es) X.env = (false, eval a X.env) :: starEach es X.env := by rfl) : PA X (a :: es) (TYo G W (yCons f fs)) :=
  pa_of (pa_cons ha hr hs) fun σ H Q ⟨F, r, e, p⟩ => by
    refine ⟨F, r, e, ?_⟩
    unfold yCons at p
    cases hf : f r with
    | st => rw [hf] at p; exact p.elim
    | ex c d r' => rw [hf] at p; exact p
    | ok s r1 =>
      rw [hf] at p
      simp only [R.bind] at p
      intro F1 H1 v g1 e1
      refine ⟨F1, r1, e1.init, ?_⟩
      have l1 := e1.init.len
      have g0 : Go F H (oA σ r) F1 H1 (oA σ r1) := g1.wide (fun _ z => z) fun a z => g1.own a (own_init l1 a z)
      cases hg : fs r1 with
      | st => rw [hg] at p; exact p.elim
      | ex c d r' => rw [hg] at p; exact fun F' H' cls dd g e x => p F' H' cls dd (g0.trans g) e x
      | ok ss r2 =>
        rw [hg] at p
        simp only at p
        intro F2 H2 vs hl g2 e2
        obtain ⟨e3, g3⟩ := e1.frame g2 e2
        have as1 : σ ++ stk vs ++ [some v] = σ ++ stk (v :: vs) := by rw [List.append_assoc]; rfl
        have as2 : r2 ++ rvS ss ++ [s] = r2 ++ rvS (s :: ss) := by rw [List.append_assoc]; rfl
        rw [as1, as2] at e3 g3
        exact p F2 H2 (v :: vs) (by simp [hl]) (g1.trans g3) e3
def setAll : List Nat → List V → L2.St → L2.St
  | i :: is, v :: vs, σ => setAll is vs (σ.set i (some v))
  | _, _, σ => σ
def putAll : List Nat → List Sl → En → En
  | i :: is, s :: ss, r => putAll is ss (r.set i s)
  | _, _, r => r
theorem Rel.puts : ∀ {is : List Nat} {vs : List V} {ss : List Sl} {σ : L2.St} {r : En}, (∀ i ∈ is, i < r.length) → is.length = ss.length → vs.length = ss.length → Rel G F H (σ ++ stk vs) (r ++ rvS ss) → σ.length = r.length →
    Rel G F H (setAll is vs σ) (putAll is ss r) ∧ ∀ a, oA (setAll is vs σ) (putAll is ss r) a → oA (σ ++ stk vs) (r ++ rvS ss) a
  | [], [], [], σ, r, _, _, _, e, _ => by
    have e1 : σ ++ stk [] = σ := by simp [stk]
    have e2 : r ++ rvS [] = r := by simp [rvS]
    rw [e1, e2] at e ⊢
    exact ⟨e, fun _ z => z⟩
  | i :: is, v :: vs, s :: ss, σ, r, hi, h1, h2, e, hl => by
    have as1 : σ ++ stk (v :: vs) = σ ++ stk vs ++ [some v] := by rw [List.append_assoc]; rfl
    have as2 : r ++ rvS (s :: ss) = r ++ rvS ss ++ [s] := by rw [List.append_assoc]; rfl
    rw [as1, as2] at e ⊢
    have hi0 : i < r.length := hi i (List.mem_cons_self ..)
    have l2 := e.init.len
    have e3 := e.store (i := i)
    have b1 : (σ ++ stk vs).set i (some v) = σ.set i (some v) ++ stk vs := List.set_append_left _ _ (by rw [hl]; exact hi0)
    have b2 : (r ++ rvS ss).set i s = r.set i s ++ rvS ss := List.set_append_left _ _ hi0
    have own3 : ∀ a, oA ((σ ++ stk vs).set i (some v)) ((r ++ rvS ss).set i s) a → oA (σ ++ stk vs ++ [some v]) (r ++ rvS ss ++ [s]) a := fun a z => own_store l2 z
    rw [b1, b2] at e3 own3
    obtain ⟨q1, q2⟩ := Rel.puts (is := is) (vs := vs) (ss := ss) (σ := σ.set i (some v)) (r := r.set i s) (fun j hj => by rw [List.length_set]; exact hi j (List.mem_cons_of_mem _ hj)) (by simpa using h1) (by simpa using h2) e3 (by simp [hl])
    exact ⟨q1, fun a z => own3 a (q2 a z)⟩
  | [], _, _ :: _, _, _, _, h, _, _, _ => by simp at h
  | _ :: _, _, [], _, _, _, h, _, _, _ => by simp at h
  | _, [], _ :: _, _, _, _, _, h, _, _ => by simp at h
  | _, _ :: _, [], _, _, _, _, h, _, _ => by simp at h
def sPars (is : List Nat) (fs : En → R (List Sl)) : En → Fl := fun r => rF (fs r) fun ss r1 => if (decide (is.length = ss.length) && is.all fun i => decide (i < r1.length)) = true then .nx (putAll is ss r1) else .st
/-- what is read behind the values: they are stored -/
theorem pars_of {is : List Nat} {fs : En → R (List Sl)} (E : Ends) (σ : L2.St) (H : Hp) : TSo G W (sPars is fs) E σ H →
    TYo G W fs σ H fun vs H1 => vs.length = is.length ∧ (∀ H2, (∃ q, H1 q = none ∧ H2 = upd H1 q (.tup vs)) → E.nx (setAll is vs σ) H2) ∧ E.nx (setAll is vs σ) H1 := fun ⟨F, r, e, p⟩ => by
  refine ⟨F, r, e, ?_⟩
  unfold sPars rF at p
  cases hf : fs r with
  | st => rw [hf] at p; exact p.elim
  | ex c d r' => rw [hf] at p; exact fun F' H' cls dd g e x => p F' H' σ cls dd g e x
  | ok ss r1 =>
    rw [hf] at p
    simp only at p
    intro F1 H1 vs hl g1 e1
    split at p
    · rename_i hz
      rw [Bool.and_eq_true, decide_eq_true_eq, List.all_eq_true] at hz
      have hi : ∀ i ∈ is, i < r1.length := fun i m => by simpa using hz.2 i m
      have hlen : σ.length = r1.length := by
        have z := e1.len
        have a1 : ∀ l : List V, (stk l).length = l.length := fun l => by induction l with | nil => rfl | cons x l ih => simp [stk, ih]
        have a2 : ∀ l : List Sl, (rvS l).length = l.length := fun l => by induction l with | nil => rfl | cons x l ih => simp [rvS, ih]
        rw [List.length_append, List.length_append, a1, a2, hl] at z
        omega
      refine ⟨by omega, fun H2 ⟨q, hq, e2⟩ => ?_, ?_⟩
      · subst e2
        have x := Ext.made (o := .tup vs) hq e1.sub
        obtain ⟨k1, k2⟩ := Rel.puts hi hz.1 hl (e1.ext x) hlen
        exact p F1 _ _ ((g1.trans (x.goO fun _ z => z)).wide (fun _ z => z) fun a z => (g1.trans (x.goO fun _ z => z)).own a (k2 a z)) k1
      · obtain ⟨k1, k2⟩ := Rel.puts hi hz.1 hl e1 hlen
        exact p F1 H1 _ (g1.wide (fun _ z => z) fun a z => g1.own a (k2 a z)) k1
    · exact p.elim
def gNs : List Nat → TGs
  | [] => gNil
  | i :: is => gCons (gName i) (gNs is)
theorem gNs_of {Q : L2.St → Hp → Prop} : ∀ {is : List Nat} {vs : List V} {σ : L2.St} {H : Hp}, vs.length = is.length → Q (setAll is vs σ) H → gNs is vs σ H Q
  | [], [], _, _, _, q => ⟨rfl, q⟩
  | i :: is, v :: vs, σ, H, h, q => ⟨v, vs, rfl, gNs_of (is := is) (by simpa using h) q⟩
  | [], _ :: _, _, _, h, _ => by simp at h
  | _ :: _, [], _, _, h, _ => by simp at h
/-- a, b, .. = x, y, .., through a pair -/
theorem TYo.mono {fs : En → R (List Sl)} {Q Q' : List V → Hp → Prop} (h : TYo G W fs σ H Q) (k : ∀ vs H', Q vs H' → Q' vs H') : TYo G W fs σ H Q' := by
  obtain ⟨F, r, e, p⟩ := h
  refine ⟨F, r, e, ?_⟩
  cases hf : fs r with
  | st => rw [hf] at p; exact p
  | ex c d r' => rw [hf] at p; exact p
  | ok ss r1 => rw [hf] at p; exact fun F' H' vs hl g e => k _ _ (p F' H' vs hl g e)
theorem ds_pars {is : List Nat} {ts es : List Expr} {fs : En → R (List Sl)} {kt k2 : _} {pt pt2 : Pos} (hK : X.K = G.K) (hc : X.calm = true) (ha : PA X es (TYo G W fs)) (hg : PGs X ts (gNs is)) (hz : is.length ≤ 100 := by decide)
    (hn : (assignEach ts X.env).length = is.length := by rfl) (hst : (assignEach ts X.env).findIdx? (·.1) = none := by rfl)
    (hs : swapsWithSole [.Tuple ts kt pt] (.Tuple es k2 pt2) pos.line X.env = pure false := by rfl) (hw : swappedStores [.Tuple ts kt pt] (.Tuple es k2 pt2) X.env = pure none := by rfl)
    (h1 : (assignEach [.Tuple ts kt pt] X.env).map (·.2) = [assign (.Tuple ts kt pt) X.env] := by rfl) : PS X (.Assign [.Tuple ts kt pt] (.Tuple es k2 pt2) pos) (TSo G W (sPars is fs)) :=
  ps_of (ps_asg (pe_tup ha) (pg_tup hc hg hn hst) hs hw h1) fun E σ H h => (pars_of E σ H h).mono fun vs H1 ⟨hl, k, _⟩ =>
    ⟨by rw [hl]; exact Nat.le_trans hz (by decide), fun p hp => ⟨p, vs, rfl, SqT.of upd_same, hl, gNs_of hl (k _ ⟨p, hp, rfl⟩)⟩⟩
/-- two, three fast names -/
theorem ds_par2 {i j : Nat} {x y : Str} {fs : En → R (List Sl)} {px py pt : Pos} {kt k2 pt2} (hc : X.calm = true) (hN : X.N.Nodup) (ha : PA X [a, b] (TYo G W fs)) (hi : X.N[i]? = some x := by rfl) (hj : X.N[j]? = some y := by rfl) (hij : i ≠ j := by decide)
    (hx : X.env.scope.names.lookup x = some .local := by rfl) (hy : X.env.scope.names.lookup y = some .local := by rfl)
    (hw : swappedStores [.Tuple [.Name x px, .Name y py] kt pt] (.Tuple [a, b] k2 pt2) X.env = pure (some [x, y]) := by rfl)
    (hs : swapsWithSole [.Tuple [.Name x px, .Name y py] kt pt] (.Tuple [a, b] k2 pt2) pos.line X.env = pure false := by rfl) :
    PS X (.Assign [.Tuple [.Name x px, .Name y py] kt pt] (.Tuple [a, b] k2 pt2) pos) (TSo G W (sPars [i, j] fs)) :=
  ps_of (ps_par hc hN hi hj hij hx hy ha hw hs) fun E σ H h => (pars_of E σ H h).mono fun vs H1 ⟨hl, _, k⟩ => by
    match vs, hl, k with
    | [v, w], _, k => exact ⟨v, w, rfl, k⟩
theorem ds_par3 {i j l : Nat} {x y z : Str} {fs : En → R (List Sl)} {px py pz pt : Pos} {kt k2 pt2} (hc : X.calm = true) (hN : X.N.Nodup) (ha : PA X [a, b, c] (TYo G W fs)) (hi : X.N[i]? = some x := by rfl) (hj : X.N[j]? = some y := by rfl) (hl : X.N[l]? = some z := by rfl) (hij : i ≠ j := by decide) (hil : i ≠ l := by decide) (hjl : j ≠ l := by decide)
    (hx : X.env.scope.names.lookup x = some .local := by rfl) (hy : X.env.scope.names.lookup y = some .local := by rfl) (hz : X.env.scope.names.lookup z = some .local := by rfl)
    (hw : swappedStores [.Tuple [.Name x px, .Name y py, .Name z pz] kt pt] (.Tuple [a, b, c] k2 pt2) X.env = pure (some [x, y, z]) := by rfl)
    (hs : swapsWithSole [.Tuple [.Name x px, .Name y py, .Name z pz] kt pt] (.Tuple [a, b, c] k2 pt2) pos.line X.env = pure false := by rfl) :
    PS X (.Assign [.Tuple [.Name x px, .Name y py, .Name z pz] kt pt] (.Tuple [a, b, c] k2 pt2) pos) (TSo G W (sPars [i, j, l] fs)) :=
  ps_of (ps_par3 hc hN hi hj hl hij hil hjl hx hy hz ha hw hs) fun E σ H h => (pars_of E σ H h).mono fun vs H1 ⟨hl, _, k⟩ => by
    match vs, hl, k with
    | [u, v, w], _, k => exact ⟨u, v, w, rfl, k⟩
/-! ### a callee: all that a call asks of it -/
structure Cal (G : Gm) (gu : Bool) (P : Program) (w : World) (mg : Str → Option Value) (base : Heap) (k : Nat) (x : Str) (ps : List Str) (fD : En → Rf) : Prop where
  ex : ∃ f fd, FnG gu P w G.K mg base k f fd ps (spD G fD) ∧ mg x = some (.ref f) ∧ PySem.W.keepIn G.K (.ref f) = true ∧ Binds G.K fd ps []
theorem dx_callC {gu : Bool} {k : Nat} {ps : List Str} {fD : En → Rf} {x : Str} {p : Pos} {e : Expr} {es : List Expr} {fs : En → R (List D)} (hK : X.K = G.K) (C : Cal G gu X.prog X.w X.mg X.base k x ps fD) (hr : Room k X.A) (hgu : gu = true → X.A.guards = some [])
    (tk : Takes X W) (ha : PA X (e :: es) (TAo G W fs)) (hg : Gl X x := by rfl) (hdb : (x == ("__debug__" : Str)) = false := by decide) (he : starEach (e :: es) X.env = (false, eval e X.env) :: starEach es X.env := by rfl) (hpl : (backTo pos (starEach es X.env)).any (·.1) = false := by rfl) :
    PE X (.Call (.Name x p) (e :: es) [] pos) (TXo G W (xCall fD fs)) := by
  obtain ⟨f, fd, h1, h2, h3, h4⟩ := C.ex
  rw [← hK] at h1 h3 h4
  exact dx_call h1 hr hgu h2 h3 h4 tk ha hg hdb he hpl
end
end DL
set_option maxHeartbeats 4000000
/-! DLk: words that gen.py uses. -/
namespace DL
open PySem PyProof.Rows L2
section
variable {G : Gm} {W : WX} {F H F1 H1 F' H' : Hp} {σ σ1 : L2.St} {r r1 : En} {X : Cx} {a b c tg : Expr} {pos : Pos}
theorem Cal.pd {gu : Bool} {P : Program} {w : World} {mg : Str → Option Value} {base : Heap} {k : Nat} {x : Str} {ps : List Str} {fD : En → Rf} (C : Cal G gu P w mg base k x ps fD) (pd : Addr) : Cal { G with pd := pd } gu P w mg base k x ps fD := ⟨C.ex⟩
theorem dx_callIC {i : Nat} {gu : Bool} {k : Nat} {ps : List Str} {fD : En → Rf} {x y : Str} {p py : Pos} {es : List Expr} {fs : En → R (List D)} (hK : X.K = G.K) (C : Cal G gu X.prog X.w X.mg X.base k x ps fD) (hr : Room k X.A) (hgu : gu = true → X.A.guards = some [])
    (tk : Takes X W) (ha : PA X es (TAo G W fs)) (hN : X.N[i]? = some y := by rfl) (hv : Vis X.env.scope y := by first | exact Or.inl rfl | exact Or.inr (Or.inl rfl) | exact Or.inr (Or.inr rfl)) (hg : Gl X x := by rfl) (hdb : (x == ("__debug__" : Str)) = false := by decide)
    (hdy : (y == ("__debug__" : Str)) = false := by decide) (hcy : (y == ("__classdict__" : Str)) = false := by decide) (he : starEach (.Name y py :: es) X.env = (false, eval (.Name y py) X.env) :: starEach es X.env := by rfl) (hpl : (backTo pos (starEach es X.env)).any (·.1) = false := by rfl) :
    PE X (.Call (.Name x p) (.Name y py :: es) [] pos) (TXo G W (xCallI i fD fs)) := by
  obtain ⟨f, fd, h1, h2, h3, h4⟩ := C.ex
  rw [← hK] at h1 h3 h4
  exact dx_callI h1 hr hgu h2 h3 h4 tk ha hN hv hg hdb hdy hcy he hpl
theorem dx_callRC {i : Nat} {gu : Bool} {k : Nat} {ps : List Str} {fD : En → Rf} {x y : Str} {p py : Pos} {es : List Expr} {fs : En → R (List D)} (hK : X.K = G.K) (C : Cal G gu X.prog X.w X.mg X.base k x ps fD) (hr : Room k X.A) (hgu : gu = true → X.A.guards = some [])
    (tk : Takes X W) (ha : PA X es (TAo G W fs)) (hN : X.N[i]? = some y := by rfl) (hv : Vis X.env.scope y := by first | exact Or.inl rfl | exact Or.inr (Or.inl rfl) | exact Or.inr (Or.inr rfl)) (hg : Gl X x := by rfl) (hdb : (x == ("__debug__" : Str)) = false := by decide)
    (hdy : (y == ("__debug__" : Str)) = false := by decide) (hcy : (y == ("__classdict__" : Str)) = false := by decide) (he : starEach (.Name y py :: es) X.env = (false, eval (.Name y py) X.env) :: starEach es X.env := by rfl) (hpl : (backTo pos (starEach es X.env)).any (·.1) = false := by rfl) :
    PE X (.Call (.Name x p) (.Name y py :: es) [] pos) (TXo G W (xCallR i fD fs)) := by
  obtain ⟨f, fd, h1, h2, h3, h4⟩ := C.ex
  rw [← hK] at h1 h3 h4
  exact dx_callR h1 hr hgu h2 h3 h4 tk ha hN hv hg hdb hdy hcy he hpl
theorem de_globI {x : Str} {i : Int} (h : ∃ t, X.mg x = some (.int i t)) (hg : Gl X x := by rfl) (hdb : (x == ("__debug__" : Str)) = false := by decide) : PE X (.Name x pos) (TEo G W (eC (.int i))) := by
  obtain ⟨t, e⟩ := h
  exact de_glob hg e (v := .int i) ⟨t, rfl⟩ (fun F => .int i) hdb
/-! ### name op= e -/
def oAddI : D → D → Option D := rIntD (fun _ _ => true) (· + ·)
def oSubI : D → D → Option D := rIntD (fun _ _ => true) (· - ·)
theorem ipA_add : PIp X .Add (rI (fun _ _ => True) fun i j => .int (i + j)) := fun pins s σ H x y v u Q I r1 r2 ⟨i, j, e1, e2, _, q⟩ => ip_add pins s σ H x y v u Q I r1 r2 ⟨i, j, e1, e2, q⟩
theorem ipd_add : IpD G (rI (fun _ _ => True) fun i j => .int (i + j)) oAddI := od_int fun _ _ _ => trivial
theorem ipA_sub : PIp X .Sub (rI (fun _ _ => True) fun i j => .int (i - j)) := fun pins s σ H x y v u Q I r1 r2 ⟨i, j, e1, e2, _, q⟩ => ip_sub pins s σ H x y v u Q I r1 r2 ⟨i, j, e1, e2, q⟩
theorem ipd_sub : IpD G (rI (fun _ _ => True) fun i j => .int (i - j)) oSubI := od_int fun _ _ _ => trivial
theorem ipA_mul : PIp X .Mult (rI CMulA fun i j => .int (i * j)) := (opI fun _ _ _ _ _ _ _ hc q => imul_int q (hc.elim (fun z => z.ok) fun z => z.ok) : OpR X (inplaceOp .Mult) (rI CMulA fun i j => .int (i * j)))
theorem ipd_mul : IpD G (rI CMulA fun i j => .int (i * j)) oMul := od_mul
def oDivI : D → D → Option D := rIntD (fun _ j => divOk j) (· / ·)
theorem ipA_div : PIp X .FloorDiv (rI (fun i j => CDiv i j ∨ CDivW i j) fun i j => .int (i / j)) := fun pins s σ H x y v u Q I rx ry ⟨i, j, e1, e2, hc, q⟩ => by
  rcases hc with hc | hc
  · exact iop_fdiv pins s σ H x y v u Q I rx ry ⟨i, j, e1, e2, hc, q⟩
  · exact iop_fdivW pins s σ H x y v u Q I rx ry ⟨i, j, e1, e2, hc, q⟩
theorem ipd_div : IpD G (rI (fun i j => CDiv i j ∨ CDivW i j) fun i j => .int (i / j)) oDivI := od_int fun i j hz => by
  unfold divOk at hz
  simp only [Bool.and_eq_true, Bool.or_eq_true, decide_eq_true_eq] at hz
  rcases hz.2 with z | z
  · exact .inl ⟨hz.1, z⟩
  · exact .inr ⟨hz.1, z⟩
def oModI : D → D → Option D := rIntD (fun _ j => decide (0 < j)) (· % ·)
theorem ipA_mod : PIp X .Mod (rI (fun _ j => 0 < j) fun i j => .int (i % j)) := (iop_mod : OpR X (inplaceOp .Mod) _)
theorem ipd_mod : IpD G (rI (fun _ j => 0 < j) fun i j => .int (i % j)) oModI := od_int fun i j hz => of_decide_eq_true hz
end
end DL
set_option maxHeartbeats 4000000
/-! DLl: more operations. -/
namespace DL
open PySem PyProof.Rows L2
theorem _root_.L2.Room.units65 {k : Nat} {A : Around} (r : Room k A) : A.units + 65 < cLine := by have := r.un; omega
section
variable {G : Gm} {W : WX} {F H F1 H1 F' H' : Hp} {σ σ1 : L2.St} {r r1 : En} {X : Cx} {a b c tg : Expr} {pos : Pos} {f g : En → R D}
/-- tuple(x) of a list, a tuple -/
def cTup : List D → Option D
  | [.list ds] => some (.tuple ds)
  | [.tuple ds] => some (.tuple ds)
  | _ => none
theorem call_tupA : CallR X (.type "tuple") (fun xs H Q => ∃ x, xs = [x] ∧ kTup X.K x H Q) := fun pins s σ H xs us Q I r h => by
  obtain ⟨x, rfl, h⟩ := h
  obtain ⟨u, rfl, rx⟩ := vals1 r
  exact rl_tuple pins s σ H x u Q I rx h
theorem cd_tup : CallD G (fun xs H Q => ∃ x, xs = [x] ∧ kTup G.K x H Q) cTup := fun x d F H v Q h hs q k => by
  unfold cTup at h
  split at h
  · cases h
    obtain ⟨v, rfl, qa⟩ := one_of q
    obtain ⟨a, xs, rfl, h1, h2⟩ := rp_lst qa
    exact ⟨_, rfl, .inl ⟨a, xs, rfl, SqL.of (hs _ _ h1), new_tup hs h2 rfl k⟩⟩
  · cases h
    obtain ⟨v, rfl, qa⟩ := one_of q
    obtain ⟨a, xs, rfl, h1, h2⟩ := rp_tup qa
    exact ⟨_, rfl, .inr ⟨a, xs, rfl, hs.t h1, k _ _ _ (Ext.refl _ _) qa⟩⟩
  · cases h
/-! ### x in l -/
def flatD : D → Bool
  | .none => true
  | .bool _ => true
  | .int _ => true
  | .str _ => true
  | _ => false
theorem flat_of {v : V} {d : D} (q : Rp G F v d) (h : flatD d = true) : flatV v = true := by
  cases q <;> first | rfl | cases h
theorem eqV_of {v w : V} {d e : D} (q : Rp G F v d) (q2 : Rp G F w e) (h : flatD d = true) (h2 : flatD e = true) : eqV v w = PyData.eqv d e := by
  cases q with
  | lst _ _ => cases h
  | tup _ _ => cases h
  | dct _ _ => cases h
  | dcT _ _ => cases h
  | fn _ => cases h
  | _ =>
    cases q2 with
    | lst _ _ => cases h2
    | tup _ _ => cases h2
    | dct _ _ => cases h2
    | dcT _ _ => cases h2
    | fn _ => cases h2
    | _ => unfold PyData.eqv; rfl
theorem flat_all {vs : List V} {ds : List D} (q : RpL G F vs ds) (h : ds.all flatD = true) : vs.all flatV = true := by
  induction q using RpLI.rec (motive_1 := fun _ _ _ => True) with
  | nil => rfl
  | cons h1 h2 _ ih =>
    rw [List.all_cons, Bool.and_eq_true] at h
    rw [List.all_cons, Bool.and_eq_true]
    exact ⟨flat_of h1 h.1, ih h.2⟩
  | _ => trivial
theorem inV_of {v : V} {d : D} (q : Rp G F v d) (h : flatD d = true) {vs : List V} {ds : List D} (q2 : RpL G F vs ds) (h2 : ds.all flatD = true) : inV v vs = ds.any fun z => PyData.eqv z d := by
  unfold inV
  induction q2 using RpLI.rec (motive_1 := fun _ _ _ => True) with
  | nil => rfl
  | cons h1 h3 _ ih =>
    rw [List.all_cons, Bool.and_eq_true] at h2
    rw [List.any_cons, List.any_cons, eqV_of h1 q h2.1 h, ih h2.2]
  | _ => trivial
def oInB (x y : D) : Option Bool := match y with
  | .list ds => if (flatD x && ds.all flatD) = true then some (ds.any fun z => PyData.eqv z x) else if (SeqAt.shaped x && SeqAt.shaped (.list ds)) = true then some (ds.any fun z => PyData.eqv z x) else none
  | .tuple ds => if (flatD x && ds.all flatD) = true then some (ds.any fun z => PyData.eqv z x) else none
  | _ => none
def oIn (x y : D) : Option D := (oInB x y).map fun b => .bool b
def oNotIn (x y : D) : Option D := (oInB x y).map fun b => .bool (!b)
def rInZ (K : PySem.W.Frag) : R2 := fun x y H Q => rIn K false x y H Q ∨ rInD K x y H Q
def rNotInZ (K : PySem.W.Frag) : R2 := fun x y H Q => rIn K true x y H Q ∨ rNotInD K x y H Q
theorem op_inZ (hu : X.A.units + 65 < cLine) : OpR X (compareOp .In) (rInZ X.K) := op_in_seq.or (op_inD hu)
theorem op_notInZ (hu : X.A.units + 65 < cLine) : OpR X (compareOp .NotIn) (rNotInZ X.K) := op_notIn_seq.or (op_notInD hu)
theorem oInB_of {x y : D} {b : Bool} {v w : V} (hs : Sub F H) (q1 : Rp G F v x) (q2 : Rp G F w y) (h : oInB x y = some b) :
    (∃ p xs, w = .ref p ∧ (SqL G.K H p xs ∨ SqT G.K H p xs) ∧ flatV v = true ∧ xs.all flatV = true ∧ inV v xs = b) ∨ (∃ ds, Dp G.K H v x ∧ Dp G.K H w (.list ds) ∧ SeqAt.shaped x = true ∧ SeqAt.shaped (.list ds) = true ∧ b = ds.any fun z => PyData.eqv z x) := by
  unfold oInB at h
  split at h
  · split at h
    · rename_i hz
      rw [Bool.and_eq_true] at hz
      cases h
      obtain ⟨a, xs, rfl, h1, h2⟩ := rp_lst q2
      exact .inl ⟨a, xs, rfl, .inl (SqL.of (hs _ _ h1)), flat_of q1 hz.1, flat_all h2 hz.2, inV_of q1 hz.1 h2 hz.2⟩
    · split at h
      · rename_i hz
        rw [Bool.and_eq_true] at hz
        cases h
        exact .inr ⟨_, q1.dp hs (SeqAt.canLay_of_shaped hz.1), q2.dp hs (SeqAt.canLay_of_shaped hz.2), hz.1, hz.2, rfl⟩
      · cases h
  · split at h
    · rename_i hz
      rw [Bool.and_eq_true] at hz
      cases h
      obtain ⟨a, xs, rfl, h1, h2⟩ := rp_tup q2
      exact .inl ⟨a, xs, rfl, .inr (hs.t h1), flat_of q1 hz.1, flat_all h2 hz.2, inV_of q1 hz.1 h2 hz.2⟩
    · cases h
  · cases h
theorem od_in : OpD G (rInZ G.K) oIn := fun x y d F H v w Q h hs q1 q2 k => by
  unfold oIn at h
  cases hb : oInB x y with
  | none => rw [hb] at h; cases h
  | some b =>
    rw [hb] at h
    cases h
    rcases oInB_of hs q1 q2 hb with ⟨p, xs, e, h1, h2, h3, h4⟩ | ⟨ds, h1, h2, h3, h4, h5⟩
    · exact .inl ⟨p, xs, e, h1, h2, h3, by rw [if_neg (by decide), h4]; exact k _ _ _ (Ext.refl _ _) (.bl _)⟩
    · exact .inr ⟨x, ds, h1, h2, h3, h4, by rw [← h5]; exact k _ _ _ (Ext.refl _ _) (.bl _)⟩
theorem od_notIn : OpD G (rNotInZ G.K) oNotIn := fun x y d F H v w Q h hs q1 q2 k => by
  unfold oNotIn at h
  cases hb : oInB x y with
  | none => rw [hb] at h; cases h
  | some b =>
    rw [hb] at h
    cases h
    rcases oInB_of hs q1 q2 hb with ⟨p, xs, e, h1, h2, h3, h4⟩ | ⟨ds, h1, h2, h3, h4, h5⟩
    · exact .inl ⟨p, xs, e, h1, h2, h3, by rw [if_pos rfl, h4]; exact k _ _ _ (Ext.refl _ _) (.bl _)⟩
    · exact .inr ⟨x, ds, h1, h2, h3, h4, by rw [← h5]; exact k _ _ _ (Ext.refl _ _) (.bl _)⟩
/-! ### x is True -/
def oIsB : D → D → Option D
  | .bool a, .bool b => some (.bool (decide (a = b)))
  | _, _ => none
def oNotB : D → D → Option D
  | .bool a, .bool b => some (.bool (!decide (a = b)))
  | _, _ => none
theorem od_isB : OpD G rIsB oIsB := fun x y d F H v w Q h hs q1 q2 k => by
  unfold oIsB at h
  split at h
  · cases h
    rw [rp_bl q1, rp_bl q2]
    exact ⟨_, _, rfl, rfl, k _ _ _ (Ext.refl _ _) (.bl _)⟩
  · cases h
theorem od_notB : OpD G rNotB oNotB := fun x y d F H v w Q h hs q1 q2 k => by
  unfold oNotB at h
  split at h
  · cases h
    rw [rp_bl q1, rp_bl q2]
    exact ⟨_, _, rfl, rfl, k _ _ _ (Ext.refl _ _) (.bl _)⟩
  · cases h
/-! ### xs[::-1], a list -/
def xRev (f : En → R D) : En → R Sl := fun r => (f r).bind fun x r1 => match x with
  | .list ds => .ok (.ow ds.reverse) r1
  | _ => .st
theorem dx_rev {k : Nat} {p1 p2 p3 : Pos} (hK : X.K = G.K) (ha : PE X a (TEo G W f)) : PE X (.Subscript a (.Slice none none (some (.UnaryOp .USub (.Constant (.int 1) k p1) p2)) p3) pos) (TXo G W (xRev f)) :=
  pe_of (pe_revL ha) fun σ H Q ⟨F, r0, e, p⟩ => by
    have p : TXp G W (xRev f r0) F H σ r0 Q := p
    refine ⟨F, r0, e, (TXp.bind (rel := rV G) p).mono fun v H1 ⟨x, F1, r1, _, e1, q1, p1⟩ => ?_⟩
    cases q1 with
    | @lst a xs ds h1 h2 => exact ⟨a, xs, rfl, SqL.of (e1.sub _ _ h1), fun l hl => TXp.new (ds := ds.reverse) p1 e1 _ h2.rev l hl⟩
    | _ => exact p1.elim
end
end DL
set_option maxHeartbeats 4000000
/-! DLr: dice, rolls, picks: the same text in every law. -/
namespace DL
open PySem PyProof.Rows L2
def F__law_dice : En → Fl := sSeq (sSet (eIf (tB1 (eOp oLt (eV 1) (eLenO 0))) (eCB cInt (aCons (eIxO 0 (eV 1)) (aNil))) (eOp oAdd (eOp oMul (eC (.int 97)) (eV 1)) (eC (.int 43)))) 2) (sSeq (sSet (eOp oMod (eCB cMax2 (aCons (eC (.int 0)) (aCons (eOp oSub (eCB cAbs (aCons (eV 2) (aNil))) (eOp oPow (eC (.int 10)) (eC (.int 17)))) (aNil)))) (eOp oMul (eOp oPow (eC (.int 10)) (eC (.int 60))) (eOp oPow (eC (.int 10)) (eC (.int 60))))) 3) (sRetX (xLst (aCons (eV 3) (aCons (eOp oAdd (eOp oAdd (eOp oAdd (eOp oMul (eOp oMod (eCB cAbs (aCons (eV 2) (aNil))) (eC (.int 1152921504606846737))) (eC (.int 37))) (eOp oMul (eC (.int 859)) (eV 1))) (eOp oMul (eC (.int 31)) (eCB cInt (aCons (eOp oLt (eV 2) (eC (.int 0))) (aNil))))) (eC (.int 17))) (aCons (eC (.int 0)) (aNil)))))))
def f__law_dice : En → Rf := runF 4 2 F__law_dice
def F__law_roll : En → Fl := sSeq (sIf (tB1 (eOp oGt (eIxO 0 (eC (.int 0))) (eC (.int 0)))) (sSeq (sSet (eOp oMod (eCB cInt (aCons (eIxO 0 (eC (.int 0))) (aNil))) (eV 1)) 2) (sSeq (sSetIx 0 (eOp oDiv (eIxO 0 (eC (.int 0))) (eV 1)) (eC (.int 0))) (sRet (eV 2)))) (sNil)) (sSeq (sSetIx 0 (eOp oAdd (eIxO 0 (eC (.int 2))) (eC (.int 1))) (eC (.int 2))) (sSeq (sSet (eOp oMod (eCB cInt (aCons (eOp oAdd (eIxO 0 (eC (.int 1))) (eOp oMul (eC (.int 15486209)) (eIxO 0 (eC (.int 2))))) (aNil))) (eC (.int 2305843009213693951))) 3) (sSeq (sSet (eOp oAdd (eOp oMul (eOp oMod (eCB cInt (aCons (eOp oAdd (eOp oMul (eV 3) (eV 3)) (eOp oMul (eC (.int 199)) (eIxO 0 (eC (.int 2))))) (aNil))) (eC (.int 2305843009213693907))) (eC (.int 7368751))) (eV 3)) 4) (sRet (eOp oMod (eCB cInt (aCons (eOp oDiv (eV 4) (eC (.int 65536))) (aNil))) (eV 1))))))
def f__law_roll : En → Rf := runF 5 2 F__law_roll
def F__law_pick : En → Fl := sRet (eOp oIx (eV 1) (eF (xCallI 0 f__law_roll (aCons (eCB cLen (aCons (eV 1) (aNil))) (aNil)))))
def f__law_pick : En → Rf := runF 2 2 F__law_pick
def IsDice (ds : List D) : Prop := ∃ a b c : Int, ds = [.int a, .int b, .int c]
theorem roll_pos (a b c n : Int) (h : 0 < a) (hn : 0 < n) (h2 : n < 1073741824) : f__law_roll [.io [.int a, .int b, .int c], .vl (.int n)] = .rt (.vl (.int (a % n))) (some [.int (a / n), .int b, .int c]) := by
  simp [f__law_roll, F__law_roll, runF, sSeq, sIf, rF, tB1, eOp, eIxO, Sl.has, Sl.isM, Sl.items, Sl.mut, Sl.put, R.bind, liftO, ixD, atI, ixN, oGt, cmpD, eC, eV, eCB, aCons, aNil, cInt, oMod, oDiv, divOk, sSet, sSetIx, sRet, ioOf, notIo, h, hn, h2]
theorem roll_neg (a b c n : Int) (h : ¬ 0 < a) (hn : 0 < n) (h2 : n < 1073741824) : ∃ x : Int, f__law_roll [.io [.int a, .int b, .int c], .vl (.int n)] = .rt (.vl (.int (x % n))) (some [.int a, .int b, .int (c + 1)]) := by
  refine ⟨(((b + 15486209 * (c + 1)) % 2305843009213693951 * ((b + 15486209 * (c + 1)) % 2305843009213693951) + 199 * (c + 1)) % 2305843009213693907 * 7368751 + (b + 15486209 * (c + 1)) % 2305843009213693951) / 65536, ?_⟩
  have hm : mulOk ((b + 15486209 * (c + 1)) % 2305843009213693951) ((b + 15486209 * (c + 1)) % 2305843009213693951) = true := by
    unfold mulOk
    simp only [Bool.or_eq_true, decide_eq_true_eq]
    omega
  have hm2 : ∀ x : Int, mulOk x 7368751 = true := fun x => by simp [mulOk]
  have hm3 : ∀ x : Int, mulOk 15486209 x = true := fun x => by simp [mulOk]
  have hm4 : ∀ x : Int, mulOk 199 x = true := fun x => by simp [mulOk]
  simp [f__law_roll, F__law_roll, runF, sSeq, sIf, rF, tB1, eOp, eIxO, Sl.has, Sl.isM, Sl.items, Sl.mut, Sl.put, R.bind, liftO, ixD, atI, ixN, oGt, cmpD, eC, eV, eCB, aCons, aNil, cInt, oMod, oDiv, divOk, sSet, sSetIx, sRet, ioOf, notIo, h, hn, h2, sNil, oAdd, oMul, rIntD, hm, hm2, hm3, hm4]
/-- a roll gives some number below the total, the dice stay dice -/
theorem roll_some {ds : List D} {n : Int} (hd : IsDice ds) (hn : 0 < n) (h2 : n < 1073741824) : ∃ r ds', f__law_roll [.io ds, .vl (.int n)] = .rt (.vl (.int r)) (some ds') ∧ 0 ≤ r ∧ r < n ∧ IsDice ds' := by
  obtain ⟨a, b, c, rfl⟩ := hd
  by_cases h : 0 < a
  · exact ⟨_, _, roll_pos a b c n h hn h2, Int.emod_nonneg _ (by omega), Int.emod_lt_of_pos _ hn, _, _, _, rfl⟩
  · obtain ⟨x, hx⟩ := roll_neg a b c n h hn h2
    exact ⟨_, _, hx, Int.emod_nonneg _ (by omega), Int.emod_lt_of_pos _ hn, _, _, _, rfl⟩
/-- a pick gives some item -/
theorem pick_list {ds es : List D} (hd : IsDice ds) (h1 : 0 < es.length) (h2 : es.length < 1073741824) : ∃ x ds', f__law_pick [.io ds, .vl (.list es)] = .rt (.vl x) (some ds') ∧ x ∈ es ∧ IsDice ds' := by
  obtain ⟨r, ds', hr, a1, a2, a3⟩ := roll_some (n := es.length) hd (by omega) (by omega)
  have hlt : r.toNat < es.length := by omega
  refine ⟨es[r.toNat], ds', ?_, List.getElem_mem hlt, a3⟩
  simp [f__law_pick, F__law_pick, runF, sRet, rF, eOp, eV, R.bind, eF, xCallI, Sl.isM, aCons, eCB, aNil, cLen, liftO, Sl.mut, Sl.put, hr, fz, oIx, atI, ixN, a1, a2, ioOf, notIo, hlt]
theorem pick_tup {ds es : List D} (hd : IsDice ds) (h1 : 0 < es.length) (h2 : es.length < 1073741824) : ∃ x ds', f__law_pick [.io ds, .vl (.tuple es)] = .rt (.vl x) (some ds') ∧ x ∈ es ∧ IsDice ds' := by
  obtain ⟨r, ds', hr, a1, a2, a3⟩ := roll_some (n := es.length) hd (by omega) (by omega)
  have hlt : r.toNat < es.length := by omega
  refine ⟨es[r.toNat], ds', ?_, List.getElem_mem hlt, a3⟩
  simp [f__law_pick, F__law_pick, runF, sRet, rF, eOp, eV, R.bind, eF, xCallI, Sl.isM, aCons, eCB, aNil, cLen, liftO, Sl.mut, Sl.put, hr, fz, oIx, atI, ixN, a1, a2, ioOf, notIo, hlt]
/-- the dice of a cell -/
theorem dice_some {ns : List Int} {k : Nat} : ∃ ds, f__law_dice [.fr (ns.map .int), .vl (.int k)] = .rt (.ow ds) none ∧ IsDice ds := by
  suffices h : ∃ a b c : Int, f__law_dice [.fr (ns.map .int), .vl (.int k)] = .rt (.ow [.int a, .int b, .int c]) none by
    obtain ⟨a, b, c, h⟩ := h
    exact ⟨_, h, a, b, c, rfl⟩
  have hl : Nat.log2 1000000000000000000000000000000000000000000000000000000000000 + Nat.log2 1000000000000000000000000000000000000000000000000000000000000 < 1000000 := by decide +kernel
  by_cases hk : k < ns.length
  · simp [f__law_dice, F__law_dice, runF, sSeq, rF, eIf, tB1, eOp, eIxO, eLenO, Sl.has, Sl.isM, Sl.items, Sl.mut, Sl.put, R.bind, liftO, ixD, atI, ixN, oLt, cmpD, eC, eV, eCB, aCons, aNil, cInt, cMax2, cAbs, oMod, oSub, oPow, rIntD, powOk, oMul, mulOk, oAdd, sSet, sRetX, xLst, ioOf, notIo, hk, hl]
  · simp [f__law_dice, F__law_dice, runF, sSeq, rF, eIf, tB1, eOp, eIxO, eLenO, Sl.has, Sl.isM, Sl.items, Sl.mut, Sl.put, R.bind, liftO, ixD, atI, ixN, oLt, cmpD, eC, eV, eCB, aCons, aNil, cInt, cMax2, cAbs, oMod, oSub, oPow, rIntD, powOk, oMul, mulOk, oAdd, sSet, sRetX, xLst, ioOf, notIo, hk, hl]
end DL
set_option maxHeartbeats 4000000
/-! DLs: what loops, comprehensions, sums over data come to. -/
namespace DL
open PySem PyProof.Rows L2
theorem wipe_back_get {r : En} {i : Nat} : ∀ {vs : List Nat}, (backD r (wipeD r vs) vs)[i]? = r[i]? := by
  have len : ∀ us vs, (backD r (wipeD r us) vs).length = r.length := fun us vs => by rw [backD_length, wipeD_length]
  have inn : ∀ {us vs : List Nat} {i : Nat}, i ∈ vs → (backD r (wipeD r us) vs)[i]? = r[i]? := fun {us vs i} h => by
    induction vs with
    | nil => cases h
    | cons v vs ih =>
      unfold backD
      by_cases e : v = i
      · subst e
        by_cases hl : v < r.length
        · rw [List.getElem?_set_self (by rw [len]; exact hl), List.getElem?_eq_getElem hl, List.getD_eq_getElem?_getD, List.getElem?_eq_getElem hl]
          rfl
        · rw [List.getElem?_eq_none (by rw [List.length_set, len]; omega), List.getElem?_eq_none (by omega)]
      · rw [List.getElem?_set_ne e]
        exact ih (by rcases List.mem_cons.mp h with z | z; exact absurd z.symm e; exact z)
  have out : ∀ {us vs : List Nat} {i : Nat}, i ∉ vs → i ∉ us → (backD r (wipeD r us) vs)[i]? = r[i]? := fun {us vs i} h h2 => by
    induction vs with
    | nil =>
      show (wipeD r us)[i]? = r[i]?
      clear h
      induction us with
      | nil => rfl
      | cons v us ih =>
        unfold wipeD
        rw [List.getElem?_set_ne (fun e => h2 (by rw [e]; exact List.mem_cons_self ..))]
        exact ih fun z => h2 (List.mem_cons_of_mem _ z)
    | cons v vs ih =>
      unfold backD
      rw [List.getElem?_set_ne (fun e => h (by rw [e]; exact List.mem_cons_self ..))]
      exact ih fun z => h (List.mem_cons_of_mem _ z)
  intro vs
  by_cases h : i ∈ vs
  · exact inn h
  · exact out h h
theorem backD_wipeD (r : En) (vs : List Nat) : backD r (wipeD r vs) vs = r := List.ext_getElem? fun _ => wipe_back_get
/-- a comprehension whose turns leave the names as they were -/
theorem lcD_map {α : Type} {enc : α → D} {p : α → Bool} {g : α → D} {vs : List Nat} {t : D → En → Option En} {c : En → R Bool} {f : En → R D} {r : En} : ∀ (xs : List α) (acc : List D), (∀ x ∈ xs, ∃ r1, t (enc x) r = some r1 ∧ c r1 = .ok (p x) r1 ∧ (p x = true → f r1 = .ok (g x) r1) ∧ wipeD r1 vs = r) → acc.length + xs.length ≤ 1000000 →
    lcD vs t c f (xs.map enc) r acc = .ok (acc ++ (xs.filter p).map g) r
  | [], acc, _, _ => by simp [lcD]
  | x :: xs, acc, h, hl => by
    obtain ⟨r1, h1, h2, h3, h4⟩ := h x (List.mem_cons_self ..)
    have hl' : acc.length + (xs.length + 1) ≤ 1000000 := hl
    rw [List.map_cons]
    unfold lcD
    simp only [h1, h2]
    cases hp : p x with
    | false =>
      simp only [h4]
      rw [lcD_map xs acc (fun y hy => h y (List.mem_cons_of_mem _ hy)) (by omega), List.filter_cons_of_neg (by rw [hp]; decide)]
    | true =>
      simp only [h3 hp, h4]
      rw [if_pos (by omega), lcD_map xs (acc ++ [g x]) (fun y hy => h y (List.mem_cons_of_mem _ hy)) (by simp; omega), List.filter_cons_of_pos hp]
      simp
theorem xLc_map {α : Type} {enc : α → D} {p : α → Bool} {g : α → D} {vs : List Nat} {it : En → R (List D)} {t : D → En → Option En} {c : En → R Bool} {f : En → R D} {r r1 : En} {xs : List α} (hi : it r = .ok (xs.map enc) r1) (h : ∀ x ∈ xs, ∃ r2, t (enc x) (wipeD r1 vs) = some r2 ∧ c r2 = .ok (p x) r2 ∧ (p x = true → f r2 = .ok (g x) r2) ∧ wipeD r2 vs = wipeD r1 vs) (hl : xs.length ≤ 1000000) :
    xLc vs it t c f r = .ok (.ow ((xs.filter p).map g)) r1 := by
  unfold xLc
  rw [hi]
  simp only [R.bind]
  rw [lcD_map xs [] h (by simpa using hl)]
  simp only [List.nil_append, backD_wipeD]
/-- a loop by its state -/
theorem forD_fold {α σ : Type} {enc : α → D} {e : σ → En} {step : σ → α → σ} {t : D → En → Option En} {f : En → Fl} (P : List α → σ → Prop) (h : ∀ x rest s, P (x :: rest) s → ∃ r1, t (enc x) (e s) = some r1 ∧ f r1 = .nx (e (step s x)) ∧ P rest (step s x)) : ∀ (xs : List α) (s : σ), P xs s → forD t f (xs.map enc) (e s) = .nx (e (xs.foldl step s)) ∧ P [] (xs.foldl step s)
  | [], s, hp => ⟨rfl, hp⟩
  | x :: xs, s, hp => by
    obtain ⟨r1, h1, h2, h3⟩ := h x xs s hp
    rw [List.map_cons]
    unfold forD
    simp only [h1, h2]
    exact forD_fold P h xs (step s x) h3
/-- a loop that keeps what holds of the names -/
theorem forD_keep {t : D → En → Option En} {f : En → Fl} (I : En → Prop) : ∀ (ds : List D) (r : En), (∀ d ∈ ds, ∀ r, I r → ∃ r1 r2, t d r = some r1 ∧ f r1 = .nx r2 ∧ I r2) → I r → ∃ r', forD t f ds r = .nx r' ∧ I r'
  | [], r, _, hi => ⟨r, rfl, hi⟩
  | d :: ds, r, h, hi => by
    obtain ⟨r1, r2, h1, h2, h3⟩ := h d (List.mem_cons_self ..) r hi
    obtain ⟨r', k1, k2⟩ := forD_keep I ds r2 (fun d hd => h d (List.mem_cons_of_mem _ hd)) h3
    refine ⟨r', ?_, k2⟩
    unfold forD
    simp only [h1, h2]
    exact k1
/-- a while by what its turns come to -/
theorem whileD_seq {c : En → R Bool} {f : En → Fl} (it : Nat → En) (m : Nat) (h : ∀ j, j < m → c (it j) = .ok true (it j) ∧ f (it j) = .nx (it (j + 1))) (h2 : c (it m) = .ok false (it m)) : ∀ (fuel j : Nat), j ≤ m → m - j < fuel → whileD c f fuel (it j) = .nx (it m)
  | 0, _, _, hf => absurd hf (Nat.not_lt_zero _)
  | fuel + 1, j, hj, hf => by
    unfold whileD rF
    by_cases e : j = m
    · subst e
      simp [h2]
    · obtain ⟨a, b⟩ := h j (by omega)
      simp only [a, b, if_true]
      exact whileD_seq it m h h2 fuel (j + 1) (by omega) (by omega)
/-- a loop over range by what holds before its i-th turn -/
theorem forD_range {t : D → En → Option En} {f : En → Fl} {lo : Int} {n : Nat} (I : Nat → En → Prop) (h : ∀ i r, i < n → I i r → ∃ r1 r2, t (.int (lo + i)) r = some r1 ∧ f r1 = .nx r2 ∧ I (i + 1) r2) : ∀ {r : En}, I 0 r → ∃ r', forD t f (rngD 1 lo n) r = .nx r' ∧ I n r' := by
  have gen : ∀ (m i : Nat) (lo' : Int) (r : En), i + m = n → lo' = lo + i → I i r → ∃ r', forD t f (rngD 1 lo' m) r = .nx r' ∧ I n r' := by
    intro m
    induction m with
    | zero => intro i lo' r e _ hi; exact ⟨r, rfl, by rw [← e]; exact hi⟩
    | succ m ih =>
      intro i lo' r e el hi
      obtain ⟨r1, r2, h1, h2, h3⟩ := h i r (by omega) hi
      obtain ⟨r', k1, k2⟩ := ih (i + 1) (lo' + 1) r2 (by omega) (by rw [el]; push_cast; omega) h3
      refine ⟨r', ?_, k2⟩
      unfold rngD forD
      rw [el]
      simp only [h1, h2]
      rw [← el]
      exact k1
  intro r hi
  exact gen n 0 lo r (by omega) (by simp) hi
theorem rngD_map (lo : Int) (n : Nat) : rngD 1 lo n = (List.range n).map fun i : Nat => PyData.int (lo + i) := by
  refine List.ext_getElem? fun i => ?_
  by_cases h : i < n
  · rw [rngD_get 1 lo n i h, List.getElem?_map, List.getElem?_range h]
    simp
  · rw [List.getElem?_eq_none (by rw [rngD_len]; omega), List.getElem?_eq_none (by simp; omega)]
theorem sumD_ints : ∀ l : List Int, sumD (l.map PyData.int) = some l.sum
  | [] => rfl
  | i :: l => by
    show (sumD (l.map PyData.int)).map (i + ·) = _
    rw [sumD_ints l]
    rfl
theorem inR_ok {x : Int} (h : -1000000000 ≤ x) (h2 : x ≤ 1000000000) : DL.inR x = true := by
  unfold DL.inR
  rw [Bool.and_eq_true, decide_eq_true_eq, decide_eq_true_eq]
  exact ⟨Int.le_trans (by decide) h, Int.lt_of_le_of_lt h2 (by decide)⟩
theorem iRg1_of {f : En → R D} {r r1 : En} {j : Int} {m : Nat} (hf : f r = .ok (.int j) r1) (h1 : -1000000000 ≤ j) (h2 : j ≤ 1000000000) (hm : j.toNat = m) : iRg1 f r = .ok (rngD 1 0 m) r1 := by
  unfold iRg1
  rw [hf]
  simp only [R.bind]
  rw [if_pos (inR_ok h1 h2), hm]
theorem iRg2_of {f g : En → R D} {r r1 r2 : En} {i j : Int} {m : Nat} (hf : f r = .ok (.int i) r1) (hg : g r1 = .ok (.int j) r2) (h1 : -1000000000 ≤ i) (h2 : i ≤ 1000000000) (h3 : -1000000000 ≤ j) (h4 : j ≤ 1000000000) (hm : (j - i).toNat = m) : iRg2 f g r = .ok (rngD 1 i m) r2 := by
  unfold iRg2
  rw [hf]
  simp only [R.bind]
  rw [hg]
  simp only []
  rw [if_pos (by rw [inR_ok h1 h2, inR_ok h3 h4]; rfl), hm]
theorem sFor_of {it : En → R (List D)} {t : D → En → Option En} {f : En → Fl} {r r1 : En} {ds : List D} (h : it r = .ok ds r1) : sFor it t f r = forD t f ds r1 := by
  unfold sFor
  rw [h]
  rfl
theorem sSeq_of {f g : En → Fl} {r r1 : En} (h : f r = .nx r1) : sSeq f g r = g r1 := by
  unfold sSeq
  rw [h]
theorem runF_rt {n m : Nat} {f : En → Fl} {args r : En} {sl : Sl} {io : Option (List D)} (hm : args.length = m) (hf : f (args ++ List.replicate (n - m) .no) = .rt sl r) (hs : notIo sl = true) (hio : ioOf r = io) : runF n m f args = .rt sl io := by
  unfold runF
  rw [if_pos hm, hf]
  simp only [hs, if_true, hio]
theorem runF_nx {n m : Nat} {f : En → Fl} {args r : En} {io : Option (List D)} (hm : args.length = m) (hf : f (args ++ List.replicate (n - m) .no) = .nx r) (hio : ioOf r = io) : runF n m f args = .rt (.vl .none) io := by
  unfold runF
  rw [if_pos hm, hf]
  simp only [hio]
theorem eC_of {d : D} {r : En} : eC d r = .ok d r := rfl
theorem eVF_ow {i : Nat} {r : En} {ds : List D} (h : r[i]? = some (.ow ds)) : eVF i r = .ok (.list ds) (r.set i (.vl (.list ds))) := by
  unfold eVF
  rw [h]
theorem xCall_of {fD : En → Rf} {fs : En → R (List D)} {r r1 : En} {ds : List D} {s : Sl} (h1 : fs r = .ok ds r1) (h2 : fD (ds.map .vl) = .rt s none) : xCall fD fs r = .ok s r1 := by
  unfold xCall
  rw [h1]
  simp only [R.bind]
  rw [h2]
theorem xCallI_of {i : Nat} {fD : En → Rf} {fs : En → R (List D)} {r r1 : En} {ds xs ys : List D} {s s0 : Sl} (h0 : Sl.isM r[i]? = true) (h1 : fs r = .ok ds r1) (e : r1[i]? = some s0) (hm : s0.mut = some xs) (h2 : fD (.io xs :: ds.map .vl) = .rt s (some ys)) : xCallI i fD fs r = .ok s (r1.set i (s0.put ys)) := by
  unfold xCallI
  rw [if_pos h0, h1]
  simp only [R.bind, e, hm, h2]
theorem xCallR_of {i : Nat} {fD : En → Rf} {fs : En → R (List D)} {r r1 : En} {ds xs : List D} {s : Sl} (e : r[i]? = some (.fr xs)) (h1 : fs r = .ok ds r1) (h2 : fD (.fr xs :: ds.map .vl) = .rt s none) : xCallR i fD fs r = .ok s r1 := by
  unfold xCallR
  simp only [e, h1, R.bind, h2]
theorem eF_of {f : En → R Sl} {r r1 : En} {s : Sl} {d : D} (h : f r = .ok s r1) (h2 : fz s = some d) : eF f r = .ok d r1 := by
  unfold eF
  rw [h]
  simp only [R.bind, h2, liftO]
theorem sDrop_of {f : En → R D} {r r1 : En} {d : D} (h : f r = .ok d r1) : sDrop f r = .nx r1 := by
  unfold sDrop
  rw [h]
  rfl
theorem sSet_of {f : En → R D} {i : Nat} {r r1 : En} {d : D} (h : f r = .ok d r1) : sSet f i r = .nx (r1.set i (.vl d)) := by
  unfold sSet
  rw [h]
  rfl
theorem sAsgX_of {f : En → R Sl} {i : Nat} {r r1 : En} {s : Sl} (h : f r = .ok s r1) : sAsgX f i r = .nx (r1.set i s) := by
  unfold sAsgX
  rw [h]
  rfl
theorem sRet_of {f : En → R D} {r r1 : En} {d : D} (h : f r = .ok d r1) : sRet f r = .rt (.vl d) r1 := by
  unfold sRet
  rw [h]
  rfl
theorem sRetX_of {f : En → R Sl} {r r1 : En} {s : Sl} (h : f r = .ok s r1) : sRetX f r = .rt s r1 := by
  unfold sRetX
  rw [h]
  rfl
theorem eOp_of {o : D → D → Option D} {f g : En → R D} {r r1 r2 : En} {x y d : D} (h1 : f r = .ok x r1) (h2 : g r1 = .ok y r2) (h3 : o x y = some d) : eOp o f g r = .ok d r2 := by
  unfold eOp
  rw [h1]
  simp only [R.bind]
  rw [h2]
  simp only [h3, liftO]
theorem eUn_of {o : D → Option D} {f : En → R D} {r r1 : En} {x d : D} (h1 : f r = .ok x r1) (h3 : o x = some d) : eUn o f r = .ok d r1 := by
  unfold eUn
  rw [h1]
  simp only [R.bind, h3, liftO]
theorem eCB_of {o : List D → Option D} {fs : En → R (List D)} {r r1 : En} {x : List D} {d : D} (h1 : fs r = .ok x r1) (h3 : o x = some d) : eCB o fs r = .ok d r1 := by
  unfold eCB
  rw [h1]
  simp only [R.bind, h3, liftO]
theorem aNil_of {r : En} : aNil r = .ok [] r := rfl
theorem aCons_of {f : En → R D} {fs : En → R (List D)} {r r1 r2 : En} {d : D} {ds : List D} (h1 : f r = .ok d r1) (h2 : fs r1 = .ok ds r2) : aCons f fs r = .ok (d :: ds) r2 := by
  unfold aCons
  rw [h1]
  simp only [R.bind]
  rw [h2]
theorem tB1_of {f : En → R D} {r r1 : En} {k : Bool} (h : f r = .ok (.bool k) r1) : tB1 f r = .ok k r1 := by
  unfold tB1
  rw [h]
  rfl
theorem tTru_of {f : En → R D} {r r1 : En} {k : Bool} (h : f r = .ok (.bool k) r1) : tTru f r = .ok k r1 := by
  unfold tTru
  rw [h]
  rfl
theorem tNot1_of {f : En → R Bool} {r r1 : En} {k : Bool} (h : f r = .ok k r1) : tNot1 f r = .ok (!k) r1 := by
  unfold tNot1
  rw [h]
  rfl
theorem sIf_t {c : En → R Bool} {f g : En → Fl} {r r1 : En} (h : c r = .ok true r1) : sIf c f g r = f r1 := by
  unfold sIf
  rw [h]
  rfl
theorem sIf_f {c : En → R Bool} {f g : En → Fl} {r r1 : En} (h : c r = .ok false r1) : sIf c f g r = g r1 := by
  unfold sIf
  rw [h]
  rfl
theorem sSeq_rt {f g : En → Fl} {r r1 : En} {s : Sl} (h : f r = .rt s r1) : sSeq f g r = .rt s r1 := by
  unfold sSeq
  rw [h]
theorem xLst_of {fs : En → R (List D)} {r r1 : En} {ds : List D} (h1 : fs r = .ok ds r1) (h : ds.length ≤ 1000000) : xLst fs r = .ok (.ow ds) r1 := by
  unfold xLst
  rw [h1]
  simp only [R.bind, if_pos h]
theorem xOp_of {o : D → D → Option (List D)} {f g : En → R D} {r r1 r2 : En} {x y : D} {ds : List D} (h1 : f r = .ok x r1) (h2 : g r1 = .ok y r2) (h3 : o x y = some ds) : xOp o f g r = .ok (.ow ds) r2 := by
  unfold xOp
  rw [h1]
  simp only [R.bind]
  rw [h2]
  simp only [h3]
theorem eAnd_t {f g : En → R D} {r r1 r2 : En} {d : D} (h1 : f r = .ok (.bool true) r1) (h2 : g r1 = .ok d r2) : eAnd f g r = .ok d r2 := by
  unfold eAnd
  rw [h1]
  exact h2
theorem eOr_t {f g : En → R D} {r r1 : En} (h1 : f r = .ok (.bool true) r1) : eOr f g r = .ok (.bool true) r1 := by
  unfold eOr
  rw [h1]
  rfl
theorem eOr_f {f g : En → R D} {r r1 r2 : En} {d : D} (h1 : f r = .ok (.bool false) r1) (h2 : g r1 = .ok d r2) : eOr f g r = .ok d r2 := by
  unfold eOr
  rw [h1]
  exact h2
theorem tAnd1_f {f g : En → R Bool} {r r1 : En} (h1 : f r = .ok false r1) : tAnd1 f g r = .ok false r1 := by
  unfold tAnd1
  rw [h1]
  rfl
theorem tAnd1_t {f g : En → R Bool} {r r1 r2 : En} {k : Bool} (h1 : f r = .ok true r1) (h2 : g r1 = .ok k r2) : tAnd1 f g r = .ok k r2 := by
  unfold tAnd1
  rw [h1]
  exact h2
theorem tOr1_t {f g : En → R Bool} {r r1 : En} (h1 : f r = .ok true r1) : tOr1 f g r = .ok true r1 := by
  unfold tOr1
  rw [h1]
  rfl
theorem tOr1_f {f g : En → R Bool} {r r1 r2 : En} {k : Bool} (h1 : f r = .ok false r1) (h2 : g r1 = .ok k r2) : tOr1 f g r = .ok k r2 := by
  unfold tOr1
  rw [h1]
  exact h2
theorem iSeq_of {f : En → R D} {r r1 : En} {ds : List D} (h : f r = .ok (.tuple ds) r1) : iSeq f r = .ok ds r1 := by
  unfold iSeq
  rw [h]
  rfl
theorem iSeq_ofL {f : En → R D} {r r1 : En} {ds : List D} (h : f r = .ok (.list ds) r1) : iSeq f r = .ok ds r1 := by
  unfold iSeq
  rw [h]
  rfl
theorem eTup_of {fs : En → R (List D)} {r r1 : En} {ds : List D} (h : fs r = .ok ds r1) (hl : ds.length ≤ 1000000) : eTup fs r = .ok (.tuple ds) r1 := by
  unfold eTup
  rw [h]
  simp only [R.bind, if_pos hl]
theorem forD_two {t : D → En → Option En} {f : En → Fl} {d e : D} {r r1 r2 r3 r4 : En} (h1 : t d r = some r1) (h2 : f r1 = .nx r2) (h3 : t e r2 = some r3) (h4 : f r3 = .nx r4) : forD t f [d, e] r = .nx r4 := by
  unfold forD
  simp only [h1, h2]
  unfold forD
  simp only [h3, h4]
  rfl
theorem xV_of {f : En → R D} {r r1 : En} {d : D} (h : f r = .ok d r1) : xV f r = .ok (.vl d) r1 := by
  unfold xV
  rw [h]
  rfl
theorem yCons_of {f : En → R Sl} {g : En → R (List Sl)} {r r1 r2 : En} {s : Sl} {ss : List Sl} (h1 : f r = .ok s r1) (h2 : g r1 = .ok ss r2) : yCons f g r = .ok (s :: ss) r2 := by
  unfold yCons
  rw [h1]
  simp only [R.bind]
  rw [h2]
theorem yNil_of {r : En} : yNil r = .ok [] r := rfl
theorem sPars_of {is : List Nat} {fs : En → R (List Sl)} {r r1 : En} {ss : List Sl} (h : fs r = .ok ss r1) (h2 : (decide (is.length = ss.length) && is.all fun i => decide (i < r1.length)) = true) : sPars is fs r = .nx (DL.putAll is ss r1) := by
  unfold sPars
  rw [h]
  simp only [rF]
  rw [if_pos h2]
theorem oEq_of {x y : D} {b : Bool} (h : oEqB x y = some b) : oEq x y = some (.bool b) := by
  unfold oEq
  rw [h]
  rfl
theorem oMul_of {i j : Int} (h : mulOk i j = true) : oMul (.int i) (.int j) = some (.int (i * j)) := by
  show (if mulOk i j = true then _ else _) = _
  rw [if_pos h]
theorem mulOk_l {i : Int} (h : i.natAbs < 18446744073709551616) (j : Int) : mulOk i j = true := by
  unfold mulOk
  simp only [Bool.or_eq_true, decide_eq_true_eq]
  exact .inl (.inl h)
theorem mulOk_r {j : Int} (h : j.natAbs < 18446744073709551616) (i : Int) : mulOk i j = true := by
  unfold mulOk
  simp only [Bool.or_eq_true, decide_eq_true_eq]
  exact .inl (.inr h)
theorem oMod_of {i j : Int} (h : 0 < j) : oMod (.int i) (.int j) = some (.int (i % j)) := by
  show (if decide (0 < j) = true then _ else _) = _
  rw [if_pos (decide_eq_true h)]
theorem oDiv_of {i j : Int} (h : 0 < j) (h2 : j < 1073741824) : oDiv (.int i) (.int j) = some (.int (i / j)) := by
  show (if divOk j = true then _ else _) = _
  rw [if_pos (by unfold divOk; simp [h, h2])]
theorem oEq_int (i j : Int) : oEq (.int i) (.int j) = some (.bool (i == j)) := rfl
theorem oNe_int (i j : Int) : oNe (.int i) (.int j) = some (.bool (!(i == j))) := rfl
theorem oEq_str (x y : Str) : oEq (.str x) (.str y) = some (.bool (x == y)) := rfl
theorem oNe_str (x y : Str) : oNe (.str x) (.str y) = some (.bool (!(x == y))) := rfl
end DL
set_option maxHeartbeats 4000000
/-! DLz: the law's def at the head. -/
namespace DL
open PySem PyProof.Rows L2
/-- nothing gets out -/
def spN (G : Gm) (fD : En → Rf) : Sp := fun vs H Q _ => spD G fD vs H Q fun _ _ _ => False
theorem FnG.fn {P : Program} {w : World} {K : PySem.W.Frag} {mg : Str → Option Value} {base : Heap} {G : Gm} {k : Nat} {f : Addr} {fd : FuncData} {ps : List Str} {fD : En → Rf} (F : FnG false P w K mg base k f fd ps (spD G fD)) : FnOk P w K mg base L2.CX0 k f fd ps (spN G fD) := by
  refine ⟨fun vs H Q E h => F.len vs H Q _ h, fun A outer s H args us vs Q E hr e0 hb r h => codeAny_mono (F.run A outer s H args us vs Q _ (fun z => nomatch z) hr e0 hb r h) fun res s' q => ?_⟩
  cases res with
  | ok u => cases u <;> exact q
  | error e =>
    obtain ⟨a, B, H', cls, d, _, _, _, _, _, _, _, z⟩ := q
    exact z.elim
/-- the law's own def: from the script to True -/
theorem law_sp {K : PySem.W.Frag} {G : Gm} {fD : En → Rf} {H : Hp} {a : Addr} {ns : List Int} {E : XK} (hK : G.K = K) (hT : G.T = []) (hO : Only H) (hS : SqL K H a (ns.map V.int)) (hl : fD [.fr (ns.map .int)] = .rt (.vl (.bool true)) none) : spN G fD [.ref a] H (fun v _ => v = .bl true) E := by
  subst hK
  refine ⟨G.pd, H, [.fr (ns.map .int)], ⟨Sub.refl H, fun b ps e => ?_, ?_, rfl, fun i s v e1 e2 => ?_, fun i j s t p e1 e2 m1 => ?_⟩, ?_⟩
  · rcases hO b with z | ⟨o, xs, z⟩
    · rw [z] at e; cases e
    · rw [z] at e; cases e
  · show LamX.Tabs G.T H
    rw [hT]
    intro p hp
    cases hp
  · match i, e1, e2 with
    | 0, e1, e2 =>
      cases e1
      cases e2
      exact ⟨a, ns.map V.int, rfl, hS, RpLI.ints ns⟩
  · match i, e1 with
    | 0, e1 => cases e1; cases m1
  · rw [hl]
    intro F' H' v g e
    obtain ⟨x, e1, q⟩ := e.slot 0 _ _ rfl rfl
    cases e1
    cases q
    rfl
abbrev G0 (K : PySem.W.Frag) : Gm := ⟨K, [], fun _ => none, fun _ => none, 0⟩
theorem Cal.of {P : Program} {w : World} {K : PySem.W.Frag} {h : Heap} {mg : Str → Option Value} {base : Heap} {k : Nat} {fD : En → Rf} {x : Str} {params : Arguments} {body : List Stmt} {scope : Scope} {fd : FuncData} {ps : List Str} (X : K.In h) (N : h.Ns mainGlobals mg)
    (F : FunD K x x params body scope [] [] (He.ga K x) fd) (Fn : FnG false P w K mg base k (He.ga K x) fd ps (spD (G0 K) fD)) (c : (He.Fa.glo x).ok K = true)
    (hb : ∀ (kV doc pm : Value) (an : Option Addr) (cdv ct : Value) (us : List Value), us.length = ps.length → bindArgs (PySem.W.fnOf x x params body scope .none kV doc pm an cdv ct) ⟨us, []⟩ = pure (ps.zip us)) : Cal (G0 K) false P w mg base k x ps fD :=
  ⟨_, fd, Fn, He.glo_ok X N c, F.kp, F.bindsN hb⟩
end DL
set_option maxHeartbeats 0
/-! K47: the defs of law k47, by gen.py -/
namespace K47
open PySem PyProof.Rows L2 DL
abbrev top (i : Nat) : Stmt := PySem.Challenge.pw_hookwide_k47_whole_pentagons_and_divisor.main.body.getD i (.Pass ⟨0, 0, 0, 0⟩)
def fuel : Nat := 4096
structure Fcts (mg : Str → Option Value) : Prop where
  n_len : mg "len" = none
  n_int : mg "int" = none
  n_abs : mg "abs" = none
  n_max : mg "max" = none
  n_isinstance : mg "isinstance" = none
  n_bool : mg "bool" = none
  n_range : mg "range" = none
  n_sum : mg "sum" = none
  n_repr : mg "repr" = none
  n_min : mg "min" = none
  c_FAR : ∃ t, mg "FAR" = some (.int 1000000000000000000000000000000000000000000000000000000000000 t)
  c_MOST_FAR : ∃ t, mg "MOST_FAR" = some (.int 1000000 t)
  c_PENTAGON : ∃ t, mg "PENTAGON" = some (.int 24 t)
  c_MOST_RESTS : ∃ t, mg "MOST_RESTS" = some (.int 2000 t)
  c_MOST_RING : ∃ t, mg "MOST_RING" = some (.int 1000 t)
  c_LEAST_RING : ∃ t, mg "LEAST_RING" = some (.int 2 t)
/-! ### _law_dice -/
def F__law_dice : En → Fl := sSeq (sSet (eIf (tB1 (eOp oLt (eV 1) (eLenO 0))) (eCB cInt (aCons (eIxO 0 (eV 1)) (aNil))) (eOp oAdd (eOp oMul (eC (.int 97)) (eV 1)) (eC (.int 43)))) 2) (sSeq (sSet (eOp oMod (eCB cMax2 (aCons (eC (.int 0)) (aCons (eOp oSub (eCB cAbs (aCons (eV 2) (aNil))) (eOp oPow (eC (.int 10)) (eC (.int 17)))) (aNil)))) (eOp oMul (eOp oPow (eC (.int 10)) (eC (.int 60))) (eOp oPow (eC (.int 10)) (eC (.int 60))))) 3) (sRetX (xLst (aCons (eV 3) (aCons (eOp oAdd (eOp oAdd (eOp oAdd (eOp oMul (eOp oMod (eCB cAbs (aCons (eV 2) (aNil))) (eC (.int 1152921504606846737))) (eC (.int 37))) (eOp oMul (eC (.int 859)) (eV 1))) (eOp oMul (eC (.int 31)) (eCB cInt (aCons (eOp oLt (eV 2) (eC (.int 0))) (aNil))))) (eC (.int 17))) (aCons (eC (.int 0)) (aNil)))))))
def f__law_dice : En → Rf := runF 4 2 F__law_dice
theorem s__law_dice : FnScope ["script", "spot", "cell", "left"] ["script", "spot"] (defScope (top 26)) := ⟨rfl, rfl, rfl, by decide +kernel, rfl, by decide +kernel, by decide +kernel⟩
theorem ok__law_dice {P : Program} {w : World} {mg : Str → Option Value} {base : Heap} {G : Gm} {f : Addr} {fd : FuncData} (F : FunD G.K "_law_dice" "_law_dice" (defArgs (top 26)) (defBody (top 26)) (defScope (top 26)) [] [] f fd) (Z : Fcts mg)  :
    FnG false P w G.K mg base 1 f fd ["script", "spot"] (spD G f__law_dice) :=
  have S := s__law_dice
  fnD' F S fun pd cdv A outer s H E hr hgu =>
    (ds_seq (ds_set (i := 2) S.nd (de_if (dt_cmp op_lt od_cmp (de_var 1) (de_lenO (i := 0) rfl Z.n_len (by decide +kernel)) (nomark _)) (de_callTy call_int1 cd_int Z.n_int (by decide +kernel) (da_cons (de_ixO (i := 0) rfl (de_var 1)) (da_nil))) (de_op op_addA od_add (de_op op_mulA od_mul (de_int) (de_var 1)) (de_int)))) (ds_seq (ds_set (i := 3) S.nd (de_op op_modA od_mod (de_callB (call_max2 rfl) cd_max2 Z.n_max (by decide +kernel) (da_cons (de_int) (da_cons (de_op op_sub od_sub (de_callB call_abs cd_abs Z.n_abs (by decide +kernel) (da_cons (de_var 2) (da_nil))) (de_op op_pow od_pow (de_int) (de_int))) (da_nil)))) (de_op op_mulA od_mul (de_op op_pow od_pow (de_int) (de_int)) (de_op op_pow od_pow (de_int) (de_int))))) (ds_one (ds_retX (dx_lst (da_cons (de_var 3) (da_cons (de_op op_addA od_add (de_op op_addA od_add (de_op op_addA od_add (de_op op_mulA od_mul (de_op op_modA od_mod (de_callB call_abs cd_abs Z.n_abs (by decide +kernel) (da_cons (de_var 2) (da_nil))) (de_int)) (de_int)) (de_op op_mulA od_mul (de_int) (de_var 1))) (de_op op_mulA od_mul (de_int) (de_callTy call_int1 cd_int Z.n_int (by decide +kernel) (da_cons (de_cmp op_lt od_cmp (de_var 2) (de_int) (nomark _)) (da_nil))))) (de_int)) (da_cons (de_int) (da_nil)))))))))
/-! ### is_whole -/
def F_is_whole : En → Fl := sRet (eAnd (eUn (cIsi "int") (eV 0)) (eNot (eUn (cIsi "bool") (eV 0))))
def f_is_whole : En → Rf := runF 1 1 F_is_whole
theorem s_is_whole : FnScope ["value"] ["value"] (defScope (top 4)) := ⟨rfl, rfl, rfl, by decide +kernel, rfl, by decide +kernel, by decide +kernel⟩
theorem ok_is_whole {P : Program} {w : World} {mg : Str → Option Value} {base : Heap} {G : Gm} {f : Addr} {fd : FuncData} (F : FunD G.K "is_whole" "is_whole" (defArgs (top 4)) (defBody (top 4)) (defScope (top 4)) [] [] f fd) (Z : Fcts mg)  :
    FnG false P w G.K mg base 1 f fd ["value"] (spD G f_is_whole) :=
  have S := s_is_whole
  fnD' F S fun pd cdv A outer s H E hr hgu =>
    (ds_one (ds_ret (de_and (de_isi (t := "int") rfl Z.n_isinstance Z.n_int (by decide +kernel) (de_var 0)) (de_one (de_not (de_isi (t := "bool") rfl Z.n_isinstance Z.n_bool (by decide +kernel) (de_var 0)))))))
/-! ### is_near -/
def F_is_near : En → Fl := sRet (eAnd (eF (xCall f_is_whole (aCons (eV 0) (aNil)))) (eChain oLt oLt (eUn oNeg (eC (.int 1000000000000000000000000000000000000000000000000000000000000))) (eV 0) (eC (.int 1000000000000000000000000000000000000000000000000000000000000))))
def f_is_near : En → Rf := runF 1 1 F_is_near
theorem s_is_near : FnScope ["value"] ["value"] (defScope (top 5)) := ⟨rfl, rfl, rfl, by decide +kernel, rfl, by decide +kernel, by decide +kernel⟩
theorem ok_is_near {P : Program} {w : World} {mg : Str → Option Value} {base : Heap} {G : Gm} {f : Addr} {fd : FuncData} (F : FunD G.K "is_near" "is_near" (defArgs (top 5)) (defBody (top 5)) (defScope (top 5)) [] [] f fd) (Z : Fcts mg) (C_is_whole : Cal G false P w mg base 1 "is_whole" ["value"] f_is_whole) :
    FnG false P w G.K mg base 2 f fd ["value"] (spD G f_is_near) :=
  have S := s_is_near
  fnD' F S fun pd cdv A outer s H E hr hgu =>
    (ds_one (ds_ret (de_and (de_frz (dx_callC rfl (C_is_whole.pd pd) (hr.mono (by decide)) hgu (takes_of rfl rfl rfl rfl) (da_cons (de_var 0) (da_nil)))) (de_one (de_chain op_lt od_cmp op_lt od_cmp (de_un un_neg ud_neg ((de_globI Z.c_FAR))) (de_var 0) ((de_globI Z.c_FAR)))))))
/-! ### require_number -/
def F_require_number : En → Fl := sIf (tOr1 (tNot1 (tTru (eF (xCall f_is_near (aCons (eV 0) (aNil)))))) (tOr1 (tAnd1 (tB1 (eOp oNotN (eV 1) (eC .none))) (tB1 (eOp oLt (eV 0) (eV 1)))) (tAnd1 (tB1 (eOp oNotN (eV 2) (eC .none))) (tB1 (eOp oGt (eV 0) (eV 2)))))) (sSt) (sNil)
def f_require_number : En → Rf := runF 3 3 F_require_number
theorem s_require_number : FnScope ["value", "least", "most"] ["value", "least", "most"] (defScope (top 6)) := ⟨rfl, rfl, rfl, by decide +kernel, rfl, by decide +kernel, by decide +kernel⟩
theorem ok_require_number {P : Program} {w : World} {mg : Str → Option Value} {base : Heap} {G : Gm} {f : Addr} {fd : FuncData} (F : FunD G.K "require_number" "require_number" (defArgs (top 6)) (defBody (top 6)) (defScope (top 6)) [] [] f fd) (Z : Fcts mg) (C_is_near : Cal G false P w mg base 2 "is_near" ["value"] f_is_near) :
    FnG false P w G.K mg base 3 f fd ["value", "least", "most"] (spD G f_require_number) :=
  have S := s_require_number
  fnD' F S fun pd cdv A outer s H E hr hgu =>
    (ds_one (ds_if (PW.pt (dw_or (dt_not (dt_tru rfl (de_frz (dx_callC rfl (C_is_near.pd pd) (hr.mono (by decide)) hgu (takes_of rfl rfl rfl rfl) (da_cons (de_var 0) (da_nil)))))) (dw_or (PW.pt (dw_and (dt_cmp op_notN od_notN (de_var 1) de_non) (dw_and1 (dt_cmp op_lt od_cmp (de_var 0) (de_var 1) (nomark _))))) (dw_or1 (PW.pt (dw_and (dt_cmp op_notN od_notN (de_var 2) de_non) (dw_and1 (dt_cmp op_gt od_cmp (de_var 0) (de_var 2) (nomark _))))))))) (ds_one (ds_never)) (ds_nil)))
/-! ### require_far -/
def F_require_far : En → Fl := sDrop (eF (xCall f_require_number (aCons (eV 0) (aCons (eV 1) (aCons (eC (.int 1000000)) (aNil))))))
def f_require_far : En → Rf := runF 2 2 F_require_far
theorem s_require_far : FnScope ["n", "least"] ["n", "least"] (defScope (top 21)) := ⟨rfl, rfl, rfl, by decide +kernel, rfl, by decide +kernel, by decide +kernel⟩
theorem ok_require_far {P : Program} {w : World} {mg : Str → Option Value} {base : Heap} {G : Gm} {f : Addr} {fd : FuncData} (F : FunD G.K "require_far" "require_far" (defArgs (top 21)) (defBody (top 21)) (defScope (top 21)) [] [] f fd) (Z : Fcts mg) (C_require_number : Cal G false P w mg base 3 "require_number" ["value", "least", "most"] f_require_number) :
    FnG false P w G.K mg base 4 f fd ["n", "least"] (spD G f_require_far) :=
  have S := s_require_far
  fnD' F S fun pd cdv A outer s H E hr hgu =>
    (ds_one (ds_expr (de_frz (dx_callC rfl (C_require_number.pd pd) (hr.mono (by decide)) hgu (takes_of rfl rfl rfl rfl) (da_cons (de_var 0) (da_cons (de_var 1) (da_cons ((de_globI Z.c_MOST_FAR)) (da_nil))))))))
/-! ### whole_root -/
def g_whole_root_w1 : En → R Bool := tB1 (eOp oGt (eOp oSub (eV 2) (eV 1)) (eC (.int 1)))
def g_whole_root_b2 : En → Fl := sSeq (sSet (eOp oDiv (eOp oAdd (eV 1) (eV 2)) (eC (.int 2))) 3) (sIf (tB1 (eOp oLe (eOp oMul (eV 3) (eV 3)) (eV 0))) (sSet (eV 3) 1) (sSet (eV 3) 2))
def F_whole_root : En → Fl := sSeq (sPars [1, 2] (yCons (xV (eC (.int 0))) (yCons (xV (eOp oAdd (eV 0) (eC (.int 1)))) (yNil)))) (sSeq (whileD (g_whole_root_w1) (g_whole_root_b2) fuel) (sRet (eV 1)))
def f_whole_root : En → Rf := runF 4 1 F_whole_root
theorem s_whole_root : FnScope ["n", "low", "high", "middle"] ["n"] (defScope (top 17)) := ⟨rfl, rfl, rfl, by decide +kernel, rfl, by decide +kernel, by decide +kernel⟩
theorem ok_whole_root {P : Program} {w : World} {mg : Str → Option Value} {base : Heap} {G : Gm} {f : Addr} {fd : FuncData} (F : FunD G.K "whole_root" "whole_root" (defArgs (top 17)) (defBody (top 17)) (defScope (top 17)) [] [] f fd) (Z : Fcts mg)  :
    FnG false P w G.K mg base 1 f fd ["n"] (spD G f_whole_root) :=
  have S := s_whole_root
  fnD' F S fun pd cdv A outer s H E hr hgu =>
    (ds_seq (ds_par2 (i := 1) (j := 2) rfl S.nd (dy_cons (dx_val (de_int)) (dy_cons (dx_val (de_op op_addA od_add (de_var 0) (de_int))) (dy_nil)))) (ds_seq (ds_while fuel (passes_of rfl) (dt_cmp op_gt od_cmp (de_op op_sub od_sub (de_var 2) (de_var 1)) (de_int) (nomark _)) (ds_seq (ds_set (i := 3) S.nd (de_op op_divA od_div (de_op op_addA od_add (de_var 1) (de_var 2)) (de_int))) (ds_one (ds_if (dt_cmp op_le od_cmp (de_op op_mulA od_mul (de_var 3) (de_var 3)) (de_var 0) (nomark _)) (ds_one (ds_set (i := 1) S.nd (de_var 3))) (ds_one (ds_set (i := 2) S.nd (de_var 3))))))) (ds_one (ds_ret (de_var 1)))))
/-! ### divisors_in -/
def g_divisors_in_e1 : En → R D := eV 2
def g_divisors_in_t2 : En → R Bool := tB1 (eOp oEq (eOp oMod (eV 0) (eV 2)) (eC (.int 0)))
def g_divisors_in_e3 : En → R D := eOp oDiv (eV 0) (eV 2)
def g_divisors_in_t4 : En → R Bool := tB1 (eOp oNe (eOp oMul (eV 2) (eV 2)) (eV 0))
def F_divisors_in : En → Fl := sSeq (sAsgX (xLc [2] (iRg2 (eC (.int 1)) (eOp oAdd (eF (xCall f_whole_root (aCons (eV 0) (aNil)))) (eC (.int 1)))) (gN 2) (g_divisors_in_t2) (g_divisors_in_e1)) 1) (sRetX (xOp nCat (eVF 1) (eF (xLc [2] (iSeq (eF (xRev (eVF 1)))) (gN 2) (g_divisors_in_t4) (g_divisors_in_e3)))))
def f_divisors_in : En → Rf := runF 3 1 F_divisors_in
theorem s_divisors_in : FnScope ["n", "low", "one"] ["n"] (defScope (top 19)) := ⟨rfl, rfl, rfl, by decide +kernel, rfl, by decide +kernel, by decide +kernel⟩
theorem ok_divisors_in {P : Program} {w : World} {mg : Str → Option Value} {base : Heap} {G : Gm} {f : Addr} {fd : FuncData} (F : FunD G.K "divisors_in" "divisors_in" (defArgs (top 19)) (defBody (top 19)) (defScope (top 19)) [] [] f fd) (Z : Fcts mg) (C_whole_root : Cal G false P w mg base 1 "whole_root" ["n"] f_whole_root) :
    FnG false P w G.K mg base 2 f fd ["n"] (spD G f_divisors_in) :=
  have S := s_divisors_in
  fnD' F S fun pd cdv A outer s H E hr hgu =>
    (ds_seq (ds_setLc (i := 1) (nm := [("one", 2)]) rfl S.nd (di_range2 Z.n_range (de_int) (de_op op_addA od_add (de_frz (dx_callC rfl (C_whole_root.pd pd) (hr.mono (by decide)) hgu (takes_of rfl rfl rfl rfl) (da_cons (de_var 0) (da_nil)))) (de_int))) (by kernel_rfl) (by decide) (fun _ _ _ _ _ => dg_name (i := 2) S.nd) (fun _ _ _ _ _ => dts_one (dt_cmp (op_eqZ hr.units) od_eq (de_op op_modA od_mod (de_var 0) (de_var 2)) (de_int) (nomark _))) (fun _ _ _ _ _ => de_var 2)) (ds_one (ds_retX (dx_op op_cat on_cat (de_varF 1) (de_frz (dx_lc (nm := [("one", 2)]) rfl S.nd (di_seq rfl (de_frz (dx_rev rfl (de_varF 1)))) (by kernel_rfl) (by decide) (fun _ _ _ _ _ => dg_name (i := 2) S.nd) (fun _ _ _ _ _ => dts_one (dt_cmp (op_neZ hr.units) od_ne (de_op op_mulA od_mul (de_var 2) (de_var 2)) (de_var 0) (nomark _))) (fun _ _ _ _ _ => de_op op_divA od_div (de_var 0) (de_var 2))))))))
/-! ### divisor_sum -/
def F_divisor_sum : En → Fl := sSeq (sDrop (eF (xCall f_require_far (aCons (eV 0) (aCons (eC (.int 1)) (aNil)))))) (sRet (eCB cSum (aCons (eF (xCall f_divisors_in (aCons (eV 0) (aNil)))) (aNil))))
def f_divisor_sum : En → Rf := runF 1 1 F_divisor_sum
theorem s_divisor_sum : FnScope ["n"] ["n"] (defScope (top 23)) := ⟨rfl, rfl, rfl, by decide +kernel, rfl, by decide +kernel, by decide +kernel⟩
theorem ok_divisor_sum {P : Program} {w : World} {mg : Str → Option Value} {base : Heap} {G : Gm} {f : Addr} {fd : FuncData} (F : FunD G.K "divisor_sum" "divisor_sum" (defArgs (top 23)) (defBody (top 23)) (defScope (top 23)) [] [] f fd) (Z : Fcts mg) (C_require_far : Cal G false P w mg base 4 "require_far" ["n", "least"] f_require_far) (C_divisors_in : Cal G false P w mg base 2 "divisors_in" ["n"] f_divisors_in) :
    FnG false P w G.K mg base 5 f fd ["n"] (spD G f_divisor_sum) :=
  have S := s_divisor_sum
  fnD' F S fun pd cdv A outer s H E hr hgu =>
    (ds_seq (ds_expr (de_frz (dx_callC rfl (C_require_far.pd pd) (hr.mono (by decide)) hgu (takes_of rfl rfl rfl rfl) (da_cons (de_var 0) (da_cons (de_int) (da_nil)))))) (ds_one (ds_ret (de_callB (cr_sum rfl) cd_sum Z.n_sum (by decide +kernel) (da_cons (de_frz (dx_callC rfl (C_divisors_in.pd pd) (hr.mono (by decide)) hgu (takes_of rfl rfl rfl rfl) (da_cons (de_var 0) (da_nil)))) (da_nil))))))
/-! ### is_square_number -/
def F_is_square_number : En → Fl := sSeq (sSet (eF (xCall f_whole_root (aCons (eV 0) (aNil)))) 1) (sRet (eOp oEq (eOp oMul (eV 1) (eV 1)) (eV 0)))
def f_is_square_number : En → Rf := runF 2 1 F_is_square_number
theorem s_is_square_number : FnScope ["n", "root"] ["n"] (defScope (top 18)) := ⟨rfl, rfl, rfl, by decide +kernel, rfl, by decide +kernel, by decide +kernel⟩
theorem ok_is_square_number {P : Program} {w : World} {mg : Str → Option Value} {base : Heap} {G : Gm} {f : Addr} {fd : FuncData} (F : FunD G.K "is_square_number" "is_square_number" (defArgs (top 18)) (defBody (top 18)) (defScope (top 18)) [] [] f fd) (Z : Fcts mg) (C_whole_root : Cal G false P w mg base 1 "whole_root" ["n"] f_whole_root) :
    FnG false P w G.K mg base 2 f fd ["n"] (spD G f_is_square_number) :=
  have S := s_is_square_number
  fnD' F S fun pd cdv A outer s H E hr hgu =>
    (ds_seq (ds_set (i := 1) S.nd (de_frz (dx_callC rfl (C_whole_root.pd pd) (hr.mono (by decide)) hgu (takes_of rfl rfl rfl rfl) (da_cons (de_var 0) (da_nil))))) (ds_one (ds_ret (de_cmp (op_eqZ hr.units) od_eq (de_op op_mulA od_mul (de_var 1) (de_var 1)) (de_var 0) (nomark _)))))
/-! ### is_pentagon -/
def F_is_pentagon : En → Fl := sSeq (sDrop (eF (xCall f_require_far (aCons (eV 0) (aCons (eC (.int 0)) (aNil)))))) (sRetX (xCall f_is_square_number (aCons (eOp oAdd (eOp oMul (eC (.int 24)) (eV 0)) (eC (.int 1))) (aNil))))
def f_is_pentagon : En → Rf := runF 1 1 F_is_pentagon
theorem s_is_pentagon : FnScope ["n"] ["n"] (defScope (top 24)) := ⟨rfl, rfl, rfl, by decide +kernel, rfl, by decide +kernel, by decide +kernel⟩
theorem ok_is_pentagon {P : Program} {w : World} {mg : Str → Option Value} {base : Heap} {G : Gm} {f : Addr} {fd : FuncData} (F : FunD G.K "is_pentagon" "is_pentagon" (defArgs (top 24)) (defBody (top 24)) (defScope (top 24)) [] [] f fd) (Z : Fcts mg) (C_require_far : Cal G false P w mg base 4 "require_far" ["n", "least"] f_require_far) (C_is_square_number : Cal G false P w mg base 2 "is_square_number" ["n"] f_is_square_number) :
    FnG false P w G.K mg base 5 f fd ["n"] (spD G f_is_pentagon) :=
  have S := s_is_pentagon
  fnD' F S fun pd cdv A outer s H E hr hgu =>
    (ds_seq (ds_expr (de_frz (dx_callC rfl (C_require_far.pd pd) (hr.mono (by decide)) hgu (takes_of rfl rfl rfl rfl) (da_cons (de_var 0) (da_cons (de_int) (da_nil)))))) (ds_one (ds_retX (dx_callC rfl (C_is_square_number.pd pd) (hr.mono (by decide)) hgu (takes_of rfl rfl rfl rfl) (da_cons (de_op op_addA od_add (de_op op_mulA od_mul ((de_globI Z.c_PENTAGON)) (de_var 0)) (de_int)) (da_nil))))))
/-! ### _law_roll -/
def F__law_roll : En → Fl := sSeq (sIf (tB1 (eOp oGt (eIxO 0 (eC (.int 0))) (eC (.int 0)))) (sSeq (sSet (eOp oMod (eCB cInt (aCons (eIxO 0 (eC (.int 0))) (aNil))) (eV 1)) 2) (sSeq (sSetIx 0 (eOp oDiv (eIxO 0 (eC (.int 0))) (eV 1)) (eC (.int 0))) (sRet (eV 2)))) (sNil)) (sSeq (sSetIx 0 (eOp oAdd (eIxO 0 (eC (.int 2))) (eC (.int 1))) (eC (.int 2))) (sSeq (sSet (eOp oMod (eCB cInt (aCons (eOp oAdd (eIxO 0 (eC (.int 1))) (eOp oMul (eC (.int 15486209)) (eIxO 0 (eC (.int 2))))) (aNil))) (eC (.int 2305843009213693951))) 3) (sSeq (sSet (eOp oAdd (eOp oMul (eOp oMod (eCB cInt (aCons (eOp oAdd (eOp oMul (eV 3) (eV 3)) (eOp oMul (eC (.int 199)) (eIxO 0 (eC (.int 2))))) (aNil))) (eC (.int 2305843009213693907))) (eC (.int 7368751))) (eV 3)) 4) (sRet (eOp oMod (eCB cInt (aCons (eOp oDiv (eV 4) (eC (.int 65536))) (aNil))) (eV 1))))))
def f__law_roll : En → Rf := runF 5 2 F__law_roll
theorem s__law_roll : FnScope ["dice", "total", "found", "one", "two"] ["dice", "total"] (defScope (top 27)) := ⟨rfl, rfl, rfl, by decide +kernel, rfl, by decide +kernel, by decide +kernel⟩
theorem ok__law_roll {P : Program} {w : World} {mg : Str → Option Value} {base : Heap} {G : Gm} {f : Addr} {fd : FuncData} (F : FunD G.K "_law_roll" "_law_roll" (defArgs (top 27)) (defBody (top 27)) (defScope (top 27)) [] [] f fd) (Z : Fcts mg)  :
    FnG false P w G.K mg base 1 f fd ["dice", "total"] (spD G f__law_roll) :=
  have S := s__law_roll
  fnD' F S fun pd cdv A outer s H E hr hgu =>
    (ds_seq (ds_if (dt_cmp op_gt od_cmp (de_ixO (i := 0) rfl (de_int)) (de_int) (nomark _)) (ds_seq (ds_set (i := 2) S.nd (de_op op_modA od_mod (de_callTy call_int1 cd_int Z.n_int (by decide +kernel) (da_cons (de_ixO (i := 0) rfl (de_int)) (da_nil))) (de_var 1))) (ds_seq (ds_setIx (i := 0) rfl (de_op op_divA od_div (de_ixO (i := 0) rfl (de_int)) (de_var 1)) (de_int)) (ds_one (ds_ret (de_var 2))))) (ds_nil)) (ds_seq (ds_setIx (i := 0) rfl (de_op op_addA od_add (de_ixO (i := 0) rfl (de_int)) (de_int)) (de_int)) (ds_seq (ds_set (i := 3) S.nd (de_op op_modA od_mod (de_callTy call_int1 cd_int Z.n_int (by decide +kernel) (da_cons (de_op op_addA od_add (de_ixO (i := 0) rfl (de_int)) (de_op op_mulA od_mul (de_int) (de_ixO (i := 0) rfl (de_int)))) (da_nil))) (de_int))) (ds_seq (ds_set (i := 4) S.nd (de_op op_addA od_add (de_op op_mulA od_mul (de_op op_modA od_mod (de_callTy call_int1 cd_int Z.n_int (by decide +kernel) (da_cons (de_op op_addA od_add (de_op op_mulA od_mul (de_var 3) (de_var 3)) (de_op op_mulA od_mul (de_int) (de_ixO (i := 0) rfl (de_int)))) (da_nil))) (de_int)) (de_int)) (de_var 3))) (ds_one (ds_ret (de_op op_modA od_mod (de_callTy call_int1 cd_int Z.n_int (by decide +kernel) (da_cons (de_op op_divA od_div (de_var 4) (de_int)) (da_nil))) (de_var 1))))))))
/-! ### _law_pick -/
def F__law_pick : En → Fl := sRet (eOp oIx (eV 1) (eF (xCallI 0 f__law_roll (aCons (eCB cLen (aCons (eV 1) (aNil))) (aNil)))))
def f__law_pick : En → Rf := runF 2 2 F__law_pick
theorem s__law_pick : FnScope ["dice", "items"] ["dice", "items"] (defScope (top 28)) := ⟨rfl, rfl, rfl, by decide +kernel, rfl, by decide +kernel, by decide +kernel⟩
theorem ok__law_pick {P : Program} {w : World} {mg : Str → Option Value} {base : Heap} {G : Gm} {f : Addr} {fd : FuncData} (F : FunD G.K "_law_pick" "_law_pick" (defArgs (top 28)) (defBody (top 28)) (defScope (top 28)) [] [] f fd) (Z : Fcts mg) (C__law_roll : Cal G false P w mg base 1 "_law_roll" ["dice", "total"] f__law_roll) :
    FnG false P w G.K mg base 2 f fd ["dice", "items"] (spD G f__law_pick) :=
  have S := s__law_pick
  fnD' F S fun pd cdv A outer s H E hr hgu =>
    (ds_one (ds_ret (de_ix ix_seq od_ix (de_var 1) (de_frz (dx_callIC (i := 0) rfl (C__law_roll.pd pd) (hr.mono (by decide)) hgu (takes_of rfl rfl rfl rfl) (da_cons (de_callB call_lenA cd_len Z.n_len (by decide +kernel) (da_cons (de_var 1) (da_nil))) (da_nil)))))))
/-! ### require_rest -/
def F_require_rest : En → Fl := sSeq (sDrop (eF (xCall f_require_number (aCons (eV 0) (aCons (eC (.int 0)) (aCons (eC (.int 2000)) (aNil))))))) (sDrop (eF (xCall f_require_number (aCons (eV 1) (aCons (eC (.int 2)) (aCons (eC (.int 1000)) (aNil)))))))
def f_require_rest : En → Rf := runF 2 2 F_require_rest
theorem s_require_rest : FnScope ["n", "q"] ["n", "q"] (defScope (top 20)) := ⟨rfl, rfl, rfl, by decide +kernel, rfl, by decide +kernel, by decide +kernel⟩
theorem ok_require_rest {P : Program} {w : World} {mg : Str → Option Value} {base : Heap} {G : Gm} {f : Addr} {fd : FuncData} (F : FunD G.K "require_rest" "require_rest" (defArgs (top 20)) (defBody (top 20)) (defScope (top 20)) [] [] f fd) (Z : Fcts mg) (C_require_number : Cal G false P w mg base 3 "require_number" ["value", "least", "most"] f_require_number) :
    FnG false P w G.K mg base 4 f fd ["n", "q"] (spD G f_require_rest) :=
  have S := s_require_rest
  fnD' F S fun pd cdv A outer s H E hr hgu =>
    (ds_seq (ds_expr (de_frz (dx_callC rfl (C_require_number.pd pd) (hr.mono (by decide)) hgu (takes_of rfl rfl rfl rfl) (da_cons (de_var 0) (da_cons (de_int) (da_cons ((de_globI Z.c_MOST_RESTS)) (da_nil))))))) (ds_one (ds_expr (de_frz (dx_callC rfl (C_require_number.pd pd) (hr.mono (by decide)) hgu (takes_of rfl rfl rfl rfl) (da_cons (de_var 1) (da_cons ((de_globI Z.c_LEAST_RING)) (da_cons ((de_globI Z.c_MOST_RING)) (da_nil)))))))))
/-! ### pentagon_steps -/
def g_pentagon_steps_w1 : En → R Bool := tB1 (eOp oLe (eOp oDiv (eOp oMul (eV 2) (eOp oSub (eOp oMul (eC (.int 3)) (eV 2)) (eC (.int 1)))) (eC (.int 2))) (eV 0))
def g_pentagon_steps_b2 : En → Fl := sSeq (sSet (eIf (tB1 (eOp oEq (eOp oMod (eV 2) (eC (.int 2))) (eC (.int 1)))) (eC (.int 1)) (eUn oNeg (eC (.int 1)))) 3) (sSeq (sApp 1 (eTup (aCons (eOp oDiv (eOp oMul (eV 2) (eOp oSub (eOp oMul (eC (.int 3)) (eV 2)) (eC (.int 1)))) (eC (.int 2))) (aCons (eV 3) (aNil))))) (sSeq (sApp 1 (eTup (aCons (eOp oDiv (eOp oMul (eV 2) (eOp oAdd (eOp oMul (eC (.int 3)) (eV 2)) (eC (.int 1)))) (eC (.int 2))) (aCons (eV 3) (aNil))))) (sAug 2 oAddI (eC (.int 1)))))
def g_pentagon_steps_e3 : En → R D := eTup (aCons (eV 4) (aCons (eV 3) (aNil)))
def g_pentagon_steps_t4 : En → R Bool := tB1 (eOp oLe (eV 4) (eV 0))
def F_pentagon_steps : En → Fl := sSeq (sPars [1, 2] (yCons (xLst (aNil)) (yCons (xV (eC (.int 1))) (yNil)))) (sSeq (whileD (g_pentagon_steps_w1) (g_pentagon_steps_b2) fuel) (sRetX (xLc [4, 3] (iSeq (eVF 1)) (gT 2 (gsC (gN 4) (gsC (gN 3) (gsN)))) (g_pentagon_steps_t4) (g_pentagon_steps_e3))))
def f_pentagon_steps : En → Rf := runF 5 1 F_pentagon_steps
theorem s_pentagon_steps : FnScope ["n", "found", "k", "sign", "one"] ["n"] (defScope (top 8)) := ⟨rfl, rfl, rfl, by decide +kernel, rfl, by decide +kernel, by decide +kernel⟩
theorem ok_pentagon_steps {P : Program} {w : World} {mg : Str → Option Value} {base : Heap} {G : Gm} {f : Addr} {fd : FuncData} (F : FunD G.K "pentagon_steps" "pentagon_steps" (defArgs (top 8)) (defBody (top 8)) (defScope (top 8)) [] [] f fd) (Z : Fcts mg)  :
    FnG false P w G.K mg base 1 f fd ["n"] (spD G f_pentagon_steps) :=
  have S := s_pentagon_steps
  fnD' F S fun pd cdv A outer s H E hr hgu =>
    (ds_seq (ds_par2 (i := 1) (j := 2) rfl S.nd (dy_cons (dx_lst (da_nil)) (dy_cons (dx_val (de_int)) (dy_nil)))) (ds_seq (ds_while fuel (passes_of rfl) (dt_cmp op_le od_cmp (de_op op_divA od_div (de_op op_mulA od_mul (de_var 2) (de_op op_sub od_sub (de_op op_mulA od_mul (de_int) (de_var 2)) (de_int))) (de_int)) (de_var 0) (nomark _)) (ds_seq (ds_set (i := 3) S.nd (de_if (dt_cmp (op_eqZ hr.units) od_eq (de_op op_modA od_mod (de_var 2) (de_int)) (de_int) (nomark _)) (de_int) (de_un un_neg ud_neg (de_int)))) (ds_seq (ds_app (i := 1) rfl (de_tup (da_cons (de_op op_divA od_div (de_op op_mulA od_mul (de_var 2) (de_op op_sub od_sub (de_op op_mulA od_mul (de_int) (de_var 2)) (de_int))) (de_int)) (da_cons (de_var 3) (da_nil))))) (ds_seq (ds_app (i := 1) rfl (de_tup (da_cons (de_op op_divA od_div (de_op op_mulA od_mul (de_var 2) (de_op op_addA od_add (de_op op_mulA od_mul (de_int) (de_var 2)) (de_int))) (de_int)) (da_cons (de_var 3) (da_nil))))) (ds_one (ds_aug (i := 2) S.nd ipA_add ipd_add (de_int))))))) (ds_one (ds_retX (dx_lc (nm := [("one", 4), ("sign", 3)]) rfl S.nd (di_seq rfl (de_varF 1)) (by kernel_rfl) (by decide) (fun _ _ _ _ _ => dg_tup rfl rfl (dgs_cons (dg_name (i := 4) S.nd) (dgs_cons (dg_name (i := 3) S.nd) (dgs_nil)))) (fun _ _ _ _ _ => dts_one (dt_cmp op_le od_cmp (de_var 4) (de_var 0) (nomark _))) (fun _ _ _ _ _ => de_tup (da_cons (de_var 4) (da_cons (de_var 3) (da_nil)))))))))
/-! ### rests_in -/
def g_rests_in_e1 : En → R D := eOp oMul (eV 6) (eIxO 3 (eOp oSub (eV 4) (eV 5)))
def g_rests_in_t2 : En → R Bool := tB1 (eOp oLe (eV 5) (eV 4))
def g_rests_in_b3 : En → Fl := sApp 3 (eOp oMod (eCB cSum (aCons (eF (xLc [5, 6] (iSeq (eV 2)) (gT 2 (gsC (gN 5) (gsC (gN 6) (gsN)))) (g_rests_in_t2) (g_rests_in_e1))) (aNil))) (eV 1))
def F_rests_in : En → Fl := sSeq (sPars [2, 3] (yCons (xV (eF (xCall f_pentagon_steps (aCons (eV 0) (aNil))))) (yCons (xLst (aCons (eOp oMod (eC (.int 1)) (eV 1)) (aNil))) (yNil)))) (sSeq (sFor (iRg2 (eC (.int 1)) (eOp oAdd (eV 0) (eC (.int 1)))) (gN 4) (g_rests_in_b3)) (sRetV 3))
def f_rests_in : En → Rf := runF 7 2 F_rests_in
theorem s_rests_in : FnScope ["n", "q", "steps", "found", "size", "one", "sign"] ["n", "q"] (defScope (top 15)) := ⟨rfl, rfl, rfl, by decide +kernel, rfl, by decide +kernel, by decide +kernel⟩
theorem ok_rests_in {P : Program} {w : World} {mg : Str → Option Value} {base : Heap} {G : Gm} {f : Addr} {fd : FuncData} (F : FunD G.K "rests_in" "rests_in" (defArgs (top 15)) (defBody (top 15)) (defScope (top 15)) [] [] f fd) (Z : Fcts mg) (C_pentagon_steps : Cal G false P w mg base 1 "pentagon_steps" ["n"] f_pentagon_steps) :
    FnG false P w G.K mg base 2 f fd ["n", "q"] (spD G f_rests_in) :=
  have S := s_rests_in
  fnD' F S fun pd cdv A outer s H E hr hgu =>
    (ds_seq (ds_pars (is := [2, 3]) rfl rfl (dy_cons (dx_val (de_frz (dx_callC rfl (C_pentagon_steps.pd pd) (hr.mono (by decide)) hgu (takes_of rfl rfl rfl rfl) (da_cons (de_var 0) (da_nil))))) (dy_cons (dx_lst (da_cons (de_op op_modA od_mod (de_int) (de_var 1)) (da_nil))) (dy_nil))) (pgs_cons (pg_name (i := 2) S.nd rfl (by first | exact Or.inl rfl | exact Or.inr rfl)) (pgs_cons (pg_name (i := 3) S.nd rfl (by first | exact Or.inl rfl | exact Or.inr rfl)) (pgs_nil)))) (ds_seq (ds_for (passes_of rfl) rfl (di_range2 Z.n_range (de_int) (de_op op_addA od_add (de_var 0) (de_int))) (dg_name (i := 4) S.nd) (ds_one (ds_app (i := 3) rfl (de_op op_modA od_mod (de_callB (cr_sum rfl) cd_sum Z.n_sum (by decide +kernel) (da_cons (de_frz (dx_lc (nm := [("one", 5), ("sign", 6)]) rfl S.nd (di_seq rfl (de_var 2)) (by kernel_rfl) (by decide) (fun _ _ _ _ _ => dg_tup rfl rfl (dgs_cons (dg_name (i := 5) S.nd) (dgs_cons (dg_name (i := 6) S.nd) (dgs_nil)))) (fun _ _ _ _ _ => dts_one (dt_cmp op_le od_cmp (de_var 5) (de_var 4) (nomark _))) (fun _ _ _ _ _ => de_op op_mulA od_mul (de_var 6) (de_ixO (i := 3) rfl (de_op op_sub od_sub (de_var 4) (de_var 5)))))) (da_nil))) (de_var 1))))) (ds_one (ds_retV (i := 3)))))
/-! ### unlike_rest_in -/
def g_unlike_rest_in_b1 : En → Fl := sAug 3 oSubI (eOp oMul (eV 5) (eOp oIx (eV 2) (eOp oSub (eV 0) (eOp oMul (eC (.int 2)) (eV 4)))))
def F_unlike_rest_in : En → Fl := sSeq (sSet (eF (xCall f_rests_in (aCons (eV 0) (aCons (eV 1) (aNil))))) 2) (sSeq (sSet (eOp oIx (eV 2) (eV 0)) 3) (sSeq (sFor (iSeq (eF (xCall f_pentagon_steps (aCons (eOp oDiv (eV 0) (eC (.int 2))) (aNil))))) (gT 2 (gsC (gN 4) (gsC (gN 5) (gsN)))) (g_unlike_rest_in_b1)) (sRet (eOp oMod (eV 3) (eV 1)))))
def f_unlike_rest_in : En → Rf := runF 6 2 F_unlike_rest_in
theorem s_unlike_rest_in : FnScope ["n", "q", "rests", "found", "one", "sign"] ["n", "q"] (defScope (top 16)) := ⟨rfl, rfl, rfl, by decide +kernel, rfl, by decide +kernel, by decide +kernel⟩
theorem ok_unlike_rest_in {P : Program} {w : World} {mg : Str → Option Value} {base : Heap} {G : Gm} {f : Addr} {fd : FuncData} (F : FunD G.K "unlike_rest_in" "unlike_rest_in" (defArgs (top 16)) (defBody (top 16)) (defScope (top 16)) [] [] f fd) (Z : Fcts mg) (C_rests_in : Cal G false P w mg base 2 "rests_in" ["n", "q"] f_rests_in) (C_pentagon_steps : Cal G false P w mg base 1 "pentagon_steps" ["n"] f_pentagon_steps) :
    FnG false P w G.K mg base 3 f fd ["n", "q"] (spD G f_unlike_rest_in) :=
  have S := s_unlike_rest_in
  fnD' F S fun pd cdv A outer s H E hr hgu =>
    (ds_seq (ds_set (i := 2) S.nd (de_frz (dx_callC rfl (C_rests_in.pd pd) (hr.mono (by decide)) hgu (takes_of rfl rfl rfl rfl) (da_cons (de_var 0) (da_cons (de_var 1) (da_nil)))))) (ds_seq (ds_set (i := 3) S.nd (de_ix ix_seq od_ix (de_var 2) (de_var 0))) (ds_seq (ds_for (passes_of rfl) rfl (di_seq rfl (de_frz (dx_callC rfl (C_pentagon_steps.pd pd) (hr.mono (by decide)) hgu (takes_of rfl rfl rfl rfl) (da_cons (de_op op_divA od_div (de_var 0) (de_int)) (da_nil))))) (dg_tup rfl rfl (dgs_cons (dg_name (i := 4) S.nd) (dgs_cons (dg_name (i := 5) S.nd) (dgs_nil)))) (ds_one (ds_aug (i := 3) S.nd ipA_sub ipd_sub (de_op op_mulA od_mul (de_var 5) (de_ix ix_seq od_ix (de_var 2) (de_op op_sub od_sub (de_var 0) (de_op op_mulA od_mul (de_int) (de_var 4)))))))) (ds_one (ds_ret (de_op op_modA od_mod (de_var 3) (de_var 1)))))))
/-! ### unlike_rest -/
def F_unlike_rest : En → Fl := sSeq (sDrop (eF (xCall f_require_rest (aCons (eV 0) (aCons (eV 1) (aNil)))))) (sRetX (xCall f_unlike_rest_in (aCons (eV 0) (aCons (eV 1) (aNil)))))
def f_unlike_rest : En → Rf := runF 2 2 F_unlike_rest
theorem s_unlike_rest : FnScope ["n", "q"] ["n", "q"] (defScope (top 22)) := ⟨rfl, rfl, rfl, by decide +kernel, rfl, by decide +kernel, by decide +kernel⟩
theorem ok_unlike_rest {P : Program} {w : World} {mg : Str → Option Value} {base : Heap} {G : Gm} {f : Addr} {fd : FuncData} (F : FunD G.K "unlike_rest" "unlike_rest" (defArgs (top 22)) (defBody (top 22)) (defScope (top 22)) [] [] f fd) (Z : Fcts mg) (C_require_rest : Cal G false P w mg base 4 "require_rest" ["n", "q"] f_require_rest) (C_unlike_rest_in : Cal G false P w mg base 3 "unlike_rest_in" ["n", "q"] f_unlike_rest_in) :
    FnG false P w G.K mg base 5 f fd ["n", "q"] (spD G f_unlike_rest) :=
  have S := s_unlike_rest
  fnD' F S fun pd cdv A outer s H E hr hgu =>
    (ds_seq (ds_expr (de_frz (dx_callC rfl (C_require_rest.pd pd) (hr.mono (by decide)) hgu (takes_of rfl rfl rfl rfl) (da_cons (de_var 0) (da_cons (de_var 1) (da_nil)))))) (ds_one (ds_retX (dx_callC rfl (C_unlike_rest_in.pd pd) (hr.mono (by decide)) hgu (takes_of rfl rfl rfl rfl) (da_cons (de_var 0) (da_cons (de_var 1) (da_nil)))))))
/-! ### _law_divisors -/
def g__law_divisors_w1 : En → R Bool := tB1 (eOp oLe (eOp oMul (eV 2) (eV 2)) (eV 0))
def g__law_divisors_b2 : En → Fl := sSeq (sIf (tB1 (eOp oEq (eOp oMod (eCB cInt (aCons (eV 0) (aNil))) (eV 2)) (eC (.int 0)))) (sSet (eOp oAdd (eOp oAdd (eV 1) (eV 2)) (eIf (tB1 (eOp oNe (eOp oDiv (eV 0) (eV 2)) (eV 2))) (eOp oDiv (eV 0) (eV 2)) (eC (.int 0)))) 1) (sNil)) (sSet (eOp oAdd (eV 2) (eC (.int 1))) 2)
def F__law_divisors : En → Fl := sSeq (sPars [1, 2] (yCons (xV (eC (.int 0))) (yCons (xV (eC (.int 1))) (yNil)))) (sSeq (whileD (g__law_divisors_w1) (g__law_divisors_b2) fuel) (sRet (eV 1)))
def f__law_divisors : En → Rf := runF 3 1 F__law_divisors
theorem s__law_divisors : FnScope ["n", "found", "d"] ["n"] (defScope (top 31)) := ⟨rfl, rfl, rfl, by decide +kernel, rfl, by decide +kernel, by decide +kernel⟩
theorem ok__law_divisors {P : Program} {w : World} {mg : Str → Option Value} {base : Heap} {G : Gm} {f : Addr} {fd : FuncData} (F : FunD G.K "_law_divisors" "_law_divisors" (defArgs (top 31)) (defBody (top 31)) (defScope (top 31)) [] [] f fd) (Z : Fcts mg)  :
    FnG false P w G.K mg base 1 f fd ["n"] (spD G f__law_divisors) :=
  have S := s__law_divisors
  fnD' F S fun pd cdv A outer s H E hr hgu =>
    (ds_seq (ds_pars (is := [1, 2]) rfl rfl (dy_cons (dx_val (de_int)) (dy_cons (dx_val (de_int)) (dy_nil))) (pgs_cons (pg_name (i := 1) S.nd rfl (by first | exact Or.inl rfl | exact Or.inr rfl)) (pgs_cons (pg_name (i := 2) S.nd rfl (by first | exact Or.inl rfl | exact Or.inr rfl)) (pgs_nil)))) (ds_seq (ds_while fuel (passes_of rfl) (dt_cmp op_le od_cmp (de_op op_mulA od_mul (de_var 2) (de_var 2)) (de_var 0) (nomark _)) (ds_seq (ds_if (dt_cmp (op_eqZ hr.units) od_eq (de_op op_modA od_mod (de_callTy call_int1 cd_int Z.n_int (by decide +kernel) (da_cons (de_var 0) (da_nil))) (de_var 2)) (de_int) (nomark _)) (ds_one (ds_set (i := 1) S.nd (de_op op_addA od_add (de_op op_addA od_add (de_var 1) (de_var 2)) (de_if (dt_cmp (op_neZ hr.units) od_ne (de_op op_divA od_div (de_var 0) (de_var 2)) (de_var 2) (nomark _)) (de_op op_divA od_div (de_var 0) (de_var 2)) (de_int))))) (ds_nil)) (ds_one (ds_set (i := 2) S.nd (de_op op_addA od_add (de_var 2) (de_int)))))) (ds_one (ds_ret (de_var 1)))))
/-! ### _law_divisor -/
def g__law_divisor_w1 : En → R Bool := tB1 (eOp oGt (eV 3) (eC (.int 0)))
def g__law_divisor_b2 : En → Fl := sPars [2, 3] (yCons (xV (eV 3)) (yCons (xV (eOp oMod (eCB cInt (aCons (eV 2) (aNil))) (eV 3))) (yNil)))
def F__law_divisor : En → Fl := sSeq (sPars [2, 3] (yCons (xV (eCB cAbs (aCons (eV 0) (aNil)))) (yCons (xV (eCB cAbs (aCons (eV 1) (aNil)))) (yNil)))) (sSeq (whileD (g__law_divisor_w1) (g__law_divisor_b2) fuel) (sRet (eV 2)))
def f__law_divisor : En → Rf := runF 4 2 F__law_divisor
theorem s__law_divisor : FnScope ["one", "other", "left", "right"] ["one", "other"] (defScope (top 29)) := ⟨rfl, rfl, rfl, by decide +kernel, rfl, by decide +kernel, by decide +kernel⟩
theorem ok__law_divisor {P : Program} {w : World} {mg : Str → Option Value} {base : Heap} {G : Gm} {f : Addr} {fd : FuncData} (F : FunD G.K "_law_divisor" "_law_divisor" (defArgs (top 29)) (defBody (top 29)) (defScope (top 29)) [] [] f fd) (Z : Fcts mg)  :
    FnG false P w G.K mg base 1 f fd ["one", "other"] (spD G f__law_divisor) :=
  have S := s__law_divisor
  fnD' F S fun pd cdv A outer s H E hr hgu =>
    (ds_seq (ds_par2 (i := 2) (j := 3) rfl S.nd (dy_cons (dx_val (de_callB call_abs cd_abs Z.n_abs (by decide +kernel) (da_cons (de_var 0) (da_nil)))) (dy_cons (dx_val (de_callB call_abs cd_abs Z.n_abs (by decide +kernel) (da_cons (de_var 1) (da_nil)))) (dy_nil)))) (ds_seq (ds_while fuel (passes_of rfl) (dt_cmp op_gt od_cmp (de_var 3) (de_int) (nomark _)) (ds_one (ds_par2 (i := 2) (j := 3) rfl S.nd (dy_cons (dx_val (de_var 3)) (dy_cons (dx_val (de_op op_modA od_mod (de_callTy call_int1 cd_int Z.n_int (by decide +kernel) (da_cons (de_var 2) (da_nil))) (de_var 3))) (dy_nil)))))) (ds_one (ds_ret (de_var 2)))))
/-! ### _law_pw_pentagons -/
def g__law_pw_pentagons_w1 : En → R Bool := tB1 (eOp oLe (eOp oDiv (eOp oMul (eV 2) (eOp oSub (eOp oMul (eC (.int 3)) (eV 2)) (eC (.int 1)))) (eC (.int 2))) (eV 0))
def g__law_pw_pentagons_b2 : En → Fl := sSeq (sApp 1 (eOp oDiv (eOp oMul (eV 2) (eOp oSub (eOp oMul (eC (.int 3)) (eV 2)) (eC (.int 1)))) (eC (.int 2)))) (sSeq (sIf (tB1 (eOp oLe (eOp oDiv (eOp oMul (eV 2) (eOp oAdd (eOp oMul (eC (.int 3)) (eV 2)) (eC (.int 1)))) (eC (.int 2))) (eV 0))) (sApp 1 (eOp oDiv (eOp oMul (eV 2) (eOp oAdd (eOp oMul (eC (.int 3)) (eV 2)) (eC (.int 1)))) (eC (.int 2)))) (sNil)) (sSet (eOp oAdd (eV 2) (eC (.int 1))) 2))
def F__law_pw_pentagons : En → Fl := sSeq (sPars [1, 2] (yCons (xLst (aCons (eC (.int 0)) (aNil))) (yCons (xV (eC (.int 1))) (yNil)))) (sSeq (whileD (g__law_pw_pentagons_w1) (g__law_pw_pentagons_b2) fuel) (sRetV 1))
def f__law_pw_pentagons : En → Rf := runF 3 1 F__law_pw_pentagons
theorem s__law_pw_pentagons : FnScope ["most", "found", "k"] ["most"] (defScope (top 30)) := ⟨rfl, rfl, rfl, by decide +kernel, rfl, by decide +kernel, by decide +kernel⟩
theorem ok__law_pw_pentagons {P : Program} {w : World} {mg : Str → Option Value} {base : Heap} {G : Gm} {f : Addr} {fd : FuncData} (F : FunD G.K "_law_pw_pentagons" "_law_pw_pentagons" (defArgs (top 30)) (defBody (top 30)) (defScope (top 30)) [] [] f fd) (Z : Fcts mg)  :
    FnG false P w G.K mg base 1 f fd ["most"] (spD G f__law_pw_pentagons) :=
  have S := s__law_pw_pentagons
  fnD' F S fun pd cdv A outer s H E hr hgu =>
    (ds_seq (ds_par2 (i := 1) (j := 2) rfl S.nd (dy_cons (dx_lst (da_cons (de_int) (da_nil))) (dy_cons (dx_val (de_int)) (dy_nil)))) (ds_seq (ds_while fuel (passes_of rfl) (dt_cmp op_le od_cmp (de_op op_divA od_div (de_op op_mulA od_mul (de_var 2) (de_op op_sub od_sub (de_op op_mulA od_mul (de_int) (de_var 2)) (de_int))) (de_int)) (de_var 0) (nomark _)) (ds_seq (ds_app (i := 1) rfl (de_op op_divA od_div (de_op op_mulA od_mul (de_var 2) (de_op op_sub od_sub (de_op op_mulA od_mul (de_int) (de_var 2)) (de_int))) (de_int))) (ds_seq (ds_if (dt_cmp op_le od_cmp (de_op op_divA od_div (de_op op_mulA od_mul (de_var 2) (de_op op_addA od_add (de_op op_mulA od_mul (de_int) (de_var 2)) (de_int))) (de_int)) (de_var 0) (nomark _)) (ds_one (ds_app (i := 1) rfl (de_op op_divA od_div (de_op op_mulA od_mul (de_var 2) (de_op op_addA od_add (de_op op_mulA od_mul (de_int) (de_var 2)) (de_int))) (de_int)))) (ds_nil)) (ds_one (ds_set (i := 2) S.nd (de_op op_addA od_add (de_var 2) (de_int))))))) (ds_one (ds_retV (i := 1)))))
/-! ### _law_right -/
def g__law_right_b1 : En → Fl := sIf (tOr1 (tB1 (eOp oNotB (eF (xCall f_is_pentagon (aCons (eV 1) (aNil)))) (eC (.bool true)))) (tAnd1 (tB1 (eOp oGt (eV 1) (eC (.int 7)))) (tB1 (eOp oNotB (eF (xCall f_is_pentagon (aCons (eOp oAdd (eV 1) (eC (.int 2))) (aNil)))) (eC (.bool false)))))) (sRet (eC (.bool false))) (sNil)
def F__law_right : En → Fl := sSeq (sSet (eF (xCallI 0 f__law_roll (aCons (eF (xCallI 0 f__law_pick (aCons (eF (xLst (aCons (eC (.int 60)) (aCons (eC (.int 1000)) (aNil))))) (aNil)))) (aNil)))) 1) (sSeq (sIf (tB1 (eOp oNe (eCB cRepI (aCons (eF (xCall f_is_pentagon (aCons (eV 1) (aNil)))) (aNil))) (eCB cRepI (aCons (eOp oIn (eV 1) (eF (xCall f__law_pw_pentagons (aCons (eV 1) (aNil))))) (aNil))))) (sRet (eC (.bool false))) (sNil)) (sSeq (sIf (tAnd1 (tB1 (eOp oLt (eV 1) (eC (.int 200)))) (tB1 (eOp oNe (eF (xCall f_unlike_rest (aCons (eV 1) (aCons (eC (.int 2)) (aNil))))) (eCB cInt (aCons (eF (xCall f_is_pentagon (aCons (eV 1) (aNil)))) (aNil)))))) (sRet (eC (.bool false))) (sNil)) (sSeq (sSet (eF (xCallI 0 f__law_roll (aCons (eC (.int 810)) (aNil)))) 2) (sSeq (sFor (iSeq (eTup (aCons (eOp oDiv (eOp oMul (eV 2) (eOp oSub (eOp oMul (eC (.int 3)) (eV 2)) (eC (.int 1)))) (eC (.int 2))) (aCons (eOp oDiv (eOp oMul (eV 2) (eOp oAdd (eOp oMul (eC (.int 3)) (eV 2)) (eC (.int 1)))) (eC (.int 2))) (aNil))))) (gN 1) (g__law_right_b1)) (sSeq (sSet (eOp oAdd (eC (.int 1)) (eF (xCallI 0 f__law_roll (aCons (eF (xCallI 0 f__law_pick (aCons (eF (xLst (aCons (eC (.int 60)) (aCons (eC (.int 1000000)) (aNil))))) (aNil)))) (aNil))))) 1) (sSeq (sIf (tB1 (eOp oNe (eCB cRepI (aCons (eF (xCall f_divisor_sum (aCons (eV 1) (aNil)))) (aNil))) (eCB cRepI (aCons (eF (xCall f__law_divisors (aCons (eV 1) (aNil)))) (aNil))))) (sRet (eC (.bool false))) (sNil)) (sSeq (sPars [3, 4] (yCons (xV (eOp oAdd (eC (.int 1)) (eF (xCallI 0 f__law_roll (aCons (eC (.int 1000)) (aNil)))))) (yCons (xV (eOp oAdd (eC (.int 1)) (eF (xCallI 0 f__law_roll (aCons (eC (.int 1000)) (aNil)))))) (yNil)))) (sRet (eOr (eOp oGt (eF (xCall f__law_divisor (aCons (eV 3) (aCons (eV 4) (aNil))))) (eC (.int 1))) (eOp oEq (eF (xCall f_divisor_sum (aCons (eOp oMul (eV 3) (eV 4)) (aNil)))) (eOp oMul (eF (xCall f_divisor_sum (aCons (eV 3) (aNil)))) (eF (xCall f_divisor_sum (aCons (eV 4) (aNil)))))))))))))))
def f__law_right : En → Rf := runF 5 1 F__law_right
theorem s__law_right : FnScope ["dice", "n", "k", "a", "b"] ["dice"] (defScope (top 32)) := ⟨rfl, rfl, rfl, by decide +kernel, rfl, by decide +kernel, by decide +kernel⟩
theorem ok__law_right {P : Program} {w : World} {mg : Str → Option Value} {base : Heap} {G : Gm} {f : Addr} {fd : FuncData} (F : FunD G.K "_law_right" "_law_right" (defArgs (top 32)) (defBody (top 32)) (defScope (top 32)) [] [] f fd) (Z : Fcts mg) (C__law_roll : Cal G false P w mg base 1 "_law_roll" ["dice", "total"] f__law_roll) (C__law_pick : Cal G false P w mg base 2 "_law_pick" ["dice", "items"] f__law_pick) (C_is_pentagon : Cal G false P w mg base 5 "is_pentagon" ["n"] f_is_pentagon) (C__law_pw_pentagons : Cal G false P w mg base 1 "_law_pw_pentagons" ["most"] f__law_pw_pentagons) (C_unlike_rest : Cal G false P w mg base 5 "unlike_rest" ["n", "q"] f_unlike_rest) (C_divisor_sum : Cal G false P w mg base 5 "divisor_sum" ["n"] f_divisor_sum) (C__law_divisors : Cal G false P w mg base 1 "_law_divisors" ["n"] f__law_divisors) (C__law_divisor : Cal G false P w mg base 1 "_law_divisor" ["one", "other"] f__law_divisor) :
    FnG false P w G.K mg base 6 f fd ["dice"] (spD G f__law_right) :=
  have S := s__law_right
  fnD' F S fun pd cdv A outer s H E hr hgu =>
    (ds_seq (ds_set (i := 1) S.nd (de_frz (dx_callIC (i := 0) rfl (C__law_roll.pd pd) (hr.mono (by decide)) hgu (takes_of rfl rfl rfl rfl) (da_cons (de_frz (dx_callIC (i := 0) rfl (C__law_pick.pd pd) (hr.mono (by decide)) hgu (takes_of rfl rfl rfl rfl) (da_cons (de_frz (dx_lst (da_cons (de_int) (da_cons (de_int) (da_nil))))) (da_nil)))) (da_nil))))) (ds_seq (ds_if (dt_cmp (op_neZ hr.units) od_ne (de_callB call_repZ cd_repI Z.n_repr (by decide +kernel) (da_cons (de_frz (dx_callC rfl (C_is_pentagon.pd pd) (hr.mono (by decide)) hgu (takes_of rfl rfl rfl rfl) (da_cons (de_var 1) (da_nil)))) (da_nil))) (de_callB call_repZ cd_repI Z.n_repr (by decide +kernel) (da_cons (de_cmp (op_inZ hr.units65) od_in (de_var 1) (de_frz (dx_callC rfl (C__law_pw_pentagons.pd pd) (hr.mono (by decide)) hgu (takes_of rfl rfl rfl rfl) (da_cons (de_var 1) (da_nil)))) (by with_unfolding_all rfl)) (da_nil))) (nomark _)) (ds_one (ds_ret (de_bl))) (ds_nil)) (ds_seq (ds_if (PW.pt (dw_and (dt_cmp op_lt od_cmp (de_var 1) (de_int) (nomark _)) (dw_and1 (dt_cmp (op_neZ hr.units) od_ne (de_frz (dx_callC rfl (C_unlike_rest.pd pd) (hr.mono (by decide)) hgu (takes_of rfl rfl rfl rfl) (da_cons (de_var 1) (da_cons (de_int) (da_nil))))) (de_callTy call_int1 cd_int Z.n_int (by decide +kernel) (da_cons (de_frz (dx_callC rfl (C_is_pentagon.pd pd) (hr.mono (by decide)) hgu (takes_of rfl rfl rfl rfl) (da_cons (de_var 1) (da_nil)))) (da_nil))) (nomark _))))) (ds_one (ds_ret (de_bl))) (ds_nil)) (ds_seq (ds_set (i := 2) S.nd (de_frz (dx_callIC (i := 0) rfl (C__law_roll.pd pd) (hr.mono (by decide)) hgu (takes_of rfl rfl rfl rfl) (da_cons (de_int) (da_nil))))) (ds_seq (ds_for (passes_of rfl) rfl (di_seq rfl (de_tup (da_cons (de_op op_divA od_div (de_op op_mulA od_mul (de_var 2) (de_op op_sub od_sub (de_op op_mulA od_mul (de_int) (de_var 2)) (de_int))) (de_int)) (da_cons (de_op op_divA od_div (de_op op_mulA od_mul (de_var 2) (de_op op_addA od_add (de_op op_mulA od_mul (de_int) (de_var 2)) (de_int))) (de_int)) (da_nil))))) (dg_name (i := 1) S.nd) (ds_one (ds_if (PW.pt (dw_or (dt_cmp op_notBl od_notB (de_frz (dx_callC rfl (C_is_pentagon.pd pd) (hr.mono (by decide)) hgu (takes_of rfl rfl rfl rfl) (da_cons (de_var 1) (da_nil)))) (de_bl) (nomark _)) (dw_or1 (PW.pt (dw_and (dt_cmp op_gt od_cmp (de_var 1) (de_int) (nomark _)) (dw_and1 (dt_cmp op_notBl od_notB (de_frz (dx_callC rfl (C_is_pentagon.pd pd) (hr.mono (by decide)) hgu (takes_of rfl rfl rfl rfl) (da_cons (de_op op_addA od_add (de_var 1) (de_int)) (da_nil)))) (de_bl) (nomark _)))))))) (ds_one (ds_ret (de_bl))) (ds_nil)))) (ds_seq (ds_set (i := 1) S.nd (de_op op_addA od_add (de_int) (de_frz (dx_callIC (i := 0) rfl (C__law_roll.pd pd) (hr.mono (by decide)) hgu (takes_of rfl rfl rfl rfl) (da_cons (de_frz (dx_callIC (i := 0) rfl (C__law_pick.pd pd) (hr.mono (by decide)) hgu (takes_of rfl rfl rfl rfl) (da_cons (de_frz (dx_lst (da_cons (de_int) (da_cons (de_int) (da_nil))))) (da_nil)))) (da_nil)))))) (ds_seq (ds_if (dt_cmp (op_neZ hr.units) od_ne (de_callB call_repZ cd_repI Z.n_repr (by decide +kernel) (da_cons (de_frz (dx_callC rfl (C_divisor_sum.pd pd) (hr.mono (by decide)) hgu (takes_of rfl rfl rfl rfl) (da_cons (de_var 1) (da_nil)))) (da_nil))) (de_callB call_repZ cd_repI Z.n_repr (by decide +kernel) (da_cons (de_frz (dx_callC rfl (C__law_divisors.pd pd) (hr.mono (by decide)) hgu (takes_of rfl rfl rfl rfl) (da_cons (de_var 1) (da_nil)))) (da_nil))) (nomark _)) (ds_one (ds_ret (de_bl))) (ds_nil)) (ds_seq (ds_par2 (i := 3) (j := 4) rfl S.nd (dy_cons (dx_val (de_op op_addA od_add (de_int) (de_frz (dx_callIC (i := 0) rfl (C__law_roll.pd pd) (hr.mono (by decide)) hgu (takes_of rfl rfl rfl rfl) (da_cons (de_int) (da_nil)))))) (dy_cons (dx_val (de_op op_addA od_add (de_int) (de_frz (dx_callIC (i := 0) rfl (C__law_roll.pd pd) (hr.mono (by decide)) hgu (takes_of rfl rfl rfl rfl) (da_cons (de_int) (da_nil)))))) (dy_nil)))) (ds_one (ds_ret (de_or (de_cmp op_gt od_cmp (de_frz (dx_callC rfl (C__law_divisor.pd pd) (hr.mono (by decide)) hgu (takes_of rfl rfl rfl rfl) (da_cons (de_var 3) (da_cons (de_var 4) (da_nil))))) (de_int) (nomark _)) (de_one (de_cmp (op_eqZ hr.units) od_eq (de_frz (dx_callC rfl (C_divisor_sum.pd pd) (hr.mono (by decide)) hgu (takes_of rfl rfl rfl rfl) (da_cons (de_op op_mulA od_mul (de_var 3) (de_var 4)) (da_nil)))) (de_op op_mulA od_mul (de_frz (dx_callC rfl (C_divisor_sum.pd pd) (hr.mono (by decide)) hgu (takes_of rfl rfl rfl rfl) (da_cons (de_var 3) (da_nil)))) (de_frz (dx_callC rfl (C_divisor_sum.pd pd) (hr.mono (by decide)) hgu (takes_of rfl rfl rfl rfl) (da_cons (de_var 4) (da_nil))))) (nomark _))))))))))))))
/-! ### law -/
def g_law_b1 : En → Fl := sIf (tNot1 (tTru (eF (xCallI 2 f__law_right (aNil))))) (sRet (eC (.bool false))) (sNil)
def g_law_b2 : En → Fl := sSeq (sAsgX (xCallR 0 f__law_dice (aCons (eV 1) (aNil))) 2) (sFor (iRg1 (eC (.int 4))) (gN 3) (g_law_b1))
def F_law : En → Fl := sSeq (sFor (iRg1 (eCB cMax2 (aCons (eC (.int 1)) (aCons (eCB cMin2 (aCons (eC (.int 5)) (aCons (eLenO 0) (aNil)))) (aNil))))) (gN 1) (g_law_b2)) (sSeq (sAsgX (xLst (aCons (eF (xCall f_divisor_sum (aCons (eC (.int 12)) (aNil)))) (aCons (eF (xCall f_divisor_sum (aCons (eC (.int 1)) (aNil)))) (aCons (eF (xCall f_is_pentagon (aCons (eC (.int 7)) (aNil)))) (aCons (eF (xCall f_is_pentagon (aCons (eC (.int 8)) (aNil)))) (aCons (eF (xCall f_is_pentagon (aCons (eC (.int 0)) (aNil)))) (aCons (eF (xCall f_divisor_sum (aCons (eC (.int 1000000)) (aNil)))) (aNil)))))))) 4) (sRet (eOp oEq (eVF 4) (eF (xLst (aCons (eC (.int 28)) (aCons (eC (.int 1)) (aCons (eC (.bool true)) (aCons (eC (.bool false)) (aCons (eC (.bool true)) (aCons (eC (.int 2480437)) (aNil))))))))))))
def f_law : En → Rf := runF 5 1 F_law
theorem s_law : FnScope ["script", "spot", "dice", "turn", "told"] ["script"] (defScope (top 33)) := ⟨rfl, rfl, rfl, by decide +kernel, rfl, by decide +kernel, by decide +kernel⟩
theorem ok_law {P : Program} {w : World} {mg : Str → Option Value} {base : Heap} {G : Gm} {f : Addr} {fd : FuncData} (F : FunD G.K "law" "law" (defArgs (top 33)) (defBody (top 33)) (defScope (top 33)) [] [] f fd) (Z : Fcts mg) (C__law_dice : Cal G false P w mg base 1 "_law_dice" ["script", "spot"] f__law_dice) (C__law_right : Cal G false P w mg base 6 "_law_right" ["dice"] f__law_right) (C_divisor_sum : Cal G false P w mg base 5 "divisor_sum" ["n"] f_divisor_sum) (C_is_pentagon : Cal G false P w mg base 5 "is_pentagon" ["n"] f_is_pentagon) :
    FnG false P w G.K mg base 7 f fd ["script"] (spD G f_law) :=
  have S := s_law
  fnD' F S fun pd cdv A outer s H E hr hgu =>
    (ds_seq (ds_for (passes_of rfl) rfl (di_range1 Z.n_range (de_callB (call_max2 rfl) cd_max2 Z.n_max (by decide +kernel) (da_cons (de_int) (da_cons (de_callB (call_min2 rfl) cd_min2 Z.n_min (by decide +kernel) (da_cons (de_int) (da_cons (de_lenO (i := 0) rfl Z.n_len (by decide +kernel)) (da_nil)))) (da_nil))))) (dg_name (i := 1) S.nd) (ds_seq (ds_setX (i := 2) S.nd (dx_callRC (i := 0) rfl (C__law_dice.pd pd) (hr.mono (by decide)) hgu (takes_of rfl rfl rfl rfl) (da_cons (de_var 1) (da_nil)))) (ds_one (ds_for (passes_of rfl) rfl (di_range1 Z.n_range (de_int)) (dg_name (i := 3) S.nd) (ds_one (ds_if (dt_not (dt_tru rfl (de_frz (dx_callIC (i := 2) rfl (C__law_right.pd pd) (hr.mono (by decide)) hgu (takes_of rfl rfl rfl rfl) (da_nil))))) (ds_one (ds_ret (de_bl))) (ds_nil))))))) (ds_seq (ds_setX (i := 4) S.nd (dx_lst (da_cons (de_frz (dx_callC rfl (C_divisor_sum.pd pd) (hr.mono (by decide)) hgu (takes_of rfl rfl rfl rfl) (da_cons (de_int) (da_nil)))) (da_cons (de_frz (dx_callC rfl (C_divisor_sum.pd pd) (hr.mono (by decide)) hgu (takes_of rfl rfl rfl rfl) (da_cons (de_int) (da_nil)))) (da_cons (de_frz (dx_callC rfl (C_is_pentagon.pd pd) (hr.mono (by decide)) hgu (takes_of rfl rfl rfl rfl) (da_cons (de_int) (da_nil)))) (da_cons (de_frz (dx_callC rfl (C_is_pentagon.pd pd) (hr.mono (by decide)) hgu (takes_of rfl rfl rfl rfl) (da_cons (de_int) (da_nil)))) (da_cons (de_frz (dx_callC rfl (C_is_pentagon.pd pd) (hr.mono (by decide)) hgu (takes_of rfl rfl rfl rfl) (da_cons (de_int) (da_nil)))) (da_cons (de_frz (dx_callC rfl (C_divisor_sum.pd pd) (hr.mono (by decide)) hgu (takes_of rfl rfl rfl rfl) (da_cons (de_int) (da_nil)))) (da_nil))))))))) (ds_one (ds_ret (de_cmp (op_eqZ hr.units) od_eq (de_varF 4) (de_frz (dx_lst (da_cons (de_int) (da_cons (de_int) (da_cons (de_bl) (da_cons (de_bl) (da_cons (de_bl) (da_cons (de_int) (da_nil))))))))) (nomark _))))))
end K47
set_option maxHeartbeats 1000000
/-! K47m1: roots, pentagons, of law k47. -/
namespace K47
open PySem L2 DL
theorem whole (n : Int) : f_is_whole [.vl (.int n)] = .rt (.vl (.bool true)) none := by
  have k1 : kitB "int" "int" = some true := by decide +kernel
  have k2 : kitB "int" "bool" = some false := by decide +kernel
  simp [f_is_whole, F_is_whole, k1, k2, runF, sSeq, sIf, sNil, sSt, rF, tB1, tTru, truD, tNot1, tAnd1, tOr1, eOp, eUn, eIf, eNot, eAnd, eOr, eChain, eIxO, eLenO, eVF, eF, fz, Sl.has, Sl.isM, Sl.items, Sl.mut, Sl.put, R.bind, liftO, ixD, atI, ixN, eC, eV, eCB, aCons, aNil, eTup, xV, xLst, xOp, xCall, xCallI, xCallR, yNil, yCons, DL.putAll, sPars, sSet, sAsgX, sSetIx, sApp, sDrop, sRet, sRetX, sRetV, sRetN, sAug, ioOf, notIo, gN, gT, gsC, gsN, wipeD, iSeq, iRg1, iRg2, DL.inR, cmpD, oLt, oLe, oGt, oGe, oIsN, oNotN, isN, oAdd, oSub, oMul, oDiv, oMod, oPow, oNeg, oAddI, oSubI, oDivI, oModI, rIntD, mulOk, powOk, divOk, oIx, cInt, cAbs, cMax2, cMin2, cLen, cSum, cRepI, cIsi, tyD]
theorem near (n : Int) (h : 0 ≤ n) (h2 : n ≤ 1000000) : f_is_near [.vl (.int n)] = .rt (.vl (.bool true)) none := by
  have h3 : -1000000000000000000000000000000000000000000000000000000000000 < n := by omega
  have h4 : n < 1000000000000000000000000000000000000000000000000000000000000 := by omega
  simp [f_is_near, F_is_near, whole, h3, h4, runF, sSeq, sIf, sNil, sSt, rF, tB1, tTru, truD, tNot1, tAnd1, tOr1, eOp, eUn, eIf, eNot, eAnd, eOr, eChain, eIxO, eLenO, eVF, eF, fz, Sl.has, Sl.isM, Sl.items, Sl.mut, Sl.put, R.bind, liftO, ixD, atI, ixN, eC, eV, eCB, aCons, aNil, eTup, xV, xLst, xOp, xCall, xCallI, xCallR, yNil, yCons, DL.putAll, sPars, sSet, sAsgX, sSetIx, sApp, sDrop, sRet, sRetX, sRetV, sRetN, sAug, ioOf, notIo, gN, gT, gsC, gsN, wipeD, iSeq, iRg1, iRg2, DL.inR, cmpD, oLt, oLe, oGt, oGe, oIsN, oNotN, isN, oAdd, oSub, oMul, oDiv, oMod, oPow, oNeg, oAddI, oSubI, oDivI, oModI, rIntD, mulOk, powOk, divOk, oIx, cInt, cAbs, cMax2, cMin2, cLen, cSum, cRepI, cIsi, tyD]
theorem req (n lo hi : Int) (h : 0 ≤ n) (h1 : lo ≤ n) (h2 : n ≤ hi) (h5 : hi ≤ 1000000) : f_require_number [.vl (.int n), .vl (.int lo), .vl (.int hi)] = .rt (.vl .none) none := by
  have h3 : ¬ n < lo := by omega
  have h4 : ¬ hi < n := by omega
  simp [f_require_number, F_require_number, near n h (by omega), h3, h4, runF, sSeq, sIf, sNil, sSt, rF, tB1, tTru, truD, tNot1, tAnd1, tOr1, eOp, eUn, eIf, eNot, eAnd, eOr, eChain, eIxO, eLenO, eVF, eF, fz, Sl.has, Sl.isM, Sl.items, Sl.mut, Sl.put, R.bind, liftO, ixD, atI, ixN, eC, eV, eCB, aCons, aNil, eTup, xV, xLst, xOp, xCall, xCallI, xCallR, yNil, yCons, DL.putAll, sPars, sSet, sAsgX, sSetIx, sApp, sDrop, sRet, sRetX, sRetV, sRetN, sAug, ioOf, notIo, gN, gT, gsC, gsN, wipeD, iSeq, iRg1, iRg2, DL.inR, cmpD, oLt, oLe, oGt, oGe, oIsN, oNotN, isN, oAdd, oSub, oMul, oDiv, oMod, oPow, oNeg, oAddI, oSubI, oDivI, oModI, rIntD, mulOk, powOk, divOk, oIx, cInt, cAbs, cMax2, cMin2, cLen, cSum, cRepI, cIsi, tyD]
theorem far (n lo : Int) (h : 0 ≤ n) (h1 : lo ≤ n) (h2 : n ≤ 1000000) : f_require_far [.vl (.int n), .vl (.int lo)] = .rt (.vl .none) none :=
  runF_nx rfl (sDrop_of (r1 := [.vl (.int n), .vl (.int lo)]) (eF_of (xCall_of (ds := [.int n, .int lo, .int 1000000]) (aCons_of rfl (aCons_of rfl (aCons_of eC_of aNil_of))) (req n lo 1000000 h h1 h2 (by decide))) rfl)) rfl
/-! ### the root -/
def bs (n : Nat) : Nat → Nat → Nat → Nat
  | 0, lo, _ => lo
  | k + 1, lo, hi => bif Nat.blt 1 (hi - lo) then (bif Nat.ble (((lo + hi) / 2) * ((lo + hi) / 2)) n then bs n k ((lo + hi) / 2) hi else bs n k lo ((lo + hi) / 2)) else lo
def eW (n lo hi : Nat) (s : Sl) : En := [.vl (.int n), .vl (.int lo), .vl (.int hi), s]
theorem root_w (n lo hi : Nat) (s : Sl) (h : lo < hi) : g_whole_root_w1 (eW n lo hi s) = .ok (Nat.blt 1 (hi - lo)) (eW n lo hi s) := by
  have e : decide ((1 : Int) < (hi : Int) - (lo : Int)) = Nat.blt 1 (hi - lo) := by
    rw [Bool.eq_iff_iff, decide_eq_true_eq, Nat.blt_eq]
    omega
  exact tB1_of (eOp_of (x := .int ((hi : Int) - (lo : Int))) (y := .int 1) rfl rfl (by show some (PyData.bool (decide ((1 : Int) < (hi : Int) - (lo : Int)))) = _; rw [e]))
theorem root_b (n lo hi : Nat) (s : Sl) (hn : hi ≤ 1000000000) (h : lo < hi) : g_whole_root_b2 (eW n lo hi s) = .nx (bif Nat.ble (((lo + hi) / 2) * ((lo + hi) / 2)) n then eW n ((lo + hi) / 2) hi (.vl (.int ((lo + hi) / 2 : Nat))) else eW n lo ((lo + hi) / 2) (.vl (.int ((lo + hi) / 2 : Nat)))) := by
  have e1 : ((lo : Int) + (hi : Int)) / 2 = (((lo + hi) / 2 : Nat) : Int) := by omega
  have hm : mulOk (((lo + hi) / 2 : Nat) : Int) (((lo + hi) / 2 : Nat) : Int) = true := by
    unfold mulOk
    simp only [Bool.or_eq_true, decide_eq_true_eq]
    omega
  have h1 : sSet (eOp oDiv (eOp oAdd (eV 1) (eV 2)) (eC (.int 2))) 3 (eW n lo hi s) = .nx (eW n lo hi (.vl (.int ((lo + hi) / 2 : Nat)))) :=
    Eq.trans (sSet_of (r1 := eW n lo hi s) (eOp_of (x := .int ((lo : Int) + (hi : Int))) (y := .int 2) (d := .int (((lo + hi) / 2 : Nat) : Int)) rfl rfl (by rw [← e1]; rfl))) rfl
  generalize hmid : (lo + hi) / 2 = m at *
  have e2 : decide ((m : Int) * (m : Int) ≤ (n : Int)) = Nat.ble (m * m) n := by
    rw [Bool.eq_iff_iff, decide_eq_true_eq, Nat.ble_eq, ← Int.natCast_mul]
    omega
  have h2 : tB1 (eOp oLe (eOp oMul (eV 3) (eV 3)) (eV 0)) (eW n lo hi (.vl (.int (m : Int)))) = .ok (Nat.ble (m * m) n) (eW n lo hi (.vl (.int (m : Int)))) :=
    tB1_of (eOp_of (x := .int ((m : Int) * (m : Int))) (y := .int (n : Int)) (eOp_of (x := .int (m : Int)) (y := .int (m : Int)) rfl rfl (by show (if mulOk (m : Int) (m : Int) = true then _ else _) = _; rw [if_pos hm])) rfl (by show some (PyData.bool (decide ((m : Int) * (m : Int) ≤ (n : Int)))) = _; rw [e2]))
  refine Eq.trans (sSeq_of h1) ?_
  cases hb : Nat.ble (m * m) n with
  | true =>
    rw [hb] at h2
    exact Eq.trans (sIf_t h2) rfl
  | false =>
    rw [hb] at h2
    exact Eq.trans (sIf_f h2) rfl
theorem root_loop (n : Nat) : ∀ (k fuel lo hi : Nat) (s : Sl), k < fuel → lo < hi → hi ≤ 1000000000 → hi - lo ≤ 2 ^ k → lo * lo ≤ n → n < hi * hi → (∀ ds, s ≠ .io ds) →
    ∃ hi' s', whileD g_whole_root_w1 g_whole_root_b2 fuel (eW n lo hi s) = .nx (eW n (bs n k lo hi) hi' s') ∧ (∀ ds, s' ≠ .io ds) ∧ bs n k lo hi * bs n k lo hi ≤ n ∧ n < (bs n k lo hi + 1) * (bs n k lo hi + 1)
  | 0, 0, _, _, _, h, _, _, _, _, _, _ => absurd h (Nat.lt_irrefl _)
  | 0, fuel + 1, lo, hi, s, _, h1, h2, h3, h4, h5, h6 => by
    have e : hi = lo + 1 := by omega
    refine ⟨hi, s, ?_, h6, h4, by subst e; exact h5⟩
    unfold whileD rF
    rw [root_w n lo hi s h1]
    have : Nat.blt 1 (hi - lo) = false := by rw [e, Nat.add_sub_cancel_left]; rfl
    simp only [this]
    rfl
  | k + 1, 0, _, _, _, h, _, _, _, _, _, _ => absurd h (Nat.not_lt_zero _)
  | k + 1, fuel + 1, lo, hi, s, hf, h1, h2, h3, h4, h5, h6 => by
    unfold bs whileD rF
    rw [root_w n lo hi s h1]
    cases hb : Nat.blt 1 (hi - lo) with
    | false =>
      have hb' : ¬ 1 < hi - lo := fun z => by rw [← Nat.blt_eq] at z; rw [z] at hb; cases hb
      have e : hi = lo + 1 := by omega
      refine ⟨hi, s, ?_, h6, ?_, ?_⟩
      · simp only [cond_false]
        rfl
      · exact h4
      · simp only [cond_false]
        subst e
        exact h5
    | true =>
      have hb' : 1 < hi - lo := by rwa [← Nat.blt_eq]
      simp only [if_true, root_b n lo hi s h2 h1, cond_true]
      have hp : 2 ^ (k + 1) = 2 * 2 ^ k := by rw [Nat.pow_succ, Nat.mul_comm]
      cases hm : Nat.ble (((lo + hi) / 2) * ((lo + hi) / 2)) n with
      | true =>
        have hm' := Nat.le_of_ble_eq_true hm
        exact root_loop n k fuel ((lo + hi) / 2) hi _ (by omega) (by omega) h2 (by omega) hm' h5 (by intro ds; simp)
      | false =>
        have hm' : n < ((lo + hi) / 2) * ((lo + hi) / 2) := by
          refine Nat.lt_of_not_le fun z => ?_
          rw [← Nat.ble_eq] at z
          rw [z] at hm
          cases hm
        exact root_loop n k fuel lo ((lo + hi) / 2) _ (by omega) (by omega) (by omega) (by omega) h4 hm' (by intro ds; simp)
def rt (n : Nat) : Nat := bs n 30 0 (n + 1)
theorem root (n : Nat) (h : n ≤ 100000000) : f_whole_root [.vl (.int n)] = .rt (.vl (.int (rt n : Int))) none ∧ rt n * rt n ≤ n ∧ n < (rt n + 1) * (rt n + 1) := by
  obtain ⟨hi', s', h1, h2, h3, h4⟩ := root_loop n 30 fuel 0 (n + 1) .no (by decide) (by omega) (by omega) (by omega) (by omega) (by rw [Nat.add_mul]; omega) (by intro ds; simp)
  refine ⟨?_, h3, h4⟩
  have hs : sPars [1, 2] (yCons (xV (eC (.int 0))) (yCons (xV (eOp oAdd (eV 0) (eC (.int 1)))) (yNil))) [.vl (.int n), .no, .no, .no] = .nx (eW n 0 (n + 1) .no) := by
    simp [eW, runF, sSeq, sIf, sNil, sSt, rF, tB1, tTru, truD, tNot1, tAnd1, tOr1, eOp, eUn, eIf, eNot, eAnd, eOr, eChain, eIxO, eLenO, eVF, eF, fz, Sl.has, Sl.isM, Sl.items, Sl.mut, Sl.put, R.bind, liftO, ixD, atI, ixN, eC, eV, eCB, aCons, aNil, eTup, xV, xLst, xOp, xCall, xCallI, xCallR, yNil, yCons, DL.putAll, sPars, sSet, sAsgX, sSetIx, sApp, sDrop, sRet, sRetX, sRetV, sRetN, sAug, ioOf, notIo, gN, gT, gsC, gsN, wipeD, iSeq, iRg1, iRg2, DL.inR, cmpD, oLt, oLe, oGt, oGe, oIsN, oNotN, isN, oAdd, oSub, oMul, oDiv, oMod, oPow, oNeg, oAddI, oSubI, oDivI, oModI, rIntD, mulOk, powOk, divOk, oIx, cInt, cAbs, cMax2, cMin2, cLen, cSum, cRepI, cIsi, tyD]
  exact runF_rt rfl (Eq.trans (sSeq_of hs) (Eq.trans (sSeq_of h1) (sRet_of (r1 := eW n (rt n) hi' s') rfl))) rfl (by cases s' <;> first | rfl | exact absurd rfl (h2 _))
end K47
set_option maxHeartbeats 1000000
/-! K47m2: pentagonal numbers of law k47. -/
namespace K47
open PySem L2 DL
def isp (n : Nat) : Bool := Nat.beq (rt (24 * n + 1) * rt (24 * n + 1)) (24 * n + 1)
theorem beq_cast (a b : Nat) : ((a : Int) == (b : Int)) = Nat.beq a b := by
  rw [Bool.eq_iff_iff, beq_iff_eq, Nat.beq_eq]
  omega
theorem square (n : Nat) (h : n ≤ 100000000) : f_is_square_number [.vl (.int n)] = .rt (.vl (.bool (Nat.beq (rt n * rt n) n))) none := by
  obtain ⟨h1, h2, h3⟩ := root n h
  have hr : rt n ≤ 100000000 := Nat.le_trans (Nat.le_mul_self _) (Nat.le_trans h2 h)
  have hm : mulOk (rt n : Int) (rt n : Int) = true := by
    unfold mulOk
    simp only [Bool.or_eq_true, decide_eq_true_eq]
    omega
  have s1 : sSet (eF (xCall f_whole_root (aCons (eV 0) (aNil)))) 1 [.vl (.int n), .no] = .nx [.vl (.int n), .vl (.int (rt n))] :=
    Eq.trans (sSet_of (r1 := [.vl (.int n), .no]) (eF_of (xCall_of (ds := [.int n]) (aCons_of rfl aNil_of) h1) rfl)) rfl
  have s2 : sRet (eOp oEq (eOp oMul (eV 1) (eV 1)) (eV 0)) [.vl (.int n), .vl (.int (rt n))] = .rt (.vl (.bool (Nat.beq (rt n * rt n) n))) [.vl (.int n), .vl (.int (rt n))] :=
    sRet_of (eOp_of (x := .int ((rt n : Int) * (rt n : Int))) (y := .int n) (eOp_of (x := .int (rt n)) (y := .int (rt n)) rfl rfl (oMul_of hm)) rfl (by rw [oEq_int, ← Int.natCast_mul, beq_cast]))
  exact runF_rt rfl (Eq.trans (sSeq_of s1) s2) rfl rfl
theorem pentq (n : Nat) (h : n ≤ 1000000) : f_is_pentagon [.vl (.int n)] = .rt (.vl (.bool (isp n))) none := by
  have h1 := square (24 * n + 1) (by omega)
  have s1 : sDrop (eF (xCall f_require_far (aCons (eV 0) (aCons (eC (.int 0)) (aNil))))) [.vl (.int n)] = .nx [.vl (.int n)] :=
    sDrop_of (eF_of (xCall_of (ds := [.int n, .int 0]) (aCons_of rfl (aCons_of eC_of aNil_of)) (far n 0 (by omega) (by omega) (by omega))) rfl)
  have e : (24 : Int) * (n : Int) + 1 = ((24 * n + 1 : Nat) : Int) := by omega
  have s2 : sRetX (xCall f_is_square_number (aCons (eOp oAdd (eOp oMul (eC (.int 24)) (eV 0)) (eC (.int 1))) (aNil))) [.vl (.int n)] = .rt (.vl (.bool (isp n))) [.vl (.int n)] :=
    sRetX_of (xCall_of (ds := [.int ((24 * n + 1 : Nat) : Int)]) (aCons_of (eOp_of (x := .int (24 * (n : Int))) (y := .int 1) (eOp_of (x := .int 24) (y := .int n) eC_of rfl (oMul_of (mulOk_l (by decide) _))) eC_of (by rw [← e]; rfl)) aNil_of) h1)
  exact runF_rt rfl (Eq.trans (sSeq_of s1) s2) rfl rfl
/-! ### the law's list of pentagonal numbers -/
def p1 (k : Nat) : Nat := k * (3 * k - 1) / 2
def p2 (k : Nat) : Nat := k * (3 * k + 1) / 2
def nxt (n k : Nat) (l : List Nat) : List Nat := l ++ [p1 k] ++ (bif Nat.ble (p2 k) n then [p2 k] else [])
def pl (n : Nat) : Nat → Nat → List Nat → List Nat
  | 0, _, l => l
  | f + 1, k, l => bif Nat.ble (p1 k) n then pl n f (k + 1) (nxt n k l) else l
abbrev iL (l : List Nat) : List D := l.map fun k : Nat => PyData.int (k : Int)
def eQ (n : Nat) (l : List Nat) (k : Nat) : En := [.vl (.int n), .ow (iL l), .vl (.int k)]
theorem c1 (k : Nat) (h : 1 ≤ k) : ((k : Int) * (3 * (k : Int) - 1)) / 2 = ((p1 k : Nat) : Int) := by
  unfold p1
  rw [show (3 * (k : Int) - 1) = ((3 * k - 1 : Nat) : Int) from by omega, ← Int.natCast_mul]
  omega
theorem c2 (k : Nat) : ((k : Int) * (3 * (k : Int) + 1)) / 2 = ((p2 k : Nat) : Int) := by
  unfold p2
  rw [show (3 * (k : Int) + 1) = ((3 * k + 1 : Nat) : Int) from by omega, ← Int.natCast_mul]
  omega
theorem ev1 (k : Nat) (h : 1 ≤ k) (h2 : k ≤ 100000) {i : Nat} {r : En} (hk : r[i]? = some (.vl (.int k))) : eOp oDiv (eOp oMul (eV i) (eOp oSub (eOp oMul (eC (.int 3)) (eV i)) (eC (.int 1)))) (eC (.int 2)) r = .ok (.int (p1 k : Nat)) r := by
  have v : eV i r = .ok (.int k) r := by unfold eV; rw [hk]
  have hm : mulOk (k : Int) (3 * (k : Int) - 1) = true := by
    unfold mulOk
    simp only [Bool.or_eq_true, decide_eq_true_eq]
    omega
  exact eOp_of (x := .int ((k : Int) * (3 * (k : Int) - 1))) (y := .int 2) (eOp_of v (eOp_of (x := .int (3 * (k : Int))) (y := .int 1) (eOp_of eC_of v (oMul_of (mulOk_l (by decide) _))) eC_of rfl) (oMul_of hm)) eC_of (by rw [← c1 k h]; rfl)
theorem ev2 (k : Nat) (h2 : k ≤ 100000) {i : Nat} {r : En} (hk : r[i]? = some (.vl (.int k))) : eOp oDiv (eOp oMul (eV i) (eOp oAdd (eOp oMul (eC (.int 3)) (eV i)) (eC (.int 1)))) (eC (.int 2)) r = .ok (.int (p2 k : Nat)) r := by
  have v : eV i r = .ok (.int k) r := by unfold eV; rw [hk]
  have hm : mulOk (k : Int) (3 * (k : Int) + 1) = true := by
    unfold mulOk
    simp only [Bool.or_eq_true, decide_eq_true_eq]
    omega
  exact eOp_of (x := .int ((k : Int) * (3 * (k : Int) + 1))) (y := .int 2) (eOp_of v (eOp_of (x := .int (3 * (k : Int))) (y := .int 1) (eOp_of eC_of v (oMul_of (mulOk_l (by decide) _))) eC_of rfl) (oMul_of hm)) eC_of (by rw [← c2 k]; rfl)
theorem le_cast (a b : Nat) : decide ((a : Int) ≤ (b : Int)) = Nat.ble a b := by
  rw [Bool.eq_iff_iff, decide_eq_true_eq, Nat.ble_eq]
  omega
theorem pp_w (n k : Nat) (l : List Nat) (h : 1 ≤ k) (h2 : k ≤ 100000) : g__law_pw_pentagons_w1 (eQ n l k) = .ok (Nat.ble (p1 k) n) (eQ n l k) :=
  tB1_of (eOp_of (ev1 k h h2 rfl) (y := .int n) rfl (by show some (PyData.bool (decide (((p1 k : Nat) : Int) ≤ (n : Int)))) = _; rw [le_cast]))
theorem app_of {f : En → R D} {n k : Nat} {l : List Nat} {v : Nat} (h : f (eQ n l k) = .ok (.int v) (eQ n l k)) (hl : l.length < 1000000) : sApp 1 f (eQ n l k) = .nx (eQ n (l ++ [v]) k) := by
  unfold sApp
  rw [if_pos (by rfl), h]
  have hl' : (iL l).length < 1000000 := by simpa [iL] using hl
  simp only [rF, eQ, List.getElem?_cons_zero, List.getElem?_cons_succ, Sl.mut, if_pos hl', Sl.put, List.set_cons_succ, List.set_cons_zero, iL, List.map_append, List.map_cons, List.map_nil]
theorem pp_b (n k : Nat) (l : List Nat) (h : 1 ≤ k) (h2 : k ≤ 100000) (hl : l.length < 999999) : g__law_pw_pentagons_b2 (eQ n l k) = .nx (eQ n (nxt n k l) (k + 1)) := by
  have t : tB1 (eOp oLe (eOp oDiv (eOp oMul (eV 2) (eOp oAdd (eOp oMul (eC (.int 3)) (eV 2)) (eC (.int 1)))) (eC (.int 2))) (eV 0)) (eQ n (l ++ [p1 k]) k) = .ok (Nat.ble (p2 k) n) (eQ n (l ++ [p1 k]) k) :=
    tB1_of (eOp_of (ev2 k h2 rfl) (y := .int n) rfl (by show some (PyData.bool (decide (((p2 k : Nat) : Int) ≤ (n : Int)))) = _; rw [le_cast]))
  have last : ∀ l' : List Nat, sSet (eOp oAdd (eV 2) (eC (.int 1))) 2 (eQ n l' k) = .nx (eQ n l' (k + 1)) := fun l' =>
    Eq.trans (sSet_of (r1 := eQ n l' k) (eOp_of (x := .int k) (y := .int 1) rfl rfl rfl)) rfl
  refine Eq.trans (sSeq_of (app_of (ev1 k h h2 rfl) (by omega))) ?_
  unfold nxt
  cases hb : Nat.ble (p2 k) n with
  | true =>
    rw [hb] at t
    exact Eq.trans (sSeq_of (Eq.trans (sIf_t t) (app_of (ev2 k h2 rfl) (by simp; omega)))) (last _)
  | false =>
    rw [hb] at t
    refine Eq.trans (sSeq_of (Eq.trans (sIf_f t) rfl)) (Eq.trans (last _) ?_)
    simp
theorem pp_loop (n : Nat) (hn : n < 1000) : ∀ (f fuel k : Nat) (l : List Nat), 1 ≤ k → k + f = 28 → f < fuel → l.length + 2 * f < 999990 → ∃ k', whileD g__law_pw_pentagons_w1 g__law_pw_pentagons_b2 fuel (eQ n l k) = .nx (eQ n (pl n f k l) k')
  | _, 0, _, _, _, _, h, _ => absurd h (Nat.not_lt_zero _)
  | 0, fuel + 1, k, l, h1, h2, h3, h4 => by
    refine ⟨k, ?_⟩
    unfold whileD rF pl
    have e : k = 28 := by omega
    subst e
    rw [pp_w n 28 l (by omega) (by omega)]
    have : Nat.ble (p1 28) n = false := by
      have z : p1 28 = 1162 := by decide
      rw [z]
      cases hq : Nat.ble 1162 n with
      | false => rfl
      | true => have := Nat.le_of_ble_eq_true hq; omega
    simp only [this]
    rfl
  | f + 1, fuel + 1, k, l, h1, h2, h3, h4 => by
    unfold whileD rF pl
    rw [pp_w n k l h1 (by omega)]
    cases hb : Nat.ble (p1 k) n with
    | false =>
      refine ⟨k, ?_⟩
      simp only [cond_false]
      rfl
    | true =>
      simp only [if_true, pp_b n k l h1 (by omega) (by omega), cond_true]
      exact pp_loop n hn f fuel (k + 1) (nxt n k l) (by omega) (by omega) (by omega) (by
        unfold nxt
        cases Nat.ble (p2 k) n <;> simp <;> omega)
theorem pents (n : Nat) (hn : n < 1000) : f__law_pw_pentagons [.vl (.int n)] = .rt (.ow (iL (pl n 27 1 [0]))) none := by
  obtain ⟨k', h⟩ := pp_loop n hn 27 fuel 1 [0] (by omega) (by omega) (by decide) (by decide)
  have hs : sPars [1, 2] (yCons (xLst (aCons (eC (.int 0)) (aNil))) (yCons (xV (eC (.int 1))) (yNil))) [.vl (.int n), .no, .no] = .nx (eQ n [0] 1) := by
    simp [eQ, iL, runF, sSeq, sIf, sNil, sSt, rF, tB1, tTru, truD, tNot1, tAnd1, tOr1, eOp, eUn, eIf, eNot, eAnd, eOr, eChain, eIxO, eLenO, eVF, eF, fz, Sl.has, Sl.isM, Sl.items, Sl.mut, Sl.put, R.bind, liftO, ixD, atI, ixN, eC, eV, eCB, aCons, aNil, eTup, xV, xLst, xOp, xCall, xCallI, xCallR, yNil, yCons, DL.putAll, sPars, sSet, sAsgX, sSetIx, sApp, sDrop, sRet, sRetX, sRetV, sRetN, sAug, ioOf, notIo, gN, gT, gsC, gsN, wipeD, iSeq, iRg1, iRg2, DL.inR, cmpD, oLt, oLe, oGt, oGe, oIsN, oNotN, isN, oAdd, oSub, oMul, oDiv, oMod, oPow, oNeg, oAddI, oSubI, oDivI, oModI, rIntD, mulOk, powOk, divOk, oIx, cInt, cAbs, cMax2, cMin2, cLen, cSum, cRepI, cIsi, tyD]
  exact runF_rt rfl (Eq.trans (sSeq_of hs) (Eq.trans (sSeq_of h) (show sRetV 1 (eQ n (pl n 27 1 [0]) k') = .rt (.ow (iL (pl n 27 1 [0]))) [.vl (.int n), .no, .vl (.int k')] from rfl))) rfl rfl
/-- the root, step by step, for the kernel -/
def bsF (n : Nat) : Nat → Nat → Nat → Nat
  | 0, lo, _ => lo
  | k + 1, lo, hi => bif Nat.blt 1 (Nat.sub hi lo) then (match Nat.div (Nat.add lo hi) 2 with
    | 0 => bsF n k 0 hi
    | m + 1 => bif Nat.ble (Nat.mul (m + 1) (m + 1)) n then bsF n k (m + 1) hi else bsF n k lo (m + 1)) else lo
theorem bsF_eq (n : Nat) : ∀ k lo hi, bsF n k lo hi = bs n k lo hi
  | 0, _, _ => rfl
  | k + 1, lo, hi => by
    unfold bsF bs
    show (bif Nat.blt 1 (hi - lo) then _ else _) = _
    cases Nat.blt 1 (hi - lo) with
    | false => rfl
    | true =>
      simp only [cond_true]
      show (match (lo + hi) / 2 with
        | 0 => bsF n k 0 hi
        | m + 1 => bif Nat.ble ((m + 1) * (m + 1)) n then bsF n k (m + 1) hi else bsF n k lo (m + 1)) = _
      cases hm : (lo + hi) / 2 with
      | zero =>
        simp only [bsF_eq n k]
        have : Nat.ble (0 * 0) n = true := by rw [Nat.ble_eq]; omega
        rw [this]
        rfl
      | succ m => simp only [bsF_eq n k]
def sqF (m : Nat) : Bool := match bsF m 30 0 (m + 1) with
  | 0 => Nat.beq 0 m
  | r + 1 => Nat.beq (Nat.mul (r + 1) (r + 1)) m
def ispF (n : Nat) : Bool := match 24 * n + 1 with
  | 0 => true
  | m + 1 => sqF (m + 1)
theorem ispF_eq (n : Nat) : ispF n = isp n := by
  unfold ispF isp rt
  show sqF (24 * n + 1) = _
  unfold sqF
  rw [bsF_eq]
  cases bs (24 * n + 1) 30 0 (24 * n + 1 + 1) with
  | zero => rfl
  | succ r => rfl
def anyP (n : Nat) : List (Nat × Nat) → Bool
  | [] => false
  | x :: l => bif Nat.ble x.1 n then (Nat.beq x.1 n || (Nat.beq x.2 n || anyP n l)) else false
theorem pl_any (n : Nat) : ∀ (f k : Nat) (l : List Nat), ((pl n f k l).any fun z => Nat.beq z n) = ((l.any fun z => Nat.beq z n) || anyP n ((List.range f).map fun i => (p1 (k + i), p2 (k + i))))
  | 0, k, l => by simp [pl, anyP]
  | f + 1, k, l => by
    unfold pl
    rw [List.range_succ_eq_map, List.map_cons, List.map_map]
    unfold anyP
    simp only [Nat.add_zero]
    cases Nat.ble (p1 k) n with
    | false => simp
    | true =>
      simp only [cond_true]
      rw [pl_any n f (k + 1) (nxt n k l)]
      have e : (List.range f).map (fun i => (p1 (k + 1 + i), p2 (k + 1 + i))) = (List.range f).map ((fun i => (p1 (k + i), p2 (k + i))) ∘ Nat.succ) := by
        refine List.map_congr_left fun i _ => ?_
        show (p1 (k + 1 + i), p2 (k + 1 + i)) = (p1 (k + (i + 1)), p2 (k + (i + 1)))
        rw [show k + 1 + i = k + (i + 1) from by omega]
      rw [e]
      have e2 : ((nxt n k l).any fun z => Nat.beq z n) = ((l.any fun z => Nat.beq z n) || (Nat.beq (p1 k) n || Nat.beq (p2 k) n)) := by
        unfold nxt
        cases hb : Nat.ble (p2 k) n with
        | true => simp
        | false =>
          have : Nat.beq (p2 k) n = false := by
            cases hq : Nat.beq (p2 k) n with
            | false => rfl
            | true =>
              have := Nat.eq_of_beq_eq_true hq
              rw [this] at hb
              have z : Nat.ble n n = true := by rw [Nat.ble_eq]; omega
              rw [z] at hb
              cases hb
          simp [this]
      rw [e2]
      simp only [Bool.or_assoc]
def PT : List (Nat × Nat) := [(1, 2), (5, 7), (12, 15), (22, 26), (35, 40), (51, 57), (70, 77), (92, 100), (117, 126), (145, 155), (176, 187), (210, 222), (247, 260), (287, 301), (330, 345), (376, 392), (425, 442), (477, 495), (532, 551), (590, 610), (651, 672), (715, 737), (782, 805), (852, 876), (925, 950), (1001, 1027), (1080, 1107)]
theorem PT_eq : (List.range 27).map (fun i => (p1 (1 + i), p2 (1 + i))) = PT := by decide +kernel
def chk1 (n : Nat) : Bool := ispF n == (Nat.beq 0 n || anyP n PT)
theorem chk1_all : (List.range 1000).all chk1 = true := by decide +kernel
def pK (n : Nat) : Bool := match n with
  | 0 => ispF 0
  | n + 1 => ispF (n + 1) && (Nat.ble (n + 1) 7 || !ispF (n + 3))
def chk2 (k : Nat) : Bool := pK (p1 k) && pK (p2 k)
theorem chk2_a : (List.range 400).all chk2 = true := by decide +kernel
theorem chk2_b : (List.range 410).all (fun k => chk2 (400 + k)) = true := by decide +kernel
theorem pK_of {n : Nat} (h : pK n = true) : isp n = true ∧ (n ≤ 7 ∨ isp (n + 2) = false) := by
  cases n with
  | zero => exact ⟨by rw [← ispF_eq]; exact h, .inl (by omega)⟩
  | succ n =>
    unfold pK at h
    simp only [Bool.and_eq_true, Bool.or_eq_true, Bool.not_eq_true', Nat.ble_eq] at h
    rw [← ispF_eq, ← ispF_eq]
    exact h
theorem chk2_all (k : Nat) (h : k < 810) : pK (p1 k) = true ∧ pK (p2 k) = true := by
  have : chk2 k = true := by
    by_cases h2 : k < 400
    · exact List.all_eq_true.mp chk2_a k (List.mem_range.mpr h2)
    · have := List.all_eq_true.mp chk2_b (k - 400) (List.mem_range.mpr (by omega))
      rwa [Nat.add_sub_cancel' (by omega)] at this
  unfold chk2 at this
  rwa [Bool.and_eq_true] at this
theorem chk1_of (n : Nat) (h : n < 1000) : isp n = (pl n 27 1 [0]).any fun k => Nat.beq k n := by
  have := List.all_eq_true.mp chk1_all n (List.mem_range.mpr h)
  unfold chk1 at this
  rw [ispF_eq] at this
  rw [eq_of_beq this, pl_any, PT_eq]
  simp
end K47
set_option maxHeartbeats 1000000
/-! K47p: pentagonal steps, parities, of law k47. -/
namespace K47
open PySem L2 DL
/-! ### pentagons -/
abbrev encP (p : Int × Int) : D := .tuple [.int p.1, .int p.2]
def sg (k : Int) : Int := if k % 2 = 1 then 1 else -1
def pr (k : Int) : List (Int × Int) := [(k * (3 * k - 1) / 2, sg k), (k * (3 * k + 1) / 2, sg k)]
def eP (n : Int) (s : List (Int × Int) × Int × Sl) : En := [.vl (.int n), .ow (s.1.map encP), .vl (.int s.2.1), s.2.2, .no]
theorem pent_w (n : Int) (l : List (Int × Int)) (k : Int) (sl : Sl) (h : 0 ≤ k) (h2 : k ≤ 1000) : g_pentagon_steps_w1 (eP n (l, k, sl)) = .ok (decide (k * (3 * k - 1) / 2 ≤ n)) (eP n (l, k, sl)) := by
  have hm : mulOk k (3 * k - 1) = true := by unfold mulOk; simp only [Bool.or_eq_true, decide_eq_true_eq]; omega
  have hm2 : mulOk 3 k = true := by simp [mulOk]
  revert hm hm2
  simp only [oMul, g_pentagon_steps_w1, eP, rIntD, tB1, eOp, R.bind, eV, eC, liftO, oSub, oDiv, divOk, oLe, cmpD, List.getElem?_cons_zero, List.getElem?_cons_succ]
  intro hm hm2
  simp [hm, hm2]
theorem pent_b (n : Int) (l : List (Int × Int)) (k : Int) (sl : Sl) (h : 0 ≤ k) (h2 : k ≤ 1000) (hl : l.length < 1000) : g_pentagon_steps_b2 (eP n (l, k, sl)) = .nx (eP n (l ++ pr k, k + 1, .vl (.int (sg k)))) := by
  have hm : k.natAbs < 18446744073709551616 := by omega
  have hl1 : l.length < 1000000 := by omega
  have hl2 : l.length + 1 < 1000000 := by omega
  by_cases hk : k % 2 = 1
  · simp [g_pentagon_steps_b2, eP, pr, sg, hk, oEq_int, hl1, hl2, hm, runF, sSeq, sIf, sNil, sSt, rF, tB1, tTru, truD, tNot1, tAnd1, tOr1, eOp, eUn, eIf, eNot, eAnd, eOr, eChain, eIxO, eLenO, eVF, eF, fz, Sl.has, Sl.isM, Sl.items, Sl.mut, Sl.put, R.bind, liftO, ixD, atI, ixN, eC, eV, eCB, aCons, aNil, eTup, xV, xLst, xOp, xCall, xCallI, xCallR, yNil, yCons, DL.putAll, sPars, sSet, sAsgX, sSetIx, sApp, sDrop, sRet, sRetX, sRetV, sRetN, sAug, ioOf, notIo, gN, gT, gsC, gsN, wipeD, iSeq, iRg1, iRg2, DL.inR, cmpD, oLt, oLe, oGt, oGe, oIsN, oNotN, isN, oAdd, oSub, oMul, oDiv, oMod, oPow, oNeg, oAddI, oSubI, oDivI, oModI, rIntD, mulOk, powOk, divOk, oIx, cInt, cAbs, cMax2, cMin2, cLen, cSum, cRepI, cIsi, tyD]
  · simp [g_pentagon_steps_b2, eP, pr, sg, hk, oEq_int, hl1, hl2, hm, runF, sSeq, sIf, sNil, sSt, rF, tB1, tTru, truD, tNot1, tAnd1, tOr1, eOp, eUn, eIf, eNot, eAnd, eOr, eChain, eIxO, eLenO, eVF, eF, fz, Sl.has, Sl.isM, Sl.items, Sl.mut, Sl.put, R.bind, liftO, ixD, atI, ixN, eC, eV, eCB, aCons, aNil, eTup, xV, xLst, xOp, xCall, xCallI, xCallR, yNil, yCons, DL.putAll, sPars, sSet, sAsgX, sSetIx, sApp, sDrop, sRet, sRetX, sRetV, sRetN, sAug, ioOf, notIo, gN, gT, gsC, gsN, wipeD, iSeq, iRg1, iRg2, DL.inR, cmpD, oLt, oLe, oGt, oGe, oIsN, oNotN, isN, oAdd, oSub, oMul, oDiv, oMod, oPow, oNeg, oAddI, oSubI, oDivI, oModI, rIntD, mulOk, powOk, divOk, oIx, cInt, cAbs, cMax2, cMin2, cLen, cSum, cRepI, cIsi, tyD]
def pent (j : Nat) : Int := ((j : Int) + 1) * (3 * ((j : Int) + 1) - 1) / 2
def fnd (m : Nat) : List (Int × Int) := (List.range m).flatMap fun (i : Nat) => pr ((i : Int) + 1)
theorem first_false {q : Nat → Prop} [DecidablePred q] : ∀ M : Nat, ¬ q M → ∃ m, m ≤ M ∧ (∀ j, j < m → q j) ∧ ¬ q m
  | 0, h => ⟨0, Nat.le_refl _, fun j hj => absurd hj (Nat.not_lt_zero _), h⟩
  | M + 1, h => by
    by_cases e : ∀ j, j < M + 1 → q j
    · exact ⟨M + 1, Nat.le_refl _, e, h⟩
    · have : ∃ j, j < M + 1 ∧ ¬ q j := by
        apply Classical.byContradiction
        intro z
        exact e fun j hj => Classical.byContradiction fun w => z ⟨j, hj, w⟩
      obtain ⟨j, hj, hq⟩ := this
      clear h e
      induction j using Nat.strongRecOn with
      | ind j ih =>
        by_cases e2 : ∀ i, i < j → q i
        · exact ⟨j, by omega, e2, hq⟩
        · have : ∃ i, i < j ∧ ¬ q i := by
            apply Classical.byContradiction
            intro z
            exact e2 fun i hi => Classical.byContradiction fun w => z ⟨i, hi, w⟩
          obtain ⟨i, hi, hqi⟩ := this
          exact ih i hi (by omega) hqi
theorem pent_mono : ∀ i, i < 37 → ∀ m, m ≤ i → pent m ≤ pent i ∧ pent i ≤ ((i : Int) + 1) * (3 * ((i : Int) + 1) + 1) / 2 := by decide +kernel
def PS (n : Int) : List (Int × Int) := (fnd 36).filter fun p => decide (p.1 ≤ n)
def itP (n : Int) (j : Nat) : En := eP n (fnd j, (j : Int) + 1, match j with | 0 => .no | j + 1 => .vl (.int (sg ((j : Int) + 1))))
theorem fnd_succ (m : Nat) : fnd (m + 1) = fnd m ++ pr ((m : Int) + 1) := by
  unfold fnd
  rw [List.range_succ, List.flatMap_append]
  simp
theorem fnd_len : ∀ m : Nat, (fnd m).length = 2 * m
  | 0 => rfl
  | m + 1 => by
    rw [fnd_succ, List.length_append, fnd_len m]
    simp [pr]
    omega
theorem fnd_filter (n : Int) (m : Nat) (h : ¬ pent m ≤ n) : ∀ d : Nat, m + d ≤ 36 → (fnd (m + d)).filter (fun p => decide (p.1 ≤ n)) = (fnd m).filter (fun p => decide (p.1 ≤ n))
  | 0, _ => rfl
  | d + 1, hd => by
    rw [← Nat.add_assoc, fnd_succ, List.filter_append, fnd_filter n m h d (by omega)]
    obtain ⟨a, b⟩ := pent_mono (m + d) (by omega) m (by omega)
    have e1 : ¬ pent (m + d) ≤ n := by omega
    have e2 : ¬ (((m + d : Nat) : Int) + 1) * (3 * (((m + d : Nat) : Int) + 1) + 1) / 2 ≤ n := by omega
    unfold pent at e1
    have : (pr (((m + d : Nat) : Int) + 1)).filter (fun p => decide (p.1 ≤ n)) = [] := by
      unfold pr
      rw [List.filter_cons_of_neg (by simpa using e1), List.filter_cons_of_neg (by simpa using e2), List.filter_nil]
    rw [this, List.append_nil]
theorem pent_steps (n : Nat) (h : n ≤ 2000) : f_pentagon_steps [.vl (.int n)] = .rt (.ow ((PS n).map encP)) none := by
  obtain ⟨m, c1, c2, c3⟩ := first_false (q := fun j => pent j ≤ (n : Int)) 36 (by have : pent 36 = 2035 := by decide +kernel
                                                                                  omega)
  have c4 := fnd_filter (n : Int) m c3 (36 - m) (by omega)
  rw [Nat.add_sub_cancel' c1] at c4
  replace c4 := c4.symm
  have hw : whileD g_pentagon_steps_w1 g_pentagon_steps_b2 fuel (itP n 0) = .nx (itP n m) := by
    refine whileD_seq (itP n) m (fun j hj => ?_) ?_ fuel 0 (Nat.zero_le _) (by show m - 0 < 4096; omega)
    · have a := c2 j hj
      refine ⟨?_, ?_⟩
      · unfold itP
        rw [pent_w _ _ _ _ (by omega) (by omega)]
        unfold pent at a
        simp [a]
      · unfold itP
        rw [pent_b _ _ _ _ (by omega) (by omega) (by rw [fnd_len]; omega), ← fnd_succ]
        congr 2
    · unfold itP
      rw [pent_w _ _ _ _ (by omega) (by omega)]
      unfold pent at c3
      simp [c3]
  have h0 : itP n 0 = [.vl (.int n), .ow [], .vl (.int 1), .no, .no] := by simp [itP, eP, fnd]
  rw [h0] at hw
  have hlc : ∀ r : En, (∃ s3 s4, r = [.vl (.int n), .ow ((fnd m).map encP), s3, s4, .no]) → xLc [4, 3] (iSeq (eVF 1)) (gT 2 (gsC (gN 4) (gsC (gN 3) (gsN)))) g_pentagon_steps_t4 g_pentagon_steps_e3 r = .ok (.ow ((PS n).map encP)) (r.set 1 (.vl (.list ((fnd m).map encP)))) := by
    rintro r ⟨s3, s4, rfl⟩
    have q := xLc_map (vs := [4, 3]) (it := iSeq (eVF 1)) (t := gT 2 (gsC (gN 4) (gsC (gN 3) (gsN)))) (c := g_pentagon_steps_t4) (f := g_pentagon_steps_e3) (r := [.vl (.int n), .ow ((fnd m).map encP), s3, s4, .no]) (r1 := [.vl (.int n), .vl (.list ((fnd m).map encP)), s3, s4, .no]) (enc := encP) (p := fun p => decide (p.1 ≤ n)) (g := encP) (xs := fnd m) (by simp [runF, sSeq, sIf, sNil, sSt, rF, tB1, tTru, truD, tNot1, tAnd1, tOr1, eOp, eUn, eIf, eNot, eAnd, eOr, eChain, eIxO, eLenO, eVF, eF, fz, Sl.has, Sl.isM, Sl.items, Sl.mut, Sl.put, R.bind, liftO, ixD, atI, ixN, eC, eV, eCB, aCons, aNil, eTup, xV, xLst, xOp, xCall, xCallI, xCallR, yNil, yCons, DL.putAll, sPars, sSet, sAsgX, sSetIx, sApp, sDrop, sRet, sRetX, sRetV, sRetN, sAug, ioOf, notIo, gN, gT, gsC, gsN, wipeD, iSeq, iRg1, iRg2, DL.inR, cmpD, oLt, oLe, oGt, oGe, oIsN, oNotN, isN, oAdd, oSub, oMul, oDiv, oMod, oPow, oNeg, oAddI, oSubI, oDivI, oModI, rIntD, mulOk, powOk, divOk, oIx, cInt, cAbs, cMax2, cMin2, cLen, cSum, cRepI, cIsi, tyD])
      (fun x hx => ⟨[.vl (.int n), .vl (.list ((fnd m).map encP)), s3, .vl (.int x.2), .vl (.int x.1)], by simp [runF, sSeq, sIf, sNil, sSt, rF, tB1, tTru, truD, tNot1, tAnd1, tOr1, eOp, eUn, eIf, eNot, eAnd, eOr, eChain, eIxO, eLenO, eVF, eF, fz, Sl.has, Sl.isM, Sl.items, Sl.mut, Sl.put, R.bind, liftO, ixD, atI, ixN, eC, eV, eCB, aCons, aNil, eTup, xV, xLst, xOp, xCall, xCallI, xCallR, yNil, yCons, DL.putAll, sPars, sSet, sAsgX, sSetIx, sApp, sDrop, sRet, sRetX, sRetV, sRetN, sAug, ioOf, notIo, gN, gT, gsC, gsN, wipeD, iSeq, iRg1, iRg2, DL.inR, cmpD, oLt, oLe, oGt, oGe, oIsN, oNotN, isN, oAdd, oSub, oMul, oDiv, oMod, oPow, oNeg, oAddI, oSubI, oDivI, oModI, rIntD, mulOk, powOk, divOk, oIx, cInt, cAbs, cMax2, cMin2, cLen, cSum, cRepI, cIsi, tyD], by simp [g_pentagon_steps_t4, runF, sSeq, sIf, sNil, sSt, rF, tB1, tTru, truD, tNot1, tAnd1, tOr1, eOp, eUn, eIf, eNot, eAnd, eOr, eChain, eIxO, eLenO, eVF, eF, fz, Sl.has, Sl.isM, Sl.items, Sl.mut, Sl.put, R.bind, liftO, ixD, atI, ixN, eC, eV, eCB, aCons, aNil, eTup, xV, xLst, xOp, xCall, xCallI, xCallR, yNil, yCons, DL.putAll, sPars, sSet, sAsgX, sSetIx, sApp, sDrop, sRet, sRetX, sRetV, sRetN, sAug, ioOf, notIo, gN, gT, gsC, gsN, wipeD, iSeq, iRg1, iRg2, DL.inR, cmpD, oLt, oLe, oGt, oGe, oIsN, oNotN, isN, oAdd, oSub, oMul, oDiv, oMod, oPow, oNeg, oAddI, oSubI, oDivI, oModI, rIntD, mulOk, powOk, divOk, oIx, cInt, cAbs, cMax2, cMin2, cLen, cSum, cRepI, cIsi, tyD], fun _ => by simp [g_pentagon_steps_e3, runF, sSeq, sIf, sNil, sSt, rF, tB1, tTru, truD, tNot1, tAnd1, tOr1, eOp, eUn, eIf, eNot, eAnd, eOr, eChain, eIxO, eLenO, eVF, eF, fz, Sl.has, Sl.isM, Sl.items, Sl.mut, Sl.put, R.bind, liftO, ixD, atI, ixN, eC, eV, eCB, aCons, aNil, eTup, xV, xLst, xOp, xCall, xCallI, xCallR, yNil, yCons, DL.putAll, sPars, sSet, sAsgX, sSetIx, sApp, sDrop, sRet, sRetX, sRetV, sRetN, sAug, ioOf, notIo, gN, gT, gsC, gsN, wipeD, iSeq, iRg1, iRg2, DL.inR, cmpD, oLt, oLe, oGt, oGe, oIsN, oNotN, isN, oAdd, oSub, oMul, oDiv, oMod, oPow, oNeg, oAddI, oSubI, oDivI, oModI, rIntD, mulOk, powOk, divOk, oIx, cInt, cAbs, cMax2, cMin2, cLen, cSum, cRepI, cIsi, tyD], by simp [runF, sSeq, sIf, sNil, sSt, rF, tB1, tTru, truD, tNot1, tAnd1, tOr1, eOp, eUn, eIf, eNot, eAnd, eOr, eChain, eIxO, eLenO, eVF, eF, fz, Sl.has, Sl.isM, Sl.items, Sl.mut, Sl.put, R.bind, liftO, ixD, atI, ixN, eC, eV, eCB, aCons, aNil, eTup, xV, xLst, xOp, xCall, xCallI, xCallR, yNil, yCons, DL.putAll, sPars, sSet, sAsgX, sSetIx, sApp, sDrop, sRet, sRetX, sRetV, sRetN, sAug, ioOf, notIo, gN, gT, gsC, gsN, wipeD, iSeq, iRg1, iRg2, DL.inR, cmpD, oLt, oLe, oGt, oGe, oIsN, oNotN, isN, oAdd, oSub, oMul, oDiv, oMod, oPow, oNeg, oAddI, oSubI, oDivI, oModI, rIntD, mulOk, powOk, divOk, oIx, cInt, cAbs, cMax2, cMin2, cLen, cSum, cRepI, cIsi, tyD]⟩) (by rw [fnd_len]; omega)
    rw [q, c4]
    simp [PS]
  simp only [f_pentagon_steps, F_pentagon_steps]
  simp only [runF, List.length_cons, List.length_nil, if_true, sSeq, sPars, yCons, yNil, xLst, aNil, xV, eC, R.bind, rF]
  simp only [List.replicate, List.append, List.length_nil, List.length_cons, Nat.zero_le, if_true, DL.putAll, List.set, List.all_cons, List.all_nil, decide_true, Bool.and_true, List.cons_append, List.nil_append]
  have hio : ∀ (s3 : Sl), (∀ ds, s3 ≠ .io ds) → ioOf [s3, .no] = none := fun s3 h3 => by cases s3 <;> first | rfl | exact absurd rfl (h3 _)
  simp [DL.putAll, hw, itP, eP, sRetX, rF, hlc _ ⟨_, _, rfl⟩, notIo, ioOf]
  exact hio _ (by intro ds; cases m <;> simp)
/-- the first m numbers of f as data -/
def tabD (f : Nat → Nat) (m : Nat) : List D := (List.range m).map fun k : Nat => PyData.int (f k : Int)
theorem tab_len (f : Nat → Nat) (m : Nat) : (tabD f m).length = m := by simp [tabD]
theorem tab_succ (f : Nat → Nat) (m : Nat) : tabD f (m + 1) = tabD f m ++ [.int (f m : Int)] := by
  unfold tabD
  rw [List.range_succ, List.map_append]
  rfl
theorem tab_at (f : Nat → Nat) {m k : Nat} (h : k < m) : atI (tabD f m) (k : Int) = some (.int (f k : Int)) := by
  unfold atI ixN
  rw [tab_len, if_pos (by omega), if_pos (by omega)]
  simp [tabD, h]
theorem tab_set (f g : Nat → Nat) {m k : Nat} {v : Int} (hv : v = (g k : Int)) (h : ∀ i, i < m → i ≠ k → f i = g i) : (tabD f m).set k (.int v) = tabD g m := by
  refine List.ext_getElem? fun i => ?_
  by_cases e : i < m
  · by_cases e2 : k = i
    · subst e2
      rw [List.getElem?_set_self (by rw [tab_len]; exact e)]
      simp [tabD, e, hv]
    · rw [List.getElem?_set_ne e2]
      simp [tabD, e, h i e (Ne.symm e2)]
  · rw [List.getElem?_eq_none (by rw [List.length_set, tab_len]; omega), List.getElem?_eq_none (by rw [tab_len]; omega)]
theorem tab_ix {f : Nat → Nat} {m k : Nat} (h : k < m) : ixN (tabD f m).length (k : Int) = some k := by
  unfold ixN
  rw [tab_len, if_pos (by omega), if_pos (by omega)]
  simp
def BQ : Nat := 0x9f76e63376b9579c508acc8b48bfae33b8b17b1afb219770fb
def Qb (k : Nat) : Nat := (BQ >>> k) % 2
def PN : List (Nat × Bool) := [(1, true), (2, true), (5, false), (7, false), (12, true), (15, true), (22, false), (26, false), (35, true), (40, true), (51, false), (57, false), (70, true), (77, true), (92, false), (100, false), (117, true), (126, true), (145, false), (155, false), (176, true), (187, true), (210, false), (222, false), (247, true), (260, true), (287, false), (301, false), (330, true), (345, true), (376, false), (392, false), (425, true), (442, true), (477, false), (495, false), (532, true), (551, true), (590, false), (610, false), (651, true), (672, true), (715, false), (737, false), (782, true), (805, true), (852, false), (876, false), (925, true), (950, true), (1001, false), (1027, false), (1080, true), (1107, true), (1162, false), (1190, false), (1247, true), (1276, true), (1335, false), (1365, false), (1426, true), (1457, true), (1520, false), (1552, false), (1617, true), (1650, true), (1717, false), (1751, false), (1820, true), (1855, true), (1926, false), (1962, false)]
def toI (x : Nat × Bool) : Int × Int := ((x.1 : Int), if x.2 = true then 1 else -1)
theorem fnd_PL : fnd 36 = PN.map toI := by decide +kernel
def smP (c : Nat → Bool) (g : Nat → Nat) : List (Nat × Bool) → Nat
  | [] => 0
  | x :: l => bif x.2 && c x.1 then Nat.add (g x.1) (smP c g l) else smP c g l
def smM (c : Nat → Bool) (g : Nat → Nat) : List (Nat × Bool) → Nat
  | [] => 0
  | x :: l => bif !x.2 && c x.1 then Nat.add (g x.1) (smM c g l) else smM c g l
def recQ (i : Nat) : Bool := Nat.beq (Nat.mod (Nat.add (smP (fun p => Nat.ble p (i + 1)) (fun p => Qb (i + 1 - p)) PN) (smM (fun p => Nat.ble p (i + 1)) (fun p => Qb (i + 1 - p)) PN)) 2) (Qb (i + 1))
theorem recQ_all : (List.range 200).all recQ = true := by decide +kernel
def recU (n : Nat) : Bool := Nat.beq (Nat.mod (Nat.add (Qb n) (Nat.add (smP (fun p => Nat.ble p (n / 2)) (fun p => Qb (n - 2 * p)) PN) (smM (fun p => Nat.ble p (n / 2)) (fun p => Qb (n - 2 * p)) PN))) 2) (bif ispF n then 1 else 0)
theorem recU_all : (List.range 200).all recU = true := by decide +kernel
theorem sm_eq (c : Nat → Bool) (g : Nat → Nat) (cI : Int × Int → Bool) (gI : Int × Int → Int) (h : ∀ x : Nat × Bool, cI (toI x) = c x.1) (h2 : ∀ x : Nat × Bool, c x.1 = true → gI (toI x) = (if x.2 = true then 1 else -1) * (g x.1 : Int)) : ∀ l : List (Nat × Bool), (((l.map toI).filter cI).map gI).sum = (smP c g l : Int) - (smM c g l : Int)
  | [] => rfl
  | x :: l => by
    have ih := sm_eq c g cI gI h h2 l
    rw [List.map_cons]
    unfold smP smM
    cases hc : c x.1 with
    | false =>
      rw [List.filter_cons_of_neg (by rw [h x, hc]; decide), ih]
      simp
    | true =>
      rw [List.filter_cons_of_pos (by rw [h x, hc]), List.map_cons, List.sum_cons, ih, h2 x hc]
      cases x.2 with
      | true => simp; omega
      | false => simp; omega
theorem PN_pos : ∀ x ∈ PN, 1 ≤ x.1 := by decide +kernel
theorem PS_mem {n : Int} {x : Int × Int} (h : x ∈ PS n) : 1 ≤ x.1 ∧ (x.2 = 1 ∨ x.2 = -1) := by
  unfold PS at h
  have h := (List.mem_filter.mp h).1
  rw [fnd_PL] at h
  obtain ⟨y, hy, e⟩ := List.mem_map.mp h
  have hp := PN_pos y hy
  subst e
  unfold toI
  refine ⟨by simp; omega, ?_⟩
  cases y.2 <;> simp
theorem PS_filter {n m : Int} (c : Int × Int → Bool) (h : ∀ x, c x = true → x.1 ≤ n) : (PS n).filter c = (PN.map toI).filter c := by
  unfold PS
  rw [fnd_PL, List.filter_filter]
  refine List.filter_congr fun x _ => ?_
  cases e : c x with
  | false => simp
  | true => simp [h x e]
theorem PS_len (n : Int) : (PS n).length ≤ 1000 := by
  unfold PS
  refine Nat.le_trans (List.length_filter_le ..) ?_
  rw [fnd_len]; omega
theorem mul1 {a b : Int} (h : a = 1 ∨ a = -1) : mulOk a b = true := by
  unfold mulOk
  simp only [Bool.or_eq_true, decide_eq_true_eq]
  left; left
  rcases h with h | h <;> subst h <;> decide
end K47
set_option maxHeartbeats 1000000
/-! K47m3: unlike rests by 2, of law k47. -/
namespace K47
open PySem L2 DL
def eR (n i : Nat) (s : Sl) : En := [.vl (.int n), .vl (.int 2), .vl (.list ((PS n).map encP)), .ow (tabD Qb (i + 1)), s, .no, .no]
theorem Qb_lt (k : Nat) : Qb k < 2 := Nat.mod_lt _ (by decide)
theorem rests_b (n i : Nat) (h : i < n) (hn : n < 200) : g_rests_in_b3 (eR n i (.vl (.int (1 + (i : Int))))) = .nx (eR n (i + 1) (.vl (.int (1 + (i : Int))))) := by
  have hlc : xLc [5, 6] (iSeq (eV 2)) (gT 2 (gsC (gN 5) (gsC (gN 6) (gsN)))) g_rests_in_t2 g_rests_in_e1 (eR n i (.vl (.int (1 + (i : Int))))) = .ok (.ow (((PS n).filter fun x => decide (x.1 ≤ 1 + (i : Int))).map fun x => PyData.int (x.2 * (Qb (1 + (i : Int) - x.1).toNat : Int)))) (eR n i (.vl (.int (1 + (i : Int))))) := by
    refine xLc_map (enc := encP) (xs := PS n) rfl (fun x hx => ?_) (Nat.le_trans (PS_len _) (by decide))
    obtain ⟨h1, h2⟩ := PS_mem hx
    refine ⟨[.vl (.int n), .vl (.int 2), .vl (.list ((PS n).map encP)), .ow (tabD Qb (i + 1)), .vl (.int (1 + (i : Int))), .vl (.int x.1), .vl (.int x.2)], by simp [eR, runF, sSeq, sIf, sNil, sSt, rF, tB1, tTru, truD, tNot1, tAnd1, tOr1, eOp, eUn, eIf, eNot, eAnd, eOr, eChain, eIxO, eLenO, eVF, eF, fz, Sl.has, Sl.isM, Sl.items, Sl.mut, Sl.put, R.bind, liftO, ixD, atI, ixN, eC, eV, eCB, aCons, aNil, eTup, xV, xLst, xOp, xCall, xCallI, xCallR, yNil, yCons, DL.putAll, sPars, sSet, sAsgX, sSetIx, sApp, sDrop, sRet, sRetX, sRetV, sRetN, sAug, ioOf, notIo, gN, gT, gsC, gsN, wipeD, iSeq, iRg1, iRg2, DL.inR, cmpD, oLt, oLe, oGt, oGe, oIsN, oNotN, isN, oAdd, oSub, oMul, oDiv, oMod, oPow, oNeg, oAddI, oSubI, oDivI, oModI, rIntD, mulOk, powOk, divOk, oIx, cInt, cAbs, cMax2, cMin2, cLen, cSum, cRepI, cIsi, tyD], by simp [g_rests_in_t2, runF, sSeq, sIf, sNil, sSt, rF, tB1, tTru, truD, tNot1, tAnd1, tOr1, eOp, eUn, eIf, eNot, eAnd, eOr, eChain, eIxO, eLenO, eVF, eF, fz, Sl.has, Sl.isM, Sl.items, Sl.mut, Sl.put, R.bind, liftO, ixD, atI, ixN, eC, eV, eCB, aCons, aNil, eTup, xV, xLst, xOp, xCall, xCallI, xCallR, yNil, yCons, DL.putAll, sPars, sSet, sAsgX, sSetIx, sApp, sDrop, sRet, sRetX, sRetV, sRetN, sAug, ioOf, notIo, gN, gT, gsC, gsN, wipeD, iSeq, iRg1, iRg2, DL.inR, cmpD, oLt, oLe, oGt, oGe, oIsN, oNotN, isN, oAdd, oSub, oMul, oDiv, oMod, oPow, oNeg, oAddI, oSubI, oDivI, oModI, rIntD, mulOk, powOk, divOk, oIx, cInt, cAbs, cMax2, cMin2, cLen, cSum, cRepI, cIsi, tyD], fun hp => ?_, by simp [eR, runF, sSeq, sIf, sNil, sSt, rF, tB1, tTru, truD, tNot1, tAnd1, tOr1, eOp, eUn, eIf, eNot, eAnd, eOr, eChain, eIxO, eLenO, eVF, eF, fz, Sl.has, Sl.isM, Sl.items, Sl.mut, Sl.put, R.bind, liftO, ixD, atI, ixN, eC, eV, eCB, aCons, aNil, eTup, xV, xLst, xOp, xCall, xCallI, xCallR, yNil, yCons, DL.putAll, sPars, sSet, sAsgX, sSetIx, sApp, sDrop, sRet, sRetX, sRetV, sRetN, sAug, ioOf, notIo, gN, gT, gsC, gsN, wipeD, iSeq, iRg1, iRg2, DL.inR, cmpD, oLt, oLe, oGt, oGe, oIsN, oNotN, isN, oAdd, oSub, oMul, oDiv, oMod, oPow, oNeg, oAddI, oSubI, oDivI, oModI, rIntD, mulOk, powOk, divOk, oIx, cInt, cAbs, cMax2, cMin2, cLen, cSum, cRepI, cIsi, tyD]⟩
    have hp : x.1 ≤ 1 + (i : Int) := of_decide_eq_true hp
    have a1 := tab_at Qb (m := i + 1) (k := (1 + (i : Int) - x.1).toNat) (by omega)
    rw [Int.toNat_of_nonneg (by omega)] at a1
    simp only [g_rests_in_e1, eOp, eV, eIxO, R.bind, liftO, List.getElem?_cons_zero, List.getElem?_cons_succ, Sl.has, Sl.items, if_true, oSub, ixD, a1, oMul, rIntD, mul1 h2]
  generalize hv : (smP (fun p => Nat.ble p (i + 1)) (fun p => Qb (i + 1 - p)) PN : Int) - (smM (fun p => Nat.ble p (i + 1)) (fun p => Qb (i + 1 - p)) PN : Int) = v
  have hs : sumD (((PS n).filter fun x => decide (x.1 ≤ 1 + (i : Int))).map fun x => PyData.int (x.2 * (Qb (1 + (i : Int) - x.1).toNat : Int))) = some v := by
    rw [PS_filter (m := 0) _ fun x hx => by have := of_decide_eq_true hx; omega]
    have e : ((PN.map toI).filter fun x => decide (x.1 ≤ 1 + (i : Int))).map (fun x => PyData.int (x.2 * (Qb (1 + (i : Int) - x.1).toNat : Int))) = (((PN.map toI).filter fun x => decide (x.1 ≤ 1 + (i : Int))).map fun x => x.2 * (Qb (1 + (i : Int) - x.1).toNat : Int)).map PyData.int := by rw [List.map_map]; rfl
    rw [e, sumD_ints, sm_eq (fun p => Nat.ble p (i + 1)) (fun p => Qb (i + 1 - p)), hv]
    · intro x
      rw [Bool.eq_iff_iff, decide_eq_true_eq, Nat.ble_eq]
      unfold toI
      simp
      omega
    · intro x hx
      have hx := Nat.le_of_ble_eq_true hx
      unfold toI
      have e2 : (1 + (i : Int) - (x.1 : Int)).toNat = i + 1 - x.1 := by omega
      simp only [e2]
  have hq : v % 2 = (Qb (i + 1) : Int) := by
    have r := Nat.eq_of_beq_eq_true (List.all_eq_true.mp recQ_all i (List.mem_range.mpr (by omega)))
    have r2 : (smP (fun p => Nat.ble p (i + 1)) (fun p => Qb (i + 1 - p)) PN + smM (fun p => Nat.ble p (i + 1)) (fun p => Qb (i + 1 - p)) PN) % 2 = Qb (i + 1) := r
    omega
  have hl : (tabD Qb (i + 1)).length < 1000000 := by rw [tab_len]; omega
  have hv : eOp oMod (eCB cSum (aCons (eF (xLc [5, 6] (iSeq (eV 2)) (gT 2 (gsC (gN 5) (gsC (gN 6) (gsN)))) g_rests_in_t2 g_rests_in_e1)) aNil)) (eV 1) (eR n i (.vl (.int (1 + (i : Int))))) = .ok (.int (Qb (i + 1) : Int)) (eR n i (.vl (.int (1 + (i : Int))))) :=
    eOp_of (x := .int v) (y := .int 2) (eCB_of (aCons_of (eF_of hlc rfl) aNil_of) (by show (sumD _).map _ = _; rw [hs]; rfl)) rfl (by rw [← hq]; exact oMod_of (by decide))
  unfold g_rests_in_b3 sApp
  rw [if_pos (by rfl), hv]
  simp only [rF, eR, List.getElem?_cons_zero, List.getElem?_cons_succ, Sl.mut, if_pos hl, Sl.put, List.set_cons_succ, List.set_cons_zero, ← tab_succ]
theorem rests (n : Nat) (hn : n < 200) : f_rests_in [.vl (.int n), .vl (.int 2)] = .rt (.ow (tabD Qb (n + 1))) none := by
  have hR0 : tabD Qb 1 = [.int 1] := by
    have : Qb 0 = 1 := by decide +kernel
    simp [tabD, this]
  obtain ⟨r', h1, s3, h2, h3⟩ := forD_range (t := gN 4) (f := g_rests_in_b3) (lo := 1) (n := n) (fun i r => ∃ s3, (∀ ds, s3 ≠ Sl.io ds) ∧ r = eR n i s3)
    (fun i r hi ⟨s3, h3, e⟩ => ⟨_, _, rfl, by subst e; exact rests_b n i hi hn, _, by intro ds; simp, rfl⟩) (r := eR n 0 .no) ⟨.no, by intro ds; simp, rfl⟩
  subst h3
  have hs1 : sPars [2, 3] (yCons (xV (eF (xCall f_pentagon_steps (aCons (eV 0) (aNil))))) (yCons (xLst (aCons (eOp oMod (eC (.int 1)) (eV 1)) (aNil))) (yNil))) [.vl (.int n), .vl (.int 2), .no, .no, .no, .no, .no] = .nx (eR n 0 .no) := by
    simp [pent_steps n (by omega), eR, hR0, runF, sSeq, sIf, sNil, sSt, rF, tB1, tTru, truD, tNot1, tAnd1, tOr1, eOp, eUn, eIf, eNot, eAnd, eOr, eChain, eIxO, eLenO, eVF, eF, fz, Sl.has, Sl.isM, Sl.items, Sl.mut, Sl.put, R.bind, liftO, ixD, atI, ixN, eC, eV, eCB, aCons, aNil, eTup, xV, xLst, xOp, xCall, xCallI, xCallR, yNil, yCons, DL.putAll, sPars, sSet, sAsgX, sSetIx, sApp, sDrop, sRet, sRetX, sRetV, sRetN, sAug, ioOf, notIo, gN, gT, gsC, gsN, wipeD, iSeq, iRg1, iRg2, DL.inR, cmpD, oLt, oLe, oGt, oGe, oIsN, oNotN, isN, oAdd, oSub, oMul, oDiv, oMod, oPow, oNeg, oAddI, oSubI, oDivI, oModI, rIntD, mulOk, powOk, divOk, oIx, cInt, cAbs, cMax2, cMin2, cLen, cSum, cRepI, cIsi, tyD]
  have hf : F_rests_in [.vl (.int n), .vl (.int 2), .no, .no, .no, .no, .no] = .rt (.ow (tabD Qb (n + 1))) ((eR n n s3).set 3 .no) := by
    refine Eq.trans (sSeq_of hs1) (Eq.trans (sSeq_of (Eq.trans (sFor_of (iRg2_of (i := 1) (j := (n : Int) + 1) (m := n) (r2 := eR n 0 .no) rfl rfl (by omega) (by omega) (by omega) (by omega) (by omega))) h1)) ?_)
    rfl
  exact runF_rt rfl hf rfl (by cases s3 <;> first | rfl | exact absurd rfl (h2 _))
/-! ### unlike rests -/
def eU (n : Nat) (s : Int × Sl × Sl) : En := [.vl (.int n), .vl (.int 2), .vl (.list (tabD Qb (n + 1))), .vl (.int s.1), s.2.1, s.2.2]
def stU (n : Nat) (s : Int × Sl × Sl) (x : Int × Int) : Int × Sl × Sl := (s.1 - x.2 * (Qb ((n : Int) - 2 * x.1).toNat : Int), .vl (.int x.1), .vl (.int x.2))
theorem foldU (n : Nat) : ∀ (l : List (Int × Int)) (s : Int × Sl × Sl), (l.foldl (stU n) s).1 = s.1 - (l.map fun x => x.2 * (Qb ((n : Int) - 2 * x.1).toNat : Int)).sum
  | [], s => by simp
  | x :: l, s => by
    rw [List.foldl_cons, foldU n l, List.map_cons, List.sum_cons]
    show s.1 - _ - _ = _
    omega
theorem PS_le {n : Int} {x : Int × Int} (h : x ∈ PS n) : x.1 ≤ n := by
  unfold PS at h
  exact of_decide_eq_true (List.mem_filter.mp h).2
def NoI (s : Int × Sl × Sl) : Prop := (∀ ds, s.2.1 ≠ Sl.io ds) ∧ ∀ ds, s.2.2 ≠ Sl.io ds
theorem unlike_loop (n : Nat) (hn : n < 200) (v0 : Int) : ∃ s, forD (gT 2 (gsC (gN 4) (gsC (gN 5) (gsN)))) g_unlike_rest_in_b1 ((PS (n / 2 : Nat)).map encP) (eU n (v0, .no, .no)) = .nx (eU n s) ∧ s.1 = v0 - ((PS (n / 2 : Nat)).map fun x => x.2 * (Qb ((n : Int) - 2 * x.1).toNat : Int)).sum ∧ NoI s := by
  obtain ⟨k1, k2⟩ := forD_fold (enc := encP) (e := eU n) (step := stU n) (t := gT 2 (gsC (gN 4) (gsC (gN 5) (gsN)))) (f := g_unlike_rest_in_b1) (fun xs s => (∀ x ∈ xs, x ∈ PS (n / 2 : Nat)) ∧ NoI s)
    (fun x rest s ⟨hx, hs⟩ => by
      have hm := hx x (List.mem_cons_self ..)
      obtain ⟨h1, h2⟩ := PS_mem hm
      have h3 := PS_le hm
      have a1 := tab_at Qb (m := n + 1) (k := ((n : Int) - 2 * x.1).toNat) (by omega)
      rw [Int.toNat_of_nonneg (by omega)] at a1
      refine ⟨[.vl (.int n), .vl (.int 2), .vl (.list (tabD Qb (n + 1))), .vl (.int s.1), .vl (.int x.1), .vl (.int x.2)], by simp [eU, runF, sSeq, sIf, sNil, sSt, rF, tB1, tTru, truD, tNot1, tAnd1, tOr1, eOp, eUn, eIf, eNot, eAnd, eOr, eChain, eIxO, eLenO, eVF, eF, fz, Sl.has, Sl.isM, Sl.items, Sl.mut, Sl.put, R.bind, liftO, ixD, atI, ixN, eC, eV, eCB, aCons, aNil, eTup, xV, xLst, xOp, xCall, xCallI, xCallR, yNil, yCons, DL.putAll, sPars, sSet, sAsgX, sSetIx, sApp, sDrop, sRet, sRetX, sRetV, sRetN, sAug, ioOf, notIo, gN, gT, gsC, gsN, wipeD, iSeq, iRg1, iRg2, DL.inR, cmpD, oLt, oLe, oGt, oGe, oIsN, oNotN, isN, oAdd, oSub, oMul, oDiv, oMod, oPow, oNeg, oAddI, oSubI, oDivI, oModI, rIntD, mulOk, powOk, divOk, oIx, cInt, cAbs, cMax2, cMin2, cLen, cSum, cRepI, cIsi, tyD], ?_, fun y hy => hx y (List.mem_cons_of_mem _ hy), by intro ds; simp [stU], by intro ds; simp [stU]⟩
      have hq : eOp oMul (eV 5) (eOp oIx (eV 2) (eOp oSub (eV 0) (eOp oMul (eC (.int 2)) (eV 4)))) [.vl (.int n), .vl (.int 2), .vl (.list (tabD Qb (n + 1))), .vl (.int s.1), .vl (.int x.1), .vl (.int x.2)] = .ok (.int (x.2 * (Qb ((n : Int) - 2 * x.1).toNat : Int))) [.vl (.int n), .vl (.int 2), .vl (.list (tabD Qb (n + 1))), .vl (.int s.1), .vl (.int x.1), .vl (.int x.2)] :=
        eOp_of (x := .int x.2) rfl (eOp_of (x := .list (tabD Qb (n + 1))) rfl (eOp_of (x := .int n) rfl (eOp_of (x := .int 2) (y := .int x.1) eC_of rfl (oMul_of (mulOk_l (by decide) _))) rfl) a1) (oMul_of (mul1 h2))
      unfold g_unlike_rest_in_b1 sAug
      simp only [List.getElem?_cons_zero, List.getElem?_cons_succ, hq, rF, oSubI, rIntD, if_true, List.set_cons_succ, List.set_cons_zero]
      rfl) (PS (n / 2 : Nat)) (v0, .no, .no) ⟨fun x hx => hx, by intro ds; simp, by intro ds; simp⟩
  exact ⟨_, k1, foldU n _ _, k2.2⟩
theorem unlike_in (n : Nat) (hn : n < 200) : f_unlike_rest_in [.vl (.int n), .vl (.int 2)] = .rt (.vl (.int (if isp n = true then 1 else 0))) none := by
  obtain ⟨s, k1, k2, k3, k4⟩ := unlike_loop n hn (Qb n : Int)
  have a1 := tab_at Qb (m := n + 1) (k := n) (by omega)
  have s1 : sSet (eF (xCall f_rests_in (aCons (eV 0) (aCons (eV 1) (aNil))))) 2 [.vl (.int n), .vl (.int 2), .no, .no, .no, .no] = .nx [.vl (.int n), .vl (.int 2), .vl (.list (tabD Qb (n + 1))), .no, .no, .no] :=
    Eq.trans (sSet_of (r1 := [.vl (.int n), .vl (.int 2), .no, .no, .no, .no]) (eF_of (xCall_of (ds := [.int n, .int 2]) (aCons_of rfl (aCons_of rfl aNil_of)) (rests n hn)) rfl)) rfl
  have s2 : sSet (eOp oIx (eV 2) (eV 0)) 3 [.vl (.int n), .vl (.int 2), .vl (.list (tabD Qb (n + 1))), .no, .no, .no] = .nx (eU n ((Qb n : Int), .no, .no)) :=
    Eq.trans (sSet_of (r1 := [.vl (.int n), .vl (.int 2), .vl (.list (tabD Qb (n + 1))), .no, .no, .no]) (eOp_of (x := .list (tabD Qb (n + 1))) (y := .int n) rfl rfl a1)) rfl
  have e2 : (n : Int) / 2 = ((n / 2 : Nat) : Int) := by omega
  have s3 : iSeq (eF (xCall f_pentagon_steps (aCons (eOp oDiv (eV 0) (eC (.int 2))) (aNil)))) (eU n ((Qb n : Int), .no, .no)) = .ok ((PS (n / 2 : Nat)).map encP) (eU n ((Qb n : Int), .no, .no)) := by
    have z : eF (xCall f_pentagon_steps (aCons (eOp oDiv (eV 0) (eC (.int 2))) (aNil))) (eU n ((Qb n : Int), .no, .no)) = .ok (.list ((PS (n / 2 : Nat)).map encP)) (eU n ((Qb n : Int), .no, .no)) :=
      eF_of (xCall_of (ds := [.int ((n / 2 : Nat) : Int)]) (aCons_of (eOp_of (x := .int n) (y := .int 2) rfl eC_of (by rw [← e2]; exact oDiv_of (by decide) (by decide))) aNil_of) (pent_steps (n / 2) (by omega))) rfl
    unfold iSeq
    rw [z]
    rfl
  have hq : s.1 % 2 = (if isp n = true then 1 else 0) := by
    have r := Nat.eq_of_beq_eq_true (List.all_eq_true.mp recU_all n (List.mem_range.mpr hn))
    have r2 : (Qb n + (smP (fun p => Nat.ble p (n / 2)) (fun p => Qb (n - 2 * p)) PN + smM (fun p => Nat.ble p (n / 2)) (fun p => Qb (n - 2 * p)) PN)) % 2 = bif ispF n then 1 else 0 := r
    rw [ispF_eq] at r2
    have e3 : ((PS (n / 2 : Nat)).map fun x => x.2 * (Qb ((n : Int) - 2 * x.1).toNat : Int)).sum = (smP (fun p => Nat.ble p (n / 2)) (fun p => Qb (n - 2 * p)) PN : Int) - (smM (fun p => Nat.ble p (n / 2)) (fun p => Qb (n - 2 * p)) PN : Int) := by
      unfold PS
      rw [fnd_PL, sm_eq (fun p => Nat.ble p (n / 2)) (fun p => Qb (n - 2 * p))]
      · intro x
        rw [Bool.eq_iff_iff, decide_eq_true_eq, Nat.ble_eq]
        unfold toI
        simp
        omega
      · intro x hx
        have hx := Nat.le_of_ble_eq_true hx
        unfold toI
        have e2 : ((n : Int) - 2 * (x.1 : Int)).toNat = n - 2 * x.1 := by omega
        simp only [e2]
    rw [e3] at k2
    cases hb : isp n with
    | true =>
      rw [hb] at r2
      simp only [cond_true] at r2
      rw [if_pos rfl]
      omega
    | false =>
      rw [hb] at r2
      simp only [cond_false] at r2
      rw [if_neg (by decide)]
      omega
  have s4 : sRet (eOp oMod (eV 3) (eV 1)) (eU n s) = .rt (.vl (.int (if isp n = true then 1 else 0))) (eU n s) :=
    sRet_of (eOp_of (x := .int s.1) (y := .int 2) rfl rfl (by rw [← hq]; exact oMod_of (by decide)))
  exact runF_rt rfl (Eq.trans (sSeq_of s1) (Eq.trans (sSeq_of s2) (Eq.trans (sSeq_of (Eq.trans (sFor_of s3) k1)) s4))) rfl (by
    obtain ⟨a, b, c⟩ := s
    cases b <;> cases c <;> first | rfl | exact absurd rfl (k3 _) | exact absurd rfl (k4 _))
theorem unlike (n : Nat) (hn : n < 200) : f_unlike_rest [.vl (.int n), .vl (.int 2)] = .rt (.vl (.int (if isp n = true then 1 else 0))) none := by
  have q : f_require_rest [.vl (.int n), .vl (.int 2)] = .rt (.vl .none) none :=
    runF_nx rfl (Eq.trans (sSeq_of (sDrop_of (r1 := [.vl (.int n), .vl (.int 2)]) (eF_of (xCall_of (ds := [.int n, .int 0, .int 2000]) (aCons_of rfl (aCons_of eC_of (aCons_of eC_of aNil_of))) (req n 0 2000 (by omega) (by omega) (by omega) (by decide))) rfl)))
      (sDrop_of (r1 := [.vl (.int n), .vl (.int 2)]) (eF_of (xCall_of (ds := [.int 2, .int 2, .int 1000]) (aCons_of rfl (aCons_of eC_of (aCons_of eC_of aNil_of))) (req 2 2 1000 (by decide) (by decide) (by decide) (by decide))) rfl))) rfl
  exact runF_rt rfl (Eq.trans (sSeq_of (sDrop_of (r1 := [.vl (.int n), .vl (.int 2)]) (eF_of (xCall_of (ds := [.int n, .int 2]) (aCons_of rfl (aCons_of rfl aNil_of)) q) rfl))) (sRetX_of (r1 := [.vl (.int n), .vl (.int 2)]) (xCall_of (ds := [.int n, .int 2]) (aCons_of rfl (aCons_of rfl aNil_of)) (unlike_in n hn)))) rfl rfl
end K47
set_option maxHeartbeats 1000000
/-! K47m4: sums of divisors, of law k47. -/
namespace K47
open PySem L2 DL
def term (n i : Nat) : Nat := if n % (i + 1) = 0 then (i + 1) + (if n / (i + 1) ≠ i + 1 then n / (i + 1) else 0) else 0
def acc (n : Nat) : Nat → Nat
  | 0 => 0
  | j + 1 => acc n j + term n j
def sd (n : Nat) : Nat := acc n (rt n)
/-! ### the law's way -/
def eT (n f d : Nat) : En := [.vl (.int n), .vl (.int f), .vl (.int d)]
theorem cast_div (n d : Nat) : ((n : Int) / (d : Int)) = ((n / d : Nat) : Int) := (Int.natCast_ediv n d).symm
theorem cast_mod (n d : Nat) : ((n : Int) % (d : Int)) = ((n % d : Nat) : Int) := (Int.natCast_emod n d).symm
theorem ld_w (n f d : Nat) (hd : d ≤ 1000000) : g__law_divisors_w1 (eT n f d) = .ok (Nat.ble (d * d) n) (eT n f d) :=
  tB1_of (eOp_of (x := .int ((d : Int) * (d : Int))) (y := .int n) (eOp_of (x := .int d) (y := .int d) rfl rfl (oMul_of (mulOk_l (by omega) _))) rfl (by
    show some (PyData.bool (decide ((d : Int) * (d : Int) ≤ (n : Int)))) = _
    rw [← Int.natCast_mul, le_cast]))
theorem ld_b (n f i : Nat) (hi : i < 1000000) : g__law_divisors_b2 (eT n f (i + 1)) = .nx (eT n (f + term n i) (i + 2)) := by
  have pos : (0 : Int) < ((i + 1 : Nat) : Int) := by omega
  have q : ∀ f, eOp oDiv (eV 0) (eV 2) (eT n f (i + 1)) = .ok (.int ((n / (i + 1) : Nat) : Int)) (eT n f (i + 1)) := fun f =>
    eOp_of (x := .int n) (y := .int ((i + 1 : Nat) : Int)) rfl rfl (by rw [← cast_div]; exact oDiv_of pos (by omega))
  have t : tB1 (eOp oEq (eOp oMod (eCB cInt (aCons (eV 0) (aNil))) (eV 2)) (eC (.int 0))) (eT n f (i + 1)) = .ok (Nat.beq (n % (i + 1)) 0) (eT n f (i + 1)) :=
    tB1_of (eOp_of (x := .int ((n % (i + 1) : Nat) : Int)) (y := .int 0) (eOp_of (x := .int n) (y := .int ((i + 1 : Nat) : Int)) (eCB_of (aCons_of (d := .int n) rfl aNil_of) rfl) rfl (by rw [← cast_mod]; exact oMod_of pos)) eC_of (by
      rw [oEq_int]
      exact congrArg (fun b => some (PyData.bool b)) (beq_cast (n % (i + 1)) 0)))
  have last : ∀ f, sSet (eOp oAdd (eV 2) (eC (.int 1))) 2 (eT n f (i + 1)) = .nx (eT n f (i + 2)) := fun f =>
    Eq.trans (sSet_of (r1 := eT n f (i + 1)) (eOp_of (x := .int ((i + 1 : Nat) : Int)) (y := .int 1) rfl eC_of rfl)) rfl
  unfold g__law_divisors_b2 term
  cases hb : Nat.beq (n % (i + 1)) 0 with
  | false =>
    rw [hb] at t
    have h0 : ¬ n % (i + 1) = 0 := fun z => by rw [z] at hb; cases hb
    rw [if_neg h0]
    exact Eq.trans (sSeq_of (Eq.trans (sIf_f t) rfl)) (last f)
  | true =>
    rw [hb] at t
    rw [if_pos (Nat.eq_of_beq_eq_true hb)]
    have t2 : tB1 (eOp oNe (eOp oDiv (eV 0) (eV 2)) (eV 2)) (eT n f (i + 1)) = .ok (!Nat.beq (n / (i + 1)) (i + 1)) (eT n f (i + 1)) :=
      tB1_of (eOp_of (q f) (y := .int ((i + 1 : Nat) : Int)) rfl (by
        rw [oNe_int]
        exact congrArg (fun b => some (PyData.bool (!b))) (beq_cast (n / (i + 1)) (i + 1))))
    have v : eIf (tB1 (eOp oNe (eOp oDiv (eV 0) (eV 2)) (eV 2))) (eOp oDiv (eV 0) (eV 2)) (eC (.int 0)) (eT n f (i + 1)) = .ok (.int (((if n / (i + 1) ≠ i + 1 then n / (i + 1) else 0) : Nat) : Int)) (eT n f (i + 1)) := by
      unfold eIf
      rw [t2]
      cases hc : Nat.beq (n / (i + 1)) (i + 1) with
      | false =>
        have h1 : n / (i + 1) ≠ i + 1 := fun z => by rw [z, Nat.beq_refl] at hc; cases hc
        rw [if_pos h1]
        exact q f
      | true =>
        have h1 := Nat.eq_of_beq_eq_true hc
        rw [if_neg (by rw [h1]; exact fun z => z rfl)]
        rfl
    have a : sSet (eOp oAdd (eOp oAdd (eV 1) (eV 2)) (eIf (tB1 (eOp oNe (eOp oDiv (eV 0) (eV 2)) (eV 2))) (eOp oDiv (eV 0) (eV 2)) (eC (.int 0)))) 1 (eT n f (i + 1)) = .nx (eT n (f + ((i + 1) + (if n / (i + 1) ≠ i + 1 then n / (i + 1) else 0))) (i + 1)) := by
      refine Eq.trans (sSet_of (r1 := eT n f (i + 1)) (eOp_of (x := .int ((f : Int) + ((i + 1 : Nat) : Int))) (eOp_of (x := .int f) (y := .int ((i + 1 : Nat) : Int)) rfl rfl rfl) v rfl)) ?_
      show Fl.nx [.vl (.int n), .vl (.int ((f : Int) + ((i + 1 : Nat) : Int) + _)), .vl (.int ((i + 1 : Nat) : Int))] = _
      unfold eT
      generalize (if n / (i + 1) ≠ i + 1 then n / (i + 1) else 0) = w
      rw [show ((f : Int) + ((i + 1 : Nat) : Int) + (w : Int)) = ((f + (i + 1 + w) : Nat) : Int) from by omega]
    exact Eq.trans (sSeq_of (Eq.trans (sIf_t t) a)) (last _)
theorem rt_le (n : Nat) (h : n ≤ 1000000) : rt n ≤ 1000 := by
  obtain ⟨_, h2, _⟩ := root n (by omega)
  refine Nat.le_of_not_lt fun z => ?_
  have : 1001 * 1001 ≤ rt n * rt n := Nat.mul_le_mul z z
  omega
theorem law_divs (n : Nat) (h1 : 1 ≤ n) (h : n ≤ 1000000) : f__law_divisors [.vl (.int n)] = .rt (.vl (.int (sd n))) none := by
  obtain ⟨_, h2, h3⟩ := root n (by omega)
  have hr := rt_le n h
  have hw : whileD g__law_divisors_w1 g__law_divisors_b2 fuel (eT n (acc n 0) (0 + 1)) = .nx (eT n (acc n (rt n)) (rt n + 1)) := by
    refine whileD_seq (fun j => eT n (acc n j) (j + 1)) (rt n) (fun j hj => ⟨?_, ?_⟩) ?_ fuel 0 (Nat.zero_le _) (by show rt n - 0 < 4096; omega)
    · rw [ld_w n _ _ (by omega)]
      have : Nat.ble ((j + 1) * (j + 1)) n = true := by
        rw [Nat.ble_eq]
        exact Nat.le_trans (Nat.mul_le_mul hj hj) h2
      rw [this]
    · exact ld_b n (acc n j) j (by omega)
    · rw [ld_w n _ _ (by omega)]
      have : Nat.ble ((rt n + 1) * (rt n + 1)) n = false := by
        cases hq : Nat.ble ((rt n + 1) * (rt n + 1)) n with
        | false => rfl
        | true => rw [Nat.ble_eq] at hq; omega
      rw [this]
  have hs : sPars [1, 2] (yCons (xV (eC (.int 0))) (yCons (xV (eC (.int 1))) (yNil))) [.vl (.int n), .no, .no] = .nx (eT n (acc n 0) (0 + 1)) := by
    simp [eT, acc, runF, sSeq, sIf, sNil, sSt, rF, tB1, tTru, truD, tNot1, tAnd1, tOr1, eOp, eUn, eIf, eNot, eAnd, eOr, eChain, eIxO, eLenO, eVF, eF, fz, Sl.has, Sl.isM, Sl.items, Sl.mut, Sl.put, R.bind, liftO, ixD, atI, ixN, eC, eV, eCB, aCons, aNil, eTup, xV, xLst, xOp, xCall, xCallI, xCallR, yNil, yCons, DL.putAll, sPars, sSet, sAsgX, sSetIx, sApp, sDrop, sRet, sRetX, sRetV, sRetN, sAug, ioOf, notIo, gN, gT, gsC, gsN, wipeD, iSeq, iRg1, iRg2, DL.inR, cmpD, oLt, oLe, oGt, oGe, oIsN, oNotN, isN, oAdd, oSub, oMul, oDiv, oMod, oPow, oNeg, oAddI, oSubI, oDivI, oModI, rIntD, mulOk, powOk, divOk, oIx, cInt, cAbs, cMax2, cMin2, cLen, cSum, cRepI, cIsi, tyD]
  exact runF_rt rfl (Eq.trans (sSeq_of hs) (Eq.trans (sSeq_of hw) (sRet_of (r1 := eT n (acc n (rt n)) (rt n + 1)) rfl))) rfl rfl
/-! ### the program's way -/
def low (n : Nat) : List Nat := (List.range (rt n)).filter fun i => Nat.beq (n % (i + 1)) 0
theorem low_mem {n i : Nat} (h : i ∈ low n) : i < rt n ∧ n % (i + 1) = 0 := by
  unfold low at h
  obtain ⟨a, b⟩ := List.mem_filter.mp h
  exact ⟨List.mem_range.mp a, Nat.eq_of_beq_eq_true b⟩
def lowD (n : Nat) : List D := (low n).map fun i : Nat => PyData.int (1 + (i : Int))
def high (n : Nat) : List D := ((low n).reverse.filter fun i => !Nat.beq ((i + 1) * (i + 1)) n).map fun i : Nat => PyData.int ((n / (i + 1) : Nat) : Int)
theorem divs_in (n : Nat) (h1 : 1 ≤ n) (h : n ≤ 1000000) : f_divisors_in [.vl (.int n)] = .rt (.ow (lowD n ++ high n)) none := by
  obtain ⟨hrt, h2, h3⟩ := root n (by omega)
  have hr := rt_le n h
  have hi : iRg2 (eC (.int 1)) (eOp oAdd (eF (xCall f_whole_root (aCons (eV 0) (aNil)))) (eC (.int 1))) [.vl (.int n), .no, .no] = .ok ((List.range (rt n)).map fun i : Nat => PyData.int (1 + (i : Int))) [.vl (.int n), .no, .no] := by
    rw [← rngD_map]
    exact iRg2_of (i := 1) (j := (rt n : Int) + 1) (m := rt n) (r2 := [.vl (.int n), .no, .no]) eC_of (eOp_of (x := .int (rt n)) (y := .int 1) (eF_of (xCall_of (ds := [.int n]) (aCons_of rfl aNil_of) hrt) rfl) eC_of rfl) (by omega) (by omega) (by omega) (by omega) (by omega)
  have hl : xLc [2] (iRg2 (eC (.int 1)) (eOp oAdd (eF (xCall f_whole_root (aCons (eV 0) (aNil)))) (eC (.int 1)))) (gN 2) g_divisors_in_t2 g_divisors_in_e1 [.vl (.int n), .no, .no] = .ok (.ow (lowD n)) [.vl (.int n), .no, .no] := by
    refine xLc_map (enc := fun i : Nat => PyData.int (1 + (i : Int))) (xs := List.range (rt n)) (p := fun i => Nat.beq (n % (i + 1)) 0) (g := fun i : Nat => PyData.int (1 + (i : Int))) hi (fun i hi => ?_) (by rw [List.length_range]; omega)
    refine ⟨[.vl (.int n), .no, .vl (.int (1 + (i : Int)))], rfl, ?_, fun _ => rfl, rfl⟩
    refine tB1_of (eOp_of (x := .int ((n % (i + 1) : Nat) : Int)) (y := .int 0) (eOp_of (x := .int n) (y := .int (1 + (i : Int))) rfl rfl ?_) eC_of ?_)
    · rw [← cast_mod, show ((i + 1 : Nat) : Int) = 1 + (i : Int) from by omega]
      exact oMod_of (by omega)
    · rw [oEq_int]
      exact congrArg (fun b => some (PyData.bool b)) (beq_cast (n % (i + 1)) 0)
  have hrv : iSeq (eF (xRev (eVF 1))) [.vl (.int n), .ow (lowD n), .no] = .ok ((low n).reverse.map fun i : Nat => PyData.int (1 + (i : Int))) [.vl (.int n), .vl (.list (lowD n)), .no] := by
    have z : xRev (eVF 1) [.vl (.int n), .vl (.list (lowD n)), .no] = .ok (.ow (lowD n).reverse) [.vl (.int n), .vl (.list (lowD n)), .no] := rfl
    have z0 : xRev (eVF 1) [.vl (.int n), .ow (lowD n), .no] = .ok (.ow (lowD n).reverse) [.vl (.int n), .vl (.list (lowD n)), .no] := rfl
    unfold iSeq
    rw [eF_of z0 rfl, List.map_reverse]
    rfl
  have hrv2 : iSeq (eF (xRev (eVF 1))) [.vl (.int n), .vl (.list (lowD n)), .no] = .ok ((low n).reverse.map fun i : Nat => PyData.int (1 + (i : Int))) [.vl (.int n), .vl (.list (lowD n)), .no] := by
    have z : xRev (eVF 1) [.vl (.int n), .vl (.list (lowD n)), .no] = .ok (.ow (lowD n).reverse) [.vl (.int n), .vl (.list (lowD n)), .no] := rfl
    unfold iSeq
    rw [eF_of z rfl, List.map_reverse]
    rfl
  have len : (low n).length ≤ 1000 := by
    unfold low
    refine Nat.le_trans (List.length_filter_le ..) ?_
    rw [List.length_range]
    exact hr
  have hh : xLc [2] (iSeq (eF (xRev (eVF 1)))) (gN 2) g_divisors_in_t4 g_divisors_in_e3 [.vl (.int n), .vl (.list (lowD n)), .no] = .ok (.ow (high n)) [.vl (.int n), .vl (.list (lowD n)), .no] := by
    refine xLc_map (enc := fun i : Nat => PyData.int (1 + (i : Int))) (xs := (low n).reverse) (p := fun i => !Nat.beq ((i + 1) * (i + 1)) n) (g := fun i : Nat => PyData.int ((n / (i + 1) : Nat) : Int)) hrv2 (fun i hi => ?_) (by rw [List.length_reverse]; omega)
    obtain ⟨m1, m2⟩ := low_mem (List.mem_reverse.mp hi)
    refine ⟨[.vl (.int n), .vl (.list (lowD n)), .vl (.int (1 + (i : Int)))], rfl, ?_, fun _ => ?_, rfl⟩
    · refine tB1_of (eOp_of (x := .int ((1 + (i : Int)) * (1 + (i : Int)))) (y := .int n) (eOp_of (x := .int (1 + (i : Int))) (y := .int (1 + (i : Int))) rfl rfl (oMul_of (mulOk_l (by omega) _))) rfl ?_)
      rw [oNe_int, show (1 + (i : Int)) = ((i + 1 : Nat) : Int) from by omega, ← Int.natCast_mul, beq_cast]
    · refine eOp_of (x := .int n) (y := .int (1 + (i : Int))) rfl rfl ?_
      rw [← cast_div, show ((i + 1 : Nat) : Int) = 1 + (i : Int) from by omega]
      exact oDiv_of (by omega) (by omega)
  have hcat : nCat (.list (lowD n)) (.list (high n)) = some (lowD n ++ high n) := by
    simp only [nCat]
    rw [if_pos]
    have a : (lowD n).length ≤ 1000 := by unfold lowD; rw [List.length_map]; exact len
    have b : (high n).length ≤ 1000 := by
      unfold high
      rw [List.length_map]
      refine Nat.le_trans (List.length_filter_le ..) ?_
      rw [List.length_reverse]
      exact len
    omega
  exact runF_rt rfl (Eq.trans (sSeq_of (sAsgX_of hl)) (sRetX_of (xOp_of (eVF_ow (ds := lowD n) rfl) (eF_of hh rfl) hcat))) rfl rfl
/-- the sum, either way -/
theorem sum_low (n : Nat) : ∀ l : List Nat, (∀ i ∈ l, n % (i + 1) = 0) → (l.map fun i : Nat => (1 + (i : Int))).sum + ((l.filter fun i => !Nat.beq ((i + 1) * (i + 1)) n).map fun i : Nat => ((n / (i + 1) : Nat) : Int)).sum = ((l.map (term n)).sum : Nat)
  | [], _ => rfl
  | i :: l, h => by
    have ih := sum_low n l fun j hj => h j (List.mem_cons_of_mem _ hj)
    have hi := h i (List.mem_cons_self ..)
    rw [List.map_cons, List.sum_cons, List.map_cons, List.sum_cons, Int.natCast_add, ← ih]
    have e : term n i = (i + 1) + (if n / (i + 1) ≠ i + 1 then n / (i + 1) else 0) := by unfold term; rw [if_pos hi]
    have hd : (i + 1) * (n / (i + 1)) = n := Nat.mul_div_cancel' (Nat.dvd_of_mod_eq_zero hi)
    rw [e]
    cases hb : Nat.beq ((i + 1) * (i + 1)) n with
    | true =>
      have z := Nat.eq_of_beq_eq_true hb
      have z2 : n / (i + 1) = i + 1 := by
        rw [← z]
        exact Nat.mul_div_cancel _ (by omega)
      rw [List.filter_cons_of_neg (by rw [hb]; decide), if_neg (by rw [z2]; exact fun w => w rfl)]
      omega
    | false =>
      have z2 : n / (i + 1) ≠ i + 1 := fun z => by
        rw [z] at hd
        rw [hd, Nat.beq_refl] at hb
        cases hb
      rw [List.filter_cons_of_pos (by rw [hb]; decide), if_pos z2, List.map_cons, List.sum_cons]
      omega
theorem acc_low (n : Nat) : ∀ r : Nat, (((List.range r).filter fun i => Nat.beq (n % (i + 1)) 0).map (term n)).sum = acc n r
  | 0 => rfl
  | r + 1 => by
    rw [List.range_succ, List.filter_append, List.map_append, List.sum_append, acc_low n r]
    show _ = acc n r + term n r
    cases hb : Nat.beq (n % (r + 1)) 0 with
    | true => rw [List.filter_cons_of_pos (by rw [hb])]; simp
    | false =>
      have h0 : ¬ n % (r + 1) = 0 := fun z => by rw [z] at hb; cases hb
      rw [List.filter_cons_of_neg (by rw [hb]; decide)]
      unfold term
      rw [if_neg h0]
      simp
theorem sum_rev (l : List Int) : l.reverse.sum = l.sum := by
  induction l with
  | nil => rfl
  | cons x l ih => rw [List.reverse_cons, List.sum_append, ih, List.sum_cons]; simp; omega
theorem sum_all (n : Nat) : sumD (lowD n ++ high n) = some (sd n : Int) := by
  have e : lowD n ++ high n = (((low n).map fun i : Nat => (1 + (i : Int))) ++ (((low n).filter fun i => !Nat.beq ((i + 1) * (i + 1)) n).map fun i : Nat => ((n / (i + 1) : Nat) : Int)).reverse).map PyData.int := by
    unfold lowD high
    rw [List.map_append, List.map_map, List.map_reverse, List.map_map, List.filter_reverse, List.map_reverse]
    rfl
  rw [e, sumD_ints, List.sum_append, sum_rev, sum_low n (low n) (fun i hi => (low_mem hi).2)]
  show some (((((List.range (rt n)).filter fun i => Nat.beq (n % (i + 1)) 0).map (term n)).sum : Nat) : Int) = _
  rw [acc_low]
  rfl
theorem div_sum (n : Nat) (h1 : 1 ≤ n) (h : n ≤ 1000000) : f_divisor_sum [.vl (.int n)] = .rt (.vl (.int (sd n))) none := by
  have s1 : sDrop (eF (xCall f_require_far (aCons (eV 0) (aCons (eC (.int 1)) (aNil))))) [.vl (.int n)] = .nx [.vl (.int n)] :=
    sDrop_of (eF_of (xCall_of (ds := [.int n, .int 1]) (aCons_of rfl (aCons_of eC_of aNil_of)) (far n 1 (by omega) (by omega) (by omega))) rfl)
  have s2 : sRet (eCB cSum (aCons (eF (xCall f_divisors_in (aCons (eV 0) (aNil)))) (aNil))) [.vl (.int n)] = .rt (.vl (.int (sd n))) [.vl (.int n)] :=
    sRet_of (eCB_of (aCons_of (eF_of (xCall_of (ds := [.int n]) (aCons_of rfl aNil_of) (divs_in n h1 h)) rfl) aNil_of) (by show (sumD _).map _ = _; rw [sum_all]; rfl))
  exact runF_rt rfl (Eq.trans (sSeq_of s1) s2) rfl rfl
end K47
set_option maxHeartbeats 1000000
/-! K47m5: sums of divisors multiply; the common divisor. -/
namespace K47
open PySem L2 DL
def dv (n : Nat) : List Nat := ((List.range n).map (· + 1)).filter fun d => Nat.beq (n % d) 0
theorem dv_mem {n d : Nat} (hn : 1 ≤ n) : d ∈ dv n ↔ 1 ≤ d ∧ d ∣ n := by
  unfold dv
  rw [List.mem_filter]
  constructor
  · rintro ⟨h, k⟩
    obtain ⟨i, _, e⟩ := List.mem_map.mp h
    exact ⟨by omega, Nat.dvd_of_mod_eq_zero (Nat.eq_of_beq_eq_true k)⟩
  · rintro ⟨h, k⟩
    have hl := Nat.le_of_dvd hn k
    refine ⟨List.mem_map.mpr ⟨d - 1, List.mem_range.mpr (by omega), by omega⟩, ?_⟩
    rw [Nat.mod_eq_zero_of_dvd k]
    rfl
theorem dv_nodup (n : Nat) : (dv n).Nodup := by
  unfold dv
  refine List.Pairwise.filter _ (List.pairwise_map.mpr ?_)
  exact List.Pairwise.imp (fun h e => h (by omega)) List.nodup_range
theorem low_nodup (n : Nat) : (low n).Nodup := List.Pairwise.filter _ List.nodup_range
def L1 (n : Nat) : List Nat := (low n).map (· + 1) ++ ((low n).filter fun i => !Nat.beq ((i + 1) * (i + 1)) n).map fun i => n / (i + 1)
theorem low_iff {n i : Nat} : i ∈ low n ↔ i < rt n ∧ n % (i + 1) = 0 := by
  refine ⟨low_mem, fun ⟨a, b⟩ => ?_⟩
  unfold low
  refine List.mem_filter.mpr ⟨List.mem_range.mpr a, ?_⟩
  rw [b]
  rfl
theorem nsq {n i : Nat} (h : (!Nat.beq ((i + 1) * (i + 1)) n) = true) : (i + 1) * (i + 1) ≠ n := fun e => by
  rw [e, Nat.beq_refl] at h
  cases h
theorem mem_L1 {n d : Nat} (hn : 1 ≤ n) (hm : n ≤ 1000000) : d ∈ L1 n ↔ d ∈ dv n := by
  obtain ⟨_, h2, h3⟩ := root n (by omega)
  rw [dv_mem hn]
  unfold L1
  rw [List.mem_append, List.mem_map, List.mem_map]
  constructor
  · rintro (⟨i, hi, e⟩ | ⟨i, hi, e⟩)
    · obtain ⟨a, b⟩ := low_mem hi
      exact ⟨by omega, by rw [← e]; exact Nat.dvd_of_mod_eq_zero b⟩
    · obtain ⟨a, b⟩ := low_mem (List.mem_filter.mp hi).1
      have hd : (i + 1) * (n / (i + 1)) = n := Nat.mul_div_cancel' (Nat.dvd_of_mod_eq_zero b)
      refine ⟨?_, by rw [← e]; exact ⟨i + 1, by rw [Nat.mul_comm]; exact hd.symm⟩⟩
      rw [← e]
      refine Nat.pos_of_ne_zero fun z => ?_
      rw [z] at hd
      omega
  · rintro ⟨h, k⟩
    obtain ⟨e, he⟩ := k
    by_cases hd : d ≤ rt n
    · exact .inl ⟨d - 1, low_iff.mpr ⟨by omega, by rw [Nat.sub_add_cancel h, he]; exact Nat.mul_mod_right d e⟩, by omega⟩
    · have he1 : e ≤ rt n := by
        refine Nat.le_of_not_lt fun z => ?_
        have : (rt n + 1) * (rt n + 1) ≤ d * e := Nat.mul_le_mul (by omega) z
        omega
      have he0 : 1 ≤ e := Nat.pos_of_ne_zero fun z => by rw [z] at he; omega
      refine .inr ⟨e - 1, List.mem_filter.mpr ⟨low_iff.mpr ⟨by omega, by rw [Nat.sub_add_cancel he0, he]; exact Nat.mul_mod_left d e⟩, ?_⟩, ?_⟩
      · rw [Nat.sub_add_cancel he0]
        cases hb : Nat.beq (e * e) n with
        | false => rfl
        | true =>
          have z := Nat.eq_of_beq_eq_true hb
          rw [he] at z
          have := Nat.eq_of_mul_eq_mul_right he0 z
          omega
      · rw [Nat.sub_add_cancel he0, he]
        exact Nat.mul_div_cancel d he0
theorem L1_nodup {n : Nat} (hn : 1 ≤ n) (hm : n ≤ 1000000) : (L1 n).Nodup := by
  obtain ⟨_, h2, h3⟩ := root n (by omega)
  unfold L1
  refine List.nodup_append.mpr ⟨List.pairwise_map.mpr (List.Pairwise.imp (fun h e => h (by omega)) (low_nodup n)), List.pairwise_map.mpr (List.Pairwise.imp_of_mem (fun {i j} hi hj h e => h ?_) (List.Pairwise.filter _ (low_nodup n))), fun a ha b hb e => ?_⟩
  · obtain ⟨i, hi, ei⟩ := List.mem_map.mp ha
    obtain ⟨j, hj, ej⟩ := List.mem_map.mp hb
    obtain ⟨a1, a2⟩ := low_mem hi
    obtain ⟨b1, b2⟩ := low_mem (List.mem_filter.mp hj).1
    have ns := nsq (List.mem_filter.mp hj).2
    have d2 : (j + 1) * (n / (j + 1)) = n := Nat.mul_div_cancel' (Nat.dvd_of_mod_eq_zero b2)
    rw [ej, ← e, ← ei] at d2
    have u : (j + 1) * (i + 1) ≤ rt n * (i + 1) := Nat.mul_le_mul_right _ b1
    have v : rt n * (i + 1) ≤ rt n * rt n := Nat.mul_le_mul_left _ a1
    have w1 : rt n * (i + 1) = rt n * rt n := by omega
    have w2 := Nat.eq_of_mul_eq_mul_left (by omega) w1
    have w3 : (j + 1) * (i + 1) = rt n * (i + 1) := by omega
    have w4 := Nat.eq_of_mul_eq_mul_right (by omega) w3
    rw [w2, ← w4] at d2
    exact ns d2
  · obtain ⟨_, b1⟩ := low_mem (List.mem_filter.mp hi).1
    obtain ⟨_, b2⟩ := low_mem (List.mem_filter.mp hj).1
    have d1 : (i + 1) * (n / (i + 1)) = n := Nat.mul_div_cancel' (Nat.dvd_of_mod_eq_zero b1)
    have d2 : (j + 1) * (n / (j + 1)) = n := Nat.mul_div_cancel' (Nat.dvd_of_mod_eq_zero b2)
    rw [e] at d1
    have pos : 0 < n / (j + 1) := Nat.pos_of_ne_zero fun z => by rw [z] at d2; omega
    have := Nat.eq_of_mul_eq_mul_right pos (d1.trans d2.symm)
    omega
theorem L1_sum (n : Nat) : ∀ l : List Nat, (∀ i ∈ l, n % (i + 1) = 0) → (l.map (· + 1)).sum + ((l.filter fun i => !Nat.beq ((i + 1) * (i + 1)) n).map fun i => n / (i + 1)).sum = (l.map (term n)).sum
  | [], _ => rfl
  | i :: l, h => by
    have ih := L1_sum n l fun j hj => h j (List.mem_cons_of_mem _ hj)
    have hi := h i (List.mem_cons_self ..)
    rw [List.map_cons, List.sum_cons, List.map_cons, List.sum_cons, ← ih]
    have e : term n i = (i + 1) + (if n / (i + 1) ≠ i + 1 then n / (i + 1) else 0) := by unfold term; rw [if_pos hi]
    have hd : (i + 1) * (n / (i + 1)) = n := Nat.mul_div_cancel' (Nat.dvd_of_mod_eq_zero hi)
    rw [e]
    cases hb : Nat.beq ((i + 1) * (i + 1)) n with
    | true =>
      have z := Nat.eq_of_beq_eq_true hb
      have z2 : n / (i + 1) = i + 1 := by
        rw [← z]
        exact Nat.mul_div_cancel _ (by omega)
      rw [List.filter_cons_of_neg (by rw [hb]; decide), if_neg (by rw [z2]; exact fun w => w rfl)]
      omega
    | false =>
      have z2 : n / (i + 1) ≠ i + 1 := fun z => by
        rw [z] at hd
        rw [hd, Nat.beq_refl] at hb
        cases hb
      rw [List.filter_cons_of_pos (by rw [hb]; decide), if_pos z2, List.map_cons, List.sum_cons]
      omega
theorem sd_dv {n : Nat} (hn : 1 ≤ n) (hm : n ≤ 1000000) : sd n = (dv n).sum := by
  have p : (L1 n).Perm (dv n) := (List.perm_ext_iff_of_nodup (L1_nodup hn hm) (dv_nodup n)).mpr fun d => mem_L1 hn hm
  rw [← p.sum_nat]
  unfold L1
  rw [List.sum_append, L1_sum n (low n) fun i hi => (low_mem hi).2]
  exact (acc_low n (rt n)).symm
def M (a b : Nat) : List Nat := (dv a).flatMap fun x => (dv b).map fun y => x * y
theorem sum_mul (x : Nat) : ∀ l : List Nat, (l.map fun y => x * y).sum = x * l.sum
  | [] => rfl
  | y :: l => by rw [List.map_cons, List.sum_cons, List.sum_cons, sum_mul x l, Nat.mul_add]
theorem sum_M (m : List Nat) : ∀ l : List Nat, (l.flatMap fun x => m.map fun y => x * y).sum = l.sum * m.sum
  | [] => by simp
  | x :: l => by rw [List.flatMap_cons, List.sum_append, sum_M m l, sum_mul, List.sum_cons, Nat.add_mul]
theorem mem_M {a b d : Nat} (ha : 1 ≤ a) (hb : 1 ≤ b) (hc : Nat.Coprime a b) : d ∈ M a b ↔ d ∈ dv (a * b) := by
  rw [dv_mem (Nat.mul_pos ha hb)]
  unfold M
  rw [List.mem_flatMap]
  constructor
  · rintro ⟨x, hx, h⟩
    obtain ⟨y, hy, e⟩ := List.mem_map.mp h
    obtain ⟨x1, x2⟩ := (dv_mem ha).mp hx
    obtain ⟨y1, y2⟩ := (dv_mem hb).mp hy
    exact ⟨by rw [← e]; exact Nat.mul_pos x1 y1, by rw [← e]; exact Nat.mul_dvd_mul x2 y2⟩
  · rintro ⟨h, k⟩
    refine ⟨Nat.gcd d a, (dv_mem ha).mpr ⟨Nat.gcd_pos_of_pos_left _ h, Nat.gcd_dvd_right _ _⟩, List.mem_map.mpr ⟨Nat.gcd d b, (dv_mem hb).mpr ⟨Nat.gcd_pos_of_pos_left _ h, Nat.gcd_dvd_right _ _⟩, ?_⟩⟩
    rw [← hc.gcd_mul d]
    exact Nat.gcd_eq_left k
theorem M_nodup {a b : Nat} (ha : 1 ≤ a) (hb : 1 ≤ b) (hc : Nat.Coprime a b) : (M a b).Nodup := by
  unfold M
  refine List.pairwise_flatMap.mpr ⟨fun x hx => List.pairwise_map.mpr (List.Pairwise.imp (fun h e => h (Nat.eq_of_mul_eq_mul_left ((dv_mem ha).mp hx).1 e)) (dv_nodup b)), List.Pairwise.imp_of_mem (fun {x x'} hx hx' h u hu v hv e => h ?_) (dv_nodup a)⟩
  obtain ⟨y, hy, ey⟩ := List.mem_map.mp hu
  obtain ⟨y', hy', ey'⟩ := List.mem_map.mp hv
  have g : ∀ {z w : Nat}, z ∈ dv a → w ∈ dv b → Nat.gcd (z * w) a = z := fun {z w} hz hw => by
    have c : Nat.Coprime w a := Nat.Coprime.symm (Nat.Coprime.coprime_dvd_right ((dv_mem hb).mp hw).2 hc)
    rw [c.gcd_mul_right_cancel z]
    exact Nat.gcd_eq_left ((dv_mem ha).mp hz).2
  rw [← g hx hy, ey, e, ← ey', g hx' hy']
theorem sd_mul {a b : Nat} (ha : 1 ≤ a) (hb : 1 ≤ b) (ha2 : a ≤ 1000) (hb2 : b ≤ 1000) (hc : Nat.Coprime a b) : sd (a * b) = sd a * sd b := by
  have hab : a * b ≤ 1000 * 1000 := Nat.mul_le_mul ha2 hb2
  have p : (M a b).Perm (dv (a * b)) := (List.perm_ext_iff_of_nodup (M_nodup ha hb hc) (dv_nodup _)).mpr fun d => mem_M ha hb hc
  rw [sd_dv (Nat.mul_pos ha hb) hab, sd_dv ha (by omega), sd_dv hb (by omega), ← p.sum_nat]
  exact sum_M _ _
/-! ### the common divisor -/
def eG (a b l r : Nat) : En := [.vl (.int a), .vl (.int b), .vl (.int l), .vl (.int r)]
theorem gcd_loop (a b : Nat) : ∀ (fuel l r : Nat), r < fuel → ∃ l', whileD g__law_divisor_w1 g__law_divisor_b2 fuel (eG a b l r) = .nx (eG a b l' 0) ∧ l' = Nat.gcd l r
  | 0, _, _, h => absurd h (Nat.not_lt_zero _)
  | fuel + 1, l, r, h => by
    have w : g__law_divisor_w1 (eG a b l r) = .ok (decide ((0 : Int) < (r : Int))) (eG a b l r) := tB1_of (eOp_of (x := .int r) (y := .int 0) rfl eC_of rfl)
    unfold whileD rF
    rw [w]
    by_cases hr : r = 0
    · subst hr
      exact ⟨l, rfl, by rw [Nat.gcd_zero_right]⟩
    · have e : decide ((0 : Int) < (r : Int)) = true := decide_eq_true (by omega)
      simp only [e, if_true]
      have b2 : g__law_divisor_b2 (eG a b l r) = .nx (eG a b r (l % r)) := by
        have v : xV (eOp oMod (eCB cInt (aCons (eV 2) (aNil))) (eV 3)) (eG a b l r) = .ok (.vl (.int ((l % r : Nat) : Int))) (eG a b l r) := by
          unfold xV
          rw [eOp_of (o := oMod) (f := eCB cInt (aCons (eV 2) aNil)) (g := eV 3) (x := .int l) (y := .int r) (r1 := eG a b l r) (r2 := eG a b l r) (d := .int ((l % r : Nat) : Int)) (eCB_of (aCons_of (d := .int l) rfl aNil_of) rfl) rfl (by rw [← cast_mod]; exact oMod_of (by omega))]
          rfl
        unfold g__law_divisor_b2 sPars yCons yNil
        have v3 : xV (eV 3) (eG a b l r) = .ok (.vl (.int r)) (eG a b l r) := rfl
        simp only [v3, R.bind, v, rF]
        rfl
      rw [b2]
      obtain ⟨l', k1, k2⟩ := gcd_loop a b fuel r (l % r) (by have := Nat.mod_lt l (Nat.pos_of_ne_zero hr); omega)
      refine ⟨l', k1, ?_⟩
      rw [k2, Nat.gcd_comm r, ← Nat.gcd_rec, Nat.gcd_comm]
theorem law_gcd (a b : Nat) (h : b ≤ 1000) : f__law_divisor [.vl (.int a), .vl (.int b)] = .rt (.vl (.int (Nat.gcd a b))) none := by
  obtain ⟨l', k1, k2⟩ := gcd_loop a b fuel a b (by show b < 4096; omega)
  have ha : ¬ (a : Int) < 0 := by omega
  have hb : ¬ (b : Int) < 0 := by omega
  have hs : sPars [2, 3] (yCons (xV (eCB cAbs (aCons (eV 0) (aNil)))) (yCons (xV (eCB cAbs (aCons (eV 1) (aNil)))) (yNil))) [.vl (.int a), .vl (.int b), .no, .no] = .nx (eG a b a b) := by
    simp [eG, ha, hb, runF, sSeq, sIf, sNil, sSt, rF, tB1, tTru, truD, tNot1, tAnd1, tOr1, eOp, eUn, eIf, eNot, eAnd, eOr, eChain, eIxO, eLenO, eVF, eF, fz, Sl.has, Sl.isM, Sl.items, Sl.mut, Sl.put, R.bind, liftO, ixD, atI, ixN, eC, eV, eCB, aCons, aNil, eTup, xV, xLst, xOp, xCall, xCallI, xCallR, yNil, yCons, DL.putAll, sPars, sSet, sAsgX, sSetIx, sApp, sDrop, sRet, sRetX, sRetV, sRetN, sAug, ioOf, notIo, gN, gT, gsC, gsN, wipeD, iSeq, iRg1, iRg2, DL.inR, cmpD, oLt, oLe, oGt, oGe, oIsN, oNotN, isN, oAdd, oSub, oMul, oDiv, oMod, oPow, oNeg, oAddI, oSubI, oDivI, oModI, rIntD, mulOk, powOk, divOk, oIx, cInt, cAbs, cMax2, cMin2, cLen, cSum, cRepI, cIsi, tyD]
  rw [← k2]
  exact runF_rt rfl (Eq.trans (sSeq_of hs) (Eq.trans (sSeq_of k1) (sRet_of (r1 := eG a b l' 0) rfl))) rfl rfl
end K47
set_option maxHeartbeats 0
/-! K47: the head of law k47, by gen.py -/
namespace K47
open PySem PySem.Spec PyProof.Rows L2 DL
def d__law_dice : He.DefD := ⟨("_law_dice", none), "_law_dice", "_law_dice", defArgs (top 26), defBody (top 26), defScope (top 26), [], []⟩
def d_is_whole : He.DefD := ⟨("is_whole", none), "is_whole", "is_whole", defArgs (top 4), defBody (top 4), defScope (top 4), [], []⟩
def d_is_near : He.DefD := ⟨("is_near", none), "is_near", "is_near", defArgs (top 5), defBody (top 5), defScope (top 5), [], []⟩
def d_require_number : He.DefD := ⟨("require_number", none), "require_number", "require_number", defArgs (top 6), defBody (top 6), defScope (top 6), [], []⟩
def d_require_far : He.DefD := ⟨("require_far", none), "require_far", "require_far", defArgs (top 21), defBody (top 21), defScope (top 21), [], []⟩
def d_whole_root : He.DefD := ⟨("whole_root", none), "whole_root", "whole_root", defArgs (top 17), defBody (top 17), defScope (top 17), [], []⟩
def d_divisors_in : He.DefD := ⟨("divisors_in", none), "divisors_in", "divisors_in", defArgs (top 19), defBody (top 19), defScope (top 19), [], []⟩
def d_divisor_sum : He.DefD := ⟨("divisor_sum", none), "divisor_sum", "divisor_sum", defArgs (top 23), defBody (top 23), defScope (top 23), [], []⟩
def d_is_square_number : He.DefD := ⟨("is_square_number", none), "is_square_number", "is_square_number", defArgs (top 18), defBody (top 18), defScope (top 18), [], []⟩
def d_is_pentagon : He.DefD := ⟨("is_pentagon", none), "is_pentagon", "is_pentagon", defArgs (top 24), defBody (top 24), defScope (top 24), [], []⟩
def d__law_roll : He.DefD := ⟨("_law_roll", none), "_law_roll", "_law_roll", defArgs (top 27), defBody (top 27), defScope (top 27), [], []⟩
def d__law_pick : He.DefD := ⟨("_law_pick", none), "_law_pick", "_law_pick", defArgs (top 28), defBody (top 28), defScope (top 28), [], []⟩
def d_require_rest : He.DefD := ⟨("require_rest", none), "require_rest", "require_rest", defArgs (top 20), defBody (top 20), defScope (top 20), [], []⟩
def d_pentagon_steps : He.DefD := ⟨("pentagon_steps", none), "pentagon_steps", "pentagon_steps", defArgs (top 8), defBody (top 8), defScope (top 8), [], []⟩
def d_rests_in : He.DefD := ⟨("rests_in", none), "rests_in", "rests_in", defArgs (top 15), defBody (top 15), defScope (top 15), [], []⟩
def d_unlike_rest_in : He.DefD := ⟨("unlike_rest_in", none), "unlike_rest_in", "unlike_rest_in", defArgs (top 16), defBody (top 16), defScope (top 16), [], []⟩
def d_unlike_rest : He.DefD := ⟨("unlike_rest", none), "unlike_rest", "unlike_rest", defArgs (top 22), defBody (top 22), defScope (top 22), [], []⟩
def d__law_divisors : He.DefD := ⟨("_law_divisors", none), "_law_divisors", "_law_divisors", defArgs (top 31), defBody (top 31), defScope (top 31), [], []⟩
def d__law_divisor : He.DefD := ⟨("_law_divisor", none), "_law_divisor", "_law_divisor", defArgs (top 29), defBody (top 29), defScope (top 29), [], []⟩
def d__law_pw_pentagons : He.DefD := ⟨("_law_pw_pentagons", none), "_law_pw_pentagons", "_law_pw_pentagons", defArgs (top 30), defBody (top 30), defScope (top 30), [], []⟩
def d__law_right : He.DefD := ⟨("_law_right", none), "_law_right", "_law_right", defArgs (top 32), defBody (top 32), defScope (top 32), [], []⟩
def d_law : He.DefD := ⟨("law", none), "law", "law", defArgs (top 33), defBody (top 33), defScope (top 33), [], []⟩
def fn : List He.DefD := [d__law_dice, d_is_whole, d_is_near, d_require_number, d_require_far, d_whole_root, d_divisors_in, d_divisor_sum, d_is_square_number, d_is_pentagon, d__law_roll, d__law_pick, d_require_rest, d_pentagon_steps, d_rests_in, d_unlike_rest_in, d_unlike_rest, d__law_divisors, d__law_divisor, d__law_pw_pentagons, d__law_right, d_law]
def fa : List He.Fa := [.glo "_law_dice", .glo "is_whole", .glo "is_near", .glo "require_number", .glo "require_far", .glo "whole_root", .glo "divisors_in", .glo "divisor_sum", .glo "is_square_number", .glo "is_pentagon", .glo "_law_roll", .glo "_law_pick", .glo "require_rest", .glo "pentagon_steps", .glo "rests_in", .glo "unlike_rest_in", .glo "unlike_rest", .glo "_law_divisors", .glo "_law_divisor", .glo "_law_pw_pentagons", .glo "_law_right", .glo "law", .free "len", .free "int", .free "abs", .free "max", .free "isinstance", .free "bool", .free "range", .free "sum", .free "repr", .free "min", .int "FAR" 1000000000000000000000000000000000000000000000000000000000000, .int "MOST_FAR" 1000000, .int "PENTAGON" 24, .int "MOST_RESTS" 2000, .int "MOST_RING" 1000, .int "LEAST_RING" 2]
abbrev Row0 : PySem.W.OpenRow := PySem.W.OpenLaw.row PySem.Challenge.rw_hookwide_k47_whole_pentagons_and_divisor
abbrev hk : PySem.W.Hook := He.hookD 4 fa fn
def ob (s : PySem.W.SharedT) : He.AlD := He.obsDG 4 fa fn (HandSHeadRun.getT s)
theorem ob_eq (s : PySem.W.SharedT) : ob s = hk.obs s.abs := He.obsDG_eq (HandSHeadRun.getT_eq s)
def loose0 : List PySem.Str := ["InvalidNumber", "FAR", "is_whole", "is_near", "require_number", "pentagon_steps", "MOST_RESTS", "MOST_RING", "MOST_FAR", "LEAST_RING", "PENTAGON", "rests_in", "unlike_rest_in", "whole_root", "is_square_number", "divisors_in", "require_rest", "require_far", "unlike_rest", "divisor_sum", "is_pentagon", "_law_dice", "_law_roll", "_law_pick", "_law_divisor", "_law_pw_pentagons", "_law_divisors", "_law_right"]
abbrev loose : List PySem.Str := loose0
theorem run (w : World) : HandSHeadRun.RunEq Row0 (PySem.W.view Row0.prog [33]) hk ob 2000 loose w := by
  intro os
  kernel_rfl
theorem facts {P : Program} {w : World} {K : PySem.W.Frag} {h : Heap} {mg : Str → Option Value} {f : Addr} (X : K.In h) (N : h.Ns mainGlobals mg) (hfa : mg ("law" : Str) = some (.ref f)) (c : He.SaysD fa fn K) :
    ∃ fd : FuncData, (∀ (s : Shared) (v : Value), BindsTo s fd ⟨[v], []⟩ [("script", v)]) ∧ ∀ base : Heap, K.In base → base.Ns mainGlobals mg → FnOk P w K mg base CX0 7 f fd ["script"] (spN (G0 K) f_law) := by
  have Z : Fcts mg := ⟨He.free_ok X N (c.fact 22 rfl), He.free_ok X N (c.fact 23 rfl), He.free_ok X N (c.fact 24 rfl), He.free_ok X N (c.fact 25 rfl), He.free_ok X N (c.fact 26 rfl), He.free_ok X N (c.fact 27 rfl), He.free_ok X N (c.fact 28 rfl), He.free_ok X N (c.fact 29 rfl), He.free_ok X N (c.fact 30 rfl), He.free_ok X N (c.fact 31 rfl), He.int_ok X N (c.fact 32 rfl), He.int_ok X N (c.fact 33 rfl), He.int_ok X N (c.fact 34 rfl), He.int_ok X N (c.fact 35 rfl), He.int_ok X N (c.fact 36 rfl), He.int_ok X N (c.fact 37 rfl)⟩
  obtain ⟨fd__law_dice, D__law_dice⟩ := c.def_ 0 (d := d__law_dice) rfl
  obtain ⟨fd_is_whole, D_is_whole⟩ := c.def_ 1 (d := d_is_whole) rfl
  obtain ⟨fd_is_near, D_is_near⟩ := c.def_ 2 (d := d_is_near) rfl
  obtain ⟨fd_require_number, D_require_number⟩ := c.def_ 3 (d := d_require_number) rfl
  obtain ⟨fd_require_far, D_require_far⟩ := c.def_ 4 (d := d_require_far) rfl
  obtain ⟨fd_whole_root, D_whole_root⟩ := c.def_ 5 (d := d_whole_root) rfl
  obtain ⟨fd_divisors_in, D_divisors_in⟩ := c.def_ 6 (d := d_divisors_in) rfl
  obtain ⟨fd_divisor_sum, D_divisor_sum⟩ := c.def_ 7 (d := d_divisor_sum) rfl
  obtain ⟨fd_is_square_number, D_is_square_number⟩ := c.def_ 8 (d := d_is_square_number) rfl
  obtain ⟨fd_is_pentagon, D_is_pentagon⟩ := c.def_ 9 (d := d_is_pentagon) rfl
  obtain ⟨fd__law_roll, D__law_roll⟩ := c.def_ 10 (d := d__law_roll) rfl
  obtain ⟨fd__law_pick, D__law_pick⟩ := c.def_ 11 (d := d__law_pick) rfl
  obtain ⟨fd_require_rest, D_require_rest⟩ := c.def_ 12 (d := d_require_rest) rfl
  obtain ⟨fd_pentagon_steps, D_pentagon_steps⟩ := c.def_ 13 (d := d_pentagon_steps) rfl
  obtain ⟨fd_rests_in, D_rests_in⟩ := c.def_ 14 (d := d_rests_in) rfl
  obtain ⟨fd_unlike_rest_in, D_unlike_rest_in⟩ := c.def_ 15 (d := d_unlike_rest_in) rfl
  obtain ⟨fd_unlike_rest, D_unlike_rest⟩ := c.def_ 16 (d := d_unlike_rest) rfl
  obtain ⟨fd__law_divisors, D__law_divisors⟩ := c.def_ 17 (d := d__law_divisors) rfl
  obtain ⟨fd__law_divisor, D__law_divisor⟩ := c.def_ 18 (d := d__law_divisor) rfl
  obtain ⟨fd__law_pw_pentagons, D__law_pw_pentagons⟩ := c.def_ 19 (d := d__law_pw_pentagons) rfl
  obtain ⟨fd__law_right, D__law_right⟩ := c.def_ 20 (d := d__law_right) rfl
  obtain ⟨fd_law, D_law⟩ := c.def_ 21 (d := d_law) rfl
  have e := hfa.symm.trans (He.glo_ok X N (c.fact 21 (f := .glo "law") rfl))
  cases e
  have b := FunD.bindsA (ps := ["script"]) D_law fun _ _ _ _ _ _ us hl => match us, hl with | [_], _ => rfl
  refine ⟨fd_law, fun s v => b s [v] rfl, fun base _ _ => ?_⟩
  have C__law_dice : Cal (G0 K) false P w mg base 1 "_law_dice" ["script", "spot"] f__law_dice := Cal.of X N D__law_dice (ok__law_dice (G := G0 K) D__law_dice Z ) (c.fact 0 rfl) fun _ _ _ _ _ _ us hl => match us, hl with | [_, _], _ => rfl
  have C_is_whole : Cal (G0 K) false P w mg base 1 "is_whole" ["value"] f_is_whole := Cal.of X N D_is_whole (ok_is_whole (G := G0 K) D_is_whole Z ) (c.fact 1 rfl) fun _ _ _ _ _ _ us hl => match us, hl with | [_], _ => rfl
  have C_is_near : Cal (G0 K) false P w mg base 2 "is_near" ["value"] f_is_near := Cal.of X N D_is_near (ok_is_near (G := G0 K) D_is_near Z C_is_whole) (c.fact 2 rfl) fun _ _ _ _ _ _ us hl => match us, hl with | [_], _ => rfl
  have C_require_number : Cal (G0 K) false P w mg base 3 "require_number" ["value", "least", "most"] f_require_number := Cal.of X N D_require_number (ok_require_number (G := G0 K) D_require_number Z C_is_near) (c.fact 3 rfl) fun _ _ _ _ _ _ us hl => match us, hl with | [_, _, _], _ => rfl
  have C_require_far : Cal (G0 K) false P w mg base 4 "require_far" ["n", "least"] f_require_far := Cal.of X N D_require_far (ok_require_far (G := G0 K) D_require_far Z C_require_number) (c.fact 4 rfl) fun _ _ _ _ _ _ us hl => match us, hl with | [_, _], _ => rfl
  have C_whole_root : Cal (G0 K) false P w mg base 1 "whole_root" ["n"] f_whole_root := Cal.of X N D_whole_root (ok_whole_root (G := G0 K) D_whole_root Z ) (c.fact 5 rfl) fun _ _ _ _ _ _ us hl => match us, hl with | [_], _ => rfl
  have C_divisors_in : Cal (G0 K) false P w mg base 2 "divisors_in" ["n"] f_divisors_in := Cal.of X N D_divisors_in (ok_divisors_in (G := G0 K) D_divisors_in Z C_whole_root) (c.fact 6 rfl) fun _ _ _ _ _ _ us hl => match us, hl with | [_], _ => rfl
  have C_divisor_sum : Cal (G0 K) false P w mg base 5 "divisor_sum" ["n"] f_divisor_sum := Cal.of X N D_divisor_sum (ok_divisor_sum (G := G0 K) D_divisor_sum Z C_require_far C_divisors_in) (c.fact 7 rfl) fun _ _ _ _ _ _ us hl => match us, hl with | [_], _ => rfl
  have C_is_square_number : Cal (G0 K) false P w mg base 2 "is_square_number" ["n"] f_is_square_number := Cal.of X N D_is_square_number (ok_is_square_number (G := G0 K) D_is_square_number Z C_whole_root) (c.fact 8 rfl) fun _ _ _ _ _ _ us hl => match us, hl with | [_], _ => rfl
  have C_is_pentagon : Cal (G0 K) false P w mg base 5 "is_pentagon" ["n"] f_is_pentagon := Cal.of X N D_is_pentagon (ok_is_pentagon (G := G0 K) D_is_pentagon Z C_require_far C_is_square_number) (c.fact 9 rfl) fun _ _ _ _ _ _ us hl => match us, hl with | [_], _ => rfl
  have C__law_roll : Cal (G0 K) false P w mg base 1 "_law_roll" ["dice", "total"] f__law_roll := Cal.of X N D__law_roll (ok__law_roll (G := G0 K) D__law_roll Z ) (c.fact 10 rfl) fun _ _ _ _ _ _ us hl => match us, hl with | [_, _], _ => rfl
  have C__law_pick : Cal (G0 K) false P w mg base 2 "_law_pick" ["dice", "items"] f__law_pick := Cal.of X N D__law_pick (ok__law_pick (G := G0 K) D__law_pick Z C__law_roll) (c.fact 11 rfl) fun _ _ _ _ _ _ us hl => match us, hl with | [_, _], _ => rfl
  have C_require_rest : Cal (G0 K) false P w mg base 4 "require_rest" ["n", "q"] f_require_rest := Cal.of X N D_require_rest (ok_require_rest (G := G0 K) D_require_rest Z C_require_number) (c.fact 12 rfl) fun _ _ _ _ _ _ us hl => match us, hl with | [_, _], _ => rfl
  have C_pentagon_steps : Cal (G0 K) false P w mg base 1 "pentagon_steps" ["n"] f_pentagon_steps := Cal.of X N D_pentagon_steps (ok_pentagon_steps (G := G0 K) D_pentagon_steps Z ) (c.fact 13 rfl) fun _ _ _ _ _ _ us hl => match us, hl with | [_], _ => rfl
  have C_rests_in : Cal (G0 K) false P w mg base 2 "rests_in" ["n", "q"] f_rests_in := Cal.of X N D_rests_in (ok_rests_in (G := G0 K) D_rests_in Z C_pentagon_steps) (c.fact 14 rfl) fun _ _ _ _ _ _ us hl => match us, hl with | [_, _], _ => rfl
  have C_unlike_rest_in : Cal (G0 K) false P w mg base 3 "unlike_rest_in" ["n", "q"] f_unlike_rest_in := Cal.of X N D_unlike_rest_in (ok_unlike_rest_in (G := G0 K) D_unlike_rest_in Z C_rests_in C_pentagon_steps) (c.fact 15 rfl) fun _ _ _ _ _ _ us hl => match us, hl with | [_, _], _ => rfl
  have C_unlike_rest : Cal (G0 K) false P w mg base 5 "unlike_rest" ["n", "q"] f_unlike_rest := Cal.of X N D_unlike_rest (ok_unlike_rest (G := G0 K) D_unlike_rest Z C_require_rest C_unlike_rest_in) (c.fact 16 rfl) fun _ _ _ _ _ _ us hl => match us, hl with | [_, _], _ => rfl
  have C__law_divisors : Cal (G0 K) false P w mg base 1 "_law_divisors" ["n"] f__law_divisors := Cal.of X N D__law_divisors (ok__law_divisors (G := G0 K) D__law_divisors Z ) (c.fact 17 rfl) fun _ _ _ _ _ _ us hl => match us, hl with | [_], _ => rfl
  have C__law_divisor : Cal (G0 K) false P w mg base 1 "_law_divisor" ["one", "other"] f__law_divisor := Cal.of X N D__law_divisor (ok__law_divisor (G := G0 K) D__law_divisor Z ) (c.fact 18 rfl) fun _ _ _ _ _ _ us hl => match us, hl with | [_, _], _ => rfl
  have C__law_pw_pentagons : Cal (G0 K) false P w mg base 1 "_law_pw_pentagons" ["most"] f__law_pw_pentagons := Cal.of X N D__law_pw_pentagons (ok__law_pw_pentagons (G := G0 K) D__law_pw_pentagons Z ) (c.fact 19 rfl) fun _ _ _ _ _ _ us hl => match us, hl with | [_], _ => rfl
  have C__law_right : Cal (G0 K) false P w mg base 6 "_law_right" ["dice"] f__law_right := Cal.of X N D__law_right (ok__law_right (G := G0 K) D__law_right Z C__law_roll C__law_pick C_is_pentagon C__law_pw_pentagons C_unlike_rest C_divisor_sum C__law_divisors C__law_divisor) (c.fact 20 rfl) fun _ _ _ _ _ _ us hl => match us, hl with | [_], _ => rfl
  exact (ok_law (G := G0 K) D_law Z C__law_dice C__law_right C_divisor_sum C_is_pentagon).fn
end K47
open PySem PySem.W PySem.Calls PyProof.Rows DL
theorem K47_of (hlaw : ∀ ns : List Int, ns.length ≤ 63 → K47.f_law [.fr (ns.map .int)] = .rt (.vl (.bool true)) none) : PySem.Challenge.rw_hookwide_k47_whole_pentagons_and_divisor.Holds := by
  w_on; o_law
  refine HandSHeadRun.head_any (r := OpenLaw.row PySem.Challenge.rw_hookwide_k47_whole_pentagons_and_divisor) (q := view (OpenLaw.row PySem.Challenge.rw_hookwide_k47_whole_pentagons_and_divisor).prog [33]) (H := K47.hk) (ob := K47.ob) (M := 2000) (loose := K47.loose) (d := HandSHeadRun.topDef (OpenLaw.row PySem.Challenge.rw_hookwide_k47_whole_pentagons_and_divisor).prog 33) (kwd := []) K47.ob_eq
    (by kernel_rfl) (fun s => by kernel_rfl) K47.run (by kernel_rfl) (by kernel_rfl) (by kernel_rfl) (by rfl) (by first | assumption | decide +kernel) (by decide +kernel) ⟨rfl, rfl, rfl, rfl, rfl, by decide +kernel⟩ ?hw ?hc
  case hw => w_witness2
  case hc =>
    refine L2.walk_ofE (l := PySem.Challenge.rw_hookwide_k47_whole_pentagons_and_divisor) (n := 63) (k := 7) (x := "script") (CX := L2.CX0) rfl (by decide) (by kernel_rfl) ⟨rfl, by decide, by decide⟩ ?F (fun _ _ _ _ z => z)
    intro w mg fa h Y G hmg0
    obtain ⟨K, KX, c⟩ := Y
    have hmg : mg ("law" : PySem.Str) = some (.ref fa) := by
      have e : (HandSHeadRun.topDef (OpenLaw.row PySem.Challenge.rw_hookwide_k47_whole_pentagons_and_divisor).prog 33).name = ("law" : PySem.Str) := by kernel_rfl
      rw [← e]
      exact hmg0
    obtain ⟨fd, hb, hF⟩ := K47.facts (P := (PySem.Challenge.rw_hookwide_k47_whole_pentagons_and_divisor).prog) (w := w) KX G hmg c
    exact ⟨K, fd, spN (G0 K) K47.f_law, KX, hb, fun H a ns hl hO hS => law_sp rfl rfl hO hS (hlaw ns hl), hF⟩
set_option maxHeartbeats 400000
/-! K47m6: law k47. -/
namespace K47
open PySem L2 DL
theorem term_le (n i : Nat) : term n i ≤ i + 1 + n := by
  unfold term
  split
  · split
    · have := Nat.div_le_self n (i + 1)
      omega
    · omega
  · omega
theorem acc_le (n : Nat) : ∀ j, j ≤ 1000 → acc n j ≤ j * (1001 + n)
  | 0, _ => Nat.zero_le _
  | j + 1, h => by
    have a := acc_le n j (by omega)
    have b := term_le n j
    show acc n j + term n j ≤ _
    rw [Nat.add_mul, Nat.one_mul]
    omega
theorem sd_le (n : Nat) (h : n ≤ 1000000) : sd n < 1100000000 := by
  have r := rt_le n h
  have a := acc_le n (rt n) r
  have b : rt n * (1001 + n) ≤ 1000 * (1001 + n) := Nat.mul_le_mul_right _ r
  unfold sd
  omega
theorem rep_nat {m : Nat} (h : m < 1100000000) : cRepI [.int m] = some (.str (toString (m : Int))) := by
  show (if _ then _ else _) = _
  rw [if_pos]
  by_cases e : m = 0
  · subst e; decide
  · have := Nat.log2_lt (n := m) (k := 128) e
    simp only [Int.natAbs_natCast]
    omega
theorem in_iL (n : Nat) (l : List Nat) : oIn (.int n) (.list (iL l)) = some (.bool (l.any fun k => Nat.beq k n)) := by
  have f : (iL l).all flatD = true := by
    induction l with
    | nil => rfl
    | cons x l ih => exact ih
  have g : ((iL l).any fun z => PyData.eqv z (.int n)) = l.any fun k => Nat.beq k n := by
    clear f
    induction l with
    | nil => rfl
    | cons x l ih =>
      show (PyData.eqv (.int x) (.int n) || _) = _
      rw [List.any_cons]
      have : PyData.eqv (.int x) (.int n) = Nat.beq x n := by
        unfold PyData.eqv
        exact beq_cast x n
      rw [this]
      exact congrArg _ ih
  unfold oIn oInB
  simp only [f, g]
  rfl
theorem ev1' (k : Nat) (h2 : k ≤ 100000) {i : Nat} {r : En} (hk : r[i]? = some (.vl (.int k))) : eOp oDiv (eOp oMul (eV i) (eOp oSub (eOp oMul (eC (.int 3)) (eV i)) (eC (.int 1)))) (eC (.int 2)) r = .ok (.int (p1 k : Nat)) r := by
  by_cases h : 1 ≤ k
  · exact ev1 k h h2 hk
  · have e : k = 0 := by omega
    subst e
    have v : eV i r = .ok (.int ((0 : Nat) : Int)) r := by unfold eV; rw [hk]
    exact eOp_of (x := .int 0) (y := .int 2) (eOp_of v (y := .int (-1)) (eOp_of (x := .int 0) (y := .int 1) (eOp_of eC_of v rfl) eC_of rfl) rfl) eC_of rfl
theorem b1r (n : Nat) (h : n ≤ 999000) (h1 : isp n = true) (h2 : n ≤ 7 ∨ isp (n + 2) = false) (f0 s2 s3 s4 : Sl) : g__law_right_b1 [f0, .vl (.int n), s2, s3, s4] = .nx [f0, .vl (.int n), s2, s3, s4] := by
  have q1 := pentq n (by omega)
  have q2 := pentq (n + 2) (by omega)
  rw [h1] at q1
  have t1 : tB1 (eOp oNotB (eF (xCall f_is_pentagon (aCons (eV 1) (aNil)))) (eC (.bool true))) [f0, .vl (.int n), s2, s3, s4] = .ok false [f0, .vl (.int n), s2, s3, s4] :=
    tB1_of (eOp_of (x := .bool true) (y := .bool true) (eF_of (xCall_of (ds := [.int n]) (aCons_of rfl aNil_of) q1) rfl) eC_of rfl)
  refine Eq.trans (sIf_f (tOr1_f t1 ?_)) rfl
  by_cases h7 : n ≤ 7
  · refine tAnd1_f (tB1_of (eOp_of (x := .int n) (y := .int 7) rfl eC_of ?_))
    show some (PyData.bool (decide ((7 : Int) < (n : Int)))) = _
    rw [decide_eq_false (by omega)]
  · have h3 : isp (n + 2) = false := by rcases h2 with z | z; exact absurd z h7; exact z
    rw [h3] at q2
    refine tAnd1_t (r1 := [f0, .vl (.int n), s2, s3, s4]) (tB1_of (eOp_of (x := .int n) (y := .int 7) rfl eC_of ?_)) (tB1_of (eOp_of (x := .bool false) (y := .bool false) (eF_of (xCall_of (ds := [.int ((n + 2 : Nat) : Int)]) (aCons_of (eOp_of (x := .int n) (y := .int 2) rfl eC_of rfl) aNil_of) q2) rfl) eC_of rfl))
    show some (PyData.bool (decide ((7 : Int) < (n : Int)))) = _
    rw [decide_eq_true (by omega)]
theorem p_le (k : Nat) (h : k < 810) : p1 k ≤ 999000 ∧ p2 k ≤ 999000 := by
  have a : k * (3 * k - 1) ≤ 809 * 2427 := Nat.mul_le_mul (by omega) (by omega)
  have b : k * (3 * k + 1) ≤ 809 * 2428 := Nat.mul_le_mul (by omega) (by omega)
  unfold p1 p2
  omega
theorem right (ds : List D) (hd : IsDice ds) : ∃ ds', f__law_right [.io ds] = .rt (.vl (.bool true)) (some ds') ∧ IsDice ds' := by
  obtain ⟨x1, d1, w1, m1, k1⟩ := pick_list (es := [.int 60, .int 1000]) hd (by decide) (by decide)
  have hx1 : ∃ t : Int, x1 = .int t ∧ 0 < t ∧ t ≤ 1000 := by
    simp only [List.mem_cons, List.not_mem_nil, or_false] at m1
    rcases m1 with e | e <;> exact ⟨_, e, by decide, by decide⟩
  obtain ⟨t1, rfl, t1a, t1b⟩ := hx1
  obtain ⟨n1, d2, w2, n1a, n1b, k2⟩ := roll_some (n := t1) k1 t1a (by omega)
  obtain ⟨kk, d3, w3, ka, kb, k3⟩ := roll_some (n := 810) k2 (by decide) (by decide)
  obtain ⟨x4, d4, w4, m4, k4⟩ := pick_list (es := [.int 60, .int 1000000]) k3 (by decide) (by decide)
  have hx4 : ∃ t : Int, x4 = .int t ∧ 0 < t ∧ t ≤ 1000000 := by
    simp only [List.mem_cons, List.not_mem_nil, or_false] at m4
    rcases m4 with e | e <;> exact ⟨_, e, by decide, by decide⟩
  obtain ⟨t4, rfl, t4a, t4b⟩ := hx4
  obtain ⟨n5, d5, w5, n5a, n5b, k5⟩ := roll_some (n := t4) k4 t4a (by omega)
  obtain ⟨n6, d6, w6, n6a, n6b, k6⟩ := roll_some (n := 1000) k5 (by decide) (by decide)
  obtain ⟨n7, d7, w7, n7a, n7b, k7⟩ := roll_some (n := 1000) k6 (by decide) (by decide)
  obtain ⟨a, rfl⟩ : ∃ a : Nat, n1 = a := ⟨n1.toNat, by omega⟩
  obtain ⟨k, rfl⟩ : ∃ k : Nat, kk = k := ⟨kk.toNat, by omega⟩
  obtain ⟨n, en⟩ : ∃ n : Nat, 1 + n5 = n := ⟨(1 + n5).toNat, by omega⟩
  obtain ⟨u, eu⟩ : ∃ u : Nat, 1 + n6 = u := ⟨(1 + n6).toNat, by omega⟩
  obtain ⟨v, ev⟩ : ∃ v : Nat, 1 + n7 = v := ⟨(1 + n7).toNat, by omega⟩
  refine ⟨d7, ?_, k7⟩
  have c1 := chk1_of a (by omega)
  obtain ⟨c2, c3⟩ := chk2_all k (by omega)
  obtain ⟨c4, c5⟩ := pK_of c2
  obtain ⟨c6, c7⟩ := pK_of c3
  obtain ⟨pl1, pl2⟩ := p_le k (by omega)
  have s1 : sSet (eF (xCallI 0 f__law_roll (aCons (eF (xCallI 0 f__law_pick (aCons (eF (xLst (aCons (eC (.int 60)) (aCons (eC (.int 1000)) (aNil))))) (aNil)))) (aNil)))) 1 [.io ds, .no, .no, .no, .no] = .nx [.io d2, .vl (.int a), .no, .no, .no] :=
    sSet_of (eF_of (xCallI_of (i := 0) (r := [.io ds, .no, .no, .no, .no]) (r1 := [.io d1, .no, .no, .no, .no]) (ds := [.int t1]) (s0 := .io d1) (xs := d1) rfl (aCons_of (eF_of (xCallI_of (i := 0) (r := [.io ds, .no, .no, .no, .no]) (r1 := [.io ds, .no, .no, .no, .no]) (ds := [.list [.int 60, .int 1000]]) (s0 := .io ds) (xs := ds) rfl (aCons_of (eF_of (xLst_of (aCons_of eC_of (aCons_of eC_of aNil_of)) (by decide)) rfl) aNil_of) rfl rfl w1) rfl) aNil_of) rfl rfl w2) rfl)
  have q1 := pentq a (by omega)
  have s2 : sIf (tB1 (eOp oNe (eCB cRepI (aCons (eF (xCall f_is_pentagon (aCons (eV 1) (aNil)))) (aNil))) (eCB cRepI (aCons (eOp oIn (eV 1) (eF (xCall f__law_pw_pentagons (aCons (eV 1) (aNil))))) (aNil))))) (sRet (eC (.bool false))) (sNil) [.io d2, .vl (.int a), .no, .no, .no] = .nx [.io d2, .vl (.int a), .no, .no, .no] := by
    have e : cRepI [.bool (isp a)] = some (.str (if isp a then "True" else "False")) := rfl
    exact Eq.trans (sIf_f (tB1_of (eOp_of (eCB_of (aCons_of (eF_of (xCall_of (ds := [.int a]) (aCons_of rfl aNil_of) q1) rfl) aNil_of) e) (eCB_of (aCons_of (eOp_of (x := .int a) rfl (eF_of (xCall_of (ds := [.int a]) (aCons_of rfl aNil_of) (pents a (by omega))) rfl) (by rw [in_iL, ← c1])) aNil_of) e) (by rw [oNe_str, beq_self_eq_true]; rfl)))) rfl
  have s3 : sIf (tAnd1 (tB1 (eOp oLt (eV 1) (eC (.int 200)))) (tB1 (eOp oNe (eF (xCall f_unlike_rest (aCons (eV 1) (aCons (eC (.int 2)) (aNil))))) (eCB cInt (aCons (eF (xCall f_is_pentagon (aCons (eV 1) (aNil)))) (aNil)))))) (sRet (eC (.bool false))) (sNil) [.io d2, .vl (.int a), .no, .no, .no] = .nx [.io d2, .vl (.int a), .no, .no, .no] := by
    refine Eq.trans (sIf_f (r1 := [.io d2, .vl (.int a), .no, .no, .no]) ?_) rfl
    by_cases h : a < 200
    · have e : cInt [.bool (isp a)] = some (.int (if isp a = true then 1 else 0)) := rfl
      refine tAnd1_t (r1 := [.io d2, .vl (.int a), .no, .no, .no]) (tB1_of (eOp_of (x := .int a) (y := .int 200) rfl eC_of ?_)) (tB1_of (eOp_of (eF_of (xCall_of (ds := [.int a, .int 2]) (aCons_of rfl (aCons_of eC_of aNil_of)) (unlike a h)) rfl) (eCB_of (aCons_of (eF_of (xCall_of (ds := [.int a]) (aCons_of rfl aNil_of) q1) rfl) aNil_of) e) (by rw [oNe_int, beq_self_eq_true]; rfl)))
      show some (PyData.bool (decide ((a : Int) < 200))) = _
      rw [decide_eq_true (by omega)]
    · refine tAnd1_f (tB1_of (eOp_of (x := .int a) (y := .int 200) rfl eC_of ?_))
      show some (PyData.bool (decide ((a : Int) < 200))) = _
      rw [decide_eq_false (by omega)]
  have s4 : sSet (eF (xCallI 0 f__law_roll (aCons (eC (.int 810)) (aNil)))) 2 [.io d2, .vl (.int a), .no, .no, .no] = .nx [.io d3, .vl (.int a), .vl (.int k), .no, .no] :=
    sSet_of (eF_of (xCallI_of (i := 0) (r := [.io d2, .vl (.int a), .no, .no, .no]) (r1 := [.io d2, .vl (.int a), .no, .no, .no]) (ds := [.int 810]) (s0 := .io d2) (xs := d2) rfl (aCons_of eC_of aNil_of) rfl rfl w3) rfl)
  have s5 : sFor (iSeq (eTup (aCons (eOp oDiv (eOp oMul (eV 2) (eOp oSub (eOp oMul (eC (.int 3)) (eV 2)) (eC (.int 1)))) (eC (.int 2))) (aCons (eOp oDiv (eOp oMul (eV 2) (eOp oAdd (eOp oMul (eC (.int 3)) (eV 2)) (eC (.int 1)))) (eC (.int 2))) (aNil))))) (gN 1) (g__law_right_b1) [.io d3, .vl (.int a), .vl (.int k), .no, .no] = .nx [.io d3, .vl (.int (p2 k : Nat)), .vl (.int k), .no, .no] :=
    Eq.trans (sFor_of (iSeq_of (eTup_of (aCons_of (ev1' k (by omega) rfl) (aCons_of (ev2 k (by omega) rfl) aNil_of)) (by simp)))) (forD_two rfl (b1r (p1 k) pl1 c4 c5 (.io d3) (.vl (.int k)) .no .no) rfl (b1r (p2 k) pl2 c6 c7 (.io d3) (.vl (.int k)) .no .no))
  have s6 : sSet (eOp oAdd (eC (.int 1)) (eF (xCallI 0 f__law_roll (aCons (eF (xCallI 0 f__law_pick (aCons (eF (xLst (aCons (eC (.int 60)) (aCons (eC (.int 1000000)) (aNil))))) (aNil)))) (aNil))))) 1 [.io d3, .vl (.int (p2 k : Nat)), .vl (.int k), .no, .no] = .nx [.io d5, .vl (.int n), .vl (.int k), .no, .no] := by
    rw [← en]
    exact sSet_of (eOp_of eC_of (eF_of (xCallI_of (i := 0) (r := [.io d3, .vl (.int (p2 k : Nat)), .vl (.int k), .no, .no]) (r1 := [.io d4, .vl (.int (p2 k : Nat)), .vl (.int k), .no, .no]) (ds := [.int t4]) (s0 := .io d4) (xs := d4) rfl (aCons_of (eF_of (xCallI_of (i := 0) (r := [.io d3, .vl (.int (p2 k : Nat)), .vl (.int k), .no, .no]) (r1 := [.io d3, .vl (.int (p2 k : Nat)), .vl (.int k), .no, .no]) (ds := [.list [.int 60, .int 1000000]]) (s0 := .io d3) (xs := d3) rfl (aCons_of (eF_of (xLst_of (aCons_of eC_of (aCons_of eC_of aNil_of)) (by decide)) rfl) aNil_of) rfl rfl w4) rfl) aNil_of) rfl rfl w5) rfl) rfl)
  have hn1 : 1 ≤ n := by omega
  have hn2 : n ≤ 1000000 := by omega
  have s7 : sIf (tB1 (eOp oNe (eCB cRepI (aCons (eF (xCall f_divisor_sum (aCons (eV 1) (aNil)))) (aNil))) (eCB cRepI (aCons (eF (xCall f__law_divisors (aCons (eV 1) (aNil)))) (aNil))))) (sRet (eC (.bool false))) (sNil) [.io d5, .vl (.int n), .vl (.int k), .no, .no] = .nx [.io d5, .vl (.int n), .vl (.int k), .no, .no] :=
    Eq.trans (sIf_f (tB1_of (eOp_of (eCB_of (aCons_of (eF_of (xCall_of (ds := [.int n]) (aCons_of rfl aNil_of) (div_sum n hn1 hn2)) rfl) aNil_of) (rep_nat (sd_le n hn2))) (eCB_of (aCons_of (eF_of (xCall_of (ds := [.int n]) (aCons_of rfl aNil_of) (law_divs n hn1 hn2)) rfl) aNil_of) (rep_nat (sd_le n hn2))) (by rw [oNe_str, beq_self_eq_true]; rfl)))) rfl
  have s8 : sPars [3, 4] (yCons (xV (eOp oAdd (eC (.int 1)) (eF (xCallI 0 f__law_roll (aCons (eC (.int 1000)) (aNil)))))) (yCons (xV (eOp oAdd (eC (.int 1)) (eF (xCallI 0 f__law_roll (aCons (eC (.int 1000)) (aNil)))))) (yNil))) [.io d5, .vl (.int n), .vl (.int k), .no, .no] = .nx [.io d7, .vl (.int n), .vl (.int k), .vl (.int u), .vl (.int v)] := by
    rw [← eu, ← ev]
    exact sPars_of (yCons_of (xV_of (eOp_of eC_of (eF_of (xCallI_of (i := 0) (r := [.io d5, .vl (.int n), .vl (.int k), .no, .no]) (r1 := [.io d5, .vl (.int n), .vl (.int k), .no, .no]) (ds := [.int 1000]) (s0 := .io d5) (xs := d5) rfl (aCons_of eC_of aNil_of) rfl rfl w6) rfl) rfl)) (yCons_of (xV_of (eOp_of eC_of (eF_of (xCallI_of (i := 0) (r := [.io d6, .vl (.int n), .vl (.int k), .no, .no]) (r1 := [.io d6, .vl (.int n), .vl (.int k), .no, .no]) (ds := [.int 1000]) (s0 := .io d6) (xs := d6) rfl (aCons_of eC_of aNil_of) rfl rfl w7) rfl) rfl)) yNil_of)) rfl
  have hu1 : 1 ≤ u := by omega
  have hu2 : u ≤ 1000 := by omega
  have hv1 : 1 ≤ v := by omega
  have hv2 : v ≤ 1000 := by omega
  have huv : u * v ≤ 1000 * 1000 := Nat.mul_le_mul hu2 hv2
  generalize hr : ([.io d7, .vl (.int n), .vl (.int k), .vl (.int u), .vl (.int v)] : En) = rr at s8
  have s9 : sRet (eOr (eOp oGt (eF (xCall f__law_divisor (aCons (eV 3) (aCons (eV 4) (aNil))))) (eC (.int 1))) (eOp oEq (eF (xCall f_divisor_sum (aCons (eOp oMul (eV 3) (eV 4)) (aNil)))) (eOp oMul (eF (xCall f_divisor_sum (aCons (eV 3) (aNil)))) (eF (xCall f_divisor_sum (aCons (eV 4) (aNil))))))) rr = .rt (.vl (.bool true)) rr := by
    have v3 : eV 3 rr = .ok (.int u) rr := by rw [← hr]; rfl
    have v4 : eV 4 rr = .ok (.int v) rr := by rw [← hr]; rfl
    refine sRet_of ?_
    have g : eOp oGt (eF (xCall f__law_divisor (aCons (eV 3) (aCons (eV 4) (aNil))))) (eC (.int 1)) rr = .ok (.bool (decide ((1 : Int) < (Nat.gcd u v : Nat)))) rr :=
      eOp_of (eF_of (xCall_of (ds := [.int u, .int v]) (aCons_of v3 (aCons_of v4 aNil_of)) (law_gcd u v hv2)) rfl) eC_of rfl
    by_cases hg : 1 < Nat.gcd u v
    · rw [decide_eq_true (by omega)] at g
      exact eOr_t g
    · rw [decide_eq_false (by omega)] at g
      have hc : Nat.Coprime u v := by
        have := Nat.gcd_pos_of_pos_left v hu1
        show Nat.gcd u v = 1
        omega
      have em : (u : Int) * (v : Int) = ((u * v : Nat) : Int) := (Int.natCast_mul u v).symm
      refine eOr_f g (eOp_of (x := .int (sd (u * v) : Nat)) (y := .int ((sd u : Int) * (sd v : Int))) (eF_of (xCall_of (ds := [.int ((u * v : Nat) : Int)]) (aCons_of (eOp_of v3 v4 (by rw [← em]; exact oMul_of (mulOk_l (by omega) _))) aNil_of) (div_sum (u * v) (Nat.mul_pos hu1 hv1) huv)) rfl) (eOp_of (eF_of (xCall_of (ds := [.int u]) (aCons_of v3 aNil_of) (div_sum u hu1 (by omega))) rfl) (eF_of (xCall_of (ds := [.int v]) (aCons_of v4 aNil_of) (div_sum v hv1 (by omega))) rfl) (oMul_of (mulOk_l (by have := sd_le u (by omega); omega) _))) ?_)
      rw [oEq_int, sd_mul hu1 hv1 hu2 hv2 hc, Int.natCast_mul, beq_self_eq_true]
  have all : F__law_right [.io ds, .no, .no, .no, .no] = .rt (.vl (.bool true)) rr := Eq.trans (sSeq_of s1) (Eq.trans (sSeq_of s2) (Eq.trans (sSeq_of s3) (Eq.trans (sSeq_of s4) (Eq.trans (sSeq_of s5) (Eq.trans (sSeq_of s6) (Eq.trans (sSeq_of s7) (Eq.trans (sSeq_of s8) s9)))))))
  exact runF_rt rfl all rfl (by rw [← hr]; rfl)
end K47
set_option maxHeartbeats 400000
/-! K47m7: law k47, at every script. -/
namespace K47
open PySem L2 DL
theorem b1 (f0 s1 s3 s4 : Sl) (ds : List D) (hd : IsDice ds) : ∃ ds', g_law_b1 [f0, s1, .ow ds, s3, s4] = .nx [f0, s1, .ow ds', s3, s4] ∧ IsDice ds' := by
  obtain ⟨ds', h, k⟩ := right ds hd
  exact ⟨ds', Eq.trans (sIf_f (tNot1_of (k := true) (tTru_of (eF_of (xCallI_of (i := 2) (r := [f0, s1, .ow ds, s3, s4]) (r1 := [f0, s1, .ow ds, s3, s4]) (ds := []) (s0 := .ow ds) (xs := ds) rfl rfl rfl rfl h) rfl)))) rfl, k⟩
theorem b2 (ns : List Int) (k : Nat) (s2 s3 : Sl) (h3 : ∀ ds, s3 ≠ .io ds) : ∃ s2' s3', (∀ ds, s2' ≠ .io ds) ∧ (∀ ds, s3' ≠ .io ds) ∧ g_law_b2 [.fr (ns.map .int), .vl (.int k), s2, s3, .no] = .nx [.fr (ns.map .int), .vl (.int k), s2', s3', .no] := by
  obtain ⟨ds, h1, hd⟩ := dice_some (ns := ns) (k := k)
  obtain ⟨r', k1, ds', s3', k2, k3, k4⟩ := forD_range (t := gN 3) (f := g_law_b1) (lo := 0) (n := 4) (fun i r => ∃ ds s3, IsDice ds ∧ (∀ ds, s3 ≠ Sl.io ds) ∧ r = [.fr (ns.map .int), .vl (.int k), .ow ds, s3, .no])
    (fun i r hi ⟨ds, s3, hd, h3, e⟩ => by
      subst e
      obtain ⟨ds', a1, a2⟩ := b1 (.fr (ns.map .int)) (.vl (.int k)) (.vl (.int (0 + (i : Int)))) .no ds hd
      exact ⟨_, _, rfl, a1, ds', _, a2, by intro ds; simp, rfl⟩) (r := [.fr (ns.map .int), .vl (.int k), .ow ds, s3, .no]) ⟨ds, s3, hd, h3, rfl⟩
  subst k4
  refine ⟨.ow ds', s3', by intro ds; simp, k3, ?_⟩
  exact Eq.trans (sSeq_of (sAsgX_of (xCallR_of (i := 0) (r := [.fr (ns.map .int), .vl (.int k), s2, s3, .no]) (r1 := [.fr (ns.map .int), .vl (.int k), s2, s3, .no]) (ds := [.int k]) rfl rfl h1))) (Eq.trans (sFor_of (iRg1_of (j := 4) (m := 4) (r1 := [.fr (ns.map .int), .vl (.int k), .ow ds, s3, .no]) rfl (by decide) (by decide) (by decide))) k1)
theorem rt_bsF (n : Nat) : rt n = bsF n 30 0 (n + 1) := (bsF_eq n 30 0 (n + 1)).symm
theorem d12 : f_divisor_sum [.vl (.int 12)] = .rt (.vl (.int 28)) none := by
  have := div_sum 12 (by omega) (by omega)
  rwa [show sd 12 = 28 from by unfold sd; rw [rt_bsF]; decide +kernel] at this
theorem d1 : f_divisor_sum [.vl (.int 1)] = .rt (.vl (.int 1)) none := by
  have := div_sum 1 (by omega) (by omega)
  rwa [show sd 1 = 1 from by unfold sd; rw [rt_bsF]; decide +kernel] at this
theorem dM : f_divisor_sum [.vl (.int 1000000)] = .rt (.vl (.int 2480437)) none := by
  have := div_sum 1000000 (by omega) (by omega)
  rwa [show sd 1000000 = 2480437 from by unfold sd; rw [rt_bsF]; decide +kernel] at this
theorem p7 : f_is_pentagon [.vl (.int 7)] = .rt (.vl (.bool true)) none := by
  have := pentq 7 (by omega)
  rwa [show isp 7 = true from by rw [← ispF_eq]; decide +kernel] at this
theorem p8 : f_is_pentagon [.vl (.int 8)] = .rt (.vl (.bool false)) none := by
  have := pentq 8 (by omega)
  rwa [show isp 8 = false from by rw [← ispF_eq]; decide +kernel] at this
theorem p0 : f_is_pentagon [.vl (.int 0)] = .rt (.vl (.bool true)) none := by
  have := pentq 0 (by omega)
  rwa [show isp 0 = true from by rw [← ispF_eq]; decide +kernel] at this
theorem cl {n : Int} {v : D} {g : En → Rf} {r : En} (h : g [.vl (.int n)] = .rt (.vl v) none) : eF (xCall g (aCons (eC (.int n)) (aNil))) r = .ok v r := eF_of (xCall_of (aCons_of eC_of aNil_of) h) rfl
theorem q1 (ns : List Int) : ∃ m : Nat, iRg1 (eCB cMax2 (aCons (eC (.int 1)) (aCons (eCB cMin2 (aCons (eC (.int 5)) (aCons (eLenO 0) (aNil)))) (aNil)))) [.fr (ns.map .int), .no, .no, .no, .no] = .ok (rngD 1 0 m) [.fr (ns.map .int), .no, .no, .no, .no] := by
  have hl : eLenO 0 [.fr (ns.map .int), .no, .no, .no, .no] = .ok (.int (ns.length : Int)) [.fr (ns.map .int), .no, .no, .no, .no] := by
    simp [eLenO, Sl.items]
  generalize hL : (ns.length : Int) = L at hl
  have e1 : cMin2 [.int 5, .int L] = some (.int (if L < 5 then L else 5)) := rfl
  generalize hM : (if L < 5 then L else 5) = M at e1
  have e2 : cMax2 [.int 1, .int M] = some (.int (if M > 1 then M else 1)) := rfl
  generalize hN : (if M > 1 then M else 1) = N at e2
  have b : 1 ≤ N ∧ N ≤ 5 := by
    subst hN hM
    repeat' split
    all_goals omega
  exact ⟨N.toNat, iRg1_of (eCB_of (aCons_of eC_of (aCons_of (eCB_of (aCons_of eC_of (aCons_of hl aNil_of)) e1) aNil_of)) e2) (by omega) (by omega) rfl⟩
abbrev six : List D := [.int 28, .int 1, .bool true, .bool false, .bool true, .int 2480437]
theorem q2 (f0 s1 s2 s3 : Sl) : sAsgX (xLst (aCons (eF (xCall f_divisor_sum (aCons (eC (.int 12)) (aNil)))) (aCons (eF (xCall f_divisor_sum (aCons (eC (.int 1)) (aNil)))) (aCons (eF (xCall f_is_pentagon (aCons (eC (.int 7)) (aNil)))) (aCons (eF (xCall f_is_pentagon (aCons (eC (.int 8)) (aNil)))) (aCons (eF (xCall f_is_pentagon (aCons (eC (.int 0)) (aNil)))) (aCons (eF (xCall f_divisor_sum (aCons (eC (.int 1000000)) (aNil)))) (aNil)))))))) 4 [f0, s1, s2, s3, .no] = .nx [f0, s1, s2, s3, .ow six] :=
  Eq.trans (sAsgX_of (xLst_of (aCons_of (cl d12) (aCons_of (cl d1) (aCons_of (cl p7) (aCons_of (cl p8) (aCons_of (cl p0) (aCons_of (cl dM) aNil_of)))))) (by decide))) rfl
theorem eqs : oEq (.list six) (.list six) = some (.bool true) := oEq_of (by decide +kernel)
theorem q4 (f0 s1 s2 s3 : Sl) : sRet (eOp oEq (eVF 4) (eF (xLst (aCons (eC (.int 28)) (aCons (eC (.int 1)) (aCons (eC (.bool true)) (aCons (eC (.bool false)) (aCons (eC (.bool true)) (aCons (eC (.int 2480437)) (aNil)))))))))) [f0, s1, s2, s3, .ow six] = .rt (.vl (.bool true)) [f0, s1, s2, s3, .vl (.list six)] :=
  sRet_of (eOp_of (eVF_ow (ds := six) rfl) (eF_of (xLst_of (aCons_of eC_of (aCons_of eC_of (aCons_of eC_of (aCons_of eC_of (aCons_of eC_of (aCons_of eC_of aNil_of)))))) (by decide)) rfl) eqs)
theorem q0 (ns : List Int) (m : Nat) : ∃ s1 s2 s3, (∀ ds, s1 ≠ Sl.io ds) ∧ (∀ ds, s2 ≠ Sl.io ds) ∧ (∀ ds, s3 ≠ Sl.io ds) ∧ forD (gN 1) g_law_b2 (rngD 1 0 m) [.fr (ns.map .int), .no, .no, .no, .no] = .nx [.fr (ns.map .int), s1, s2, s3, .no] := by
  obtain ⟨r', k1, s1, s2, s3, k2, k3, k4, k5⟩ := forD_range (t := gN 1) (f := g_law_b2) (lo := 0) (n := m) (fun i r => ∃ s1 s2 s3, (∀ ds, s1 ≠ Sl.io ds) ∧ (∀ ds, s2 ≠ Sl.io ds) ∧ (∀ ds, s3 ≠ Sl.io ds) ∧ r = [.fr (ns.map .int), s1, s2, s3, .no])
    (fun i r hi ⟨s1, s2, s3, h1, h2, h3, e⟩ => by
      subst e
      obtain ⟨s2', s3', a1, a2, a3⟩ := b2 ns i s2 s3 h3
      refine ⟨[.fr (ns.map .int), .vl (.int i), s2, s3, .no], _, ?_, a3, _, _, _, by intro ds; simp, a1, a2, rfl⟩
      simp [gN]) (r := [.fr (ns.map .int), .no, .no, .no, .no]) ⟨.no, .no, .no, by intro ds; simp, by intro ds; simp, by intro ds; simp, rfl⟩
  subst k5
  exact ⟨s1, s2, s3, k2, k3, k4, k1⟩
theorem noio (s1 s2 s3 : Sl) (k2 : ∀ ds, s1 ≠ Sl.io ds) (k3 : ∀ ds, s2 ≠ Sl.io ds) (k4 : ∀ ds, s3 ≠ Sl.io ds) (xs ys : List D) : ioOf [.fr xs, s1, s2, s3, .vl (.list ys)] = none := by
  cases s1 <;> cases s2 <;> cases s3 <;> first | rfl | exact absurd rfl (k2 _) | exact absurd rfl (k3 _) | exact absurd rfl (k4 _)
theorem law (ns : List Int) (hn : ns.length ≤ 63) : f_law [.fr (ns.map .int)] = .rt (.vl (.bool true)) none := by
  obtain ⟨m, e1⟩ := q1 ns
  obtain ⟨s1, s2, s3, k2, k3, k4, k1⟩ := q0 ns m
  exact runF_rt rfl (Eq.trans (sSeq_of (Eq.trans (sFor_of e1) k1)) (Eq.trans (sSeq_of (q2 _ s1 s2 s3)) (q4 _ s1 s2 s3))) rfl (noio s1 s2 s3 k2 k3 k4 _ _)
end K47
theorem PySem.Challenge.cw_hookwide_k47_whole_pentagons_and_divisor_holds : PySem.Challenge.rw_hookwide_k47_whole_pentagons_and_divisor.Holds :=
  K47_of K47.law
