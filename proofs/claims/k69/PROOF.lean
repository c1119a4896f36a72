import PyProof.Rows.All
import Wide.All
import OpenK.AllK
import Wide.FinOn
import HandS.ForMost
import HandS.ForExc
import HandS.Deep
import HandS.TupAny
import HandS.TupLe
import HandS.TupMul
import HandS.Conv
import HandS.Zip
import HandS.Rev
import HandS.Strs
import HandS.Style
import HandS.Wide
import HandS.WideMore
import HandS.Flow
import HandS.Head0
import HandS.Head1
import HandS.Head2
import HandS.Defaults
import HandS.HeadEnd
import HandS.HeadHook1
import HandS.HeadHook2
import HandS.Small
import HandS.StrMore
import HandS.StrSplit
import KE.SortData
import HandS.Dict
import HandS.TupLen
import HandS.WordsDict
import HandS.IsInst
import HandS.SetFor
import KE.GoesRev
import KE.DataMinMax
import KE.GoesMore
import HandS.Flt
import HandS.ExcOwn
import HandS.ExcIs
import HandS.HotCalls
import HandS.RaiseMore
import HandS.ExcInit
import HandS.ExcField
import HandS.TryOnly
import HandS.More
import HandS.HeadHook3
import HandS.Text
import PyProof.FactsAll.set_1
import HandS.TupSets
import PyProof.IsiTupleOf
import PySem.Challenge.RW_tienumbers_k69_whole_hubs_and_kinds
set_option Elab.async false
set_option linter.all false
set_option maxRecDepth 100000
set_option maxHeartbeats 4000000
set_option autoImplicit false
section
namespace TN
open PySem PySem.Spec PyProof.Rows L2
abbrev D := PyData
def keyD : Key → D
  | .inl i => .int i
  | .inr s => .str s
def tkD (ks : List Key) : D := .tuple (ks.map keyD)
/-! a caught exception, as data: its class's name, its fields -/
def exHO (a : Addr) (oe : Obj) : HO := .ext fun h => h.get? a = some oe
/-- what an exception's class must say, so that its instances are asked rightly -/
def exC (K : PySem.W.Frag) (C : Addr) : Bool := decide (PySem.W.findIn K (.ref C) "__getattribute__" = some (some (.builtin "BaseException.__getattribute__"))) && (decide (PySem.W.findIn K (.ref C) "__getattr__" = some none) && (decide (PySem.W.subIn K (.ref C) (.type "BaseException") = some true) &&
  (PySem.W.hasDictIn K C && (decide (PySem.W.findIn K (.ref C) "__class__" = some (some (.builtin "object.__class__"))) && (decide (PySem.W.specialIn K (.builtin "object.__class__") "__get__" = some (some (.builtin "getset_descriptor.__get__"))) &&
  (decide (PySem.W.takesIn K (.builtin "object.__class__") = some true) && decide (PySem.W.mroIn K C (.type "object") = some true)))))))
def exTy : List String := ["bool", "int", "str", "list", "tuple"]
def exT (K : PySem.W.Frag) (C : Addr) : Bool := exTy.all fun T => decide (PySem.W.kitOne K (.ref C) (.type T) = some false)
def ExO (K : PySem.W.Frag) (cls : Str) (d : Option Addr) (oe : Obj) : Prop := oe.cls = .ref (He.ga K cls) ∧ oe.dict = d ∧ (∃ vs, oe.data = .fields vs) ∧ exC K (He.ga K cls) = true ∧ exT K (He.ga K cls) = true
def exD (cls : Str) (ds : List (Str × D)) : D := .dict ((.bool true, .str cls) :: ds.map fun p => (.str p.1, p.2))
def isE : List (D × D) → Bool
  | (.bool true, _) :: _ => true
  | _ => false
mutual
inductive Fz (K : PySem.W.Frag) (G : Hp) : V → D → Prop
  | non : Fz K G .non .none
  | bl (b : Bool) : Fz K G (.bl b) (.bool b)
  | int (i : Int) : Fz K G (.int i) (.int i)
  | str (x : Str) : Fz K G (.str x) (.str x)
  | lst {a : Addr} {xs : List V} {ds : List D} : Rd G a (.lst xs) → FzA K G xs ds → Fz K G (.ref a) (.list ds)
  | tup {a : Addr} {xs : List V} {ds : List D} : G a = some (.tup xs) → FzA K G xs ds → Fz K G (.ref a) (.tuple ds)
  | dK {a : Addr} {kvs : List (Key × V)} {es : List (D × D)} : G a = some (.dK kvs) → FzK K G kvs es → Fz K G (.ref a) (.dict es)
  | dT {a : Addr} {kvs : List (List Key × V)} {es : List (D × D)} : G a = some (.dT kvs) → FzT K G kvs es → Fz K G (.ref a) (.dict ((.none, .none) :: es))
  | ex {a : Addr} {oe : Obj} {cls : Str} {d : Option Addr} {fs : List (Str × V)} {ds : List (Str × D)} : G a = some (exHO a oe) → ExO K cls d oe → (∀ dd, d = some dd → G dd = some (.xd fs)) → (d = none → ds = []) → FzN K G fs ds → Fz K G (.ref a) (exD cls ds)
inductive FzA (K : PySem.W.Frag) (G : Hp) : List V → List D → Prop
  | nil : FzA K G [] []
  | cons {v : V} {vs : List V} {d : D} {ds : List D} : Fz K G v d → FzA K G vs ds → FzA K G (v :: vs) (d :: ds)
inductive FzK (K : PySem.W.Frag) (G : Hp) : List (Key × V) → List (D × D) → Prop
  | nil : FzK K G [] []
  | cons {k : Key} {v : V} {vs : List (Key × V)} {d : D} {ds : List (D × D)} : Fz K G v d → FzK K G vs ds → FzK K G ((k, v) :: vs) ((keyD k, d) :: ds)
inductive FzT (K : PySem.W.Frag) (G : Hp) : List (List Key × V) → List (D × D) → Prop
  | nil : FzT K G [] []
  | cons {k : List Key} {v : V} {vs : List (List Key × V)} {d : D} {ds : List (D × D)} : Fz K G v d → FzT K G vs ds → FzT K G ((k, v) :: vs) ((tkD k, d) :: ds)
/-- the fields of an exception, in its own dict -/
inductive FzN (K : PySem.W.Frag) (G : Hp) : List (Str × V) → List (Str × D) → Prop
  | nil : FzN K G [] []
  | cons {f : Str} {v : V} {d : D} {vs : List (Str × V)} {ds : List (Str × D)} : Fz K G v d → FzN K G vs ds → FzN K G ((f, v) :: vs) ((f, d) :: ds)
end
theorem Same.rd {H H' : Hp} {a : Addr} {o : HO} (e : Same H H') (h : Rd H a o) : Rd H' a o := by
  rcases h with h | ⟨u, h⟩
  · exact .inl (e _ _ h)
  · exact .inr ⟨u, e _ _ h⟩
section
variable {K : PySem.W.Frag} {G G' : Hp}
theorem Fz.mono (s : Same G G') : ∀ {v : V} {d : D}, Fz K G v d → Fz K G' v d := fun h =>
  Fz.rec (motive_1 := fun v d _ => Fz K G' v d) (motive_2 := fun v d _ => FzA K G' v d) (motive_3 := fun v d _ => FzK K G' v d) (motive_4 := fun v d _ => FzT K G' v d) (motive_5 := fun v d _ => FzN K G' v d)
    .non .bl .int .str (fun h _ i => .lst (Same.rd s h) i) (fun h _ i => .tup (s _ _ h) i) (fun h _ i => .dK (s _ _ h) i) (fun h _ i => .dT (s _ _ h) i) (fun h o hd hn _ i => .ex (s _ _ h) o (fun dd e => s _ _ (hd dd e)) hn i)
    .nil (fun _ _ a b => .cons a b) .nil (fun _ _ a b => .cons a b) .nil (fun _ _ a b => .cons a b) .nil (fun _ _ a b => .cons a b) h
end
/-! ### lists of data -/
section
variable {K : PySem.W.Frag} {G G' H H' : Hp}
theorem FzA.mono (s : Same G G') : ∀ {vs : List V} {ds : List D}, FzA K G vs ds → FzA K G' vs ds
  | _, _, .nil => .nil
  | _, _, .cons a b => .cons (a.mono s) (b.mono s)
theorem FzK.mono (s : Same G G') : ∀ {vs : List (Key × V)} {ds : List (D × D)}, FzK K G vs ds → FzK K G' vs ds
  | _, _, .nil => .nil
  | _, _, .cons a b => .cons (a.mono s) (b.mono s)
theorem FzT.mono (s : Same G G') : ∀ {vs : List (List Key × V)} {ds : List (D × D)}, FzT K G vs ds → FzT K G' vs ds
  | _, _, .nil => .nil
  | _, _, .cons a b => .cons (a.mono s) (b.mono s)
theorem FzN.mono (s : Same G G') : ∀ {vs : List (Str × V)} {ds : List (Str × D)}, FzN K G vs ds → FzN K G' vs ds
  | _, _, .nil => .nil
  | _, _, .cons a b => .cons (a.mono s) (b.mono s)
theorem FzA.length : ∀ {vs : List V} {ds : List D}, FzA K G vs ds → vs.length = ds.length
  | _, _, .nil => rfl
  | _, _, .cons _ b => by simp [b.length]
theorem FzA.get : ∀ {vs : List V} {ds : List D} {i : Nat} {d : D}, FzA K G vs ds → ds[i]? = some d → ∃ v, vs[i]? = some v ∧ Fz K G v d
  | _, _, _, _, .nil, e => by simp at e
  | _, _, 0, _, .cons a _, e => by simp at e; subst e; exact ⟨_, rfl, a⟩
  | _, _, i + 1, d, .cons _ b, e => by
    obtain ⟨v, h1, h2⟩ := FzA.get (i := i) (d := d) b (by simpa using e)
    exact ⟨v, by simpa using h1, h2⟩
theorem FzA.set : ∀ {vs : List V} {ds : List D} (i : Nat) {v : V} {d : D}, FzA K G vs ds → Fz K G v d → FzA K G (vs.set i v) (ds.set i d)
  | _, _, _, _, _, .nil, _ => .nil
  | _, _, 0, _, _, .cons _ b, h => .cons h b
  | _, _, i + 1, _, _, .cons a b, h => .cons a (b.set i h)
end

/-! ### modes, slots, places -/
/-- fz: frozen; own: a list or dict of this frame's own; lent: a caller's; lz: a caller's, frozen here -/
inductive Md where
  | fz | own | lent | lz
  deriving DecidableEq
abbrev Slot := Option (D × Md)
abbrev Rho := List Slot
/-- an exception: its class's name, its fields -/
structure Xc where
  cls : Str
  flds : List (Str × D)
/-- what an expression gives: a frozen value, a name's own list, a new list -/
inductive Pl where
  | val (d : D) | slot (i : Nat) | tmp (d : D)
inductive R (α : Type) where
  | ok (a : α) (ρ : Rho) | exc (x : Xc) (ρ : Rho) | bad
def Md.isFz : Md → Bool
  | .fz => true
  | .lz => true
  | _ => false
def look (p : Pl) (ρ : Rho) : Option D := match p with
  | .val d => some d
  | .tmp d => some d
  | .slot i => match ρ[i]? with
    | some (some (d, _)) => some d
    | _ => none
/-! ### the state -/
section
variable (K : PySem.W.Frag) (G H B : Hp)
inductive Cont (a : Addr) : D → Prop
  | lst {xs : List V} {ds : List D} : H a = some (.lst xs) → FzA K G xs ds → Cont a (.list ds)
  | dK {kvs : List (Key × V)} {es : List (D × D)} : H a = some (.dK kvs) → FzK K G kvs es → Cont a (.dict es)
  | dT {kvs : List (List Key × V)} {es : List (D × D)} : H a = some (.dT kvs) → FzT K G kvs es → Cont a (.dict ((.none, .none) :: es))
/-- a value that is looked at -/
def Vw (v : V) (d : D) : Prop := Fz K G v d ∨ ∃ a, v = .ref a ∧ Cont K G H a d
def SlotOk (v : V) : D × Md → Prop
  | (d, .fz) => Fz K G v d
  | (d, .lz) => Fz K G v d
  | (d, _) => ∃ a, v = .ref a ∧ G a = none ∧ B a = none ∧ Cont K G H a d
end
/-- L: the lent parameters' values; B: what stood at the entry but for what is lent; G: what is frozen -/
structure Rel (K : PySem.W.Frag) (L : L2.St) (B : Hp) (σ : L2.St) (ρ : Rho) (G H : Hp) : Prop where
  sub : Same G H
  base : Same B H
  len : ρ.length = σ.length
  slots : ∀ (i : Nat) (p : D × Md), ρ[i]? = some (some p) → ∃ v, σ[i]? = some (some v) ∧ SlotOk K G H B v p
  sep : ∀ (i j : Nat) (p q : D × Md) (v : V), i ≠ j → ρ[i]? = some (some p) → ρ[j]? = some (some q) → p.2.isFz = false → q.2.isFz = false → σ[i]? = some (some v) → σ[j]? ≠ some (some v)
  lent : ∀ (j : Nat) (v : V), L[j]? = some (some v) → σ[j]? = some (some v) ∧ ∃ (d : D) (m : Md), ρ[j]? = some (some (d, m)) ∧ (m = .lent ∨ m = .lz)
/-- G has grown, by what B doesn't hold -/
structure Ext (B G G' : Hp) : Prop where
  same : Same G G'
  new : ∀ b, G' b ≠ none → G b ≠ none ∨ B b = none ∨ ∃ vs, G' b = some (.tup vs)
theorem Ext.refl {B G : Hp} : Ext B G G := ⟨Same.refl _, fun _ h => .inl h⟩
theorem Ext.trans {B G G1 G2 : Hp} (a : Ext B G G1) (b : Ext B G1 G2) : Ext B G G2 :=
  ⟨a.same.trans b.same, fun x h => by
    rcases b.new x h with z | z | z
    · rcases a.new x z with w | w | ⟨vs, w⟩
      · exact .inl w
      · exact .inr (.inl w)
      · exact .inr (.inr ⟨vs, b.same _ _ w⟩)
    · exact .inr (.inl z)
    · exact .inr (.inr z)⟩
/-- what an expression gave -/
def PlOk (K : PySem.W.Frag) (B : Hp) (σ : L2.St) (ρ : Rho) (G H : Hp) (v : V) : Pl → Prop
  | .val d => Fz K G v d
  | .slot i => σ[i]? = some (some v)
  | .tmp d => ∃ a, v = .ref a ∧ G a = none ∧ B a = none ∧ Cont K G H a d ∧ ∀ (j : Nat) (p : D × Md), ρ[j]? = some (some p) → p.2.isFz = false → σ[j]? ≠ some (some v)
/-- .. where a new list is frozen at once -/
def PlFx (K : PySem.W.Frag) (σ : L2.St) (G : Hp) (v : V) : Pl → Prop
  | .val d => Fz K G v d
  | .slot i => σ[i]? = some (some v)
  | .tmp d => Fz K G v d
section
variable {K : PySem.W.Frag} {L : L2.St} {B G G' H H' : Hp} {σ : L2.St} {ρ : Rho} {v : V} {d : D} {a : Addr}
theorem Cont.mono (s : Same G G') (c : Cont K G H a d) : Cont K G' H a d := by
  cases c with
  | lst h x => exact .lst h (x.mono s)
  | dK h x => exact .dK h (x.mono s)
  | dT h x => exact .dT h (x.mono s)
theorem Cont.heap (c : Cont K G H a d) (h : ∀ o, H a = some o → H' a = some o) : Cont K G H' a d := by
  cases c with
  | lst e x => exact .lst (h _ e) x
  | dK e x => exact .dK (h _ e) x
  | dT e x => exact .dT (h _ e) x
theorem Cont.there (c : Cont K G H a d) : ∃ o, H a = some o := by
  cases c with
  | lst e x => exact ⟨_, e⟩
  | dK e x => exact ⟨_, e⟩
  | dT e x => exact ⟨_, e⟩
theorem Cont.frozen (c : Cont K G H a d) (s : Same G G') (h : G' a = H a) : Fz K G' (.ref a) d := by
  cases c with
  | lst e x => exact .lst (.inl (h.trans e)) (x.mono s)
  | dK e x => exact .dK (h.trans e) (x.mono s)
  | dT e x => exact .dT (h.trans e) (x.mono s)
theorem SlotOk.mono {p : D × Md} (e : Ext B G G') (hn : p.2.isFz = false → ∀ a, v = .ref a → G' a = none) (s : SlotOk K G H B v p) : SlotOk K G' H B v p := by
  obtain ⟨d, m⟩ := p
  cases m with
  | fz => exact Fz.mono e.same s
  | lz => exact Fz.mono e.same s
  | own =>
    obtain ⟨a, rfl, h1, h2, c⟩ := s
    exact ⟨a, rfl, hn rfl a rfl, h2, c.mono e.same⟩
  | lent =>
    obtain ⟨a, rfl, h1, h2, c⟩ := s
    exact ⟨a, rfl, hn rfl a rfl, h2, c.mono e.same⟩
theorem SlotOk.heap {p : D × Md} (h : p.2.isFz = false → ∀ a o, v = .ref a → H a = some o → H' a = some o) (s : SlotOk K G H B v p) : SlotOk K G H' B v p := by
  obtain ⟨d, m⟩ := p
  cases m with
  | fz => exact s
  | lz => exact s
  | own =>
    obtain ⟨a, rfl, h1, h2, c⟩ := s
    exact ⟨a, rfl, h1, h2, c.heap fun o e => h rfl a o rfl e⟩
  | lent =>
    obtain ⟨a, rfl, h1, h2, c⟩ := s
    exact ⟨a, rfl, h1, h2, c.heap fun o e => h rfl a o rfl e⟩
theorem SlotOk.own {p : D × Md} (h : p.2.isFz = false) (s : SlotOk K G H B v p) : ∃ a, v = .ref a ∧ G a = none ∧ B a = none ∧ Cont K G H a p.1 := by
  obtain ⟨d, m⟩ := p
  cases m with
  | fz => cases h
  | lz => cases h
  | own => exact s
  | lent => exact s
theorem SlotOk.fz {p : D × Md} (h : p.2.isFz = true) (s : SlotOk K G H B v p) : Fz K G v p.1 := by
  obtain ⟨d, m⟩ := p
  cases m with
  | fz => exact s
  | lz => exact s
  | own => cases h
  | lent => cases h
theorem SlotOk.vw {p : D × Md} (s : SlotOk K G H B v p) : Vw K G H v p.1 := by
  cases h : p.2.isFz with
  | true => exact .inl (s.fz h)
  | false =>
    obtain ⟨a, rfl, _, _, c⟩ := s.own h
    exact .inr ⟨a, rfl, c⟩
theorem Vw.of (h : Fz K G v d) : Vw K G H v d := .inl h
theorem Rel.gb (r : Rel K L B σ ρ G H) (e : Ext B G G') (s' : Same G' H') (b' : Same B H')
    (hg : ∀ (i : Nat) (p : D × Md) (a : Addr), ρ[i]? = some (some p) → p.2.isFz = false → σ[i]? = some (some (.ref a)) → G' a = none ∧ ∀ o, H a = some o → H' a = some o) : Rel K L B σ ρ G' H' where
  sub := s'
  base := b'
  len := r.len
  slots := fun i p h => by
    obtain ⟨v, h1, h2⟩ := r.slots i p h
    refine ⟨v, h1, (h2.mono e fun hf a ea => ?_).heap fun hf a o ea => ?_⟩
    · subst ea; exact (hg i p a h hf h1).1
    · subst ea; exact (hg i p a h hf h1).2 o
  sep := r.sep
  lent := r.lent
/-- a new object stands at p -/
theorem Same.upd_new {p : Addr} {o : HO} (h : H p = none) : Same H (upd H p o) := fun b u e => by rw [upd_ne (ne_of_none e h)]; exact e
theorem Rel.new (r : Rel K L B σ ρ G H) (s : Same H H') : Rel K L B σ ρ G H' :=
  r.gb .refl (r.sub.trans s) (r.base.trans s) fun i p a h hf hv => by
    obtain ⟨v, h1, h2⟩ := r.slots i p h
    rw [hv] at h1; cases h1
    obtain ⟨a', e, h3, h4, c⟩ := h2.own hf
    cases e
    exact ⟨h3, fun o e => s _ _ e⟩
/-- a thing that no name owns is frozen -/
theorem Rel.freeze (r : Rel K L B σ ρ G H) {o : HO} (hb : B a = none) (hg : G a = none) (ho : H a = some o) (hs : ∀ (j : Nat) (p : D × Md), ρ[j]? = some (some p) → p.2.isFz = false → σ[j]? ≠ some (some (.ref a))) :
    Rel K L B σ ρ (upd G a o) H ∧ Ext B G (upd G a o) := by
  have e : Ext B G (upd G a o) := ⟨Same.upd_new hg, fun b h => by
    by_cases hb' : b = a
    · subst hb'; exact .inr (.inl hb)
    · rw [upd_ne hb'] at h; exact .inl h⟩
  refine ⟨r.gb e (fun b u q => ?_) r.base fun i p a' h hf hv => ?_, e⟩
  · by_cases hb' : b = a
    · subst hb'; rw [upd_same] at q; cases q; exact ho
    · rw [upd_ne hb'] at q; exact r.sub b u q
  · obtain ⟨v, h1, h2⟩ := r.slots i p h
    rw [hv] at h1; cases h1
    obtain ⟨a2, e2, h3, h4, c⟩ := h2.own hf
    cases e2
    have : a' ≠ a := fun z => by subst z; exact hs i p h hf hv
    exact ⟨by rw [upd_ne this]; exact h3, fun o e => e⟩
theorem PlFx.mono {p : Pl} (s : Same G G') (h : PlFx K σ G v p) : PlFx K σ G' v p := by
  cases p with
  | val d => exact Fz.mono s h
  | tmp d => exact Fz.mono s h
  | slot i => exact h
theorem PlFx.look {p : Pl} (r : Rel K L B σ ρ G H) (h : PlFx K σ G v p) (e : look p ρ = some d) : Vw K G H v d := by
  cases p with
  | val x => cases e; exact .of h
  | tmp x => cases e; exact .of h
  | slot i =>
    unfold TN.look at e
    cases q : ρ[i]? with
    | none => simp [q] at e
    | some o =>
      cases o with
      | none => simp [q] at e
      | some p =>
        obtain ⟨d', m⟩ := p
        simp only [q] at e
        cases e
        obtain ⟨v', h1, h2⟩ := r.slots i _ q
        have h' : σ[i]? = some (some v) := h
        rw [h'] at h1; cases h1
        exact h2.vw
end
end TN
namespace TN
open PySem PySem.Spec PyProof.Rows L2

/-! ### what a computation gave -/
def XcOk (X : Cx) (B : Hp) (G H : Hp) (x : Xc) (cls : Value) (d : Option Addr) : Prop :=
  ∃ C : Addr, X.mg x.cls = some (.ref C) ∧ cls = .ref C ∧ ((x.flds = [] ∧ d = none) ∨ ∃ (dd : Addr) (fs : List (Str × V)), d = some dd ∧ H dd = some (.xd fs) ∧ B dd = none ∧ FzN X.K G fs x.flds)
def Got {α β : Type} (X : Cx) (L : L2.St) (W : WX) (σ : L2.St) (G B : Hp) (P : α → Rho → Hp → Hp → β → Prop) (r : R α) (Q : β → Hp → Prop) : Prop := match r with
  | .ok a ρ' => ∀ (b : β) (H' G' : Hp), Rel X.K L B σ ρ' G' H' → Ext B G G' → P a ρ' G' H' b → Q b H'
  | .exc x ρ' => ∀ (cls : Value) (d : Option Addr) (H' G' : Hp), Rel X.K L B σ ρ' G' H' → Ext B G G' → XcOk X B G' H' x cls d → W cls d σ H'
  | .bad => False
abbrev GotP (X : Cx) (L : L2.St) (W : WX) (σ : L2.St) (G B : Hp) (r : R Pl) (Q : VK) : Prop := Got X L W σ G B (fun p ρ' G' H' v => PlOk X.K B σ ρ' G' H' v p) r Q
inductive PlA (K : PySem.W.Frag) (σ : L2.St) (G : Hp) : List V → List Pl → Prop
  | nil : PlA K σ G [] []
  | cons {v : V} {vs : List V} {p : Pl} {ps : List Pl} : PlFx K σ G v p → PlA K σ G vs ps → PlA K σ G (v :: vs) (p :: ps)
abbrev CE := Rho → R Pl
abbrev CB := Rho → R Bool
abbrev CA := Rho → R (List Pl)
section
variable {X : Cx} {L : L2.St} {W : WX} {σ : L2.St} {G G1 B H : Hp}
theorem Got.mono {α β : Type} {P : α → Rho → Hp → Hp → β → Prop} {r : R α} {Q Q' : β → Hp → Prop} (h : Got X L W σ G B P r Q) (w : ∀ b H', Q b H' → Q' b H') : Got X L W σ G B P r Q' := by
  cases r with
  | ok a ρ' => exact fun b H' G' rel ext p => w _ _ (h b H' G' rel ext p)
  | exc x ρ' => exact h
  | bad => exact h
theorem PlA.mono {K : PySem.W.Frag} (s : Same G G1) : ∀ {vs : List V} {ps : List Pl}, PlA K σ G vs ps → PlA K σ G1 vs ps
  | _, _, .nil => .nil
  | _, _, .cons a b => .cons (a.mono s) (b.mono s)
end

/-! ### new values -/
/-- what a pure operation leaves: a frozen value, a new tuple, a new list or dict -/
inductive Post (K : PySem.W.Frag) (G H : Hp) : V → Hp → Pl → Prop
  | fz {v : V} {d : D} : Fz K G v d → Post K G H v H (.val d)
  | tup {p : Addr} {vs : List V} {ds : List D} : H p = none → FzA K G vs ds → Post K G H (.ref p) (upd H p (.tup vs)) (.val (.tuple ds))
  | tmp {p : Addr} {o : HO} {d : D} : H p = none → Cont K G (upd H p o) p d → Post K G H (.ref p) (upd H p o) (.tmp d)
section
variable {X : Cx} {L : L2.St} {W : WX} {σ : L2.St} {ρ : Rho} {G G1 B H H' : Hp} {v : V} {p : Pl}
theorem Post.ok (h : Post X.K G H v H' p) (r : Rel X.K L B σ ρ G H) : ∃ G', Rel X.K L B σ ρ G' H' ∧ Ext B G G' ∧ PlOk X.K B σ ρ G' H' v p := by
  have key : ∀ {q : Addr} {o : HO}, H q = none → Rel X.K L B σ ρ G (upd H q o) ∧ B q = none ∧ G q = none ∧ ∀ (j : Nat) (p : D × Md), ρ[j]? = some (some p) → p.2.isFz = false → σ[j]? ≠ some (some (.ref q)) := by
    intro q o hq
    refine ⟨r.new (Same.upd_new hq), r.base.free hq, r.sub.free hq, fun j p hp hf hv => ?_⟩
    obtain ⟨w, h1, h2⟩ := r.slots j p hp
    rw [hv] at h1; cases h1
    obtain ⟨a, e, _, _, c⟩ := h2.own hf
    cases e
    obtain ⟨o', ho⟩ := c.there
    rw [hq] at ho; cases ho
  cases h with
  | fz h => exact ⟨G, r, .refl, h⟩
  | @tup q vs ds hq x =>
    obtain ⟨r1, b1, g1, s1⟩ := key (o := .tup vs) hq
    obtain ⟨r2, e2⟩ := r1.freeze b1 g1 upd_same s1
    exact ⟨_, r2, e2, Fz.tup upd_same (x.mono e2.same)⟩
  | @tmp q o d hq c =>
    obtain ⟨r1, b1, g1, s1⟩ := key (o := o) hq
    exact ⟨G, r1, .refl, q, rfl, g1, b1, c, s1⟩
theorem Got.done {Q : VK} (r : Rel X.K L B σ ρ G H) (h : GotP X L W σ G B (.ok p ρ) Q) (q : Post X.K G H v H' p) : Q v H' := by
  obtain ⟨G', r', e, ok⟩ := q.ok r
  exact h v H' G' r' e ok
end
/-! ### names, constants -/
section
variable {X : Cx} {e a b : Expr} {ca cb : CE} {pos : Pos}
end

/-! ### operations of one and two values -/
section
variable {X : Cx} {e a b : Expr} {ca cb : CE} {pos : Pos} {f : D → D → Option Pl} {g : D → Option Pl} {r : R2} {r1 : V → Hp → VK → Prop}
theorem Vw.bool {K : PySem.W.Frag} {G H : Hp} {v : V} {b : Bool} (h : Vw K G H v (.bool b)) : v = .bl b := by
  rcases h with h | ⟨a, _, h⟩
  · cases h; rfl
  · cases h
theorem Vw.int {K : PySem.W.Frag} {G H : Hp} {v : V} {b : Int} (h : Vw K G H v (.int b)) : v = .int b := by
  rcases h with h | ⟨a, _, h⟩
  · cases h; rfl
  · cases h
theorem Vw.str {K : PySem.W.Frag} {G H : Hp} {v : V} {b : Str} (h : Vw K G H v (.str b)) : v = .str b := by
  rcases h with h | ⟨a, _, h⟩
  · cases h; rfl
  · cases h
theorem Vw.tup {K : PySem.W.Frag} {G H : Hp} {v : V} {ds : List D} (s : Same G H) (h : Vw K G H v (.tuple ds)) : ∃ a xs, v = .ref a ∧ G a = some (.tup xs) ∧ SqT K H a xs ∧ FzA K G xs ds := by
  rcases h with h | ⟨a, _, h⟩
  · cases h with
    | tup h1 h2 => exact ⟨_, _, rfl, h1, .inl (.inl (s _ _ h1)), h2⟩
  · cases h
/-! ### and, or, not -/
variable {ba bb : CB} {rest : List Expr}
/-! ### argument lists, displays -/
variable {es : List Expr} {cr : CA}
def lookA (ps : List Pl) (ρ : Rho) : Option (List D) := match ps with
  | [] => some []
  | p :: ps => match look p ρ, lookA ps ρ with
    | some d, some ds => some (d :: ds)
    | _, _ => none
/-! ### built-ins called -/
inductive VwA (K : PySem.W.Frag) (G H : Hp) : List V → List D → Prop
  | nil : VwA K G H [] []
  | cons {v : V} {vs : List V} {d : D} {ds : List D} : Vw K G H v d → VwA K G H vs ds → VwA K G H (v :: vs) (d :: ds)
theorem PlA.look {K : PySem.W.Frag} {L : L2.St} {B H G : Hp} {σ : L2.St} {ρ : Rho} (r : Rel K L B σ ρ G H) : ∀ {ps : List Pl} {vs : List V} {ds : List D}, PlA K σ G vs ps → lookA ps ρ = some ds → VwA K G H vs ds
  | [], _, _, .nil, e => by cases e; exact .nil
  | p :: ps, _, ds, .cons a b, e => by
    unfold lookA at e
    cases e1 : TN.look p ρ with
    | none => simp [e1] at e
    | some d =>
      cases e2 : lookA ps ρ with
      | none => simp [e1, e2] at e
      | some ds' =>
        simp only [e1, e2, Option.some.injEq] at e
        subst e
        exact .cons (a.look r e1) (PlA.look r b e2)
variable {rc : List V → Hp → VK → Prop} {fc : List D → Option Pl} {x : Str} {p : Pos} {id T : String}
end
end TN
namespace TN
open PySem PySem.Spec PyProof.Rows L2

/-! ### storing -/
section
variable {K : PySem.W.Frag} {L : L2.St} {B G H H' : Hp} {σ : L2.St} {ρ : Rho} {v : V} {d : D} {i : Nat}
end
/-! ### statements -/
inductive RS where
  | nx (ρ : Rho) | ret (d : D) (fr : Bool) (ρ : Rho) | exc (x : Xc) (ρ : Rho) | bad
abbrev CS := Rho → RS
section
variable {X : Cx} {L : L2.St} {W : WX} {G G1 B : Hp}
end
section
variable {X : Cx} {st : Stmt} {sts : List Stmt} {a b : CS} {e : Expr} {c : CE} {t : CB} {pos pos' : Pos}
/-! ### targets -/
/-- vs: the names that may change -/
def Only (vs : List Nat) (σ σ' : L2.St) : Prop := σ'.length = σ.length ∧ ∀ i, i ∉ vs → σ'[i]? = σ[i]?
theorem Only.trans {vs ws : List Nat} {σ σ1 σ2 : L2.St} (a : Only vs σ σ1) (b : Only ws σ1 σ2) : Only (vs ++ ws) σ σ2 :=
  ⟨b.1.trans a.1, fun i h => by
    simp only [List.mem_append, not_or] at h
    exact (b.2 i h.2).trans (a.2 i h.1)⟩
variable {es : List Expr} {g : D → Rho → Option Rho} {gs : List D → Rho → Option Rho} {vs ws : List Nat}
/-! ### what is walked -/
abbrev CI := Rho → R (List D)
variable {tg : Expr} {ci : CI}
end
end TN
namespace TN
open PySem PySem.Spec PyProof.Rows L2

/-! ### defs -/
inductive FR where
  | ok (d : D) (fr : Bool) (outs : List Slot) | exc (x : Xc) (outs : List Slot) | bad
/-- a def's meaning: its arguments (frozen, or lent), what it gives -/
abbrev FM := List (D × Md) → FR
section
variable {P : Program} {w : World} {K : PySem.W.Frag} {mg : Str → Option Value} {base : Heap} {x qual : Str} {params : Arguments} {body : List Stmt} {scope : Scope} {f : Addr} {fd : FuncData}
end

/-! ### calls -/
theorem PlA.get {K : PySem.W.Frag} {σ : L2.St} {G : Hp} : ∀ {vs : List V} {ps : List Pl} {i : Nat} {p : Pl}, PlA K σ G vs ps → ps[i]? = some p → ∃ v, vs[i]? = some v ∧ PlFx K σ G v p
  | _, _, _, _, .nil, e => by simp at e
  | _, _, 0, _, .cons a _, e => by simp at e; subst e; exact ⟨_, rfl, a⟩
  | _, _, i + 1, p, .cons _ b, e => by
    obtain ⟨v, h1, h2⟩ := PlA.get (i := i) b (by simpa using e)
    exact ⟨v, by simpa using h1, h2⟩
theorem PlA.length {K : PySem.W.Frag} {σ : L2.St} {G : Hp} : ∀ {vs : List V} {ps : List Pl}, PlA K σ G vs ps → vs.length = ps.length
  | _, _, .nil => rfl
  | _, _, .cons _ b => by simp [b.length]
section
variable {K : PySem.W.Frag} {L : L2.St} {B G H : Hp} {σ : L2.St} {ρ : Rho} {ps : List Pl} {vs : List V} {as : List (D × Md)}
end
section
variable {X : Cx} {k n : Nat} {f : Addr} {fd : FuncData} {pn : List Str} {M : FM} {x : Str} {p pos : Pos} {e : Expr} {es : List Expr} {cr : CA}
end
/-! ### a law's end -/
end TN
namespace TN
open PySem PySem.Spec PyProof.Rows L2

/-! ### list comprehensions -/
section
variable {K : PySem.W.Frag} {L : L2.St} {B G G1 G2 H H1 : Hp} {σ : L2.St} {ρ ρ1 ρ2 : Rho} {vs : List Nat} {D0 : Addr} {v : V}
end
section
variable {X : Cx} {elt tg iter : Expr} {ifs : List Expr} {scope : Scope} {own : List (Str × Nat)} {pos : Pos} {ci : CI} {g : D → Rho → Option Rho} {t : CB} {e : CE}
variable {ws : List Nat} {y : Str} {py spos : Pos}
end
end TN
namespace TN
open PySem PySem.Spec PyProof.Rows L2

/-! ### keys, dicts -/
def ckOf : D → Option Key
  | .int i => some (.inl i)
  | .str s => some (.inr s)
  | _ => none
theorem ckOf_keyD (k : Key) : ckOf (keyD k) = some k := by cases k <;> rfl
def keysOf : List D → Option (List Key)
  | [] => some []
  | d :: ds => match ckOf d, keysOf ds with
    | some k, some ks => some (k :: ks)
    | _, _ => none
theorem keysOf_keyD : ∀ ks : List Key, keysOf (ks.map keyD) = some ks
  | [] => rfl
  | k :: ks => by simp only [List.map_cons, keysOf, ckOf_keyD, keysOf_keyD ks]
def tkOf : D → Option (List Key)
  | .tuple ds => keysOf ds
  | _ => none
theorem tkOf_tkD (ks : List Key) : tkOf (tkD ks) = some ks := keysOf_keyD ks
theorem Fz.key {K : PySem.W.Frag} {G : Hp} {v : V} {d : D} {k : Key} (h : Fz K G v d) (e : ckOf d = some k) : v = kV k := by
  cases h <;> simp only [ckOf, Option.some.injEq] at e <;> first | (cases e; done) | (subst e; rfl)
theorem FzA.keysV {K : PySem.W.Frag} {G : Hp} : ∀ {vs : List V} {ds : List D} {ks : List Key}, FzA K G vs ds → keysOf ds = some ks → vs = ks.map kV
  | _, _, _, .nil, e => by cases e; rfl
  | _, _, ks, .cons (d := d) (ds := ds) a b, e => by
    unfold keysOf at e
    cases e1 : ckOf d with
    | none => rw [e1] at e; cases e
    | some k =>
      cases e2 : keysOf ds with
      | none => rw [e1, e2] at e; cases e
      | some ks' =>
        rw [e1, e2] at e
        cases e
        rw [a.key e1, b.keysV e2]; rfl
theorem Fz.tkey {K : PySem.W.Frag} {G : Hp} {v : V} {d : D} {ks : List Key} (h : Fz K G v d) (e : tkOf d = some ks) : ∃ b, v = .ref b ∧ G b = some (.tup (ks.map kV)) := by
  cases h <;> simp only [tkOf] at e <;> try (cases e; done)
  rename_i h1 h2
  rw [h2.keysV e] at h1
  exact ⟨_, rfl, h1⟩
theorem Vw.key {K : PySem.W.Frag} {G H : Hp} {v : V} {d : D} {k : Key} (h : Vw K G H v d) (e : ckOf d = some k) : v = kV k := by
  rcases h with h | ⟨a, _, h⟩
  · exact h.key e
  · cases h <;> cases e
theorem Vw.tkey {K : PySem.W.Frag} {G H : Hp} {v : V} {d : D} {ks : List Key} (s : Same G H) (h : Vw K G H v d) (e : tkOf d = some ks) : ∃ b, v = .ref b ∧ H b = some (.tup (ks.map kV)) := by
  rcases h with h | ⟨a, _, h⟩
  · obtain ⟨b, e1, e2⟩ := h.tkey e
    exact ⟨b, e1, s _ _ e2⟩
  · cases h <;> cases e

def lookK : List (D × D) → Key → Option D
  | [], _ => none
  | (kd, v) :: es, k => if ckOf kd = some k then some v else lookK es k
section
variable {K : PySem.W.Frag} {G : Hp}
theorem FzK.look (k : Key) : ∀ {kvs : List (Key × V)} {es : List (D × D)}, FzK K G kvs es → (valV kvs k = none ∧ lookK es k = none) ∨ ∃ v d, valV kvs k = some v ∧ lookK es k = some d ∧ Fz K G v d
  | _, _, .nil => .inl ⟨rfl, rfl⟩
  | _, _, .cons (k := k') (v := v) (d := d) a b => by
    by_cases h : k' = k
    · subst h
      refine .inr ⟨v, d, valV_pos rfl, ?_, a⟩
      unfold lookK
      rw [if_pos (ckOf_keyD _)]
    · have h2 : ¬ ckOf (keyD k') = some k := fun z => by
        rw [ckOf_keyD] at z
        exact h (Option.some.inj z)
      rcases FzK.look k b with ⟨z1, z2⟩ | ⟨w, e, z1, z2, z3⟩
      · exact .inl ⟨(valV_neg h).trans z1, by unfold lookK; rw [if_neg h2]; exact z2⟩
      · exact .inr ⟨w, e, (valV_neg h).trans z1, by unfold lookK; rw [if_neg h2]; exact z2, z3⟩
theorem FzK.length : ∀ {kvs : List (Key × V)} {es : List (D × D)}, FzK K G kvs es → kvs.length = es.length
  | _, _, .nil => rfl
  | _, _, .cons _ b => by simp [b.length]
theorem FzK.keys : ∀ {kvs : List (Key × V)} {es : List (D × D)}, FzK K G kvs es → es.map (·.1) = kvs.map fun p => keyD p.1
  | _, _, .nil => rfl
  | _, _, .cons _ b => by simp [b.keys]
end

def lookT : List (D × D) → List Key → Option D
  | [], _ => none
  | (kd, v) :: es, k => if tkOf kd = some k then some v else lookT es k
section
variable {K : PySem.W.Frag} {G : Hp}
theorem FzT.look (k : List Key) : ∀ {kvs : List (List Key × V)} {es : List (D × D)}, FzT K G kvs es → (valV kvs k = none ∧ lookT es k = none) ∨ ∃ v d, valV kvs k = some v ∧ lookT es k = some d ∧ Fz K G v d
  | _, _, .nil => .inl ⟨rfl, rfl⟩
  | _, _, .cons (k := k') (v := v) (d := d) a b => by
    by_cases h : k' = k
    · subst h
      refine .inr ⟨v, d, valV_pos rfl, ?_, a⟩
      unfold lookT
      rw [if_pos (tkOf_tkD _)]
    · have h2 : ¬ tkOf (tkD k') = some k := fun z => by
        rw [tkOf_tkD] at z
        exact h (Option.some.inj z)
      rcases FzT.look k b with ⟨z1, z2⟩ | ⟨w, e, z1, z2, z3⟩
      · exact .inl ⟨(valV_neg h).trans z1, by unfold lookT; rw [if_neg h2]; exact z2⟩
      · exact .inr ⟨w, e, (valV_neg h).trans z1, by unfold lookT; rw [if_neg h2]; exact z2, z3⟩
theorem FzT.length : ∀ {kvs : List (List Key × V)} {es : List (D × D)}, FzT K G kvs es → kvs.length = es.length
  | _, _, .nil => rfl
  | _, _, .cons _ b => by simp [b.length]
theorem FzT.keys : ∀ {kvs : List (List Key × V)} {es : List (D × D)}, FzT K G kvs es → es.map (·.1) = kvs.map fun p => tkD p.1
  | _, _, .nil => rfl
  | _, _, .cons _ b => by simp [b.keys]
end

/-! ### what is looked at is a dict -/
theorem isE_no {es : List (D × D)} (h : ∀ (x : D) (r : List (D × D)), es = (.bool true, x) :: r → False) : isE es = false := by
  unfold isE
  split
  · exact (h _ _ rfl).elim
  · rfl
theorem Vw.dict {K : PySem.W.Frag} {G H : Hp} {v : V} {es : List (D × D)} (s : Same G H) (hE : isE es = false) (h : Vw K G H v (.dict es)) :
    (∃ a kvs, v = .ref a ∧ H a = some (.dK kvs) ∧ FzK K G kvs es) ∨ ∃ a kvs es', v = .ref a ∧ H a = some (.dT kvs) ∧ FzT K G kvs es' ∧ es = (.none, .none) :: es' := by
  rcases h with h | ⟨a, rfl, h⟩
  · cases h with
    | dK e x => exact .inl ⟨_, _, rfl, s _ _ e, x⟩
    | dT e x => exact .inr ⟨_, _, _, rfl, s _ _ e, x, rfl⟩
    | ex => cases hE
  · cases h with
    | dK e x => exact .inl ⟨_, _, rfl, e, x⟩
    | dT e x => exact .inr ⟨_, _, _, rfl, e, x, rfl⟩
theorem FzK.nomark {K : PySem.W.Frag} {G : Hp} {kvs : List (Key × V)} {es : List (D × D)} {v : D} (h : FzK K G kvs ((.none, v) :: es)) : False := by
  have e := h.keys
  cases kvs with
  | nil => simp at e
  | cons p r =>
    obtain ⟨k, w⟩ := p
    simp only [List.map_cons, List.cons.injEq] at e
    cases k <;> cases e.1
/-- d[k], as far as it is there -/
def dGet (es : List (D × D)) (y : D) : Option (Option D) := match es with
  | (.bool true, _) :: _ => none
  | (.none, _) :: es => match tkOf y with
    | some k => some (lookT es k)
    | none => none
  | es => match ckOf y with
    | some k => some (lookK es k)
    | none => none
theorem Vw.get {K : PySem.W.Frag} {G H : Hp} {v y : V} {es : List (D × D)} {dy : D} {o : Option D} (s : Same G H) (h : Vw K G H v (.dict es)) (hy : Vw K G H y dy) (e : dGet es dy = some o) :
    ∃ a ov, v = .ref a ∧ DGet H a y ov ∧ ((ov = none ∧ o = none) ∨ ∃ w d, ov = some w ∧ o = some d ∧ Fz K G w d) := by
  have hE : isE es = false := isE_no fun x r z => by subst z; cases e
  rcases h.dict s hE with ⟨a, kvs, rfl, e1, f⟩ | ⟨a, kvs, es', rfl, e1, f, rfl⟩
  · unfold dGet at e
    split at e
    · cases e
    · exact f.nomark.elim
    · cases q : ckOf dy with
      | none => rw [q] at e; cases e
      | some k =>
        rw [q] at e; cases e
        refine ⟨a, valV kvs k, rfl, .inl ⟨kvs, k, .inl e1, hy.key q, rfl⟩, ?_⟩
        rcases f.look k with ⟨z1, z2⟩ | ⟨w, d, z1, z2, z3⟩
        · exact .inl ⟨z1, z2⟩
        · exact .inr ⟨w, d, z1, z2, z3⟩
  · unfold dGet at e
    simp only at e
    cases q : tkOf dy with
    | none => rw [q] at e; cases e
    | some k =>
      rw [q] at e; cases e
      obtain ⟨b, rfl, hb⟩ := hy.tkey s q
      refine ⟨a, valV kvs k, rfl, .inr ⟨kvs, k, b, .inl e1, rfl, hb, rfl⟩, ?_⟩
      rcases f.look k with ⟨z1, z2⟩ | ⟨w, d, z1, z2, z3⟩
      · exact .inl ⟨z1, z2⟩
      · exact .inr ⟨w, d, z1, z2, z3⟩
/-! ### d[k] as an item -/
/-! ### {} -/
section
variable {X : Cx} {pos : Pos}
end
end TN
namespace TN
open PySem PySem.Spec PyProof.Rows L2

/-! ### + - * // % ** -/
section
variable {X : Cx} {pins : List (Addr × Obj)} {σ : L2.St} {H : Hp} {s : Shared} {l b : Addr} {xs ys zs : List V}
end
section
variable {X : Cx}
/-! ### comparisons -/
/-! ### items, slices -/
end
end TN
namespace PySem.W
open PySem PySem.Spec PySem.Calls PyProof.Rows
section
variable {prog : Program} {w : World} {A : Around} {E : Value → Shared → Prop} {s : Shared} {K : Frag} {x D : Addr} {ox : Obj}
end
end PySem.W
namespace TN
open PySem PySem.Spec PyProof.Rows L2
section
variable {X : Cx}
/-! ### in, not in -/
/-! ### chains: a op b op c -/
/-! ### isinstance -/
/-! ### len, abs, max, min, int, sum, list, tuple, str -/
theorem VwA.one {K : PySem.W.Frag} {G H : Hp} {xs : List V} {d : D} (h : VwA K G H xs [d]) : ∃ v, xs = [v] ∧ Vw K G H v d := by
  cases h with
  | cons a b => cases b; exact ⟨_, rfl, a⟩
theorem VwA.len {K : PySem.W.Frag} {G H : Hp} : ∀ {xs : List V} {ds : List D}, VwA K G H xs ds → xs.length = ds.length
  | _, _, .nil => rfl
  | _, _, .cons _ b => by simp [b.len]
end
end TN
namespace TN
open PySem PySem.Spec PyProof.Rows L2

/-! ### tuples that stand are frozen -/
section
variable {X : Cx} {es : List Expr} {cr : CA} {rc : List V → Hp → VK → Prop} {fc : List D → Option Pl} {x : Str} {p : Pos} {T : String} {e : Expr} {pos : Pos}
end
/-! ### list(d) -/
theorem IsKeys.all {H : Hp} : ∀ {kvs : List (List Key × V)} {bs : List Addr}, IsKeys H kvs bs → ∀ b ∈ bs, ∃ vs, H b = some (.tup vs)
  | _, _, .nil, _, h => by simp at h
  | _, _, .cons h t, b, hb => by
    rcases List.mem_cons.mp hb with rfl | hb
    · exact ⟨_, h⟩
    · exact IsKeys.all t b hb
end TN
namespace TN
open PySem PySem.Spec PyProof.Rows L2

/-! ### sum, min, max of ints in a list or tuple -/
section
variable {prog : Program} {w : World} {A : Around} {E : Value → Shared → Prop} {s : Shared} {l : Addr} {its : List Value} {ns : List Int} {Q : Value → Shared → Prop}
end
section
variable {X : Cx} {k : Nat}
/-! ### all -/
end
end TN
namespace TN
open PySem PySem.Spec PyProof.Rows L2

/-! ### sorted(list) -/
abbrev dLe : D → D → Bool := PySem.W.dataLe false id
theorem FzA.zip {K : PySem.W.Frag} {G : Hp} : ∀ {xs : List V} {ds : List D}, FzA K G xs ds → (∀ b ∈ xs.zip ds, Fz K G b.1 b.2) ∧ (xs.zip ds).map Prod.fst = xs ∧ (xs.zip ds).map Prod.snd = ds
  | _, _, .nil => ⟨fun b hb => by simp at hb, rfl, rfl⟩
  | _, _, .cons a r => by
    obtain ⟨h1, h2, h3⟩ := r.zip
    refine ⟨fun b hb => ?_, ?_, ?_⟩
    · rcases List.mem_cons.mp hb with rfl | hb
      · exact a
      · exact h1 b hb
    · rw [List.zip_cons_cons, List.map_cons, h2]
    · rw [List.zip_cons_cons, List.map_cons, h3]
/-! sorted(a tuple) -/
section
variable {prog : Program} {w : World} {A : Around} {E : Value → Shared → Prop} {s : Shared}
end
section
variable {X : Cx} {k : Nat} {pins : List (Addr × Obj)} {σ : L2.St} {H : Hp} {s : Shared}
/-! ### list(range(..)), tuple(range(..)) -/
variable {a b e : Expr} {ca cb : CE} {p pos : Pos} {cr : Rho → R (Int × Int)}
/-! ### x in range(..) -/
/-! ### len(set(xs)) of ints -/
end
end TN
/-! ### enumerate(tuple) -/
namespace PySem
open Sem (wp)
open AutoSeq1 (wpAny_loadPart')
section
variable {prog : Program} {w : World} {A : Around} {E : Value → Shared → Prop} {s : Shared}
end
end PySem
namespace TN
open PySem PySem.Spec PyProof.Rows L2
end TN
namespace TN
open PySem PySem.Spec PyProof.Rows L2

/-! ### what is walked: soundness -/
section
variable {K : PySem.W.Frag} {G : Hp} {a b : Addr} {xs ys : List V} {ds es : List D}
end

section
variable {X : Cx} {tg e e2 : Expr} {c c2 : CE} {p pos : Pos}
/-! range -/
/-! enumerate -/
/-! zip -/
/-! reversed -/
end
end TN
namespace TN
open PySem PySem.Spec PyProof.Rows L2

/-! ### a list that a name owns changes -/
section
variable {K : PySem.W.Frag} {L : L2.St} {B G H : Hp} {σ : L2.St} {ρ : Rho} {d d' : D} {m : Md} {i : Nat} {a : Addr} {o : HO}
end
section
variable {X : Cx} {e : Expr} {es : List Expr} {ca : CA} {p apos cpos : Pos} {T id : String} {x name : Str} {r : V → List V → Hp → VK → Prop} {f : D → List D → Option (D × D)} {W : WX}
/-! append, extend, pop -/
end
end TN
namespace TN
open PySem PySem.Spec PyProof.Rows L2

/-! ### x[k] = v -/
section
variable {X : Cx} {x : Str} {k : Expr} {ck c : CE} {p pos : Pos} {t : TSet} {f : D → D → D → Option D} {W : WX}
/-! ### xs[k] += e -/
/-! lists -/
/-! dicts -/
/-! a, b = x, y -/
end
end TN
namespace TN
open PySem PySem.Spec PyProof.Rows L2

/-! ### methods that change nothing -/
section
variable {X : Cx} {o e : Expr} {es : List Expr} {co : CE} {ca : CA} {p apos cpos : Pos} {T id : String} {name : Str} {r : V → List V → Hp → VK → Prop} {f : D → List D → Option Pl} {W : WX}
/-! list.index, list.count -/
/-! xs[::-1] -/
end
end TN
namespace TN
open PySem PySem.Spec PyProof.Rows L2

/-! ### defs by their meanings -/
section
variable {X : Cx} {k n : Nat} {M : FM} {x : Str} {p pos : Pos} {e : Expr} {es : List Expr} {cr : CA}
end
/-! ### the head: facts of a part of the heap without lists -/
def isLst (o : Obj) : Bool := match o.cls, o.data with
  | .type c, .seq _ _ => decide (c = "list")
  | _, _ => false
def frN (K : PySem.W.Frag) : PySem.W.Frag := K.filter fun p => !isLst p.2
def NoLst (K : PySem.W.Frag) : Prop := ∀ (a : Addr) (o : Obj), K.lookup a = some o → isLst o = false
theorem lookup_mem {a : Addr} {o : Obj} : ∀ {K : PySem.W.Frag}, K.lookup a = some o → (a, o) ∈ K
  | [], h => nomatch (show (none : Option Obj) = some o from h)
  | (b, p) :: r, h => by
    have h2 : (match a == b with | true => some p | false => List.lookup a r) = some o := h
    cases q : a == b with
    | true =>
      rw [q] at h2
      cases h2
      rw [eq_of_beq q]
      exact List.mem_cons_self ..
    | false =>
      rw [q] at h2
      exact List.mem_cons_of_mem _ (lookup_mem h2)
theorem frN_no (K : PySem.W.Frag) : NoLst (frN K) := fun a o h => by
  have := (List.mem_filter.mp (lookup_mem h)).2
  simpa using this
theorem frN_in {as : List Addr} {h : Heap} : (frN (He.frG h.get? as)).In h := fun a o e => by
  have h1 := (List.mem_filter.mp (lookup_mem e)).1
  unfold He.frG at h1
  obtain ⟨b, _, hb⟩ := List.mem_filterMap.mp h1
  cases q : h.get? b with
  | none => rw [q] at hb; cases hb
  | some o' =>
    rw [q] at hb
    cases hb
    exact q
end TN
namespace TN
open PySem PySem.Spec PyProof.Rows L2

/-! ### t[::-1] -/
section
variable {prog : Program} {w : World} {A : Around} {E : Value → Shared → Prop} {s : Shared}
end
section
variable {X : Cx}
end
end TN
namespace TN
open PySem PySem.Spec PyProof.Rows L2
end TN
namespace TN
open PySem PySem.Spec PyProof.Rows L2

/-! ### f(g(..), ..): the first argument a new list, lent -/
section
variable {K : PySem.W.Frag} {L : L2.St} {B G H : Hp} {σ : L2.St} {ρ ρ' : Rho} {x : Option V} {v : V} {d : D} {a : Addr}
end
section
variable {X : Cx} {k n : Nat} {f : Addr} {fd : FuncData} {pn : List Str} {M : FM} {x : Str} {p pos : Pos} {e : Expr} {es : List Expr} {ce : CE} {cr : CA}
end
end TN
namespace TN
open PySem PySem.Spec PyProof.Rows L2

/-! ### calls, plainly -/
/-! ### loops, plainly -/
end TN
namespace TN
open PySem PySem.Spec PyProof.Rows L2

/-! ### what all laws begin by: a script's cell, a pen, its draws -/
/-! equations -/
structure Pen where
  a : Int
  f : Int
  s : Int
def Pen.d (p : Pen) : D := .list [.int p.a, .int p.f, .int p.s]
def nextI (s : Int) : Int := (((s + 7919) % 2147483647) * ((s + 7919) % 2147483647) + 48271 * ((s + 7919) % 2147483647) + 12345) % 2147483629
def Pen.draw (p : Pen) (m : Int) : Int := if p.f = 1 then p.a % m else nextI (nextI p.s + 7) / 64 % m
end TN
namespace TN
open PySem PySem.Spec PyProof.Rows L2

/-! ### comprehensions, loops: one turn -/
/-- one turn of a loop -/
def body (g : D → Rho → Option Rho) (b : CS) (x : D) (ρ : Rho) : RS := match g x ρ with
  | some ρ1 => b ρ1
  | none => .bad
/-! ### what is returned -/
/-! ### draws by a pen in a certain slot -/
section
variable {p : Pen} {m : Int} {s0 s1 s2 s3 s4 s5 s6 s7 : Slot} {ρ : Rho}
end

/-! ### is_whole -/
/-! ### equal data -/
/-! ### cuts -/
end TN
namespace TN
open PySem PySem.Spec PyProof.Rows L2
/-! ### loops by what was walked -/
/-! ### ranges -/
/-! ### steps by their parts -/
/-! ### sorted ints -/
/-! ### what is returned, what the parameters hold -/
/-! ### comprehensions with a test -/
/-! ### sums -/
end TN
namespace TN
open PySem PySem.Spec PyProof.Rows L2

/-! ### webs, steps: what many laws look at -/
def tieD (t : Nat × Nat) : D := .tuple [.int (t.1 : Nat), .int (t.2 : Nat)]
structure WebOk (n : Nat) (ts : List (Nat × Nat)) : Prop where
  n1 : 1 ≤ n
  nl : n ≤ 1000
  tl : ts.length ≤ 1000
  lt : ∀ t ∈ ts, t.1 < n ∧ t.2 < n
/-! are_numbers -/
/-! steps_good -/
/-! ties_at, tie_counts -/
/-! lists of ties -/
end TN
namespace TN
open PySem PySem.Spec PyProof.Rows L2
/-! ### is, is not: truths and None -/
end TN
namespace TN
open PySem PySem.Spec PyProof.Rows L2

/-! ### a list of a name's own gone through, and the name's own still behind -/
section
variable {K : PySem.W.Frag} {L : L2.St} {B G G1 H H1 : Hp} {σ : L2.St} {ρ : Rho} {a : Addr} {o : HO} {xs : List V} {ds : List D} {j : Nat} {m : Md}
end
section
variable {X : Cx} {elt tg iter : Expr} {ifs : List Expr} {scope : Scope} {own : List (Str × Nat)} {pos : Pos} {ci : CI} {g : D → Rho → Option Rho} {t : CB} {e : CE}
variable {ws : List Nat} {x y : Str} {py px spos : Pos} {j : Nat}
end
end TN
namespace TN
open PySem PySem.Spec PyProof.Rows L2

/-! ### chains of three: a op b op c op d -/
section
variable {X : Cx} {a b c d : Expr} {ta tb tc td : TE} {pos : Pos} {op op' op'' : CmpOp} {r r' r'' : R2}
end
section
variable {X : Cx} {a b c d : Expr} {ca cb cc cd : CE} {pos : Pos} {op op' op'' : CmpOp} {r r' r'' : R2} {e f g : D → D → Option Pl}
end
end TN
namespace TN
open PySem PySem.Spec PyProof.Rows L2
/-! ### <, >= of tuples of ints -/
end TN
namespace TN
open PySem PySem.Spec PyProof.Rows L2

/-! ### webs by drawn ties -/
/-! more steps -/
/-! the dict of ties -/
def sortT (F : List (Nat × Nat)) : List (Nat × Nat) := F.mergeSort fun a b => dLe (tieD a) (tieD b)
/-- a web as the laws draw it -/
structure GoodWeb (n : Nat) (ts : List (Nat × Nat)) : Prop where
  n1 : 1 ≤ n
  nl : n ≤ 40
  tl : ts.length ≤ 60
  lt : ∀ t ∈ ts, t.1 < t.2 ∧ t.2 < n
  nd : ts.Nodup
  so : ∃ F, ts = sortT F
theorem GoodWeb.ok {n : Nat} {ts : List (Nat × Nat)} (h : GoodWeb n ts) : WebOk n ts := ⟨h.n1, by have := h.nl; omega, by have := h.tl; omega, fun t ht => by have := h.lt t ht; omega⟩
end TN
namespace TN
open PySem PySem.Spec PyProof.Rows L2

/-! ### sums at places -/
/-! all unlike -/
end TN
namespace TN
open PySem PySem.Spec PyProof.Rows L2

/-! ### a drawn order -/
/-! the last of a list, put -/
end TN
namespace TN
open PySem PySem.Spec PyProof.Rows L2

/-! ### squares by drawn turns -/
end TN
namespace TN
open PySem PySem.Spec PyProof.Rows L2
/-! ### comprehensions that draw; held ones -/
/-! cuts of lists -/
end TN
namespace TN
open PySem PySem.Spec PyProof.Rows L2

/-! ### raise X() -/
/-! ### a caught exception is tracked -/
/-! ### try: body, except x as n: suite; n holds the exception, frozen -/
section
variable {X : Cx} {x n : Str} {c : Value} {i : Nat} {body suite : List Stmt} {b₀ : Stmt} {np pos pos' : Pos} {tb : WX → TS} {ts : TS} {Wout : WX}
end

/-! ### what is known of the classes -/
def exB (K : PySem.W.Frag) (cs : List Str) (x : Str) : Bool := He.eqO (PySem.W.nsIn K mainGlobals x) (some (some (.ref (He.ga K x)))) && (exC K (He.ga K x) && (exT K (He.ga K x) && (decide (PySem.W.exmOne K (.ref (He.ga K x)) (.ref (He.ga K ("TieError" : Str))) = some true) &&
  (decide (PySem.W.kitOne K (.ref (He.ga K x)) (.type "ValueError") = some true) && cs.all fun y => decide (PySem.W.kitOne K (.ref (He.ga K x)) (.ref (He.ga K y)) = some (x == y))))))
def exAll (cs : List Str) (K : PySem.W.Frag) : Bool := He.eqO (PySem.W.nsIn K mainGlobals ("TieError" : Str)) (some (some (.ref (He.ga K ("TieError" : Str))))) && cs.all (exB K cs)
/-! ### the catch -/
end TN
namespace TN
open PySem PySem.Spec PyProof.Rows L2 L2H

/-! ### defs that are called while an exception is handled -/
structure FnHot (P : Program) (w : World) (K : PySem.W.Frag) (mg : Str → Option Value) (base : Heap) (CX : CXT) (k : Nat) (f : Addr) (fd : FuncData) (ps : List Str) (sp : Sp) : Prop where
  len : ∀ vs H Q E, sp vs H Q E → vs.length = ps.length
  run : ∀ (A : Around) (outer : List Env) (s : Shared) (H : Hp) (args : Args) (us : List Value) (vs : List V) (Q : VK) (E : XK), RoomH k A → Env0 P w K mg base A outer s H → BindsTo s fd args (ps.zip us) → Vals vs us → sp vs H Q E →
    codeAny (model P w) A (.call (.ref f) args) (CR CX outer P w H s Q E) s
theorem FnHot.ok {P : Program} {w : World} {K : PySem.W.Frag} {mg : Str → Option Value} {base : Heap} {CX : CXT} {k : Nat} {f : Addr} {fd : FuncData} {ps : List Str} {sp : Sp} (F : FnHot P w K mg base CX k f fd ps sp) : FnOk P w K mg base CX k f fd ps sp :=
  ⟨F.len, fun A outer s H args us vs Q E hr => F.run A outer s H args us vs Q E (roomH_of hr)⟩
section
variable {X : Cx} {k n : Nat} {f : Addr} {fd : FuncData} {pn : List Str} {M : FM} {x : Str} {p pos : Pos} {e : Expr} {es : List Expr} {cr : CA}
end
/-! ### isinstance(e, C), e a caught exception -/
section
variable {X : Cx} {cs : List Str} {x : Expr} {c : CE} {C : Str} {p p2 pos : Pos}
end
end TN
namespace TN
open PySem PySem.Spec PyProof.Rows L2

/-! ### the head, with what is known of the exceptions' classes -/
abbrev AlX : Type := He.AlD × Bool
def obsX (n : Nat) (fa : List He.Fa) (fn : List He.DefD) (cs : List Str) (g : Addr → Option Obj) : AlX := (He.obsD fa fn (frN (He.frG g (He.asD g n))), exAll cs (frN (He.frG g (He.asD g n))))
end TN
namespace TN
open PySem PySem.Spec PyProof.Rows L2
/-! exceptions, plainly -/
/-! what is no place -/
end TN
namespace TN
open PySem PySem.Spec PyProof.Rows L2
end TN
namespace TN
open PySem PySem.Spec PyProof.Rows L2

/-! ### defs that hand out a tuple of values and of new lists -/
abbrev UI := List (D × Bool)
inductive UIs (K : PySem.W.Frag) (G H B : Hp) : List V → UI → Prop
  | nil : UIs K G H B [] []
  | cons {v : V} {vs : List V} {d : D} {b : Bool} {is : UI} : (b = false → Fz K G v d) → (b = true → ∃ a, v = .ref a ∧ G a = none ∧ B a = none ∧ Cont K G H a d) →
      (b = true → ∀ (j : Nat) (w : V) (d' : D), vs[j]? = some w → is[j]? = some (d', true) → w ≠ v) → UIs K G H B vs is → UIs K G H B (v :: vs) ((d, b) :: is)
theorem UIs.len {K : PySem.W.Frag} {G H B : Hp} : ∀ {vs : List V} {is : UI}, UIs K G H B vs is → vs.length = is.length
  | _, _, .nil => rfl
  | _, _, .cons _ _ _ r => by simp [r.len]
/-! ### the displayed tuple: new lists stay new -/
inductive PlAo (K : PySem.W.Frag) (B : Hp) (σ : L2.St) (ρ : Rho) (G H : Hp) : List V → List Pl → Prop
  | nil : PlAo K B σ ρ G H [] []
  | cons {v : V} {vs : List V} {p : Pl} {ps : List Pl} : PlOk K B σ ρ G H v p → (∀ d, p = .tmp d → ∀ (j : Nat) (w : V) (d' : D), vs[j]? = some w → ps[j]? = some (.tmp d') → w ≠ v) → PlAo K B σ ρ G H vs ps → PlAo K B σ ρ G H (v :: vs) (p :: ps)
theorem PlAo.len {K : PySem.W.Frag} {B : Hp} {σ : L2.St} {ρ : Rho} {G H : Hp} : ∀ {vs : List V} {ps : List Pl}, PlAo K B σ ρ G H vs ps → vs.length = ps.length
  | _, _, .nil => rfl
  | _, _, .cons _ _ r => by simp [r.len]
section
variable {X : Cx} {e : Expr} {es : List Expr} {c : CE} {r : CA}
end

/-! ### the items -/
/-! ### a body that ends with return (a, b, ..) -/
section
variable {X : Cx} {es : List Expr} {c : CS} {ca : CA} {pos pos' : Pos}
end
section
variable {P : Program} {w : World} {K : PySem.W.Frag} {mg : Str → Option Value} {base : Heap} {x qual : Str} {params : Arguments} {body : List Stmt} {scope : Scope} {f : Addr} {fd : FuncData}
end
/-! ### a, b, .. = f(..) -/
end TN
namespace TN
open PySem PySem.Spec PyProof.Rows L2

/-! ### steps numberings, plainly -/
/-! ### the spine -/
end TN
namespace TN
open PySem PySem.Spec PyProof.Rows L2
/-! webs made with their steps numberings -/
end TN
namespace TN
open PySem PySem.Spec PyProof.Rows L2
/-! rings and sides -/
end TN
namespace TN
open PySem PySem.Spec PyProof.Rows L2
/-! renamed -/
end TN
namespace TN
open PySem PySem.Spec PyProof.Rows L2
end TN
namespace TN
open PySem PySem.Spec PyProof.Rows L2
end TN
namespace TN
open PySem PySem.Spec PyProof.Rows L2
/-! dicts of whole numbers as sets -/
/-! a steps numbering, by dicts -/
end TN
namespace TN
open PySem PySem.Spec PyProof.Rows L2
/-! the look by dicts -/
end TN
namespace TN
open PySem PySem.Spec PyProof.Rows L2
/-! what is made of a numbering -/
end TN
namespace TN
open PySem PySem.Spec PyProof.Rows L2
/-! parted steps numberings -/
/-! plainly -/
section
variable {n : Nat} {ts : List (Nat × Nat)} {ns : List Int}
/-! what they compute -/
end
end TN
namespace TN
open PySem PySem.Spec PyProof.Rows L2

/-! ### exceptions with fields: what must be known of their classes -/
def oexB (K : PySem.W.Frag) (C : Addr) : Bool := (match K.lookup C with
  | some ⟨.type "type", _, .cls cd, sl⟩ => (match cd.mro, sl.toList with
    | .ref C' :: bm, [_, _, _, _, some (.builtin n), _] => C' == C && (n == "ValueError.__new__" && (!cd.hasDel && (cd.hasDict && PySem.HandSPX.refsVE bm)))
    | _, _ => false)
  | _ => false) && (decide (PySem.W.findIn K (.ref C) "__setattr__" = some (some (.builtin "object.__setattr__"))) && (decide (PySem.W.subIn K (.ref C) (.type "BaseException") = some true) && (decide (PySem.W.typeIn K (.ref C) = some (.type "type")) && PySem.W.keepIn K (.ref C))))
/-- a class x with these fields -/
def iniA (K : PySem.W.Frag) (x : Str) : Addr := He.fAd K (x, some "__init__")
def oxB (K : PySem.W.Frag) (p : Str × List Str) : Bool := oexB K (He.ga K p.1) && (decide (PySem.W.findIn K (.ref (He.ga K p.1)) "__init__" = some (some (.ref (iniA K p.1)))) && (decide (PySem.W.typeIn K (.ref (iniA K p.1)) = some (.type "function")) &&
  p.2.all fun f => decide (PySem.W.findIn K (.ref (He.ga K p.1)) f = some none)))
def oxAll (rs : List (Str × List Str)) (K : PySem.W.Frag) : Bool := rs.all (oxB K)
/-! ### the head -/
abbrev AlY : Type := AlX × Bool
def obsY (n : Nat) (fa : List He.Fa) (fn : List He.DefD) (cs : List Str) (rs : List (Str × List Str)) (g : Addr → Option Obj) : AlY := (obsX n fa fn cs g, oxAll rs (frN (He.frG g (He.asD g n))))
/-! ### making one -/
section
variable {P : Program} {w : World} {K : PySem.W.Frag} {mg : Str → Option Value} {base : Heap} {x qual : Str} {params : Arguments} {body : List Stmt} {scope : Scope} {fd : FuncData}
end
/-! ### raise X(e, ..) -/
/-! ### e.f, e a caught exception -/
end TN
namespace TN
open PySem PySem.Spec PyProof.Rows L2
/-! webs joined by marks; round numberings as the laws look at them; the greatest divisor -/
section
variable {n : Nat} {ts : List (Nat × Nat)}
/-! a round numbering, as the laws look at it -/
end
/-! the greatest divisor -/
end TN
namespace TN
open PySem PySem.Spec PyProof.Rows L2
/-! spines with legs, and the cases of round numberings -/
end TN
namespace TN
open PySem PySem.Spec PyProof.Rows L2
end TN
namespace TN
open PySem PySem.Spec PyProof.Rows L2
end TN
namespace TN
open PySem PySem.Spec PyProof.Rows L2
/-! pieces of webs -/
/-! marks, plainly -/
/-! pieces, plainly -/
/-! one piece -/
end TN
namespace TN
open PySem PySem.Spec PyProof.Rows L2
section
variable {n : Nat} {ts : List (Nat × Nat)}
/-! all pieces -/
end
end TN
namespace TN
open PySem PySem.Spec PyProof.Rows L2
/-! two sides of webs -/
section
variable {n : Nat} {ts : List (Nat × Nat)}
/-! the dict of sides -/
/-! the walk through the pieces -/
end
end TN
namespace TN
open PySem PySem.Spec PyProof.Rows L2
section
variable {n : Nat} {ts : List (Nat × Nat)}
end
end TN
namespace TN
open PySem PySem.Spec PyProof.Rows L2
/-! a, b = a list -/
end TN
namespace TN
open PySem PySem.Spec PyProof.Rows L2
/-! products: wide whole numbers, tuples so often -/
end TN
namespace TN
open PySem PySem.Spec PyProof.Rows L2
/-! is, is not: of a truth anything -/
end TN
namespace TN
open PySem PySem.Spec PyProof.Rows L2
/-! spines numbered from both ends -/
section
variable (legs : List Nat)
end
end TN
namespace TNO
open TN
open PySem PySem.Spec PyProof.Rows L2
/-! what is wanted of a run, told from its end: each step leads to what is wanted of the next -/
section
variable {α : Type} {ρ ρ1 ρ2 : Rho} {E : Xc → Rho → Prop} {d : D} {ds : List D} {i j : Nat}
/-! truths -/
section
variable {A B : Prop}
end
/-! looking -/
/-! expressions -/
section
variable {Q : Pl → Rho → Prop} {a b c : CE} {ca : CA}
end
/-! what is walked -/
section
variable {Q : List D → Rho → Prop} {a b c : CE}
end
/-! statements -/
section
variable {N : Rho → Prop} {T : D → Bool → Rho → Prop} {a b : CS} {c : CE} {t : CB} {g : D → Rho → Option Rho}
end
/-! targets -/
section
variable {N : Rho → Prop}
end
/-! comprehensions -/
section
variable {Q : Pl → Rho → Prop} {g : D → Rho → Option Rho} {t : CB} {e : CE} {vs : List Nat}
end
/-! calls -/
section
variable {Q : Pl → Rho → Prop} {M : FM} {ps : List Pl} {as : List (D × Md)} {outs : List Slot} {x : Xc}
end
section
end
/-! defs -/
section
variable {n m : Nat} {c : CS} {as : List (D × Md)} {fr : Bool} {r : FR} {o : List Slot} {x : Xc}
end
end
/-! what operators give, asked for from the end -/
section
variable {Q : Pl → Prop} {i j : Int} {a b : List D} {P : D → D → Prop} {x : D}
end
end TNO
namespace TN
open PySem PySem.Spec PyProof.Rows L2
/-! the same over words that nothing unfolds by itself -/
/-! what is wanted of a run, told from its end: each step leads to what is wanted of the next -/
section
variable {α : Type} {ρ ρ1 ρ2 : Rho} {E : Xc → Rho → Prop} {d : D} {ds : List D} {i j : Nat}
/-! truths -/
section
variable {A B : Prop}
end
/-! looking -/
/-! expressions -/
section
variable {Q : Pl → Rho → Prop} {a b c : CE} {ca : CA}
end
/-! what is walked -/
section
variable {Q : List D → Rho → Prop} {a b c : CE}
end
/-! statements -/
section
variable {N : Rho → Prop} {T : D → Bool → Rho → Prop} {a b : CS} {c : CE} {t : CB} {g : D → Rho → Option Rho}
end
/-! targets -/
section
variable {N : Rho → Prop}
end
/-! comprehensions -/
section
variable {Q : Pl → Rho → Prop} {g : D → Rho → Option Rho} {t : CB} {e : CE} {vs : List Nat}
end
/-! calls -/
section
variable {Q : Pl → Rho → Prop} {M : FM} {ps : List Pl} {as : List (D × Md)} {outs : List Slot} {x : Xc}
end
section
end
/-! defs -/
section
variable {n m : Nat} {c : CS} {as : List (D × Md)} {fr : Bool} {r : FR} {o : List Slot} {x : Xc}
end
end
/-! what operators give, asked for from the end -/
section
variable {Q : Pl → Prop} {i j : Int} {a b : List D} {P : D → D → Prop} {x : D}
end
end TN
namespace TN
open PySem PySem.Spec PyProof.Rows L2
section
variable {ρ ρ1 : Rho} {N : Rho → Prop} {T : D → Bool → Rho → Prop} {E : Xc → Rho → Prop} {g : D → Rho → Option Rho} {b : CS}
end
end TN
namespace TN
open PySem PySem.Spec PyProof.Rows L2
section
variable (legs : List Nat)
end
end TN
namespace TN
open PySem PySem.Spec PyProof.Rows L2
/-! parted numberings of trees, plainly -/
section
variable {n : Nat} {ts : List (Nat × Nat)} {ns : List Int} {lo : Int}
/-! the round numbering by it -/
end
/-! spines -/
section
variable (legs : List Nat)
end
end TN
namespace TN
open PySem PySem.Spec PyProof.Rows L2
end TN
namespace TN
open PySem PySem.Spec PyProof.Rows L2
/-! ### displays of dicts -/
section
variable {X : Cx}
section
variable {K : PySem.W.Frag} {L : L2.St} {B G H : Hp} {σ : L2.St} {ρ : Rho} {p : Addr} {o : HO}
end
end
end TN
namespace TN
open PySem PySem.Spec PyProof.Rows L2
/-! ### d.get(k, z) -/
section
variable {X : Cx}
end
/-! ### constants of the module: dicts of texts and ints -/
section
variable {X : Cx} {x : Str} {es : List (Str × Int)} {e : Expr} {c : CE} {pos p : Pos}
end
abbrev Tb := Str × List (Str × Int)
def tabObs (ts : List Tb) (K : PySem.W.Frag) : List (Option (List (Option (Str × Int)))) × Bool := (ts.map fun t => He.dicW K (He.ga K t.1), ts.all fun t => He.Fa.ok K (.glo t.1) && He.valsB K (He.ga K t.1) (t.2.map fun q => (q.1, He.Dv.int q.2)))
def tabVal (ts : List Tb) (w : World) : List (Option (List (Option (Str × Int)))) × Bool := (ts.map fun t => some (He.keysIn w.params (t.2.map (·.1))), true)
/-! ### the head, with these -/
abbrev AlZ : Type := AlY × (List (Option (List (Option (Str × Int)))) × Bool)
def obsZ (n : Nat) (fa : List He.Fa) (fn : List He.DefD) (cs : List Str) (rs : List (Str × List Str)) (ts : List Tb) (g : Addr → Option Obj) : AlZ := (obsY n fa fn cs rs g, tabObs ts (frN (He.frG g (He.asD g n))))
def hookZ (n : Nat) (fa : List He.Fa) (fn : List He.DefD) (cs : List Str) (rs : List (Str × List Str)) (ts : List Tb) : PySem.W.Hook where
  α := AlZ
  obs := fun s => obsZ n fa fn cs rs ts s.heap.get?
  val := fun w => (((He.valD fn, true), true), tabVal ts w)
  says := fun w h => ∃ K : PySem.W.Frag, K.In h ∧ NoLst K ∧ He.SaysD fa fn K ∧ exAll cs K = true ∧ oxAll rs K = true ∧ tabObs ts K = tabVal ts w
  of := fun _ _ e => ⟨_, frN_in, frN_no _, congrArg (fun z : AlZ => z.1.1.1) e, congrArg (fun z : AlZ => z.1.1.2) e, congrArg (fun z : AlZ => z.1.2) e, congrArg Prod.snd e⟩
  keeps := fun _ _ _ ⟨K, hK, n, c⟩ k => ⟨K, PySem.W.Frag.In.keeps hK k, n, c⟩
end TN
namespace TN
open PySem PySem.Spec PyProof.Rows L2
/-! ### ties in order -/
/-! ### kinds -/
end TN
namespace TN
open PySem PySem.Spec PyProof.Rows L2
end TN
namespace TN
open PySem PySem.Spec PyProof.Rows L2
end TN
namespace TN
open PySem PySem.Spec PyProof.Rows L2
/-! ### defs that hand out new lists in a tuple, from their end -/
/-! ### the law's webs of kinds -/
section
variable {C : Nat → Nat → Prop} [∀ a b, Decidable (C a b)]
end
end TN
namespace TN
open PySem PySem.Spec PyProof.Rows L2
/-! ### equal webs -/
/-! ### f(g(..), x) where g's list is lent -/
end TN
namespace TN
open PySem PySem.Spec PyProof.Rows L2
/-! ### steps numberings of kinds, plainly -/
/-! ### the package's runs -/
end TN
namespace TN
open PySem PySem.Spec PyProof.Rows L2
/-! steps_for, parted_for and the law's look at a steps numbering, as runs -/
end TN
namespace TN
open PySem PySem.Spec PyProof.Rows L2
/-! kinds compared, plainly -/
end TN
namespace TNO
open TN
open PySem PySem.Spec PyProof.Rows L2
/-! comprehensions over an own list, told from their end -/
end TNO
namespace TN
open PySem PySem.Spec PyProof.Rows L2
end TN
namespace TN
open PySem PySem.Spec PyProof.Rows L2
/-! ### copies that go round, plainly -/
section
variable {C M t t' : Nat} {p q : Int × Int}
end
/-! ### .. and as runs -/
end TN
namespace TNO
open TN
open PySem PySem.Spec PyProof.Rows L2
/-! i in range(..), told from its end -/
end TNO
namespace TN
open PySem PySem.Spec PyProof.Rows L2
end TN
namespace TN
open PySem PySem.Spec PyProof.Rows L2
end TN
namespace TN
open PySem PySem.Spec PyProof.Rows L2
/-! the sums of round numberings, turned and so often -/
section
variable {n : Nat} {ts : List (Nat × Nat)} {ns : List Int}
end
/-! ### bars of round numberings, plainly -/
section
variable {n : Nat} {ts : List (Nat × Nat)} {ns : List Int}
end
end TN
namespace TN
open PySem PySem.Spec PyProof.Rows L2
/-! ### how many pieces there are, plainly -/
end TN
namespace TN
open PySem PySem.Spec PyProof.Rows L2
/-! ### trees have two sides; pieces hold all places, once; plainly -/
end TN
namespace TN
open PySem PySem.Spec PyProof.Rows L2
/-! ### kinds by their words, plainly -/
end TN
namespace TN
open PySem PySem.Spec PyProof.Rows L2
/-! ### s.upper() -/
end TN
namespace TN
open PySem PySem.Spec PyProof.Rows L2
/-! ### kind_form of a thing of any form -/
end TN
namespace TN
open PySem PySem.Spec PyProof.Rows L2
/-! ### kinds by form, too great ones too -/
end TN
namespace TN
open PySem PySem.Spec PyProof.Rows L2
/-! ### kind_good of a thing of any form -/
end TN
namespace TNO
open TN
open PySem PySem.Spec PyProof.Rows L2
/-! d.get(k, z), told from its end -/
end TNO
namespace TN
open PySem PySem.Spec PyProof.Rows L2
end TN
/-! ### enumerate(reversed(xs)) -/
namespace PySem
open Sem (wp)
open AutoSeq1 (wpAny_loadPart')
section
variable {prog : Program} {w : World} {A : Around} {E : Value → Shared → Prop} {s : Shared}
end
section
variable {prog : Program} {w : World} {A : Around} {E : Value → Shared → Prop} {s : Shared}
end
end PySem
namespace TN
open PySem PySem.Spec PyProof.Rows L2
section
variable {X : Cx} {e : Expr} {c : CE} {p pos : Pos}
end
end TN
namespace TNO
open PySem PySem.Spec PyProof.Rows L2 TN
end TNO
namespace TN
open PySem PySem.Spec PyProof.Rows L2
end TN
/-! ### zip of a list with a tuple, of a tuple with a list (printed by mkL90.py) -/
namespace PySem
open Sem (wp)
section
variable {prog : Program} {w : World} {A : Around} {E : Value → Shared → Prop} {s : Shared}
end
end PySem
namespace PySem
open Sem (wp)
section
variable {prog : Program} {w : World} {A : Around} {E : Value → Shared → Prop} {s : Shared}
end
end PySem
namespace TN
open PySem PySem.Spec PyProof.Rows L2
end TN
namespace TN
open PySem PySem.Spec PyProof.Rows L2
end TN
namespace TN
open PySem PySem.Spec PyProof.Rows L2
section
variable {X : Cx} {e e2 : Expr} {c c2 : CE} {p pos : Pos}
end
end TN
namespace TNO
open PySem PySem.Spec PyProof.Rows L2 TN
end TNO
namespace TN
open PySem PySem.Spec PyProof.Rows L2
end TN
/-! ### set(a) == set(b), of whole numbers -/
namespace PySem
open Sem (wp)
section
variable {prog : Program} {w : World} {A : Around} {E : Value → Shared → Prop} {s : Shared}
end
end PySem
namespace TN
open PySem PySem.Spec PyProof.Rows L2
section
variable {X : Cx} {a b : Expr} {ca cb : CE} {p p2 q q2 pos : Pos}
end
end TN
namespace TNO
open PySem PySem.Spec PyProof.Rows L2 TN
end TNO
namespace TN
open PySem PySem.Spec PyProof.Rows L2
end TN
/-! ### min(a, b, c) -/
namespace TN
open PySem PySem.Spec PyProof.Rows L2
end TN
namespace TN
open PySem PySem.Spec PyProof.Rows L2
/-! ### bars -/
section
variable {n : Nat} {ts : List (Nat × Nat)}
/-! ### round_from, by the package -/
end
/-! ### round_for -/
end TN
namespace TN
open PySem PySem.Spec PyProof.Rows L2
/-! ### the laws' look at bars -/
section
variable {n : Nat} {ts : List (Nat × Nat)}
end
end TN
namespace TN
open PySem PySem.Spec PyProof.Rows L2
section
variable {n : Nat} {ts : List (Nat × Nat)}
end
/-! ### the webs of the laws on bars -/
end TN
namespace TNO
open PySem PySem.Spec PyProof.Rows L2 TN
end TNO
namespace TN
open PySem PySem.Spec PyProof.Rows L2
end TN
namespace TN
open PySem PySem.Spec PyProof.Rows L2
/-! ### orders -/
/-! ### total_span -/
end TN
namespace TN
open PySem PySem.Spec PyProof.Rows L2
/-! ### total numberings -/
section
variable {n : Nat} {ts : List (Nat × Nat)} {P T : List Int}
/-! bars -/
end

end TN
/-! ### isinstance(x, (list, tuple)) -/
namespace TN
open PySem PySem.Spec PyProof.Rows L2
section
variable {X : Cx} {e : Expr} {te : TE} {c : CE} {p p2 p3 pos tpos : Pos}
end
end TN
namespace TN
open PySem PySem.Spec PyProof.Rows L2
/-! ### unlike numberings: the package's ways -/
section
variable {n : Nat} {ts : List (Nat × Nat)}
end
/-! the laws' sums -/
section
variable {n : Nat} {ts : List (Nat × Nat)}
end

end TN
namespace TN
open PySem PySem.Spec PyProof.Rows L2
section
variable {n : Nat} {ts : List (Nat × Nat)}
end
end TN
namespace TN
open PySem PySem.Spec PyProof.Rows L2
/-! ### numbers put by a hub: the sums are unlike -/
section
variable {n : Nat} {ts : List (Nat × Nat)}
variable {hb : Nat}
end
end TN
namespace TN
open PySem PySem.Spec PyProof.Rows L2
/-! ### unlike_by by a hub, unlike_for of kinds -/
section
variable {n : Nat} {ts : List (Nat × Nat)} {hb : Nat}
end
section
variable {n : Nat} {ts : List (Nat × Nat)}
end
end TN
namespace TN
open PySem PySem.Spec PyProof.Rows L2

/-! ### a comprehension over a name's own dict of tuple keys: the dict is held and locked -/
section
variable {K : PySem.W.Frag} {L : L2.St} {B G G1 H H1 : Hp} {σ : L2.St} {ρ : Rho} {a : Addr} {o : HO} {xs : List V} {ds : List D} {j : Nat} {m : Md}
end
section
variable {X : Cx} {elt tg iter : Expr} {ifs : List Expr} {scope : Scope} {own : List (Str × Nat)} {pos : Pos} {ci : CI} {g : D → Rho → Option Rho} {t : CB} {e : CE}
variable {ws : List Nat} {x y : Str} {py px spos : Pos} {j : Nat}
end
end TN
namespace TNO
open TN
open PySem PySem.Spec PyProof.Rows L2
/-! comprehensions over an own dict of ties, told from their end -/
end TNO
namespace TN
open PySem PySem.Spec PyProof.Rows L2
/-! ### the laws' webs with a hub -/
end TN
namespace TN
open PySem PySem.Spec PyProof.Rows L2
/-! ### numbers handed to unlike_by: lists, tuples, in any order; what is none -/
end TN
namespace K69
open PySem PySem.Spec PyProof.Rows L2 TN
def XS : List Str := ["NoPlace", "NoKind", "NoNumber"]
def RS : List (Str × List Str) := []
def TS : List Tb := [("LEAST", [("ring", 3), ("full", 1), ("wheel", 3), ("fan", 1)])]
end K69
namespace K69
open PySem PySem.Spec PyProof.Rows L2 TN
/-! the sum of all sums -/
/-! a web with a hub has no bar -/
section
variable {n hb : Nat} {ts : List (Nat × Nat)}
end
/-! runs -/
/-! the numbers put, of a lent list -/
end K69
namespace K69
open PySem PySem.Spec PyProof.Rows L2 TN
/-! one tie more -/
/-! the law's look at what is put -/
end K69
namespace K69
open PySem PySem.Spec PyProof.Rows L2 TN
end K69
namespace K69
open PySem PySem.Spec PyProof.Rows L2 TN
abbrev prog : Program := PySem.Challenge.pw_tienumbers_k69_whole_hubs_and_kinds
def top (i : Nat) : Stmt := prog.main.body.getD i (.Pass ⟨0, 0, 0, 0⟩)
abbrev s__law_cell_at : Stmt := top 39
def d__law_cell_at : He.DefD := ⟨("_law_cell_at", none), "_law_cell_at", "_law_cell_at", defArgs s__law_cell_at, defBody s__law_cell_at, defScope s__law_cell_at, [], []⟩
abbrev s__law_pen_of : Stmt := top 41
def d__law_pen_of : He.DefD := ⟨("_law_pen_of", none), "_law_pen_of", "_law_pen_of", defArgs s__law_pen_of, defBody s__law_pen_of, defScope s__law_pen_of, [], []⟩
abbrev s__law_next : Stmt := top 40
def d__law_next : He.DefD := ⟨("_law_next", none), "_law_next", "_law_next", defArgs s__law_next, defBody s__law_next, defScope s__law_next, [], []⟩
abbrev s__law_draw : Stmt := top 42
def d__law_draw : He.DefD := ⟨("_law_draw", none), "_law_draw", "_law_draw", defArgs s__law_draw, defBody s__law_draw, defScope s__law_draw, [], []⟩
abbrev s__law_order_of : Stmt := top 43
def d__law_order_of : He.DefD := ⟨("_law_order_of", none), "_law_order_of", "_law_order_of", defArgs s__law_order_of, defBody s__law_order_of, defScope s__law_order_of, [], []⟩
abbrev s__law_hub_web : Stmt := top 44
def d__law_hub_web : He.DefD := ⟨("_law_hub_web", none), "_law_hub_web", "_law_hub_web", defArgs s__law_hub_web, defBody s__law_hub_web, defScope s__law_hub_web, [], []⟩
abbrev s__law_numbers_of : Stmt := top 47
def d__law_numbers_of : He.DefD := ⟨("_law_numbers_of", none), "_law_numbers_of", "_law_numbers_of", defArgs s__law_numbers_of, defBody s__law_numbers_of, defScope s__law_numbers_of, [], []⟩
abbrev s_is_whole : Stmt := top 8
def d_is_whole : He.DefD := ⟨("is_whole", none), "is_whole", "is_whole", defArgs s_is_whole, defBody s_is_whole, defScope s_is_whole, [], []⟩
abbrev s_check_place : Stmt := top 9
def d_check_place : He.DefD := ⟨("check_place", none), "check_place", "check_place", defArgs s_check_place, defBody s_check_place, defScope s_check_place, [], []⟩
abbrev s_ties_at : Stmt := top 10
def d_ties_at : He.DefD := ⟨("ties_at", none), "ties_at", "ties_at", defArgs s_ties_at, defBody s_ties_at, defScope s_ties_at, [], []⟩
abbrev s_tie_counts : Stmt := top 11
def d_tie_counts : He.DefD := ⟨("tie_counts", none), "tie_counts", "tie_counts", defArgs s_tie_counts, defBody s_tie_counts, defScope s_tie_counts, [], []⟩
abbrev s_hubs_of : Stmt := top 12
def d_hubs_of : He.DefD := ⟨("hubs_of", none), "hubs_of", "hubs_of", defArgs s_hubs_of, defBody s_hubs_of, defScope s_hubs_of, [], []⟩
abbrev s_need_hub : Stmt := top 28
def d_need_hub : He.DefD := ⟨("need_hub", none), "need_hub", "need_hub", defArgs s_need_hub, defBody s_need_hub, defScope s_need_hub, [], []⟩
abbrev s_sums_at : Stmt := top 25
def d_sums_at : He.DefD := ⟨("sums_at", none), "sums_at", "sums_at", defArgs s_sums_at, defBody s_sums_at, defScope s_sums_at, [], []⟩
abbrev s_by_hub : Stmt := top 30
def d_by_hub : He.DefD := ⟨("by_hub", none), "by_hub", "by_hub", defArgs s_by_hub, defBody s_by_hub, defScope s_by_hub, [], []⟩
abbrev s_numbers_in : Stmt := top 29
def d_numbers_in : He.DefD := ⟨("numbers_in", none), "numbers_in", "numbers_in", defArgs s_numbers_in, defBody s_numbers_in, defScope s_numbers_in, [], []⟩
abbrev s_unlike_by : Stmt := top 31
def d_unlike_by : He.DefD := ⟨("unlike_by", none), "unlike_by", "unlike_by", defArgs s_unlike_by, defBody s_unlike_by, defScope s_unlike_by, [], []⟩
abbrev s__law_sums_of : Stmt := top 45
def d__law_sums_of : He.DefD := ⟨("_law_sums_of", none), "_law_sums_of", "_law_sums_of", defArgs s__law_sums_of, defBody s__law_sums_of, defScope s__law_sums_of, [], []⟩
abbrev s__law_unlike : Stmt := top 46
def d__law_unlike : He.DefD := ⟨("_law_unlike", none), "_law_unlike", "_law_unlike", defArgs s__law_unlike, defBody s__law_unlike, defScope s__law_unlike, [], []⟩
abbrev s_unlike_bar_holds : Stmt := top 36
def d_unlike_bar_holds : He.DefD := ⟨("unlike_bar_holds", none), "unlike_bar_holds", "unlike_bar_holds", defArgs s_unlike_bar_holds, defBody s_unlike_bar_holds, defScope s_unlike_bar_holds, [], []⟩
abbrev s_unlike_bar : Stmt := top 37
def d_unlike_bar : He.DefD := ⟨("unlike_bar", none), "unlike_bar", "unlike_bar", defArgs s_unlike_bar, defBody s_unlike_bar, defScope s_unlike_bar, [], []⟩
abbrev s__law_right : Stmt := top 48
def d__law_right : He.DefD := ⟨("_law_right", none), "_law_right", "_law_right", defArgs s__law_right, defBody s__law_right, defScope s__law_right, [], []⟩
abbrev s__law_more_tied : Stmt := top 49
def d__law_more_tied : He.DefD := ⟨("_law_more_tied", none), "_law_more_tied", "_law_more_tied", defArgs s__law_more_tied, defBody s__law_more_tied, defScope s__law_more_tied, [], []⟩
abbrev s_legs_good : Stmt := top 15
def d_legs_good : He.DefD := ⟨("legs_good", none), "legs_good", "legs_good", defArgs s_legs_good, defBody s_legs_good, defScope s_legs_good, [], []⟩
abbrev s_kind_form : Stmt := top 16
def d_kind_form : He.DefD := ⟨("kind_form", none), "kind_form", "kind_form", defArgs s_kind_form, defBody s_kind_form, defScope s_kind_form, [], []⟩
abbrev s_spine_ties : Stmt := top 17
def d_spine_ties : He.DefD := ⟨("spine_ties", none), "spine_ties", "spine_ties", defArgs s_spine_ties, defBody s_spine_ties, defScope s_spine_ties, [], []⟩
abbrev s_row_ties : Stmt := top 18
def d_row_ties : He.DefD := ⟨("row_ties", none), "row_ties", "row_ties", defArgs s_row_ties, defBody s_row_ties, defScope s_row_ties, [], []⟩
abbrev s_kind_ties : Stmt := top 19
def d_kind_ties : He.DefD := ⟨("kind_ties", none), "kind_ties", "kind_ties", defArgs s_kind_ties, defBody s_kind_ties, defScope s_kind_ties, [], []⟩
abbrev s_kind_good : Stmt := top 20
def d_kind_good : He.DefD := ⟨("kind_good", none), "kind_good", "kind_good", defArgs s_kind_good, defBody s_kind_good, defScope s_kind_good, [], []⟩
abbrev s_web_for : Stmt := top 21
def d_web_for : He.DefD := ⟨("web_for", none), "web_for", "web_for", defArgs s_web_for, defBody s_web_for, defScope s_web_for, [], []⟩
abbrev s_put_in_order : Stmt := top 34
def d_put_in_order : He.DefD := ⟨("put_in_order", none), "put_in_order", "put_in_order", defArgs s_put_in_order, defBody s_put_in_order, defScope s_put_in_order, [], []⟩
abbrev s_ring_numbers : Stmt := top 33
def d_ring_numbers : He.DefD := ⟨("ring_numbers", none), "ring_numbers", "ring_numbers", defArgs s_ring_numbers, defBody s_ring_numbers, defScope s_ring_numbers, [], []⟩
abbrev s_row_numbers : Stmt := top 32
def d_row_numbers : He.DefD := ⟨("row_numbers", none), "row_numbers", "row_numbers", defArgs s_row_numbers, defBody s_row_numbers, defScope s_row_numbers, [], []⟩
abbrev s_unlike_for : Stmt := top 35
def d_unlike_for : He.DefD := ⟨("unlike_for", none), "unlike_for", "unlike_for", defArgs s_unlike_for, defBody s_unlike_for, defScope s_unlike_for, [], []⟩
abbrev s_are_numbers : Stmt := top 23
def d_are_numbers : He.DefD := ⟨("are_numbers", none), "are_numbers", "are_numbers", defArgs s_are_numbers, defBody s_are_numbers, defScope s_are_numbers, [], []⟩
abbrev s_sums_unlike : Stmt := top 26
def d_sums_unlike : He.DefD := ⟨("sums_unlike", none), "sums_unlike", "sums_unlike", defArgs s_sums_unlike, defBody s_sums_unlike, defScope s_sums_unlike, [], []⟩
abbrev s_unlike_good : Stmt := top 27
def d_unlike_good : He.DefD := ⟨("unlike_good", none), "unlike_good", "unlike_good", defArgs s_unlike_good, defBody s_unlike_good, defScope s_unlike_good, [], []⟩
abbrev s_law : Stmt := top 50
def d_law : He.DefD := ⟨("law", none), "law", "law", defArgs s_law, defBody s_law, defScope s_law, [], []⟩
end K69
namespace K69
open PySem PySem.Spec PyProof.Rows L2 TN
def fns : List He.DefD := [d__law_cell_at, d__law_pen_of, d__law_next, d__law_draw, d__law_order_of, d__law_hub_web, d__law_numbers_of, d_is_whole, d_check_place, d_ties_at, d_tie_counts, d_hubs_of, d_need_hub, d_sums_at, d_by_hub, d_numbers_in, d_unlike_by, d__law_sums_of, d__law_unlike, d_unlike_bar_holds, d_unlike_bar, d__law_right, d__law_more_tied, d_legs_good, d_kind_form, d_spine_ties, d_row_ties, d_kind_ties, d_kind_good, d_web_for, d_put_in_order, d_ring_numbers, d_row_numbers, d_unlike_for, d_are_numbers, d_sums_unlike, d_unlike_good, d_law]
def fas : List He.Fa := [.glo "_law_cell_at", .glo "_law_pen_of", .glo "_law_next", .glo "_law_draw", .glo "_law_order_of", .glo "_law_hub_web", .glo "_law_numbers_of", .glo "is_whole", .glo "check_place", .glo "ties_at", .glo "tie_counts", .glo "hubs_of", .glo "need_hub", .glo "sums_at", .glo "by_hub", .glo "numbers_in", .glo "unlike_by", .glo "_law_sums_of", .glo "_law_unlike", .glo "unlike_bar_holds", .glo "unlike_bar", .glo "_law_right", .glo "_law_more_tied", .glo "legs_good", .glo "kind_form", .glo "spine_ties", .glo "row_ties", .glo "kind_ties", .glo "kind_good", .glo "web_for", .glo "put_in_order", .glo "ring_numbers", .glo "row_numbers", .glo "unlike_for", .glo "are_numbers", .glo "sums_unlike", .glo "unlike_good", .glo "law", .free "len", .free "max", .free "int", .free "range", .free "list", .free "min", .free "sorted", .free "tuple", .free "isinstance", .free "bool", .exc "NoPlace", .free "enumerate", .exc "NoKind", .free "zip", .free "sum", .exc "NoNumber", .free "all", .free "set", .free "str", .int "MOST_PLACES" (40), .int "MOST_TIES" (60)]
abbrev R : PySem.W.OpenRow := PySem.W.OpenLaw.row PySem.Challenge.rw_tienumbers_k69_whole_hubs_and_kinds
abbrev hk : PySem.W.Hook := hookZ 4 fas fns XS RS TS
def ob (s : PySem.W.SharedT) : AlZ := obsZ 4 fas fns XS RS TS (HandSHeadRun.getT s)
theorem run : ∀ (w : World), HandSHeadRun.RunEq R (PySem.W.view R.prog [50]) hk ob 6000 ((("TieError" : Str) :: "NoPlace" :: "NoKind" :: "NoNumber" :: "MOST_PLACES" :: "MOST_TIES" :: "is_whole" :: "check_place" :: "ties_at" :: "tie_counts" :: "hubs_of" :: "LEAST" :: "legs_good" :: "kind_form" :: "spine_ties" :: "row_ties" :: "kind_ties" :: "kind_good" :: "web_for" :: "are_numbers" :: "sums_at" :: "sums_unlike" :: "unlike_good" :: "need_hub" :: "numbers_in" :: "by_hub" :: "unlike_by" :: "row_numbers" :: "ring_numbers" :: "put_in_order" :: "unlike_for" :: "unlike_bar_holds" :: "unlike_bar" :: "_law_cell_at" :: "_law_next" :: "_law_pen_of" :: "_law_draw" :: "_law_order_of" :: "_law_hub_web" :: "_law_sums_of" :: "_law_unlike" :: "_law_numbers_of" :: "_law_right" :: "_law_more_tied" :: [])) w :=
  PySem.W.byRow2 "special-get-raises" (fun w => by
    intro os
    kernel_rfl) (fun w => by
    intro os
    kernel_rfl)
end K69
open PySem PySem.W PySem.Calls PyProof.Rows
end
namespace TN
open PySem PySem.Spec PyProof.Rows L2
/-! a caught exception, as data: its class's name, its fields -/
def isX : D → Bool
  | .dict ((.bool true, _) :: _) => true
  | _ => false
theorem sqt {K : PySem.W.Frag} {G : Hp} {a : Addr} {xs : List V} (h : G a = some (.tup xs)) : SqT K G a xs := .inl (.inl h)
theorem Same.tp {K : PySem.W.Frag} {H H' : Hp} {a : Addr} {xs : List V} (e : Same H H') (h : SqT K H a xs) : SqT K H' a xs := by
  rcases h with (h | ⟨o, h⟩) | h
  · exact .inl (.inl (e _ _ h))
  · exact .inl (.inr ⟨o, e _ _ h⟩)
  · exact .inr h
section
variable {K : PySem.W.Frag} {G G' : Hp}
end
/-! ### lists of data -/
section
variable {K : PySem.W.Frag} {G G' H H' : Hp}
theorem FzA.append : ∀ {vs ws : List V} {ds es : List D}, FzA K G vs ds → FzA K G ws es → FzA K G (vs ++ ws) (ds ++ es)
  | _, _, _, _, .nil, h => h
  | _, _, _, _, .cons a b, h => .cons a (b.append h)
theorem FzA.take : ∀ {vs : List V} {ds : List D} (n : Nat), FzA K G vs ds → FzA K G (vs.take n) (ds.take n)
  | _, _, 0, _ => by simp; exact .nil
  | _, _, _ + 1, .nil => by simp; exact .nil
  | _, _, n + 1, .cons a b => .cons a (b.take n)
theorem FzA.drop : ∀ {vs : List V} {ds : List D} (n : Nat), FzA K G vs ds → FzA K G (vs.drop n) (ds.drop n)
  | _, _, 0, h => h
  | _, _, _ + 1, .nil => .nil
  | _, _, n + 1, .cons _ b => b.drop n
theorem FzA.eraseIdx : ∀ {vs : List V} {ds : List D} (i : Nat), FzA K G vs ds → FzA K G (vs.eraseIdx i) (ds.eraseIdx i)
  | _, _, _, .nil => .nil
  | _, _, 0, .cons _ b => b
  | _, _, i + 1, .cons a b => .cons a (b.eraseIdx i)
theorem FzA.dropLast {vs : List V} {ds : List D} (h : FzA K G vs ds) : FzA K G vs.dropLast ds.dropLast := by
  rw [List.dropLast_eq_take, List.dropLast_eq_take, h.length]; exact h.take _
theorem FzA.reverse : ∀ {vs : List V} {ds : List D}, FzA K G vs ds → FzA K G vs.reverse ds.reverse
  | _, _, .nil => .nil
  | _, _, .cons a b => by simpa using b.reverse.append (.cons a .nil)
theorem FzA.rep {vs : List V} {ds : List D} (h : FzA K G vs ds) : ∀ k : Nat, FzA K G (List.replicate k vs).flatten (List.replicate k ds).flatten
  | 0 => .nil
  | k + 1 => by simpa [List.replicate_succ] using h.append (h.rep k)
theorem FzA.ints : ∀ {vs : List V} {ns : List Int}, FzA K G vs (ns.map PyData.int) → vs = ns.map V.int
  | _, [], .nil => rfl
  | _, n :: ns, .cons a b => by cases a; rw [FzA.ints b]; rfl
theorem FzA.of_ints : ∀ (ns : List Int), FzA K G (ns.map V.int) (ns.map PyData.int)
  | [] => .nil
  | n :: ns => .cons (.int n) (of_ints ns)
theorem FzA.bls : ∀ {vs : List V} {ns : List Bool}, FzA K G vs (ns.map PyData.bool) → vs = ns.map V.bl
  | _, [], .nil => rfl
  | _, n :: ns, .cons a b => by cases a; rw [FzA.bls b]; rfl
end

/-! ### modes, slots, places -/
def R.bind {α β : Type} (r : R α) (k : α → Rho → R β) : R β := match r with
  | .ok a ρ => k a ρ
  | .exc x ρ => .exc x ρ
  | .bad => .bad
/-- the value is kept somewhere: a name's own list is frozen -/
def frz (p : Pl) (ρ : Rho) : Option (D × Rho) := match p with
  | .val d => some (d, ρ)
  | .tmp d => some (d, ρ)
  | .slot i => match ρ[i]? with
    | some (some (d, .own)) => some (d, ρ.set i (some (d, .fz)))
    | some (some (d, .lent)) => some (d, ρ.set i (some (d, .lz)))
    | some (some (d, _)) => some (d, ρ)
    | _ => none

/-! ### the state -/
section
variable (K : PySem.W.Frag) (G H B : Hp)
end
section
variable {K : PySem.W.Frag} {L : L2.St} {B G G' H H' : Hp} {σ : L2.St} {ρ : Rho} {v : V} {d : D} {a : Addr}
theorem Cont.notTup {vs : List V} (c : Cont K G H a d) (h : H a = some (.tup vs)) : False := by
  cases c with
  | lst e _ => rw [h] at e; cases e
  | dK e _ => rw [h] at e; cases e
  | dT e _ => rw [h] at e; cases e
/-- a new list is frozen at once -/
theorem PlOk.fix {p : Pl} (r : Rel K L B σ ρ G H) (h : PlOk K B σ ρ G H v p) : ∃ G', Rel K L B σ ρ G' H ∧ Ext B G G' ∧ PlFx K σ G' v p := by
  cases p with
  | val d => exact ⟨G, r, .refl, h⟩
  | slot i => exact ⟨G, r, .refl, h⟩
  | tmp d =>
    obtain ⟨a, rfl, h1, h2, c, hs⟩ := h
    obtain ⟨o, ho⟩ := c.there
    obtain ⟨r', e⟩ := r.freeze h2 h1 ho hs
    exact ⟨_, r', e, c.frozen e.same (by rw [upd_same, ho])⟩
/-- the value is kept -/
theorem PlFx.frz {p : Pl} {ρ' : Rho} (r : Rel K L B σ ρ G H) (h : PlFx K σ G v p) (e : frz p ρ = some (d, ρ')) : ∃ G', Rel K L B σ ρ' G' H ∧ Ext B G G' ∧ Fz K G' v d := by
  cases p with
  | val x => cases e; exact ⟨G, r, .refl, h⟩
  | tmp x => cases e; exact ⟨G, r, .refl, h⟩
  | slot i =>
    have h' : σ[i]? = some (some v) := h
    unfold TN.frz at e
    have key : ∀ d0 m m', ρ[i]? = some (some (d0, m)) → m.isFz = false → m'.isFz = true → (m = .lent → m' = .lz) → (m = .own → m' = .fz) → ∃ G', Rel K L B σ (ρ.set i (some (d0, m'))) G' H ∧ Ext B G G' ∧ Fz K G' v d0 := by
      intro d0 m m' q hm hm' hl1 hl2
      obtain ⟨v', h1, h2⟩ := r.slots i _ q
      rw [h'] at h1; cases h1
      obtain ⟨a, rfl, h3, h4, c⟩ := h2.own hm
      obtain ⟨o, ho⟩ := c.there
      have ee : Ext B G (upd G a o) := ⟨Same.upd_new h3, fun b h => by
        by_cases hb' : b = a
        · subst hb'; exact .inr (.inl h4)
        · rw [upd_ne hb'] at h; exact .inl h⟩
      have fz : Fz K (upd G a o) (.ref a) d0 := c.frozen ee.same (by rw [upd_same, ho])
      have hlt : i < ρ.length := (List.getElem?_eq_some_iff.mp q).1
      refine ⟨upd G a o, ⟨fun b u q' => ?_, r.base, by simpa using r.len, fun j p hp => ?_, fun j k p p' w hjk hp hp' hf hf' hw => ?_, fun j w hw => ?_⟩, ee, fz⟩
      · by_cases hb' : b = a
        · subst hb'; rw [upd_same] at q'; cases q'; exact ho
        · rw [upd_ne hb'] at q'; exact r.sub b u q'
      · by_cases hj : j = i
        · subst hj
          rw [List.getElem?_set_self hlt] at hp
          cases hp
          refine ⟨_, h', ?_⟩
          cases m' with
          | fz => exact fz
          | lz => exact fz
          | own => cases hm'
          | lent => cases hm'
        · rw [List.getElem?_set_ne (Ne.symm hj)] at hp
          obtain ⟨w, w1, w2⟩ := r.slots j p hp
          refine ⟨w, w1, w2.mono ee fun hf a' ea => ?_⟩
          subst ea
          have : a' ≠ a := fun z => by subst z; exact r.sep i j _ p _ (Ne.symm hj) q hp hm hf h' w1
          obtain ⟨a2, e2, h5, _, _⟩ := w2.own hf
          cases e2
          rw [upd_ne this]; exact h5
      · have hj : j ≠ i := fun z => by
          subst z; rw [List.getElem?_set_self hlt] at hp; cases hp
          rw [hm'] at hf; cases hf
        have hk : k ≠ i := fun z => by
          subst z; rw [List.getElem?_set_self hlt] at hp'; cases hp'
          rw [hm'] at hf'; cases hf'
        rw [List.getElem?_set_ne (Ne.symm hj)] at hp
        rw [List.getElem?_set_ne (Ne.symm hk)] at hp'
        exact r.sep j k p p' w hjk hp hp' hf hf' hw
      · obtain ⟨w1, d1, m1, w2, w3⟩ := r.lent j w hw
        by_cases hj : j = i
        · subst hj
          rw [q] at w2; cases w2
          refine ⟨w1, d0, m', List.getElem?_set_self hlt, ?_⟩
          rcases w3 with rfl | rfl
          · exact .inr (hl1 rfl)
          · cases hm
        · exact ⟨w1, d1, m1, by rw [List.getElem?_set_ne (Ne.symm hj)]; exact w2, w3⟩
    cases q : ρ[i]? with
    | none => simp [q] at e
    | some o =>
      cases o with
      | none => simp [q] at e
      | some p =>
        obtain ⟨d', m⟩ := p
        cases m with
        | own =>
          simp only [q, Option.some.injEq, Prod.mk.injEq] at e
          obtain ⟨rfl, rfl⟩ := e
          exact key _ _ _ q rfl rfl (fun z => by cases z) (fun _ => rfl)
        | lent =>
          simp only [q, Option.some.injEq, Prod.mk.injEq] at e
          obtain ⟨rfl, rfl⟩ := e
          exact key _ _ _ q rfl rfl (fun _ => rfl) (fun z => by cases z)
        | fz =>
          simp only [q, Option.some.injEq, Prod.mk.injEq] at e
          obtain ⟨rfl, rfl⟩ := e
          obtain ⟨v', h1, h2⟩ := r.slots i _ q
          rw [h'] at h1; cases h1
          exact ⟨G, r, .refl, h2⟩
        | lz =>
          simp only [q, Option.some.injEq, Prod.mk.injEq] at e
          obtain ⟨rfl, rfl⟩ := e
          obtain ⟨v', h1, h2⟩ := r.slots i _ q
          rw [h'] at h1; cases h1
          exact ⟨G, r, .refl, h2⟩
end
end TN
namespace TN
open PySem PySem.Spec PyProof.Rows L2

/-! ### what a computation gave -/
abbrev GotB (X : Cx) (L : L2.St) (W : WX) (σ : L2.St) (G B : Hp) (r : R Bool) (Q : Bool → Hp → Prop) : Prop := Got X L W σ G B (fun b _ _ _ b' => b' = b) r Q
abbrev GotA (X : Cx) (L : L2.St) (W : WX) (σ : L2.St) (G B : Hp) (r : R (List Pl)) (Q : List V → Hp → Prop) : Prop := Got X L W σ G B (fun ps _ G' _ vs => PlA X.K σ G' vs ps) r Q
def tX (X : Cx) (W : WX) (c : CE) : TE := fun σ H Q => ∃ (L : L2.St) (ρ : Rho) (G B : Hp), Rel X.K L B σ ρ G H ∧ GotP X L W σ G B (c ρ) Q
def tT (X : Cx) (W : WX) (c : CB) : TT := fun σ H Q => ∃ (L : L2.St) (ρ : Rho) (G B : Hp), Rel X.K L B σ ρ G H ∧ GotB X L W σ G B (c ρ) Q
def tA (X : Cx) (W : WX) (c : CA) : TA := fun σ H Q => ∃ (L : L2.St) (ρ : Rho) (G B : Hp), Rel X.K L B σ ρ G H ∧ GotA X L W σ G B (c ρ) Q
def SX (X : Cx) (e : Expr) (c : CE) : Prop := ∀ W : WX, Takes X W → PE X e (tX X W c)
def ST (X : Cx) (e : Expr) (c : CB) : Prop := ∀ W : WX, Takes X W → PT X e (tT X W c)
def SW (X : Cx) (e : Expr) (c : CB) : Prop := ∀ W : WX, Takes X W → PW X e (tT X W c)
def SA (X : Cx) (es : List Expr) (c : CA) : Prop := ∀ W : WX, Takes X W → PA X es (tA X W c)

theorem PEimp {X : Cx} {e : Expr} {t t' : TE} (h : PE X e t) (w : ∀ σ H Q, t' σ H Q → t σ H Q) : PE X e t' := ⟨fun pins s σ H Q I q => h.run pins s σ H Q I (w _ _ _ q)⟩
theorem PTimp {X : Cx} {e : Expr} {t t' : TT} (h : PT X e t) (w : ∀ σ H Q, t' σ H Q → t σ H Q) : PT X e t' := ⟨fun pins s σ H Q I q => h.run pins s σ H Q I (w _ _ _ q)⟩
theorem PWimp {X : Cx} {e : Expr} {t t' : TT} (h : PW X e t) (w : ∀ σ H Q, t' σ H Q → t σ H Q) : PW X e t' := ⟨fun wh pins s σ H Q I q => h.run wh pins s σ H Q I (w _ _ _ q)⟩
theorem PAimp {X : Cx} {e : List Expr} {t t' : TA} (h : PA X e t) (w : ∀ σ H Q, t' σ H Q → t σ H Q) : PA X e t' := ⟨fun pos pins s σ H Q I q => h.run pos pins s σ H Q I (w _ _ _ q)⟩
theorem PSimp {X : Cx} {e : Stmt} {t t' : TS} (h : PS X e t) (w : ∀ D σ H, t' D σ H → t D σ H) : PS X e t' := ⟨fun pins s σ H D I q => h.run pins s σ H D I (w _ _ _ q)⟩
theorem PSsimp {X : Cx} {e : List Stmt} {t t' : TS} (h : PSs X e t) (w : ∀ D σ H, t' D σ H → t D σ H) : PSs X e t' := ⟨fun pins s σ H D I q => h.run pins s σ H D I (w _ _ _ q)⟩

section
variable {X : Cx} {L : L2.St} {W : WX} {σ : L2.St} {G G1 B H : Hp}
theorem Got.shift {α β : Type} {P : α → Rho → Hp → Hp → β → Prop} {r : R α} {Q : β → Hp → Prop} (e : Ext B G G1) (h : Got X L W σ G B P r Q) : Got X L W σ G1 B P r Q := by
  cases r with
  | ok a ρ' => exact fun b H' G' rel ext p => h b H' G' rel (e.trans ext) p
  | exc x ρ' => exact fun c d H' G' rel ext p => h c d H' G' rel (e.trans ext) p
  | bad => exact h
/-- behind an expression: its value fixed, the rest -/
theorem Got.bind {γ δ : Type} {P : γ → Rho → Hp → Hp → δ → Prop} {r : R Pl} {k : Pl → Rho → R γ} {Q : δ → Hp → Prop} (h : Got X L W σ G B P (r.bind k) Q) :
    GotP X L W σ G B r (fun v H1 => ∃ (p : Pl) (ρ1 : Rho) (G1 : Hp), r = .ok p ρ1 ∧ Rel X.K L B σ ρ1 G1 H1 ∧ Ext B G G1 ∧ PlFx X.K σ G1 v p ∧ Got X L W σ G1 B P (k p ρ1) fun d H2 => Q d H2) := by
  cases r with
  | ok p ρ1 =>
    intro v H' G' rel ext ok
    obtain ⟨G2, r2, e2, fx⟩ := ok.fix rel
    exact ⟨p, ρ1, G2, rfl, r2, ext.trans e2, fx, Got.shift (ext.trans e2) h⟩
  | exc x ρ' => exact h
  | bad => exact h
theorem Got.bindB {γ δ : Type} {P : γ → Rho → Hp → Hp → δ → Prop} {r : R Bool} {k : Bool → Rho → R γ} {Q : δ → Hp → Prop} (h : Got X L W σ G B P (r.bind k) Q) :
    GotB X L W σ G B r (fun b H1 => ∃ (ρ1 : Rho) (G1 : Hp), r = .ok b ρ1 ∧ Rel X.K L B σ ρ1 G1 H1 ∧ Ext B G G1 ∧ Got X L W σ G1 B P (k b ρ1) fun d H2 => Q d H2) := by
  cases r with
  | ok p ρ1 =>
    intro v H' G' rel ext ok
    subst ok
    exact ⟨ρ1, G', rfl, rel, ext, Got.shift ext h⟩
  | exc x ρ' => exact h
  | bad => exact h
theorem Got.bindA {γ δ : Type} {P : γ → Rho → Hp → Hp → δ → Prop} {r : R (List Pl)} {k : List Pl → Rho → R γ} {Q : δ → Hp → Prop} (h : Got X L W σ G B P (r.bind k) Q) :
    GotA X L W σ G B r (fun vs H1 => ∃ (ps : List Pl) (ρ1 : Rho) (G1 : Hp), r = .ok ps ρ1 ∧ Rel X.K L B σ ρ1 G1 H1 ∧ Ext B G G1 ∧ PlA X.K σ G1 vs ps ∧ Got X L W σ G1 B P (k ps ρ1) fun d H2 => Q d H2) := by
  cases r with
  | ok p ρ1 =>
    intro v H' G' rel ext ok
    exact ⟨p, ρ1, G', rfl, rel, ext, ok, Got.shift ext h⟩
  | exc x ρ' => exact h
  | bad => exact h
end

/-! ### new values -/
theorem Post.lst {K : PySem.W.Frag} {G H : Hp} {p : Addr} {vs : List V} {ds : List D} (h : H p = none) (x : FzA K G vs ds) : Post K G H (.ref p) (upd H p (.lst vs)) (.tmp (.list ds)) :=
  .tmp h (.lst upd_same x)
section
variable {X : Cx} {L : L2.St} {W : WX} {σ : L2.St} {ρ : Rho} {G G1 B H H' : Hp} {v : V} {p : Pl}
end
def R.ofOpt (o : Option Pl) (ρ : Rho) : R Pl := match o with
  | some p => .ok p ρ
  | none => .bad

/-! ### names, constants -/
def cVar (i : Nat) : CE := fun ρ => match ρ[i]? with
  | some (some (d, .fz)) => .ok (.val d) ρ
  | some (some (d, .lz)) => .ok (.val d) ρ
  | some (some (_, .own)) => .ok (.slot i) ρ
  | some (some (_, .lent)) => .ok (.slot i) ρ
  | _ => .bad
def cLit (d : D) : CE := fun ρ => .ok (.val d) ρ
section
variable {X : Cx} {e a b : Expr} {ca cb : CE} {pos : Pos}
theorem sx_var (i : Nat) {x : Str} {pos : Pos} (hN : X.N[i]? = some x := by rfl) (hv : Vis X.env.scope x := by first | exact Or.inl rfl | exact Or.inr (Or.inl rfl) | exact Or.inr (Or.inr rfl)) (hd : (x == ("__debug__" : Str)) = false := by decide)
    (hcd : (x == ("__classdict__" : Str)) = false := by decide) : SX X (.Name x pos) (cVar i) := fun W _ => PEimp (pe_var hN hv hd hcd) (by
  rintro σ H Q ⟨L, ρ, G, B, rel, h⟩
  unfold cVar at h
  split at h
  · rename_i d q
    obtain ⟨v, h1, h2⟩ := rel.slots i _ q
    exact ⟨v, h1, h v H G rel .refl h2⟩
  · rename_i d q
    obtain ⟨v, h1, h2⟩ := rel.slots i _ q
    exact ⟨v, h1, h v H G rel .refl h2⟩
  · rename_i d q
    obtain ⟨v, h1, h2⟩ := rel.slots i _ q
    exact ⟨v, h1, h v H G rel .refl h1⟩
  · rename_i d q
    obtain ⟨v, h1, h2⟩ := rel.slots i _ q
    exact ⟨v, h1, h v H G rel .refl h1⟩
  · exact h.elim)
theorem sx_const {v : V} {d : D} (hp : PE X e (tC v)) (hf : ∀ G, Fz X.K G v d) : SX X e (cLit d) := fun W _ => PEimp hp (by
  rintro σ H Q ⟨L, ρ, G, B, rel, h⟩
  exact h v H G rel .refl (hf G))
theorem sx_int {i : Int} {j : Nat} : SX X (.Constant (.int i) j pos) (cLit (.int i)) := sx_const pe_int fun _ => .int i
theorem sx_bl {b : Bool} {j : Nat} : SX X (.Constant (.bool b) j pos) (cLit (.bool b)) := sx_const pe_bl fun _ => .bl b
theorem sx_non {j : Nat} : SX X (.Constant .none j pos) (cLit .none) := sx_const pe_non fun _ => .non
theorem sx_str {x : Str} {j : Nat} : SX X (.Constant (.str x) j pos) (cLit (.str x)) := sx_const pe_str fun _ => .str x
/-- a module's int -/
theorem sx_gint {x : Str} {i : Int} (hg : Gl X x) (hm : ∃ t, X.mg x = some (.int i t)) (hd : (x == ("__debug__" : Str)) = false := by decide) : SX X (.Name x pos) (cLit (.int i)) := by
  obtain ⟨t, hm⟩ := hm
  exact sx_const (v := .int i) (pe_glob hg hm ⟨t, rfl⟩ hd) fun _ => .int i
end

/-! ### operations of one and two values -/
def OpOk (K : PySem.W.Frag) (r : R2) (f : D → D → Option Pl) : Prop := ∀ (G H : Hp) (x y : V) (dx dy : D) (p : Pl) (Q : VK), Same G H → Vw K G H x dx → Vw K G H y dy → f dx dy = some p → (∀ v H', Post K G H v H' p → Q v H') → r x y H Q
def UnOk (K : PySem.W.Frag) (r : V → Hp → VK → Prop) (f : D → Option Pl) : Prop := ∀ (G H : Hp) (x : V) (dx : D) (p : Pl) (Q : VK), Same G H → Vw K G H x dx → f dx = some p → (∀ v H', Post K G H v H' p → Q v H') → r x H Q
def cBin (f : D → D → Option Pl) (a b : CE) : CE := fun ρ => (a ρ).bind fun p ρ1 => (b ρ1).bind fun q ρ2 => match look p ρ2, look q ρ2 with
  | some x, some y => .ofOpt (f x y) ρ2
  | _, _ => .bad
def cUn (f : D → Option Pl) (a : CE) : CE := fun ρ => (a ρ).bind fun p ρ1 => match look p ρ1 with
  | some x => .ofOpt (f x) ρ1
  | none => .bad
section
variable {X : Cx} {e a b : Expr} {ca cb : CE} {pos : Pos} {f : D → D → Option Pl} {g : D → Option Pl} {r : R2} {r1 : V → Hp → VK → Prop}
theorem bin_imp {W : WX} (hr : OpOk X.K r f) : ∀ (σ : L2.St) (H : Hp) (Q : VK), tX X W (cBin f ca cb) σ H Q → tOp r (tX X W ca) (tX X W cb) σ H Q := by
  rintro σ H Q ⟨L, ρ, G, B, rel, h⟩
  refine ⟨L, ρ, G, B, rel, (Got.bind h).mono ?_⟩
  rintro x H1 ⟨p, ρ1, G1, _, rel1, _, fx1, h1⟩
  refine ⟨L, ρ1, G1, B, rel1, (Got.bind h1).mono ?_⟩
  rintro y H2 ⟨q, ρ2, G2, _, rel2, ext2, fx2, h2⟩
  cases e1 : look p ρ2 with
  | none => rw [e1] at h2; exact h2.elim
  | some dx =>
    cases e2 : look q ρ2 with
    | none => rw [e1, e2] at h2; exact h2.elim
    | some dy =>
      rw [e1, e2] at h2
      cases e3 : f dx dy with
      | none =>
        simp only [e3] at h2; exact h2.elim
      | some pl =>
        simp only [e3] at h2
        exact hr G2 H2 x y dx dy pl Q rel2.sub ((fx1.mono ext2.same).look rel2 e1) (fx2.look rel2 e2) e3 fun v H' ps => Got.done rel2 h2 ps
theorem sx_bin {op : Operator} (ho : OpR X (binaryOp op) r) (hr : OpOk X.K r f) (ha : SX X a ca) (hb : SX X b cb) : SX X (.BinOp a op b pos) (cBin f ca cb) := fun W tk =>
  PEimp (pe_op ho (ha W tk) (hb W tk)) (bin_imp hr)
theorem sx_cmp {op : CmpOp} (ho : OpR X (compareOp op) r) (hr : OpOk X.K r f) (ha : SX X a ca) (hb : SX X b cb) (hm : behindInMarks op b = false := by first | exact nomark _ | with_unfolding_all rfl) : SX X (.Compare a [op] [b] pos) (cBin f ca cb) := fun W tk =>
  PEimp (pe_cmpR ho (ha W tk) (hb W tk) hm) (bin_imp hr)
theorem sx_ix (hi : IxR X r) (hr : OpOk X.K r f) (ha : SX X a ca) (hb : SX X b cb) (hs : PlainIx b := by exact fun _ _ => rfl) : SX X (.Subscript a b pos) (cBin f ca cb) := fun W tk =>
  PEimp (pe_ix hi (ha W tk) (hb W tk) hs) (bin_imp hr)
theorem sx_un {op : UnaryOp} (ho : UnR X (unaryOp op) r1) (hr : UnOk X.K r1 g) (ha : SX X a ca) : SX X (.UnaryOp op a pos) (cUn g ca) := fun W tk => PEimp (pe_un ho (ha W tk)) (by
  rintro σ H Q ⟨L, ρ, G, B, rel, h⟩
  refine ⟨L, ρ, G, B, rel, (Got.bind h).mono ?_⟩
  rintro x H1 ⟨p, ρ1, G1, _, rel1, _, fx1, h1⟩
  cases e1 : look p ρ1 with
  | none => simp only [e1] at h1; exact h1.elim
  | some dx =>
    simp only [e1] at h1
    cases e3 : g dx with
    | none => simp only [e3] at h1; exact h1.elim
    | some pl =>
      simp only [e3] at h1
      exact hr G1 H1 x dx pl Q rel1.sub (fx1.look rel1 e1) e3 fun v H' ps => Got.done rel1 h1 ps)
/-- a comparison as a test -/
def cTst (c : CE) : CB := fun ρ => (c ρ).bind fun p ρ1 => match look p ρ1 with
  | some (.bool b) => .ok b ρ1
  | _ => .bad
theorem Vw.non {K : PySem.W.Frag} {G H : Hp} {v : V} (h : Vw K G H v .none) : v = .non := by
  rcases h with h | ⟨a, _, h⟩
  · cases h; rfl
  · cases h
theorem Vw.lst {K : PySem.W.Frag} {G H : Hp} {v : V} {ds : List D} (s : Same G H) (h : Vw K G H v (.list ds)) : ∃ a xs, v = .ref a ∧ Rd H a (.lst xs) ∧ FzA K G xs ds := by
  rcases h with h | ⟨a, e, h⟩
  · cases h with
    | lst h1 h2 => exact ⟨_, _, rfl, Same.rd s h1, h2⟩
  · subst e
    cases h with
    | lst h1 h2 => exact ⟨_, _, rfl, .inl h1, h2⟩
/-- a value of True or False as a test -/
theorem tst_imp {W : WX} {c : CE} : ∀ (σ : L2.St) (H : Hp) (Q : Bool → Hp → Prop), tT X W (cTst c) σ H Q → tX X W c σ H (fun x H' => ∃ k, x = .bl k ∧ Q k H') := by
  rintro σ H Q ⟨L, ρ, G, B, rel, h⟩
  refine ⟨L, ρ, G, B, rel, (Got.bind h).mono ?_⟩
  rintro x H1 ⟨p, ρ1, G1, _, rel1, _, fx1, h1⟩
  split at h1
  · rename_i b e1
    refine ⟨b, ((fx1.look rel1 e1)).bool, h1 b H1 G1 rel1 .refl rfl⟩
  · exact h1.elim
theorem st_cmp {op : CmpOp} (ho : OpR X (compareOp op) r) (hr : OpOk X.K r f) (ha : SX X a ca) (hb : SX X b cb) (hm : behindInMarks op b = false := by first | exact nomark _ | with_unfolding_all rfl) : ST X (.Compare a [op] [b] pos) (cTst (cBin f ca cb)) := fun W tk =>
  PTimp (pt_cmpR ho (ha W tk) (hb W tk) hm) fun σ H Q h => bin_imp hr σ H _ (tst_imp σ H Q h)
theorem st_val {c : CE} (h : SX X e c) (he : ∀ whole, isTrue e X.env whole = (do let v ← whole; standAt e.pos; holding [v] (truthy v)) := by intro _; rfl) : ST X e (cTst c) := fun W tk =>
  PTimp (pt_val (h W tk) he) tst_imp
/-! ### and, or, not -/
def cAnd (a b : CB) : CB := fun ρ => (a ρ).bind fun c ρ1 => if c = true then b ρ1 else .ok false ρ1
def cOr (a b : CB) : CB := fun ρ => (a ρ).bind fun c ρ1 => if c = true then .ok true ρ1 else b ρ1
def cNot (a : CB) : CB := fun ρ => (a ρ).bind fun c ρ1 => .ok (!c) ρ1
variable {ba bb : CB} {rest : List Expr}
theorem st_w (h : SW X e ba) : ST X e ba := fun W tk => (h W tk).pt
theorem sw_and1 (ha : ST X a ba) : SW X (.BoolOp .And [a] pos) ba := fun W tk => pw_and1 (ha W tk)
theorem sw_or1 (ha : ST X a ba) : SW X (.BoolOp .Or [a] pos) ba := fun W tk => pw_or1 (ha W tk)
theorem sw_and (ha : ST X a ba) (hb : SW X (.BoolOp .And (b :: rest) pos) bb) : SW X (.BoolOp .And (a :: b :: rest) pos) (cAnd ba bb) := fun W tk =>
  PWimp (pw_and (ha W tk) (hb W tk)) (by
    rintro σ H Q ⟨L, ρ, G, B, rel, h⟩
    refine ⟨L, ρ, G, B, rel, (Got.bindB h).mono ?_⟩
    rintro c H1 ⟨ρ1, G1, _, rel1, _, h1⟩
    cases c with
    | true => rw [if_pos rfl] at h1 ⊢; exact ⟨L, ρ1, G1, B, rel1, h1⟩
    | false => rw [if_neg Bool.false_ne_true] at h1 ⊢; exact h1 false H1 G1 rel1 .refl rfl)
theorem sw_or (ha : ST X a ba) (hb : SW X (.BoolOp .Or (b :: rest) pos) bb) : SW X (.BoolOp .Or (a :: b :: rest) pos) (cOr ba bb) := fun W tk =>
  PWimp (pw_or (ha W tk) (hb W tk)) (by
    rintro σ H Q ⟨L, ρ, G, B, rel, h⟩
    refine ⟨L, ρ, G, B, rel, (Got.bindB h).mono ?_⟩
    rintro c H1 ⟨ρ1, G1, _, rel1, _, h1⟩
    cases c with
    | true => rw [if_pos rfl] at h1 ⊢; exact h1 true H1 G1 rel1 .refl rfl
    | false => rw [if_neg Bool.false_ne_true] at h1 ⊢; exact ⟨L, ρ1, G1, B, rel1, h1⟩)
theorem st_not (ha : ST X a ba) : ST X (.UnaryOp .Not a pos) (cNot ba) := fun W tk => PTimp (pt_not (ha W tk)) (by
    rintro σ H Q ⟨L, ρ, G, B, rel, h⟩
    refine ⟨L, ρ, G, B, rel, (Got.bindB h).mono ?_⟩
    rintro c H1 ⟨ρ1, G1, _, rel1, _, h1⟩
    exact h1 (!c) H1 G1 rel1 .refl rfl)
def cAndV (a b : CE) : CE := fun ρ => (cTst a ρ).bind fun c ρ1 => if c = true then b ρ1 else .ok (.val (.bool false)) ρ1
def cOrV (a b : CE) : CE := fun ρ => (cTst a ρ).bind fun c ρ1 => if c = true then .ok (.val (.bool true)) ρ1 else b ρ1
def cNotV (a : CE) : CE := fun ρ => (cTst a ρ).bind fun c ρ1 => .ok (.val (.bool (!c))) ρ1
theorem tst_bind {W : WX} {c : CE} {k : Bool → Rho → R Pl} {σ : L2.St} {H : Hp} {Q : VK} (h : tX X W (fun ρ => (cTst c ρ).bind k) σ H Q) :
    tX X W c σ H (fun x H1 => ∃ b, x = .bl b ∧ ∃ (L : L2.St) (ρ1 : Rho) (G1 B : Hp), Rel X.K L B σ ρ1 G1 H1 ∧ GotP X L W σ G1 B (k b ρ1) Q) := by
  obtain ⟨L, ρ, G, B, rel, h⟩ := h
  have h2 : tT X W (cTst c) σ H (fun b H1 => ∃ (L : L2.St) (ρ1 : Rho) (G1 B : Hp), Rel X.K L B σ ρ1 G1 H1 ∧ GotP X L W σ G1 B (k b ρ1) Q) := by
    refine ⟨L, ρ, G, B, rel, (Got.bindB h).mono ?_⟩
    rintro b H1 ⟨ρ1, G1, _, rel1, _, h1⟩
    exact ⟨L, ρ1, G1, B, rel1, h1⟩
  exact tst_imp σ H _ h2
theorem sx_one {op : BoolOp} (h : SX X a ca) : SX X (.BoolOp op [a] pos) ca := fun W tk => pe_one (h W tk)
theorem sx_and (ha : SX X a ca) (hb : SX X (.BoolOp .And (b :: rest) pos) cb) : SX X (.BoolOp .And (a :: b :: rest) pos) (cAndV ca cb) := fun W tk =>
  PEimp (pe_and (ha W tk) (hb W tk)) (by
    intro σ H Q h
    obtain ⟨L, ρ, G, B, rel, h0⟩ := tst_bind h
    refine ⟨L, ρ, G, B, rel, h0.mono ?_⟩
    rintro x H1 ⟨c, rfl, L1, ρ1, G1, B1, rel1, h1⟩
    refine ⟨c, rfl, ?_⟩
    cases c with
    | true => rw [if_pos rfl] at h1 ⊢; exact ⟨L1, ρ1, G1, B1, rel1, h1⟩
    | false => rw [if_neg Bool.false_ne_true] at h1 ⊢; exact h1 (.bl false) H1 G1 rel1 .refl (.bl false))
theorem sx_not (ha : SX X a ca) : SX X (.UnaryOp .Not a pos) (cNotV ca) := fun W tk =>
  PEimp (pe_not (ha W tk)) (by
    intro σ H Q h
    obtain ⟨L, ρ, G, B, rel, h0⟩ := tst_bind h
    refine ⟨L, ρ, G, B, rel, h0.mono ?_⟩
    rintro x H1 ⟨c, rfl, L1, ρ1, G1, B1, rel1, h1⟩
    exact ⟨c, rfl, h1 (.bl (!c)) H1 G1 rel1 .refl (.bl _)⟩)
/-- a if t else b -/
def cIte (t : CB) (a b : CE) : CE := fun ρ => (t ρ).bind fun c ρ1 => if c = true then a ρ1 else b ρ1
/-! ### argument lists, displays -/
def cNil : CA := fun ρ => .ok [] ρ
def cCons (a : CE) (r : CA) : CA := fun ρ => (a ρ).bind fun p ρ1 => (r ρ1).bind fun ps ρ2 => .ok (p :: ps) ρ2
variable {es : List Expr} {cr : CA}
theorem sa_nil : SA X [] cNil := fun W tk => PAimp pa_nil (by
  rintro σ H Q ⟨L, ρ, G, B, rel, h⟩
  exact h [] H G rel .refl .nil)
theorem sa_cons (ha : SX X e ca) (hr : SA X es cr) (hs : starEach (e :: es) X.env = (false, eval e X.env) :: starEach es X.env := by rfl) : SA X (e :: es) (cCons ca cr) := fun W tk =>
  PAimp (pa_cons (ha W tk) (hr W tk) hs) (by
    rintro σ H Q ⟨L, ρ, G, B, rel, h⟩
    refine ⟨L, ρ, G, B, rel, (Got.bind h).mono ?_⟩
    rintro x H1 ⟨p, ρ1, G1, _, rel1, _, fx1, h1⟩
    refine ⟨L, ρ1, G1, B, rel1, (Got.bindA h1).mono ?_⟩
    rintro xs H2 ⟨ps, ρ2, G2, _, rel2, ext2, fx2, h2⟩
    exact h2 (x :: xs) H2 G2 rel2 .refl (.cons (fx1.mono ext2.same) fx2))
/-- all values frozen -/
def frzA : List Pl → Rho → Option (List D × Rho)
  | [], ρ => some ([], ρ)
  | p :: ps, ρ => match frz p ρ with
    | some (d, ρ1) => match frzA ps ρ1 with
      | some (ds, ρ2) => some (d :: ds, ρ2)
      | none => none
    | none => none
theorem PlA.frz {K : PySem.W.Frag} {L : L2.St} {B H : Hp} {σ : L2.St} : ∀ {ps : List Pl} {vs : List V} {ρ ρ' : Rho} {G : Hp} {ds : List D}, Rel K L B σ ρ G H → PlA K σ G vs ps → frzA ps ρ = some (ds, ρ') → ∃ G', Rel K L B σ ρ' G' H ∧ Ext B G G' ∧ FzA K G' vs ds
  | [], _, ρ, _, G, _, r, .nil, e => by cases e; exact ⟨G, r, .refl, .nil⟩
  | p :: ps, _, ρ, ρ', G, ds, r, .cons (vs := vs) a b, e => by
    unfold frzA at e
    cases e1 : TN.frz p ρ with
    | none => simp [e1] at e
    | some q =>
      obtain ⟨d, ρ1⟩ := q
      simp only [e1] at e
      cases e2 : frzA ps ρ1 with
      | none => simp [e2] at e
      | some q =>
        obtain ⟨ds', ρ2⟩ := q
        simp only [e2, Option.some.injEq, Prod.mk.injEq] at e
        obtain ⟨rfl, rfl⟩ := e
        obtain ⟨G1, r1, x1, f1⟩ := a.frz r e1
        obtain ⟨G2, r2, x2, f2⟩ := PlA.frz r1 (b.mono x1.same) e2
        exact ⟨G2, r2, x1.trans x2, .cons (f1.mono x2.same) f2⟩
def cTup (c : CA) : CE := fun ρ => (c ρ).bind fun ps ρ1 => match frzA ps ρ1 with
  | some (ds, ρ2) => if ds.length ≤ 16777216 then .ok (.val (.tuple ds)) ρ2 else .bad
  | none => .bad
def cLst (c : CA) : CE := fun ρ => (c ρ).bind fun ps ρ1 => match frzA ps ρ1 with
  | some (ds, ρ2) => if ds.length ≤ 16777216 then .ok (.tmp (.list ds)) ρ2 else .bad
  | none => .bad
theorem disp_imp {W : WX} {m : List D → Pl} {o : List V → HO} {σ : L2.St} {H : Hp} {Q : VK} (hp : ∀ (G H : Hp) (p : Addr) (vs : List V) (ds : List D), H p = none → FzA X.K G vs ds → Post X.K G H (.ref p) (upd H p (o vs)) (m ds))
    (h : tX X W (fun ρ => (cr ρ).bind fun ps ρ1 => match frzA ps ρ1 with
      | some (ds, ρ2) => if ds.length ≤ 16777216 then .ok (m ds) ρ2 else .bad
      | none => .bad) σ H Q) : tA X W cr σ H (fun xs H1 => xs.length ≤ sizeLine ∧ ∀ p, H1 p = none → Q (.ref p) (upd H1 p (o xs))) := by
  obtain ⟨L, ρ, G, B, rel, h⟩ := h
  refine ⟨L, ρ, G, B, rel, (Got.bindA h).mono ?_⟩
  rintro xs H1 ⟨ps, ρ1, G1, _, rel1, _, fx1, h1⟩
  cases e1 : frzA ps ρ1 with
  | none => simp only [e1] at h1; exact h1.elim
  | some q =>
    obtain ⟨ds, ρ2⟩ := q
    simp only [e1] at h1
    obtain ⟨G2, r2, x2, f2⟩ := fx1.frz rel1 e1
    by_cases hl : ds.length ≤ 16777216
    · rw [if_pos hl] at h1
      refine ⟨by rw [f2.length, sizeLine_eq]; exact hl, fun p hpn => Got.done r2 (Got.shift x2 h1) (hp _ _ _ _ _ hpn f2)⟩
    · rw [if_neg hl] at h1; exact h1.elim
theorem sx_tup {x1 : Nat} (h : SA X es cr) : SX X (.Tuple es x1 pos) (cTup cr) := fun W tk => PEimp (pe_tup (h W tk)) fun σ H Q q => disp_imp (o := .tup) (fun _ _ _ _ _ a b => .tup a b) q
theorem sx_lst (h : SA X es cr) : SX X (.List es pos) (cLst cr) := fun W tk => PEimp (pe_lst (h W tk)) fun σ H Q q => disp_imp (o := .lst) (fun _ _ _ _ _ a b => .lst a b) q

/-! ### built-ins called -/
def CallOk (K : PySem.W.Frag) (r : List V → Hp → VK → Prop) (f : List D → Option Pl) : Prop := ∀ (G H : Hp) (xs : List V) (ds : List D) (p : Pl) (Q : VK), Same G H → VwA K G H xs ds → f ds = some p → (∀ v H', Post K G H v H' p → Q v H') → r xs H Q
def cFn (f : List D → Option Pl) (c : CA) : CE := fun ρ => (c ρ).bind fun ps ρ1 => match lookA ps ρ1 with
  | some ds => .ofOpt (f ds) ρ1
  | none => .bad
variable {rc : List V → Hp → VK → Prop} {fc : List D → Option Pl} {x : Str} {p : Pos} {id T : String}
theorem fn_imp {W : WX} (hr : CallOk X.K rc fc) : ∀ (σ : L2.St) (H : Hp) (Q : VK), tX X W (cFn fc cr) σ H Q → tCB rc (tA X W cr) σ H Q := by
  rintro σ H Q ⟨L, ρ, G, B, rel, h⟩
  refine ⟨L, ρ, G, B, rel, (Got.bindA h).mono ?_⟩
  rintro xs H1 ⟨ps, ρ1, G1, _, rel1, _, fx1, h1⟩
  cases e1 : lookA ps ρ1 with
  | none => simp only [e1] at h1; exact h1.elim
  | some ds =>
    simp only [e1] at h1
    cases e2 : fc ds with
    | none => simp only [e2] at h1; exact h1.elim
    | some pl =>
      simp only [e2] at h1
      exact hr G1 H1 xs ds pl Q rel1.sub (fx1.look rel1 e1) e2 fun v H' ps => Got.done rel1 h1 ps
theorem sx_callB (hc : CallR X (.builtin id) rc) (hr : CallOk X.K rc fc) (hg : Gl X x) (hm : X.mg x = none) (hv : bootBuiltins x = some (.builtin id)) (ha : SA X (e :: es) cr) (hn : x ≠ "__name__" := by decide) (hdb : (x == ("__debug__" : Str)) = false := by decide)
    (he : starEach (e :: es) X.env = (false, eval e X.env) :: starEach es X.env := by rfl) (hpl : (backTo pos (starEach es X.env)).any (·.1) = false := by rfl) : SX X (.Call (.Name x p) (e :: es) [] pos) (cFn fc cr) := fun W tk =>
  PEimp (pe_callB hc hg hm hv (ha W tk) hn hdb he hpl) (fn_imp hr)
theorem sx_callTy (hc : CallR X (.type T) rc) (hr : CallOk X.K rc fc) (hg : Gl X x) (hm : X.mg x = none) (hv : bootBuiltins x = some (.type T)) (ha : SA X (e :: es) cr) (hn : x ≠ "__name__" := by decide) (hdb : (x == ("__debug__" : Str)) = false := by decide)
    (he : starEach (e :: es) X.env = (false, eval e X.env) :: starEach es X.env := by rfl) (hpl : (backTo pos (starEach es X.env)).any (·.1) = false := by rfl) : SX X (.Call (.Name x p) (e :: es) [] pos) (cFn fc cr) := fun W tk =>
  PEimp (pe_callTy hc hg hm hv (ha W tk) hn hdb he hpl) (fn_imp hr)
end
end TN
namespace TN
open PySem PySem.Spec PyProof.Rows L2

/-! ### storing -/
section
variable {K : PySem.W.Frag} {L : L2.St} {B G H H' : Hp} {σ : L2.St} {ρ : Rho} {v : V} {d : D} {i : Nat}
def canSet (ρ : Rho) (i : Nat) : Bool := match ρ[i]? with
  | some (some (_, .lent)) => false
  | some (some (_, .lz)) => false
  | some _ => true
  | none => false
theorem canSet_lt (h : canSet ρ i = true) : i < ρ.length := by
  unfold canSet at h
  cases q : ρ[i]? with
  | none => rw [q] at h; cases h
  | some o => exact (List.getElem?_eq_some_iff.mp q).1
theorem canSet_lent (h : canSet ρ i = true) {d : D} {m : Md} (e : ρ[i]? = some (some (d, m))) : m ≠ .lent ∧ m ≠ .lz := by
  unfold canSet at h
  rw [e] at h
  constructor <;> (rintro rfl; cases h)
/-- a name gets a value -/
theorem Rel.store (r : Rel K L B σ ρ G H) (hi : canSet ρ i = true) {p : D × Md} (hm : p.2 = .fz ∨ p.2 = .own) (ok : SlotOk K G H B v p)
    (hs : p.2 = .own → ∀ (j : Nat) (q : D × Md), ρ[j]? = some (some q) → q.2.isFz = false → σ[j]? ≠ some (some v)) : Rel K L B (σ.set i (some v)) (ρ.set i (some p)) G H := by
  have hlt := canSet_lt hi
  have hlt' : i < σ.length := by rw [← r.len]; exact hlt
  have pf : p.2.isFz = false → p.2 = .own := fun z => by
    rcases hm with h | h
    · rw [h] at z; cases z
    · exact h
  refine ⟨r.sub, r.base, by simpa using r.len, fun j q hq => ?_, fun j k q q' w hjk hq hq' hf hf' hw => ?_, fun j w hw => ?_⟩
  · by_cases hj : j = i
    · subst hj
      rw [List.getElem?_set_self hlt] at hq; cases hq
      exact ⟨v, List.getElem?_set_self hlt', ok⟩
    · rw [List.getElem?_set_ne (Ne.symm hj)] at hq
      obtain ⟨w, h1, h2⟩ := r.slots j q hq
      exact ⟨w, by rw [List.getElem?_set_ne (Ne.symm hj)]; exact h1, h2⟩
  · by_cases hj : j = i
    · subst hj
      rw [List.getElem?_set_self hlt] at hq; cases hq
      rw [List.getElem?_set_self hlt'] at hw; cases hw
      rw [List.getElem?_set_ne hjk] at hq' ⊢
      exact hs (pf hf) k q' hq' hf'
    · rw [List.getElem?_set_ne (Ne.symm hj)] at hq hw
      by_cases hk : k = i
      · subst hk
        rw [List.getElem?_set_self hlt] at hq'; cases hq'
        rw [List.getElem?_set_self hlt']
        intro z; cases z
        exact hs (pf hf') j q hq hf hw
      · rw [List.getElem?_set_ne (Ne.symm hk)] at hq' ⊢
        exact r.sep j k q q' w hjk hq hq' hf hf' hw
  · obtain ⟨h1, d1, m1, h2, h3⟩ := r.lent j w hw
    have hj : j ≠ i := fun z => by
      subst z
      obtain ⟨n1, n2⟩ := canSet_lent hi h2
      rcases h3 with z | z
      · exact n1 z
      · exact n2 z
    exact ⟨by rw [List.getElem?_set_ne (Ne.symm hj)]; exact h1, d1, m1, by rw [List.getElem?_set_ne (Ne.symm hj)]; exact h2, h3⟩
/-- a name is forgotten -/
theorem Rel.forget (r : Rel K L B σ ρ G H) (hi : canSet ρ i = true) : Rel K L B σ (ρ.set i none) G H := by
  have hlt := canSet_lt hi
  have out : ∀ {j : Nat} {q : D × Md}, (ρ.set i none)[j]? = some (some q) → j ≠ i ∧ ρ[j]? = some (some q) := fun {j q} h => by
    by_cases hj : j = i
    · subst hj; rw [List.getElem?_set_self hlt] at h; cases h
    · rw [List.getElem?_set_ne (Ne.symm hj)] at h; exact ⟨hj, h⟩
  refine ⟨r.sub, r.base, by simpa using r.len, fun j q hq => r.slots j q (out hq).2, fun j k q q' w hjk hq hq' hf hf' hw => r.sep j k q q' w hjk (out hq).2 (out hq').2 hf hf' hw, fun j w hw => ?_⟩
  obtain ⟨h1, d1, m1, h2, h3⟩ := r.lent j w hw
  have hj : j ≠ i := fun z => by
    subst z
    obtain ⟨n1, n2⟩ := canSet_lent hi h2
    rcases h3 with z | z
    · exact n1 z
    · exact n2 z
  exact ⟨h1, d1, m1, by rw [List.getElem?_set_ne (Ne.symm hj)]; exact h2, h3⟩
end
/-- name i = what p is -/
def store (i : Nat) (p : Pl) (ρ : Rho) : Option Rho := match p with
  | .val d => if canSet ρ i = true then some (ρ.set i (some (d, .fz))) else none
  | .tmp d => if canSet ρ i = true then some (ρ.set i (some (d, .own))) else none
  | .slot j => match frz (.slot j) ρ with
    | some (d, ρ1) => if canSet ρ1 i = true then some (ρ1.set i (some (d, .fz))) else none
    | none => none
theorem store_ok' {K : PySem.W.Frag} {L : L2.St} {B G H : Hp} {σ : L2.St} {ρ ρ' : Rho} {v : V} {i : Nat} {p : Pl} (r : Rel K L B σ ρ G H) (ok : PlOk K B σ ρ G H v p) (e : store i p ρ = some ρ') :
    ∃ G', Rel K L B (σ.set i (some v)) ρ' G' H ∧ Ext B G G' := by
  cases p with
  | val d =>
    by_cases hc : canSet ρ i = true
    · simp only [store, if_pos hc, Option.some.injEq] at e; subst e
      exact ⟨G, r.store hc (.inl rfl) ok (fun z => by cases z), .refl⟩
    · simp only [store, if_neg hc] at e; cases e
  | tmp d =>
    by_cases hc : canSet ρ i = true
    · simp only [store, if_pos hc, Option.some.injEq] at e; subst e
      obtain ⟨a, rfl, h1, h2, c, hs⟩ := ok
      exact ⟨G, r.store hc (.inr rfl) ⟨a, rfl, h1, h2, c⟩ (fun _ => hs), .refl⟩
    · simp only [store, if_neg hc] at e; cases e
  | slot j =>
    unfold store at e
    cases q : frz (.slot j) ρ with
    | none => simp only [q] at e; cases e
    | some w =>
      obtain ⟨d, ρ1⟩ := w
      simp only [q] at e
      by_cases hc : canSet ρ1 i = true
      · simp only [if_pos hc, Option.some.injEq] at e; subst e
        obtain ⟨G1, r1, x1, f1⟩ := PlFx.frz (p := .slot j) r ok q
        exact ⟨G1, r1.store hc (.inl rfl) f1 (fun z => by cases z), x1⟩
      · simp only [if_neg hc] at e; cases e

/-! ### statements -/
def plR (d : D) (fr : Bool) : Pl := if fr = true then .tmp d else .val d
def GotS (X : Cx) (L : L2.St) (W : WX) (G B : Hp) (r : RS) (Dn : Ends) : Prop := match r with
  | .nx ρ' => ∀ (σ' : L2.St) (H' G' : Hp), Rel X.K L B σ' ρ' G' H' → Ext B G G' → Dn.nx σ' H'
  | .ret d fr ρ' => ∀ (v : V) (σ' : L2.St) (H' G' : Hp), Rel X.K L B σ' ρ' G' H' → Ext B G G' → PlOk X.K B σ' ρ' G' H' v (plR d fr) → Dn.rt v H'
  | .exc x ρ' => ∀ (cls : Value) (d : Option Addr) (σ' : L2.St) (H' G' : Hp), Rel X.K L B σ' ρ' G' H' → Ext B G G' → XcOk X B G' H' x cls d → W cls d σ' H'
  | .bad => False
def tS (X : Cx) (W : WX) (c : CS) : TS := fun Dn σ H => ∃ (L : L2.St) (ρ : Rho) (G B : Hp), Rel X.K L B σ ρ G H ∧ GotS X L W G B (c ρ) Dn
abbrev Pas (X : Cx) : Prop := PassesOwn (model X.prog X.w) X.A X.env X.xe
def SS (X : Cx) (s : Stmt) (c : CS) : Prop := ∀ W : WX, Takes X W → Pas X → PS X s (tS X W c)
def SSs (X : Cx) (s : List Stmt) (c : CS) : Prop := ∀ W : WX, Takes X W → Pas X → PSs X s (tS X W c)
def R.toS (r : R Pl) (k : Pl → Rho → RS) : RS := match r with
  | .ok p ρ => k p ρ
  | .exc x ρ => .exc x ρ
  | .bad => .bad
def R.toSB (r : R Bool) (k : Bool → Rho → RS) : RS := match r with
  | .ok p ρ => k p ρ
  | .exc x ρ => .exc x ρ
  | .bad => .bad
section
variable {X : Cx} {L : L2.St} {W : WX} {G G1 B : Hp}
theorem GotS.shift {r : RS} {Dn : Ends} (e : Ext B G G1) (h : GotS X L W G B r Dn) : GotS X L W G1 B r Dn := by
  cases r with
  | nx ρ' => exact fun σ' H' G' rel ext => h σ' H' G' rel (e.trans ext)
  | ret d fr ρ' => exact fun v σ' H' G' rel ext ok => h v σ' H' G' rel (e.trans ext) ok
  | exc x ρ' => exact fun c d σ' H' G' rel ext ok => h c d σ' H' G' rel (e.trans ext) ok
  | bad => exact h
theorem GotS.expr {σ : L2.St} {r : R Pl} {k : Pl → Rho → RS} {Dn : Ends} (h : GotS X L W G B (r.toS k) Dn) :
    GotP X L W σ G B r (fun v H1 => ∃ (p : Pl) (ρ1 : Rho) (G1 : Hp), r = .ok p ρ1 ∧ Rel X.K L B σ ρ1 G1 H1 ∧ Ext B G G1 ∧ PlOk X.K B σ ρ1 G1 H1 v p ∧ GotS X L W G1 B (k p ρ1) Dn) := by
  cases r with
  | ok p ρ1 => exact fun v H' G' rel ext ok => ⟨p, ρ1, G', rfl, rel, ext, ok, GotS.shift ext h⟩
  | exc x ρ' => exact fun c d H' G' rel ext ok => h c d σ H' G' rel ext ok
  | bad => exact h
theorem GotS.test {σ : L2.St} {r : R Bool} {k : Bool → Rho → RS} {Dn : Ends} (h : GotS X L W G B (r.toSB k) Dn) :
    GotB X L W σ G B r (fun b H1 => ∃ (ρ1 : Rho) (G1 : Hp), r = .ok b ρ1 ∧ Rel X.K L B σ ρ1 G1 H1 ∧ Ext B G G1 ∧ GotS X L W G1 B (k b ρ1) Dn) := by
  cases r with
  | ok p ρ1 => exact fun v H' G' rel ext ok => by subst ok; exact ⟨ρ1, G', rfl, rel, ext, GotS.shift ext h⟩
  | exc x ρ' => exact fun c d H' G' rel ext ok => h c d σ H' G' rel ext ok
  | bad => exact h
end
def cSeq (a b : CS) : CS := fun ρ => match a ρ with
  | .nx ρ1 => b ρ1
  | .ret d fr ρ1 => .ret d fr ρ1
  | .exc x ρ1 => .exc x ρ1
  | .bad => .bad
def cSkip : CS := fun ρ => .nx ρ
def cRaise (x : Str) : CS := fun ρ => .exc ⟨x, []⟩ ρ
def cDrop (c : CE) : CS := fun ρ => (c ρ).toS fun _ ρ1 => .nx ρ1
def retP (p : Pl) (ρ : Rho) : RS := match p with
  | .val d => .ret d false ρ
  | .tmp d => .ret d true ρ
  | .slot i => match ρ[i]? with
    | some (some (d, .own)) => .ret d true (ρ.set i none)
    | some (some (d, .lent)) => .ret d false (ρ.set i (some (d, .lz)))
    | _ => .bad
def cRet (c : CE) : CS := fun ρ => (c ρ).toS retP
def cRetN : CS := fun ρ => .ret .none false ρ
def cIf (t : CB) (a b : CS) : CS := fun ρ => (t ρ).toSB fun k ρ1 => if k = true then a ρ1 else b ρ1
def cSet (i : Nat) (c : CE) : CS := fun ρ => (c ρ).toS fun p ρ1 => match store i p ρ1 with
  | some ρ2 => .nx ρ2
  | none => .bad
def whileL (t : CB) (b : CS) : Nat → CS
  | 0, _ => .bad
  | n + 1, ρ => (t ρ).toSB fun k ρ1 => if k = true then (match b ρ1 with
      | .nx ρ2 => whileL t b n ρ2
      | .ret d fr ρ2 => .ret d fr ρ2
      | .exc x ρ2 => .exc x ρ2
      | .bad => .bad) else .nx ρ1
def forL (g : D → Rho → Option Rho) (b : CS) : List D → CS
  | [], ρ => .nx ρ
  | d :: ds, ρ => match g d ρ with
    | none => .bad
    | some ρ1 => match b ρ1 with
      | .nx ρ2 => forL g b ds ρ2
      | .ret d fr ρ2 => .ret d fr ρ2
      | .exc x ρ2 => .exc x ρ2
      | .bad => .bad
section
variable {X : Cx} {st : Stmt} {sts : List Stmt} {a b : CS} {e : Expr} {c : CE} {t : CB} {pos pos' : Pos}
theorem tS_nx {W : WX} {Dn : Ends} {σ : L2.St} {H : Hp} (h : tS X W cSkip Dn σ H) : Dn.nx σ H := by
  obtain ⟨L, ρ, G, B, rel, h⟩ := h
  exact h σ H G rel .refl
theorem ss_nil : SSs X [] cSkip := fun W _ _ => PSsimp pss_nil fun D σ H h => tS_nx h
theorem ss_one (h : SS X st a) : SSs X [st] a := fun W tk ps => pss_one (h W tk ps)
theorem seq_imp {W : WX} {Dn : Ends} {σ : L2.St} {H : Hp} (h : tS X W (cSeq a b) Dn σ H) : tS X W a { Dn with nx := tS X W b Dn } σ H := by
  obtain ⟨L, ρ, G, B, rel, h⟩ := h
  refine ⟨L, ρ, G, B, rel, ?_⟩
  unfold cSeq at h
  cases q : a ρ with
  | nx ρ1 => rw [q] at h; exact fun σ' H' G' r1 x1 => ⟨L, ρ1, G', B, r1, GotS.shift x1 h⟩
  | ret d fr ρ1 => rw [q] at h; exact h
  | exc x ρ1 => rw [q] at h; exact h
  | bad => rw [q] at h; exact h.elim
theorem ss_cons (h1 : SS X st a) (h2 : SSs X sts b) : SSs X (st :: sts) (cSeq a b) := fun W tk ps => PSsimp (pss_cons (h1 W tk ps) (h2 W tk ps)) fun D σ H h => seq_imp h
theorem ss_expr (he : SX X e c) (hs : swapsWith e none pos.line X.env = pure false := by rfl) : SS X (.Expr e pos) (cDrop c) := fun W tk _ => PSimp (ps_expr (he W tk) hs) (by
  rintro D σ H ⟨L, ρ, G, B, rel, h⟩
  refine ⟨L, ρ, G, B, rel, (GotS.expr (k := fun _ ρ1 => RS.nx ρ1) h).mono ?_⟩
  rintro v H1 ⟨p, ρ1, G1, _, rel1, _, _, h1⟩
  exact h1 σ H1 G1 rel1 .refl)
theorem ret_ok {L : L2.St} {W : WX} {G B H : Hp} {σ : L2.St} {ρ : Rho} {p : Pl} {v : V} {Dn : Ends} (rel : Rel X.K L B σ ρ G H) (ok : PlOk X.K B σ ρ G H v p) (h : GotS X L W G B (retP p ρ) Dn) : Dn.rt v H := by
  cases p with
  | val d => exact h v σ H G rel .refl ok
  | tmp d => exact h v σ H G rel .refl ok
  | slot i =>
    have hv : σ[i]? = some (some v) := ok
    unfold retP at h
    cases q : ρ[i]? with
    | none => simp only [q] at h; exact h.elim
    | some o =>
      cases o with
      | none => simp only [q] at h; exact h.elim
      | some w =>
        obtain ⟨d, m⟩ := w
        cases m with
        | fz => simp only [q] at h; exact h.elim
        | lz => simp only [q] at h; exact h.elim
        | own =>
          simp only [q] at h
          obtain ⟨v', h1, h2⟩ := rel.slots i _ q
          rw [hv] at h1; cases h1
          obtain ⟨a, rfl, h3, h4, c⟩ := h2
          have hc : canSet ρ i = true := by unfold canSet; rw [q]
          refine h (.ref a) σ H G (rel.forget hc) .refl ⟨a, rfl, h3, h4, c, fun j w hj hf => ?_⟩
          by_cases hji : j = i
          · subst hji
            rw [List.getElem?_set_self (canSet_lt hc)] at hj; cases hj
          · rw [List.getElem?_set_ne (Ne.symm hji)] at hj
            exact fun z => rel.sep j i w (d, .own) (.ref a) hji hj q hf rfl z hv
        | lent =>
          simp only [q] at h
          have fe : frz (.slot i) ρ = some (d, ρ.set i (some (d, .lz))) := by unfold frz; simp only [q]
          obtain ⟨G1, r1, x1, f1⟩ := PlFx.frz (p := .slot i) rel hv fe
          exact h v σ H G1 r1 x1 f1
theorem ss_ret (he : SX X e c) : SS X (.Return (some e) pos) (cRet c) := fun W tk _ => PSimp (ps_ret (he W tk)) (by
  rintro D σ H ⟨L, ρ, G, B, rel, h⟩
  refine ⟨L, ρ, G, B, rel, (GotS.expr h).mono ?_⟩
  rintro v H1 ⟨p, ρ1, G1, _, rel1, _, ok, h1⟩
  exact ret_ok rel1 ok h1)
theorem ss_if {t' : Expr} {s1 s2 : List Stmt} (ht : ST X t' t) (ha : SSs X s1 a) (hb : SSs X s2 b) : SS X (.If t' s1 s2 pos) (cIf t a b) := fun W tk ps => PSimp (ps_if (ht W tk) (ha W tk ps) (hb W tk ps)) (by
  rintro D σ H ⟨L, ρ, G, B, rel, h⟩
  refine ⟨L, ρ, G, B, rel, (GotS.test h).mono ?_⟩
  rintro k H1 ⟨ρ1, G1, _, rel1, _, h1⟩
  cases k with
  | true => rw [if_pos rfl] at h1 ⊢; exact ⟨L, ρ1, G1, B, rel1, h1⟩
  | false => rw [if_neg Bool.false_ne_true] at h1 ⊢; exact ⟨L, ρ1, G1, B, rel1, h1⟩)
theorem set_imp {W : WX} {i : Nat} {Dn : Ends} {σ : L2.St} {H : Hp} (h : tS X W (cSet i c) Dn σ H) : tX X W c σ H (fun x H1 => gName i x σ H1 Dn.nx) := by
  obtain ⟨L, ρ, G, B, rel, h⟩ := h
  refine ⟨L, ρ, G, B, rel, (GotS.expr h).mono ?_⟩
  rintro v H1 ⟨p, ρ1, G1, _, rel1, _, ok, h1⟩
  cases q : store i p ρ1 with
  | none => simp only [q] at h1; exact h1.elim
  | some ρ2 =>
    simp only [q] at h1
    obtain ⟨G2, r2, x2⟩ := store_ok' rel1 ok q
    exact h1 _ H1 G2 r2 x2
theorem ss_set (i : Nat) {x : Str} (hN : X.N.Nodup) (he : SX X e c) (hi : X.N[i]? = some x := by rfl) (hx : Loc X.env.scope x := by first | exact Or.inl rfl | exact Or.inr rfl) (hs : swapsWith e (some (.Name x pos')) pos.line X.env = pure false := by rfl)
    (hf : X.fn x = true ∨ X.env.scope.names.lookup x = some .local := by first | exact .inl rfl | exact .inr rfl | assumption) : SS X (.Assign [.Name x pos'] e pos) (cSet i c) := fun W tk _ =>
  PSimp (ps_set hN hi hx (he W tk) hs hf) fun D σ H h => set_imp h
/-- while, with fuel -/
def cWhile (n : Nat) (t : CB) (b : CS) : CS := fun ρ => whileL t b n ρ
theorem ss_while (n : Nat) {t' : Expr} {body : List Stmt} (ht : ST X t' t) (hb : SSs X body b) : SS X (.While t' body [] pos) (cWhile n t b) := fun W tk ps => PSimp (ps_while ps (ht W tk) (hb W tk ps)) (by
  rintro D σ H ⟨L, ρ, G, B, rel, h⟩
  refine ⟨fun m σ H => ∃ (ρ : Rho) (G : Hp), Rel X.K L B σ ρ G H ∧ GotS X L W G B (whileL t b m ρ) D, ⟨n, ρ, G, rel, h⟩, ?_⟩
  rintro m σ H ⟨ρ, G, rel, h⟩
  cases m with
  | zero => exact h.elim
  | succ m =>
    unfold whileL at h
    refine ⟨L, ρ, G, B, rel, (GotS.test h).mono ?_⟩
    rintro k H1 ⟨ρ1, G1, _, rel1, _, h1⟩
    cases k with
    | true =>
      rw [if_pos rfl] at h1 ⊢
      refine ⟨fun σ' H' => ∃ (ρ : Rho) (G : Hp), Rel X.K L B σ' ρ G H' ∧ GotS X L W G B (whileL t b m ρ) D, fun σ' H' q => ⟨m, Nat.lt_succ_self m, q⟩, L, ρ1, G1, B, rel1, ?_⟩
      cases q : b ρ1 with
      | nx ρ2 => simp only [q] at h1; exact fun σ' H' G' r1 x1 => ⟨ρ2, G', r1, GotS.shift x1 h1⟩
      | ret d fr ρ2 => simp only [q] at h1; exact h1
      | exc x ρ2 => simp only [q] at h1; exact h1
      | bad => simp only [q] at h1; exact h1.elim
    | false => rw [if_neg Bool.false_ne_true] at h1 ⊢; exact h1 σ H1 G1 rel1 .refl)

/-! ### targets -/
def tG (X : Cx) (vs : List Nat) (g : D → Rho → Option Rho) : TG := fun v σ H Q => ∃ (L : L2.St) (ρ : Rho) (G B : Hp) (d : D), Rel X.K L B σ ρ G H ∧ Fz X.K G v d ∧ match g d ρ with
  | some ρ' => ∀ (σ' : L2.St) (H' G' : Hp), Rel X.K L B σ' ρ' G' H' → Ext B G G' → Only vs σ σ' → Q σ' H'
  | none => False
def tGs (X : Cx) (vs : List Nat) (g : List D → Rho → Option Rho) : TGs := fun xs σ H Q => ∃ (L : L2.St) (ρ : Rho) (G B : Hp) (ds : List D), Rel X.K L B σ ρ G H ∧ FzA X.K G xs ds ∧ match g ds ρ with
  | some ρ' => ∀ (σ' : L2.St) (H' G' : Hp), Rel X.K L B σ' ρ' G' H' → Ext B G G' → Only vs σ σ' → Q σ' H'
  | none => False
def SG (X : Cx) (e : Expr) (vs : List Nat) (g : D → Rho → Option Rho) : Prop := PG X e (tG X vs g)
def SGs (X : Cx) (es : List Expr) (vs : List Nat) (g : List D → Rho → Option Rho) : Prop := PGs X es (tGs X vs g)
theorem PGimp {X : Cx} {e : Expr} {t t' : TG} (h : PG X e t) (w : ∀ v σ H Q, t' v σ H Q → t v σ H Q) : PG X e t' := ⟨fun pins s σ H v u Q I r q => h.run pins s σ H v u Q I r (w _ _ _ _ q)⟩
theorem PGsimp {X : Cx} {e : List Expr} {t t' : TGs} (h : PGs X e t) (w : ∀ v σ H Q, t' v σ H Q → t v σ H Q) : PGs X e t' := ⟨fun pins s σ H v u Q I r q => h.run pins s σ H v u Q I r (w _ _ _ _ q)⟩
def gNm (i : Nat) : D → Rho → Option Rho := fun d ρ => store i (.val d) ρ
theorem sg_name (i : Nat) {x : Str} (hN : X.N.Nodup) (hi : X.N[i]? = some x := by rfl) (hx : Loc X.env.scope x := by first | exact Or.inl rfl | exact Or.inr rfl) (hf : X.fn x = true ∨ X.env.scope.names.lookup x = some .local := by first | exact .inl rfl | exact .inr rfl | assumption) :
    SG X (.Name x pos) [i] (gNm i) := PGimp (pg_name hN hi hx hf) (by
  rintro v σ H Q ⟨L, ρ, G, B, d, rel, fz, h⟩
  by_cases hc : canSet ρ i = true
  · simp only [gNm, store, if_pos hc] at h
    exact h _ H G (rel.store hc (.inl rfl) fz (fun z => by cases z)) .refl ⟨by simp, fun j hj => by
      rw [List.getElem?_set_ne]
      intro z; subst z; exact hj (by simp)⟩
  · simp only [gNm, store, if_neg hc] at h)
def gsNil : List D → Rho → Option Rho := fun ds ρ => match ds with
  | [] => some ρ
  | _ => none
def gsCons (g : D → Rho → Option Rho) (r : List D → Rho → Option Rho) : List D → Rho → Option Rho := fun ds ρ => match ds with
  | d :: ds => match g d ρ with
    | some ρ1 => r ds ρ1
    | none => none
  | [] => none
def gTp (n : Nat) (g : List D → Rho → Option Rho) : D → Rho → Option Rho := fun d ρ => match d with
  | .tuple ds => if ds.length = n then g ds ρ else none
  | _ => none
variable {es : List Expr} {g : D → Rho → Option Rho} {gs : List D → Rho → Option Rho} {vs ws : List Nat}
theorem sgs_nil : SGs X [] [] gsNil := PGsimp pgs_nil (by
  rintro xs σ H Q ⟨L, ρ, G, B, ds, rel, fz, h⟩
  cases fz with
  | nil => exact ⟨rfl, h σ H G rel .refl ⟨rfl, fun _ _ => rfl⟩⟩
  | cons a b => exact h.elim)
theorem sgs_cons (h1 : SG X e vs g) (h2 : SGs X es ws gs) (hs : (assignEach (e :: es) X.env).map (·.2) = assign e X.env :: (assignEach es X.env).map (·.2) := by rfl) : SGs X (e :: es) (vs ++ ws) (gsCons g gs) := PGsimp (pgs_cons h1 h2 hs) (by
  rintro xs σ H Q ⟨L, ρ, G, B, ds, rel, fz, h⟩
  cases fz with
  | nil => exact h.elim
  | @cons v vr d dr a b =>
    refine ⟨v, vr, rfl, L, ρ, G, B, d, rel, a, ?_⟩
    unfold gsCons at h
    cases q : g d ρ with
    | none => simp only [q] at h
    | some ρ1 =>
      simp only [q] at h
      refine fun σ' H' G' r' x1 o1 => ⟨L, ρ1, G', B, dr, r', b.mono x1.same, ?_⟩
      cases q2 : gs dr ρ1 with
      | none => simp only [q2] at h
      | some ρ2 =>
        simp only [q2] at h
        exact fun σ2 H2 G2 r2 x2 o2 => h σ2 H2 G2 r2 (x1.trans x2) (o1.trans o2))
theorem sg_tup {n k : Nat} (hc : X.calm = true) (h : SGs X es vs gs) (hn : (assignEach es X.env).length = n := by rfl) (hst : (assignEach es X.env).findIdx? (·.1) = none := by rfl) : SG X (.Tuple es k pos) vs (gTp n gs) := PGimp (pg_tup hc h hn hst) (by
  rintro v σ H Q ⟨L, ρ, G, B, d, rel, fz, h⟩
  cases d with
  | tuple ds =>
    unfold gTp at h
    obtain ⟨a, xs, rfl, h1, h2, h3⟩ := Vw.tup rel.sub (.of fz : Vw X.K G H v _)
    by_cases hl : ds.length = n
    · simp only [if_pos hl] at h
      exact ⟨a, xs, rfl, h2, by rw [h3.length]; exact hl, L, ρ, G, B, ds, rel, h3, h⟩
    · simp only [if_neg hl] at h
  | _ => exact h.elim)
/-- a, b = e -/
def cUnp (g : D → Rho → Option Rho) (c : CE) : CS := fun ρ => (c ρ).toS fun p ρ1 => match frz p ρ1 with
  | some (d, ρ2) => match g d ρ2 with
    | some ρ3 => .nx ρ3
    | none => .bad
  | none => .bad
theorem ss_unp {tg : Expr} (he : SX X e c) (hg : SG X tg vs g) (hs : swapsWithSole [tg] e pos.line X.env = pure false := by rfl) (hw : swappedStores [tg] e X.env = pure none := by rfl)
    (h1 : (assignEach [tg] X.env).map (·.2) = [assign tg X.env] := by rfl) : SS X (.Assign [tg] e pos) (cUnp g c) := fun W tk _ => PSimp (ps_asg (he W tk) hg hs hw h1) (by
  rintro D σ H ⟨L, ρ, G, B, rel, h⟩
  refine ⟨L, ρ, G, B, rel, (GotS.expr h).mono ?_⟩
  rintro v H1 ⟨p, ρ1, G1, _, rel1, _, ok, h1⟩
  cases q : frz p ρ1 with
  | none => simp only [q] at h1; exact h1.elim
  | some w =>
    obtain ⟨d, ρ2⟩ := w
    simp only [q] at h1
    obtain ⟨G2, r2, x2, fx2⟩ := ok.fix rel1
    obtain ⟨G3, r3, x3, f3⟩ := fx2.frz r2 q
    refine ⟨L, ρ2, G3, B, d, r3, f3, ?_⟩
    cases q2 : g d ρ2 with
    | none => simp only [q2] at h1; exact h1.elim
    | some ρ3 =>
      simp only [q2] at h1
      exact fun σ' H' G' r' x4 _ => h1 σ' H' G' r' ((x2.trans x3).trans x4))

/-! ### what is walked -/
def ItOk (K : PySem.W.Frag) (G : Hp) (ds : List D) (J : It) : Prop := ∀ (G2 H2 : Hp), Same G G2 → Same G2 H2 → ∀ i : Nat, (∀ d, ds[i]? = some d → J.go i H2 ∧ ∀ x H3, J.yld i H2 x H3 → Post K G2 H2 x H3 (.val d)) ∧ (ds.length ≤ i → J.stop i H2)
abbrev GotI (X : Cx) (L : L2.St) (W : WX) (σ : L2.St) (G B : Hp) (r : R (List D)) (Q : It → Hp → Prop) : Prop := Got X L W σ G B (fun ds _ G' _ J => ItOk X.K G' ds J) r Q
def tI (X : Cx) (W : WX) (c : CI) : TI := fun σ H Q => ∃ (L : L2.St) (ρ : Rho) (G B : Hp), Rel X.K L B σ ρ G H ∧ GotI X L W σ G B (c ρ) Q
def SI (X : Cx) (tg e : Expr) (c : CI) : Prop := ∀ W : WX, Takes X W → PI X tg e (tI X W c)
theorem PIimp {X : Cx} {tg e : Expr} {t t' : TI} (h : PI X tg e t) (w : ∀ σ H Q, t' σ H Q → t σ H Q) : PI X tg e t' := ⟨fun pins s σ H Q I q => h.run pins s σ H Q I (w _ _ _ q)⟩
variable {tg : Expr} {ci : CI}
/-- for: each thing stored, the body -/
def cFor (ci : CI) (g : D → Rho → Option Rho) (b : CS) : CS := fun ρ => match ci ρ with
  | .ok ds ρ1 => forL g b ds ρ1
  | .exc x ρ1 => .exc x ρ1
  | .bad => .bad
theorem ss_for {it : Expr} {body : List Stmt} (hc : X.calm = true) (hi : SI X tg it ci) (hg : SG X tg vs g) (hb : SSs X body b) (hs : ∀ x, foldedSetIterable it X.env x = pure x := by intro _; rfl) : SS X (.For tg it body [] pos) (cFor ci g b) := fun W tk ps =>
  PSimp (ps_for ps hc (hi W tk) hg (hb W tk ps) hs) (by
  rintro D σ H ⟨L, ρ, G, B, rel, h⟩
  unfold cFor at h
  refine ⟨L, ρ, G, B, rel, ?_⟩
  cases q : ci ρ with
  | bad => rw [q] at h; exact h.elim
  | exc x ρ1 => rw [q] at h; exact fun c d H' G' r' x' ok => h c d σ H' G' r' x' ok
  | ok ds ρ1 =>
    simp only [q] at h
    intro J H1 G1 rel1 ext1 hit
    refine ⟨fun i m σ H => m = ds.length - i ∧ i ≤ ds.length ∧ ∃ (ρ : Rho) (G : Hp), Rel X.K L B σ ρ G H ∧ Ext B G1 G ∧ GotS X L W G B (forL g b (ds.drop i) ρ) D, ⟨ds.length, by simp, Nat.zero_le _, ρ1, G1, rel1, .refl, by simpa using GotS.shift ext1 h⟩, ?_⟩
    rintro i m σ H ⟨rfl, hle, ρ, G, rel, ext, h⟩
    obtain ⟨h1, h2⟩ := hit G H ext.same rel.sub i
    by_cases hlt : i < ds.length
    · right
      have ei : ds[i]? = some ds[i] := by simp [hlt]
      obtain ⟨hgo, hy⟩ := h1 _ ei
      rw [List.drop_eq_getElem_cons hlt] at h
      refine ⟨hgo, fun σ' H' => i + 1 ≤ ds.length ∧ ∃ (ρ : Rho) (G : Hp), Rel X.K L B σ' ρ G H' ∧ Ext B G1 G ∧ GotS X L W G B (forL g b (ds.drop (i + 1)) ρ) D, fun σ' H' q => ⟨ds.length - (i + 1), by omega, rfl, q⟩, fun x H' hx => ?_⟩
      obtain ⟨G2, r2, x2, f2⟩ := (hy x H' hx).ok rel
      refine ⟨L, ρ, G2, B, ds[i], r2, f2, ?_⟩
      unfold forL at h
      cases q1 : g ds[i] ρ with
      | none => simp only [q1] at h; exact h.elim
      | some ρ2 =>
        simp only [q1] at h
        intro σ' H5 G5 r' x5 _
        refine ⟨L, ρ2, G5, B, r', ?_⟩
        cases q2 : b ρ2 with
        | nx ρ3 => simp only [q2] at h; exact fun σ3 H3 G3 r3 x3 => ⟨hlt, ρ3, G3, r3, ((ext.trans x2).trans x5).trans x3, GotS.shift ((x2.trans x5).trans x3) h⟩
        | ret d fr ρ3 => simp only [q2] at h; exact GotS.shift (x2.trans x5) h
        | exc x ρ3 => simp only [q2] at h; exact GotS.shift (x2.trans x5) h
        | bad => simp only [q2] at h; exact h.elim
    · left
      have e : i = ds.length := by omega
      subst e
      refine ⟨h2 (Nat.le_refl _), ?_⟩
      rw [List.drop_length] at h
      exact h σ H G rel .refl)
end
end TN
namespace TN
open PySem PySem.Spec PyProof.Rows L2

/-! ### defs -/
structure ArgsOk (K : PySem.W.Frag) (G H B : Hp) (vs : List V) (as : List (D × Md)) : Prop where
  len : vs.length = as.length
  arg : ∀ (i : Nat) (p : D × Md), as[i]? = some p → ∃ v, vs[i]? = some v ∧ SlotOk K G H B v p ∧ (p.2 = .fz ∨ p.2 = .lent)
  sep : ∀ (i j : Nat) (p q : D × Md) (v : V), i ≠ j → as[i]? = some p → as[j]? = some q → p.2 = .lent → q.2 = .lent → vs[i]? = some v → vs[j]? ≠ some v
/-- behind a call -/
structure After (K : PySem.W.Frag) (B G : Hp) (vs : List V) (as : List (D × Md)) (outs : List Slot) (G' H' : Hp) : Prop where
  sub : Same G' H'
  base : Same B H'
  ext : Ext B G G'
  out : ∀ (i : Nat) (d : D) (v : V), as[i]? = some (d, .lent) → vs[i]? = some v → ∃ (d' : D) (m : Md), outs[i]? = some (some (d', m)) ∧ (m = .lent ∨ m = .lz) ∧ SlotOk K G' H' B v (d', m)
def FRes (K : PySem.W.Frag) (mg : Str → Option Value) (B G : Hp) (vs : List V) (as : List (D × Md)) (Q : VK) (E : XK) (r : FR) : Prop := match r with
  | .ok d fr outs => ∀ (v : V) (H' G' : Hp), After K B G vs as outs G' H' → (fr = false → Fz K G' v d) →
      (fr = true → ∃ a, v = .ref a ∧ G' a = none ∧ B a = none ∧ Cont K G' H' a d ∧ ∀ (i : Nat) (d1 : D) (w : V) (d2 : D), as[i]? = some (d1, .lent) → vs[i]? = some w → outs[i]? = some (some (d2, .lent)) → w ≠ v) → Q v H'
  | .exc x outs => ∀ (cls : Value) (d : Option Addr) (H' G' : Hp), After K B G vs as outs G' H' →
      (∃ C : Addr, mg x.cls = some (.ref C) ∧ cls = .ref C ∧ ((x.flds = [] ∧ d = none) ∨ ∃ (dd : Addr) (fs : List (Str × V)), d = some dd ∧ H' dd = some (.xd fs) ∧ B dd = none ∧ FzN K G' fs x.flds)) → E cls d H'
  | .bad => False
/-- the promise of a def with the meaning M -/
def spF (K : PySem.W.Frag) (mg : Str → Option Value) (n : Nat) (M : FM) : Sp := fun vs H Q E => ∃ (G B : Hp) (as : List (D × Md)), vs.length = n ∧ Same G H ∧ Same B H ∧ ArgsOk K G H B vs as ∧ FRes K mg B G vs as Q E (M as)
/-- the meaning by the body's -/
def mkF (n m : Nat) (c : CS) : FM := fun as => if as.length = n then (match c (as.map some ++ List.replicate (m - n) none) with
  | .nx ρ => .ok .none false (ρ.take n)
  | .ret d fr ρ => .ok d fr (ρ.take n)
  | .exc x ρ => .exc x (ρ.take n)
  | .bad => .bad) else .bad
theorem start_get {N : List Str} {vs : List V} {i : Nat} {v : V} (h : vs[i]? = some v) : (L2.start N vs)[i]? = some (some v) := by
  unfold L2.start
  have hi : i < vs.length := (List.getElem?_eq_some_iff.mp h).1
  rw [List.getElem?_append_left (by simpa using hi), List.getElem?_map, h]; rfl
section
variable {P : Program} {w : World} {K : PySem.W.Frag} {mg : Str → Option Value} {base : Heap} {x qual : Str} {params : Arguments} {body : List Stmt} {scope : Scope} {f : Addr} {fd : FuncData}
theorem body_imp {X : Cx} {N : List Str} {n : Nat} {c : CS} {vs : List V} {H : Hp} {Q : VK} {E : XK} (hK : X.K = K) (hmg : X.mg = mg) (hn : n ≤ N.length) (h : spF K mg n (mkF n N.length c) vs H Q E) :
    tS X (fun cls d _ H => E cls d H) c { nx := fun _ H' => Q .non H', rt := Q } (L2.start N vs) H := by
  obtain ⟨G, B, as, hl, sub, bs, ao, h⟩ := h
  subst hK hmg
  have hla : as.length = n := by rw [← ao.len]; exact hl
  unfold mkF at h
  rw [if_pos hla] at h
  have rget : ∀ {i : Nat} {p : D × Md}, (as.map some ++ List.replicate (N.length - n) none)[i]? = some (some p) → as[i]? = some p := by
    intro i p hp
    by_cases hi : i < as.length
    · rw [List.getElem?_append_left (by simpa using hi), List.getElem?_map] at hp
      cases q : as[i]? with
      | none => rw [q] at hp; cases hp
      | some a => rw [q] at hp; cases hp; rfl
    · rw [List.getElem?_append_right (by simpa using hi), List.getElem?_replicate] at hp
      split at hp <;> cases hp
  have rgetI : ∀ {i : Nat} {p : D × Md}, as[i]? = some p → (as.map some ++ List.replicate (N.length - n) none)[i]? = some (some p) := by
    intro i p hp
    have hi : i < as.length := (List.getElem?_eq_some_iff.mp hp).1
    rw [List.getElem?_append_left (by simpa using hi), List.getElem?_map, hp]; rfl
  generalize hL : ((List.range n).map fun i => match as[i]?, vs[i]? with
    | some (_, .lent), some v => some v
    | _, _ => none : List (Option V)) = L
  have Lget : ∀ {j : Nat} {v : V}, L[j]? = some (some v) → vs[j]? = some v ∧ ∃ d, as[j]? = some (d, .lent) := by
    intro j v hj
    rw [← hL, List.getElem?_map] at hj
    cases q : (List.range n)[j]? with
    | none => rw [q] at hj; cases hj
    | some k =>
      have : k = j := by
        have := List.getElem?_eq_some_iff.mp q
        obtain ⟨_, e⟩ := this
        simpa using e.symm
      subst this
      rw [q] at hj
      simp only [Option.map_some, Option.some.injEq] at hj
      split at hj
      · rename_i a b e1 e2 
        cases hj; exact ⟨e2, _, e1⟩
      · cases hj
  have LgetI : ∀ {j : Nat} {v : V} {d : D}, vs[j]? = some v → as[j]? = some (d, .lent) → L[j]? = some (some v) := by
    intro j v d h1 h2
    have hj : j < n := by rw [← hla]; exact (List.getElem?_eq_some_iff.mp h2).1
    rw [← hL, List.getElem?_map, List.getElem?_range hj]
    simp only [Option.map_some, h1, h2]
  have rel : Rel X.K L B (L2.start N vs) (as.map some ++ List.replicate (N.length - n) none) G H := by
    refine ⟨sub, bs, ?_, fun i p hp => ?_, fun i j p q v hij hp hq hf hf' hv => ?_, fun j v hj => ?_⟩
    · unfold L2.start
      rw [List.length_append, List.length_append, List.length_map, List.length_map, List.length_replicate, List.length_replicate, ao.len, hla]
    · obtain ⟨v, h1, h2, _⟩ := ao.arg i p (rget hp)
      exact ⟨v, start_get h1, h2⟩
    · obtain ⟨v1, h1, _, m1⟩ := ao.arg i p (rget hp)
      obtain ⟨v2, h2, _, m2⟩ := ao.arg j q (rget hq)
      have e1 : p.2 = .lent := by rcases m1 with e | e; (rw [e] at hf; cases hf); exact e
      have e2 : q.2 = .lent := by rcases m2 with e | e; (rw [e] at hf'; cases hf'); exact e
      rw [start_get h1] at hv; cases hv
      rw [start_get h2]
      intro z; cases z
      exact ao.sep i j p q _ hij (rget hp) (rget hq) e1 e2 h1 h2
    · obtain ⟨h1, d, h2⟩ := Lget hj
      exact ⟨start_get h1, d, .lent, rgetI h2, .inl rfl⟩
  have aft : ∀ {σ' : L2.St} {ρ' : Rho} {G' H' : Hp}, Rel X.K L B σ' ρ' G' H' → Ext B G G' → After X.K B G vs as (ρ'.take n) G' H' := by
    intro σ' ρ' G' H' r e
    refine ⟨r.sub, r.base, e, fun i d v h1 h2 => ?_⟩
    obtain ⟨h3, d', m, h4, h5⟩ := r.lent i v (LgetI h2 h1)
    obtain ⟨v', h6, h7⟩ := r.slots i _ h4
    rw [h3] at h6; cases h6
    have hi : i < n := by rw [← hla]; exact (List.getElem?_eq_some_iff.mp h1).1
    exact ⟨d', m, by rw [List.getElem?_take_of_lt hi]; exact h4, h5, h7⟩
  refine ⟨L, _, G, B, rel, ?_⟩
  cases q : c (as.map some ++ List.replicate (N.length - n) none) with
  | nx ρ' =>
    rw [q] at h
    exact fun σ' H' G' r e => h .non H' G' (aft r e) (fun _ => .non) (fun z => by cases z)
  | ret d fr ρ' =>
    rw [q] at h
    intro v σ' H' G' r e ok
    refine h v H' G' (aft r e) (fun z => ?_) (fun z => ?_)
    · subst z; exact ok
    · subst z
      obtain ⟨a, rfl, h1, h2, c, hs⟩ := ok
      refine ⟨a, rfl, h1, h2, c, fun i d1 w d2 e1 e2 e3 z => ?_⟩
      subst z
      obtain ⟨h3, d', m, h4, h5⟩ := r.lent i _ (LgetI e2 e1)
      have hi : i < n := by rw [← hla]; exact (List.getElem?_eq_some_iff.mp e1).1
      rw [List.getElem?_take_of_lt hi] at e3
      exact hs i _ e3 rfl h3
  | exc y ρ' =>
    rw [q] at h
    exact fun cls d σ' H' G' r e ok => h cls d H' G' (aft r e) ok
  | bad => rw [q] at h; exact h
theorem fn_sound {k : Nat} {N ps : List Str} {c : CS} (F : FunD K x qual params body scope [] [] f fd) (S : FnScope N ps scope)
    (hb : ∀ (cdv : Value) (A : Around) (outer : List Env) (s : Shared) (H : Hp) (E : XK), Room k (A.deeper (envOfC qual scope s.heap.objs.size f cdv)) → SSs (cxOf (L2.CX P w) P w K mg base N qual scope f cdv A outer s H E) body c) :
    FnOk P w K mg base (L2.CX P w) (k + 1) f fd ps (spF K mg ps.length (mkF ps.length N.length c)) := by
  refine F.ok S (fun vs H Q E h => ?_) (fun cdv A outer s H vs Q E hr h => ?_)
  · obtain ⟨_, _, _, h, _⟩ := h; exact h
  · have hn : ps.length ≤ N.length := by
      have := congrArg List.length S.pre
      rw [List.length_take] at this; omega
    exact ⟨_, hb cdv A outer s H E hr _ (takes_of rfl rfl rfl rfl) (passes_of rfl), body_imp (X := cxOf (L2.CX P w) P w K mg base N qual scope f cdv A outer s H E) rfl rfl hn h⟩
end

/-! ### calls -/
def argOf (p : Pl) (ρ : Rho) : Option (D × Md) := match p with
  | .val d => some (d, .fz)
  | .tmp d => some (d, .fz)
  | .slot i => match ρ[i]? with
    | some (some (d, .own)) => some (d, .lent)
    | some (some (d, .lent)) => some (d, .lent)
    | some (some (d, .fz)) => some (d, .fz)
    | some (some (d, .lz)) => some (d, .fz)
    | _ => none
def argsOf : List Pl → Rho → Option (List (D × Md))
  | [], _ => some []
  | p :: ps, ρ => match argOf p ρ, argsOf ps ρ with
    | some a, some as => some (a :: as)
    | _, _ => none
def isSlot (i : Nat) : Pl → Bool
  | .slot j => i == j
  | _ => false
def noDup : List Pl → Bool
  | [] => true
  | .slot i :: ps => !(ps.any (isSlot i)) && noDup ps
  | _ :: ps => noDup ps
def outAt (j : Nat) : List Pl → List Slot → Option Slot
  | p :: ps, o :: os => if isSlot j p = true then some o else outAt j ps os
  | _, _ => none
def gbAt (ps : List Pl) (outs : List Slot) (j : Nat) (s : Slot) : Slot := match s with
  | some (d, .own) => match outAt j ps outs with
    | some (some (d', .lent)) => some (d', .own)
    | some (some (d', .lz)) => some (d', .fz)
    | some _ => none
    | none => some (d, .own)
  | some (d, .lent) => match outAt j ps outs with
    | some (some (d', .lent)) => some (d', .lent)
    | some (some (d', .lz)) => some (d', .lz)
    | some _ => none
    | none => some (d, .lent)
  | s => s
def gb (ps : List Pl) (outs : List Slot) : Nat → Rho → Rho
  | _, [] => []
  | j, s :: r => gbAt ps outs j s :: gb ps outs (j + 1) r
theorem gb_get (ps : List Pl) (outs : List Slot) : ∀ (ρ : Rho) (j i : Nat), (gb ps outs j ρ)[i]? = (ρ[i]?).map (gbAt ps outs (j + i))
  | [], _, _ => by simp [gb]
  | s :: r, j, 0 => by simp [gb]
  | s :: r, j, i + 1 => by
    simp only [gb, List.getElem?_cons_succ]
    rw [gb_get ps outs r (j + 1) i, Nat.add_right_comm]; rfl
theorem gb_length (ps : List Pl) (outs : List Slot) : ∀ (ρ : Rho) (j : Nat), (gb ps outs j ρ).length = ρ.length
  | [], _ => rfl
  | s :: r, j => by simp [gb, gb_length ps outs r]
theorem isSlot_iff {j : Nat} {p : Pl} : isSlot j p = true ↔ p = .slot j := by
  cases p with
  | val d => exact ⟨fun h => Bool.noConfusion h, fun h => nomatch h⟩
  | tmp d => exact ⟨fun h => Bool.noConfusion h, fun h => nomatch h⟩
  | slot i => exact ⟨fun h => by rw [eq_of_beq (show (j == i) = true from h)], fun h => by cases h; exact beq_self_eq_true j⟩
theorem outAt_some {j : Nat} : ∀ {ps : List Pl} {outs : List Slot} {o : Slot}, outAt j ps outs = some o → ∃ i : Nat, ps[i]? = some (Pl.slot j) ∧ outs[i]? = some o
  | p :: ps, o' :: os, o, h => by
    unfold outAt at h
    by_cases hs : isSlot j p = true
    · rw [if_pos hs] at h; cases h
      exact ⟨0, by rw [isSlot_iff.mp hs]; rfl, rfl⟩
    · rw [if_neg hs] at h
      obtain ⟨i, h1, h2⟩ := outAt_some h
      exact ⟨i + 1, by simpa using h1, by simpa using h2⟩
  | [], _, _, h => by simp [outAt] at h
  | _ :: _, [], _, h => by simp [outAt] at h
theorem outAt_none {j : Nat} : ∀ {ps : List Pl} {outs : List Slot} {i : Nat} {o : Slot}, outAt j ps outs = none → ps[i]? = some (.slot j) → outs[i]? = some o → False
  | p :: ps, o' :: os, 0, o, h, h1, h2 => by
    simp at h1; subst h1
    unfold outAt at h
    rw [if_pos (isSlot_iff.mpr rfl)] at h; cases h
  | p :: ps, o' :: os, i + 1, o, h, h1, h2 => by
    unfold outAt at h
    by_cases hs : isSlot j p = true
    · rw [if_pos hs] at h; cases h
    · rw [if_neg hs] at h
      exact outAt_none h (by simpa using h1) (by simpa using h2)
  | [], _, _, _, _, h1, _ => by simp at h1
  | _ :: _, [], _, _, _, _, h2 => by simp at h2
theorem noDup_ne : ∀ {ps : List Pl} {i k j : Nat}, noDup ps = true → i ≠ k → ps[i]? = some (.slot j) → ps[k]? = some (.slot j) → False
  | [], _, _, _, _, _, h, _ => by simp at h
  | p :: ps, 0, 0, _, _, hik, _, _ => hik rfl
  | p :: ps, 0, k + 1, j, hd, _, h1, h2 => by
    simp at h1; subst h1
    simp only [noDup, Bool.and_eq_true, Bool.not_eq_true'] at hd
    have h2 : ps[k]? = some (.slot j) := by simpa using h2
    have := List.any_eq_false.mp hd.1 _ (List.mem_of_getElem? h2)
    exact this (isSlot_iff.mpr rfl)
  | p :: ps, i + 1, 0, j, hd, _, h1, h2 => by
    simp at h2; subst h2
    simp only [noDup, Bool.and_eq_true, Bool.not_eq_true'] at hd
    have h1 : ps[i]? = some (.slot j) := by simpa using h1
    have := List.any_eq_false.mp hd.1 _ (List.mem_of_getElem? h1)
    exact this (isSlot_iff.mpr rfl)
  | p :: ps, i + 1, k + 1, j, hd, hik, h1, h2 => by
    have hd' : noDup ps = true := by
      cases p with
      | val d => exact hd
      | tmp d => exact hd
      | slot n => simp only [noDup, Bool.and_eq_true] at hd; exact hd.2
    exact noDup_ne (i := i) (k := k) hd' (fun z => hik (congrArg Nat.succ z)) (by simpa using h1) (by simpa using h2)
theorem argsOf_get : ∀ {ps : List Pl} {ρ : Rho} {as : List (D × Md)} {i : Nat} {a : D × Md}, argsOf ps ρ = some as → as[i]? = some a → ∃ p, ps[i]? = some p ∧ argOf p ρ = some a
  | [], _, _, i, a, h, ha => by cases h; simp at ha
  | p :: ps, ρ, as, i, a, h, ha => by
    unfold argsOf at h
    cases e1 : argOf p ρ with
    | none => simp [e1] at h
    | some a1 =>
      cases e2 : argsOf ps ρ with
      | none => simp [e1, e2] at h
      | some as1 =>
        simp only [e1, e2, Option.some.injEq] at h
        subst h
        cases i with
        | zero => simp at ha; subst ha; exact ⟨p, rfl, e1⟩
        | succ i =>
          obtain ⟨q, h1, h2⟩ := argsOf_get e2 (by simpa using ha)
          exact ⟨q, by simpa using h1, h2⟩
theorem argsOf_len : ∀ {ps : List Pl} {ρ : Rho} {as : List (D × Md)}, argsOf ps ρ = some as → as.length = ps.length
  | [], _, _, h => by cases h; rfl
  | p :: ps, ρ, as, h => by
    unfold argsOf at h
    cases e1 : argOf p ρ with
    | none => simp [e1] at h
    | some a1 =>
      cases e2 : argsOf ps ρ with
      | none => simp [e1, e2] at h
      | some as1 =>
        simp only [e1, e2, Option.some.injEq] at h
        subst h
        simp [argsOf_len e2]
theorem argsOf_of {ps : List Pl} {ρ : Rho} {as : List (D × Md)} {i : Nat} {p : Pl} (h : argsOf ps ρ = some as) (hp : ps[i]? = some p) : ∃ a : D × Md, as[i]? = some a ∧ argOf p ρ = some a := by
  have hl := argsOf_len h
  have hi : i < as.length := by rw [hl]; exact (List.getElem?_eq_some_iff.mp hp).1
  have ea : as[i]? = some as[i] := by simp [hi]
  obtain ⟨q, h1, h2⟩ := argsOf_get h ea
  rw [hp] at h1; cases h1
  exact ⟨_, ea, h2⟩
def callM (M : FM) (ps : List Pl) (ρ : Rho) : R Pl := match argsOf ps ρ with
  | none => .bad
  | some as => if noDup ps = true then (match M as with
    | .ok d fr outs => .ok (plR d fr) (gb ps outs 0 ρ)
    | .exc x outs => .exc x (gb ps outs 0 ρ)
    | .bad => .bad) else .bad
def cCall (M : FM) (c : CA) : CE := fun ρ => (c ρ).bind fun ps ρ1 => callM M ps ρ1
section
variable {K : PySem.W.Frag} {L : L2.St} {B G H : Hp} {σ : L2.St} {ρ : Rho} {ps : List Pl} {vs : List V} {as : List (D × Md)}
def lentVs (as : List (D × Md)) (vs : List V) : List V := (as.zip vs).filterMap fun q => if q.1.2 = .lent then some q.2 else none
theorem mem_lentVs {v : V} (h : v ∈ lentVs as vs) : ∃ (i : Nat) (d : D), as[i]? = some (d, .lent) ∧ vs[i]? = some v := by
  obtain ⟨q, hq, e⟩ := List.mem_filterMap.mp h
  obtain ⟨i, hi⟩ := List.getElem?_of_mem hq
  rw [List.getElem?_zip_eq_some] at hi
  obtain ⟨⟨d, m⟩, v'⟩ := q
  split at e
  · rename_i hm
    cases e
    have hm : m = .lent := hm
    subst hm
    exact ⟨i, d, hi.1, hi.2⟩
  · cases e
theorem lentVs_mem {i : Nat} {d : D} {v : V} (h1 : as[i]? = some (d, .lent)) (h2 : vs[i]? = some v) : v ∈ lentVs as vs :=
  List.mem_filterMap.mpr ⟨((d, .lent), v), List.mem_of_getElem? (List.getElem?_zip_eq_some.mpr ⟨h1, h2⟩), by simp⟩
/-- what a callee must leave -/
def calB (H : Hp) (as : List (D × Md)) (vs : List V) : Hp := fun b => if V.ref b ∈ lentVs as vs then none else H b
theorem calB_same : Same (calB H as vs) H := fun b o e => by
  unfold calB at e
  split at e
  · cases e
  · exact e
/-- a lent argument is a name's own list -/
theorem lent_slot (fx : PlA K σ G vs ps) (ha : argsOf ps ρ = some as) {i : Nat} {d : D} {v : V} (h1 : as[i]? = some (d, .lent)) (h2 : vs[i]? = some v) :
    ∃ (j : Nat) (m : Md), ps[i]? = some (Pl.slot j) ∧ σ[j]? = some (some v) ∧ ρ[j]? = some (some (d, m)) ∧ (m = .own ∨ m = .lent) := by
  obtain ⟨p, h3, h4⟩ := argsOf_get ha h1
  obtain ⟨v', h5, h6⟩ := fx.get h3
  rw [h2] at h5; cases h5
  cases p with
  | val x => cases h4
  | tmp x => cases h4
  | slot j =>
    unfold argOf at h4
    cases q : ρ[j]? with
    | none => simp [q] at h4
    | some o =>
      cases o with
      | none => simp [q] at h4
      | some w =>
        obtain ⟨d', m⟩ := w
        cases m with
        | own => simp only [q, Option.some.injEq, Prod.mk.injEq] at h4; obtain ⟨rfl, _⟩ := h4; exact ⟨j, .own, h3, h6, q, .inl rfl⟩
        | lent => simp only [q, Option.some.injEq, Prod.mk.injEq] at h4; obtain ⟨rfl, _⟩ := h4; exact ⟨j, .lent, h3, h6, q, .inr rfl⟩
        | fz => simp [q] at h4
        | lz => simp [q] at h4
theorem calArgs (rel : Rel K L B σ ρ G H) (fx : PlA K σ G vs ps) (ha : argsOf ps ρ = some as) (nd : noDup ps = true) : ArgsOk K G H (calB H as vs) vs as := by
  refine ⟨by rw [fx.length, argsOf_len ha], fun i p hp => ?_, fun i j p q v hij hp hq e1 e2 h1 h2 => ?_⟩
  · obtain ⟨pl, h3, h4⟩ := argsOf_get ha hp
    obtain ⟨v, h5, h6⟩ := fx.get h3
    obtain ⟨d, m⟩ := p
    have key : m = .lent → SlotOk K G H (calB H as vs) v (d, m) := fun z => by
      subst z
      obtain ⟨j, m', _, h8, h9, h10⟩ := lent_slot fx ha hp h5
      obtain ⟨v', h11, h12⟩ := rel.slots j _ h9
      rw [h8] at h11; cases h11
      obtain ⟨a, rfl, g1, b1, c1⟩ := h12.own (by rcases h10 with rfl | rfl <;> rfl)
      exact ⟨a, rfl, g1, if_pos (lentVs_mem hp h5), c1⟩
    have fzk : m = .fz → SlotOk K G H (calB H as vs) v (d, m) := fun z => by
      subst z
      cases pl with
      | val x => cases h4; exact h6
      | tmp x => cases h4; exact h6
      | slot j =>
        unfold argOf at h4
        cases q : ρ[j]? with
        | none => simp [q] at h4
        | some o =>
          cases o with
          | none => simp [q] at h4
          | some w =>
            obtain ⟨d', m'⟩ := w
            obtain ⟨v', h11, h12⟩ := rel.slots j _ q
            have h6' : σ[j]? = some (some v) := h6
            rw [h6'] at h11; cases h11
            cases m' with
            | own => simp [q] at h4
            | lent => simp [q] at h4
            | fz => simp only [q, Option.some.injEq, Prod.mk.injEq] at h4; obtain ⟨rfl, _⟩ := h4; exact h12
            | lz => simp only [q, Option.some.injEq, Prod.mk.injEq] at h4; obtain ⟨rfl, _⟩ := h4; exact h12
    have hm : m = .fz ∨ m = .lent := by
      cases pl with
      | val x => cases h4; exact .inl rfl
      | tmp x => cases h4; exact .inl rfl
      | slot j =>
        unfold argOf at h4
        cases q : ρ[j]? with
        | none => simp [q] at h4
        | some o =>
          cases o with
          | none => simp [q] at h4
          | some w =>
            obtain ⟨d', m'⟩ := w
            cases m' with
            | own => simp only [q, Option.some.injEq, Prod.mk.injEq] at h4; exact .inr h4.2.symm
            | lent => simp only [q, Option.some.injEq, Prod.mk.injEq] at h4; exact .inr h4.2.symm
            | fz => simp only [q, Option.some.injEq, Prod.mk.injEq] at h4; exact .inl h4.2.symm
            | lz => simp only [q, Option.some.injEq, Prod.mk.injEq] at h4; exact .inl h4.2.symm
    exact ⟨v, h5, hm.elim fzk key, hm⟩
  · obtain ⟨d1, m1⟩ := p
    obtain ⟨d2, m2⟩ := q
    have e1 : m1 = .lent := e1
    have e2 : m2 = .lent := e2
    subst e1 e2
    obtain ⟨j1, n1, a1, b1, c1, f1⟩ := lent_slot fx ha hp h1
    obtain ⟨j2, n2, a2, b2, c2, f2⟩ := lent_slot fx ha hq h2
    by_cases hj : j1 = j2
    · subst hj; exact noDup_ne nd hij a1 a2
    · exact rel.sep j1 j2 _ _ v hj c1 c2 (by rcases f1 with rfl | rfl <;> rfl) (by rcases f2 with rfl | rfl <;> rfl) b1 b2
theorem gbAt_cases {j : Nat} {outs : List Slot} {s : Slot} {p2 : D × Md} (h : gbAt ps outs j s = some p2) :
    (s = some p2 ∧ (p2.2.isFz = true ∨ outAt j ps outs = none)) ∨ (∃ d d' m m' , s = some (d, m) ∧ outAt j ps outs = some (some (d', m')) ∧ p2.1 = d' ∧ ((m' = .lent ∧ p2.2 = m ∧ (m = .own ∨ m = .lent)) ∨ (m' = .lz ∧ ((m = .own ∧ p2.2 = .fz) ∨ (m = .lent ∧ p2.2 = .lz))))) := by
  cases s with
  | none => cases h
  | some q =>
    obtain ⟨d, m⟩ := q
    cases m with
    | fz => cases h; exact .inl ⟨rfl, .inl rfl⟩
    | lz => cases h; exact .inl ⟨rfl, .inl rfl⟩
    | own =>
      unfold gbAt at h
      cases q : outAt j ps outs with
      | none => simp only [q] at h; cases h; exact .inl ⟨rfl, .inr rfl⟩
      | some o =>
        cases o with
        | none => simp only [q] at h; cases h
        | some w =>
          obtain ⟨d', m'⟩ := w
          cases m' with
          | lent => simp only [q] at h; cases h; exact .inr ⟨d, d', .own, .lent, rfl, rfl, rfl, .inl ⟨rfl, rfl, .inl rfl⟩⟩
          | lz => simp only [q] at h; cases h; exact .inr ⟨d, d', .own, .lz, rfl, rfl, rfl, .inr ⟨rfl, .inl ⟨rfl, rfl⟩⟩⟩
          | own => simp only [q] at h; cases h
          | fz => simp only [q] at h; cases h
    | lent =>
      unfold gbAt at h
      cases q : outAt j ps outs with
      | none => simp only [q] at h; cases h; exact .inl ⟨rfl, .inr rfl⟩
      | some o =>
        cases o with
        | none => simp only [q] at h; cases h
        | some w =>
          obtain ⟨d', m'⟩ := w
          cases m' with
          | lent => simp only [q] at h; cases h; exact .inr ⟨d, d', .lent, .lent, rfl, rfl, rfl, .inl ⟨rfl, rfl, .inr rfl⟩⟩
          | lz => simp only [q] at h; cases h; exact .inr ⟨d, d', .lent, .lz, rfl, rfl, rfl, .inr ⟨rfl, .inr ⟨rfl, rfl⟩⟩⟩
          | own => simp only [q] at h; cases h
          | fz => simp only [q] at h; cases h
theorem calRel (rel : Rel K L B σ ρ G H) (fx : PlA K σ G vs ps) (ha : argsOf ps ρ = some as) (nd : noDup ps = true) {outs : List Slot} {G' H' : Hp} (af : After K (calB H as vs) G vs as outs G' H') :
    Rel K L B σ (gb ps outs 0 ρ) G' H' ∧ Ext B G G' := by
  have gg : ∀ {j : Nat} {p : D × Md}, (gb ps outs 0 ρ)[j]? = some (some p) → ∃ s, ρ[j]? = some s ∧ gbAt ps outs j s = some p := by
    intro j p h
    rw [gb_get, Nat.zero_add] at h
    cases q : ρ[j]? with
    | none => rw [q] at h; cases h
    | some s => rw [q] at h; exact ⟨s, rfl, Option.some.inj h⟩
  -- a passed name's out
  have oo : ∀ {j : Nat} {d : D} {m : Md} {o : Slot}, ρ[j]? = some (some (d, m)) → (m = .own ∨ m = .lent) → outAt j ps outs = some o → ∃ (i : Nat) (v : V), as[i]? = some (d, Md.lent) ∧ vs[i]? = some v ∧ σ[j]? = some (some v) ∧ outs[i]? = some o := by
    intro j d m o h1 h2 h3
    obtain ⟨i, h4, h5⟩ := outAt_some h3
    obtain ⟨v, h6, h7⟩ := fx.get h4
    obtain ⟨a, h8, h9⟩ := argsOf_of ha h4
    have : a = (d, .lent) := by
      unfold argOf at h9
      rcases h2 with rfl | rfl <;> (simp only [h1, Option.some.injEq] at h9; exact h9.symm)
    subst this
    exact ⟨i, v, h8, h6, h7, h5⟩
  -- a name that wasn't passed keeps its list
  have np : ∀ {j : Nat} {d : D} {m : Md} {a : Addr}, ρ[j]? = some (some (d, m)) → m.isFz = false → outAt j ps outs = none → σ[j]? = some (some (.ref a)) → V.ref a ∉ lentVs as vs := by
    intro j d m a h1 h2 h3 h4 h5
    obtain ⟨i, d1, h6, h7⟩ := mem_lentVs h5
    obtain ⟨j', m', h8, h9, h10, h11⟩ := lent_slot fx ha h6 h7
    by_cases hj : j' = j
    · subst hj
      obtain ⟨d', m2, h12, _, _⟩ := af.out i d1 _ h6 h7
      exact outAt_none h3 h8 h12
    · exact rel.sep j' j _ _ _ hj h10 h1 (by rcases h11 with rfl | rfl <;> rfl) h2 h9 h4
  have ext : Ext B G G' := ⟨af.ext.same, fun b h => by
    rcases af.ext.new b h with z | z | z
    · exact .inl z
    · unfold calB at z
      split at z
      · rename_i hm
        obtain ⟨i, d1, h6, h7⟩ := mem_lentVs hm
        obtain ⟨j', m', h8, h9, h10, h11⟩ := lent_slot fx ha h6 h7
        obtain ⟨v', h12, h13⟩ := rel.slots j' _ h10
        rw [h9] at h12; cases h12
        obtain ⟨a, e, _, hb, _⟩ := h13.own (by rcases h11 with rfl | rfl <;> rfl)
        cases e
        exact .inr (.inl hb)
      · exact .inr (.inl (rel.base.free z))
    · exact .inr (.inr z)⟩
  have keepA : ∀ {a : Addr} {o : HO}, H a = some o → V.ref a ∉ lentVs as vs → H' a = some o := fun {a o} h1 h2 => af.base a o (by unfold calB; rw [if_neg h2]; exact h1)
  have base' : Same B H' := fun b o e => by
    refine keepA (rel.base b o e) fun hm => ?_
    obtain ⟨i, d1, h6, h7⟩ := mem_lentVs hm
    obtain ⟨j', m', h8, h9, h10, h11⟩ := lent_slot fx ha h6 h7
    obtain ⟨v', h12, h13⟩ := rel.slots j' _ h10
    rw [h9] at h12; cases h12
    obtain ⟨a, e', _, hb, _⟩ := h13.own (by rcases h11 with rfl | rfl <;> rfl)
    cases e'
    rw [hb] at e; cases e
  refine ⟨⟨af.sub, base', by rw [gb_length]; exact rel.len, fun j p hp => ?_, fun j k p q v hjk hp hq hf hf' hv => ?_, fun j v hj => ?_⟩, ext⟩
  · obtain ⟨s, h1, h2⟩ := gg hp
    rcases gbAt_cases h2 with ⟨rfl, h3⟩ | ⟨d, d', m, m', rfl, h3, h4, h5⟩
    · obtain ⟨v, h4, h5⟩ := rel.slots j _ h1
      refine ⟨v, h4, ?_⟩
      cases hfz : p.2.isFz with
      | true =>
        have := (h5.fz hfz).mono af.ext.same
        obtain ⟨d, m⟩ := p
        cases m with
        | fz => exact this
        | lz => exact this
        | own => cases hfz
        | lent => cases hfz
      | false =>
        have h3' : outAt j ps outs = none := by
          rcases h3 with z | z
          · rw [hfz] at z; cases z
          · exact z
        obtain ⟨a, rfl, g1, b1, c1⟩ := h5.own hfz
        obtain ⟨d, m⟩ := p
        have hn := np h1 hfz h3' h4
        have c2 : Cont K G' H' a d := (c1.heap fun o e => keepA e hn).mono af.ext.same
        have g2 : G' a = none := by
          cases q : G' a with
          | none => rfl
          | some o =>
            rcases af.ext.new a (by rw [q]; simp) with z | z | ⟨us, z⟩
            · exact absurd g1 z
            · unfold calB at z
              rw [if_neg hn] at z
              obtain ⟨o', ho⟩ := c1.there
              rw [ho] at z; cases z
            · exact (c2.notTup (af.sub _ _ z)).elim
        cases m with
        | fz => cases hfz
        | lz => cases hfz
        | own => exact ⟨a, rfl, g2, b1, c2⟩
        | lent => exact ⟨a, rfl, g2, b1, c2⟩
    · have hm : m = .own ∨ m = .lent := by
        rcases h5 with ⟨_, _, z⟩ | ⟨_, ⟨z, _⟩ | ⟨z, _⟩⟩
        · exact z
        · exact .inl z
        · exact .inr z
      obtain ⟨i, v, h6, h7, h8, h9⟩ := oo h1 hm h3
      obtain ⟨d2, m2, h10, h11, h12⟩ := af.out i d v h6 h7
      rw [h9] at h10; cases h10
      refine ⟨v, h8, ?_⟩
      obtain ⟨v', h13, h14⟩ := rel.slots j _ h1
      rw [h8] at h13; cases h13
      obtain ⟨a, rfl, g1, b1, c1⟩ := h14.own (by rcases hm with rfl | rfl <;> rfl)
      obtain ⟨pd, pm⟩ := p
      have h4 : pd = d' := h4
      subst h4
      rcases h5 with ⟨rfl, e, _⟩ | ⟨rfl, ⟨_, e⟩ | ⟨_, e⟩⟩
      · have e : pm = m := e
        subst e
        obtain ⟨a2, e2, g2, _, c2⟩ := h12
        cases e2
        rcases hm with rfl | rfl
        · exact ⟨a, rfl, g2, b1, c2⟩
        · exact ⟨a, rfl, g2, b1, c2⟩
      · have e : pm = .fz := e
        subst e; exact h12
      · have e : pm = .lz := e
        subst e; exact h12
  · obtain ⟨s, h1, h2⟩ := gg hp
    obtain ⟨s', h1', h2'⟩ := gg hq
    have un : ∀ {j : Nat} {s : Slot} {p : D × Md}, gbAt ps outs j s = some p → p.2.isFz = false → ∃ q, s = some q ∧ q.2.isFz = false := by
      intro j s p h hf
      rcases gbAt_cases h with ⟨rfl, _⟩ | ⟨d, d', m, m', rfl, _, _, h5⟩
      · exact ⟨p, rfl, hf⟩
      · refine ⟨(d, m), rfl, ?_⟩
        rcases h5 with ⟨_, _, rfl | rfl⟩ | ⟨_, ⟨rfl, _⟩ | ⟨rfl, _⟩⟩ <;> rfl
    obtain ⟨q1, rfl, f1⟩ := un h2 hf
    obtain ⟨q2, rfl, f2⟩ := un h2' hf'
    exact rel.sep j k q1 q2 v hjk h1 h1' f1 f2 hv
  · obtain ⟨h1, d, m, h2, h3⟩ := rel.lent j v hj
    refine ⟨h1, ?_⟩
    rw [gb_get, Nat.zero_add, h2]
    rcases h3 with rfl | rfl
    · cases q : outAt j ps outs with
      | none => exact ⟨d, .lent, by simp only [Option.map_some, gbAt, q], .inl rfl⟩
      | some o =>
        obtain ⟨i, v', h6, h7, h8, h9⟩ := oo h2 (.inr rfl) q
        obtain ⟨d2, m2, h10, h11, h12⟩ := af.out i d v' h6 h7
        rw [h9] at h10; cases h10
        rcases h11 with rfl | rfl
        · exact ⟨d2, .lent, by simp only [Option.map_some, gbAt, q], .inl rfl⟩
        · exact ⟨d2, .lz, by simp only [Option.map_some, gbAt, q], .inr rfl⟩
    · exact ⟨d, .lz, rfl, .inr rfl⟩
end
section
variable {X : Cx} {k n : Nat} {f : Addr} {fd : FuncData} {pn : List Str} {M : FM} {x : Str} {p pos : Pos} {e : Expr} {es : List Expr} {cr : CA}
theorem call_imp {W : WX} {L : L2.St} {σ : L2.St} {G B H1 : Hp} {Q : VK} {ρ1 : Rho} {ps : List Pl} {vs : List V} (rel1 : Rel X.K L B σ ρ1 G H1) (fx : PlA X.K σ G vs ps) (h : GotP X L W σ G B (callM M ps ρ1) Q) (hn : ps.length = n) :
    spF X.K X.mg n M vs H1 Q (WE W σ) := by
  unfold callM at h
  cases e1 : argsOf ps ρ1 with
  | none => simp only [e1] at h; exact h.elim
  | some as =>
    simp only [e1] at h
    by_cases nd : noDup ps = true
    · rw [if_pos nd] at h
      refine ⟨G, calB H1 as vs, as, by rw [fx.length]; exact hn, rel1.sub, calB_same, calArgs rel1 fx e1 nd, ?_⟩
      cases e2 : M as with
      | bad => simp only [e2] at h; exact h.elim
      | exc y outs =>
        simp only [e2] at h
        intro cls d H' G' af hx
        obtain ⟨r', e'⟩ := calRel rel1 fx e1 nd af
        refine h cls d H' G' r' e' ?_
        obtain ⟨C, h1, h2, h3⟩ := hx
        refine ⟨C, h1, h2, ?_⟩
        rcases h3 with z | ⟨dd, fs, h4, h5, h6, h7⟩
        · exact .inl z
        · refine .inr ⟨dd, fs, h4, h5, ?_, h7⟩
          unfold calB at h6
          split at h6
          · rename_i hm
            obtain ⟨i, d1, h8, h9⟩ := mem_lentVs hm
            obtain ⟨j', m', _, h10, h11, h12⟩ := lent_slot fx e1 h8 h9
            obtain ⟨v', h13, h14⟩ := rel1.slots j' _ h11
            rw [h10] at h13; cases h13
            obtain ⟨a, e', _, hb, _⟩ := h14.own (by rcases h12 with rfl | rfl <;> rfl)
            cases e'
            exact hb
          · exact rel1.base.free h6
      | ok d fr outs =>
        simp only [e2] at h
        intro v H' G' af hf ht
        obtain ⟨r', e'⟩ := calRel rel1 fx e1 nd af
        refine h v H' G' r' e' ?_
        cases fr with
        | false => exact hf rfl
        | true =>
          obtain ⟨a, rfl, g1, b1, c1, hs⟩ := ht rfl
          refine ⟨a, rfl, g1, ?_, c1, fun j q hq hfz hv => ?_⟩
          · unfold calB at b1
            split at b1
            · rename_i hm
              obtain ⟨i, d1, h8, h9⟩ := mem_lentVs hm
              obtain ⟨j', m', _, h10, h11, h12⟩ := lent_slot fx e1 h8 h9
              obtain ⟨v', h13, h14⟩ := rel1.slots j' _ h11
              rw [h10] at h13; cases h13
              obtain ⟨a, e', _, hb, _⟩ := h14.own (by rcases h12 with rfl | rfl <;> rfl)
              cases e'
              exact hb
            · exact rel1.base.free b1
          · have hq0 := hq
            rw [gb_get, Nat.zero_add] at hq
            cases q0 : ρ1[j]? with
            | none => rw [q0] at hq; cases hq
            | some s =>
              rw [q0] at hq
              have hq := Option.some.inj hq
              rcases gbAt_cases hq with ⟨rfl, h3⟩ | ⟨d0, d', m, m', rfl, h3, h4, h5⟩
              · obtain ⟨v', h13, h14⟩ := rel1.slots j _ q0
                rw [hv] at h13; cases h13
                obtain ⟨a', e', _, hb, c0⟩ := h14.own hfz
                cases e'
                have h3 : outAt j ps outs = none := by
                  rcases h3 with z | z
                  · rw [hfz] at z; cases z
                  · exact z
                -- not passed: it was there already
                obtain ⟨o, ho⟩ := c0.there
                have nl : V.ref a ∉ lentVs as vs := fun hm => by
                  obtain ⟨i, d1, h6, h7⟩ := mem_lentVs hm
                  obtain ⟨j', m', h8, h9, h10, h11⟩ := lent_slot fx e1 h6 h7
                  by_cases hj : j' = j
                  · subst hj
                    obtain ⟨d', m2, h12, _, _⟩ := af.out i d1 _ h6 h7
                    exact outAt_none h3 h8 h12
                  · exact rel1.sep j' j _ _ _ hj h10 q0 (by rcases h11 with rfl | rfl <;> rfl) hfz h9 hv
                unfold calB at b1
                rw [if_neg nl] at b1
                rw [ho] at b1; cases b1
              · obtain ⟨i, h6, h7⟩ := outAt_some h3
                obtain ⟨v', h8, h9⟩ := fx.get h6
                have h9 : σ[j]? = some (some v') := h9
                rw [hv] at h9; cases h9
                obtain ⟨a2, h10, h11⟩ := argsOf_of e1 h6
                have hm : m = .own ∨ m = .lent := by
                  rcases h5 with ⟨_, _, z⟩ | ⟨_, ⟨z, _⟩ | ⟨z, _⟩⟩
                  · exact z
                  · exact .inl z
                  · exact .inr z
                have : a2 = (d0, .lent) := by
                  unfold argOf at h11
                  rcases hm with rfl | rfl <;> (simp only [q0, Option.some.injEq] at h11; exact h11.symm)
                subst this
                have hm' : m' = .lent := by
                  rcases h5 with ⟨z, _, _⟩ | ⟨_, ⟨_, z⟩ | ⟨_, z⟩⟩
                  · exact z
                  · rw [z] at hfz; cases hfz
                  · rw [z] at hfz; cases hfz
                subst hm'
                exact hs i d0 _ d' h10 h8 h7 rfl
    · rw [if_neg nd] at h; exact h.elim
/-- what an argument list gives has its length -/
def LenA (c : CA) (n : Nat) : Prop := ∀ ρ ps ρ', c ρ = .ok ps ρ' → ps.length = n
theorem lenA_nil : LenA cNil 0 := fun ρ ps ρ' h => by cases h; rfl
theorem lenA_cons {a : CE} {r : CA} {n : Nat} (h : LenA r n) : LenA (cCons a r) (n + 1) := fun ρ ps ρ' e => by
  unfold cCons at e
  cases q : a ρ with
  | bad => rw [q] at e; cases e
  | exc x ρ1 => rw [q] at e; cases e
  | ok p ρ1 =>
    rw [q] at e
    simp only [R.bind] at e
    cases q2 : r ρ1 with
    | bad => rw [q2] at e; cases e
    | exc x ρ1 => rw [q2] at e; cases e
    | ok ps2 ρ2 =>
      rw [q2] at e
      simp only [R.ok.injEq] at e
      obtain ⟨rfl, rfl⟩ := e
      simp [h _ _ _ q2]
theorem sx_call (F : FnOk X.prog X.w X.K X.mg X.base (L2.CX X.prog X.w) k f fd pn (spF X.K X.mg n M)) (hr : Room k X.A) (hg : Gl X x) (hm : X.mg x = some (.ref f)) (hk : PySem.W.keepIn X.K (.ref f) = true) (hb : Binds X.K fd pn []) (hl : LenA cr n) (ha : SA X (e :: es) cr)
    (hdb : (x == ("__debug__" : Str)) = false := by decide) (he : starEach (e :: es) X.env = (false, eval e X.env) :: starEach es X.env := by rfl) (hpl : (backTo pos (starEach es X.env)).any (·.1) = false := by rfl) :
    SX X (.Call (.Name x p) (e :: es) [] pos) (cCall M cr) := fun W tk => PEimp (pe_callS F hr hg hm hk hb (fun σ => passAt tk σ) (ha W tk) hdb he hpl) (by
  rintro σ H Q ⟨L, ρ, G, B, rel, h⟩
  refine ⟨L, ρ, G, B, rel, (Got.bindA h).mono ?_⟩
  rintro vs H1 ⟨ps, ρ1, G1, e1, rel1, _, fx, h1⟩
  exact call_imp rel1 fx h1 (hl _ _ _ e1))
end
/-- a def at any level -/
theorem FnOk.up {P : Program} {w : World} {K : PySem.W.Frag} {mg : Str → Option Value} {base : Heap} {CX : CXT} {k : Nat} {f : Addr} {fd : FuncData} {pn : List Str} {sp : Sp} (F : FnOk P w K mg base CX k f fd pn sp) {j : Nat} (h : k ≤ j) : FnOk P w K mg base CX j f fd pn sp := F.mono h

/-! ### a law's end -/
theorem sp_law {K : PySem.W.Frag} {mg : Str → Option Value} {M : FM} (hM : ∀ ns : List Int, ns.length ≤ 63 → ∃ outs, M [(.list (ns.map PyData.int), .fz)] = .ok (.bool true) false outs) (H : Hp) (a : Addr) (ns : List Int) (hl : ns.length ≤ 63) (hS : Rd H a (.lst (ns.map V.int))) :
    spF K mg 1 M [.ref a] H (fun v _ => v = .bl true) fun _ _ _ => False := by
  obtain ⟨outs, e⟩ := hM ns hl
  refine ⟨H, H, [(.list (ns.map PyData.int), .fz)], rfl, Same.refl _, Same.refl _, ⟨rfl, fun i p hp => ?_, fun i j p q v hij hp hq e1 e2 => ?_⟩, ?_⟩
  · cases i with
    | zero => simp at hp; subst hp; exact ⟨_, rfl, .lst hS (FzA.of_ints ns), .inl rfl⟩
    | succ i => simp at hp
  · cases i with
    | zero => simp at hp; subst hp; cases e1
    | succ i => simp at hp
  · rw [e]
    intro v H' G' af h1 _
    have := h1 rfl
    cases this; rfl
theorem no_exc {P : Program} {w : World} : ∀ (H : Hp) (s : Shared) (e : Value) (s' : Shared), L2.CX P w [] H s (fun _ _ _ => False) e s' → False := by
  intro H s e s' h
  obtain ⟨_, _, _, _, _, _, _, _, _, _, _, _, z⟩ := h
  exact z.elim
end TN
namespace TN
open PySem PySem.Spec PyProof.Rows L2

/-! ### list comprehensions -/
/-- the block's own names emptied -/
def wipeR (ρ : Rho) : List Nat → Rho
  | [] => ρ
  | v :: vs => (wipeR ρ vs).set v none
/-- .. and put back as they were in ρ0 -/
def backR (ρ0 ρ : Rho) : List Nat → Rho
  | [] => ρ
  | v :: vs => match ρ0[v]? with
    | some s => (backR ρ0 ρ vs).set v s
    | none => backR ρ0 ρ vs
/-- the block's own names are empty, or frozen values -/
def wipeOk (ρ : Rho) (vs : List Nat) : Bool := vs.all fun v => match ρ[v]? with
  | some none => true
  | some (some (_, .fz)) => true
  | _ => false
def compL (g : D → Rho → Option Rho) (t : CB) (e : CE) (vs : List Nat) : List D → List D → Rho → R (List D)
  | [], acc, ρ => .ok acc ρ
  | d :: ds, acc, ρ => match g d ρ with
    | none => .bad
    | some ρ1 => match t ρ1 with
      | .ok true ρ2 => (match e ρ2 with
        | .ok p ρ3 => (match frz p ρ3 with
          | some (x, ρ4) => if acc.length < 16777216 ∧ wipeOk ρ4 vs = true then compL g t e vs ds (acc ++ [x]) (wipeR ρ4 vs) else .bad
          | none => .bad)
        | _ => .bad)
      | .ok false ρ2 => if wipeOk ρ2 vs = true then compL g t e vs ds acc (wipeR ρ2 vs) else .bad
      | _ => .bad
def cComp (ci : CI) (g : D → Rho → Option Rho) (t : CB) (e : CE) (vs : List Nat) : CE := fun ρ => match ci ρ with
  | .ok ds ρ1 => if wipeOk ρ1 vs = true then (match compL g t e vs ds [] (wipeR ρ1 vs) with
      | .ok acc ρ2 => .ok (.tmp (.list acc)) (backR ρ1 ρ2 vs)
      | .exc x ρ2 => .bad
      | .bad => .bad) else .bad
  | .exc x ρ1 => .exc x ρ1
  | .bad => .bad
theorem wipeR_length (ρ : Rho) : ∀ vs : List Nat, (wipeR ρ vs).length = ρ.length
  | [] => rfl
  | v :: vs => by unfold wipeR; rw [List.length_set, wipeR_length ρ vs]
theorem wipeR_some {ρ : Rho} {i : Nat} {p : D × Md} : ∀ {vs : List Nat}, (wipeR ρ vs)[i]? = some (some p) → ρ[i]? = some (some p) ∧ i ∉ vs
  | [], h => ⟨h, by simp⟩
  | v :: vs, h => by
    unfold wipeR at h
    by_cases hi : v = i
    · subst hi
      by_cases hv : v < (wipeR ρ vs).length
      · rw [List.getElem?_set_self hv] at h; cases h
      · rw [List.getElem?_eq_none (by simpa using hv)] at h; cases h
    · rw [List.getElem?_set_ne hi] at h
      obtain ⟨h1, h2⟩ := wipeR_some h
      exact ⟨h1, by simp only [List.mem_cons, not_or]; exact ⟨fun e => hi e.symm, h2⟩⟩
theorem wipeR_out {ρ : Rho} {i : Nat} : ∀ {vs : List Nat}, i ∉ vs → (wipeR ρ vs)[i]? = ρ[i]?
  | [], _ => rfl
  | v :: vs, h => by
    simp only [List.mem_cons, not_or] at h
    unfold wipeR
    rw [List.getElem?_set_ne (Ne.symm h.1), wipeR_out h.2]
theorem wipe_out' {σ : L2.St} {i : Nat} : ∀ {vs : List Nat}, i ∉ vs → (wipe σ vs)[i]? = σ[i]?
  | [], _ => rfl
  | v :: vs, h => by
    simp only [List.mem_cons, not_or] at h
    unfold wipe
    rw [List.getElem?_set_ne (Ne.symm h.1), wipe_out' h.2]
theorem backR_length (ρ0 ρ : Rho) : ∀ vs : List Nat, (backR ρ0 ρ vs).length = ρ.length
  | [] => rfl
  | v :: vs => by
    unfold backR
    split
    · rw [List.length_set, backR_length ρ0 ρ vs]
    · exact backR_length ρ0 ρ vs
theorem backR_out {ρ0 ρ : Rho} {i : Nat} : ∀ {vs : List Nat}, i ∉ vs → (backR ρ0 ρ vs)[i]? = ρ[i]?
  | [], _ => rfl
  | v :: vs, h => by
    simp only [List.mem_cons, not_or] at h
    unfold backR
    split
    · rw [List.getElem?_set_ne (Ne.symm h.1), backR_out h.2]
    · exact backR_out h.2
theorem backR_in {ρ0 ρ : Rho} {i : Nat} (hl : ρ0.length = ρ.length) : ∀ {vs : List Nat}, i ∈ vs → (backR ρ0 ρ vs)[i]? = ρ0[i]?
  | [], h => by simp at h
  | v :: vs, h => by
    unfold backR
    by_cases hi : i = v
    · subst hi
      cases q : ρ0[i]? with
      | none =>
        simp only
        rw [List.getElem?_eq_none]
        rw [backR_length, ← hl]
        exact List.getElem?_eq_none_iff.mp q
      | some s =>
        simp only
        rw [List.getElem?_set_self]
        rw [backR_length, ← hl]
        exact (List.getElem?_eq_some_iff.mp q).1
    · have h' : i ∈ vs := by
        rcases List.mem_cons.mp h with z | z
        · exact absurd z hi
        · exact z
      split
      · rw [List.getElem?_set_ne (Ne.symm hi)]; exact backR_in hl h'
      · exact backR_in hl h'
section
variable {K : PySem.W.Frag} {L : L2.St} {B G G1 G2 H H1 : Hp} {σ : L2.St} {ρ ρ1 ρ2 : Rho} {vs : List Nat} {D0 : Addr} {v : V}
theorem wipeOk_at (h : wipeOk ρ vs = true) {i : Nat} (hi : i ∈ vs) : ρ[i]? = some none ∨ ∃ d, ρ[i]? = some (some (d, .fz)) := by
  have := List.all_eq_true.mp h i hi
  split at this
  · rename_i q; exact .inl q
  · rename_i d q; exact .inr ⟨d, q⟩
  · cases this
theorem Rel.wipe (r : Rel K L B σ ρ G H) (h : wipeOk ρ vs = true) : Rel K L B (wipe σ vs) (wipeR ρ vs) G H := by
  refine ⟨r.sub, r.base, by rw [wipeR_length, wipe_length]; exact r.len, fun i p hp => ?_, fun i j p q v hij hp hq hf hf' hv => ?_, fun j v hj => ?_⟩
  · obtain ⟨h1, h2⟩ := wipeR_some hp
    obtain ⟨v, h3, h4⟩ := r.slots i p h1
    exact ⟨v, by rw [wipe_out' h2]; exact h3, h4⟩
  · obtain ⟨h1, h2⟩ := wipeR_some hp
    obtain ⟨h3, h4⟩ := wipeR_some hq
    rw [wipe_out' h2] at hv
    rw [wipe_out' h4]
    exact r.sep i j p q v hij h1 h3 hf hf' hv
  · obtain ⟨h1, d, m, h2, h3⟩ := r.lent j v hj
    have hn : j ∉ vs := fun z => by
      rcases wipeOk_at h z with q | ⟨d', q⟩
      · rw [h2] at q; cases q
      · rw [h2] at q; cases q
        rcases h3 with z | z <;> cases z
    exact ⟨by rw [wipe_out' hn]; exact h1, d, m, by rw [wipeR_out hn]; exact h2, h3⟩
/-- behind the block -/
theorem Rel.back (r0 : Rel K L B σ ρ1 G1 H1) (h : wipeOk ρ1 vs = true) (r : Rel K L B (L2.wipe σ vs) ρ2 G H) (e : Ext B G1 G) : Rel K L B σ (backR ρ1 ρ2 vs) G H := by
  have hl : ρ1.length = ρ2.length := by
    have e1 := r0.len
    have e2 := r.len
    rw [wipe_length] at e2
    omega
  refine ⟨r.sub, r.base, by rw [backR_length, ← hl]; exact r0.len, fun i p hp => ?_, fun i j p q v hij hp hq hf hf' hv => ?_, fun j v hj => ?_⟩
  · by_cases hi : i ∈ vs
    · rw [backR_in hl hi] at hp
      obtain ⟨v, h3, h4⟩ := r0.slots i p hp
      refine ⟨v, h3, ?_⟩
      rcases wipeOk_at h hi with q | ⟨d', q⟩
      · rw [hp] at q; cases q
      · rw [hp] at q; cases q
        exact Fz.mono e.same h4
    · rw [backR_out hi] at hp
      obtain ⟨v, h3, h4⟩ := r.slots i p hp
      exact ⟨v, by rw [wipe_out' hi] at h3; exact h3, h4⟩
  · have no : ∀ {i : Nat} {p : D × Md}, (backR ρ1 ρ2 vs)[i]? = some (some p) → p.2.isFz = false → i ∉ vs := fun {i p} hp hf hi => by
      rw [backR_in hl hi] at hp
      rcases wipeOk_at h hi with q | ⟨d', q⟩
      · rw [hp] at q; cases q
      · rw [hp] at q; cases q
        cases hf
    have hi := no hp hf
    have hj := no hq hf'
    rw [backR_out hi] at hp
    rw [backR_out hj] at hq
    have := r.sep i j p q v hij hp hq hf hf' (by rw [wipe_out' hi]; exact hv)
    rwa [wipe_out' hj] at this
  · obtain ⟨h1, d, m, h2, h3⟩ := r0.lent j v hj
    have hn : j ∉ vs := fun z => by
      rcases wipeOk_at h z with q | ⟨d', q⟩
      · rw [h2] at q; cases q
      · rw [h2] at q; cases q
        rcases h3 with z | z <;> cases z
    obtain ⟨_, d', m', h5, h6⟩ := r.lent j v hj
    exact ⟨h1, d', m', by rw [backR_out hn]; exact h5, h6⟩
/-- the list being made is put among what stands -/
theorem Rel.addB (r : Rel K L B σ ρ G H) (hB : B D0 = none) {o : HO} (ho : H D0 = some o) (hn : ∀ (j : Nat) (p : D × Md), ρ[j]? = some (some p) → p.2.isFz = false → σ[j]? ≠ some (some (.ref D0))) : Rel K L (upd B D0 o) σ ρ G H := by
  refine ⟨r.sub, fun b u q => ?_, r.len, fun i p hp => ?_, r.sep, r.lent⟩
  · by_cases hb : b = D0
    · subst hb; rw [upd_same] at q; cases q; exact ho
    · rw [upd_ne hb] at q; exact r.base b u q
  · obtain ⟨v, h1, h2⟩ := r.slots i p hp
    refine ⟨v, h1, ?_⟩
    cases hf : p.2.isFz with
    | true =>
      have := h2.fz hf
      obtain ⟨d, m⟩ := p
      cases m with
      | fz => exact this
      | lz => exact this
      | own => cases hf
      | lent => cases hf
    | false =>
      obtain ⟨a, rfl, g1, b1, c1⟩ := h2.own hf
      have : a ≠ D0 := fun z => by subst z; exact hn i p hp hf h1
      have b2 : upd B D0 o a = none := by rw [upd_ne this]; exact b1
      obtain ⟨d, m⟩ := p
      cases m with
      | fz => cases hf
      | lz => cases hf
      | own => exact ⟨a, rfl, g1, b2, c1⟩
      | lent => exact ⟨a, rfl, g1, b2, c1⟩
theorem Rel.subB {o : HO} (r : Rel K L (upd B D0 o) σ ρ G H) (hB : B D0 = none) : Rel K L B σ ρ G H ∧ ∀ (j : Nat) (p : D × Md), ρ[j]? = some (some p) → p.2.isFz = false → σ[j]? ≠ some (some (.ref D0)) := by
  have no : ∀ {a : Addr}, upd B D0 o a = none → a ≠ D0 ∧ B a = none := fun {a} h => by
    have : a ≠ D0 := fun z => by subst z; rw [upd_same] at h; cases h
    rw [upd_ne this] at h
    exact ⟨this, h⟩
  refine ⟨⟨r.sub, fun b u q => r.base b u (by rw [upd_ne (ne_of_none q hB)]; exact q), r.len, fun i p hp => ?_, r.sep, r.lent⟩, fun j p hp hf hv => ?_⟩
  · obtain ⟨v, h1, h2⟩ := r.slots i p hp
    refine ⟨v, h1, ?_⟩
    obtain ⟨d, m⟩ := p
    cases m with
    | fz => exact h2
    | lz => exact h2
    | own => obtain ⟨a, e, g1, b1, c1⟩ := h2; exact ⟨a, e, g1, (no b1).2, c1⟩
    | lent => obtain ⟨a, e, g1, b1, c1⟩ := h2; exact ⟨a, e, g1, (no b1).2, c1⟩
  · obtain ⟨v, h1, h2⟩ := r.slots j p hp
    rw [hv] at h1; cases h1
    obtain ⟨a, e, g1, b1, c1⟩ := h2.own hf
    cases e
    exact (no b1).1 rfl
theorem Ext.subB {o : HO} (e : Ext (upd B D0 o) G G1) : Ext B G G1 := ⟨e.same, fun b h => by
  rcases e.new b h with z | z | z
  · exact .inl z
  · have : b ≠ D0 := fun w => by subst w; rw [upd_same] at z; cases z
    rw [upd_ne this] at z
    exact .inr (.inl z)
  · exact .inr (.inr z)⟩
/-- the list grows -/
theorem Rel.grow {o o' : HO} (r : Rel K L (upd B D0 o) σ ρ G H) (hB : B D0 = none) (hG : G D0 = none) : Rel K L B σ ρ G (upd H D0 o') := by
  obtain ⟨r1, hn⟩ := r.subB hB
  refine r1.gb .refl (fun b u q => by rw [upd_ne (ne_of_none q hG)]; exact r1.sub b u q) (fun b u q => by rw [upd_ne (ne_of_none q hB)]; exact r1.base b u q) fun i p a hp hf hv => ?_
  obtain ⟨v, h1, h2⟩ := r1.slots i p hp
  rw [hv] at h1; cases h1
  obtain ⟨a', e, g1, b1, c1⟩ := h2.own hf
  cases e
  have : a ≠ D0 := fun z => by subst z; exact hn i p hp hf hv
  exact ⟨g1, fun u q => by rw [upd_ne this]; exact q⟩
end
section
variable {X : Cx} {elt tg iter : Expr} {ifs : List Expr} {scope : Scope} {own : List (Str × Nat)} {pos : Pos} {ci : CI} {g : D → Rho → Option Rho} {t : CB} {e : CE}
/-- a clause's tests in a block -/
def SPt (X : Cx) (ifs : List Expr) (t : CB) : Prop := ∀ W : WX, Takes X W → PTs X ifs (tT X W t)
theorem spt_nil : SPt X [] (fun ρ => .ok true ρ) := fun W tk => ⟨fun pins s σ H Q I h => pts_nil.run pins s σ H Q I (by
  obtain ⟨L, ρ, G, B, rel, h⟩ := h
  exact h true H G rel .refl rfl)⟩
theorem spt_one {c : Expr} (h : ST X c t) : SPt X [c] t := fun W tk => pts_one (h W tk)
theorem wipe_get (σ : L2.St) {i : Nat} : ∀ {vs : List Nat}, i ∈ vs → (L2.wipe σ vs)[i]? = if i < σ.length then some none else none
  | [], h => by simp at h
  | w :: ws, h => by
    unfold L2.wipe
    by_cases e : w = i
    · subst e
      rw [List.getElem?_set]
      simp only [if_true, wipe_length]
    · rw [List.getElem?_set_ne e]
      rcases List.mem_cons.mp h with z | z
      · exact absurd z.symm e
      · exact wipe_get σ z
theorem wipe_only {σ σ' : L2.St} {vs ws : List Nat} (o : Only ws (L2.wipe σ vs) σ') (h : ∀ i ∈ ws, i ∈ vs) : L2.wipe σ' vs = L2.wipe σ vs := by
  apply List.ext_getElem?
  intro j
  by_cases hj : j ∈ vs
  · rw [wipe_get _ hj, wipe_get _ hj, o.1, wipe_length]
  · rw [wipe_out' hj, wipe_out' hj, o.2 j (fun z => hj (h j z)), wipe_out' hj]
abbrev Wf : WX := fun _ _ _ _ => False
theorem comp_imp {W : WX} {vs ws : List Nat} (hvs : ∀ i ∈ ws, i ∈ vs) :
    ∀ (σ : L2.St) (H : Hp) (Q : VK), tX X W (cComp ci g t e vs) σ H Q → tLc (tI X W ci) (tG X ws g) (tT X Wf t) (tX X Wf e) vs σ H Q := by
  rintro σ H Q ⟨L, ρ, G, B, rel, h⟩
  refine ⟨L, ρ, G, B, rel, ?_⟩
  unfold cComp at h
  cases q : ci ρ with
  | bad => simp only [q] at h; exact h.elim
  | exc x ρ1 => simp only [q] at h; exact h
  | ok ds ρ1 =>
    simp only [q] at h
    by_cases hw : wipeOk ρ1 vs = true
    case neg => rw [if_neg hw] at h; exact h.elim
    rw [if_pos hw] at h
    intro J H1 G1 rel1 ext1 hit D0 hD
    have hB : B D0 = none := rel1.base.free hD
    cases qc : compL g t e vs ds [] (wipeR ρ1 vs) with
    | bad => simp only [qc] at h; exact h.elim
    | exc x ρ2 => simp only [qc] at h; exact h.elim
    | ok accF ρF =>
    simp only [qc] at h
    -- the invariant: behind i things the list so far, and what the rest gives
    let W0 : Nat → Hp → Prop := fun i H => i ≤ ds.length ∧ ∃ (acc : List D) (xs : List V) (ρ : Rho) (G : Hp), Rel X.K L B (L2.wipe σ vs) ρ G H ∧ Ext B G1 G ∧ G D0 = none ∧ H D0 = some (.lst xs) ∧ FzA X.K G xs acc ∧
      (∀ (j : Nat) (p : D × Md), ρ[j]? = some (some p) → p.2.isFz = false → (L2.wipe σ vs)[j]? ≠ some (some (.ref D0))) ∧ compL g t e vs (ds.drop i) acc ρ = .ok accF ρF
    have noD : ∀ {σ : L2.St} {ρ : Rho} {G H : Hp}, Rel X.K L B σ ρ G H → H D0 = none → ∀ (j : Nat) (p : D × Md), ρ[j]? = some (some p) → p.2.isFz = false → σ[j]? ≠ some (some (.ref D0)) := by
      intro σ ρ G H r hD j p hp hf hv
      obtain ⟨w, h1, h2⟩ := r.slots j p hp
      rw [hv] at h1; cases h1
      obtain ⟨a, e', _, _, c⟩ := h2.own hf
      cases e'
      obtain ⟨o, ho⟩ := c.there
      rw [hD] at ho; cases ho
    have start0 : W0 0 (upd H1 D0 (.lst [])) :=
      ⟨Nat.zero_le _, [], [], wipeR ρ1 vs, G1, (rel1.wipe hw).new (Same.upd_new (o := .lst []) hD), .refl, rel1.sub.free hD, upd_same, .nil, noD (rel1.wipe hw) hD, by simpa using qc⟩
    refine ⟨fun i m H => m = ds.length - i ∧ W0 i H, ⟨_, rfl, start0⟩, ?_⟩
    rintro i m H2 ⟨rfl, hle, acc, xs, ρ2, G2, rel2, ext2, hG2, hx, fx, hn, hc⟩
    obtain ⟨ha, hb⟩ := hit G2 H2 ext2.same rel2.sub i
    by_cases hlt : i < ds.length
    · right
      have ei : ds[i]? = some ds[i] := by simp [hlt]
      obtain ⟨hgo', hy⟩ := ha _ ei
      refine ⟨hgo', fun H' => W0 (i + 1) H', fun H' w => ⟨ds.length - (i + 1), by omega, rfl, w⟩, fun x H3 hyl => ?_⟩
      have relB := rel2.addB hB hx hn
      obtain ⟨G3, r3, x3, f3⟩ := (hy x H3 hyl).ok relB
      rw [List.drop_eq_getElem_cons hlt] at hc
      unfold compL at hc
      refine ⟨L, ρ2, G3, upd B D0 (.lst xs), ds[i], r3, f3, ?_⟩
      cases q1 : g ds[i] ρ2 with
      | none => simp only [q1] at hc; cases hc
      | some ρ3 =>
        simp only [q1] at hc
        intro σ3 H3' G3' r3' x3' ho
        have x3 := x3.trans x3'
        have hwσ : L2.wipe σ3 vs = L2.wipe σ vs := wipe_only ho hvs
        refine ⟨hwσ, L, ρ3, G3', upd B D0 (.lst xs), r3', ?_⟩
        have wipeN : ∀ {ρ' : Rho} {G' H' : Hp}, Rel X.K L (upd B D0 (.lst xs)) σ3 ρ' G' H' → wipeOk ρ' vs = true → Rel X.K L (upd B D0 (.lst xs)) (L2.wipe σ vs) (wipeR ρ' vs) G' H' := by
          intro ρ' G' H' r hwo
          have := r.wipe hwo
          rwa [hwσ] at this
        have gD : ∀ {σ' : L2.St} {ρ' : Rho} {G' H' : Hp}, Rel X.K L (upd B D0 (.lst xs)) σ' ρ' G' H' → Ext (upd B D0 (.lst xs)) G2 G' → G' D0 = none := by
          intro σ' ρ' G' H' r ex
          cases z : G' D0 with
          | none => rfl
          | some o =>
            rcases ex.new D0 (by rw [z]; simp) with w | w | ⟨us, w⟩
            · exact absurd hG2 w
            · rw [upd_same] at w; cases w
            · have z1 := r.sub _ _ w
              have z2 := r.base D0 _ upd_same
              rw [z1] at z2; cases z2
        cases q2 : t ρ3 with
        | bad => simp only [q2] at hc; cases hc
        | exc y ρ4 => simp only [q2] at hc; cases hc
        | ok b ρ4 =>
          intro b' H4 G4 r4 x4 eb
          subst eb
          cases b' with
          | false =>
            simp only [q2] at hc
            rw [if_neg Bool.false_ne_true]
            by_cases hwo : wipeOk ρ4 vs = true
            · rw [if_pos hwo] at hc
              have rN := wipeN r4 hwo
              obtain ⟨rN', nN⟩ := rN.subB hB
              exact ⟨hlt, acc, xs, wipeR ρ4 vs, G4, rN', ext2.trans (x3.subB.trans x4.subB), gD r4 (x3.trans x4), rN.base D0 _ upd_same, fx.mono (x3.trans x4).same, nN, hc⟩
            · rw [if_neg hwo] at hc; cases hc
          | true =>
            simp only [q2] at hc
            rw [if_pos rfl]
            refine ⟨L, ρ4, G4, upd B D0 (.lst xs), r4, ?_⟩
            cases q3 : e ρ4 with
            | bad => simp only [q3] at hc; cases hc
            | exc y ρ5 => simp only [q3] at hc; cases hc
            | ok p ρ5 =>
              simp only [q3] at hc
              intro v H5 G5 r5 x5 ok
              obtain ⟨G6, r6, x6, fx6⟩ := ok.fix r5
              cases q4 : frz p ρ5 with
              | none => simp only [q4] at hc; cases hc
              | some w =>
                obtain ⟨d, ρ6⟩ := w
                simp only [q4] at hc
                obtain ⟨G7, r7, x7, f7⟩ := fx6.frz r6 q4
                by_cases hl : acc.length < 16777216 ∧ wipeOk ρ6 vs = true
                · rw [if_pos hl] at hc
                  have xx : Ext (upd B D0 (.lst xs)) G2 G7 := x3.trans (x4.trans (x5.trans (x6.trans x7)))
                  have hD7 : H5 D0 = some (.lst xs) := r7.base D0 _ upd_same
                  refine ⟨xs, hD7, by rw [fx.length, sizeLine_eq]; exact hl.1, ?_⟩
                  have rN := wipeN r7 hl.2
                  have fx' : FzA X.K G7 (xs ++ [v]) (acc ++ [d]) := (fx.mono xx.same).append (.cons f7 .nil)
                  exact ⟨hlt, acc ++ [d], xs ++ [v], wipeR ρ6 vs, G7, rN.grow hB (gD r7 xx), ext2.trans xx.subB, gD r7 xx, upd_same, fx', (rN.subB hB).2, hc⟩
                · rw [if_neg hl] at hc; cases hc
    · left
      have e' : i = ds.length := by omega
      subst e'
      rw [List.drop_length] at hc
      unfold compL at hc
      simp only [R.ok.injEq] at hc
      obtain ⟨rfl, rfl⟩ := hc
      refine ⟨hb (Nat.le_refl _), ?_⟩
      refine h (.ref D0) H2 G2 (rel1.back hw rel2 ext2) (ext1.trans ext2) ⟨D0, rfl, hG2, hB, .lst hx fx, fun j p hp hf hv => ?_⟩
      have hl : ρ1.length = ρ2.length := by
        have e1 := rel1.len
        have e2 := rel2.len
        rw [wipe_length] at e2
        omega
      by_cases hj : j ∈ vs
      · rw [backR_in hl hj] at hp
        rcases wipeOk_at hw hj with z | ⟨d', z⟩
        · rw [hp] at z; cases z
        · rw [hp] at z; cases z
          cases hf
      · rw [backR_out hj] at hp
        exact hn j p hp hf (by rw [wipe_out' hj]; exact hv)
variable {ws : List Nat} {y : Str} {py spos : Pos}
theorem sx_comp (hc : X.calm = true) (hN : X.N.Nodup) (hi : SI X tg iter ci) (ok : BlkOk X.N X.env.scope scope own) (hvs : ∀ i ∈ ws, i ∈ own.map (·.2))
    (hg : ∀ (s : Shared) (H : Hp) (C : Addr) (cl : List (Str × Addr)) (fp : List Addr), SG (X.blk s H scope (compEnvC scope cl C X.env) fp) tg ws g) (ht : ∀ (s : Shared) (H : Hp) (C : Addr) (cl : List (Str × Addr)) (fp : List Addr), SPt (X.blk s H scope (compEnvC scope cl C X.env) fp) ifs t)
    (he : ∀ (s : Shared) (H : Hp) (C : Addr) (cl : List (Str × Addr)) (fp : List Addr), SX (X.blk s H scope (compEnvC scope cl C X.env) fp) elt e) (hs : ∀ x, foldedSetIterable iter X.env x = pure x := by intro _; rfl) :
    SX X (.ListComp elt [⟨tg, iter, ifs, 0⟩] scope pos) (cComp ci g t e (own.map (·.2))) := fun W tk =>
  PEimp (pe_lc (tt := tT X Wf t) (te := tX X Wf e) (g := tG X ws g) hc hN (hi W tk) ok hg (fun s H C cl fp => ht s H C cl fp Wf takes0) (fun s H C cl fp => he s H C cl fp Wf takes0) hs) (comp_imp hvs)
theorem ss_setComp (i : Nat) (hc : X.calm = true) (hN : X.N.Nodup) (hi : SI X tg iter ci) (ok : BlkOk X.N X.env.scope scope own) (hvs : ∀ i ∈ ws, i ∈ own.map (·.2))
    (hg : ∀ (s : Shared) (H : Hp) (C : Addr) (cl : List (Str × Addr)) (fp : List Addr), SG (X.blk s H scope (compEnvC scope cl C X.env) fp) tg ws g) (ht : ∀ (s : Shared) (H : Hp) (C : Addr) (cl : List (Str × Addr)) (fp : List Addr), SPt (X.blk s H scope (compEnvC scope cl C X.env) fp) ifs t)
    (he : ∀ (s : Shared) (H : Hp) (C : Addr) (cl : List (Str × Addr)) (fp : List Addr), SX (X.blk s H scope (compEnvC scope cl C X.env) fp) elt e)
    (hsw : swapsWith (.ListComp elt [⟨tg, iter, ifs, 0⟩] scope pos) (some (.Name y py)) spos.line X.env = pure true := by exact sw_true rfl rfl rfl (by decide +kernel)) (hy : X.N[i]? = some y := by rfl) (hyl : X.env.scope.names.lookup y = some .local := by rfl) (hs : ∀ x, foldedSetIterable iter X.env x = pure x := by intro _; rfl) :
    SS X (.Assign [.Name y py] (.ListComp elt [⟨tg, iter, ifs, 0⟩] scope pos) spos) (cSet i (cComp ci g t e (own.map (·.2)))) := fun W tk _ =>
  PSimp (ps_setLc (tt := tT X Wf t) (te := tX X Wf e) (g := tG X ws g) hc hN hy hyl hsw (hi W tk) ok hg (fun s H C cl fp => ht s H C cl fp Wf takes0) (fun s H C cl fp => he s H C cl fp Wf takes0) hs) fun D σ H h => comp_imp hvs σ H _ (set_imp h)
end
end TN
namespace TN
open PySem PySem.Spec PyProof.Rows L2

/-! ### keys, dicts -/
def putKD (es : List (D × D)) (k : Key) (d : D) : List (D × D) := if (lookK es k).isSome = true then es.map (fun e => if ckOf e.1 = some k then (e.1, d) else e) else es ++ [(keyD k, d)]
section
variable {K : PySem.W.Frag} {G : Hp}
theorem FzK.repl {k : Key} {v : V} {d : D} (h : Fz K G v d) : ∀ {kvs : List (Key × V)} {es : List (D × D)}, FzK K G kvs es → FzK K G (kvs.map fun kv => if kv.1 = k then (kv.1, v) else kv) (es.map fun e => if ckOf e.1 = some k then (e.1, d) else e)
  | _, _, .nil => .nil
  | _, _, .cons (k := k') (v := w) (d := e) a b => by
    simp only [List.map_cons, ckOf_keyD, Option.some.injEq]
    by_cases hk : k' = k
    · rw [if_pos hk, if_pos hk]; exact .cons h (FzK.repl h b)
    · rw [if_neg hk, if_neg hk]; exact .cons a (FzK.repl h b)
theorem FzK.snoc {k : Key} {v : V} {d : D} (h : Fz K G v d) : ∀ {kvs : List (Key × V)} {es : List (D × D)}, FzK K G kvs es → FzK K G (kvs ++ [(k, v)]) (es ++ [(keyD k, d)])
  | _, _, .nil => .cons h .nil
  | _, _, .cons a b => .cons a (FzK.snoc h b)
theorem FzK.put {k : Key} {v : V} {d : D} {kvs : List (Key × V)} {es : List (D × D)} (b : FzK K G kvs es) (h : Fz K G v d) : FzK K G (putK kvs k v) (putKD es k d) := by
  unfold putK putKD
  have := valV_any k kvs
  rcases FzK.look k b with ⟨z1, z2⟩ | ⟨w, e, z1, z2, _⟩
  · rw [if_neg (by rw [this, z1]; exact Bool.false_ne_true), if_neg (by rw [z2]; exact Bool.false_ne_true)]
    exact FzK.snoc h b
  · rw [if_pos (by rw [this, z1]; rfl), if_pos (by rw [z2]; rfl)]
    exact FzK.repl h b
end

def putT (es : List (D × D)) (k : List Key) (d : D) : List (D × D) := if (lookT es k).isSome = true then es.map (fun e => if tkOf e.1 = some k then (e.1, d) else e) else es ++ [(tkD k, d)]
section
variable {K : PySem.W.Frag} {G : Hp}
theorem FzT.repl {k : List Key} {v : V} {d : D} (h : Fz K G v d) : ∀ {kvs : List (List Key × V)} {es : List (D × D)}, FzT K G kvs es → FzT K G (kvs.map fun kv => if kv.1 = k then (kv.1, v) else kv) (es.map fun e => if tkOf e.1 = some k then (e.1, d) else e)
  | _, _, .nil => .nil
  | _, _, .cons (k := k') (v := w) (d := e) a b => by
    simp only [List.map_cons, tkOf_tkD, Option.some.injEq]
    by_cases hk : k' = k
    · rw [if_pos hk, if_pos hk]; exact .cons h (FzT.repl h b)
    · rw [if_neg hk, if_neg hk]; exact .cons a (FzT.repl h b)
theorem FzT.snoc {k : List Key} {v : V} {d : D} (h : Fz K G v d) : ∀ {kvs : List (List Key × V)} {es : List (D × D)}, FzT K G kvs es → FzT K G (kvs ++ [(k, v)]) (es ++ [(tkD k, d)])
  | _, _, .nil => .cons h .nil
  | _, _, .cons a b => .cons a (FzT.snoc h b)
theorem FzT.put {k : List Key} {v : V} {d : D} {kvs : List (List Key × V)} {es : List (D × D)} (b : FzT K G kvs es) (h : Fz K G v d) : FzT K G (putK kvs k v) (putT es k d) := by
  unfold putK putT
  have := valV_any k kvs
  rcases FzT.look k b with ⟨z1, z2⟩ | ⟨w, e, z1, z2, _⟩
  · rw [if_neg (by rw [this, z1]; exact Bool.false_ne_true), if_neg (by rw [z2]; exact Bool.false_ne_true)]
    exact FzT.snoc h b
  · rw [if_pos (by rw [this, z1]; rfl), if_pos (by rw [z2]; rfl)]
    exact FzT.repl h b
end

/-! ### what is looked at is a dict -/
def isT : List (D × D) → Bool
  | (.none, _) :: _ => true
  | _ => false
def dPut (es : List (D × D)) (y d : D) : Option (List (D × D)) := match es with
  | (.none, m) :: es => match tkOf y with
    | some k => if es.length < 16777216 then some ((.none, m) :: putT es k d) else none
    | none => none
  | es => match ckOf y with
    | some k => if es.length < 16777216 then some (putKD es k d) else none
    | none => none
/-! ### d[k] as an item -/
def rDGet : R2 := fun x y H Q => ∃ a v, x = .ref a ∧ DGet H a y (some v) ∧ Q v H
theorem ix_dict {X : Cx} (hu : X.A.units + 1 < cLine) : IxR X rDGet := by
  intro value slice pins s σ H x y v u Q I rx ry h hs
  obtain ⟨a, w, rfl, g, q⟩ := h
  cases rx
  exact tail_any (ops := [.ref a, u]) (dict_typeIs I g) PySem.F.slot_dict_getitem.lookup (d_getItem hu I g ry fun w' s3 I3 rw' => ⟨w, H, I3, rw', q⟩) hs
def rDIn (n : Bool) : R2 := fun x y H Q => ∃ a o, y = .ref a ∧ DGet H a x o ∧ Q (.bl (if n = true then !o.isSome else o.isSome)) H
theorem op_inDict {X : Cx} (hu : X.A.units + 1 < cLine) : OpR X (compareOp .In) (rDIn false) := by
  intro pins s σ H x y v u Q I rx ry h
  obtain ⟨a, o, rfl, g, q⟩ := h
  cases ry
  exact d_in hu I g rx fun s3 I3 => ⟨.bl o.isSome, H, I3, rfl, q⟩
theorem op_notInDict {X : Cx} (hu : X.A.units + 1 < cLine) : OpR X (compareOp .NotIn) (rDIn true) := by
  intro pins s σ H x y v u Q I rx ry h
  obtain ⟨a, o, rfl, g, q⟩ := h
  cases ry
  exact d_notIn hu I g rx fun s3 I3 => ⟨.bl (!o.isSome), H, I3, rfl, q⟩
theorem isSome_of {K : PySem.W.Frag} {G : Hp} {ov : Option V} {o : Option D} (h : (ov = none ∧ o = none) ∨ ∃ w d, ov = some w ∧ o = some d ∧ Fz K G w d) : ov.isSome = o.isSome := by
  rcases h with ⟨rfl, rfl⟩ | ⟨w, d, rfl, rfl, _⟩ <;> rfl
/-! ### {} -/
section
variable {X : Cx} {pos : Pos}
def cNewK : CE := fun ρ => .ok (.tmp (.dict [])) ρ
def cNewT : CE := fun ρ => .ok (.tmp (.dict [(.none, .none)])) ρ
theorem sx_newK : SX X (.Dict [] [] pos) cNewK := fun W tk => PEimp pe_dnewK (by
  rintro σ H Q ⟨L, ρ, G, B, rel, h⟩ p hp
  exact Got.done rel h (.tmp hp (.dK upd_same .nil)))
theorem sx_newT : SX X (.Dict [] [] pos) cNewT := fun W tk => PEimp pe_dnewT (by
  rintro σ H Q ⟨L, ρ, G, B, rel, h⟩ p hp
  exact Got.done rel h (.tmp hp (.dT upd_same .nil)))
end
end TN
namespace TN
open PySem PySem.Spec PyProof.Rows L2

/-! ### + - * // % ** -/
section
variable {X : Cx} {pins : List (Addr × Obj)} {σ : L2.St} {H : Hp} {s : Shared} {l b : Addr} {xs ys zs : List V}
theorem lstR (I : Inv X pins σ H s) (hH : Rd H l (.lst xs)) : xs.length ≤ sizeLine ∧ ∃ (its : List Value) (n : Nat), Vals xs its ∧ xs.length = its.length ∧ s.heap.get? l = some { cls := .type "list", data := .seq its.toArray n } := by
  obtain ⟨z, its, n, r, e⟩ := hH.ok I.hok
  exact ⟨z, its, n, r, r.length, e⟩
end
section
variable {X : Cx}
def rCatL : R2 := fun x y H Q => ∃ l b xs zs, x = .ref l ∧ y = .ref b ∧ Rd H l (.lst xs) ∧ Rd H b (.lst zs) ∧ xs.length + zs.length ≤ sizeLine ∧ ∀ p, H p = none → Q (.ref p) (upd H p (.lst (xs ++ zs)))
theorem op_catL : OpR X (binaryOp .Add) rCatL := by
  intro pins s σ H x y v u Q I rx ry h
  obtain ⟨l, b, xs, zs, rfl, rfl, hH, hB, hz, q⟩ := h
  cases rx
  cases ry
  obtain ⟨z, its, n, r, hl, e⟩ := lstR I hH
  obtain ⟨z2, its2, n2, r2, hl2, e2⟩ := lstR I hB
  refine PySem.P.add_list e e2 ?_ (by rw [List.size_toArray, List.size_toArray]; omega)
  have ea : its.toArray ++ its2.toArray = (its ++ its2).toArray := by simp
  rw [ea]
  exact ⟨.ref _, _, I.lnew (t' := s.toks) (r.append r2) (by rw [List.length_append]; omega), rfl, q _ I.fresh⟩
def rRepL : R2 := fun x y H Q => ∃ l k xs, x = .ref l ∧ y = .int k ∧ Rd H l (.lst xs) ∧ -(2 ^ 63) ≤ k ∧ k < 2 ^ 63 ∧ xs.length * k.toNat ≤ sizeLine ∧
  ∀ p, H p = none → Q (.ref p) (upd H p (.lst (List.replicate k.toNat xs).flatten))
theorem op_repL : OpR X (binaryOp .Mult) rRepL := by
  intro pins s σ H x y v u Q I rx ry h
  obtain ⟨l, k, xs, rfl, rfl, hH, h1, h2, hz, q⟩ := h
  cases rx
  obtain ⟨t, rfl⟩ := ry
  obtain ⟨z, its, n, r, hl, e⟩ := lstR I hH
  have hlen : its.toArray.size * k.toNat ≤ sizeLine := by rw [List.size_toArray, ← hl]; exact hz
  have hcap : ¬ its.toArray.size * k.toNat > (2 ^ 63 - 1) / 8 := by
    have : (sizeLine : Nat) ≤ (2 ^ 63 - 1) / 8 := by decide
    omega
  have hfit : ¬ (!Builtin.List.listFitsIndex k) = true := by
    rw [fitsIndex_both h1 h2]
    exact Bool.false_ne_true
  have hlong : ¬ Builtin.List.listTooLong (its.toArray.size * k.toNat) = true := by
    rw [notLongL hlen]
    exact Bool.false_ne_true
  have hnew : List.foldl (fun x1 x2 => x1 ++ x2) #[] (List.replicate (if its.toArray.isEmpty = true then 0 else k.toNat) its.toArray) = (List.replicate k.toNat its).flatten.toArray := by
    have f0 : ∀ m : Nat, List.foldl (fun x1 x2 => x1 ++ x2) #[] (List.replicate m its.toArray) = (List.replicate m its).flatten.toArray := fun m => by
      have := foldl_rep its m []
      rw [List.nil_append] at this
      exact this
    rw [f0]
    cases its with
    | nil => simp
    | cons a r' => rw [if_neg (by simp)]
  refine wpAny_binaryOp_repeat_ref (T := "list") (U := "int") (by decide) ⟨_, e, rfl⟩ (fun s' => typeIs_int s' k t) noFill_list_mul F.fills_int_mul F.slot_int_rmul repeat_list F.slot_int_index.lookup
    (call_meets F.slot_int_rmul (typeIs_int s k t) F.entry_int_rmul (F.args_int_rmul_2 _ _) (int___rmul___int_list k t l its.toArray n)
      ⟨e, rfl, ⟨_, e, rfl⟩, call_meets F.slot_list_mul ⟨_, e, rfl⟩ F.entry_list_mul (F.args_list_mul_2 _ _) (AutoListH.list___mul___list_int_3 l its.toArray n k t hfit hcap hlong) ⟨e, ?_⟩⟩)
  rw [hnew]
  exact ⟨.ref _, _, I.lnew (t' := s.toks) (r.rep k.toNat) (by rw [PyProof.Rows.lm_len_rep_flat, Nat.mul_comm]; exact hz), rfl, q _ I.fresh⟩
def opAdd : D → D → Option Pl
  | .int i, .int j => some (.val (.int (i + j)))
  | .str a, .str b => if a.length + b.length ≤ 16777216 then some (.val (.str (a ++ b))) else none
  | .list a, .list b => if a.length + b.length ≤ 16777216 then some (.tmp (.list (a ++ b))) else none
  | .tuple a, .tuple b => if a.length + b.length ≤ 16777216 then some (.val (.tuple (a ++ b))) else none
  | _, _ => none
def rAddA (K : PySem.W.Frag) : R2 := fun x y H Q => rI0 (fun i j => .int (i + j)) x y H Q ∨ ((∃ i j, x = .str i ∧ y = .str j ∧ i.length + j.length ≤ sizeLine ∧ Q (.str (i ++ j)) H) ∨ (rCatL x y H Q ∨ rCatA K x y H Q))
theorem op_addA : OpR X (binaryOp .Add) (rAddA X.K) := op_add.or (op_add_str.or (op_catL.or op_catA))
theorem add_ok (K : PySem.W.Frag) : OpOk K (rAddA K) opAdd := by
  intro G H x y dx dy p Q s hx hy e q
  cases dx <;> cases dy <;> simp only [opAdd] at e <;> try (cases e; done)
  case int.int i j =>
    cases e
    exact .inl ⟨i, j, hx.int, hy.int, q _ _ (.fz (.int _))⟩
  case str.str i j =>
    split at e
    · rename_i hl
      cases e
      exact .inr (.inl ⟨i, j, hx.str, hy.str, by rw [sizeLine_eq]; exact hl, q _ _ (.fz (.str _))⟩)
    · cases e
  case list.list i j =>
    split at e
    · rename_i hl
      cases e
      obtain ⟨a, xs, rfl, h1, h2⟩ := hx.lst s
      obtain ⟨b, ys, rfl, h3, h4⟩ := hy.lst s
      exact .inr (.inr (.inl ⟨a, b, xs, ys, rfl, rfl, h1, h3, by rw [h2.length, h4.length, sizeLine_eq]; exact hl, fun p hp => q _ _ (.lst hp (h2.append h4))⟩))
    · cases e
  case tuple.tuple i j =>
    split at e
    · rename_i hl
      cases e
      obtain ⟨a, xs, rfl, g1, h1, h2⟩ := hx.tup s
      obtain ⟨b, ys, rfl, g3, h3, h4⟩ := hy.tup s
      refine .inr (.inr (.inr ⟨a, b, xs, ys, rfl, rfl, h1, h3, by rw [h2.length, h4.length, sizeLine_eq]; exact hl, fun e1 => ?_, fun _ e1 => ?_, fun _ _ p hp => q _ _ (.tup hp (h2.append h4))⟩))
      · subst e1
        cases h2
        exact q _ _ (.fz (.tup g3 h4))
      · subst e1
        cases h4
        rw [List.append_nil] at q
        exact q _ _ (.fz (.tup g1 h2))
    · cases e
def opSub : D → D → Option Pl
  | .int i, .int j => some (.val (.int (i - j)))
  | _, _ => none
theorem sub_ok (K : PySem.W.Frag) : OpOk K (rI0 fun i j => .int (i - j)) opSub := by
  intro G H x y dx dy p Q s hx hy e q
  cases dx <;> cases dy <;> simp only [opSub] at e <;> try (cases e; done)
  cases e
  exact ⟨_, _, hx.int, hy.int, q _ _ (.fz (.int _))⟩
/-- one of both factors below 2 ^ 64 -/
def mulB (i j : Int) : Bool := (decide (-18446744073709551616 < i) && decide (i < 18446744073709551616)) || (decide (-18446744073709551616 < j) && decide (j < 18446744073709551616))
def opMul : D → D → Option Pl
  | .int i, .int j => if mulB i j = true then some (.val (.int (i * j))) else none
  | .list a, .int k => if a.length * k.toNat ≤ 16777216 ∧ -1000000 ≤ k ∧ k ≤ 100000000 then some (.tmp (.list (List.replicate k.toNat a).flatten)) else none
  | _, _ => none
theorem mulB_ok {i j : Int} (h : mulB i j = true) : CMul i j := by
  simp only [mulB, Bool.or_eq_true, Bool.and_eq_true, decide_eq_true_eq] at h
  unfold CMul
  omega
theorem op_mulA : OpR X (binaryOp .Mult) (fun x y H Q => rI CMul (fun i j => .int (i * j)) x y H Q ∨ rRepL x y H Q) := op_mul.or op_repL
theorem mul_ok (K : PySem.W.Frag) : OpOk K (fun x y H Q => rI CMul (fun i j => .int (i * j)) x y H Q ∨ rRepL x y H Q) opMul := by
  intro G H x y dx dy p Q s hx hy e q
  cases dx <;> cases dy <;> simp only [opMul] at e <;> try (cases e; done)
  case int.int i j =>
    split at e
    · rename_i hl
      cases e
      exact .inl ⟨_, _, hx.int, hy.int, mulB_ok hl, q _ _ (.fz (.int _))⟩
    · cases e
  case list.int a k =>
    split at e
    · rename_i hl
      cases e
      obtain ⟨p, xs, rfl, h1, h2⟩ := hx.lst s
      refine .inr ⟨p, k, xs, rfl, hy.int, h1, by omega, by omega, by rw [h2.length, sizeLine_eq]; exact hl.1, fun p hp => q _ _ (.lst hp (h2.rep _))⟩
    · cases e
def opDiv : D → D → Option Pl
  | .int i, .int j => if 0 < j ∧ j < 10000000000000000000000000000000000000000000000000000000000000000000000 then some (.val (.int (i / j))) else none
  | _, _ => none
theorem div_ok (K : PySem.W.Frag) : OpOk K (rI CDivW fun i j => .int (i / j)) opDiv := by
  intro G H x y dx dy p Q s hx hy e q
  cases dx <;> cases dy <;> simp only [opDiv] at e <;> try (cases e; done)
  split at e
  · rename_i hl
    cases e
    exact ⟨_, _, hx.int, hy.int, wide_div (b := 300) hl.1 (by omega) (by decide) (by decide), q _ _ (.fz (.int _))⟩
  · cases e
def opMod : D → D → Option Pl
  | .int i, .int j => if 0 < j then some (.val (.int (i % j))) else none
  | _, _ => none
theorem mod_ok (K : PySem.W.Frag) : OpOk K (rI (fun _ j => 0 < j) fun i j => .int (i % j)) opMod := by
  intro G H x y dx dy p Q s hx hy e q
  cases dx <;> cases dy <;> simp only [opMod] at e <;> try (cases e; done)
  split at e
  · rename_i hl
    cases e
    exact ⟨_, _, hx.int, hy.int, hl, q _ _ (.fz (.int _))⟩
  · cases e
def opPow : D → D → Option Pl
  | .int i, .int j => if 0 ≤ j ∧ j ≤ 1000 ∧ i.natAbs < 18446744073709551616 then some (.val (.int (i ^ j.toNat))) else none
  | _, _ => none
theorem pow_ok (K : PySem.W.Frag) : OpOk K (rI CPow fun i j => .int (i ^ j.toNat)) opPow := by
  intro G H x y dx dy p Q s hx hy e q
  cases dx <;> cases dy <;> simp only [opPow] at e <;> try (cases e; done)
  split at e
  · rename_i hl
    cases e
    exact ⟨_, _, hx.int, hy.int, ⟨hl.1, by omega, by omega⟩, q _ _ (.fz (.int _))⟩
  · cases e
def opNeg : D → Option Pl
  | .int i => some (.val (.int (-i)))
  | _ => none
theorem neg_ok (K : PySem.W.Frag) : UnOk K (rU fun i => .int (-i)) opNeg := by
  intro G H x dx p Q s hx e q
  cases dx <;> simp only [opNeg] at e <;> try (cases e; done)
  cases e
  exact ⟨_, hx.int, q _ _ (.fz (.int _))⟩

/-! ### comparisons -/
def opLtG (f : Int → Int → Bool) : D → D → Option Pl
  | .int i, .int j => some (.val (.bool (f i j)))
  | _, _ => none
theorem ltG_ok (K : PySem.W.Frag) (f : Int → Int → Bool) : OpOk K (rI0 fun i j => .bl (f i j)) (opLtG f) := by
  intro G H x y dx dy p Q s hx hy e q
  cases dx <;> cases dy <;> simp only [opLtG] at e <;> try (cases e; done)
  cases e
  exact ⟨_, _, hx.int, hy.int, q _ _ (.fz (.bl _))⟩
abbrev opLt := opLtG fun i j => decide (i < j)
abbrev opLe := opLtG fun i j => decide (i ≤ j)
abbrev opGt := opLtG fun i j => decide (j < i)
abbrev opGe := opLtG fun i j => decide (j ≤ i)
/-- what is looked at as data -/
theorem Fz.dp {K : PySem.W.Frag} {G H : Hp} (s : Same G H) : ∀ (d : D) (v : V), Fz K G v d → d.canLay0 = true → Dp K H v d := by
  intro d v h
  refine Fz.rec (motive_1 := fun v d _ => d.canLay0 = true → Dp K H v d) (motive_2 := fun v d _ => PyData.canLayAll0 d = true → DpAll K H v d) (motive_3 := fun _ _ _ => True) (motive_4 := fun _ _ _ => True) (motive_5 := fun _ _ _ => True) ?_ ?_ ?_ ?_ ?_ ?_ ?_ ?_ ?_ ?_ ?_ ?_ ?_ ?_ ?_ ?_ ?_ h
  · exact fun _ => .non
  · exact fun b _ => .bl b
  · exact fun i _ => .int i
  · exact fun x _ => .str x
  · exact fun h _ ih c => .lst (.inl (Same.rd s h)) (ih (by simpa [PyData.canLay0] using c))
  · exact fun h _ ih c => .tup (.inl (.inl (s _ _ h))) (ih (by simpa [PyData.canLay0] using c))
  · exact fun _ _ _ c => absurd c (by simp [PyData.canLay0])
  · exact fun _ _ _ c => absurd c (by simp [PyData.canLay0])
  · exact fun _ _ _ _ _ _ c => absurd c (by simp [exD, PyData.canLay0])
  · exact fun _ => .nil
  · exact fun _ _ a b c => by
      simp only [PyData.canLayAll0, Bool.and_eq_true] at c
      exact .cons (a c.1) (b c.2)
  · trivial
  · exact fun _ _ _ _ => trivial
  · trivial
  · exact fun _ _ _ _ => trivial
  · trivial
  · exact fun _ _ _ _ => trivial
theorem FzA.dp {K : PySem.W.Frag} {G H : Hp} (s : Same G H) : ∀ {ds : List D} {vs : List V}, FzA K G vs ds → PyData.canLayAll0 ds = true → DpAll K H vs ds
  | [], _, .nil, _ => .nil
  | d :: ds, _, .cons a b, c => by
    simp only [PyData.canLayAll0, Bool.and_eq_true] at c
    exact .cons (Fz.dp s _ _ a c.1) (FzA.dp s b c.2)
theorem Vw.dp {K : PySem.W.Frag} {G H : Hp} {v : V} {d : D} (s : Same G H) (h : Vw K G H v d) (c : d.canLay0 = true) : Dp K H v d := by
  rcases h with h | ⟨a, rfl, h⟩
  · exact Fz.dp s _ _ h c
  · cases h with
    | lst e x => exact .lst (.inl (.inl e)) (x.dp s (by simpa [PyData.canLay0] using c))
    | dK e x => exact absurd c (by simp [PyData.canLay0])
    | dT e x => exact absurd c (by simp [PyData.canLay0])
def opEq (x y : D) : Option Pl := if SeqAt.shaped x = true ∧ SeqAt.shaped y = true then some (.val (.bool (PyData.eqv x y))) else none
def opNe (x y : D) : Option Pl := if SeqAt.shaped x = true ∧ SeqAt.shaped y = true then some (.val (.bool (!PyData.eqv x y))) else none
theorem eq_ok (K : PySem.W.Frag) : OpOk K (rEqD K) opEq := by
  intro G H x y dx dy p Q s hx hy e q
  unfold opEq at e
  split at e
  · rename_i h
    cases e
    exact ⟨dx, dy, hx.dp s (SeqAt.canLay_of_shaped h.1), hy.dp s (SeqAt.canLay_of_shaped h.2), h.1, h.2, q _ _ (.fz (.bl _))⟩
  · cases e
theorem ne_ok (K : PySem.W.Frag) : OpOk K (rNeD K) opNe := by
  intro G H x y dx dy p Q s hx hy e q
  unfold opNe at e
  split at e
  · rename_i h
    cases e
    exact ⟨dx, dy, hx.dp s (SeqAt.canLay_of_shaped h.1), hy.dp s (SeqAt.canLay_of_shaped h.2), h.1, h.2, q _ _ (.fz (.bl _))⟩
  · cases e
/-- is None -/
def isNonD : D → Bool
  | .none => true
  | _ => false
def opIsN (x y : D) : Option Pl := match y with
  | .none => some (.val (.bool (isNonD x)))
  | _ => none
def opNotN (x y : D) : Option Pl := match y with
  | .none => some (.val (.bool (!isNonD x)))
  | _ => none
theorem Vw.isNon {K : PySem.W.Frag} {G H : Hp} {v : V} {d : D} (h : Vw K G H v d) : decide (v = .non) = isNonD d := by
  rcases h with h | ⟨a, rfl, h⟩
  · cases h <;> rfl
  · cases h <;> rfl
theorem isN_ok (K : PySem.W.Frag) : OpOk K (fun x y H Q => y = .non ∧ Q (.bl (decide (x = .non))) H) opIsN := by
  intro G H x y dx dy p Q s hx hy e q
  cases dy <;> simp only [opIsN] at e <;> try (cases e; done)
  cases e
  exact ⟨hy.non, by rw [hx.isNon]; exact q _ _ (.fz (.bl _))⟩
theorem notN_ok (K : PySem.W.Frag) : OpOk K (fun x y H Q => y = .non ∧ Q (.bl (!decide (x = .non))) H) opNotN := by
  intro G H x y dx dy p Q s hx hy e q
  cases dy <;> simp only [opNotN] at e <;> try (cases e; done)
  cases e
  exact ⟨hy.non, by rw [hx.isNon]; exact q _ _ (.fz (.bl _))⟩

/-! ### items, slices -/
def opIx : D → D → Option Pl
  | .list a, .int i => (atI a i).map .val
  | .tuple a, .int i => (atI a i).map .val
  | .str z, .int i => if z.length ≤ 16777216 then (atI z.cps.toList i).map (fun c => .val (.str ⟨#[c]⟩)) else none
  | .dict es, y => match dGet es y with
    | some (some d) => some (.val d)
    | _ => none
  | _, _ => none
theorem FzA.atI {K : PySem.W.Frag} {G : Hp} {vs : List V} {ds : List D} {i : Int} {d : D} (h : FzA K G vs ds) (e : L2.atI ds i = some d) : ∃ v, L2.atI vs i = some v ∧ Fz K G v d := by
  unfold L2.atI at e ⊢
  rw [h.length]
  cases q : ixN ds.length i with
  | none => rw [q] at e; cases e
  | some j =>
    rw [q] at e
    exact h.get e
def rIxA (K : PySem.W.Frag) : R2 := fun x y H Q => rIx K x y H Q ∨ rDGet x y H Q
theorem ix_any (hu : X.A.units + 65 < cLine) : IxR X (rIxA X.K) := ix_seq.or (ix_dict (by omega))
theorem ix_ok (K : PySem.W.Frag) : OpOk K (rIxA K) opIx := by
  intro G H x y dx dy p Q s hx hy e q
  cases dx
  case dict es =>
    have e : (match dGet es dy with
      | some (some d) => some (Pl.val d)
      | _ => none) = some p := by cases dy <;> exact e
    split at e
    · rename_i d hd
      cases e
      obtain ⟨a, ov, rfl, g, h⟩ := hx.get s hy hd
      rcases h with ⟨_, z⟩ | ⟨w, d', rfl, z, f⟩
      · cases z
      · cases z
        exact .inr ⟨a, w, rfl, g, q _ _ (.fz f)⟩
    · cases e
  all_goals (cases dy <;> simp only [opIx] at e <;> try (cases e; done))
  case list.int a i =>
    cases e1 : atI a i with
    | none => rw [e1] at e; cases e
    | some d =>
      rw [e1] at e; cases e
      obtain ⟨p, xs, rfl, h1, h2⟩ := hx.lst s
      obtain ⟨v, h3, h4⟩ := h2.atI e1
      exact .inl (.inl ⟨p, xs, i, v, rfl, hy.int, .inl h1, h3, q _ _ (.fz h4)⟩)
  case tuple.int a i =>
    cases e1 : atI a i with
    | none => rw [e1] at e; cases e
    | some d =>
      rw [e1] at e; cases e
      obtain ⟨p, xs, rfl, _, h1, h2⟩ := hx.tup s
      obtain ⟨v, h3, h4⟩ := h2.atI e1
      exact .inl (.inr (.inl ⟨p, xs, i, v, rfl, hy.int, h1, h3, q _ _ (.fz h4)⟩))
  case str.int z i =>
    split at e
    · rename_i hl
      cases e1 : atI z.cps.toList i with
      | none => rw [e1] at e; cases e
      | some c =>
        rw [e1] at e; cases e
        exact .inl (.inr (.inr ⟨z, i, c, hx.str, hy.int, by rw [sizeLine_eq]; exact hl, e1, q _ _ (.fz (.str _))⟩))
    · cases e
theorem sx_item {a b : Expr} {ca cb : CE} {pos : Pos} (hu : X.A.units + 65 < cLine) (ha : SX X a ca) (hb : SX X b cb) (hs : PlainIx b := by exact fun _ _ => rfl) : SX X (.Subscript a b pos) (cBin opIx ca cb) := sx_ix (ix_any hu) (ix_ok X.K) ha hb hs
/-- a part of a slice -/
abbrev CO := Rho → R (Option Int)
abbrev GotO (X : Cx) (L : L2.St) (W : WX) (σ : L2.St) (G B : Hp) (r : R (Option Int)) (Q : Option Int → Hp → Prop) : Prop := Got X L W σ G B (fun b _ _ _ b' => b' = b) r Q
def tO (X : Cx) (W : WX) (c : CO) : TO := fun σ H Q => ∃ (L : L2.St) (ρ : Rho) (G B : Hp), Rel X.K L B σ ρ G H ∧ GotO X L W σ G B (c ρ) Q
def SO (X : Cx) (e : Option Expr) (c : CO) : Prop := ∀ W : WX, Takes X W → PO X e (tO X W c)
theorem POimp {e : Option Expr} {t t' : TO} (h : PO X e t) (w : ∀ σ H Q, t' σ H Q → t σ H Q) : PO X e t' := ⟨fun pins s σ H Q I q => h.run pins s σ H Q I (w _ _ _ q)⟩
def cNoPart : CO := fun ρ => .ok none ρ
def cPart (c : CE) : CO := fun ρ => (c ρ).bind fun p ρ1 => match look p ρ1 with
  | some (.int i) => .ok (some i) ρ1
  | _ => .bad
theorem so_none : SO X none cNoPart := fun W tk => POimp po_none (by
  rintro σ H Q ⟨L, ρ, G, B, rel, h⟩
  exact h none H G rel .refl rfl)
theorem so_some {e : Expr} {c : CE} (h : SX X e c) : SO X (some e) (cPart c) := fun W tk => POimp (po_some (h W tk)) (by
  rintro σ H Q ⟨L, ρ, G, B, rel, h⟩
  refine ⟨L, ρ, G, B, rel, (Got.bind h).mono ?_⟩
  rintro x H1 ⟨p, ρ1, G1, _, rel1, _, fx1, h1⟩
  split at h1
  · rename_i i e1
    exact ⟨i, (fx1.look rel1 e1).int, h1 (some i) H1 G1 rel1 .refl rfl⟩
  · exact h1.elim)
theorem Got.bindO {γ δ : Type} {L : L2.St} {W : WX} {σ : L2.St} {G B : Hp} {P : γ → Rho → Hp → Hp → δ → Prop} {r : R (Option Int)} {k : Option Int → Rho → R γ} {Q : δ → Hp → Prop} (h : Got X L W σ G B P (r.bind k) Q) :
    GotO X L W σ G B r (fun b H1 => ∃ (ρ1 : Rho) (G1 : Hp), r = .ok b ρ1 ∧ Rel X.K L B σ ρ1 G1 H1 ∧ Ext B G G1 ∧ Got X L W σ G1 B P (k b ρ1) fun d H2 => Q d H2) := by
  cases r with
  | ok p ρ1 =>
    intro v H' G' rel ext ok
    subst ok
    exact ⟨ρ1, G', rfl, rel, ext, Got.shift ext h⟩
  | exc x ρ' => exact h
  | bad => exact h
def cutL {α : Type} (xs : List α) (lo hi : Option Int) : List α := (xs.drop (HT.sIx xs.length 0 lo)).take (HT.sIx xs.length xs.length hi - HT.sIx xs.length 0 lo)
def opSl (x : D) (lo hi : Option Int) : Option Pl := match x with
  | .list a => some (.tmp (.list (cutL a lo hi)))
  | .tuple a => some (.val (.tuple (cutL a lo hi)))
  | _ => none
def cSl (a : CE) (lo hi : CO) : CE := fun ρ => (a ρ).bind fun p ρ1 => (lo ρ1).bind fun l ρ2 => (hi ρ2).bind fun u ρ3 => match look p ρ3 with
  | some x => .ofOpt (opSl x l u) ρ3
  | none => .bad
def rSlX (K : PySem.W.Frag) : V → Option Int → Option Int → Hp → VK → Prop := fun x lo hi H Q => rSlL K x lo hi H Q ∨ rSlA K x lo hi H Q
theorem sl_any : SlR X (rSlX X.K) := sl_list.or sl_tupA
theorem FzA.cut {K : PySem.W.Frag} {G : Hp} {vs : List V} {ds : List D} (h : FzA K G vs ds) (lo hi : Option Int) : FzA K G (cutV vs lo hi) (cutL ds lo hi) := by
  unfold cutV cutL
  rw [h.length]
  exact (h.drop _).take _
theorem cut_whole {xs : List D} {lo hi : Option Int} (h1 : HT.sIx xs.length 0 lo = 0) (h2 : HT.sIx xs.length xs.length hi = xs.length) : cutL xs lo hi = xs := by
  unfold cutL
  rw [h1, h2]; simp
theorem sx_slice {e : Expr} {lo hi : Option Expr} {c : CE} {cl cu : CO} {pos p2 : Pos} (he : SX X e c) (hl : SO X lo cl) (hu : SO X hi cu) : SX X (.Subscript e (.Slice lo hi none p2) pos) (cSl c cl cu) := fun W tk =>
  PEimp (pe_slice sl_any (he W tk) (hl W tk) (hu W tk)) (by
  rintro σ H Q ⟨L, ρ, G, B, rel, h⟩
  refine ⟨L, ρ, G, B, rel, (Got.bind h).mono ?_⟩
  rintro x H1 ⟨p, ρ1, G1, _, rel1, _, fx1, h1⟩
  refine ⟨L, ρ1, G1, B, rel1, (Got.bindO h1).mono ?_⟩
  rintro l H2 ⟨ρ2, G2, _, rel2, x2, h2⟩
  refine ⟨L, ρ2, G2, B, rel2, (Got.bindO h2).mono ?_⟩
  rintro u H3 ⟨ρ3, G3, _, rel3, x3, h3⟩
  cases e1 : look p ρ3 with
  | none => simp only [e1] at h3; exact h3.elim
  | some d =>
    simp only [e1] at h3
    have vw := ((fx1.mono x2.same).mono x3.same).look rel3 e1
    cases d with
    | list a =>
      obtain ⟨q, xs, rfl, g1, g2⟩ := vw.lst rel3.sub
      exact .inl ⟨q, xs, rfl, .inl g1, fun p hp => Got.done rel3 h3 (.lst hp (g2.cut l u))⟩
    | tuple a =>
      obtain ⟨q, xs, rfl, g0, g1, g2⟩ := vw.tup rel3.sub
      refine .inr ⟨q, xs, rfl, g1, fun hw => ?_, fun _ p hp => Got.done rel3 h3 (.tup hp (g2.cut l u))⟩
      refine Got.done rel3 h3 ?_
      rw [g2.length] at hw
      rw [cut_whole hw.1 hw.2]
      exact .fz (.tup g0 g2)
    | _ => exact h3.elim)

end
end TN
namespace PySem.W
open PySem PySem.Spec PySem.Calls PyProof.Rows
section
variable {prog : Program} {w : World} {A : Around} {E : Value → Shared → Prop} {s : Shared} {K : Frag} {x D : Addr} {ox : Obj}
theorem findObj_dataX {C : Addr} {od : Option Obj} {name : Str} {a g : Value} (hc : (clsIn K C).isSome = true) (ha : findIn K (.ref C) name = some (some a)) (hg : specialIn K a "__get__" = some (some g)) (ht : takesIn K a = some true) : findObj K C od name = some (.bind g a) := by
  obtain ⟨cd, hc⟩ := Option.isSome_iff_exists.mp hc
  unfold findObj
  rw [hc, Option.bind_some, ha, Option.bind_some]
  simp [hg, ht]
theorem kin_classX {od : Option Obj} {Q : Option Value → Shared → Prop} (hga : findIn K (.ref D) "__getattribute__" = some (some (.builtin "BaseException.__getattribute__"))) (hgt : findIn K (.ref D) "__getattr__" = some none) (hsub : subIn K (.ref D) (.type "BaseException") = some true)
    (hdct : hasDictIn K D = true) (ha : findIn K (.ref D) "__class__" = some (some (.builtin "object.__class__")))
    (hn : specialIn K (.builtin "object.__class__") "__get__" = some (some (.builtin "getset_descriptor.__get__"))) (htk : takesIn K (.builtin "object.__class__") = some true) (hm : mroIn K D (.type "object") = some true)
    (X : K.In s.heap) (I : InstAt s.heap x ox D od) (h : Q (some (.ref D)) { s with toks := s.toks + 1 }) : wpAny (model prog w) A (getAttr? (.ref x) "__class__") Q E s := by
  have hf : findObj K D od "__class__" = some (.bind (.builtin "getset_descriptor.__get__") (.builtin "object.__class__")) := findObj_dataX (by obtain ⟨cd, hc, _⟩ := any_some hdct; rw [hc]; rfl) ha hn htk
  obtain ⟨hp, g, d, t, os⟩ := s
  have L0 := I.type (M := model prog w)
  have L1 := looks_findIn (M := model prog w) X hga
  have L2 := looks_findIn (M := model prog w) X hgt
  have L3 := looks_find (M := model prog w) X I hf
  have sub : Looks (model prog w) hp (isInstance (.ref x) (.type "BaseException")) true := L0.andThen (looks_subIn X hsub)
  have hx0 : (false && onTheHeap (Value.builtin "BaseException.__getattribute__")) = false := rfl
  have hx2 : (Value.builtin "BaseException.__getattribute__" == Value.builtin "object.__getattribute__") = false := by decide +kernel
  have hx1 : (onTheHeap (Value.ref D) && Value.builtin "BaseException.__getattribute__" == Value.builtin "object.__getattribute__") = false := by rw [hx2]; rfl
  unfold getAttr? getAttrBy? getAttrBy
  refine wpAny_bind (wpAny_mkText (wpAny_bind (wpAny_attempt (wpAny_holding (wpAny_bind (L0.at (wpAny_bind (L1.at ?_))))))))
  show wpAny _ _ (if (onTheHeap (Value.ref D) && Value.builtin "BaseException.__getattribute__" == Value.builtin "object.__getattribute__") = true then _ else _) _ _ _
  rw [hx1, if_neg Bool.false_ne_true]
  unfold getAttrByItsOwn hookBefore
  refine wpAny_bind ?_
  rw [if_pos (show onTheHeap (Value.ref D) = true from rfl)]
  refine L2.at ?_
  refine wpAny_bind (wpAny_attempt (wpAny_holding ?_))
  unfold callGetattribute
  rw [hx0, if_neg Bool.false_ne_true]
  unfold boundAndCalled
  rw [PySem.F.excAttr_ValueError.ga.bind (.ref x)]
  refine wpAny_bind (wpAny_pure ?_)
  show wpAny _ _ (call (.builtin "BaseException.__getattribute__") [.ref x, .str "__class__" t]) _ _ _
  refine wpAny_call (codeAny_call_builtin PySem.F.excAttr_ValueError.ga.plain PySem.F.entry_bexc_ga ?_)
  refine @check_slot (model prog w) _ _ ⟨hp, g, d, t + 1, os⟩ "BaseException.__getattribute__" "BaseException" "__getattribute__" (.ref x) [.str "__class__" t] [] _ (by decide +kernel) (by decide +kernel) sub (PySem.F.args_bexc_ga (.ref x) (.str "__class__" t)) ?_
  unfold Builtin.«object.__getattribute__»
  refine wpAny_bind (wpAny_of_eq (a := ((Value.ref x : Value), [Value.str "__class__" t])) (by first | rfl | (simp only [slotArgs]; rfl)) ?_)
  refine wpAny_bind (wpAny_pure (wpAny_bind (L0.at (wpAny_bind (L3.at ?_)))))
  show wpAny _ _ (holding [Value.builtin "object.__class__"] (call (.builtin "getset_descriptor.__get__") [.builtin "object.__class__", .ref x, .ref D]) >>= ret) _ _ _
  refine wpAny_bind (wpAny_holding (wpAny_call (class_get (s := ⟨hp, g, d, t + 1, os⟩) (ox := ox) (od := od) X I hm ?_)))
  refine wpAny_pure ?_
  show wpAny _ _ (handedOut (.ref D)) _ _ _
  rw [handedOut_of (v := .ref D) rfl]
  first
    | exact wpAny_pure (wpAny_pure h)
    | exact wpAny_pure h
    | exact wpAny_pure (wpAny_bind (wpAny_pure (wpAny_pure h)))
theorem kitx_X {od : Option Obj} (hga : findIn K (.ref D) "__getattribute__" = some (some (.builtin "BaseException.__getattribute__"))) (hgt : findIn K (.ref D) "__getattr__" = some none) (hsub : subIn K (.ref D) (.type "BaseException") = some true) (hdct : hasDictIn K D = true) (ha : findIn K (.ref D) "__class__" = some (some (.builtin "object.__class__")))
    (hn : specialIn K (.builtin "object.__class__") "__get__" = some (some (.builtin "getset_descriptor.__get__"))) (htk : takesIn K (.builtin "object.__class__") = some true) (hm : mroIn K D (.type "object") = some true) :
    KitX K (.ref x) (.ref D) (fun h => InstAt h x ox D od) where
  ty := fun _ _ _ I => I.type
  it := fun _ _ X _ => by
    obtain ⟨cdD, hcD, _⟩ := any_some hdct
    unfold clsIn at hcD
    split at hcD
    · rename_i c' d' cd' sl' ho
      intro A' Q' E' s' k q
      unfold isType loadHead
      exact wpAny_bind (wpAny_loadPart (k _ _ (X _ _ ho)) (wpAny_pure q))
    · cases hcD
  ne := fun h tp dd its n sl X htp => by
    obtain ⟨cdD, hcD, _⟩ := any_some hdct
    refine Bool.eq_false_iff.mpr fun q => ?_
    have e : D = tp := Value.ref.inj (beq_iff_eq.mp q)
    subst e
    unfold clsIn at hcD
    split at hcD
    · rename_i c' d' cd' sl' ho
      have z := (X _ _ ho).symm.trans htp
      cases z
    · cases hcD
  ca := fun X I k => kin_classX hga hgt hsub hdct ha hn htk hm X I k
end
end PySem.W
namespace TN
open PySem PySem.Spec PyProof.Rows L2
section
variable {X : Cx}
/-! ### in, not in -/
def seqOf : D → Option (List D)
  | .list ds => some ds
  | .tuple ds => some ds
  | _ => none
def opIn (x y : D) : Option Pl := match y with
  | .dict es => (dGet es x).map fun o => .val (.bool o.isSome)
  | y => match seqOf y with
    | some ds => if SeqAt.shaped x = true ∧ SeqAt.shaped y = true then some (.val (.bool (ds.any fun z => PyData.eqv z x))) else none
    | none => none
def opNotIn (x y : D) : Option Pl := match y with
  | .dict es => (dGet es x).map fun o => .val (.bool (!o.isSome))
  | y => match seqOf y with
    | some ds => if SeqAt.shaped x = true ∧ SeqAt.shaped y = true then some (.val (.bool (!(ds.any fun z => PyData.eqv z x)))) else none
    | none => none
def rInB (K : PySem.W.Frag) (n : Bool) : R2 := fun x y H Q => ∃ (d e : D) (ds : List D), Dp K H x d ∧ Dp K H y e ∧ seqOf e = some ds ∧ SeqAt.shaped d = true ∧ SeqAt.shaped e = true ∧ Q (.bl (if n = true then !(ds.any fun z => PyData.eqv z d) else ds.any fun z => PyData.eqv z d)) H
def rInA (K : PySem.W.Frag) (n : Bool) : R2 := fun x y H Q => rInB K n x y H Q ∨ rDIn n x y H Q
theorem op_inB (hu : X.A.units + 65 < cLine) : OpR X (compareOp .In) (rInB X.K false) := by
  intro pins s σ H x y v u Q I rx ry h
  obtain ⟨d, e, ds, hd, he, hs, sd, se, q⟩ := h
  obtain ⟨as, r1⟩ := Dp.reads I d x v hd rx
  obtain ⟨bs, r2⟩ := Dp.reads I e y u he ry
  cases e <;> simp only [seqOf] at hs <;> try (cases hs; done)
  · cases hs
    exact SeqAt.in_list_reads r2 r1 (SeqAt.canLay_of_shaped se) (SeqAt.canLay_of_shaped sd) (PyProof.Rows.room_in_shaped sd hu) ⟨.bl _, H, I, rfl, q⟩
  · cases hs
    exact SeqAt.in_tuple_reads r2 r1 (SeqAt.canLay_of_shaped se) (SeqAt.canLay_of_shaped sd) (PyProof.Rows.room_in_shaped sd hu) ⟨.bl _, H, I, rfl, q⟩
theorem op_notInB (hu : X.A.units + 65 < cLine) : OpR X (compareOp .NotIn) (rInB X.K true) := by
  intro pins s σ H x y v u Q I rx ry h
  obtain ⟨d, e, ds, hd, he, hs, sd, se, q⟩ := h
  obtain ⟨as, r1⟩ := Dp.reads I d x v hd rx
  obtain ⟨bs, r2⟩ := Dp.reads I e y u he ry
  cases e <;> simp only [seqOf] at hs <;> try (cases hs; done)
  · cases hs
    exact SeqAt.notIn_list_reads r2 r1 (SeqAt.canLay_of_shaped se) (SeqAt.canLay_of_shaped sd) (PyProof.Rows.room_in_shaped sd hu) ⟨.bl _, H, I, rfl, q⟩
  · cases hs
    exact SeqAt.notIn_tuple_reads r2 r1 (SeqAt.canLay_of_shaped se) (SeqAt.canLay_of_shaped sd) (PyProof.Rows.room_in_shaped sd hu) ⟨.bl _, H, I, rfl, q⟩
theorem op_inA (hu : X.A.units + 65 < cLine) : OpR X (compareOp .In) (rInA X.K false) := (op_inB hu).or (op_inDict (by omega))
theorem op_notInA (hu : X.A.units + 65 < cLine) : OpR X (compareOp .NotIn) (rInA X.K true) := (op_notInB hu).or (op_notInDict (by omega))
theorem in_ok (K : PySem.W.Frag) : OpOk K (rInA K false) opIn := by
  intro G H x y dx dy p Q s hx hy e q
  unfold opIn at e
  split at e
  · rename_i es
    cases hd : dGet es dx with
    | none => rw [hd] at e; cases e
    | some o =>
      rw [hd] at e; cases e
      obtain ⟨a, ov, rfl, g, h⟩ := hy.get s hx hd
      exact .inr ⟨a, ov, rfl, g, by rw [if_neg Bool.false_ne_true, isSome_of h]; exact q _ _ (.fz (.bl _))⟩
  · cases hs : seqOf dy with
    | none => rw [hs] at e; cases e
    | some ds =>
      rw [hs] at e
      simp only at e
      split at e
      · rename_i h
        cases e
        exact .inl ⟨dx, dy, ds, hx.dp s (SeqAt.canLay_of_shaped h.1), hy.dp s (SeqAt.canLay_of_shaped h.2), hs, h.1, h.2, q _ _ (.fz (.bl _))⟩
      · cases e
theorem notIn_ok (K : PySem.W.Frag) : OpOk K (rInA K true) opNotIn := by
  intro G H x y dx dy p Q s hx hy e q
  unfold opNotIn at e
  split at e
  · rename_i es
    cases hd : dGet es dx with
    | none => rw [hd] at e; cases e
    | some o =>
      rw [hd] at e; cases e
      obtain ⟨a, ov, rfl, g, h⟩ := hy.get s hx hd
      exact .inr ⟨a, ov, rfl, g, by rw [if_pos rfl, isSome_of h]; exact q _ _ (.fz (.bl _))⟩
  · cases hs : seqOf dy with
    | none => rw [hs] at e; cases e
    | some ds =>
      rw [hs] at e
      simp only at e
      split at e
      · rename_i h
        cases e
        exact .inl ⟨dx, dy, ds, hx.dp s (SeqAt.canLay_of_shaped h.1), hy.dp s (SeqAt.canLay_of_shaped h.2), hs, h.1, h.2, q _ _ (.fz (.bl _))⟩
      · cases e
theorem u65 {k : Nat} (hr : Room k X.A) : X.A.units + 65 < cLine := by
  have := hr.un; omega

/-! ### chains: a op b op c -/
def cChain (f g : D → D → Option Pl) (a b c : CE) : CE := fun ρ => (a ρ).bind fun p ρ1 => (b ρ1).bind fun q ρ2 => match look p ρ2, look q ρ2 with
  | some x, some y => match f x y with
    | some (.val (.bool true)) => (c ρ2).bind fun r ρ3 => match look q ρ3, look r ρ3 with
      | some y, some z => .ofOpt (g y z) ρ3
      | _, _ => .bad
    | some (.val (.bool false)) => .ok (.val (.bool false)) ρ2
    | _ => .bad
  | _, _ => .bad
theorem chain_imp {W : WX} {r r' : R2} {f g : D → D → Option Pl} {ca cb cc : CE} (hr : OpOk X.K r f) (hr' : OpOk X.K r' g) : ∀ (σ : L2.St) (H : Hp) (Q : VK), tX X W (cChain f g ca cb cc) σ H Q → tChain r r' (tX X W ca) (tX X W cb) (tX X W cc) σ H Q := by
  rintro σ H Q ⟨L, ρ, G, B, rel, h⟩
  refine ⟨L, ρ, G, B, rel, (Got.bind h).mono ?_⟩
  rintro x H1 ⟨p, ρ1, G1, _, rel1, _, fx1, h1⟩
  refine ⟨L, ρ1, G1, B, rel1, (Got.bind h1).mono ?_⟩
  rintro y H2 ⟨q, ρ2, G2, _, rel2, ext2, fx2, h2⟩
  cases e1 : look p ρ2 with
  | none => simp only [e1] at h2; exact h2.elim
  | some dx =>
    cases e2 : look q ρ2 with
    | none => simp only [e1, e2] at h2; exact h2.elim
    | some dy =>
      simp only [e1, e2] at h2
      have ok := hr G2 H2 x y dx dy
      cases e3 : f dx dy with
      | none => simp only [e3] at h2; exact h2.elim
      | some pl =>
        simp only [e3] at h2
        refine ok pl _ rel2.sub ((fx1.mono ext2.same).look rel2 e1) (fx2.look rel2 e2) e3 fun v H' ps => ?_
        split at h2
        · rename_i heq
          cases heq
          cases ps with
          | fz hv =>
            cases hv
            refine ⟨true, rfl, ?_⟩
            rw [if_pos rfl]
            refine ⟨L, ρ2, G2, B, rel2, (Got.bind h2).mono ?_⟩
            rintro z H3 ⟨r3, ρ3, G3, _, rel3, ext3, fx3, h3⟩
            cases e4 : look q ρ3 with
            | none => simp only [e4] at h3; exact h3.elim
            | some dy' =>
              cases e5 : look r3 ρ3 with
              | none => simp only [e4, e5] at h3; exact h3.elim
              | some dz =>
                simp only [e4, e5] at h3
                cases e6 : g dy' dz with
                | none => simp only [e6] at h3; exact h3.elim
                | some pl =>
                  simp only [e6] at h3
                  exact hr' G3 H3 y z dy' dz pl Q rel3.sub ((fx2.mono ext3.same).look rel3 e4) (fx3.look rel3 e5) e6 fun v H' ps => Got.done rel3 h3 ps
        · rename_i heq
          cases heq
          cases ps with
          | fz hv =>
            cases hv
            refine ⟨false, rfl, ?_⟩
            rw [if_neg Bool.false_ne_true]
            exact h2 _ H2 G2 rel2 .refl (.bl false)
        · exact h2.elim
theorem sx_chain {a b c : Expr} {ca cb cc : CE} {pos : Pos} {op op' : CmpOp} {r r' : R2} {f g : D → D → Option Pl} (ho : OpR X (compareOp op) r) (hr : OpOk X.K r f) (ho' : OpR X (compareOp op') r') (hr' : OpOk X.K r' g) (ha : SX X a ca) (hb : SX X b cb) (hc : SX X c cc)
    (hm : lastMarks [op, op'] [b, c] = false := by with_unfolding_all rfl) : SX X (.Compare a [op, op'] [b, c] pos) (cChain f g ca cb cc) := fun W tk => PEimp (pe_chain ho ho' (ha W tk) (hb W tk) (hc W tk) hm) (chain_imp hr hr')
theorem st_chain {a b c : Expr} {ca cb cc : CE} {pos : Pos} {op op' : CmpOp} {r r' : R2} {f g : D → D → Option Pl} (ho : OpR X (compareOp op) r) (hr : OpOk X.K r f) (ho' : OpR X (compareOp op') r') (hr' : OpOk X.K r' g) (ha : SX X a ca) (hb : SX X b cb) (hc : SX X c cc)
    (hm : lastMarks [op, op'] [b, c] = false := by with_unfolding_all rfl) : ST X (.Compare a [op, op'] [b, c] pos) (cTst (cChain f g ca cb cc)) := fun W tk => PTimp (pt_chain ho ho' (ha W tk) (hb W tk) (hc W tk) hm) fun σ H Q h => chain_imp hr hr' σ H _ (tst_imp σ H Q h)

/-! ### isinstance -/
def tyName : D → String
  | .none => "NoneType" | .bool _ => "bool" | .int _ => "int" | .str _ => "str" | .list _ => "list" | .tuple _ => "tuple" | .dict _ => "dict"
def isTy (T : String) (d : D) : Bool := (kitB (tyName d) T).getD false
def opIsi (T : String) (d : D) : Option Pl := if (kitB (tyName d) T).isSome = true ∧ (exTy.contains T || !isX d) = true then some (.val (.bool (isTy T d))) else none
theorem Vw.tyX {K : PySem.W.Frag} {G H : Hp} {v : V} {d : D} (s : Same G H) (hX : isX d = false) (h : Vw K G H v d) : TyX K H v (.type (tyName d)) := by
  rcases h with h | ⟨a, rfl, h⟩
  · cases h with
    | non => exact .base .non
    | bl b => exact .base (.bl b)
    | int i => exact .base (.int i)
    | str x => exact .base (.str x)
    | lst h _ =>
      rcases Same.rd s h with e | ⟨o, e⟩
      · exact .base (.lst e)
      · exact .base (.frz e)
    | tup h _ =>
      rcases Same.tp (K := K) s (sqt h) with (e | ⟨o, e⟩) | ⟨o, its, n, hk, hc, _⟩
      · exact .base (.tup e)
      · exact .fTuple e
      · exact .kTuple hk hc
    | dK e _ => exact .base (.dK (s _ _ e))
    | dT e _ => exact .base (.dT (s _ _ e))
    | ex => cases hX
  · cases h with
    | lst e _ => exact .base (.lst e)
    | dK e _ => exact .base (.dK e)
    | dT e _ => exact .base (.dT e)
/-- isinstance(e, c), e a caught exception -/
structure ExcX (K : PySem.W.Frag) (C : Addr) : Prop where
  ga : PySem.W.findIn K (.ref C) "__getattribute__" = some (some (.builtin "BaseException.__getattribute__"))
  gg : PySem.W.findIn K (.ref C) "__getattr__" = some none
  hs : PySem.W.subIn K (.ref C) (.type "BaseException") = some true
  hd : PySem.W.hasDictIn K C = true
  ha : PySem.W.findIn K (.ref C) "__class__" = some (some (.builtin "object.__class__"))
  hn : PySem.W.specialIn K (.builtin "object.__class__") "__get__" = some (some (.builtin "getset_descriptor.__get__"))
  ht : PySem.W.takesIn K (.builtin "object.__class__") = some true
  hm : PySem.W.mroIn K C (.type "object") = some true
theorem excX {K : PySem.W.Frag} {C : Addr} (h : exC K C = true) : ExcX K C := by
  unfold exC at h
  obtain ⟨h1, h⟩ := He.ba h
  obtain ⟨h2, h⟩ := He.ba h
  obtain ⟨h3, h⟩ := He.ba h
  obtain ⟨h4, h⟩ := He.ba h
  obtain ⟨h5, h⟩ := He.ba h
  obtain ⟨h6, h⟩ := He.ba h
  obtain ⟨h7, h8⟩ := He.ba h
  exact ⟨of_decide_eq_true h1, of_decide_eq_true h2, of_decide_eq_true h3, h4, of_decide_eq_true h5, of_decide_eq_true h6, of_decide_eq_true h7, of_decide_eq_true h8⟩
/-- a caught exception in the abstract heap -/
def ExAt (K : PySem.W.Frag) (H : Hp) (a : Addr) (cls : Str) : Prop := ∃ (oe : Obj) (d : Option Addr), H a = some (exHO a oe) ∧ ExO K cls d oe ∧ ∀ dd, d = some dd → ∃ fs, H dd = some (.xd fs)
def rIsX (K : PySem.W.Frag) : List V → Hp → VK → Prop := fun xs H Q => ∃ (a : Addr) (cls : Str) (c : V) (u : Value) (b : Bool), xs = [.ref a, c] ∧ ClsV c u ∧ ExAt K H a cls ∧ PySem.W.kitOne K (.ref (He.ga K cls)) u = some b ∧ Q (.bl b) H
theorem ExAt.inst {P : Program} {w : World} {K : PySem.W.Frag} {H : Hp} {h : Heap} {a : Addr} {cls : Str} (hok : HOk P w H h) (x : ExAt K H a cls) : ∃ (oe : Obj) (od : Option Obj), PySem.W.InstAt h a oe (He.ga K cls) od := by
  obtain ⟨oe, d, h1, ⟨h2, h3, ⟨vs, h4⟩, _, _⟩, h5⟩ := x
  have h6 : ObjOk P w H h a (exHO a oe) := hok a _ h1
  obtain ⟨h7, _, _⟩ := h6
  have h7 : h.get? a = some oe := h7
  cases d with
  | none => exact ⟨oe, none, h7, h2, by unfold PySem.W.notCls; rw [h4] <;> rfl, by rw [h3]; trivial⟩
  | some dd =>
    obtain ⟨fs, h8⟩ := h5 dd rfl
    obtain ⟨mA, hns, _⟩ := (show ObjOk P w H h dd (.xd fs) from hok dd _ h8)
    obtain ⟨od, ho, _⟩ := L2.lookIn_ns hns
    exact ⟨oe, some od, h7, h2, by unfold PySem.W.notCls; rw [h4] <;> rfl, by rw [h3]; exact ho⟩
theorem call_isX {X : Cx} : CallR X (.builtin "isinstance") (rIsX X.K) := by
  intro pins s σ H xs us Q I r h
  obtain ⟨a, cls, c, u, b, rfl, k, x, e, q⟩ := h
  obtain ⟨u1, u2, rfl, r1, r2⟩ := vals2 r
  have e2 := k.eq r2
  subst e2
  cases (show u1 = Value.ref a from r1)
  obtain ⟨oe, od, J⟩ := x.inst I.hok
  obtain ⟨_, _, _, ⟨_, _, _, c1, _⟩, _⟩ := x
  have C := excX c1
  exact PySem.W.kia_one (PySem.W.kitx_X C.ga C.gg C.hs C.hd C.ha C.hn C.ht C.hm) I.kIn J e (fun z => nomatch z) fun tk => ⟨.bl b, H, I.tok tk, rfl, q⟩
theorem Vw.exAt {K : PySem.W.Frag} {G H : Hp} {v : V} {d : D} (s : Same G H) (hX : isX d = true) (h : Vw K G H v d) : ∃ (a : Addr) (cls : Str) (ds : List (Str × D)), v = .ref a ∧ d = exD cls ds ∧ ExAt K H a cls := by
  rcases h with h | ⟨a, rfl, h⟩
  · cases h with
    | non => cases hX
    | bl b => cases hX
    | int i => cases hX
    | str x => cases hX
    | lst h _ => cases hX
    | tup h _ => cases hX
    | dK e x =>
      cases x with
      | nil => cases hX
      | cons a b => rename_i k _ _ _ _; cases k <;> cases hX
    | dT e x => cases hX
    | ex h1 h2 h3 h4 h5 => exact ⟨_, _, _, rfl, rfl, _, _, s _ _ h1, h2, fun dd e => ⟨_, s _ _ (h3 dd e)⟩⟩
  · cases h with
    | lst h _ => cases hX
    | dK e x =>
      cases x with
      | nil => cases hX
      | cons a b => rename_i k _ _ _ _; cases k <;> cases hX
    | dT e x => cases hX
theorem exT_one {K : PySem.W.Frag} {C : Addr} {T : String} (h : exT K C = true) (hT : exTy.contains T = true) : PySem.W.kitOne K (.ref C) (.type T) = some false := by
  unfold exT at h
  exact of_decide_eq_true (List.all_eq_true.mp h T (by simpa using hT))
theorem kitB_dict {T : String} (hT : exTy.contains T = true) : kitB "dict" T = some false := by
  have h : T ∈ exTy := by simpa using hT
  unfold exTy at h
  simp only [List.mem_cons, List.not_mem_nil, or_false] at h
  rcases h with rfl | rfl | rfl | rfl | rfl <;> rfl
theorem sx_isi {x : Expr} {c : CE} {T : String} {TS : Str} {p p2 pos : Pos} (hg : Gl X "isinstance") (hm : X.mg "isinstance" = none) (hg2 : Gl X TS) (hm2 : X.mg TS = none) (hv : bootBuiltins TS = some (.type T)) (ha : SX X x c)
    (hn : TS ≠ "__name__" := by decide) (hd : (TS == ("__debug__" : Str)) = false := by decide)
    (hs : starEach [x, .Name TS p2] X.env = (false, eval x X.env) :: starEach [.Name TS p2] X.env := by rfl) (hpl : (backTo pos (starEach [.Name TS p2] X.env)).any (·.1) = false := by rfl) :
    SX X (.Call (.Name "isinstance" p) [x, .Name TS p2] [] pos) (cUn (opIsi T) c) := fun W tk =>
  PEimp (pe_callB (CallR.or call_isi call_isX) hg hm boot_isinstance (pa_cons (ha W tk) (pa_cons (pe_bltn (v := .ty T) hg2 hm2 hv rfl hn hd) pa_nil) hs) (by decide) (by decide) hs hpl) (by
  rintro σ H Q ⟨L, ρ, G, B, rel, h⟩
  refine ⟨L, ρ, G, B, rel, (Got.bind h).mono ?_⟩
  rintro v H1 ⟨q, ρ1, G1, _, rel1, _, fx1, h1⟩
  cases e1 : look q ρ1 with
  | none => simp only [e1] at h1; exact h1.elim
  | some d =>
    simp only [e1] at h1
    unfold opIsi at h1
    cases hk : kitB (tyName d) T with
    | none => simp only [hk] at h1; exact h1.elim
    | some b =>
      have hb : isTy T d = b := by unfold isTy; rw [hk]; rfl
      rw [hb] at h1
      simp only [hk, Option.isSome_some, true_and] at h1
      by_cases hc : (exTy.contains T || !isX d) = true
      · rw [if_pos hc] at h1
        cases hX : isX d with
        | false => exact .inl ⟨v, .ty T, _, _, b, rfl, .ty T, (fx1.look rel1 e1).tyX rel1.sub hX, kit_ty hk, Got.done rel1 h1 (.fz (.bl b))⟩
        | true =>
          have hT : exTy.contains T = true := by rw [hX] at hc; simpa using hc
          obtain ⟨a, cls, ds, rfl, rfl, x⟩ := (fx1.look rel1 e1).exAt rel1.sub hX
          have hk' : kitB "dict" T = some b := hk
          rw [kitB_dict hT] at hk'
          cases hk'
          have x' := x
          obtain ⟨_, _, _, ⟨_, _, _, _, c2⟩, _⟩ := x
          exact .inr ⟨a, cls, .ty T, _, false, rfl, .ty T, x', exT_one c2 hT, Got.done rel1 h1 (.fz (.bl false))⟩
      · rw [if_neg hc] at h1; exact h1.elim)

/-! ### len, abs, max, min, int, sum, list, tuple, str -/
theorem VwA.two {K : PySem.W.Frag} {G H : Hp} {xs : List V} {d e : D} (h : VwA K G H xs [d, e]) : ∃ v u, xs = [v, u] ∧ Vw K G H v d ∧ Vw K G H u e := by
  cases h with
  | cons a b =>
    obtain ⟨u, rfl, q⟩ := b.one
    exact ⟨_, u, rfl, a, q⟩
def dLen (es : List (D × D)) : Nat := match es with
  | (.none, _) :: es => es.length
  | es => es.length
def fLen : List D → Option Pl
  | [.dict ((.bool true, _) :: _)] => none
  | [.dict es] => some (.val (.int (dLen es : Nat)))
  | [.list a] => some (.val (.int a.length))
  | [.tuple a] => some (.val (.int a.length))
  | [.str z] => if z.length ≤ 16777216 then some (.val (.int z.length)) else none
  | _ => none
def rLenB (K : PySem.W.Frag) : List V → Hp → VK → Prop := fun xs H Q => (∃ p ys, xs = [.ref p] ∧ (SqL K H p ys ∨ SqT K H p ys) ∧ Q (.int ys.length) H) ∨ (∃ z, xs = [.str z] ∧ z.length ≤ sizeLine ∧ Q (.int z.length) H)
def rLenK : List V → Hp → VK → Prop := fun xs H Q => ∃ a kvs, xs = [V.ref a] ∧ H a = some (.dK kvs) ∧ Q (.int kvs.length) H
def rLenA (K : PySem.W.Frag) : List V → Hp → VK → Prop := fun xs H Q => rLenB K xs H Q ∨ (rLenK xs H Q ∨ rLenT xs H Q)
theorem cr_lenA : CallR X (.builtin "len") (rLenA X.K) := (call_len_seq.or call_len_str).or (CallR.or call_lenD call_len_dT)
theorem len_ok (K : PySem.W.Frag) : CallOk K (rLenA K) fLen := by
  intro G H xs ds p Q s hx e q
  unfold fLen at e
  split at e
  · cases e
  · rename_i es hne
    cases e
    obtain ⟨v, rfl, hv⟩ := hx.one
    have hE : isE es = false := isE_no fun x r z => by subst z; exact hne _ _ rfl
    rcases hv.dict s hE with ⟨a, kvs, rfl, e1, f⟩ | ⟨a, kvs, es', rfl, e1, f, rfl⟩
    · refine .inr (.inl ⟨a, kvs, rfl, e1, ?_⟩)
      have : dLen es = kvs.length := by
        unfold dLen
        split
        · exact f.nomark.elim
        · exact f.length.symm
      rw [← this]
      exact q _ _ (.fz (.int _))
    · refine .inr (.inr ⟨a, kvs, rfl, e1, ?_⟩)
      have : dLen ((.none, .none) :: es') = kvs.length := f.length.symm
      rw [← this]
      exact q _ _ (.fz (.int _))
  · cases e
    obtain ⟨v, rfl, hv⟩ := hx.one
    obtain ⟨a, ys, rfl, h1, h2⟩ := hv.lst s
    exact .inl (.inl ⟨a, ys, rfl, .inl (.inl h1), by rw [h2.length]; exact q _ _ (.fz (.int _))⟩)
  · cases e
    obtain ⟨v, rfl, hv⟩ := hx.one
    obtain ⟨a, ys, rfl, _, h1, h2⟩ := hv.tup s
    exact .inl (.inl ⟨a, ys, rfl, .inr h1, by rw [h2.length]; exact q _ _ (.fz (.int _))⟩)
  · split at e
    · rename_i hl
      cases e
      obtain ⟨v, rfl, hv⟩ := hx.one
      exact .inl (.inr ⟨_, by rw [hv.str], by rw [sizeLine_eq]; exact hl, q _ _ (.fz (.int _))⟩)
    · cases e
  · cases e
def fAbs : List D → Option Pl
  | [.int i] => some (.val (.int (if i < 0 then -i else i)))
  | _ => none
def fMax2 : List D → Option Pl
  | [.int i, .int j] => some (.val (.int (if j > i then j else i)))
  | _ => none
def fMin2 : List D → Option Pl
  | [.int i, .int j] => some (.val (.int (if j < i then j else i)))
  | _ => none
theorem max2_ok (K : PySem.W.Frag) : CallOk K (fun xs H Q => ∃ i j, xs = [.int i, .int j] ∧ Q (.int (if j > i then j else i)) H) fMax2 := by
  intro G H xs ds p Q s hx e q
  unfold fMax2 at e
  split at e
  · cases e
    obtain ⟨v, u, rfl, hv, hu⟩ := hx.two
    exact ⟨_, _, by rw [hv.int, hu.int], q _ _ (.fz (.int _))⟩
  · cases e
theorem min2_ok (K : PySem.W.Frag) : CallOk K (fun xs H Q => ∃ i j, xs = [.int i, .int j] ∧ Q (.int (if j < i then j else i)) H) fMin2 := by
  intro G H xs ds p Q s hx e q
  unfold fMin2 at e
  split at e
  · cases e
    obtain ⟨v, u, rfl, hv, hu⟩ := hx.two
    exact ⟨_, _, by rw [hv.int, hu.int], q _ _ (.fz (.int _))⟩
  · cases e
/-- all ints -/
def intsOf : List D → Option (List Int)
  | [] => some []
  | .int i :: r => match intsOf r with
    | some ns => some (i :: ns)
    | none => none
  | _ => none
theorem intsOf_eq : ∀ {ds : List D} {ns : List Int}, intsOf ds = some ns → ds = ns.map PyData.int
  | [], _, h => by cases h; rfl
  | d :: ds, ns, h => by
    cases d <;> simp only [intsOf] at h <;> try (cases h; done)
    cases q : intsOf ds with
    | none => rw [q] at h; cases h
    | some ms =>
      rw [q] at h; cases h
      rw [intsOf_eq q]; rfl
theorem intsOf_map : ∀ ns : List Int, intsOf (ns.map PyData.int) = some ns
  | [] => rfl
  | n :: ns => by simp only [List.map_cons, intsOf, intsOf_map ns]
def seqInts (d : D) : Option (List Int) := match seqOf d with
  | some ds => intsOf ds
  | none => none
/-- a list or tuple of ints -/
def rSeqI (K : PySem.W.Frag) (H : Hp) (a : Addr) (ns : List Int) : Prop := SqL K H a (ns.map V.int) ∨ SqT K H a (ns.map V.int)
theorem Vw.ints {K : PySem.W.Frag} {G H : Hp} {v : V} {d : D} {ns : List Int} (s : Same G H) (h : Vw K G H v d) (e : seqInts d = some ns) : ∃ a, v = .ref a ∧ rSeqI K H a ns := by
  unfold seqInts at e
  cases d <;> simp only [seqOf] at e <;> try (cases e; done)
  · obtain ⟨a, xs, rfl, h1, h2⟩ := h.lst s
    rw [intsOf_eq e] at h2
    rw [h2.ints] at h1
    exact ⟨a, rfl, .inl (.inl h1)⟩
  · obtain ⟨a, xs, rfl, _, h1, h2⟩ := h.tup s
    rw [intsOf_eq e] at h2
    rw [h2.ints] at h1
    exact ⟨a, rfl, .inr h1⟩
def fInt : List D → Option Pl
  | [.int i] => some (.val (.int i))
  | [.bool b] => some (.val (.int (if b = true then 1 else 0)))
  | _ => none
theorem int_ok (K : PySem.W.Frag) : CallOk K (fun xs H Q => (∃ i, xs = [.int i] ∧ Q (.int i) H) ∨ ∃ k, xs = [.bl k] ∧ Q (.int (if k then 1 else 0)) H) fInt := by
  intro G H xs ds p Q s hx e q
  unfold fInt at e
  split at e
  · cases e
    obtain ⟨v, rfl, hv⟩ := hx.one
    exact .inl ⟨_, by rw [hv.int], q _ _ (.fz (.int _))⟩
  · cases e
    obtain ⟨v, rfl, hv⟩ := hx.one
    exact .inr ⟨_, by rw [hv.bool], q _ _ (.fz (.int _))⟩
  · cases e
def fList : List D → Option Pl
  | [.list a] => some (.tmp (.list a))
  | [.tuple a] => some (.tmp (.list a))
  | _ => none
def fTuple : List D → Option Pl
  | [.list a] => some (.val (.tuple a))
  | [.tuple a] => some (.val (.tuple a))
  | _ => none
theorem tuple_ok (K : PySem.W.Frag) : CallOk K (fun xs H Q => ∃ p ys, xs = [.ref p] ∧ ((SqL K H p ys ∧ ∀ l, H l = none → Q (.ref l) (upd H l (.tup ys))) ∨ (SqT K H p ys ∧ Q (.ref p) H))) fTuple := by
  intro G H xs ds p Q s hx e q
  unfold fTuple at e
  split at e
  · cases e
    obtain ⟨v, rfl, hv⟩ := hx.one
    obtain ⟨a, ys, rfl, h1, h2⟩ := hv.lst s
    exact ⟨a, ys, rfl, .inl ⟨.inl h1, fun l hl => q _ _ (.tup hl h2)⟩⟩
  · cases e
    obtain ⟨v, rfl, hv⟩ := hx.one
    obtain ⟨a, ys, rfl, g1, h1, h2⟩ := hv.tup s
    exact ⟨a, ys, rfl, .inr ⟨h1, q _ _ (.fz (.tup g1 h2))⟩⟩
  · cases e
end
end TN
namespace TN
open PySem PySem.Spec PyProof.Rows L2

/-! ### tuples that stand are frozen -/
structure GrowT (G G2 H : Hp) : Prop where
  sub : Same G G2
  into : Same G2 H
  new : ∀ b, G2 b ≠ none → G b ≠ none ∨ ∃ vs, G2 b = some (.tup vs)
theorem GrowT.refl {G H : Hp} (s : Same G H) : GrowT G G H := ⟨Same.refl _, s, fun _ h => .inl h⟩
theorem Rel.growT {K : PySem.W.Frag} {L : L2.St} {B G G2 H : Hp} {σ : L2.St} {ρ : Rho} (r : Rel K L B σ ρ G H) (g : GrowT G G2 H) : Rel K L B σ ρ G2 H ∧ Ext B G G2 := by
  have e : Ext B G G2 := ⟨g.sub, fun b h => by
    rcases g.new b h with z | z
    · exact .inl z
    · exact .inr (.inr z)⟩
  refine ⟨r.gb e g.into r.base fun i p a h hf hv => ?_, e⟩
  obtain ⟨v, h1, h2⟩ := r.slots i p h
  rw [hv] at h1; cases h1
  obtain ⟨a2, e2, h3, h4, c⟩ := h2.own hf
  cases e2
  refine ⟨?_, fun o e => e⟩
  cases q : G2 a with
  | none => rfl
  | some o =>
    rcases g.new a (by rw [q]; simp) with z | ⟨vs, z⟩
    · exact absurd h3 z
    · exact (c.notTup (g.into _ _ z)).elim
def PostG (K : PySem.W.Frag) (G H : Hp) (v : V) (H' : Hp) (p : Pl) : Prop := ∃ G2, GrowT G G2 H ∧ Post K G2 H v H' p
def CallOkG (K : PySem.W.Frag) (r : List V → Hp → VK → Prop) (f : List D → Option Pl) : Prop := ∀ (G H : Hp) (xs : List V) (ds : List D) (p : Pl) (Q : VK), Same G H → VwA K G H xs ds → f ds = some p → (∀ v H', PostG K G H v H' p → Q v H') → r xs H Q
section
variable {X : Cx} {es : List Expr} {cr : CA} {rc : List V → Hp → VK → Prop} {fc : List D → Option Pl} {x : Str} {p : Pos} {T : String} {e : Expr} {pos : Pos}
theorem fn_impG {W : WX} (hr : CallOkG X.K rc fc) : ∀ (σ : L2.St) (H : Hp) (Q : VK), tX X W (cFn fc cr) σ H Q → tCB rc (tA X W cr) σ H Q := by
  rintro σ H Q ⟨L, ρ, G, B, rel, h⟩
  refine ⟨L, ρ, G, B, rel, (Got.bindA h).mono ?_⟩
  rintro xs H1 ⟨ps, ρ1, G1, _, rel1, _, fx1, h1⟩
  cases e1 : lookA ps ρ1 with
  | none => simp only [e1] at h1; exact h1.elim
  | some ds =>
    simp only [e1] at h1
    cases e2 : fc ds with
    | none => simp only [e2] at h1; exact h1.elim
    | some pl =>
      simp only [e2] at h1
      refine hr G1 H1 xs ds pl Q rel1.sub (fx1.look rel1 e1) e2 fun v H' ⟨G2, g, ps⟩ => ?_
      obtain ⟨r2, x2⟩ := rel1.growT g
      exact Got.done r2 (Got.shift x2 h1) ps
theorem sx_callTyG (hc : CallR X (.type T) rc) (hr : CallOkG X.K rc fc) (hg : Gl X x) (hm : X.mg x = none) (hv : bootBuiltins x = some (.type T)) (ha : SA X (e :: es) cr) (hn : x ≠ "__name__" := by decide) (hdb : (x == ("__debug__" : Str)) = false := by decide)
    (he : starEach (e :: es) X.env = (false, eval e X.env) :: starEach es X.env := by rfl) (hpl : (backTo pos (starEach es X.env)).any (·.1) = false := by rfl) : SX X (.Call (.Name x p) (e :: es) [] pos) (cFn fc cr) := fun W tk =>
  PEimp (pe_callTy hc hg hm hv (ha W tk) hn hdb he hpl) (fn_impG hr)
end
/-! ### list(d) -/
def dKeys (es : List (D × D)) : List D := match es with
  | (.none, _) :: es => es.map (·.1)
  | es => es.map (·.1)
def fListA (ds : List D) : Option Pl := match ds with
  | [.dict ((.bool true, _) :: _)] => none
  | [.dict es] => some (.tmp (.list (dKeys es)))
  | ds => fList ds
def rListS (K : PySem.W.Frag) : List V → Hp → VK → Prop := fun xs H Q => ∃ p ys, xs = [.ref p] ∧ (SqL K H p ys ∨ SqT K H p ys) ∧ ∀ l, H l = none → Q (.ref l) (upd H l (.lst ys))
def rListT : List V → Hp → VK → Prop := fun xs H Q => ∃ d kvs, xs = [V.ref d] ∧ Rd H d (.dT kvs) ∧ ∀ p bs, H p = none → IsKeys H kvs bs → Q (.ref p) (upd H p (.lst (bs.map V.ref)))
def rListA (K : PySem.W.Frag) : List V → Hp → VK → Prop := fun xs H Q => rListS K xs H Q ∨ (rListD xs H Q ∨ rListT xs H Q)
theorem cr_listA {X : Cx} (hc : X.calm = true) : CallR X (.type "list") (rListA X.K) := CallR.or call_list_of ((call_list_dK hc).or (call_list_dT hc))
theorem fz_keys {K : PySem.W.Frag} {G : Hp} : ∀ ks : List Key, FzA K G (ks.map kV) (ks.map keyD)
  | [] => .nil
  | .inl i :: ks => .cons (.int i) (fz_keys ks)
  | .inr s :: ks => .cons (.str s) (fz_keys ks)
theorem FzK.keyList {K : PySem.W.Frag} {G : Hp} : ∀ {kvs : List (Key × V)} {es : List (D × D)}, FzK K G kvs es → FzA K G (kvs.map fun kv => kV kv.1) (es.map (·.1))
  | _, _, .nil => .nil
  | _, _, .cons (k := k) _ b => by
    cases k with
    | inl i => exact .cons (.int i) b.keyList
    | inr s => exact .cons (.str s) b.keyList
theorem keyListT {K : PySem.W.Frag} {G G2 H : Hp} : ∀ {kvs : List (List Key × V)} {es : List (D × D)} {bs : List Addr}, FzT K G kvs es → IsKeys H kvs bs → (∀ b, b ∈ bs → G2 b = H b) → FzA K G2 (bs.map V.ref) (es.map (·.1))
  | _, _, _, .nil, .nil, _ => .nil
  | _, _, _, .cons (k := k) _ b, .cons h t, hb => by
    refine .cons (.tup ?_ (fz_keys k)) (keyListT b t fun c hc => hb c (List.mem_cons_of_mem _ hc))
    exact (hb _ (List.mem_cons_self ..)).trans h
theorem listA_ok (K : PySem.W.Frag) : CallOkG K (rListA K) fListA := by
  intro G H xs ds p Q s hx e q
  have q0 : ∀ v H', Post K G H v H' p → Q v H' := fun v H' h => q v H' ⟨G, .refl s, h⟩
  unfold fListA at e
  split at e
  · cases e
  · rename_i es hne
    cases e
    obtain ⟨v, rfl, hv⟩ := hx.one
    have hE : isE es = false := isE_no fun x r z => by subst z; exact hne _ _ rfl
    rcases hv.dict s hE with ⟨a, kvs, rfl, e1, f⟩ | ⟨a, kvs, es', rfl, e1, f, rfl⟩
    · refine .inr (.inl ⟨a, kvs, rfl, e1, fun l hl => ?_⟩)
      have : dKeys es = es.map (·.1) := by
        unfold dKeys
        split
        · exact f.nomark.elim
        · rfl
      rw [this] at q0
      exact q0 _ _ (.lst hl f.keyList)
    · refine .inr (.inr ⟨a, kvs, rfl, .inl e1, fun l bs hl hk => ?_⟩)
      have all := IsKeys.all hk
      have g : GrowT G (fun b => if b ∈ bs then H b else G b) H := by
        refine ⟨fun b o hb => ?_, fun b o hb => ?_, fun b hb => ?_⟩
        · show (if b ∈ bs then H b else G b) = some o
          split
          · exact s _ _ hb
          · exact hb
        · have hb : (if b ∈ bs then H b else G b) = some o := hb
          split at hb
          · exact hb
          · exact s _ _ hb
        · have hb : (if b ∈ bs then H b else G b) ≠ none := hb
          show G b ≠ none ∨ ∃ vs, (if b ∈ bs then H b else G b) = some (.tup vs)
          by_cases hm : b ∈ bs
          · rw [if_pos hm]; exact .inr (all b hm)
          · rw [if_neg hm] at hb; exact .inl hb
      exact q _ _ ⟨_, g, .lst hl (keyListT f hk fun b hm => if_pos hm)⟩
  · unfold fList at e
    split at e
    · cases e
      obtain ⟨v, rfl, hv⟩ := hx.one
      obtain ⟨a, ys, rfl, h1, h2⟩ := hv.lst s
      exact .inl ⟨a, ys, rfl, .inl (.inl h1), fun l hl => q0 _ _ (.lst hl h2)⟩
    · cases e
      obtain ⟨v, rfl, hv⟩ := hx.one
      obtain ⟨a, ys, rfl, _, h1, h2⟩ := hv.tup s
      exact .inl ⟨a, ys, rfl, .inr h1, fun l hl => q0 _ _ (.lst hl h2)⟩
    · cases e
end TN
namespace TN
open PySem PySem.Spec PyProof.Rows L2

/-! ### sum, min, max of ints in a list or tuple -/
section
variable {prog : Program} {w : World} {A : Around} {E : Value → Shared → Prop} {s : Shared} {l : Addr} {its : List Value} {ns : List Int} {Q : Value → Shared → Prop}
theorem sum_tupRaw (hh : A.handled = none) (hl : IsTup s.heap l its.toArray) (hi : IntsAre its ns)
    (h : ∀ h' tk t', (∀ b o, s.heap.get? b = some o → h'.get? b = some o) → Q (.int ns.sum t') { s with heap := h', toks := tk }) : wpAny (model prog w) A (call (.builtin "sum") [.ref l]) Q E s := by
  obtain ⟨xs, e⟩ := hi.allInts.items
  have hn : numsOf (intItems xs).toList = ns := by rw [← e]; exact hi.numsOf
  rw [nums_intItems] at hn
  rw [e] at hl
  have hlt : l < s.heap.objs.size := by obtain ⟨_, e, _⟩ := hl; exact Heap.lt_size e
  refine call_sum_walkG (wpAny_pyIter_tuple hl ?_)
  refine ⟨_, _, _, _, _, _, numAt xs, rfl, Walks.tuple (A := A.in1) hh _ l (Nat.ne_of_lt hlt) (intItems xs), ⟨⟨_, Heap.get?_push_size _ rfl, rfl, rfl⟩, Heap.IsTuple.push hl _⟩, fun b hb => ?_, (fun _ _ => intItems_at), fun h' tk t' hk => ?_⟩
  · show b < (s.heap.push _).objs.size
    rw [Heap.size_push]
    rcases List.mem_cons.mp hb with rfl | hb
    · exact Nat.lt_succ_self _
    · rcases List.mem_cons.mp hb with rfl | hb
      · exact Nat.lt_succ_of_lt hlt
      · cases hb
  · have := h h' tk t' (fun b o eo => hk b o (fun hmem => by
      rcases List.mem_cons.mp hmem with e1 | hmem
      · exact absurd (e1 ▸ Heap.lt_size eo) (Nat.lt_irrefl _)
      · cases hmem) (Heap.get?_push_of_some _ eo))
    rw [show (intItems xs).size = xs.size by simp [intItems], preSum_eq, List.take_of_length_le (by simp), hn]
    exact this
end
section
variable {X : Cx} {k : Nat}
def fSum : List D → Option Pl
  | [d] => match seqInts d with
    | some ns => some (.val (.int ns.sum))
    | none => none
  | _ => none
def rSumA (K : PySem.W.Frag) : List V → Hp → VK → Prop := fun vs H Q => ∃ (a : Addr) (ns : List Int), vs = [V.ref a] ∧ rSeqI K H a ns ∧ Q (.int ns.sum) H
theorem cr_sumA (hc : X.calm = true) : CallR X (.builtin "sum") (rSumA X.K) := by
  intro pins s σ H vs us Q I r h
  obtain ⟨a, ns, rfl, hs, q⟩ := h
  rw [Vals.ref1 r]
  rcases hs with hs | hs
  · obtain ⟨its, rv, hl, _⟩ := I.list hs
    exact sum_raw (I.ok.hd hc) hl.isList rv.ints fun h' tk t' hk => ⟨.int _, H, I.kept hk, ⟨_, rfl⟩, q⟩
  · obtain ⟨its, rv, hl, _⟩ := I.tuple hs
    exact sum_tupRaw (I.ok.hd hc) hl rv.ints fun h' tk t' hk => ⟨.int _, H, I.kept hk, ⟨_, rfl⟩, q⟩
theorem sum_ok (K : PySem.W.Frag) : CallOk K (rSumA K) fSum := by
  intro G H xs ds p Q s hx e q
  unfold fSum at e
  split at e
  · split at e
    · rename_i hn
      cases e
      obtain ⟨v, rfl, hv⟩ := hx.one
      obtain ⟨a, rfl, h1⟩ := hv.ints s hn
      exact ⟨a, _, rfl, h1, q _ _ (.fz (.int _))⟩
    · cases e
  · cases e
theorem reads_ints {h : Heap} : ∀ {us : List Value} {ns : List Int}, IntsAre us ns → ReadsAll h us (ns.map .int) []
  | _, _, .nil => .nil
  | _, _, .cons n t r => by
    have := ReadsAll.cons (Reads.int (h := h) n t) (reads_ints r)
    simpa using this
theorem alike_int1 (ns : List Int) : PySem.W.AlikeAll (ns.map .int) := by
  refine ⟨fun x hx y hy => ?_, fun x hx => ?_⟩
  · obtain ⟨a, _, rfl⟩ := List.mem_map.mp hx
    obtain ⟨b, _, rfl⟩ := List.mem_map.mp hy
    simp [PySem.W.alike]
  · obtain ⟨a, _, rfl⟩ := List.mem_map.mp hx
    exact fun z => nomatch z
def rMinA (K : PySem.W.Frag) (f : Int → Int → Int) : List V → Hp → VK → Prop := fun vs H Q => ∃ (a : Addr) (n : Int) (ns : List Int), vs = [V.ref a] ∧ rSeqI K H a (n :: ns) ∧ Q (.int (ns.foldl f n)) H
theorem cr_maxA (hc : X.calm = true) (hr : Room k X.A) : CallR X (.builtin "max") (rMinA X.K max) := by
  intro pins s σ H vs us Q I r h
  obtain ⟨a, n, ns, rfl, hs, q⟩ := h
  rw [Vals.ref1 r]
  have hd : X.A.units + 1 + PyData.depthAll ((n :: ns).map .int) < cLine := by
    rw [PySem.W.depth_ints]
    have := u65 (X := X) hr; omega
  have fin : ∀ (v : Value) (h' : Heap) (tk : Nat) (bs : List Addr), Reads h' v (PySem.W.maxD (.int n) (ns.map .int)) bs → (∀ b o, s.heap.get? b = some o → h'.get? b = some o) → EP X pins σ Q v { s with heap := h', toks := tk } := by
    intro v h' tk bs hr hk
    rw [PySem.W.maxD_ints] at hr
    cases hr
    exact ⟨.int _, H, I.kept hk, ⟨_, rfl⟩, q⟩
  rcases hs with hs | hs
  · obtain ⟨its, rv, hl, _⟩ := I.list hs
    exact PySem.W.max_list_data (x := .int n) (xs := ns.map .int) (as := []) (I.ok.hd hc) hl.isList (reads_ints rv.ints) (alike_int1 (n :: ns)) hd fun i v h' tk bs _ r k => fin v h' tk bs r k
  · obtain ⟨its, rv, hl, _⟩ := I.tuple hs
    exact PySem.W.max_tuple_data (x := .int n) (xs := ns.map .int) (as := []) (I.ok.hd hc) hl (reads_ints rv.ints) (alike_int1 (n :: ns)) hd fun i v h' tk bs _ r k => fin v h' tk bs r k
def fFold (f : Int → Int → Int) : List D → Option Pl
  | [d] => match seqInts d with
    | some (n :: ns) => some (.val (.int (ns.foldl f n)))
    | _ => none
  | _ => none
abbrev fMax := fFold max
theorem fold_ok (K : PySem.W.Frag) (f : Int → Int → Int) : CallOk K (rMinA K f) (fFold f) := by
  intro G H xs ds p Q s hx e q
  unfold fFold at e
  split at e
  · split at e
    · rename_i hn
      cases e
      obtain ⟨v, rfl, hv⟩ := hx.one
      obtain ⟨a, rfl, h1⟩ := hv.ints s hn
      exact ⟨a, _, _, rfl, h1, q _ _ (.fz (.int _))⟩
    · cases e
  · cases e

/-! ### all -/
def blsOf : List D → Option (List Bool)
  | [] => some []
  | .bool b :: r => match blsOf r with
    | some bs => some (b :: bs)
    | none => none
  | _ => none
theorem blsOf_eq : ∀ {ds : List D} {bs : List Bool}, blsOf ds = some bs → ds = bs.map PyData.bool
  | [], _, h => by cases h; rfl
  | d :: ds, bs, h => by
    cases d <;> simp only [blsOf] at h <;> try (cases h; done)
    cases q : blsOf ds with
    | none => rw [q] at h; cases h
    | some ms =>
      rw [q] at h; cases h
      rw [blsOf_eq q]; rfl
theorem blsOf_map : ∀ bs : List Bool, blsOf (bs.map PyData.bool) = some bs
  | [] => rfl
  | n :: ns => by simp only [List.map_cons, blsOf, blsOf_map ns]
def fAll : List D → Option Pl
  | [.list a] => match blsOf a with
    | some bs => some (.val (.bool (bs.all id)))
    | none => none
  | _ => none
theorem all_ok (K : PySem.W.Frag) : CallOk K (rAll K) fAll := by
  intro G H xs ds p Q s hx e q
  unfold fAll at e
  split at e
  · split at e
    · rename_i bs hn
      cases e
      obtain ⟨v, rfl, hv⟩ := hx.one
      obtain ⟨a, xs, rfl, h1, h2⟩ := hv.lst s
      rw [blsOf_eq hn] at h2
      rw [h2.bls] at h1
      exact ⟨a, _, rfl, .inl h1, q _ _ (.fz (.bl _))⟩
    · cases e
  · cases e
end
end TN
namespace TN
open PySem PySem.Spec PyProof.Rows L2

/-! ### sorted(list) -/
def tup1 : D → Bool
  | .tuple (_ :: _) => true
  | _ => false
def notTup : D → Bool
  | .tuple _ => false
  | .none => false
  | _ => true
def sortOk (ds : List D) : Bool := ds.all (fun d => ds.all fun e => PySem.W.alike d e) && (ds.all tup1 || ds.all notTup) && ds.all (fun d => d.canLay0 && decide (d.depth ≤ 60)) && decide (ds.length ≤ 16777216)
def sortI (ns : List Int) : List Int := ns.mergeSort fun a b => decide (a ≤ b)
def sortDs (ds : List D) : Option (List D) := match intsOf ds with
  | some ns => if ns.length ≤ 16777216 then some ((sortI ns).map .int) else none
  | none => if sortOk ds = true then some (ds.mergeSort dLe) else none
theorem sortI_eq (ns : List Int) : (ns.map PyData.int).mergeSort dLe = (sortI ns).map .int := by
  refine (PySem.W.sort_maps PyData.int fun a _ b _ => ?_).symm
  have := congrFun (congrFun (PySem.W.dataLe_int (β := Int) id) a) b
  exact this.symm
theorem sortOk_ints {ns : List Int} (h : ns.length ≤ 16777216) : sortOk (ns.map .int) = true := by
  simp only [sortOk, Bool.and_eq_true, List.all_map, List.length_map, decide_eq_true_eq, Bool.or_eq_true]
  refine ⟨⟨⟨?_, .inr ?_⟩, ?_⟩, h⟩
  · simp [PySem.W.alike]
  · simp [notTup]
  · simp [PyData.canLay0, PyData.depth]
theorem sortDs_ok {ds es : List D} (h : sortDs ds = some es) : sortOk ds = true ∧ es = ds.mergeSort dLe := by
  unfold sortDs at h
  split at h
  · rename_i ns q
    split at h
    · rename_i hl
      cases h
      rw [intsOf_eq q, sortI_eq]
      exact ⟨sortOk_ints hl, rfl⟩
    · cases h
  · split at h
    · rename_i q
      cases h
      exact ⟨q, rfl⟩
    · cases h
inductive FzZ (K : PySem.W.Frag) (G : Hp) (b : V × D) : Prop
  | mk : Fz K G b.1 b.2 → FzZ K G b
theorem FzA.unzip {K : PySem.W.Frag} {G : Hp} : ∀ {bs : List (V × D)}, (∀ b ∈ bs, Fz K G b.1 b.2) → FzA K G (bs.map Prod.fst) (bs.map Prod.snd)
  | [], _ => .nil
  | b :: bs, h => .cons (h b List.mem_cons_self) (FzA.unzip fun c hc => h c (List.mem_cons_of_mem _ hc))
/-! sorted(a tuple) -/
section
variable {prog : Program} {w : World} {A : Around} {E : Value → Shared → Prop} {s : Shared}
theorem collect_tup {t : Addr} {us : List Value} {Q : List Value → Shared → Prop} (ht : IsTup s.heap t us.toArray) (hz : us.length ≤ sizeLine)
    (q : Q us { s with heap := (s.heap.push (seqObj "list" #[] 0)).update s.heap.objs.size (Obj.mapSeq (· ++ us.toArray)) }) :
    wpAny (model prog w) A (collect (.ref t)) Q E s := by
  obtain ⟨ob, hob, hcl, m, hdt⟩ := id ht
  unfold collect
  refine wpAny_bind (wpAny_runValue (codeAny_builtin entry_proto_collect' ?_))
  show wpAny _ _ (do again (.builtin "list.__iadd__" ⟨[← newList [], .ref t], []⟩)) _ _ s
  refine wpAny_bind (wpAny_newList (wpAny_pure ⟨Code.quiet_builtin _ (by decide +kernel), codeAny_builtin entry_list_iadd' ?_⟩))
  show wpAny _ _ (Builtin.List.listExtendWith (.ref s.heap.objs.size) (.ref t) (.ref s.heap.objs.size)) _ _ { s with heap := s.heap.push (seqObj "list" #[] 0) }
  unfold Builtin.List.listExtendWith
  have hob' : (s.heap.push (seqObj "list" #[] 0)).get? t = some ob := Heap.get?_push_of_some _ hob
  refine wpAny_bind (wpAny_typeOf (T := "tuple") ⟨ob, hob', hcl⟩ ?_)
  have hty : (Value.type "tuple" == Value.type "tuple") = true := by rfl
  rw [if_pos (by rw [hty]; simp)]
  refine wpAny_bind (listItems_at hob' hdt ?_)
  refine wpAny_bind (listItems_at (xs := #[]) (n := 0) (Heap.get?_push_size _ rfl) rfl ?_)
  rw [if_neg (by simp)]
  refine wpAny_bind (listUpdate_at (xs := #[]) (n := 0) (Heap.get?_push_size _ rfl) rfl ?_ (Nat.zero_le _) (by show (#[] ++ us.toArray).size ≤ sizeLine + 1; simp only [Array.size_append, List.size_toArray, List.length_nil]; omega))
  refine wpAny_pure ?_
  show wpAny (model prog w) A (do
      let ob ← load s.heap.objs.size
      match ob.data with
      | .seq zs _ => pure zs.toList
      | _ => unsupported "internal:collect") Q E { s with heap := (s.heap.push (seqObj "list" #[] 0)).update s.heap.objs.size (Obj.mapSeq (· ++ us.toArray)) }
  refine wpAny_bind (wpAny_load (get?_update_seq (Heap.get?_push_size _ rfl) _) ?_)
  show wpAny _ _ (pure ((#[] : Array Value) ++ us.toArray).toList) Q E _
  rw [show ((#[] : Array Value) ++ us.toArray).toList = us by simp]
  exact wpAny_pure q
theorem sorted_tupS {t : Addr} {us : List Value} {Q : Value → Shared → Prop} (ht : IsTup s.heap t us.toArray) (hz : us.length ≤ sizeLine)
    (body : ∀ E' : Value → Shared → Prop, wpAny (model prog w) A.in1.in1 (Builtin.«list.sort» ⟨[.ref (s.heap.objs.size + 1)], []⟩) (fun f s' => f = .done (.ret .none) ∧ Q (.ref (s.heap.objs.size + 1)) s') E' { s with heap := PySem.W.copyHeap s.heap us }) :
    wpAny (model prog w) A (call (.builtin "sorted") [.ref t]) Q E s := by
  refine call_function_entry_kw kind_sorted plain_sorted entry_sorted (args_sorted1 _) ?_
  unfold Builtin.«sorted»
  refine wpAny_bind (m := checkCount "sorted" 1 1 _) (wpAny_pure ?_)
  refine wpAny_bind (collect_tup ht hz ?_)
  refine wpAny_bind (wpAny_newList ?_ hz)
  have hn : ((s.heap.push (seqObj "list" #[] 0)).update s.heap.objs.size (Obj.mapSeq (· ++ us.toArray))).objs.size = s.heap.objs.size + 1 := by
    rw [Heap.size_update, size_push']
  show wpAny _ _ _ _ _ { s with heap := PySem.W.copyHeap s.heap us }
  rw [hn]
  refine wpAny_bind (wpAny_holding (wpAny_call_entry_kw slot_list_sort ⟨_, PySem.W.copyHeap_at s.heap us, rfl⟩ entry_list_sort ?bd (args_list_sort _)))
  case bd =>
    show wpAny (model prog w) A.in1.in1 (Builtin.«list.sort» ⟨[.ref (s.heap.objs.size + 1)], []⟩) _ _ _
    refine wpAny_mono (body _) (fun f s' hf => ?_) fun _ _ e => e
    obtain ⟨rfl, hq⟩ := hf
    exact ⟨_, rfl, wpAny_pure ⟨_, rfl, hq⟩⟩
theorem sorted_tupD {β : Type} {R : Value → β → Prop} {enc : β → PyData} {bs : List β} {t : Addr} {us : List Value} {Q : Value → Shared → Prop} (ht : IsTup s.heap t us.toArray) (e : PySem.W.EachIs R us bs) (er : PySem.W.EachIs (fun v b => ∃ as, Reads s.heap v (enc b) as) us bs) (hal : PySem.W.AllAlike (bs.map enc)) (hk : PySem.W.Sortable (bs.map enc)) (hL : bs.length ≤ sizeLine)
    (hu : ∀ b, b ∈ bs → A.units + 2 + (enc b).depth < cLine) (h : ∀ out, out.length = bs.length → PySem.W.EachIs R out (bs.mergeSort (PySem.W.dataLe false enc)) → Q (.ref (s.heap.objs.size + 1)) { s with heap := sortedAll s.heap us (List.toArray out) }) :
    wpAny (model prog w) A (call (.builtin "sorted") [.ref t]) Q E s := by
  have er' : PySem.W.EachIs (fun v b => ∃ as, Reads (PySem.W.sortingHeap (PySem.W.copyHeap s.heap us) (s.heap.objs.size + 1) us) v (enc b) as) us bs := er.mono fun _ _ ⟨as, r⟩ => ⟨as, PyProof.Rows.Reads.keeps (fun _ _ => PySem.W.sorting_copy_old) r⟩
  have hS := PySem.W.SortsAt.data (prog := prog) (w := w) (A := A.in1.in1) (s := { s with heap := PySem.W.sortingHeap (PySem.W.copyHeap s.heap us) (s.heap.objs.size + 1) us }) (PySem.W.each_map (R := fun v d => ∃ as, Reads (PySem.W.sortingHeap (PySem.W.copyHeap s.heap us) (s.heap.objs.size + 1) us) v d as) enc er') hal hk (PySem.W.bound_map hu)
  refine sorted_tupS ht (by rw [e.length]; exact hL) fun E' => PySem.W.list_sort_vals (s := { s with heap := PySem.W.copyHeap s.heap us }) (PySem.W.copyHeap_at s.heap us) hS (by rw [e.length]; exact hL) ⟨rfl, ?_⟩
  exact h _ (by rw [PySem.W.sortVals_length false rfl]; exact e.length) (PySem.W.sortVals_data false e er' hal)
end
section
variable {X : Cx} {k : Nat} {pins : List (Addr × Obj)} {σ : L2.St} {H : Hp} {s : Shared}
theorem eachR : ∀ {vs : List V} {us : List Value} {ds : List D}, Vals vs us → vs.length = ds.length → PySem.W.EachIs (fun (u : Value) (b : V × D) => RelV b.1 u) us (vs.zip ds)
  | _, _, [], .nil, _ => .nil
  | _, _, d :: ds, .cons r t, h => .cons r (eachR t (by simpa using h))
theorem eachReads (I : Inv X pins σ H s) {vs : List V} {us : List Value} {ds : List D} (r : Vals vs us) (h : DpAll X.K H vs ds) : PySem.W.EachIs (fun (u : Value) (b : V × D) => ∃ as, Reads s.heap u b.2 as) us (vs.zip ds) := by
  induction r generalizing ds with
  | nil => cases h; exact .nil
  | cons rv t ih =>
    cases h with
    | cons h1 h2 => exact .cons (Dp.reads I _ _ _ h1 rv) (ih h2)
theorem valsR : ∀ {us : List Value} {bs : List (V × D)}, PySem.W.EachIs (fun (u : Value) (b : V × D) => RelV b.1 u) us bs → Vals (bs.map Prod.fst) us
  | _, _, .nil => .nil
  | _, _, .cons r t => .cons r (valsR t)
/-- sorted(xs) of alike things -/
def rSortD (K : PySem.W.Frag) : List V → Hp → VK → Prop := fun vs H Q => ∃ (a : Addr) (xs : List V) (ds : List D), vs = [V.ref a] ∧ (SqL K H a xs ∨ SqT K H a xs) ∧ DpAll K H xs ds ∧ sortOk ds = true ∧
  ∀ (bs : List (V × D)) (p : Addr), bs.Perm (xs.zip ds) → bs.map Prod.snd = ds.mergeSort dLe → H p = none → Q (.ref p) (upd H p (.lst (bs.map Prod.fst)))
theorem dpLen {K : PySem.W.Frag} {H : Hp} : ∀ {ds : List D} {xs : List V}, DpAll K H xs ds → xs.length = ds.length
  | [], _, h => by cases h; rfl
  | d :: ds, _, h => by
    cases h with
    | cons _ h2 => simp [dpLen h2]
theorem cr_sortD (hr : Room k X.A) : CallR X (.builtin "sorted") (rSortD X.K) := by
  intro pins s σ H vs us Q I r h
  obtain ⟨a, xs, ds, rfl, hs, hd, ok, q⟩ := h
  have hsq : ∃ its : List Value, Vals xs its ∧ (s.heap.IsList a its.toArray ∨ IsTup s.heap a its.toArray) ∧ xs.length ≤ sizeLine := by
    rcases hs with hs | hs
    · obtain ⟨its, rv, hl, hz⟩ := I.list hs
      exact ⟨its, rv, .inl hl.isList, hz⟩
    · obtain ⟨its, rv, hl, hz⟩ := I.tuple hs
      exact ⟨its, rv, .inr hl, hz⟩
  obtain ⟨its, rv, hl, hz⟩ := hsq
  rw [Vals.ref1 r]
  simp only [sortOk, Bool.and_eq_true, Bool.or_eq_true, decide_eq_true_eq] at ok
  obtain ⟨⟨⟨o1, o2⟩, o3⟩, o4⟩ := ok
  have hlen : xs.length = ds.length := dpLen hd
  have e1 := eachR rv hlen
  have e2 := eachReads I rv hd
  have em : (xs.zip ds).map Prod.snd = ds := by rw [List.map_snd_zip]; omega
  have hal : PySem.W.AllAlike ((xs.zip ds).map Prod.snd) := by
    rw [em]
    exact fun d h1 e h2 => List.all_eq_true.mp (List.all_eq_true.mp o1 d h1) e h2
  have hk : PySem.W.Sortable ((xs.zip ds).map Prod.snd) := by
    rw [em]
    rcases o2 with o2 | o2
    · refine .inl fun d hd => ?_
      have := List.all_eq_true.mp o2 d hd
      unfold tup1 at this
      split at this
      · exact ⟨_, _, rfl⟩
      · cases this
    · refine .inr fun d hd => ?_
      have := List.all_eq_true.mp o2 d hd
      unfold notTup at this
      split at this
      · cases this
      · cases this
      · rename_i h1 h2
        exact ⟨fun z => h2 z, fun ys z => h1 ys z⟩
  have g1 : (xs.zip ds).length ≤ sizeLine := by
    rw [List.length_zip, hlen, Nat.min_self, sizeLine_eq]; exact o4
  have g2 : ∀ b ∈ xs.zip ds, X.A.units + 2 + b.2.depth < cLine := by
    intro b hb
    have hb2 : b.2 ∈ ds := by rw [← em]; exact List.mem_map_of_mem hb
    have := List.all_eq_true.mp o3 _ hb2
    simp only [Bool.and_eq_true, decide_eq_true_eq] at this
    have := u65 (X := X) hr
    omega
  have g3 : ∀ out : List Value, out.length = (xs.zip ds).length → PySem.W.EachIs (fun (u : Value) (b : V × D) => RelV b.1 u) out ((xs.zip ds).mergeSort (PySem.W.dataLe false Prod.snd)) → EP X pins σ Q (.ref (s.heap.objs.size + 1)) { s with heap := sortedAll s.heap its (List.toArray out) } := by
    intro out h1 h2
    have hp : ((xs.zip ds).mergeSort (PySem.W.dataLe false Prod.snd)).Perm (xs.zip ds) := List.mergeSort_perm _ _
    have hm : ((xs.zip ds).mergeSort (PySem.W.dataLe false Prod.snd)).map Prod.snd = ds.mergeSort dLe := by
      have z := PySem.W.sort_maps (r := PySem.W.dataLe false Prod.snd) (s := dLe) (Prod.snd : V × D → D) (l := xs.zip ds) (fun _ _ _ _ => rfl)
      rw [em] at z; exact z
    have hv := valsR h2
    have hL : (((xs.zip ds).mergeSort (PySem.W.dataLe false Prod.snd)).map Prod.fst).length ≤ sizeLine := by
      rw [List.length_map, hp.length_eq, List.length_zip, hlen, Nat.min_self, sizeLine_eq]; exact o4
    obtain ⟨ep, he'⟩ := PyProof.Rows.sortedAll_at s.heap its (List.toArray out)
    exact ⟨.ref _, upd H (s.heap.objs.size + 1) (.lst _), I.laid (t' := s.toks) (fun _ _ => PyProof.Rows.sortedAll_old) (Nat.le_succ _) ⟨hL, out, ep, hv, he'⟩, rfl, q _ _ hp hm (I.hok.fresh (Nat.le_succ _))⟩
  rcases hl with hl | hl
  · exact PySem.W.sorted_data (bs := xs.zip ds) (enc := Prod.snd) hl e1 e2 hal hk g1 g2 g3
  · exact sorted_tupD (bs := xs.zip ds) (enc := Prod.snd) hl e1 e2 hal hk g1 g2 g3
def fSorted : List D → Option Pl
  | [.list a] => (sortDs a).map fun es => .tmp (.list es)
  | [.tuple a] => (sortDs a).map fun es => .tmp (.list es)
  | _ => none
theorem sortOk_lay {a : List D} (h : sortOk a = true) : PyData.canLayAll0 a = true := by
  simp only [sortOk, Bool.and_eq_true] at h
  have : ∀ ds : List D, ds.all (fun d => d.canLay0 && decide (d.depth ≤ 60)) = true → PyData.canLayAll0 ds = true := by
    intro ds
    induction ds with
    | nil => intro _; simp [PyData.canLayAll0]
    | cons d ds ih =>
      intro h
      simp only [List.all_cons, Bool.and_eq_true] at h
      simp only [PyData.canLayAll0, Bool.and_eq_true]
      exact ⟨h.1.1, ih (by simpa using h.2)⟩
  exact this a h.1.2
theorem sorted_ok (K : PySem.W.Frag) : CallOk K (rSortD K) fSorted := by
  intro G H xs ds p Q s hx e q
  have main : ∀ {a es : List D} {b : Addr} {ys : List V}, sortDs a = some es → xs = [V.ref b] → (SqL K H b ys ∨ SqT K H b ys) → FzA K G ys a → p = .tmp (.list es) → rSortD K xs H Q := by
    intro a es b ys h hxs hs h2 hp
    subst hxs hp
    obtain ⟨o1, rfl⟩ := sortDs_ok h
    refine ⟨b, ys, a, rfl, hs, h2.dp s (sortOk_lay o1), o1, fun bs p hp hm hn => ?_⟩
    obtain ⟨z1, z2, z3⟩ := h2.zip
    have := FzA.unzip (K := K) (G := G) (bs := bs) fun c hc => z1 c (hp.mem_iff.mp hc)
    rw [hm] at this
    exact q _ _ (.lst hn this)
  unfold fSorted at e
  split at e
  · rename_i a
    cases h : sortDs a with
    | none => rw [h] at e; cases e
    | some es =>
      rw [h] at e
      obtain ⟨v, rfl, hv⟩ := hx.one
      obtain ⟨b, ys, rfl, h1, h2⟩ := hv.lst s
      exact main h rfl (.inl (.inl h1)) h2 (Option.some.inj e).symm
  · rename_i a
    cases h : sortDs a with
    | none => rw [h] at e; cases e
    | some es =>
      rw [h] at e
      obtain ⟨v, rfl, hv⟩ := hx.one
      obtain ⟨b, ys, rfl, _, h1, h2⟩ := hv.tup s
      exact main h rfl (.inr h1) h2 (Option.some.inj e).symm
  · cases e

/-! ### list(range(..)), tuple(range(..)) -/
def SR (X : Cx) (e : Expr) (c : Rho → R (Int × Int)) : Prop := ∀ W : WX, Takes X W → PRg X e fun σ H Q => ∃ (L : L2.St) (ρ : Rho) (G B : Hp), Rel X.K L B σ ρ G H ∧ Got X L W σ G B (fun ab _ _ _ (b : Int × Int) => b = ab) (c ρ) (fun ab H' => Q ab.1 ab.2 H')
theorem PRgimp {X : Cx} {e : Expr} {t t' : L2.St → Hp → (Int → Int → Hp → Prop) → Prop} (h : PRg X e t) (w : ∀ σ H Q, t' σ H Q → t σ H Q) : PRg X e t' := fun pins s σ H Q I q => h pins s σ H Q I (w _ _ _ q)
def cRg1 (a : CE) : Rho → R (Int × Int) := fun ρ => (a ρ).bind fun p ρ1 => match look p ρ1 with
  | some (.int i) => .ok (0, i) ρ1
  | _ => .bad
def cRg2 (a b : CE) : Rho → R (Int × Int) := fun ρ => (a ρ).bind fun p ρ1 => (b ρ1).bind fun q ρ2 => match look p ρ2, look q ρ2 with
  | some (.int i), some (.int j) => .ok (i, j) ρ2
  | _, _ => .bad
variable {a b e : Expr} {ca cb : CE} {p pos : Pos} {cr : Rho → R (Int × Int)}
theorem sr_1 (hg : Gl X "range") (hm : X.mg "range" = none) (ha : SX X a ca) (na : starEach [a] X.env = (false, eval a X.env) :: starEach [] X.env := by rfl) : SR X (.Call (.Name "range" p) [a] [] pos) (cRg1 ca) := fun W tk =>
  PRgimp (prg_1 hg hm (ha W tk) na) (by
  rintro σ H Q ⟨L, ρ, G, B, rel, h⟩
  refine ⟨L, ρ, G, B, rel, (Got.bind h).mono ?_⟩
  rintro v H1 ⟨q, ρ1, G1, _, rel1, _, fx1, h1⟩
  split at h1
  · rename_i i e1
    exact ⟨i, (fx1.look rel1 e1).int, h1 (0, i) H1 G1 rel1 .refl rfl⟩
  · exact h1.elim)
theorem sr_2 (hg : Gl X "range") (hm : X.mg "range" = none) (ha : SX X a ca) (hb : SX X b cb) (na : starEach [a, b] X.env = (false, eval a X.env) :: starEach [b] X.env := by rfl)
    (nb : starEach [b] X.env = (false, eval b X.env) :: starEach [] X.env := by rfl) (hp : (backTo pos (starEach [b] X.env)).any (·.1) = false := by rfl) : SR X (.Call (.Name "range" p) [a, b] [] pos) (cRg2 ca cb) := fun W tk =>
  PRgimp (prg_2 hg hm (ha W tk) (hb W tk) na nb hp) (by
  rintro σ H Q ⟨L, ρ, G, B, rel, h⟩
  refine ⟨L, ρ, G, B, rel, (Got.bind h).mono ?_⟩
  rintro x H1 ⟨p, ρ1, G1, _, rel1, _, fx1, h1⟩
  refine ⟨L, ρ1, G1, B, rel1, (Got.bind h1).mono ?_⟩
  rintro y H2 ⟨q, ρ2, G2, _, rel2, ext2, fx2, h2⟩
  split at h2
  · rename_i i j e1 e2
    exact ⟨i, j, ((fx1.mono ext2.same).look rel2 e1).int, (fx2.look rel2 e2).int, h2 (i, j) H2 G2 rel2 .refl rfl⟩
  · exact h2.elim)
def rgI (a b : Int) : List Int := (List.range (b - a).toNat).map fun i => a + (i : Nat)
theorem rgV_eq (a b : Int) : rgV a b = (rgI a b).map V.int := by unfold rgV rgI; rw [List.map_map]; rfl
def rgOk (a b : Int) : Bool := decide (-1000000 ≤ a) && decide (a ≤ 1000000) && decide (-1000000 ≤ b) && decide (b ≤ 1000000)
theorem rgOk_ok {a b : Int} (h : rgOk a b = true) : RgOk a b := by
  simp only [rgOk, Bool.and_eq_true, decide_eq_true_eq] at h
  exact ⟨by omega, by omega, by omega, by omega, by omega⟩
def cLstRg (c : Rho → R (Int × Int)) : CE := fun ρ => match c ρ with
  | .ok ab ρ1 => if rgOk ab.1 ab.2 = true then .ok (.tmp (.list ((rgI ab.1 ab.2).map .int))) ρ1 else .bad
  | .exc x ρ1 => .exc x ρ1
  | .bad => .bad
def cTupRg (c : Rho → R (Int × Int)) : CE := fun ρ => match c ρ with
  | .ok ab ρ1 => if rgOk ab.1 ab.2 = true then .ok (.val (.tuple ((rgI ab.1 ab.2).map .int))) ρ1 else .bad
  | .exc x ρ1 => .exc x ρ1
  | .bad => .bad
theorem sx_lstRg (hc : X.calm = true) (hg : Gl X "list") (hm : X.mg "list" = none) (he : SR X e cr) (na : starEach [e] X.env = (false, eval e X.env) :: starEach [] X.env := by rfl) : SX X (.Call (.Name "list" p) [e] [] pos) (cLstRg cr) := fun W tk =>
  PEimp (pe_listRg hc hg hm (he W tk) na) (by
  rintro σ H Q ⟨L, ρ, G, B, rel, h⟩
  refine ⟨L, ρ, G, B, rel, ?_⟩
  unfold cLstRg at h
  cases q : cr ρ with
  | bad => rw [q] at h; exact h.elim
  | exc x ρ1 => rw [q] at h; exact h
  | ok ab ρ1 =>
    simp only [q] at h
    rintro ab' H1 G1 rel1 ext1 rfl
    split at h
    · rename_i ok
      refine ⟨rgOk_ok ok, fun q' hq => ?_⟩
      rw [rgV_eq]
      exact Got.done rel1 (Got.shift ext1 h) (.lst hq (.of_ints _))
    · exact h.elim)
/-! ### x in range(..) -/
/-! ### len(set(xs)) of ints -/
def ddI (ns : List Int) : List Int := ns.foldl step_dedup []
theorem dd_nodup : ∀ (ns acc : List Int), acc.Nodup → (ns.foldl step_dedup acc).Nodup ∧ ∀ x, x ∈ ns.foldl step_dedup acc ↔ x ∈ acc ∨ x ∈ ns
  | [], acc, h => ⟨h, fun x => by simp⟩
  | n :: ns, acc, h => by
    have h2 : (step_dedup acc n).Nodup ∧ ∀ x, x ∈ step_dedup acc n ↔ x ∈ acc ∨ x = n := by
      unfold step_dedup
      by_cases hb : acc.any (· == n) = true
      · rw [if_pos hb]
        refine ⟨h, fun x => ⟨.inl, fun z => z.elim id fun e => ?_⟩⟩
        subst e
        obtain ⟨y, hy, ey⟩ := List.any_eq_true.mp hb
        rw [← eq_of_beq ey]; exact hy
      · rw [if_neg hb]
        refine ⟨?_, fun x => by simp⟩
        rw [List.nodup_append]
        refine ⟨h, by simp, fun a ha b hb' => ?_⟩
        rw [List.mem_singleton] at hb'
        subst hb'
        intro e
        subst e
        exact hb (List.any_eq_true.mpr ⟨_, ha, by simp⟩)
    obtain ⟨i1, i2⟩ := dd_nodup ns (step_dedup acc n) h2.1
    refine ⟨i1, fun x => ?_⟩
    rw [List.foldl_cons, i2, h2.2]
    simp only [List.mem_cons]
    constructor
    · rintro ((h | h) | h)
      · exact .inl h
      · exact .inr (.inl h)
      · exact .inr (.inr h)
    · rintro (h | h | h)
      · exact .inl (.inl h)
      · exact .inl (.inr h)
      · exact .inr h
theorem ddI_nodup (ns : List Int) : (ddI ns).Nodup := (dd_nodup ns [] .nil).1
theorem ddI_mem (ns : List Int) (x : Int) : x ∈ ddI ns ↔ x ∈ ns := by
  have := (dd_nodup ns [] .nil).2 x
  simpa [ddI] using this
theorem len_of_nodup {xs ys : List Int} (h1 : xs.Nodup) (h2 : ys.Nodup) (h : ∀ x, x ∈ xs ↔ x ∈ ys) : xs.length = ys.length :=
  (List.perm_ext_iff_of_nodup h1 h2 |>.mpr h).length_eq
theorem firstMet_dd (ns : List Int) : PyProof.Rows.firstMet (fun i => ns.getD i 0) ns.length = ddI ns := by
  unfold PyProof.Rows.firstMet ddI
  congr 1
  apply List.ext_getElem?
  intro i
  rw [List.getElem?_map]
  by_cases hi : i < ns.length
  · simp [hi]
  · simp [hi]

/-- len(set(xs)) -/
def lenSetR (K : PySem.W.Frag) (ta : TE) : TE := fun σ H Q => ta σ H fun x H1 => ∃ (l : Addr) (ns : List Int), x = .ref l ∧ rSeqI K H1 l ns ∧ ns.length ≤ 4000 ∧ Q (.int ((ddI ns).length : Nat)) H1
theorem pe_lenSetA {ta : TE} {p2 q : Pos} (hg : Gl X "len") (hm : X.mg "len" = none) (hg2 : Gl X "set") (hm2 : X.mg "set" = none) (ha : PE X a ta) (hc : X.calm = true)
    (na : starEach [a] X.env = (false, eval a X.env) :: starEach [] X.env := by rfl) : PE X (.Call (.Name "len" p) [.Call (.Name "set" p2) [a] [] q] [] pos) (lenSetR X.K ta) := by
  refine ⟨fun pins s σ H Q I h => ?_⟩
  refine Call_ (ld_blt I hg hm boot_len ?_)
  refine PyProof.Rows.callWith_builtin1 (PyProof.Rows.args_cons ?_ rfl) rfl rfl
  refine Call_ (ld_blt I hg2 hm2 PyProof.Rows.boot_set ?_)
  refine PyProof.Rows.callWith_type1 (PyProof.Rows.args_cons (thn (ha.run pins s σ H _ I h) fun v s1 ⟨x, H1, I1, r1, q1⟩ => PyProof.Rows.args_nil ?_) na) na rfl
  obtain ⟨l, ns, rfl, hq, hl, q1⟩ := q1
  cases r1
  rcases hq with hq | hq
  · obtain ⟨its, r, pl, hz⟩ := I1.list hq
    have hlen : its.toArray.size = ns.length := by rw [List.size_toArray, ← r.length, List.length_map]
    refine call_set_list (I1.ok.hd hc) pl.isList (by simpa using r.ints) (by rw [hlen]; unfold scanBound; omega) fun h' tk hS hk => ?_
    refine PyProof.Rows.args_nil ?_
    rw [hlen, firstMet_dd] at hS
    obtain ⟨o, es, ep, t, ho, hex, hd, _, _, _, hf, hn⟩ := hS
    have I2 : Inv X pins σ H1 { s1 with heap := h', toks := tk } := I1.kept fun b o e => hk b o (Heap.lt_size e) e
    have hdl : (ddI ns).length ≤ ns.length := by rw [← firstMet_dd]; exact PyProof.Rows.firstMet_length_le _ _
    exact call_len_set ho hex hd hf (by rw [hn] <;> omega) ⟨.int (ddI ns).length, H1, I2.tok _, ⟨_, by rw [hn]⟩, q1⟩
  · obtain ⟨its, r, pl, hz⟩ := I1.tuple hq
    have hlen : its.toArray.size = ns.length := by rw [List.size_toArray, ← r.length, List.length_map]
    refine call_set_tupI ns (I1.ok.hd hc) pl (by simpa using r.ints) (by unfold scanBound; omega) fun h' tk c hS hcl hk => ?_
    refine PyProof.Rows.args_nil ?_
    obtain ⟨o, es, ep, t, ho, hex, hd, hg, hnd, hmem, hbd, hf, hn, _⟩ := hS
    have I2 : Inv X pins σ H1 { s1 with heap := h', toks := tk } := I1.kept hk
    have e : c = (ddI ns).length := by
      rw [← hn, ← Array.length_toList, ← List.length_map (f := keyOf)]
      refine len_of_nodup hnd (ddI_nodup ns) fun x => ?_
      rw [ddI_mem, ← hmem x, decide_eq_true_eq]
    subst e
    exact call_len_set ho hex hd hf (by rw [hn] <;> omega) ⟨.int (ddI ns).length, H1, I2.tok _, ⟨_, by rw [hn]⟩, q1⟩
def fLenSet (d : D) : Option Pl := match seqInts d with
  | some ns => if ns.length ≤ 4000 then some (.val (.int ((ddI ns).length : Nat))) else none
  | none => none
theorem sx_lenSet {p2 q : Pos} (hc : X.calm = true) (hg : Gl X "len") (hm : X.mg "len" = none) (hg2 : Gl X "set") (hm2 : X.mg "set" = none) (ha : SX X a ca)
    (na : starEach [a] X.env = (false, eval a X.env) :: starEach [] X.env := by rfl) : SX X (.Call (.Name "len" p) [.Call (.Name "set" p2) [a] [] q] [] pos) (cUn fLenSet ca) := fun W tk =>
  PEimp (pe_lenSetA hg hm hg2 hm2 (ha W tk) hc na) (by
  rintro σ H Q ⟨L, ρ, G, B, rel, h⟩
  refine ⟨L, ρ, G, B, rel, (Got.bind h).mono ?_⟩
  rintro v H1 ⟨q, ρ1, G1, _, rel1, _, fx1, h1⟩
  cases e1 : look q ρ1 with
  | none => simp only [e1] at h1; exact h1.elim
  | some d =>
    simp only [e1] at h1
    unfold fLenSet at h1
    cases e2 : seqInts d with
    | none => simp only [e2] at h1; exact h1.elim
    | some ns =>
      simp only [e2] at h1
      by_cases hl : ns.length ≤ 4000
      · rw [if_pos hl] at h1
        obtain ⟨a, rfl, ha⟩ := (fx1.look rel1 e1).ints rel1.sub e2
        exact ⟨a, ns, rfl, ha, hl, Got.done rel1 h1 (.fz (.int _))⟩
      · rw [if_neg hl] at h1; exact h1.elim)
end
end TN
/-! ### enumerate(tuple) -/
namespace PySem
open Sem (wp)
open AutoSeq1 (wpAny_loadPart')
theorem meets_enumerate_newT (l : Addr) (items : Array Value) (n : Nat) (dct : Option Addr) (sl : Array (Option Value)) :
    Meets (Builtin.«enumerate.__new__» ⟨[.type "enumerate", .ref l], []⟩) (fun _ R s => s.heap.get? l = some { cls := .type "tuple", dict := dct, data := .seq items n, slots := sl } ∧
      R (.ok (.ret (.ref (s.heap.push { cls := .type "tuple_iterator", data := .fields #[.ref l, .int 0 0] }).objs.size)))
        { s with heap := (s.heap.push { cls := .type "tuple_iterator", data := .fields #[.ref l, .int 0 0] }).push { cls := .type "enumerate", data := .fields #[.none, .bool false, .ref s.heap.objs.size, rawInt 0, .none, .none] } }) :=
  .of_wp fun prog w A R s h => by
    obtain ⟨hp, g, d, tk, os⟩ := s; obtain ⟨hl, h⟩ := h
    have hsub := sub_enumerate
    have hL : Heap.IsTuple (Shared.heap ⟨hp, g, d, tk, os⟩) l items := ⟨_, hl, rfl, n, rfl⟩
    wp_walk using wpAny_loadPart' hl
    refine wpAny_stack_any fun st => wpAny_pure ?_
    split
    · rename_i c _ _ _ _ _
      cases (c == Value.type "enumerate")
      · wp_walk using wpAny_loadPart' hl, wpAny_pyIter_tuple hL
        exact ⟨_, rfl, h⟩
      · wp_walk using wpAny_loadPart' hl, wpAny_pyIter_tuple hL
        exact ⟨_, rfl, h⟩
    · wp_walk using wpAny_loadPart' hl, wpAny_pyIter_tuple hL
      exact ⟨_, rfl, h⟩
section
variable {prog : Program} {w : World} {A : Around} {E : Value → Shared → Prop} {s : Shared}
theorem call_enumerate_tup {l : Addr} {items : Array Value} {Q : Value → Shared → Prop} (hL : s.heap.IsTuple l items)
    (h : ∀ h', IsEnum h' (s.heap.objs.size + 1) s.heap.objs.size 0 .none → h'.IsTupleIter s.heap.objs.size l 0 → h'.objs.size = s.heap.objs.size + 2 →
      (∀ b o, s.heap.get? b = some o → h'.get? b = some o) → Q (.ref (s.heap.objs.size + 1)) { s with heap := h' }) :
    wpAny (model prog w) A (call (.type "enumerate") [.ref l]) Q E s := by
  obtain ⟨⟨c, dct, dt, sl⟩, hl, hc, n, hd⟩ := hL
  replace hc : c = .type "tuple" := hc
  replace hd : dt = .seq items n := hd
  subst hc hd
  refine callType_new F.called_enumerate (by decide) (F.typeCall_enumerate_1 _) (F.newCall_enumerate_1 _) (fun obj => F.args_object_init_2 obj _) F.entry_enumerate_new
    (meets_enumerate_newT l items n dct sl) ⟨hl, ?_⟩
  have hz : (s.heap.push { cls := .type "tuple_iterator", data := .fields #[.ref l, .int 0 0] }).objs.size = s.heap.objs.size + 1 := Heap.size_push ..
  show _ ∧ _
  rw [hz]
  have he : IsEnum ((s.heap.push { cls := .type "tuple_iterator", data := .fields #[.ref l, .int 0 0] }).push
      { cls := .type "enumerate", data := .fields #[.none, .bool false, .ref s.heap.objs.size, rawInt 0, .none, .none] }) (s.heap.objs.size + 1) s.heap.objs.size 0 .none := by
    have := Heap.get?_push_size (s.heap.push { cls := .type "tuple_iterator", data := .fields #[.ref l, .int 0 0] })
      (o := { cls := .type "enumerate", data := .fields #[.none, .bool false, .ref s.heap.objs.size, rawInt 0, .none, .none] }) rfl
    rw [hz] at this; exact this
  refine ⟨⟨_, he, rfl⟩, h _ he ⟨_, Heap.get?_push_of_some _ (Heap.get?_push_size _ rfl), rfl, rfl⟩ (by rw [Heap.size_push, hz]) fun b o x => Heap.get?_push_of_some _ (Heap.get?_push_of_some _ x)⟩
theorem wpAny_pyNext_enumT_end {e it l : Addr} {i : Nat} {items : Array Value} {old : Value} {Q : Option Value → Shared → Prop} (hh : A.handled = none)
    (he : IsEnum s.heap e it i old) (hit : s.heap.IsTupleIter it l i) (hl : s.heap.IsTuple l items) (hx : items[i]? = none)
    (hQ : ∀ h', Heap.ExtBut it s.heap h' → Q none { s with heap := h' }) : wpAny (model prog w) A (pyNext (.ref e)) Q E s := by
  have hT : s.TypeIs (.ref e) "enumerate" := ⟨_, he, rfl⟩
  unfold pyNext
  refine wpAny_bind (wpAny_attempt (wpAny_callSpecial?_slot (name := Str.ofString "__next__") hT F.slot_enumerate_next
    (wpAny_call_entry F.slot_enumerate_next hT F.entry_enumerate_next ?_ (F.args_enumerate_next_1 _))))
  show wpAny _ _ (field (.ref e) 2 >>= _) _ _ _
  refine wpAny_bind (wpAny_field he rfl (x := .ref it) rfl ?_)
  refine wpAny_bind (wpAny_nextOf_tuple_end hh hit hl hx fun h' x he' hx' => ?_)
  obtain ⟨o, ho, hc⟩ := hx'
  refine wpAny_bind (wpAny_isInstance (T := "StopIteration") (b := true) ⟨o, ho, hc⟩ isSubtype_stop ?_)
  exact wpAny_pure (hQ _ he')
end
end PySem
namespace TN
open PySem PySem.Spec PyProof.Rows L2
/-- the tuple at a, each item in a new pair -/
def IteT (K : PySem.W.Frag) (a : Addr) : It :=
  ⟨fun i H => ∃ (xs : List V) (x : V), SqT K H a xs ∧ xs[i]? = some x, fun i H v H' => ∃ T x, v = .ref T ∧ H T = none ∧ H' = upd H T (.tup [.int (i : Nat), x]) ∧ ∀ xs, SqT K H a xs → xs[i]? = some x, fun i H => ∃ xs : List V, SqT K H a xs ∧ xs.length ≤ i⟩
theorem turn_enumT {P : Program} {w : World} {K : PySem.W.Frag} {elts : List Expr} {kk : Nat} {tpos : Pos} (a e it : Addr) :
    Turn P w K (.Tuple elts kk tpos) (IteT K a) [e, it] e (fun i h => (∃ old, IsEnum h e it ((i : Nat) : Int) old) ∧ h.IsTupleIter it a i ∧ e ≠ it) where
  mem := by simp
  obj := fun i h st b hb => by
    obtain ⟨⟨old, he⟩, ⟨o, ho, hc, hd⟩, _⟩ := st
    have e' : b = e ∨ b = it := by simpa using hb
    rcases e' with z | z
    · rw [z]; exact ⟨_, he, fun v q => nomatch q⟩
    · rw [z]; exact ⟨o, ho, fun v q => by rw [hd] at q; cases q⟩
  keep := fun i h h' st k => let ⟨⟨old, he⟩, hi, hne⟩ := st; ⟨⟨old, k e (by simp) _ he⟩, hi.at fun o q => k it (by simp) o q, hne⟩
  item := by
    intro X hP hw hK hc i pins s σ H E I hf st hg
    subst hP hw hK
    obtain ⟨⟨old, he⟩, hit, hne⟩ := st
    obtain ⟨xs, x, hq, hx⟩ := hg
    obtain ⟨its, rv, p, hz⟩ := I.tuple hq
    obtain ⟨u, hu, ru⟩ := rv.get hx
    have hel : e < s.heap.objs.size := Heap.lt_size he
    have hil : it < s.heap.objs.size := by obtain ⟨_, q, _⟩ := hit; exact Heap.lt_size q
    have hie : it ≠ a := fun z => by
      subst z
      obtain ⟨o, e1, c1, _⟩ := p
      obtain ⟨o', e2, c2, _⟩ := hit
      rw [e1] at e2; cases e2
      rw [c1] at c2; exact absurd c2 (by decide)
    have hea : e ≠ a := fun z => by
      subst z
      obtain ⟨o, e1, c1, _⟩ := p
      rw [he] at e1; cases e1
      exact absurd (show Value.type "enumerate" = Value.type "tuple" from c1) (by decide)
    have hlt : i < its.toArray.size := by
      obtain ⟨z, _⟩ := List.getElem?_eq_some_iff.mp hu
      simpa using z
    refine wpAny_pyNext_enum_itemD (Draws.tuple (A := X.A.in1) (I.ok.hd hc) it a (Ne.symm hie) its.toArray) he ⟨hit, p⟩ hlt hne (by simp [hne, hea]) fun x' h' tk hx' ho hit' hT hsz hk => ?_
    have ex : x' = u := by
      have h1 : its[i]? = some x' := by simpa using hx'
      rw [hu] at h1; cases h1; rfl
    subst ex
    refine ⟨_, rfl, wpAny_letOwnedTupleGo_enum (s := { s with heap := h', toks := tk + 1 }) ho fun h'' he' sb => ?_⟩
    have hT2 : h''.get? s.heap.objs.size = some { cls := .type "tuple", data := .seq #[.int i tk, x'] } := (sb.2 _ (Nat.ne_of_gt hel)).trans hT
    have new : ObjOk X.prog X.w (upd H s.heap.objs.size (.tup [.int (i : Nat), x])) h'' s.heap.objs.size (.tup [.int (i : Nat), x]) :=
      ⟨by show 2 ≤ sizeLine; decide, [.int i tk, x'], .cons ⟨_, rfl⟩ (.cons ru .nil), ⟨_, hT2, rfl, _, rfl⟩⟩
    have I1 : Inv X pins σ (upd H s.heap.objs.size (.tup [.int (i : Nat), x])) { s with heap := h'', toks := tk + 1 } :=
      I.turnedNew (ch := [e, it]) (fun b ob hb q => (sb.2 b (fun z => hb (by simp [z]))).trans (hk b ob (fun z => hb (by simp [z])) (fun z => hb (by simp [z])) q)) hf (Nat.le_refl _) new
    refine ⟨.ref s.heap.objs.size, _, I1, rfl, ⟨_, x, rfl, I.hok.fresh (Nat.le_refl _), rfl, fun ys hy => by rw [I.tuple_inj hy hq]; exact hx⟩, ⟨⟨x', ?_⟩, hit'.1.at fun o q => (sb.2 it (Ne.symm hne)).trans q, hne⟩, fun b hb => ?_⟩
    · have e1 : ((i + 1 : Nat) : Int) = (i : Int) + 1 := by omega
      rw [e1]; exact he'
    · have hb' : b < s.heap.objs.size := by
        have e' : b = e ∨ b = it := by simpa using hb
        rcases e' with z | z
        · rw [z]; exact hel
        · rw [z]; exact hil
      rw [upd_ne (Nat.ne_of_lt hb')]
      exact (hf b hb).1
  done := by
    intro X hP hw hK hc i pins s σ H E I hf st hg
    subst hP hw hK
    obtain ⟨⟨old, he⟩, hit, hne⟩ := st
    obtain ⟨xs, hq, hx⟩ := hg
    obtain ⟨its, rv, p, hz⟩ := I.tuple hq
    obtain ⟨f0, f1, f2, f3, f4, f5⟩ := hf it (by simp)
    have hl := rv.length
    have hend : its.toArray[i]? = none := by simp; omega
    exact wpAny_pyNext_enumT_end (I.ok.hd hc) he hit p hend fun h' eb => ⟨rfl, I.turned (t' := s.toks) (fun b o hb q => eb b o hb q) f0 f1 f3 f4 f5⟩
  self := fun A i s Q E st h => let ⟨⟨_, he⟩, _⟩ := st; wpAny_pyIter_enum he h
end TN
namespace TN
open PySem PySem.Spec PyProof.Rows L2

/-! ### what is walked: soundness -/
section
variable {K : PySem.W.Frag} {G : Hp} {a b : Addr} {xs ys : List V} {ds es : List D}
theorem itok_list (h : Rd G a (.lst xs)) (f : FzA K G xs ds) : ItOk K G ds (Itl K a) := by
  intro G2 H2 s1 s2 i
  have h2 : SqL K H2 a xs := .inl (Same.rd (s1.trans s2) h)
  refine ⟨fun d hd => ?_, fun hl => ⟨xs, h2, by rw [f.length]; exact hl⟩⟩
  obtain ⟨v, hv, hf⟩ := f.get hd
  refine ⟨⟨xs, v, h2, hv⟩, fun x H3 hy => ?_⟩
  obtain ⟨rfl, hq⟩ := hy
  have := hq xs h2
  rw [hv] at this; cases this
  exact .fz (hf.mono s1)
theorem itok_tup (h : SqT K G a xs) (f : FzA K G xs ds) : ItOk K G ds (Itt K a) := by
  intro G2 H2 s1 s2 i
  have h2 : SqT K H2 a xs := Same.tp (s1.trans s2) h
  refine ⟨fun d hd => ?_, fun hl => ⟨xs, h2, by rw [f.length]; exact hl⟩⟩
  obtain ⟨v, hv, hf⟩ := f.get hd
  refine ⟨⟨xs, v, h2, hv⟩, fun x H3 hy => ?_⟩
  obtain ⟨rfl, hq⟩ := hy
  have := hq xs h2
  rw [hv] at this; cases this
  exact .fz (hf.mono s1)
theorem itok_rg (lo : Int) (n : Nat) : ItOk K G ((List.range n).map fun i => .int (lo + (i : Nat))) (Itr lo n) := by
  intro G2 H2 s1 s2 i
  refine ⟨fun d hd => ?_, fun hl => (show n ≤ i by simpa using hl)⟩
  rw [List.getElem?_map] at hd
  obtain ⟨j, hj, rfl⟩ := Option.map_eq_some_iff.mp hd
  obtain ⟨h1, h2⟩ := List.getElem?_eq_some_iff.mp hj
  have : j = i := by simpa using h2.symm
  subst this
  refine ⟨(show j < n by simpa using h1), fun x H3 hy => ?_⟩
  obtain ⟨rfl, rfl⟩ := hy
  exact .fz (.int _)
theorem itok_rgC (lo c : Int) (n : Nat) : ItOk K G ((List.range n).map fun i => .int (lo + (i : Nat) * c)) (Itc lo c n) := by
  intro G2 H2 s1 s2 i
  refine ⟨fun d hd => ?_, fun hl => (show n ≤ i by simpa using hl)⟩
  rw [List.getElem?_map] at hd
  obtain ⟨j, hj, rfl⟩ := Option.map_eq_some_iff.mp hd
  obtain ⟨h1, h2⟩ := List.getElem?_eq_some_iff.mp hj
  have : j = i := by simpa using h2.symm
  subst this
  refine ⟨(show j < n by simpa using h1), fun x H3 hy => ?_⟩
  obtain ⟨rfl, rfl⟩ := hy
  exact .fz (.int _)
def charsD (x : Str) : List D := x.cps.toList.map fun c => .str ⟨#[c]⟩
theorem itok_str (x : Str) : ItOk K G (charsD x) (Its x) := by
  intro G2 H2 s1 s2 i
  unfold charsD
  refine ⟨fun d hd => ?_, fun hl => (show x.cps.size ≤ i by simpa using hl)⟩
  rw [List.getElem?_map] at hd
  obtain ⟨c, hc, rfl⟩ := Option.map_eq_some_iff.mp hd
  rw [Array.getElem?_toList] at hc
  refine ⟨(Array.getElem?_eq_some_iff.mp hc).1, fun y H3 hy => ?_⟩
  obtain ⟨rfl, c', hc', rfl⟩ := hy
  rw [hc] at hc'; cases hc'
  exact .fz (.str _)
/-- pairs (0, x), (1, y) .. -/
def enumD (ds : List D) : List D := ds.mapIdx fun i d => .tuple [.int (i : Nat), d]
theorem enumD_get {i : Nat} {d : D} (h : (enumD ds)[i]? = some d) : ∃ x, ds[i]? = some x ∧ d = .tuple [.int (i : Nat), x] := by
  unfold enumD at h
  rw [List.getElem?_mapIdx] at h
  obtain ⟨x, h1, rfl⟩ := Option.map_eq_some_iff.mp h
  exact ⟨x, h1, rfl⟩
theorem itok_enum (h : Rd G a (.lst xs)) (f : FzA K G xs ds) : ItOk K G (enumD ds) (Ite K a) := by
  intro G2 H2 s1 s2 i
  have h2 : SqL K H2 a xs := .inl (Same.rd (s1.trans s2) h)
  refine ⟨fun d hd => ?_, fun hl => ⟨xs, h2, by rw [f.length]; simpa [enumD] using hl⟩⟩
  obtain ⟨x, hx, rfl⟩ := enumD_get hd
  obtain ⟨v, hv, hf⟩ := f.get hx
  refine ⟨⟨xs, v, h2, hv⟩, fun y H3 hy => ?_⟩
  obtain ⟨T, z, rfl, hT, rfl, hq⟩ := hy
  have := hq xs h2
  rw [hv] at this; cases this
  exact .tup hT (.cons (.int _) (.cons (hf.mono s1) .nil))
theorem itok_enumT (h : SqT K G a xs) (f : FzA K G xs ds) : ItOk K G (enumD ds) (IteT K a) := by
  intro G2 H2 s1 s2 i
  have h2 : SqT K H2 a xs := Same.tp (s1.trans s2) h
  refine ⟨fun d hd => ?_, fun hl => ⟨xs, h2, by rw [f.length]; simpa [enumD] using hl⟩⟩
  obtain ⟨x, hx, rfl⟩ := enumD_get hd
  obtain ⟨v, hv, hf⟩ := f.get hx
  refine ⟨⟨xs, v, h2, hv⟩, fun y H3 hy => ?_⟩
  obtain ⟨T, z, rfl, hT, rfl, hq⟩ := hy
  have := hq xs h2
  rw [hv] at this; cases this
  exact .tup hT (.cons (.int _) (.cons (hf.mono s1) .nil))
def zipD (ds es : List D) : List D := List.zipWith (fun x y => .tuple [x, y]) ds es
theorem zipD_get {i : Nat} {d : D} (h : (zipD ds es)[i]? = some d) : ∃ x y, ds[i]? = some x ∧ es[i]? = some y ∧ d = .tuple [x, y] := by
  unfold zipD at h
  rw [List.getElem?_zipWith] at h
  split at h
  · rename_i x y h1 h2
    cases h
    exact ⟨x, y, h1, h2, rfl⟩
  · cases h
theorem zipD_end {i : Nat} (f1 : xs.length = ds.length) (f2 : ys.length = es.length) (hl : (zipD ds es).length ≤ i) : xs.length ≤ i ∨ ys.length ≤ i := by
  unfold zipD at hl
  rw [List.length_zipWith] at hl
  omega
theorem itok_zip (h : Rd G a (.lst xs)) (f : FzA K G xs ds) (h' : Rd G b (.lst ys)) (f' : FzA K G ys es) : ItOk K G (zipD ds es) (Itz K a b) := by
  intro G2 H2 s1 s2 i
  have h2 : SqL K H2 a xs := .inl (Same.rd (s1.trans s2) h)
  have h3 : SqL K H2 b ys := .inl (Same.rd (s1.trans s2) h')
  refine ⟨fun d hd => ?_, fun hl => ⟨xs, ys, h2, h3, zipD_end f.length f'.length hl⟩⟩
  obtain ⟨x, y, hx, hy, rfl⟩ := zipD_get hd
  obtain ⟨v, hv, hf⟩ := f.get hx
  obtain ⟨u, hu, hf'⟩ := f'.get hy
  refine ⟨⟨xs, ys, v, u, h2, h3, hv, hu⟩, fun y H3 hy => ?_⟩
  obtain ⟨T, z, z', rfl, hT, rfl, hq, hq'⟩ := hy
  have e1 := hq xs h2
  rw [hv] at e1; cases e1
  have e2 := hq' ys h3
  rw [hu] at e2; cases e2
  exact .tup hT (.cons (hf.mono s1) (.cons (hf'.mono s1) .nil))
theorem itok_zipT (h : SqT K G a xs) (f : FzA K G xs ds) (h' : SqT K G b ys) (f' : FzA K G ys es) : ItOk K G (zipD ds es) (RZ.ItzT K a b) := by
  intro G2 H2 s1 s2 i
  have h2 : SqT K H2 a xs := Same.tp (s1.trans s2) h
  have h3 : SqT K H2 b ys := Same.tp (s1.trans s2) h'
  refine ⟨fun d hd => ?_, fun hl => ⟨xs, ys, h2, h3, zipD_end f.length f'.length hl⟩⟩
  obtain ⟨x, y, hx, hy, rfl⟩ := zipD_get hd
  obtain ⟨v, hv, hf⟩ := f.get hx
  obtain ⟨u, hu, hf'⟩ := f'.get hy
  refine ⟨⟨xs, ys, v, u, h2, h3, hv, hu⟩, fun y H3 hy => ?_⟩
  obtain ⟨T, z, z', rfl, hT, rfl, hq, hq'⟩ := hy
  have e1 := hq xs h2
  rw [hv] at e1; cases e1
  have e2 := hq' ys h3
  rw [hu] at e2; cases e2
  exact .tup hT (.cons (hf.mono s1) (.cons (hf'.mono s1) .nil))
end

/-- a list, a tuple, a text as it is walked -/
def seqD : D → Option (List D)
  | .list ds => some ds
  | .tuple ds => some ds
  | .str x => some (charsD x)
  | _ => none
section
variable {X : Cx} {tg e e2 : Expr} {c c2 : CE} {p pos : Pos}
/-- an expression's value, frozen -/
def cFz {α : Type} (c : CE) (k : D → Option α) : Rho → R α := fun ρ => (c ρ).bind fun p ρ1 => match frz p ρ1 with
  | some (d, ρ2) => match k d with
    | some a => .ok a ρ2
    | none => .bad
  | none => .bad
theorem fz_imp {α : Type} {W : WX} {k : D → Option α} {β : Type} {P : α → Rho → Hp → Hp → β → Prop} {σ : L2.St} {H : Hp} {R' : β → Hp → Prop}
    (h : ∃ (L : L2.St) (ρ : Rho) (G B : Hp), Rel X.K L B σ ρ G H ∧ Got X L W σ G B P (cFz c k ρ) R') :
    tX X W c σ H (fun v H1 => ∃ (L : L2.St) (ρ2 : Rho) (G2 B : Hp) (d : D) (a : α), k d = some a ∧ Rel X.K L B σ ρ2 G2 H1 ∧ Fz X.K G2 v d ∧ Got X L W σ G2 B P (.ok a ρ2) R') := by
  obtain ⟨L, ρ, G, B, rel, h⟩ := h
  refine ⟨L, ρ, G, B, rel, (Got.bind h).mono ?_⟩
  rintro v H1 ⟨q, ρ1, G1, _, rel1, ext1, fx1, h1⟩
  cases e1 : frz q ρ1 with
  | none => simp only [e1] at h1; exact h1.elim
  | some w =>
    obtain ⟨d, ρ2⟩ := w
    simp only [e1] at h1
    obtain ⟨G2, r2, x2, f2⟩ := fx1.frz rel1 e1
    cases e2 : k d with
    | none => simp only [e2] at h1; exact h1.elim
    | some a =>
      simp only [e2] at h1
      exact ⟨L, ρ2, G2, B, d, a, e2, r2, f2, Got.shift x2 h1⟩
def iAny (K : PySem.W.Frag) (t : TE) : TI := fun σ H R => t σ H fun v H1 => (∃ a xs, v = .ref a ∧ SqL K H1 a xs ∧ R (Itl K a) H1) ∨ (∃ a xs, v = .ref a ∧ SqT K H1 a xs ∧ R (Itt K a) H1) ∨ (∃ x, v = .str x ∧ R (Its x) H1)
theorem pi_any {t : TE} (hl : PE X e t) : PI X tg e (iAny X.K t) := by
  refine ⟨fun pins s σ H R I h => ?_⟩
  refine thn (hl.run pins s σ H _ I h) fun v s1 ⟨x, H1, I1, r1, q1⟩ => ?_
  rcases q1 with ⟨a, xs, ex, hq, q⟩ | ⟨a, xs, ex, hq, q⟩ | ⟨x', ex, q⟩
  · subst ex
    cases r1
    obtain ⟨its, rv, p, hz⟩ := I1.list hq
    refine wpAny_pyIter_list p.isList ?_
    exact pi_one (tk := s1.toks) I1 _ (turn_list a _) ⟨_, Heap.get?_push_size _ rfl, rfl, rfl⟩ q
  · subst ex
    cases r1
    obtain ⟨its, rv, p, hz⟩ := I1.tuple hq
    refine wpAny_pyIter_tuple (show s1.heap.IsTuple a its.toArray from p) ?_
    exact pi_one (tk := s1.toks) I1 _ (turn_tuple a _) ⟨_, Heap.get?_push_size _ rfl, rfl, rfl⟩ q
  · subst ex
    obtain ⟨t, rfl⟩ := r1
    cases ha : x'.cps.all (· < 128)
    · exact wpAny_pyIter_wide ha (pi_one (tk := s1.toks) I1 _ (turn_str _ x' t "str_iterator" (.inr rfl)) ⟨_, Heap.get?_push_size _ rfl, rfl, rfl⟩ q)
    · exact wpAny_pyIter_ascii ha (pi_one (tk := s1.toks) I1 _ (turn_str _ x' t "str_ascii_iterator" (.inl rfl)) ⟨_, Heap.get?_push_size _ rfl, rfl, rfl⟩ q)
def cIt (c : CE) : CI := cFz c seqD
theorem si_seq (h : SX X e c) : SI X tg e (cIt c) := fun W tk => PIimp (pi_any (h W tk)) (by
  intro σ H Q h
  obtain ⟨L, ρ, G, B, rel, h0⟩ := fz_imp h
  refine ⟨L, ρ, G, B, rel, h0.mono ?_⟩
  rintro v H1 ⟨L, ρ2, G2, B, d, ds, e1, rel2, f2, h2⟩
  cases d <;> simp only [seqD] at e1 <;> try (cases e1; done)
  · cases e1; cases f2
    exact .inr (.inr ⟨_, rfl, h2 _ H1 G2 rel2 .refl (itok_str _)⟩)
  · cases e1; cases f2 with
    | lst h1 h3 => exact .inl ⟨_, _, rfl, .inl (Same.rd rel2.sub h1), h2 _ H1 G2 rel2 .refl (itok_list h1 h3)⟩
  · cases e1; cases f2 with
    | tup h1 h3 => exact .inr (.inl ⟨_, _, rfl, Same.tp rel2.sub (sqt h1), h2 _ H1 G2 rel2 .refl (itok_tup (sqt h1) h3)⟩))
/-! range -/
def rgD (a b : Int) : List D := (List.range (b - a).toNat).map fun i => .int (a + (i : Nat))
def rgFit (a : Int) : Bool := decide (-1000000000000 ≤ a) && decide (a ≤ 1000000000000)
def cRng1 (c : CE) : CI := fun ρ => (c ρ).bind fun p ρ1 => match look p ρ1 with
  | some (.int j) => if rgFit j = true then .ok (rgD 0 j) ρ1 else .bad
  | _ => .bad
def cRng2 (c c2 : CE) : CI := fun ρ => (c ρ).bind fun p ρ1 => (c2 ρ1).bind fun q ρ2 => match look p ρ2, look q ρ2 with
  | some (.int i), some (.int j) => if rgFit i = true ∧ rgFit j = true then .ok (rgD i j) ρ2 else .bad
  | _, _ => .bad
theorem rgFit_ok {a : Int} (h : rgFit a = true) : -(2 ^ 62) ≤ a ∧ a < 2 ^ 62 := by
  simp only [rgFit, Bool.and_eq_true, decide_eq_true_eq] at h
  omega
theorem si_rng1 (hg : Gl X "range") (hm : X.mg "range" = none) (h : SX X e c) (hs : starEach [e] X.env = [(false, eval e X.env)] := by rfl) : SI X tg (.Call (.Name "range" p) [e] [] pos) (cRng1 c) := fun W tk =>
  PIimp (pi_range1 hg hm (pa_cons (h W tk) pa_nil hs) hs) (by
  rintro σ H Q ⟨L, ρ, G, B, rel, h⟩
  refine ⟨L, ρ, G, B, rel, (Got.bind h).mono ?_⟩
  rintro v H1 ⟨q, ρ1, G1, _, rel1, ext1, fx1, h1⟩
  split at h1
  · rename_i j e1
    split at h1
    · rename_i hf
      obtain ⟨f1, f2⟩ := rgFit_ok hf
      refine ⟨j, ?_, f1, f2, ?_⟩
      · rw [(fx1.look rel1 e1).int]
      · have := itok_rg (K := X.K) (G := G1) 0 (j - 0).toNat
        exact h1 _ H1 G1 rel1 .refl (by simpa [rgD] using this)
    · exact h1.elim
  · exact h1.elim)
theorem si_rng2 (hg : Gl X "range") (hm : X.mg "range" = none) (h : SX X e c) (h' : SX X e2 c2) (hs : starEach [e, e2] X.env = [(false, eval e X.env), (false, eval e2 X.env)] := by rfl) (hs2 : starEach [e2] X.env = [(false, eval e2 X.env)] := by rfl) :
    SI X tg (.Call (.Name "range" p) [e, e2] [] pos) (cRng2 c c2) := fun W tk =>
  PIimp (pi_range2 hg hm (pa_cons (h W tk) (pa_cons (h' W tk) pa_nil hs2) (by rw [hs, hs2])) hs hs2) (by
  rintro σ H Q ⟨L, ρ, G, B, rel, h⟩
  refine ⟨L, ρ, G, B, rel, (Got.bind h).mono ?_⟩
  rintro x H1 ⟨p, ρ1, G1, _, rel1, ext1, fx1, h1⟩
  refine ⟨L, ρ1, G1, B, rel1, (Got.bind h1).mono ?_⟩
  rintro y H2 ⟨q, ρ2, G2, _, rel2, ext2, fx2, h2⟩
  split at h2
  · rename_i i j e1 e2
    split at h2
    · rename_i hf
      obtain ⟨f1, f2⟩ := rgFit_ok hf.1
      obtain ⟨f3, f4⟩ := rgFit_ok hf.2
      refine ⟨i, j, ?_, ⟨f1, f2, f3, f4⟩, ?_⟩
      · rw [((fx1.mono ext2.same).look rel2 e1).int, (fx2.look rel2 e2).int]
      · exact h2 _ H2 G2 rel2 .refl (itok_rg i (j - i).toNat)
    · exact h2.elim
  · exact h2.elim)
def rgDown (a b : Int) : List D := (List.range (a - b).toNat).map fun i => .int (a + (i : Nat) * -1)
/-- range(a, b, -1) -/
def cRng3 (c c2 c3 : CE) : CI := fun ρ => (c ρ).bind fun p ρ1 => (c2 ρ1).bind fun q ρ2 => (c3 ρ2).bind fun r ρ3 => match look p ρ3, look q ρ3, look r ρ3 with
  | some (.int i), some (.int j), some (.int k) => if rgFit i = true ∧ rgFit j = true ∧ k = -1 then .ok (rgDown i j) ρ3 else .bad
  | _, _, _ => .bad
theorem si_rng3 {e3 : Expr} {c3 : CE} (hg : Gl X "range") (hm : X.mg "range" = none) (h : SX X e c) (h' : SX X e2 c2) (h'' : SX X e3 c3)
    (hs : starEach [e, e2, e3] X.env = (false, eval e X.env) :: starEach [e2, e3] X.env := by rfl) (hs2 : starEach [e2, e3] X.env = (false, eval e2 X.env) :: starEach [e3] X.env := by rfl) (hs3 : starEach [e3] X.env = (false, eval e3 X.env) :: starEach [] X.env := by rfl)
    (hpl : (backTo pos (starEach [e2, e3] X.env)).any (·.1) = false := by rfl) :
    SI X tg (.Call (.Name "range" p) [e, e2, e3] [] pos) (cRng3 c c2 c3) := fun W tk =>
  PIimp (pi_range3 hg hm (pa_cons (h W tk) (pa_cons (h' W tk) (pa_cons (h'' W tk) pa_nil hs3) hs2) hs) hs hpl) (by
  rintro σ H Q ⟨L, ρ, G, B, rel, h⟩
  refine ⟨L, ρ, G, B, rel, (Got.bind h).mono ?_⟩
  rintro x H1 ⟨p, ρ1, G1, _, rel1, ext1, fx1, h1⟩
  refine ⟨L, ρ1, G1, B, rel1, (Got.bind h1).mono ?_⟩
  rintro y H2 ⟨q, ρ2, G2, _, rel2, ext2, fx2, h2⟩
  refine ⟨L, ρ2, G2, B, rel2, (Got.bind h2).mono ?_⟩
  rintro z H3 ⟨r, ρ3, G3, _, rel3, ext3, fx3, h3⟩
  split at h3
  · rename_i i j k e1 e2 e3
    split at h3
    · rename_i hf
      obtain ⟨f1, f2⟩ := rgFit_ok hf.1
      obtain ⟨f3, f4⟩ := rgFit_ok hf.2.1
      obtain rfl := hf.2.2
      refine ⟨i, j, -1, (i - j).toNat, ?_, RgC.neg f1 f2 f3 f4, ?_⟩
      · rw [((fx1.mono (ext2.trans ext3).same).look rel3 e1).int, ((fx2.mono ext3.same).look rel3 e2).int, (fx3.look rel3 e3).int]
      · exact h3 _ H3 G3 rel3 .refl (itok_rgC i (-1) (i - j).toNat)
    · exact h3.elim
  · exact h3.elim)
/-! enumerate -/
def iEnA (K : PySem.W.Frag) (ta : TA) : TI := fun σ H R => ta σ H fun vs H1 => (∃ a xs, vs = [.ref a] ∧ SqL K H1 a xs ∧ R (Ite K a) H1) ∨ ∃ a xs, vs = [.ref a] ∧ SqT K H1 a xs ∧ R (IteT K a) H1
theorem pi_enA {ta : TA} {tpos : Pos} {elts : List Expr} {kk : Nat} (hg : Gl X "enumerate") (hm : X.mg "enumerate" = none) (ha : PA X [e] ta) (hs : starEach [e] X.env = [(false, eval e X.env)] := by rfl) :
    PI X (.Tuple elts kk tpos) (.Call (.Name "enumerate" p) [e] [] pos) (iEnA X.K ta) := by
  refine ⟨fun pins s σ H R I h => ?_⟩
  refine Call_ (ld_blt I hg hm boot_enumerate (PyProof.Rows.callWith_type1 (thn (ha.run pos pins s σ H _ I h) fun us s1 ⟨vs, H1, I1, r1, q1⟩ => ?_) hs rfl))
  have fp2 : ∀ b ∈ [s1.heap.objs.size + 1, s1.heap.objs.size], FpOk X pins H1 b := fun b hb => by
    have e' : b = s1.heap.objs.size + 1 ∨ b = s1.heap.objs.size := by simpa using hb
    have hle : s1.heap.objs.size ≤ b := by
      rcases e' with z | z
      · rw [z]; exact Nat.le_add_right _ _
      · rw [z]; exact Nat.le_refl _
    exact I1.fpOk hle (I1.hok.fresh hle)
  rcases q1 with ⟨a, xs, ex, hq, q⟩ | ⟨a, xs, ex, hq, q⟩
  · subst ex
    cases r1 with
    | cons r rr =>
      cases rr
      cases r
      obtain ⟨its, rv, p', hz⟩ := I1.list hq
      refine call_enumerate_list p'.isList fun h' he hit hsz hk => wpAny_pyIter_enum he ?_
      have I2 : Inv X pins σ H1 { s1 with heap := h' } := I1.kept (t' := s1.toks) hk
      exact ⟨s1.heap.objs.size + 1, [s1.heap.objs.size + 1, s1.heap.objs.size], _, _, H1, rfl, I2, turn_enum a (s1.heap.objs.size + 1) s1.heap.objs.size, ⟨⟨.none, he⟩, hit, Nat.succ_ne_self _⟩, fp2, q⟩
  · subst ex
    cases r1 with
    | cons r rr =>
      cases rr
      cases r
      obtain ⟨its, rv, p', hz⟩ := I1.tuple hq
      refine call_enumerate_tup p' fun h' he hit hsz hk => wpAny_pyIter_enum he ?_
      have I2 : Inv X pins σ H1 { s1 with heap := h' } := I1.kept (t' := s1.toks) hk
      exact ⟨s1.heap.objs.size + 1, [s1.heap.objs.size + 1, s1.heap.objs.size], _, _, H1, rfl, I2, turn_enumT a (s1.heap.objs.size + 1) s1.heap.objs.size, ⟨⟨.none, he⟩, hit, Nat.succ_ne_self _⟩, fp2, q⟩
def cEnum (c : CE) : CI := cFz c fun d => (seqOf d).map enumD
theorem si_enum {tpos : Pos} {elts : List Expr} {kk : Nat} (hg : Gl X "enumerate") (hm : X.mg "enumerate" = none) (h : SX X e c) (hs : starEach [e] X.env = [(false, eval e X.env)] := by rfl) :
    SI X (.Tuple elts kk tpos) (.Call (.Name "enumerate" p) [e] [] pos) (cEnum c) := fun W tk => PIimp (pi_enA hg hm (pa_cons (h W tk) pa_nil hs) hs) (by
  intro σ H Q h
  obtain ⟨L, ρ, G, B, rel, h0⟩ := fz_imp h
  refine ⟨L, ρ, G, B, rel, h0.mono ?_⟩
  rintro v H1 ⟨L, ρ2, G2, B, d, ds, e1, rel2, f2, h2⟩
  cases d <;> simp only [seqOf, Option.map_some, Option.map_none] at e1 <;> try (cases e1; done)
  · cases e1; cases f2 with
    | lst h1 h3 => exact .inl ⟨_, _, rfl, .inl (Same.rd rel2.sub h1), h2 _ H1 G2 rel2 .refl (itok_enum h1 h3)⟩
  · cases e1; cases f2 with
    | tup h1 h3 => exact .inr ⟨_, _, rfl, Same.tp rel2.sub (sqt h1), h2 _ H1 G2 rel2 .refl (itok_enumT (sqt h1) h3)⟩)
/-! zip -/
def cZip (c c2 : CE) : CI := fun ρ => (c ρ).bind fun p ρ1 => (c2 ρ1).bind fun q ρ2 => match frzA [p, q] ρ2 with
  | some ([.list a, .list b], ρ3) => .ok (zipD a b) ρ3
  | some ([.tuple a, .tuple b], ρ3) => .ok (zipD a b) ρ3
  | _ => .bad
/-! reversed -/
def cRev (c : CE) : CI := cFz c fun d => (seqOf d).map List.reverse
end
end TN
namespace TN
open PySem PySem.Spec PyProof.Rows L2

/-! ### a list that a name owns changes -/
section
variable {K : PySem.W.Frag} {L : L2.St} {B G H : Hp} {σ : L2.St} {ρ : Rho} {d d' : D} {m : Md} {i : Nat} {a : Addr} {o : HO}
theorem Rel.mut (r : Rel K L B σ ρ G H) (hi : ρ[i]? = some (some (d, m))) (hm : m.isFz = false) (hv : σ[i]? = some (some (.ref a))) (c : Cont K G (upd H a o) a d') :
    Rel K L B σ (ρ.set i (some (d', m))) G (upd H a o) := by
  obtain ⟨v', h1, h2⟩ := r.slots i _ hi
  rw [hv] at h1; cases h1
  obtain ⟨a', e, hG, hB, _⟩ := h2.own hm
  cases e
  have hlt : i < ρ.length := (List.getElem?_eq_some_iff.mp hi).1
  refine ⟨fun b u q => ?_, fun b u q => ?_, by simpa using r.len, fun j p hp => ?_, fun j k p p' w hjk hp hp' hf hf' hw => ?_, fun j w hw => ?_⟩
  · rw [upd_ne (ne_of_none q hG)]; exact r.sub b u q
  · rw [upd_ne (ne_of_none q hB)]; exact r.base b u q
  · by_cases hj : j = i
    · subst hj
      rw [List.getElem?_set_self hlt] at hp; cases hp
      refine ⟨_, hv, ?_⟩
      cases m with
      | fz => cases hm
      | lz => cases hm
      | own => exact ⟨a, rfl, hG, hB, c⟩
      | lent => exact ⟨a, rfl, hG, hB, c⟩
    · rw [List.getElem?_set_ne (Ne.symm hj)] at hp
      obtain ⟨w, w1, w2⟩ := r.slots j p hp
      refine ⟨w, w1, w2.heap fun hf b o' eb hb => ?_⟩
      subst eb
      have : b ≠ a := fun z => by subst z; exact r.sep i j _ p _ (Ne.symm hj) hi hp hm hf hv w1
      rw [upd_ne this]; exact hb
  · have get : ∀ {j : Nat} {p : D × Md}, (ρ.set i (some (d', m)))[j]? = some (some p) → ∃ p0 : D × Md, ρ[j]? = some (some p0) ∧ p0.2 = p.2 := by
      intro j p hp
      by_cases hj : j = i
      · subst hj
        rw [List.getElem?_set_self hlt] at hp; cases hp
        exact ⟨_, hi, rfl⟩
      · rw [List.getElem?_set_ne (Ne.symm hj)] at hp
        exact ⟨p, hp, rfl⟩
    obtain ⟨p0, q0, e0⟩ := get hp
    obtain ⟨p1, q1, e1⟩ := get hp'
    exact r.sep j k p0 p1 w hjk q0 q1 (by rw [e0]; exact hf) (by rw [e1]; exact hf') hw
  · obtain ⟨w1, d1, m1, w2, w3⟩ := r.lent j w hw
    by_cases hj : j = i
    · subst hj
      rw [hi] at w2; cases w2
      exact ⟨w1, d', m, List.getElem?_set_self hlt, w3⟩
    · exact ⟨w1, d1, m1, by rw [List.getElem?_set_ne (Ne.symm hj)]; exact w2, w3⟩
end
/-- the list or dict that name i owns or was lent -/
def ownAt (i : Nat) (ρ : Rho) : Option (D × Md) := match ρ[i]? with
  | some (some (d, .own)) => some (d, .own)
  | some (some (d, .lent)) => some (d, .lent)
  | _ => none
theorem ownAt_ok {i : Nat} {ρ : Rho} {p : D × Md} (h : ownAt i ρ = some p) : ρ[i]? = some (some p) ∧ p.2.isFz = false := by
  unfold ownAt at h
  split at h
  · rename_i e; cases h; exact ⟨e, rfl⟩
  · rename_i e; cases h; exact ⟨e, rfl⟩
  · cases h
/-- what a method that changes its list does: the new content, what it gives -/
def MutOk (K : PySem.W.Frag) (r : V → List V → Hp → VK → Prop) (f : D → List D → Option (D × D)) : Prop := ∀ (G H : Hp) (a : Addr) (d : D) (xs : List V) (ds : List D) (d' y : D) (Q : VK), Same G H → G a = none → Cont K G H a d → FzA K G xs ds → f d ds = some (d', y) →
  (∀ v o, Cont K G (upd H a o) a d' → Fz K G v y → Q v (upd H a o)) → r (.ref a) xs H Q
/-- x.name(..), the object owned -/
def cMut (i : Nat) (f : D → List D → Option (D × D)) (ca : CA) : CE := fun ρ => (ca ρ).bind fun ps ρ1 => match frzA ps ρ1 with
  | some (ds, ρ2) => match ownAt i ρ2 with
    | some (d, m) => match f d ds with
      | some (d', y) => .ok (.val y) (ρ2.set i (some (d', m)))
      | none => .bad
    | none => .bad
  | none => .bad
section
variable {X : Cx} {e : Expr} {es : List Expr} {ca : CA} {p apos cpos : Pos} {T id : String} {x name : Str} {r : V → List V → Hp → VK → Prop} {f : D → List D → Option (D × D)} {W : WX}
/-- the receiver's value at the method's call -/
theorem mut_step {L : L2.St} {B : Hp} {σ : L2.St} {G H : Hp} {ρ : Rho} {i : Nat} {ds : List D} {xs : List V} {v : V} {Q : VK} (hr : MutOk X.K r f) (hv : σ[i]? = some (some v)) (rel : Rel X.K L B σ ρ G H) (fz : FzA X.K G xs ds)
    (h : GotP X L W σ G B (match ownAt i ρ with
      | some (d, m) => match f d ds with
        | some (d', y) => .ok (.val y) (ρ.set i (some (d', m)))
        | none => .bad
      | none => .bad) Q) : r v xs H Q := by
  cases e1 : ownAt i ρ with
  | none => simp only [e1] at h; exact h.elim
  | some p =>
    obtain ⟨d, m⟩ := p
    simp only [e1] at h
    obtain ⟨o1, o2⟩ := ownAt_ok e1
    cases e2 : f d ds with
    | none => simp only [e2] at h; exact h.elim
    | some w =>
      obtain ⟨d', y⟩ := w
      simp only [e2] at h
      obtain ⟨v', h1, h2⟩ := rel.slots i _ o1
      rw [hv] at h1; cases h1
      obtain ⟨a, rfl, hG, hB, c⟩ := h2.own o2
      exact hr G H a d xs ds d' y Q rel.sub hG c fz e2 fun v o c' fy => h v (upd H a o) G (rel.mut o1 o2 hv c') .refl fy
theorem tyV_of {K : PySem.W.Frag} {G H : Hp} {v : V} {p : D × Md} {B : Hp} (s : SlotOk K G H B v p) (sub : Same G H) (hl : ∃ ds, p.1 = .list ds) : tyV K "list" v H := by
  obtain ⟨ds, hl⟩ := hl
  have := s.vw
  rw [hl] at this
  obtain ⟨a, xs, rfl, h1, h2⟩ := this.lst sub
  exact .inl ⟨rfl, xs, .inl h1⟩
/-- the receiver is a list when the arguments are asked for: looked at there -/
def cMutL (i : Nat) (f : D → List D → Option (D × D)) (ca : CA) : CE := fun ρ => match ownAt i ρ with
  | some (.list _, _) => cMut i f ca ρ
  | _ => .bad
theorem sx_mutL (i : Nat) (pa : PlainAttrs "list") (slot : PySem.Slot "list" name id) (hty : typeOf (.builtin id) = pure (.type "method_descriptor")) (hm : MtR X id r) (hr : MutOk X.K r f) (ha : SA X (e :: es) ca)
    (hN : X.N[i]? = some x := by rfl) (hv : Vis X.env.scope x := by first | exact Or.inl rfl | exact Or.inr (Or.inl rfl) | exact Or.inr (Or.inr rfl)) (hd : (x == ("__debug__" : Str)) = false := by decide) (hcd : (x == ("__classdict__" : Str)) = false := by decide)
    (hbase : attributeBase (.Name x p) name X.env (eval (.Name x p) X.env) = eval (.Name x p) X.env := by rfl)
    (hfew : ((backTo cpos (starEach (e :: es) X.env)).all (fun x => !x.1) && (backToKw cpos (keywordEach [] X.env)).all (fun x => x.1.isSome)
      && decide ((e :: es).length + ([] : List Keyword).length + (if ([] : List Keyword).isEmpty then 0 else 1) < 30)) = true := by rfl)
    (hline : (apos.endLine == cpos.line) = true := by rfl) (hs : starEach (e :: es) X.env = (false, eval e X.env) :: starEach es X.env := by rfl) (hplain : (backTo cpos (starEach es X.env)).any (·.1) = false := by rfl) :
    SX X (.Call (.Attribute (.Name x p) name apos) (e :: es) [] cpos) (cMutL i f ca) := fun W tk =>
  PEimp (pe_bm pa slot hty hm (pe_var hN hv hd hcd) (ha W tk) hbase hfew hline hs hplain) (by
  rintro σ H Q ⟨L, ρ, G, B, rel, h⟩
  unfold cMutL at h
  split at h
  · rename_i ds m e1
    obtain ⟨o1, o2⟩ := ownAt_ok e1
    obtain ⟨v, h1, h2⟩ := rel.slots i _ o1
    refine ⟨v, h1, tyV_of h2 rel.sub ⟨_, rfl⟩, L, ρ, G, B, rel, (Got.bindA h).mono ?_⟩
    rintro xs H1 ⟨ps, ρ1, G1, _, rel1, ext1, fx1, h3⟩
    cases e2 : frzA ps ρ1 with
    | none => simp only [e2] at h3; exact h3.elim
    | some w =>
      obtain ⟨ds2, ρ2⟩ := w
      simp only [e2] at h3
      obtain ⟨G2, r2, x2, f2⟩ := fx1.frz rel1 e2
      exact mut_step (W := W) hr h1 r2 f2 (Got.shift x2 h3)
  · exact h.elim)
/-! append, extend, pop -/
theorem Cont.lstInv {K : PySem.W.Frag} {G H : Hp} {a : Addr} {ds : List D} (c : Cont K G H a (.list ds)) : ∃ xs, H a = some (.lst xs) ∧ FzA K G xs ds := by
  cases c with
  | lst h x => exact ⟨_, h, x⟩
def fAppend : D → List D → Option (D × D)
  | .list a, [x] => if a.length < 16777216 then some (.list (a ++ [x]), .none) else none
  | _, _ => none
theorem append_ok (K : PySem.W.Frag) : MutOk K rAppend fAppend := by
  intro G H a d xs ds d' y Q sub hG c fz e q
  unfold fAppend at e
  split at e
  · split at e
    · rename_i hl
      cases e
      obtain ⟨ys, h1, h2⟩ := c.lstInv
      cases fz with
      | cons f1 f2 =>
        cases f2
        exact ⟨a, ys, _, rfl, rfl, h1, by rw [h2.length, sizeLine_eq]; exact hl, q _ _ (.lst upd_same (h2.append (.cons f1 .nil))) .non⟩
    · cases e
  · cases e
theorem ext_tup (l : Addr) (items : Array Value) (n : Nat) (b : Addr) (items2 : Array Value) (n2 : Nat) (dct : Option Addr) (sl : Array (Option Value)) (hs0 : ¬(!items.isEmpty && Builtin.List.listTooLong (items.size + items2.size)) = true) (hs1 : items.size ≤ sizeLine) (hs2 : items.size + items2.size ≤ sizeLine + 1) :
    Meets (Builtin.«list.extend» ⟨[.ref l, .ref b], []⟩) (fun _ R s => s.heap.get? l = some { cls := .type "list", dict := none, data := .seq items n, slots := #[] } ∧ s.heap.get? b = some { cls := .type "tuple", dict := dct, data := .seq items2 n2, slots := sl } ∧ R (.ok (.ret Value.none)) { s with heap := s.heap.update l (Obj.mapSeq fun x => x ++ items2), toks := s.toks }) :=
  .of_wp fun prog w A R s h => by
    open AutoSeq1 in
    obtain ⟨hp, g, d, tk, os⟩ := s; obtain ⟨hl, hb, h⟩ := h; have f1 := AutoSeq1.idx_int; have f2 := AutoSeq1.sub_tuple_tuple; have f3 := AutoSeq1.sub_list_list; have f4 := AutoSeq1.sub_tuple_list; have f5 := AutoSeq1.sub_list_tuple;
    have hz' : (items ++ items2).size ≤ sizeLine + 1 := by rw [Array.size_append]; exact hs2
    wp_walk using (wpAny_updateSeq hl rfl (hz := hs1) (_hz' := hz')), wpAny_loadPart' hl, wpAny_loadPart' hb; exact ⟨_, rfl, h⟩
def rExtendA (K : PySem.W.Frag) : V → List V → Hp → VK → Prop := fun x vs H Q => ∃ l b xs zs, x = .ref l ∧ vs = [.ref b] ∧ H l = some (.lst xs) ∧ ((Rd H b (.lst zs)) ∨ SqT K H b zs) ∧ xs.length + zs.length ≤ sizeLine ∧ Q .non (upd H l (.lst (xs ++ zs)))
theorem mt_extendA : MtR X "list.extend" (rExtendA X.K) := by
  intro pins s σ H x vs v us Q I rx rv h
  obtain ⟨l, b, xs, zs, rfl, rfl, hH, hB, hz, q⟩ := h
  cases rx
  obtain ⟨u, rfl, ru⟩ := rv.one
  cases ru
  obtain ⟨z, its, n, r, hl, e⟩ := I.lstM hH
  rcases hB with hB | hB
  · obtain ⟨z2, its2, n2, r2, hl2, e2⟩ := lstR I hB
    have hsz : its.toArray.size + its2.toArray.size ≤ sizeLine := by rw [List.size_toArray, List.size_toArray]; omega
    have hlong : ¬ (!its.toArray.isEmpty && Builtin.List.listTooLong (its.toArray.size + its2.toArray.size)) = true := by
      rw [notLongL hsz, Bool.and_false]
      exact Bool.false_ne_true
    refine call_meets PySem.F.slot_list_extend ⟨_, e, rfl⟩ PySem.F.entry_list_extend (PySem.F.args_list_extend_2 _ _)
      (AutoSeq1.list_extend_list_list_0 l its.toArray n b its2.toArray n2 hlong (by rw [List.size_toArray]; omega) (by omega)) ⟨e, e2, ?_⟩
    refine ⟨.non, _, I.lset (its' := its ++ its2) hH e (by simp) (r.append r2) ?_, rfl, q⟩
    rw [List.length_append]
    omega
  · obtain ⟨its2, r2, ⟨⟨c2, dct, dt, sl⟩, e2, hc2, n2, hd2⟩, z2⟩ := I.tuple hB
    replace hc2 : c2 = .type "tuple" := hc2
    replace hd2 : dt = .seq its2.toArray n2 := hd2
    subst hc2 hd2
    have hl2 := r2.length
    have hsz : its.toArray.size + its2.toArray.size ≤ sizeLine := by rw [List.size_toArray, List.size_toArray]; omega
    have hlong : ¬ (!its.toArray.isEmpty && Builtin.List.listTooLong (its.toArray.size + its2.toArray.size)) = true := by
      rw [notLongL hsz, Bool.and_false]
      exact Bool.false_ne_true
    refine call_meets PySem.F.slot_list_extend ⟨_, e, rfl⟩ PySem.F.entry_list_extend (PySem.F.args_list_extend_2 _ _)
      (ext_tup l its.toArray n b its2.toArray n2 dct sl hlong (by rw [List.size_toArray]; omega) (by omega)) ⟨e, e2, ?_⟩
    refine ⟨.non, _, I.lset (its' := its ++ its2) hH e (by simp) (r.append r2) ?_, rfl, q⟩
    rw [List.length_append]
    omega
def fExtend : D → List D → Option (D × D)
  | .list a, [.list b] => if a.length + b.length ≤ 16777216 then some (.list (a ++ b), .none) else none
  | .list a, [.tuple b] => if a.length + b.length ≤ 16777216 then some (.list (a ++ b), .none) else none
  | _, _ => none
theorem extend_ok (K : PySem.W.Frag) : MutOk K (rExtendA K) fExtend := by
  intro G H a d xs ds d' y Q sub hG c fz e q
  unfold fExtend at e
  split at e
  · split at e
    · rename_i hl
      cases e
      obtain ⟨ys, h1, h2⟩ := c.lstInv
      cases fz with
      | cons f1 f2 =>
        cases f2
        cases f1 with
        | lst g1 g2 => exact ⟨a, _, ys, _, rfl, rfl, h1, .inl (Same.rd sub g1), by rw [h2.length, g2.length, sizeLine_eq]; exact hl, q _ _ (.lst upd_same (h2.append g2)) .non⟩
    · cases e
  · split at e
    · rename_i hl
      cases e
      obtain ⟨ys, h1, h2⟩ := c.lstInv
      cases fz with
      | cons f1 f2 =>
        cases f2
        cases f1 with
        | tup g1 g2 => exact ⟨a, _, ys, _, rfl, rfl, h1, .inr (Same.tp sub (sqt g1)), by rw [h2.length, g2.length, sizeLine_eq]; exact hl, q _ _ (.lst upd_same (h2.append g2)) .non⟩
    · cases e
  · cases e
def fPop : D → List D → Option (D × D)
  | .list a, [] => match a[a.length - 1]? with
    | some y => some (.list a.dropLast, y)
    | none => none
  | .list a, [.int i] => if a.length ≤ 16777216 then match ixN a.length i with
    | some k => match a[k]? with
      | some y => some (.list (a.eraseIdx k), y)
      | none => none
    | none => none
    else none
  | _, _ => none
theorem mt_popA : MtR X "list.pop" (fun x vs H Q => rPop x vs H Q ∨ rPopAt x vs H Q) := MtR.or mt_pop mt_popAt
theorem pop_ok (K : PySem.W.Frag) : MutOk K (fun x vs H Q => rPop x vs H Q ∨ rPopAt x vs H Q) fPop := by
  intro G H a d xs ds d' y Q sub hG c fz e q
  unfold fPop at e
  split at e
  · split at e
    · rename_i hy
      cases e
      obtain ⟨ys, h1, h2⟩ := c.lstInv
      cases fz
      obtain ⟨v, hv, fv⟩ := h2.get hy
      exact .inl ⟨a, ys, v, rfl, rfl, h1, by rw [h2.length]; exact hv, q _ _ (.lst upd_same h2.dropLast) fv⟩
    · cases e
  · split at e
    · rename_i hl
      split at e
      · rename_i k hk
        split at e
        · rename_i hy
          cases e
          obtain ⟨ys, h1, h2⟩ := c.lstInv
          cases fz with
          | cons f1 f2 =>
            cases f2
            cases f1
            obtain ⟨v, hv, fv⟩ := h2.get hy
            rw [← h2.length] at hk hl
            obtain ⟨k1, k2, k3, k4⟩ := ixN_seq hk
            exact .inr ⟨a, ys, _, k, v, rfl, rfl, h1, by omega, by omega, k1, hv, q _ _ (.lst upd_same (h2.eraseIdx k)) fv⟩
        · cases e
      · cases e
    · cases e
  · cases e
end
end TN
namespace TN
open PySem PySem.Spec PyProof.Rows L2

/-! ### x[k] = v -/
def PutOk (K : PySem.W.Frag) (t : TSet) (f : D → D → D → Option D) : Prop := ∀ (G H : Hp) (a : Addr) (c k d c' : D) (kv dv : V) (Q : Hp → Prop), Same G H → G a = none → Cont K G H a c → Fz K G kv k → Fz K G dv d → f c k d = some c' →
  (∀ o, Cont K G (upd H a o) a c' → Q (upd H a o)) → t (.ref a) kv dv H Q
/-- the place's own list, the key, the value -/
def gPut (i : Nat) (f : D → D → D → Option D) (ck : CE) : D → Rho → Option Rho := fun d ρ => match ownAt i ρ with
  | none => none
  | some _ => match cFz ck some ρ with
    | .ok k ρ2 => match ownAt i ρ2 with
      | some (c, m) => match f c k d with
        | some c' => some (ρ2.set i (some (c', m)))
        | none => none
      | none => none
    | _ => none
section
variable {X : Cx} {x : Str} {k : Expr} {ck c : CE} {p pos : Pos} {t : TSet} {f : D → D → D → Option D} {W : WX}
theorem fz_run {L : L2.St} {B : Hp} {σ : L2.St} {G H : Hp} {ρ ρ2 : Rho} {d : D} (rel : Rel X.K L B σ ρ G H) (h : cFz c some ρ = .ok d ρ2) :
    tX X W c σ H (fun v H1 => ∃ G2, Rel X.K L B σ ρ2 G2 H1 ∧ Ext B G G2 ∧ Fz X.K G2 v d) := by
  refine ⟨L, ρ, G, B, rel, ?_⟩
  unfold cFz at h
  cases q : c ρ with
  | bad => rw [q] at h; cases h
  | exc y ρ1 => rw [q] at h; cases h
  | ok a ρ1 =>
    rw [q] at h
    intro v H1 G1 rel1 ext1 ok
    obtain ⟨G2, r2, x2, fx2⟩ := ok.fix rel1
    simp only [R.bind] at h
    cases e : frz a ρ1 with
    | none => simp only [e] at h; cases h
    | some w =>
      obtain ⟨d', ρ'⟩ := w
      simp only [e, R.ok.injEq] at h
      obtain ⟨rfl, rfl⟩ := h
      obtain ⟨G3, r3, x3, f3⟩ := fx2.frz r2 e
      exact ⟨G3, r3, ext1.trans (x2.trans x3), f3⟩
theorem own_val {K : PySem.W.Frag} {L : L2.St} {B : Hp} {σ : L2.St} {G H : Hp} {ρ : Rho} {i : Nat} {q : D × Md} (rel : Rel K L B σ ρ G H) (h : ownAt i ρ = some q) : ∃ v, σ[i]? = some (some v) := by
  obtain ⟨o1, _⟩ := ownAt_ok h
  obtain ⟨v, h1, _⟩ := rel.slots i _ o1
  exact ⟨v, h1⟩
/-- the walk up to the store, from a frozen value -/
theorem put_step {L : L2.St} {B : Hp} {σ : L2.St} {G H : Hp} {ρ : Rho} {i : Nat} {d key : D} {v kv dv : V} {Q : Hp → Prop} (hp : PutOk X.K t f) (hv : σ[i]? = some (some v)) (rel : Rel X.K L B σ ρ G H) (fk : Fz X.K G kv key) (fd : Fz X.K G dv d) {c c' : D} {m : Md}
    (e1 : ownAt i ρ = some (c, m)) (e2 : f c key d = some c') (q : ∀ H', Rel X.K L B σ (ρ.set i (some (c', m))) G H' → Q H') : t v kv dv H Q := by
  obtain ⟨o1, o2⟩ := ownAt_ok e1
  obtain ⟨v', h1, h2⟩ := rel.slots i _ o1
  rw [hv] at h1; cases h1
  obtain ⟨a, rfl, hG, hB, ct⟩ := h2.own o2
  exact hp G H a c key d c' kv dv Q rel.sub hG ct fk fd e2 fun o c2 => q _ (rel.mut o1 o2 hv c2)
theorem sg_put (i : Nat) (ht : PSet X t) (hp : PutOk X.K t f) (hk : SX X k ck) (hN : X.N[i]? = some x := by rfl) (hv : Vis X.env.scope x := by first | exact Or.inl rfl | exact Or.inr (Or.inl rfl) | exact Or.inr (Or.inr rfl)) (hd : (x == ("__debug__" : Str)) = false := by decide) (hcd : (x == ("__classdict__" : Str)) = false := by decide)
    (ha : ∀ v, assign (.Subscript (.Name x p) k pos) X.env v = (do
      let ov ← holding [v] (eval (.Name x p) X.env)
      let iv ← holding [v, ov] (eval k X.env)
      standAt pos
      holding [v, ov, iv] (setItem ov iv v)
      release [v, ov, iv] []) := by intro _; rfl) : SG X (.Subscript (.Name x p) k pos) [] (gPut i f ck) := PGimp (pg_sub (pe_var hN hv hd hcd) (hk Wf takes0) ht ha) (by
  rintro v σ H Q ⟨L, ρ, G, B, d, rel, fz, h⟩
  unfold gPut at h
  cases e0 : ownAt i ρ with
  | none => simp only [e0] at h
  | some o0 =>
    simp only [e0] at h
    obtain ⟨w, hw⟩ := own_val rel e0
    cases e1 : cFz ck some ρ with
    | bad => simp only [e1] at h
    | exc y ρ1 => simp only [e1] at h
    | ok key ρ2 =>
      simp only [e1] at h
      cases e3 : ownAt i ρ2 with
      | none => simp only [e3] at h
      | some cm =>
        obtain ⟨c, m⟩ := cm
        simp only [e3] at h
        cases e4 : f c key d with
        | none => simp only [e4] at h
        | some c' =>
          simp only [e4] at h
          refine ⟨w, hw, ?_⟩
          obtain ⟨L', ρ', G', B', rl, gg⟩ := fz_run (W := Wf) rel e1
          refine ⟨L', ρ', G', B', rl, gg.mono ?_⟩
          rintro kv H2 ⟨G2, r2, x2, fk⟩
          exact put_step hp hw r2 fk (fz.mono x2.same) e3 e4 fun H' r3 => h σ H' G2 r3 x2 ⟨rfl, fun _ _ => rfl⟩)
/-- x op= e of ints -/
def cAugI (i : Nat) (g : Int → Int → Int) (c : CE) : CS := fun ρ => match look (.slot i) ρ with
  | some (.int a) => (c ρ).toS fun p ρ1 => match look p ρ1 with
    | some (.int b) => match store i (.val (.int (g a b))) ρ1 with
      | some ρ2 => .nx ρ2
      | none => .bad
    | _ => .bad
  | _ => .bad
/-! ### xs[k] += e -/
def cAugS (i : Nat) (f : D → D → D → Option D) (g : Int → Int → Int) (ck ce : CE) : CS := fun ρ => match ownAt i ρ with
  | none => .bad
  | some _ => (ck ρ).toS fun p ρ1 => match look p ρ1, ownAt i ρ1 with
    | some (.int k), some (.list a, _) => match atI a k with
      | some (.int n) => (ce ρ1).toS fun q ρ2 => match look q ρ2, ownAt i ρ2 with
        | some (.int b), some (c, m) => match f c (.int k) (.int (g n b)) with
          | some c' => .nx (ρ2.set i (some (c', m)))
          | none => .bad
        | _, _ => .bad
      | _ => .bad
    | _, _ => .bad
/-! lists -/
def putL : D → D → D → Option D
  | .list a, .int k, d => match ixN a.length k with
    | some j => some (.list (a.set j d))
    | none => none
  | _, _, _ => none
theorem putL_ok (K : PySem.W.Frag) : PutOk K rSetL putL := by
  intro G H a c k d c' kv dv Q sub hG ct fk fd e q
  unfold putL at e
  split at e
  · split at e
    · rename_i j hj
      cases e
      obtain ⟨xs, h1, h2⟩ := ct.lstInv
      cases fk
      exact ⟨a, xs, _, j, rfl, rfl, h1, by rw [h2.length]; exact hj, q _ (.lst upd_same (h2.set j fd))⟩
    · cases e
  · cases e
/-! dicts -/
theorem PSet_or {X : Cx} {t t' : TSet} (h : PSet X t) (h' : PSet X t') : PSet X (fun o i v H Q => t o i v H Q ∨ t' o i v H Q) := by
  intro pins s σ H o i v ov iv u Q I ro ri rv q
  rcases q with q | q
  · exact h pins s σ H o i v ov iv u Q I ro ri rv q
  · exact h' pins s σ H o i v ov iv u Q I ro ri rv q
def putA : D → D → D → Option D
  | .dict es, k, d => (dPut es k d).map .dict
  | c, k, d => putL c k d
def rSetA : TSet := fun o i v H Q => rSetL o i v H Q ∨ rSetD o i v H Q
theorem set_any {X : Cx} (hu : X.A.units + 65 < cLine) : PSet X rSetA := PSet_or set_list (set_dict (by omega))
theorem putA_ok (K : PySem.W.Frag) : PutOk K rSetA putA := by
  intro G H a c k d c' kv dv Q sub hG ct fk fd e q
  cases c
  case dict es =>
    have e : (dPut es k d).map PyData.dict = some c' := e
    cases hp : dPut es k d with
    | none => rw [hp] at e; cases e
    | some es2 =>
      rw [hp] at e
      cases e
      cases ct with
      | dK e1 f =>
        rename_i kvs
        unfold dPut at hp
        split at hp
        · exact f.nomark.elim
        · cases hk : ckOf k with
          | none => rw [hk] at hp; cases hp
          | some key =>
            rw [hk] at hp
            simp only at hp
            split at hp
            · rename_i hl
              cases hp
              exact .inr ⟨a, _, rfl, .inl ⟨kvs, key, e1, fk.key hk, by rw [f.length, sizeLine_eq]; exact hl, rfl⟩, q _ (.dK upd_same (f.put fd))⟩
            · cases hp
      | dT e1 f =>
        rename_i kvs es'
        unfold dPut at hp
        simp only at hp
        cases hk : tkOf k with
        | none => rw [hk] at hp; cases hp
        | some key =>
          rw [hk] at hp
          simp only at hp
          split at hp
          · rename_i hl
            cases hp
            obtain ⟨b, rfl, hb⟩ := fk.tkey hk
            exact .inr ⟨a, _, rfl, .inr ⟨kvs, key, b, e1, rfl, sub _ _ hb, by rw [f.length, sizeLine_eq]; exact hl, rfl⟩, q _ (.dT upd_same (f.put fd))⟩
          · cases hp
  all_goals exact .inl (putL_ok K G H a _ k d c' kv dv Q sub hG ct fk fd e q)
/-! a, b = x, y -/
def cPar (i j : Nat) (a b : CE) : CS := fun ρ => match cCons a (cCons b cNil) ρ with
  | .ok ps ρ1 => match frzA ps ρ1 with
    | some ([d, e], ρ2) => match store i (.val d) ρ2 with
      | some ρ3 => match store j (.val e) ρ3 with
        | some ρ4 => .nx ρ4
        | none => .bad
      | none => .bad
    | _ => .bad
  | .exc x ρ1 => .exc x ρ1
  | .bad => .bad
end
end TN
namespace TN
open PySem PySem.Spec PyProof.Rows L2

/-! ### methods that change nothing -/
def tyOk (T : String) (d : D) : Bool := (match d with | .list _ => T == "list" | .str _ => T == "str" | .int _ => T == "int" | _ => false)
def cMt (T : String) (f : D → List D → Option Pl) (co : CE) (ca : CA) : CE := fun ρ => (co ρ).bind fun p ρ1 => match look p ρ1 with
  | some d0 => if tyOk T d0 = true then (ca ρ1).bind fun ps ρ2 => match look p ρ2, lookA ps ρ2 with
    | some d, some ds => .ofOpt (f d ds) ρ2
    | _, _ => .bad
    else .bad
  | none => .bad
section
variable {X : Cx} {o e : Expr} {es : List Expr} {co : CE} {ca : CA} {p apos cpos : Pos} {T id : String} {name : Str} {r : V → List V → Hp → VK → Prop} {f : D → List D → Option Pl} {W : WX}
/-! list.index, list.count -/
/-! xs[::-1] -/
end
end TN
namespace TN
open PySem PySem.Spec PyProof.Rows L2

/-! ### defs by their meanings -/
structure Callee (P : Program) (w : World) (K : PySem.W.Frag) (mg : Str → Option Value) (base : Heap) (k : Nat) (x : Str) (n : Nat) (M : FM) : Prop where
  ex : ∃ (f : Addr) (fd : FuncData) (pn : List Str), FnOk P w K mg base (L2.CX P w) k f fd pn (spF K mg n M) ∧ mg x = some (.ref f) ∧ PySem.W.keepIn K (.ref f) = true ∧ Binds K fd pn []
theorem Callee.up {P : Program} {w : World} {K : PySem.W.Frag} {mg : Str → Option Value} {base : Heap} {k : Nat} {x : Str} {n : Nat} {M : FM} (c : Callee P w K mg base k x n M) {j : Nat} (h : k ≤ j) : Callee P w K mg base j x n M := by
  obtain ⟨f, fd, pn, h1, h2, h3, h4⟩ := c.ex
  exact ⟨f, fd, pn, h1.mono h, h2, h3, h4⟩
section
variable {X : Cx} {k n : Nat} {M : FM} {x : Str} {p pos : Pos} {e : Expr} {es : List Expr} {cr : CA}
theorem sx_callC (C : Callee X.prog X.w X.K X.mg X.base k x n M) (hr : Room k X.A) (hg : Gl X x) (hl : LenA cr n) (ha : SA X (e :: es) cr)
    (hdb : (x == ("__debug__" : Str)) = false := by decide) (he : starEach (e :: es) X.env = (false, eval e X.env) :: starEach es X.env := by rfl) (hpl : (backTo pos (starEach es X.env)).any (·.1) = false := by rfl) :
    SX X (.Call (.Name x p) (e :: es) [] pos) (cCall M cr) := by
  obtain ⟨f, fd, pn, h1, h2, h3, h4⟩ := C.ex
  exact sx_call h1 hr hg h2 h3 h4 hl ha hdb he hpl
theorem u64 (hr : Room k X.A) : X.A.units + 64 < cLine := hr.units
end
/-- a def's promise as a callee -/
theorem calleeOf {P : Program} {w : World} {K : PySem.W.Frag} {mg : Str → Option Value} {base : Heap} {x qual : Str} {params : Arguments} {body : List Stmt} {scope : Scope} {f : Addr} {fd : FuncData} {k : Nat} {N ps : List Str} {c : CS}
    (F : FunD K x qual params body scope [] [] f fd) (S : FnScope N ps scope) (hm : mg x = some (.ref f))
    (hb : ∀ (kV doc pm : Value) (an : Option Addr) (cdv ct : Value) (us : List Value), us.length = ps.length → bindArgs (PySem.W.fnOf x qual params body scope .none kV doc pm an cdv ct) ⟨us, []⟩ = pure (ps.zip us))
    (h : ∀ (cdv : Value) (A : Around) (outer : List Env) (s : Shared) (H : Hp) (E : XK), Room k (A.deeper (envOfC qual scope s.heap.objs.size f cdv)) → SSs (cxOf (L2.CX P w) P w K mg base N qual scope f cdv A outer s H E) body c) :
    Callee P w K mg base (k + 1) x ps.length (mkF ps.length N.length c) :=
  ⟨f, fd, ps, fn_sound F S h, hm, F.kp, F.bindsN hb⟩

/-! ### the head: facts of a part of the heap without lists -/
theorem NoLst.rd {K : PySem.W.Frag} (n : NoLst K) {H : Hp} {a : Addr} {xs : List V} (h : SqL K H a xs) : Rd H a (.lst xs) := by
  rcases h with h | ⟨o, its, m, h1, h2, h3, h4, _⟩
  · exact h
  · have := n a o h1
    unfold isLst at this
    rw [h2, h4] at this
    cases this
end TN
namespace TN
open PySem PySem.Spec PyProof.Rows L2

/-! ### t[::-1] -/
theorem fm_congr {α β : Type} {f g : α → Option β} : ∀ {l : List α}, (∀ x ∈ l, f x = g x) → l.filterMap f = l.filterMap g
  | [], _ => rfl
  | x :: l, h => by
    rw [List.filterMap_cons, List.filterMap_cons, h x (List.mem_cons_self ..), fm_congr fun y hy => h y (List.mem_cons_of_mem _ hy)]
theorem adjust_rev (n : Nat) : Builtin.Slice.sliceAdjust none none (-1) (n : Int) = ((n : Int) - 1, -1) := rfl
theorem places_rev (n : Nat) : Builtin.Slice.slicePlaces ((n : Int) - 1) (-1) (-1) = n := by
  unfold Builtin.Slice.slicePlaces
  have h1 : ¬ ((-1 : Int) > 0) := by omega
  simp only [h1, if_false]
  split
  · have e : (-(-1) : Int) = 1 := by decide
    rw [e, Int.ediv_one]; omega
  · omega
theorem pick_rev (xs : Array Value) : ((List.range xs.size).filterMap fun (m : Nat) => xs[(((xs.size : Int) - 1) + (m : Int) * (-1)).toNat]?).toArray = xs.toList.reverse.toArray := by
  have e : (List.range xs.size).filterMap (fun (m : Nat) => xs[(((xs.size : Int) - 1) + (m : Int) * (-1)).toNat]?) = ((List.range xs.size).map fun k => xs.size - 1 - k).filterMap (xs[·]?) := by
    rw [List.filterMap_map]
    refine fm_congr fun m hm => ?_
    have hlt : m < xs.size := by simpa using hm
    have : (((xs.size : Int) - 1) + (m : Int) * (-1)).toNat = xs.size - 1 - m := by omega
    show _ = xs[xs.size - 1 - m]?
    rw [this]
  rw [e, PySem.W.krv_range, List.filterMap_reverse, PySem.W.krv_all]
section
variable {prog : Program} {w : World} {A : Around} {E : Value → Shared → Prop} {s : Shared}
theorem sliceApplied_rev {sl : Addr} {vk : Value} {n : Nat} {Q : Int × Int × Nat → Shared → Prop} (hs : s.heap.IsSliceOf sl .none .none vk) (pk : IsPart vk (some (-1)))
    (h : Q ((n : Int) - 1, -1, n) s) : wpAny (model prog w) A (Builtin.Slice.sliceApplied (.ref sl) (pure (n : Int))) Q E s := by
  obtain ⟨os, hos, hcs, hds⟩ := id hs
  unfold Builtin.Slice.sliceApplied Builtin.Slice.sliceFields
  refine wpAny_bind (wpAny_bind (wpAny_field hos hds (x := .none) rfl (wpAny_bind (wpAny_field hos hds (x := .none) rfl (wpAny_bind (wpAny_field hos hds (x := vk) rfl (wpAny_pure ?_)))))))
  refine wpAny_bind (HT.slicePart_ pk ?_)
  show wpAny _ _ (if ((-1 : Int) == 0) = true then _ else _) _ _ s
  rw [if_neg (by decide)]
  refine wpAny_bind (HT.slicePart_ .none (wpAny_bind (HT.slicePart_ .none (wpAny_bind (wpAny_pure ?_)))))
  show wpAny _ _ (match Builtin.Slice.sliceAdjust none none (-1) (n : Int) with | (lo, hi) => pure (lo, (-1 : Int), Builtin.Slice.slicePlaces lo hi (-1))) _ _ s
  rw [adjust_rev n]
  show wpAny _ _ (pure (((n : Int) - 1), (-1 : Int), Builtin.Slice.slicePlaces ((n : Int) - 1) (-1) (-1))) _ _ s
  rw [places_rev]
  exact wpAny_pure h
theorem getItem_tuple_rev {t sl : Addr} {items : Array Value} {vk : Value} {Q : Value → Shared → Prop} (ht : IsTup s.heap t items) (hs : s.heap.IsSliceOf sl .none .none vk) (pk : IsPart vk (some (-1)))
    (h : Q (.ref s.heap.objs.size) { s with heap := s.heap.push { cls := .type "tuple", data := .seq items.toList.reverse.toArray } })
    (hsz : items.size ≤ sizeLine) : wpAny (model prog w) A (getItem (.ref t) (.ref sl)) Q E s := by
  have htake : sizeOk (.seq items.toList.reverse.toArray) := by
    show items.toList.reverse.toArray.size ≤ sizeLine
    rw [List.size_toArray, List.length_reverse, Array.length_toList]
    exact hsz
  obtain ⟨os, hos, hcs, hds⟩ := id hs
  have hTs : s.TypeIs (.ref sl) "slice" := ⟨os, hos, hcs⟩
  unfold getItem
  try with_reducible refine wpAny_holding ?_
  first | refine wpAny_bind (wpAny_pure ?_) | skip
  refine wpAny_bind (wpAny_sequenceKey ht.typeIs (by decide) ?_)
  refine wpAny_bind (wpAny_callSpecial?_slot (name := Str.ofString "__getitem__") ht.typeIs PyProof.Rows.slot_tuple_getitem
    (wpAny_call_entry PyProof.Rows.slot_tuple_getitem ht.typeIs entry_tuple_getitem ?_ (args_tuple_getitem _ _)))
  show wpAny _ _ (Builtin.Tuple.tupleItemsOf (.ref t) >>= _) _ _ s
  refine wpAny_bind (tupleItemsOf_ ht ?_)
  refine wpAny_bind (wpAny_typeOf hTs ?_)
  rw [if_pos (by decide)]
  refine wpAny_bind (sliceApplied_rev hs pk ?_)
  have hno : ¬ ((((items.size : Int) - 1) == 0 && (-1 : Int) == 1 && items.size == items.size) = true) := by
    intro q
    rw [Bool.and_eq_true, Bool.and_eq_true] at q
    have q1 : ((-1 : Int) == 1) = true := q.1.2
    exact absurd q1 (by decide)
  show wpAny _ _ (if (((items.size : Int) - 1) == 0 && (-1 : Int) == 1 && items.size == items.size) = true then _ else _) _ _ s
  rw [if_neg hno, pick_rev]
  first
    | exact wpAny_bind (m := Builtin.Tuple.tupleExact _) (wpAny_newObj_type (wpAny_pure ⟨_, rfl, wpAny_pure h⟩) htake)
    | exact wpAny_bind (m := Builtin.Tuple.tupleExact _) (wpAny_newObj_type (wpAny_bind (wpAny_pure (wpAny_pure ⟨_, rfl, wpAny_pure h⟩))) htake)
    | exact wpAny_bind (wpAny_bind (m := Builtin.Tuple.tupleExact _) (wpAny_newObj_type (wpAny_pure (wpAny_pure ⟨_, rfl, wpAny_pure h⟩)) htake))
    | exact wpAny_bind (wpAny_bind (m := Builtin.Tuple.tupleExact _) (wpAny_newObj_type (wpAny_pure ⟨_, rfl, wpAny_pure h⟩) htake))
end
section
variable {X : Cx}
def tRevA (K : PySem.W.Frag) (te : TE) : TE := fun σ H Q => te σ H fun x H1 => ∃ a xs, x = .ref a ∧ ((SqL K H1 a xs ∧ ∀ p, H1 p = none → Q (.ref p) (upd H1 p (.lst xs.reverse))) ∨ (SqT K H1 a xs ∧ ∀ p, H1 p = none → Q (.ref p) (upd H1 p (.tup xs.reverse))))
theorem pe_revA {e : Expr} {te : TE} {k : Nat} {p1 p2 p3 pos : Pos} (he : PE X e te) : PE X (.Subscript e (.Slice none none (some (.UnaryOp .USub (.Constant (.int 1) k p1) p2)) p3) pos) (tRevA X.K te) := by
  refine ⟨fun pins s σ H Q I h => ?_⟩
  refine Subscript_ (thn (he.run pins s σ H _ I h) fun v s1 ⟨x, H1, I1, r1, q1⟩ => ?_)
  obtain ⟨a, xs, ex, hx⟩ := q1
  subst ex
  cases r1
  have hst : PO X (some (.UnaryOp .USub (.Constant (.int 1) k p1) p2)) (tPart (tUn (rU fun i => .int (-i)) (tC (.int 1)))) := po_some (pe_un un_neg pe_int)
  refine wpAny_Slice (thn (po_none.run pins s1 σ H1 (fun o H2 => o = none ∧ H2 = H1) I1 ⟨rfl, rfl⟩) fun vl s2 ⟨l, H2, I2, pl, el, e2⟩ => ?_)
  subst el e2
  refine thn (po_none.run pins s2 σ H2 (fun o H3 => o = none ∧ H3 = H2) I2 ⟨rfl, rfl⟩) fun vu s3 ⟨u, H3, I3, pu, eu, e3⟩ => ?_
  subst eu e3
  refine thn (hst.run pins s3 σ H3 (fun o H4 => o = some (-1) ∧ H4 = H3) I3 ⟨1, rfl, -1, rfl, rfl, rfl⟩) fun vs s4 ⟨o, H4, I4, ps, eo, e4⟩ => ?_
  subst eo e4
  have I5 : Inv X pins σ H4 { s4 with heap := s4.heap.push { cls := .type "slice", data := .fields #[vl, vu, vs] } } := I4.kept (t' := s4.toks) fun b ob q => Heap.get?_push_of_some _ q
  show wpAny (model X.prog X.w) X.A (subscriptTail e (.Slice none none (some (.UnaryOp .USub (.Constant (.int 1) k p1) p2)) p3) (.ref a) (.ref s4.heap.objs.size)) (EP X pins σ Q) X.xe { s4 with heap := s4.heap.push { cls := .type "slice", data := .fields #[vl, vu, vs] } }
  rcases hx with ⟨hx, q⟩ | ⟨hx, q⟩
  · obtain ⟨its, r, ht, hz⟩ := I5.list hx
    have hlen := r.length
    refine tail_any (ops := [.ref a, .ref s4.heap.objs.size]) ht.isList.typeIs (PySem.slot_list_getitem.lookup) ?_ (by with_unfolding_all rfl)
    refine wpAny_getItem_list_slice ht.isList (Heap.IsSliceOf.new _ vl vu vs) pl pu ps (by decide) ?_ (by rw [List.size_toArray]; omega)
    rw [PySem.W.krv_pick]
    refine ⟨.ref _, _, I5.laid (t' := s4.toks) (o := .lst xs.reverse) (fun b ob q => Heap.get?_push_of_some _ q) (Nat.le_refl _) ?_, rfl, q _ (I5.hok.fresh (Nat.le_refl _))⟩
    exact ⟨by rw [List.length_reverse]; exact hz, _, 0, r.reverse, Heap.get?_push_size _ rfl⟩
  · obtain ⟨its, r, ht, hz⟩ := I5.tuple hx
    have hlen := r.length
    refine tail_any (ops := [.ref a, .ref s4.heap.objs.size]) ht.typeIs (PyProof.Rows.slot_tuple_getitem.lookup) ?_ (by with_unfolding_all rfl)
    cases pl
    cases pu
    refine getItem_tuple_rev ht (Heap.IsSliceOf.new _ .none .none vs) ps ?_ (by rw [List.size_toArray]; omega)
    refine ⟨.ref _, _, I5.laid (t' := s4.toks) (o := .tup xs.reverse) (fun b ob q => Heap.get?_push_of_some _ q) (Nat.le_refl _) ?_, rfl, q _ (I5.hok.fresh (Nat.le_refl _))⟩
    exact ⟨by rw [List.length_reverse]; exact hz, _, r.reverse, IsTup.new _ _⟩
def fRev (d : D) : Option Pl := match d with
  | .list a => some (.tmp (.list a.reverse))
  | .tuple a => some (.val (.tuple a.reverse))
  | _ => none
theorem sx_rev {e : Expr} {k : Nat} {p1 p2 p3 pos : Pos} {c : CE} (h : SX X e c) : SX X (.Subscript e (.Slice none none (some (.UnaryOp .USub (.Constant (.int 1) k p1) p2)) p3) pos) (cUn fRev c) := fun W tk => PEimp (pe_revA (h W tk)) (by
  rintro σ H Q ⟨L, ρ, G, B, rel, h⟩
  refine ⟨L, ρ, G, B, rel, (Got.bind h).mono ?_⟩
  rintro x H1 ⟨q, ρ1, G1, _, rel1, _, fx1, h1⟩
  cases e1 : look q ρ1 with
  | none => simp only [e1] at h1; exact h1.elim
  | some d =>
    simp only [e1] at h1
    cases d <;> simp only [fRev] at h1 <;> try (exact h1.elim)
    · obtain ⟨a, xs, rfl, h2, h3⟩ := (fx1.look rel1 e1).lst rel1.sub
      exact ⟨a, xs, rfl, .inl ⟨.inl h2, fun p hp => Got.done rel1 h1 (.lst hp h3.reverse)⟩⟩
    · obtain ⟨a, xs, rfl, _, h2, h3⟩ := (fx1.look rel1 e1).tup rel1.sub
      exact ⟨a, xs, rfl, .inr ⟨h2, fun p hp => Got.done rel1 h1 (.tup hp h3.reverse)⟩⟩)
end
end TN
namespace TN
open PySem PySem.Spec PyProof.Rows L2
def kindEq : NameKind → NameKind → Bool := fun a b => decide (a = b)
def lookIs (ns : List (Str × NameKind)) (x : Str) (k : NameKind) : Bool := decide (ns.lookup x = some k)
def blkB (N : List Str) (sc scope : Scope) (own : List (Str × Nat)) : Bool :=
  decide (scope.kind = .function) && (scope.names.all (fun y => lookIs scope.names y.1 y.2) && (own.all (fun p => decide (N[p.2]? = some p.1)) &&
    (scope.names.all (fun y => !kindEq y.2 .free || (lookIs sc.names y.1 .cell || lookIs sc.names y.1 .free)) &&
      scope.names.all (fun y => !(kindEq y.2 .local || kindEq y.2 .cell) || (decide (y.1 ∈ own.map (·.1)) || decide (y.1 ∉ N))))))
theorem blkB_ok {N : List Str} {sc scope : Scope} {own : List (Str × Nat)} (h : blkB N sc scope own = true) : BlkOk N sc scope own := by
  simp only [blkB, Bool.and_eq_true, List.all_eq_true, decide_eq_true_eq, Bool.or_eq_true, Bool.not_eq_true', lookIs, kindEq] at h
  obtain ⟨h1, h2, h3, h4, h5⟩ := h
  refine ⟨h1, h2, h3, fun y hy e => ?_, fun y hy e => ?_⟩
  · rcases h4 y hy with z | z
    · simp [e] at z
    · exact z
  · rcases h5 y hy with z | z
    · rcases e with e | e <;> simp [e] at z
    · exact z
end TN
namespace TN
open PySem PySem.Spec PyProof.Rows L2

/-! ### f(g(..), ..): the first argument a new list, lent -/
section
variable {K : PySem.W.Frag} {L : L2.St} {B G H : Hp} {σ : L2.St} {ρ ρ' : Rho} {x : Option V} {v : V} {d : D} {a : Addr}
theorem app_get {α : Type} {l : List α} {x y : α} {i : Nat} (h : (l ++ [x])[i]? = some y) : (i < l.length ∧ l[i]? = some y) ∨ (i = l.length ∧ x = y) := by
  by_cases hi : i < l.length
  · rw [List.getElem?_append_left hi] at h; exact .inl ⟨hi, h⟩
  · rw [List.getElem?_append_right (by omega)] at h
    have : i - l.length = 0 := by
      have := (List.getElem?_eq_some_iff.mp h).1
      simp at this; omega
    rw [this] at h
    simp at h
    exact .inr ⟨by omega, h⟩
theorem app_getI {α : Type} {l : List α} {x y : α} {i : Nat} (h : l[i]? = some y) : (l ++ [x])[i]? = some y := by
  rw [List.getElem?_append_left (List.getElem?_eq_some_iff.mp h).1]; exact h
theorem Rel.more (r : Rel K L B σ ρ G H) (h1 : G a = none) (h2 : B a = none) (c : Cont K G H a d) (hs : ∀ (j : Nat) (p : D × Md), ρ[j]? = some (some p) → p.2.isFz = false → σ[j]? ≠ some (some (.ref a))) :
    Rel K L B (σ ++ [some (.ref a)]) (ρ ++ [some (d, .own)]) G H := by
  refine ⟨r.sub, r.base, by simp [r.len], fun i p hp => ?_, fun i j p q v hij hp hq hf hf' hv hv' => ?_, fun j v hj => ?_⟩
  · rcases app_get hp with ⟨hi, hp⟩ | ⟨hi, e⟩
    · obtain ⟨v, h3, h4⟩ := r.slots i p hp
      exact ⟨v, app_getI h3, h4⟩
    · cases e
      refine ⟨.ref a, ?_, a, rfl, h1, h2, c⟩
      rw [hi, r.len, List.getElem?_append_right (Nat.le_refl _)]; simp
  · rcases app_get hp with ⟨hi, hp⟩ | ⟨hi, e⟩
    · rcases app_get hq with ⟨hj, hq⟩ | ⟨hj, e'⟩
      · rcases app_get hv with ⟨_, hv⟩ | ⟨z, _⟩
        · rcases app_get hv' with ⟨_, hv'⟩ | ⟨z, _⟩
          · exact r.sep i j p q v hij hp hq hf hf' hv hv'
          · rw [← r.len] at z; omega
        · rw [← r.len] at z; omega
      · cases e'
        rcases app_get hv with ⟨_, hv⟩ | ⟨z, _⟩
        · rcases app_get hv' with ⟨z, _⟩ | ⟨_, z⟩
          · rw [← r.len] at z; omega
          · cases z; exact hs i p hp hf hv
        · rw [← r.len] at z; omega
    · cases e
      rcases app_get hq with ⟨hj, hq⟩ | ⟨hj, e'⟩
      · rcases app_get hv with ⟨z, _⟩ | ⟨_, z⟩
        · rw [← r.len] at z; omega
        · cases z
          rcases app_get hv' with ⟨_, hv'⟩ | ⟨z, _⟩
          · exact hs j q hq hf' hv'
          · rw [← r.len] at z; omega
      · omega
  · obtain ⟨h3, d', m, h4, h5⟩ := r.lent j v hj
    exact ⟨app_getI h3, d', m, app_getI h4, h5⟩
theorem PlA.more : ∀ {vs : List V} {ps : List Pl}, PlA K σ G vs ps → PlA K (σ ++ [x]) G vs ps
  | _, _, .nil => .nil
  | _, _, .cons (p := p) h t => .cons (by
      cases p with
      | val d => exact h
      | tmp d => exact h
      | slot i => exact app_getI (show σ[i]? = some (some _) from h)) t.more
end
section
variable {X : Cx} {k n : Nat} {f : Addr} {fd : FuncData} {pn : List Str} {M : FM} {x : Str} {p pos : Pos} {e : Expr} {es : List Expr} {ce : CE} {cr : CA}
end
end TN
namespace TN
open PySem PySem.Spec PyProof.Rows L2

/-! ### calls, plainly -/
def noSlot : Pl → Bool
  | .slot _ => false
  | _ => true
theorem outAt_no {j : Nat} : ∀ {ps : List Pl} {outs : List Slot}, ps.all noSlot = true → outAt j ps outs = none
  | [], _, _ => by unfold outAt; rfl
  | p :: ps, [], _ => by unfold outAt; rfl
  | p :: ps, o :: os, h => by
    simp only [List.all_cons, Bool.and_eq_true] at h
    unfold outAt
    rw [if_neg, outAt_no h.2]
    cases p with
    | slot i => simp [noSlot] at h
    | val d => exact Bool.false_ne_true
    | tmp d => exact Bool.false_ne_true
theorem gbAt_none {ps : List Pl} {outs : List Slot} {j : Nat} (h : outAt j ps outs = none) (s : Slot) : gbAt ps outs j s = s := by
  unfold gbAt
  split <;> first | rfl | (rw [h])
theorem gb_no {ps : List Pl} {outs : List Slot} (h : ps.all noSlot = true) : ∀ (ρ : Rho) (j : Nat), gb ps outs j ρ = ρ
  | [], _ => rfl
  | s :: r, j => by
    unfold gb
    rw [gb_no h r (j + 1), gbAt_none (outAt_no h)]
theorem noDup_no {ps : List Pl} (h : ps.all noSlot = true) : noDup ps = true := by
  induction ps with
  | nil => rfl
  | cons p ps ih =>
    simp only [List.all_cons, Bool.and_eq_true] at h
    cases p with
    | slot i => exact absurd h.1 Bool.false_ne_true
    | val d => exact ih h.2
    | tmp d => exact ih h.2
theorem callM_no {M : FM} {ps : List Pl} {ρ : Rho} {as : List (D × Md)} {d : D} {fr : Bool} (h : ps.all noSlot = true) (ha : argsOf ps ρ = some as) (hM : ∃ outs, M as = .ok d fr outs) : callM M ps ρ = .ok (plR d fr) ρ := by
  obtain ⟨outs, hM⟩ := hM
  unfold callM
  simp only [ha, noDup_no h, if_true, hM, gb_no h]
theorem outAt_only {i j : Nat} (hij : j ≠ i) : ∀ {ps : List Pl} {outs : List Slot}, ps.all (fun p => noSlot p || isSlot i p) = true → outAt j ps outs = none
  | [], _, _ => by unfold outAt; rfl
  | p :: ps, [], _ => by unfold outAt; rfl
  | p :: ps, o :: os, h => by
    simp only [List.all_cons, Bool.and_eq_true] at h
    unfold outAt
    rw [if_neg, outAt_only hij h.2]
    intro z
    rw [isSlot_iff] at z
    subst z
    have := h.1
    simp [noSlot] at this
    have := isSlot_iff.mp this
    cases this
    exact hij rfl
theorem gb_set {i : Nat} {ps : List Pl} {outs : List Slot} {ρ : Rho} {d d' : D} {m : Md} (hi : ρ[i]? = some (some (d, m))) (hm : m = .own ∨ m = .lent) (h1 : ps.all (fun p => noSlot p || isSlot i p) = true) (ho : outAt i ps outs = some (some (d', .lent))) :
    gb ps outs 0 ρ = ρ.set i (some (d', m)) := by
  apply List.ext_getElem?
  intro j
  rw [gb_get, Nat.zero_add]
  by_cases hj : j = i
  · subst hj
    rw [hi, List.getElem?_set_self (List.getElem?_eq_some_iff.mp hi).1]
    rcases hm with rfl | rfl <;> simp only [Option.map_some, gbAt, ho]
  · rw [List.getElem?_set_ne (Ne.symm hj)]
    cases q : ρ[j]? with
    | none => rfl
    | some s => rw [Option.map_some, gbAt_none (outAt_only hj h1)]
theorem callM_lent {M : FM} {i : Nat} {ps : List Pl} {outs : List Slot} {ρ : Rho} {as : List (D × Md)} {r d d' : D} {fr : Bool} {m : Md} (hi : ρ[i]? = some (some (d, m))) (hm : m = .own ∨ m = .lent) (h1 : ps.all (fun p => noSlot p || isSlot i p) = true) (nd : noDup ps = true)
    (ha : argsOf ps ρ = some as) (hM : M as = .ok r fr outs) (ho : outAt i ps outs = some (some (d', .lent))) : callM M ps ρ = .ok (plR r fr) (ρ.set i (some (d', m))) := by
  unfold callM
  simp only [ha, nd, if_true, hM, gb_set hi hm h1 ho]

/-! ### loops, plainly -/
/-- a comprehension without tests, its element's value frozen; the state may change (draws) -/
def accF {α σ : Type} (step : σ → α → σ) (out : σ → α → D) : List α → σ → List D
  | [], _ => []
  | x :: xs, s => out s x :: accF step out xs (step s x)
def tTrue : CB := fun ρ => .ok true ρ
def RS.rv : RS → Option (D × Bool)
  | .ret d fr _ => some (d, fr)
  | _ => none
def FR.rv : FR → Option (D × Bool)
  | .ok d fr _ => some (d, fr)
  | _ => none
end TN
namespace TN
open PySem PySem.Spec PyProof.Rows L2

/-! ### what all laws begin by: a script's cell, a pen, its draws -/
def ccCell : CS := (cSeq (cIf (cTst (cBin opLt (cVar 1) (cFn fLen (cCons (cVar 0) cNil))))
  (cRet (cBin opIx (cVar 0) (cVar 1)))
  cSkip)
  (cRet (cLit (.int 0))))
def MMCell : FM := mkF 2 2 ccCell
def ccNext : CS := (cSeq (cSet 0 (cBin opMod (cBin opAdd (cVar 0) (cLit (.int 7919))) (cLit (.int 2147483647))))
  (cRet (cBin opMod (cBin opAdd (cBin opAdd (cBin opMul (cVar 0) (cVar 0)) (cBin opMul (cLit (.int 48271)) (cVar 0))) (cLit (.int 12345))) (cLit (.int 2147483629)))))
def MMNext : FM := mkF 1 1 ccNext
def ccPen : CS := (cSeq (cSet 1 (cFn fMax2 (cCons (cVar 0) (cCons (cBin opSub (cLit (.int 0)) (cVar 0)) cNil))))
  (cRet (cLst (cCons (cVar 1) (cCons (cFn fInt (cCons (cBin opGe (cVar 1) (cBin opPow (cLit (.int 10)) (cLit (.int 18)))) cNil)) (cCons (cBin opMod (cVar 1) (cLit (.int 1000003))) cNil))))))
def MMPen : FM := mkF 1 2 ccPen
def ccDraw : CS := (cSeq (cIf (cTst (cBin opEq (cBin opIx (cVar 0) (cLit (.int 1))) (cLit (.int 1))))
  (cSeq (cSet 2 (cBin opMod (cBin opIx (cVar 0) (cLit (.int 0))) (cVar 1)))
  (cSeq (cUnp (gPut 0 putA (cLit (.int 0))) (cBin opDiv (cBin opIx (cVar 0) (cLit (.int 0))) (cVar 1)))
  (cRet (cVar 2))))
  cSkip)
  (cSeq (cUnp (gPut 0 putA (cLit (.int 2))) (cCall MMNext (cCons (cBin opAdd (cCall MMNext (cCons (cBin opIx (cVar 0) (cLit (.int 2))) cNil)) (cLit (.int 7))) cNil)))
  (cRet (cBin opMod (cBin opDiv (cBin opIx (cVar 0) (cLit (.int 2))) (cLit (.int 64))) (cVar 1)))))
def MMDraw : FM := mkF 2 3 ccDraw
/-! equations -/
theorem opAdd_i (i j : Int) : opAdd (.int i) (.int j) = some (.val (.int (i + j))) := rfl
theorem opAdd_t (a b : List D) : opAdd (.tuple a) (.tuple b) = if a.length + b.length ≤ 16777216 then some (.val (.tuple (a ++ b))) else none := rfl
theorem opAdd_l (a b : List D) : opAdd (.list a) (.list b) = if a.length + b.length ≤ 16777216 then some (.tmp (.list (a ++ b))) else none := rfl
theorem opAdd_s (a b : Str) : opAdd (.str a) (.str b) = if a.length + b.length ≤ 16777216 then some (.val (.str (a ++ b))) else none := rfl
theorem opSub_i (i j : Int) : opSub (.int i) (.int j) = some (.val (.int (i - j))) := rfl
theorem opMul_i (i j : Int) : opMul (.int i) (.int j) = if mulB i j = true then some (.val (.int (i * j))) else none := rfl
theorem opMod_i (i j : Int) : opMod (.int i) (.int j) = if 0 < j then some (.val (.int (i % j))) else none := rfl
theorem opDiv_i (i j : Int) : opDiv (.int i) (.int j) = if 0 < j ∧ j < 10000000000000000000000000000000000000000000000000000000000000000000000 then some (.val (.int (i / j))) else none := rfl
theorem opPow_i (i j : Int) : opPow (.int i) (.int j) = if 0 ≤ j ∧ j ≤ 1000 ∧ i.natAbs < 18446744073709551616 then some (.val (.int (i ^ j.toNat))) else none := rfl
theorem opNeg_i (i : Int) : opNeg (.int i) = some (.val (.int (-i))) := rfl
theorem opEq_int (i j : Int) : opEq (.int i) (.int j) = some (.val (.bool (decide (i = j)))) := by
  have : PyData.eqv (.int i) (.int j) = decide (i = j) := by simp only [PyData.eqv]; by_cases h : i = j <;> simp [h]
  unfold opEq
  rw [if_pos ⟨rfl, rfl⟩, this]
theorem opNe_int (i j : Int) : opNe (.int i) (.int j) = some (.val (.bool (!decide (i = j)))) := by
  have : PyData.eqv (.int i) (.int j) = decide (i = j) := by simp only [PyData.eqv]; by_cases h : i = j <;> simp [h]
  unfold opNe
  rw [if_pos ⟨rfl, rfl⟩, this]
theorem opLt_i (f : Int → Int → Bool) (i j : Int) : opLtG f (.int i) (.int j) = some (.val (.bool (f i j))) := rfl
theorem opIx_l (a : List D) (i : Int) : opIx (.list a) (.int i) = (atI a i).map .val := rfl
theorem opIx_t (a : List D) (i : Int) : opIx (.tuple a) (.int i) = (atI a i).map .val := rfl
theorem opIsN_i (x : D) : opIsN x .none = some (.val (.bool (isNonD x))) := rfl
theorem opNotN_i (x : D) : opNotN x .none = some (.val (.bool (!isNonD x))) := rfl
theorem fLen_l (a : List D) : fLen [.list a] = some (.val (.int a.length)) := rfl
theorem fLen_t (a : List D) : fLen [.tuple a] = some (.val (.int a.length)) := rfl
theorem fInt_i (i : Int) : fInt [.int i] = some (.val (.int i)) := rfl
theorem fInt_b (b : Bool) : fInt [.bool b] = some (.val (.int (if b = true then 1 else 0))) := rfl
theorem fMax2_i (i j : Int) : fMax2 [.int i, .int j] = some (.val (.int (if j > i then j else i))) := rfl
theorem fMin2_i (i j : Int) : fMin2 [.int i, .int j] = some (.val (.int (if j < i then j else i))) := rfl
theorem fTuple_l (a : List D) : fTuple [.list a] = some (.val (.tuple a)) := rfl
theorem fTuple_t (a : List D) : fTuple [.tuple a] = some (.val (.tuple a)) := rfl
theorem fList_l (a : List D) : fListA [.list a] = some (.tmp (.list a)) := rfl
theorem fList_t (a : List D) : fListA [.tuple a] = some (.tmp (.list a)) := rfl
theorem fAppend_i (a : List D) (x : D) : fAppend (.list a) [x] = if a.length < 16777216 then some (.list (a ++ [x]), .none) else none := rfl
theorem fExtend_l (a b : List D) : fExtend (.list a) [.list b] = if a.length + b.length ≤ 16777216 then some (.list (a ++ b), .none) else none := rfl
theorem fExtend_t (a b : List D) : fExtend (.list a) [.tuple b] = if a.length + b.length ≤ 16777216 then some (.list (a ++ b), .none) else none := rfl
theorem putA_i (a : List D) (i : Int) (d : D) : putA (.list a) (.int i) d = match ixN a.length i with
    | some j => some (.list (a.set j d))
    | none => none := rfl
theorem opSl_l (a : List D) (lo hi : Option Int) : opSl (.list a) lo hi = some (.tmp (.list (cutL a lo hi))) := rfl
theorem opSl_t (a : List D) (lo hi : Option Int) : opSl (.tuple a) lo hi = some (.val (.tuple (cutL a lo hi))) := rfl
theorem atI_nat {α : Type} (a : List α) (k : Nat) (x : α) (h : a[k]? = some x) : atI a (k : Int) = some x := by
  have hk : k < a.length := (List.getElem?_eq_some_iff.mp h).1
  unfold atI ixN
  simp [hk]
  exact (List.getElem?_eq_some_iff.mp h).2
def Pen.next (p : Pen) (m : Int) : Pen := if p.f = 1 then ⟨p.a / m, p.f, p.s⟩ else ⟨p.a, p.f, nextI (nextI p.s + 7)⟩
def penOf (c : Int) : Pen := ⟨if c < 0 then -c else c, if 1000000000000000000 ≤ (if c < 0 then -c else c) then 1 else 0, (if c < 0 then -c else c) % 1000003⟩
def cellAt (ns : List Int) (k : Nat) : Int := ns.getD k 0
theorem Pen.draw_ge (p : Pen) {m : Int} (h : 0 < m) : 0 ≤ p.draw m := by
  unfold Pen.draw; split <;> exact Int.emod_nonneg _ (by omega)
theorem Pen.draw_lt (p : Pen) {m : Int} (h : 0 < m) : p.draw m < m := by
  unfold Pen.draw; split <;> exact Int.emod_lt_of_pos _ h
theorem next_run (s : Int) : ∃ outs, MMNext [(.int s, .fz)] = .ok (.int (nextI s)) false outs := by
  have h1 : 0 ≤ (s + 7919) % 2147483647 := Int.emod_nonneg _ (by decide)
  have h2 : (s + 7919) % 2147483647 < 2147483647 := Int.emod_lt_of_pos _ (by decide)
  have hm : mulB ((s + 7919) % 2147483647) ((s + 7919) % 2147483647) = true := by
    unfold mulB; simp; omega
  have hm2 : mulB 48271 ((s + 7919) % 2147483647) = true := by
    unfold mulB; simp
  refine ⟨[some (.int ((s + 7919) % 2147483647), .fz)], ?_⟩
  simp [MMNext, ccNext, mkF, RS.rv, FR.rv, cSeq, cIf, cTst, cSet, cRet, cRetN, retP, cBin, cUn, cFn, cCons, cNil, cVar, cLit, cUnp, gPut, gNm, gTp, gsCons, gsNil, cFz, cDrop, cSkip, cAnd, cOr, cNot, cAndV, cOrV, cNotV, cIte, cTup, cLst, cCall, cPar, cAugI, cMutL, cMut, TN.R.bind, TN.R.toS, TN.R.toSB, look, lookA, TN.R.ofOpt, store, canSet, frzA, frz, plR, ownAt, opAdd_i, opAdd_t, opAdd_l, opAdd_s, opSub_i, opMul_i, opMod_i, opDiv_i, opPow_i, opNeg_i, opEq_int, opNe_int, opLt_i, opIx_l, opIx_t, opIsN_i, opNotN_i, fLen_l, fLen_t, fInt_i, fInt_b, fMax2_i, fMin2_i, fTuple_l, fTuple_t, fList_l, fList_t, fAppend_i, fExtend_l, fExtend_t, putA_i, cPart, cNoPart, cSl, opSl_l, opSl_t, hm, hm2, nextI]
theorem cell_run (ns : List Int) (k : Nat) : ∃ outs, MMCell [(.list (ns.map .int), .fz), (.int k, .fz)] = .ok (.int (cellAt ns k)) false outs := by
  refine ⟨[some (.list (ns.map .int), .fz), some (.int k, .fz)], ?_⟩
  by_cases h : k < ns.length
  · have e : atI (ns.map PyData.int) (k : Int) = some (.int (cellAt ns k)) := atI_nat _ _ _ (by simp [cellAt, h])
    simp [MMCell, ccCell, mkF, RS.rv, FR.rv, cSeq, cIf, cTst, cSet, cRet, cRetN, retP, cBin, cUn, cFn, cCons, cNil, cVar, cLit, cUnp, gPut, gNm, gTp, gsCons, gsNil, cFz, cDrop, cSkip, cAnd, cOr, cNot, cAndV, cOrV, cNotV, cIte, cTup, cLst, cCall, cPar, cAugI, cMutL, cMut, TN.R.bind, TN.R.toS, TN.R.toSB, look, lookA, TN.R.ofOpt, store, canSet, frzA, frz, plR, ownAt, opAdd_i, opAdd_t, opAdd_l, opAdd_s, opSub_i, opMul_i, opMod_i, opDiv_i, opPow_i, opNeg_i, opEq_int, opNe_int, opLt_i, opIx_l, opIx_t, opIsN_i, opNotN_i, fLen_l, fLen_t, fInt_i, fInt_b, fMax2_i, fMin2_i, fTuple_l, fTuple_t, fList_l, fList_t, fAppend_i, fExtend_l, fExtend_t, putA_i, cPart, cNoPart, cSl, opSl_l, opSl_t, h, e]
  · have e : cellAt ns k = 0 := by unfold cellAt; simp [Nat.le_of_not_lt h]
    simp [MMCell, ccCell, mkF, RS.rv, FR.rv, cSeq, cIf, cTst, cSet, cRet, cRetN, retP, cBin, cUn, cFn, cCons, cNil, cVar, cLit, cUnp, gPut, gNm, gTp, gsCons, gsNil, cFz, cDrop, cSkip, cAnd, cOr, cNot, cAndV, cOrV, cNotV, cIte, cTup, cLst, cCall, cPar, cAugI, cMutL, cMut, TN.R.bind, TN.R.toS, TN.R.toSB, look, lookA, TN.R.ofOpt, store, canSet, frzA, frz, plR, ownAt, opAdd_i, opAdd_t, opAdd_l, opAdd_s, opSub_i, opMul_i, opMod_i, opDiv_i, opPow_i, opNeg_i, opEq_int, opNe_int, opLt_i, opIx_l, opIx_t, opIsN_i, opNotN_i, fLen_l, fLen_t, fInt_i, fInt_b, fMax2_i, fMin2_i, fTuple_l, fTuple_t, fList_l, fList_t, fAppend_i, fExtend_l, fExtend_t, putA_i, cPart, cNoPart, cSl, opSl_l, opSl_t, h, e]
theorem pen_run (c : Int) : ∃ outs, MMPen [(.int c, .fz)] = .ok (penOf c).d true outs := by
  have e : (if c < -c then -c else c) = if c < 0 then -c else c := by
    by_cases h : c < 0
    · rw [if_pos (by omega), if_pos h]
    · rw [if_neg (by omega), if_neg h]
  refine ⟨[some (.int c, .fz)], ?_⟩
  simp [MMPen, ccPen, mkF, RS.rv, FR.rv, cSeq, cIf, cTst, cSet, cRet, cRetN, retP, cBin, cUn, cFn, cCons, cNil, cVar, cLit, cUnp, gPut, gNm, gTp, gsCons, gsNil, cFz, cDrop, cSkip, cAnd, cOr, cNot, cAndV, cOrV, cNotV, cIte, cTup, cLst, cCall, cPar, cAugI, cMutL, cMut, TN.R.bind, TN.R.toS, TN.R.toSB, look, lookA, TN.R.ofOpt, store, canSet, frzA, frz, plR, ownAt, opAdd_i, opAdd_t, opAdd_l, opAdd_s, opSub_i, opMul_i, opMod_i, opDiv_i, opPow_i, opNeg_i, opEq_int, opNe_int, opLt_i, opIx_l, opIx_t, opIsN_i, opNotN_i, fLen_l, fLen_t, fInt_i, fInt_b, fMax2_i, fMin2_i, fTuple_l, fTuple_t, fList_l, fList_t, fAppend_i, fExtend_l, fExtend_t, putA_i, cPart, cNoPart, cSl, opSl_l, opSl_t, penOf, Pen.d]
  rw [e]
  simp
theorem draw_run (p : Pen) (m : Int) (h0 : 0 < m) (h1 : m < 10000000000000000000000000000000000000000000000000000000000000000000000) :
    MMDraw [(p.d, .lent), (.int m, .fz)] = .ok (.int (p.draw m)) false [some ((p.next m).d, .lent), some (.int m, .fz)] := by
  obtain ⟨o1, n1⟩ := next_run p.s
  obtain ⟨o2, n2⟩ := next_run (nextI p.s + 7)
  have c1 : ∀ ρ : Rho, callM MMNext [.val (.int p.s)] ρ = .ok (.val (.int (nextI p.s))) ρ := fun ρ => callM_no rfl rfl ⟨_, n1⟩
  have c2 : ∀ ρ : Rho, callM MMNext [.val (.int (nextI p.s + 7))] ρ = .ok (.val (.int (nextI (nextI p.s + 7)))) ρ := fun ρ => callM_no rfl rfl ⟨_, n2⟩
  by_cases hf : p.f = 1
  · simp [MMDraw, ccDraw, mkF, RS.rv, FR.rv, cSeq, cIf, cTst, cSet, cRet, cRetN, retP, cBin, cUn, cFn, cCons, cNil, cVar, cLit, cUnp, gPut, gNm, gTp, gsCons, gsNil, cFz, cDrop, cSkip, cAnd, cOr, cNot, cAndV, cOrV, cNotV, cIte, cTup, cLst, cCall, cPar, cAugI, cMutL, cMut, TN.R.bind, TN.R.toS, TN.R.toSB, look, lookA, TN.R.ofOpt, store, canSet, frzA, frz, plR, ownAt, opAdd_i, opAdd_t, opAdd_l, opAdd_s, opSub_i, opMul_i, opMod_i, opDiv_i, opPow_i, opNeg_i, opEq_int, opNe_int, opLt_i, opIx_l, opIx_t, opIsN_i, opNotN_i, fLen_l, fLen_t, fInt_i, fInt_b, fMax2_i, fMin2_i, fTuple_l, fTuple_t, fList_l, fList_t, fAppend_i, fExtend_l, fExtend_t, putA_i, cPart, cNoPart, cSl, opSl_l, opSl_t, Pen.d, hf, atI, ixN, h0, h1, Pen.draw, Pen.next]
  · simp [MMDraw, ccDraw, mkF, RS.rv, FR.rv, cSeq, cIf, cTst, cSet, cRet, cRetN, retP, cBin, cUn, cFn, cCons, cNil, cVar, cLit, cUnp, gPut, gNm, gTp, gsCons, gsNil, cFz, cDrop, cSkip, cAnd, cOr, cNot, cAndV, cOrV, cNotV, cIte, cTup, cLst, cCall, cPar, cAugI, cMutL, cMut, TN.R.bind, TN.R.toS, TN.R.toSB, look, lookA, TN.R.ofOpt, store, canSet, frzA, frz, plR, ownAt, opAdd_i, opAdd_t, opAdd_l, opAdd_s, opSub_i, opMul_i, opMod_i, opDiv_i, opPow_i, opNeg_i, opEq_int, opNe_int, opLt_i, opIx_l, opIx_t, opIsN_i, opNotN_i, fLen_l, fLen_t, fInt_i, fInt_b, fMax2_i, fMin2_i, fTuple_l, fTuple_t, fList_l, fList_t, fAppend_i, fExtend_l, fExtend_t, putA_i, cPart, cNoPart, cSl, opSl_l, opSl_t, Pen.d, hf, atI, ixN, h0, h1, Pen.draw, Pen.next, c1, c2]
/-- a draw by a name's pen -/
theorem draw_call {ρ : Rho} {i : Nat} {p : Pen} {m : Int} {md : Md} (hi : ρ[i]? = some (some (p.d, md))) (hm : md = .own ∨ md = .lent) (h0 : 0 < m) (h1 : m < 10000000000000000000000000000000000000000000000000000000000000000000000) :
    callM MMDraw [.slot i, .val (.int m)] ρ = .ok (.val (.int (p.draw m))) (ρ.set i (some ((p.next m).d, md))) := by
  refine callM_lent (as := [(p.d, .lent), (.int m, .fz)]) hi hm ?_ rfl ?_ (draw_run p m h0 h1) ?_
  · simp [noSlot, isSlot]
  · rcases hm with rfl | rfl <;> simp [argsOf, argOf, hi]
  · simp [outAt, isSlot]
theorem cell_call {ρ : Rho} (ns : List Int) (k : Nat) : callM MMCell [.val (.list (ns.map .int)), .val (.int k)] ρ = .ok (.val (.int (cellAt ns k))) ρ := callM_no rfl rfl (cell_run ns k)
theorem pen_call {ρ : Rho} (c : Int) : callM MMPen [.val (.int c)] ρ = .ok (.tmp (penOf c).d) ρ := callM_no rfl rfl (pen_run c)
end TN
namespace TN
open PySem PySem.Spec PyProof.Rows L2

/-! ### comprehensions, loops: one turn -/
def elem (g : D → Rho → Option Rho) (e : CE) (vs : List Nat) (ρ : Rho) (x : D) : Option (D × Rho) := match g x ρ with
  | some ρ1 => match e ρ1 with
    | .ok p ρ3 => match frz p ρ3 with
      | some (d, ρ4) => if wipeOk ρ4 vs = true then some (d, wipeR ρ4 vs) else none
      | none => none
    | _ => none
  | none => none
theorem compL_cons {g : D → Rho → Option Rho} {e : CE} {vs : List Nat} {ρ ρ' : Rho} {x d : D} {ds acc : List D} (h : elem g e vs ρ x = some (d, ρ')) (hl : acc.length < 16777216) :
    compL g tTrue e vs (x :: ds) acc ρ = compL g tTrue e vs ds (acc ++ [d]) ρ' := by
  unfold elem at h
  cases q : g x ρ with
  | none => simp only [q] at h; cases h
  | some ρ1 =>
    simp only [q] at h
    cases q2 : e ρ1 with
    | bad => simp only [q2] at h; cases h
    | exc y ρ3 => simp only [q2] at h; cases h
    | ok p ρ3 =>
      simp only [q2] at h
      cases q3 : frz p ρ3 with
      | none => simp only [q3] at h; cases h
      | some w =>
        obtain ⟨d', ρ4⟩ := w
        simp only [q3] at h
        by_cases hw : wipeOk ρ4 vs = true
        · rw [if_pos hw] at h
          simp only [Option.some.injEq, Prod.mk.injEq] at h
          obtain ⟨rfl, rfl⟩ := h
          simp only [compL, q, tTrue, q2, q3, hl, hw, and_self, if_true]
        · rw [if_neg hw] at h; cases h
theorem compL_st {α σ : Type} {g : D → Rho → Option Rho} {e : CE} {vs : List Nat} {f : α → D} {I : σ → Rho → Prop} {step : σ → α → σ} {out : σ → α → D} : ∀ (xs : List α)
    (h : ∀ s x ρ, x ∈ xs → I s ρ → ∃ ρ', elem g e vs ρ (f x) = some (out s x, ρ') ∧ I (step s x) ρ') (s : σ) (ρ : Rho) (acc : List D), acc.length + xs.length ≤ 16777216 → I s ρ →
    ∃ ρ', compL g tTrue e vs (xs.map f) acc ρ = .ok (acc ++ accF step out xs s) ρ' ∧ I (xs.foldl step s) ρ'
  | [], _, s, ρ, acc, _, i => ⟨ρ, by simp [compL, accF], i⟩
  | x :: xs, h, s, ρ, acc, hl, i => by
    obtain ⟨ρ', h1, h2⟩ := h s x ρ (List.mem_cons_self ..) i
    simp only [List.length_cons] at hl
    obtain ⟨ρ2, h6, h7⟩ := compL_st xs (fun s y ρ hy => h s y ρ (List.mem_cons_of_mem _ hy)) (step s x) ρ' (acc ++ [out s x]) (by simp; omega) h2
    refine ⟨ρ2, ?_, h7⟩
    rw [List.map_cons, compL_cons h1 (by omega), h6]
    simp [accF]
theorem compL_D {g : D → Rho → Option Rho} {e : CE} {vs : List Nat} {ρ : Rho} {out : D → D} : ∀ (ds acc : List D), acc.length + ds.length ≤ 16777216 → (∀ x, x ∈ ds → elem g e vs ρ x = some (out x, ρ)) →
    compL g tTrue e vs ds acc ρ = .ok (acc ++ ds.map out) ρ
  | [], acc, _, _ => by simp [compL]
  | x :: ds, acc, hl, h => by
    simp only [List.length_cons] at hl
    rw [compL_cons (h x (List.mem_cons_self ..)) (by omega), compL_D ds _ (by simp; omega) fun y hy => h y (List.mem_cons_of_mem _ hy)]
    simp
theorem back_wipe {ρ : Rho} : ∀ {vs : List Nat}, backR ρ (wipeR ρ vs) vs = ρ := by
  intro vs
  apply List.ext_getElem?
  intro i
  by_cases hi : i ∈ vs
  · rw [backR_in (wipeR_length ρ vs).symm hi]
  · rw [backR_out hi, wipeR_out hi]
/-- a comprehension that changes nothing -/
theorem comp_D {ci : CI} {g : D → Rho → Option Rho} {e : CE} {vs : List Nat} {ρ ρ1 : Rho} {ds : List D} {out : D → D} (h1 : ci ρ = .ok ds ρ1) (h2 : wipeOk ρ1 vs = true) (hl : ds.length ≤ 16777216)
    (h : ∀ x, x ∈ ds → elem g e vs (wipeR ρ1 vs) x = some (out x, wipeR ρ1 vs)) : cComp ci g tTrue e vs ρ = .ok (.tmp (.list (ds.map out))) ρ1 := by
  unfold cComp
  simp only [h1, h2, if_true, compL_D ds [] (by simpa using hl) h, List.nil_append, back_wipe]
theorem comp_map {α : Type} {ci : CI} {g : D → Rho → Option Rho} {e : CE} {vs : List Nat} {ρ ρ1 : Rho} {xs : List α} {f out : α → D} (h1 : ci ρ = .ok (xs.map f) ρ1) (h2 : wipeOk ρ1 vs = true) (hl : xs.length ≤ 16777216)
    (h : ∀ x, x ∈ xs → elem g e vs (wipeR ρ1 vs) (f x) = some (out x, wipeR ρ1 vs)) : cComp ci g tTrue e vs ρ = .ok (.tmp (.list (xs.map out))) ρ1 := by
  obtain ⟨ρ', h3, h4⟩ := compL_st (σ := Unit) (I := fun _ ρ' => ρ' = wipeR ρ1 vs) (step := fun _ _ => ()) (out := fun _ x => out x) xs (fun _ x ρ' hx e => by
    subst e
    exact ⟨_, h x hx, rfl⟩) () (wipeR ρ1 vs) [] (by simpa using hl) rfl
  subst h4
  have : ∀ xs : List α, accF (fun (_ : Unit) (_ : α) => ()) (fun _ x => out x) xs () = xs.map out := by
    intro xs
    induction xs with
    | nil => rfl
    | cons x xs ih => simp [accF, ih]
  unfold cComp
  simp only [h1, h2, if_true, h3, this, List.nil_append, back_wipe]
/-! ### what is returned -/
theorem FR.rv_ok {r : FR} {d : D} {fr : Bool} (h : r.rv = some (d, fr)) : ∃ outs, r = .ok d fr outs := by
  cases r with
  | ok a b o => simp only [FR.rv, Option.some.injEq, Prod.mk.injEq] at h; obtain ⟨rfl, rfl⟩ := h; exact ⟨o, rfl⟩
  | exc x o => cases h
  | bad => cases h
theorem RS.rv_ret {r : RS} {d : D} {fr : Bool} (h : r.rv = some (d, fr)) : ∃ ρ, r = .ret d fr ρ := by
  cases r with
  | ret a b o => simp only [RS.rv, Option.some.injEq, Prod.mk.injEq] at h; obtain ⟨rfl, rfl⟩ := h; exact ⟨o, rfl⟩
  | nx o => cases h
  | exc x o => cases h
  | bad => cases h
theorem callM_rv {M : FM} {ps : List Pl} {ρ : Rho} {as : List (D × Md)} {d : D} {fr : Bool} (h : ps.all noSlot = true) (ha : argsOf ps ρ = some as) (hM : (M as).rv = some (d, fr)) : callM M ps ρ = .ok (plR d fr) ρ := callM_no h ha (FR.rv_ok hM)
theorem nx_seq {a b : CS} {ρ ρ1 : Rho} (h : a ρ = .nx ρ1) : cSeq a b ρ = b ρ1 := by simp only [cSeq, h]
theorem rv_mkF {n m : Nat} {c : CS} {as : List (D × Md)} {d : D} {fr : Bool} (hl : as.length = n) (h : (c (as.map some ++ List.replicate (m - n) none)).rv = some (d, fr)) : (mkF n m c as).rv = some (d, fr) := by
  obtain ⟨ρ', e⟩ := RS.rv_ret h
  unfold mkF
  simp only [hl, if_true, e]; rfl
/-! ### draws by a pen in a certain slot -/
section
variable {p : Pen} {m : Int} {s0 s1 s2 s3 s4 s5 s6 s7 : Slot} {ρ : Rho}
end

/-- a slot with what doesn't matter -/
def jk (j : Option D) : Slot := match j with
  | some d => some (d, .fz)
  | none => none
/-! ### is_whole -/
def isIntD : D → Bool
  | .int _ => true
  | _ => false
def ccWhole : CS := (cRet (cAndV (cUn (opIsi "int") (cVar 0)) (cNotV (cUn (opIsi "bool") (cVar 0)))))
def MMWhole : FM := mkF 1 1 ccWhole
theorem whole_run (d : D) : (MMWhole [(d, .fz)]).rv = some (.bool (isIntD d), false) := by
  cases d <;> rfl
theorem whole_call {ρ : Rho} (d : D) : callM MMWhole [.val d] ρ = .ok (.val (.bool (isIntD d))) ρ := callM_rv rfl rfl (whole_run d)
def isTupD : D → Bool
  | .tuple _ => true
  | _ => false
def isLstD : D → Bool
  | .list _ => true
  | _ => false
def isBoolD : D → Bool
  | .bool _ => true
  | _ => false
theorem isi_tuple (d : D) : opIsi "tuple" d = some (.val (.bool (isTupD d))) := by cases d <;> rfl
theorem isi_list (d : D) : opIsi "list" d = some (.val (.bool (isLstD d))) := by cases d <;> rfl
theorem isi_bool (d : D) : opIsi "bool" d = some (.val (.bool (isBoolD d))) := by cases d <;> rfl
/-! ### equal data -/
theorem eqvAll_ints : ∀ (a b : List Int), PyData.eqvAll (a.map .int) (b.map .int) = decide (a = b)
  | [], [] => by simp [PyData.eqvAll]
  | [], _ :: _ => by simp [PyData.eqvAll]
  | _ :: _, [] => by simp [PyData.eqvAll]
  | x :: xs, y :: ys => by
    simp only [List.map_cons, PyData.eqvAll, PyData.eqv, eqvAll_ints xs ys]
    by_cases h1 : x = y
    · by_cases h2 : xs = ys
      · simp [h1, h2]
      · simp [h1, h2]
    · simp [h1]
theorem depthAll_ints : ∀ (a : List Int), PyData.depthAll (a.map .int) ≤ 1
  | [] => by simp [PyData.depthAll]
  | x :: xs => by
    have := depthAll_ints xs
    simp only [List.map_cons, PyData.depthAll, PyData.depth]
    omega
theorem canLay_ints : ∀ (a : List Int), PyData.canLayAll0 (a.map .int) = true
  | [] => by simp [PyData.canLayAll0]
  | x :: xs => by simp [PyData.canLayAll0, PyData.canLay0, canLay_ints xs]
theorem shaped_ints (a : List Int) : SeqAt.shaped (.list (a.map .int)) = true := by
  have := depthAll_ints a
  unfold SeqAt.shaped
  simp only [PyData.canLay0, canLay_ints, PyData.depth, Bool.true_and]
  exact decide_eq_true (by omega)
theorem shaped_tints (a : List Int) : SeqAt.shaped (.tuple (a.map .int)) = true := by
  have := depthAll_ints a
  unfold SeqAt.shaped
  simp only [PyData.canLay0, canLay_ints, PyData.depth, Bool.true_and]
  exact decide_eq_true (by omega)
theorem opEq_ints (a b : List Int) : opEq (.list (a.map .int)) (.list (b.map .int)) = some (.val (.bool (decide (a = b)))) := by
  unfold opEq
  rw [if_pos ⟨shaped_ints a, shaped_ints b⟩, PyData.eqv, eqvAll_ints]
theorem opNe_ints (a b : List Int) : opNe (.list (a.map .int)) (.list (b.map .int)) = some (.val (.bool (!decide (a = b)))) := by
  unfold opNe
  rw [if_pos ⟨shaped_ints a, shaped_ints b⟩, PyData.eqv, eqvAll_ints]
theorem opEq_tints (a b : List Int) : opEq (.tuple (a.map .int)) (.tuple (b.map .int)) = some (.val (.bool (decide (a = b)))) := by
  unfold opEq
  rw [if_pos ⟨shaped_tints a, shaped_tints b⟩, PyData.eqv, eqvAll_ints]
theorem opNe_tints (a b : List Int) : opNe (.tuple (a.map .int)) (.tuple (b.map .int)) = some (.val (.bool (!decide (a = b)))) := by
  unfold opNe
  rw [if_pos ⟨shaped_tints a, shaped_tints b⟩, PyData.eqv, eqvAll_ints]
theorem opEq_bool (a b : Bool) : opEq (.bool a) (.bool b) = some (.val (.bool (a == b))) := by
  unfold opEq
  rw [if_pos ⟨rfl, rfl⟩, PyData.eqv]
theorem fAll_bools (bs : List Bool) : fAll [.list (bs.map .bool)] = some (.val (.bool (bs.all id))) := by
  simp only [fAll, blsOf_map]
theorem fAll_map {α : Type} (xs : List α) (f : α → Bool) : fAll [.list (xs.map fun x => .bool (f x))] = some (.val (.bool (xs.all f))) := by
  have := fAll_bools (xs.map f)
  rw [List.map_map] at this
  rw [show (fun x => PyData.bool (f x)) = PyData.bool ∘ f from rfl, this]
  simp [List.all_map]
theorem fSum_l (ns : List Int) : fSum [.list (ns.map .int)] = some (.val (.int ns.sum)) := by simp only [fSum, seqInts, seqOf, intsOf_map]
theorem fSum_t (ns : List Int) : fSum [.tuple (ns.map .int)] = some (.val (.int ns.sum)) := by simp only [fSum, seqInts, seqOf, intsOf_map]
theorem fSorted_l (ns : List Int) (h : ns.length ≤ 16777216) : fSorted [.list (ns.map .int)] = some (.tmp (.list ((sortI ns).map .int))) := by
  simp only [fSorted, sortDs, intsOf_map, h, if_true, Option.map_some]
theorem fLenSet_l (ns : List Int) (h : ns.length ≤ 4000) : fLenSet (.list (ns.map .int)) = some (.val (.int ((ddI ns).length : Nat))) := by
  simp only [fLenSet, seqInts, seqOf, intsOf_map, h, if_true]
theorem fLenSet_t (ns : List Int) (h : ns.length ≤ 4000) : fLenSet (.tuple (ns.map .int)) = some (.val (.int ((ddI ns).length : Nat))) := by
  simp only [fLenSet, seqInts, seqOf, intsOf_map, h, if_true]
/-! ### cuts -/
theorem cut_mid {α : Type} (a : List α) (j k : Nat) : cutL a (some (j : Int)) (some (k : Int)) = (a.take k).drop j := by
  unfold cutL
  rw [HT.sIx_nat, HT.sIx_nat, List.drop_take]
  by_cases h : j ≤ a.length
  · rw [Nat.min_eq_left h]
    by_cases h2 : k ≤ a.length
    · rw [Nat.min_eq_left h2]
    · rw [Nat.min_eq_right (by omega), List.take_of_length_le (by simp), List.take_of_length_le (by simp; omega)]
  · rw [Nat.min_eq_right (Nat.le_of_not_le h), List.drop_eq_nil_of_le (Nat.le_refl _), List.drop_eq_nil_of_le (Nat.le_of_not_le h)]
    simp
theorem rgD_nat (n : Nat) : rgD 0 (n : Int) = (List.range n).map fun i => PyData.int (i : Nat) := by
  unfold rgD
  simp
end TN
namespace TN
open PySem PySem.Spec PyProof.Rows L2
/-! ### loops by what was walked -/
/-- a sequence of statements, its value -/
theorem seq_rv {a b : CS} {ρ ρ1 : Rho} {v : Option (D × Bool)} (h : a ρ = .nx ρ1) (h2 : (b ρ1).rv = v) : (cSeq a b ρ).rv = v := by rw [nx_seq h]; exact h2
theorem atI_ints {r : List Int} {i : Nat} (h : i < r.length) : atI (r.map PyData.int) (i : Int) = some (.int (r.getD i 0)) := atI_nat _ _ _ (by simp [h])
/-! ### ranges -/
theorem lstRg1 {a : CE} {ρ ρ1 : Rho} {j : Int} (ha : a ρ = .ok (.val (.int j)) ρ1) (h : rgOk 0 j = true) : cLstRg (cRg1 a) ρ = .ok (.tmp (.list ((rgI 0 j).map .int))) ρ1 := by
  unfold cLstRg cRg1
  simp only [ha, R.bind, look, h, if_true]
theorem rgOk_nat {n : Nat} (h : n ≤ 1000000) (i : Int) (h1 : i = 0 ∨ i = 1) : rgOk i (n : Int) = true := by
  unfold rgOk
  simp only [Bool.and_eq_true, decide_eq_true_eq]
  omega
theorem rgFit_nat {n : Nat} (h : n ≤ 1000000) : rgFit (n : Int) = true := by
  unfold rgFit
  simp only [Bool.and_eq_true, decide_eq_true_eq]
  omega
theorem rng1 {a : CE} {ρ ρ1 : Rho} {n : Nat} (ha : a ρ = .ok (.val (.int (n : Nat))) ρ1) (h : n ≤ 1000000) : cRng1 a ρ = .ok ((List.range n).map fun (k : Nat) => .int k) ρ1 := by
  unfold cRng1
  simp only [ha, R.bind, look, rgFit_nat h, if_true, rgD_nat]
/-! ### steps by their parts -/
theorem bin_ok {f : D → D → Option Pl} {a b : CE} {ρ ρ1 ρ2 : Rho} {p q r : Pl} {x y : D} (ha : a ρ = .ok p ρ1) (hb : b ρ1 = .ok q ρ2) (hx : look p ρ2 = some x) (hy : look q ρ2 = some y) (hf : f x y = some r) : cBin f a b ρ = .ok r ρ2 := by
  unfold cBin
  simp only [ha, hb, R.bind, hx, hy, hf, R.ofOpt]
theorem fn1_ok {f : List D → Option Pl} {a : CE} {ρ ρ1 : Rho} {p r : Pl} {x : D} (ha : a ρ = .ok p ρ1) (hx : look p ρ1 = some x) (hf : f [x] = some r) : cFn f (cCons a cNil) ρ = .ok r ρ1 := by
  unfold cFn cCons cNil
  simp only [ha, R.bind, lookA, hx, hf, R.ofOpt]
theorem call1_ok {M : FM} {a : CE} {ρ ρ1 : Rho} {p : Pl} {r : R Pl} (ha : a ρ = .ok p ρ1) (h : callM M [p] ρ1 = r) : cCall M (cCons a cNil) ρ = r := by
  unfold cCall cCons cNil
  simp only [ha, R.bind, h]
theorem call2_ok {M : FM} {a b : CE} {ρ ρ1 ρ2 : Rho} {p q : Pl} {r : R Pl} (ha : a ρ = .ok p ρ1) (hb : b ρ1 = .ok q ρ2) (h : callM M [p, q] ρ2 = r) : cCall M (cCons a (cCons b cNil)) ρ = r := by
  unfold cCall cCons cNil
  simp only [ha, hb, R.bind, h]
theorem tst_ok {c : CE} {ρ ρ1 : Rho} {p : Pl} {b : Bool} (h : c ρ = .ok p ρ1) (hl : look p ρ1 = some (.bool b)) : cTst c ρ = .ok b ρ1 := by
  unfold cTst
  simp only [h, R.bind, hl]
theorem not_ok {t : CB} {ρ ρ1 : Rho} {b : Bool} (h : t ρ = .ok b ρ1) : cNot t ρ = .ok (!b) ρ1 := by
  unfold cNot
  simp only [h, R.bind]
theorem or_no {a b : CB} {ρ ρ1 : Rho} {r : R Bool} (h : a ρ = .ok false ρ1) (h2 : b ρ1 = r) : cOr a b ρ = r := by
  unfold cOr
  simp only [h, R.bind, if_neg Bool.false_ne_true, h2]
theorem if_no {t : CB} {a b : CS} {ρ ρ1 : Rho} {r : RS} (h : t ρ = .ok false ρ1) (h2 : b ρ1 = r) : cIf t a b ρ = r := by
  unfold cIf
  simp only [h, R.toSB, if_neg Bool.false_ne_true, h2]
theorem ret_rv {c : CE} {ρ ρ1 : Rho} {d : D} (h : c ρ = .ok (.val d) ρ1) : (cRet c ρ).rv = some (d, false) := by
  unfold cRet
  simp only [h, R.toS, retP]; rfl
theorem ret_rvT {c : CE} {ρ ρ1 : Rho} {d : D} (h : c ρ = .ok (.tmp d) ρ1) : (cRet c ρ).rv = some (d, true) := by
  unfold cRet
  simp only [h, R.toS, retP]; rfl
theorem set_tmp {i : Nat} {c : CE} {ρ ρ1 : Rho} {d : D} (h : c ρ = .ok (.tmp d) ρ1) (hs : canSet ρ1 i = true) : cSet i c ρ = .nx (ρ1.set i (some (d, .own))) := by
  unfold cSet
  simp only [h, R.toS, store, hs, if_true]
theorem var_fz {i : Nat} {ρ : Rho} {d : D} (h : ρ[i]? = some (some (d, .fz))) : cVar i ρ = .ok (.val d) ρ := by unfold cVar; simp only [h]
theorem var_own {i : Nat} {ρ : Rho} {d : D} (h : ρ[i]? = some (some (d, .own))) : cVar i ρ = .ok (.slot i) ρ := by unfold cVar; simp only [h]
theorem var_lent {i : Nat} {ρ : Rho} {d : D} (h : ρ[i]? = some (some (d, .lent))) : cVar i ρ = .ok (.slot i) ρ := by unfold cVar; simp only [h]
theorem look_slot {i : Nat} {ρ : Rho} {d : D} {m : Md} (h : ρ[i]? = some (some (d, m))) : look (.slot i) ρ = some d := by unfold look; simp only [h]
theorem it_val {c : CE} {ρ ρ1 : Rho} {d : D} {ds : List D} (h : c ρ = .ok (.val d) ρ1) (hd : seqD d = some ds) : cIt c ρ = .ok ds ρ1 := by
  unfold cIt cFz
  simp only [h, R.bind, frz, hd]
theorem it_tmp {c : CE} {ρ ρ1 : Rho} {d : D} {ds : List D} (h : c ρ = .ok (.tmp d) ρ1) (hd : seqD d = some ds) : cIt c ρ = .ok ds ρ1 := by
  unfold cIt cFz
  simp only [h, R.bind, frz, hd]
theorem tupc_ok {c : CE} {ρ ρ1 : Rho} {ds : List D} (h : c ρ = .ok (.tmp (.list ds)) ρ1) : cFn fTuple (cCons c cNil) ρ = .ok (.val (.tuple ds)) ρ1 := fn1_ok h rfl rfl
/-! ### sorted ints -/
theorem sortI_perm (l : List Int) : (sortI l).Perm l := List.mergeSort_perm _ _
theorem sortI_pw (l : List Int) : (sortI l).Pairwise (· ≤ ·) := by
  have := List.pairwise_mergeSort (le := fun a b : Int => decide (a ≤ b)) (fun a b c h1 h2 => by simp at h1 h2 ⊢; omega) (fun a b => by simp; omega) l
  exact this.imp fun h => by simpa using h
theorem sortI_iff {l m : List Int} (hm : m.Pairwise (· ≤ ·)) : sortI l = m ↔ l.Perm m :=
  ⟨fun h => h ▸ (sortI_perm l).symm, fun h => List.Perm.eq_of_pairwise (le := (· ≤ ·)) (fun a b _ _ h1 h2 => Int.le_antisymm h1 h2) (sortI_pw l) hm ((sortI_perm l).trans h)⟩
theorem rgI_pw (a b : Int) : (rgI a b).Pairwise (· ≤ ·) := by
  unfold rgI
  rw [List.pairwise_map]
  exact List.pairwise_lt_range.imp fun h => by omega
/-! ### what is returned, what the parameters hold -/
def RS.rvo (n : Nat) : RS → Option (D × Bool × Rho)
  | .ret d fr ρ => some (d, fr, ρ.take n)
  | _ => none
theorem RS.rvo_ret {n : Nat} {r : RS} {d : D} {fr : Bool} {o : Rho} (h : r.rvo n = some (d, fr, o)) : ∃ ρ, r = .ret d fr ρ ∧ ρ.take n = o := by
  cases r with
  | ret a b q => simp only [RS.rvo, Option.some.injEq, Prod.mk.injEq] at h; obtain ⟨rfl, rfl, h⟩ := h; exact ⟨q, rfl, h⟩
  | nx o => cases h
  | exc x o => cases h
  | bad => cases h
theorem mkF_rvo {n m : Nat} {c : CS} {as : List (D × Md)} {d : D} {fr : Bool} {o : Rho} (hl : as.length = n) (h : (c (as.map some ++ List.replicate (m - n) none)).rvo n = some (d, fr, o)) : mkF n m c as = .ok d fr o := by
  obtain ⟨ρ', e, e2⟩ := RS.rvo_ret h
  unfold mkF
  simp only [hl, if_true, e, e2]
theorem seq_rvo {n : Nat} {a b : CS} {ρ ρ1 : Rho} {v : Option (D × Bool × Rho)} (h : a ρ = .nx ρ1) (h2 : (b ρ1).rvo n = v) : (cSeq a b ρ).rvo n = v := by rw [nx_seq h]; exact h2
theorem ar_nil {ρ : Rho} : cNil ρ = .ok [] ρ := rfl
theorem ar_cons {a : CE} {r : CA} {ρ ρ1 ρ2 : Rho} {p : Pl} {ps : List Pl} (ha : a ρ = .ok p ρ1) (hr : r ρ1 = .ok ps ρ2) : cCons a r ρ = .ok (p :: ps) ρ2 := by
  unfold cCons
  simp only [ha, hr, R.bind]
theorem lst_ok {c : CA} {ρ ρ1 ρ2 : Rho} {ps : List Pl} {ds : List D} (h : c ρ = .ok ps ρ1) (hf : frzA ps ρ1 = some (ds, ρ2)) (hl : ds.length ≤ 16777216 := by simp) : cLst c ρ = .ok (.tmp (.list ds)) ρ2 := by
  unfold cLst
  simp only [h, R.bind, hf, hl, if_true]
theorem opAdd_tt {a b : List D} (h : a.length + b.length ≤ 16777216) : opAdd (.tuple a) (.tuple b) = some (.val (.tuple (a ++ b))) := if_pos h
theorem opAdd_ll {a b : List D} (h : a.length + b.length ≤ 16777216) : opAdd (.list a) (.list b) = some (.tmp (.list (a ++ b))) := if_pos h
theorem opMul_ii {i j : Int} (h : -1000000000 < i ∧ i < 1000000000) : opMul (.int i) (.int j) = some (.val (.int (i * j))) := by
  have : mulB i j = true := by
    unfold mulB
    simp only [Bool.or_eq_true, Bool.and_eq_true, decide_eq_true_eq]
    omega
  rw [opMul_i, if_pos this]
/-! ### comprehensions with a test -/
def elemT (g : D → Rho → Option Rho) (t : CB) (e : CE) (vs : List Nat) (ρ : Rho) (x : D) : Option (Option D × Rho) := match g x ρ with
  | some ρ1 => match t ρ1 with
    | .ok true ρ2 => match e ρ2 with
      | .ok p ρ3 => match frz p ρ3 with
        | some (d, ρ4) => if wipeOk ρ4 vs = true then some (some d, wipeR ρ4 vs) else none
        | none => none
      | _ => none
    | .ok false ρ2 => if wipeOk ρ2 vs = true then some (none, wipeR ρ2 vs) else none
    | _ => none
  | none => none
theorem compL_consT {g : D → Rho → Option Rho} {t : CB} {e : CE} {vs : List Nat} {ρ ρ' : Rho} {x : D} {o : Option D} {ds acc : List D} (h : elemT g t e vs ρ x = some (o, ρ')) (hl : acc.length < 16777216) :
    compL g t e vs (x :: ds) acc ρ = compL g t e vs ds (acc ++ o.toList) ρ' := by
  unfold elemT at h
  cases q : g x ρ with
  | none => simp only [q] at h; cases h
  | some ρ1 =>
    simp only [q] at h
    cases q1 : t ρ1 with
    | bad => simp only [q1] at h; cases h
    | exc y ρ3 => simp only [q1] at h; cases h
    | ok b ρ2 =>
      cases b with
      | false =>
        simp only [q1] at h
        by_cases hw : wipeOk ρ2 vs = true
        · rw [if_pos hw] at h
          simp only [Option.some.injEq, Prod.mk.injEq] at h
          obtain ⟨rfl, rfl⟩ := h
          simp only [compL, q, q1, hw, if_true, Option.toList, List.append_nil]
        · rw [if_neg hw] at h; cases h
      | true =>
        simp only [q1] at h
        cases q2 : e ρ2 with
        | bad => simp only [q2] at h; cases h
        | exc y ρ3 => simp only [q2] at h; cases h
        | ok p ρ3 =>
          simp only [q2] at h
          cases q3 : frz p ρ3 with
          | none => simp only [q3] at h; cases h
          | some w =>
            obtain ⟨d', ρ4⟩ := w
            simp only [q3] at h
            by_cases hw : wipeOk ρ4 vs = true
            · rw [if_pos hw] at h
              simp only [Option.some.injEq, Prod.mk.injEq] at h
              obtain ⟨rfl, rfl⟩ := h
              simp only [compL, q, q1, q2, q3, hl, hw, and_self, if_true, Option.toList]
            · rw [if_neg hw] at h; cases h
theorem compL_T {α : Type} {g : D → Rho → Option Rho} {t : CB} {e : CE} {vs : List Nat} {ρ : Rho} {f : α → D} {out : α → Option D} : ∀ (xs : List α) (acc : List D), acc.length + xs.length ≤ 16777216 → (∀ x, x ∈ xs → elemT g t e vs ρ (f x) = some (out x, ρ)) →
    compL g t e vs (xs.map f) acc ρ = .ok (acc ++ xs.filterMap out) ρ
  | [], acc, _, _ => by simp [compL]
  | x :: xs, acc, hl, h => by
    simp only [List.length_cons] at hl
    rw [List.map_cons, compL_consT (h x (List.mem_cons_self ..)) (by omega), compL_T xs _ (by cases out x <;> simp <;> omega) fun y hy => h y (List.mem_cons_of_mem _ hy)]
    cases q : out x <;> simp [q]
theorem comp_T {α : Type} {ci : CI} {g : D → Rho → Option Rho} {t : CB} {e : CE} {vs : List Nat} {ρ ρ1 : Rho} {xs : List α} {f : α → D} {out : α → Option D} (h1 : ci ρ = .ok (xs.map f) ρ1) (h2 : wipeOk ρ1 vs = true) (hl : xs.length ≤ 16777216)
    (h : ∀ x, x ∈ xs → elemT g t e vs (wipeR ρ1 vs) (f x) = some (out x, wipeR ρ1 vs)) : cComp ci g t e vs ρ = .ok (.tmp (.list (xs.filterMap out))) ρ1 := by
  unfold cComp
  simp only [h1, h2, if_true, compL_T xs [] (by simpa using hl) h, List.nil_append, back_wipe]
theorem rv_mkN {n m : Nat} {c : CS} {as : List (D × Md)} {ρ' : Rho} (hl : as.length = n) (h : c (as.map some ++ List.replicate (m - n) none) = .nx ρ') : (mkF n m c as).rv = some (.none, false) := by
  unfold mkF
  simp only [hl, if_true, h]; rfl
theorem drop_ok {c : CE} {ρ ρ1 : Rho} {p : Pl} (h : c ρ = .ok p ρ1) : cDrop c ρ = .nx ρ1 := by
  unfold cDrop
  simp only [h, R.toS]
theorem mut_ok {i : Nat} {f : D → List D → Option (D × D)} {ca : CA} {ρ ρ1 ρ2 : Rho} {ps : List Pl} {xs ds : List D} {d d' y : D} {m m0 : Md} (h0 : ownAt i ρ = some (.list xs, m0)) (ha : ca ρ = .ok ps ρ1) (hf : frzA ps ρ1 = some (ds, ρ2)) (ho : ownAt i ρ2 = some (d, m)) (hm : f d ds = some (d', y)) :
    cMutL i f ca ρ = .ok (.val y) (ρ2.set i (some (d', m))) := by
  unfold cMutL
  simp only [h0]
  unfold cMut
  simp only [ha, TN.R.bind, hf, ho, hm]
theorem app_i {a : List D} {x : D} (h : a.length < 16777216) : fAppend (.list a) [x] = some (.list (a ++ [x]), .none) := if_pos h
theorem ext_l {a b : List D} (h : a.length + b.length ≤ 16777216) : fExtend (.list a) [.list b] = some (.list (a ++ b), .none) := if_pos h
theorem ext_t {a b : List D} (h : a.length + b.length ≤ 16777216) : fExtend (.list a) [.tuple b] = some (.list (a ++ b), .none) := if_pos h
theorem nodup_le {α : Type} [BEq α] [LawfulBEq α] : ∀ {r m : List α}, r.Nodup → (∀ x ∈ r, x ∈ m) → r.length ≤ m.length
  | [], _, _, _ => by simp
  | x :: r, m, h, hs => by
    rw [List.nodup_cons] at h
    have h1 := hs x (List.mem_cons_self ..)
    have := nodup_le (m := m.erase x) h.2 fun y hy => (List.mem_erase_of_ne (fun z : y = x => h.1 (by rw [← z]; exact hy))).mpr (hs y (List.mem_cons_of_mem _ hy))
    rw [List.length_erase_of_mem h1] at this
    have := List.length_pos_of_mem h1
    simp only [List.length_cons]
    omega
/-! ### sums -/
theorem sum_zero {α : Type} : ∀ l : List α, (l.map fun _ => (0 : Int)).sum = 0
  | [] => rfl
  | x :: l => by simp only [List.map_cons, List.sum_cons, sum_zero l]; rfl
theorem sum_congr {α : Type} {f g : α → Int} {l : List α} (h : ∀ x ∈ l, f x = g x) : (l.map f).sum = (l.map g).sum := by rw [List.map_congr_left h]
theorem sum_perm {l m : List Int} (h : l.Perm m) : l.sum = m.sum := by
  induction h with
  | nil => rfl
  | cons x _ ih => simp only [List.sum_cons, ih]
  | swap x y l => simp only [List.sum_cons]; omega
  | trans _ _ ih1 ih2 => rw [ih1, ih2]
theorem opNe_bool (a b : Bool) : opNe (.bool a) (.bool b) = some (.val (.bool (!(a == b)))) := by
  unfold opNe
  rw [if_pos ⟨rfl, rfl⟩, PyData.eqv]
theorem set_toT {i : Nat} {c : CE} {ρ ρ1 ρ2 : Rho} {d : D} (h : c ρ = .ok (.tmp d) ρ1) (hs : canSet ρ1 i = true) (he : ρ1.set i (some (d, .own)) = ρ2) : cSet i c ρ = .nx ρ2 := by rw [set_tmp h hs, he]
end TN
namespace TN
open PySem PySem.Spec PyProof.Rows L2

/-! ### webs, steps: what many laws look at -/
def ee_are_numbers_1 : CE := (cCall MMWhole (cCons (cVar 2) cNil))
def cc_are_numbers : CS := (cRet (cAndV (cUn (opIsi "tuple") (cVar 0)) (cAndV (cBin opEq (cFn fLen (cCons (cVar 0) cNil)) (cVar 1)) (cFn fAll (cCons (cComp (cIt (cVar 0)) (gNm 2) tTrue ee_are_numbers_1 [2]) cNil)))))
def MM_are_numbers : FM := mkF 2 3 cc_are_numbers
def cc_check_place : CS := (cIf (cOr (cNot (cTst (cCall MMWhole (cCons (cVar 1) cNil)))) (cOr (cTst (cBin opLt (cVar 1) (cLit (.int 0)))) (cTst (cBin opGe (cVar 1) (cBin opIx (cVar 0) (cLit (.int 0)))))))
  (cRaise "NoPlace")
  cSkip)
def MM_check_place : FM := mkF 2 2 cc_check_place
def ee_ties_at_1 : CE := (cVar 2)
def tt_ties_at_2 : CB := (cTst (cBin opIn (cVar 1) (cVar 3)))
def cc_ties_at : CS := (cSeq (cDrop (cCall MM_check_place (cCons (cVar 0) (cCons (cVar 1) cNil))))
  (cRet (cComp (cEnum (cBin opIx (cVar 0) (cLit (.int 1)))) (gTp 2 (gsCons (gNm 2) (gsCons (gNm 3) gsNil))) tt_ties_at_2 ee_ties_at_1 [2, 3])))
def MM_ties_at : FM := mkF 2 4 cc_ties_at
def ee_tie_counts_1 : CE := (cFn fLen (cCons (cCall MM_ties_at (cCons (cVar 0) (cCons (cVar 1) cNil))) cNil))
def cc_tie_counts : CS := (cRet (cFn fTuple (cCons (cComp (cRng1 (cBin opIx (cVar 0) (cLit (.int 0)))) (gNm 1) tTrue ee_tie_counts_1 [1]) cNil)))
def MM_tie_counts : FM := mkF 1 2 cc_tie_counts

def webD (n : Nat) (ts : List (Nat × Nat)) : D := .tuple [.int (n : Nat), .tuple (ts.map tieD)]
def absI (i : Int) : Int := if i < 0 then -i else i
def steps (ns : List Int) (ts : List (Nat × Nat)) : List Int := ts.map fun t => absI (ns.getD t.1 0 - ns.getD t.2 0)
theorem web_ties (n : Nat) (ts : List (Nat × Nat)) : opIx (webD n ts) (.int 1) = some (.val (.tuple (ts.map tieD))) := rfl
theorem web_n (n : Nat) (ts : List (Nat × Nat)) : opIx (webD n ts) (.int 0) = some (.val (.int (n : Nat))) := rfl
theorem ix_ints {ns : List Int} {k : Nat} (h : k < ns.length) : opIx (.tuple (ns.map .int)) (.int (k : Nat)) = some (.val (.int (ns.getD k 0))) := by
  rw [opIx_t, atI_ints h]; rfl
theorem ix_intsL {ns : List Int} {k : Nat} (h : k < ns.length) : opIx (.list (ns.map .int)) (.int (k : Nat)) = some (.val (.int (ns.getD k 0))) := by
  rw [opIx_l, atI_ints h]; rfl
/-! are_numbers -/
def numsOk (t : D) (n : Nat) : Bool := match t with
  | .tuple r => decide (r.length = n) && r.all isIntD
  | _ => false
theorem nums_run (t : D) {n : Nat} (hn : n ≤ 1000) : (MM_are_numbers [(t, .fz), (.int (n : Nat), .fz)]).rv = some (.bool (numsOk t n), false) := by
  refine rv_mkF rfl ?_
  show (cc_are_numbers [some (t, .fz), some (.int (n : Nat), .fz), none]).rv = _
  unfold cc_are_numbers
  cases t with
  | tuple r =>
    by_cases hl : r.length = n
    · have hc : cComp (cIt (cVar 0)) (gNm 2) tTrue ee_are_numbers_1 [2] [some (.tuple r, .fz), some (.int (n : Nat), .fz), none] = .ok (.tmp (.list (r.map fun x => .bool (isIntD x)))) [some (.tuple r, .fz), some (.int (n : Nat), .fz), none] := by
        refine comp_D (ds := r) (it_val (var_fz rfl) rfl) rfl (by omega) fun x hx => ?_
        simp [elem, ee_are_numbers_1, mkF, RS.rv, FR.rv, cSeq, cIf, cTst, cSet, cRet, cRetN, retP, cBin, cUn, cFn, cCons, cNil, cVar, cLit, cUnp, gPut, gNm, gTp, gsCons, gsNil, cFz, cDrop, cSkip, cAnd, cOr, cNot, cAndV, cOrV, cNotV, cIte, cTup, cLst, cCall, cPar, cAugI, cMutL, cMut, TN.R.bind, TN.R.toS, TN.R.toSB, look, lookA, TN.R.ofOpt, store, canSet, frzA, frz, plR, ownAt, opAdd_i, opAdd_t, opAdd_l, opAdd_s, opSub_i, opMul_i, opMod_i, opDiv_i, opPow_i, opNeg_i, opEq_int, opNe_int, opLt_i, opIx_l, opIx_t, opIsN_i, opNotN_i, fLen_l, fLen_t, fInt_i, fInt_b, fMax2_i, fMin2_i, fTuple_l, fTuple_t, fList_l, fList_t, fAppend_i, fExtend_l, fExtend_t, putA_i, cPart, cNoPart, cSl, opSl_l, opSl_t, wipeR, wipeOk, whole_call]
      have ha := fAll_map r isIntD
      simp [mkF, RS.rv, FR.rv, cSeq, cIf, cTst, cSet, cRet, cRetN, retP, cBin, cUn, cFn, cCons, cNil, cVar, cLit, cUnp, gPut, gNm, gTp, gsCons, gsNil, cFz, cDrop, cSkip, cAnd, cOr, cNot, cAndV, cOrV, cNotV, cIte, cTup, cLst, cCall, cPar, cAugI, cMutL, cMut, TN.R.bind, TN.R.toS, TN.R.toSB, look, lookA, TN.R.ofOpt, store, canSet, frzA, frz, plR, ownAt, opAdd_i, opAdd_t, opAdd_l, opAdd_s, opSub_i, opMul_i, opMod_i, opDiv_i, opPow_i, opNeg_i, opEq_int, opNe_int, opLt_i, opIx_l, opIx_t, opIsN_i, opNotN_i, fLen_l, fLen_t, fInt_i, fInt_b, fMax2_i, fMin2_i, fTuple_l, fTuple_t, fList_l, fList_t, fAppend_i, fExtend_l, fExtend_t, putA_i, cPart, cNoPart, cSl, opSl_l, opSl_t, isi_tuple, isTupD, hl, hc, ha, numsOk]
    · have hl2 : ¬ ((r.length : Int) = (n : Int)) := by omega
      simp [mkF, RS.rv, FR.rv, cSeq, cIf, cTst, cSet, cRet, cRetN, retP, cBin, cUn, cFn, cCons, cNil, cVar, cLit, cUnp, gPut, gNm, gTp, gsCons, gsNil, cFz, cDrop, cSkip, cAnd, cOr, cNot, cAndV, cOrV, cNotV, cIte, cTup, cLst, cCall, cPar, cAugI, cMutL, cMut, TN.R.bind, TN.R.toS, TN.R.toSB, look, lookA, TN.R.ofOpt, store, canSet, frzA, frz, plR, ownAt, opAdd_i, opAdd_t, opAdd_l, opAdd_s, opSub_i, opMul_i, opMod_i, opDiv_i, opPow_i, opNeg_i, opEq_int, opNe_int, opLt_i, opIx_l, opIx_t, opIsN_i, opNotN_i, fLen_l, fLen_t, fInt_i, fInt_b, fMax2_i, fMin2_i, fTuple_l, fTuple_t, fList_l, fList_t, fAppend_i, fExtend_l, fExtend_t, putA_i, cPart, cNoPart, cSl, opSl_l, opSl_t, isi_tuple, isTupD, hl2, hl, numsOk]
  | _ => simp [mkF, RS.rv, FR.rv, cSeq, cIf, cTst, cSet, cRet, cRetN, retP, cBin, cUn, cFn, cCons, cNil, cVar, cLit, cUnp, gPut, gNm, gTp, gsCons, gsNil, cFz, cDrop, cSkip, cAnd, cOr, cNot, cAndV, cOrV, cNotV, cIte, cTup, cLst, cCall, cPar, cAugI, cMutL, cMut, TN.R.bind, TN.R.toS, TN.R.toSB, look, lookA, TN.R.ofOpt, store, canSet, frzA, frz, plR, ownAt, opAdd_i, opAdd_t, opAdd_l, opAdd_s, opSub_i, opMul_i, opMod_i, opDiv_i, opPow_i, opNeg_i, opEq_int, opNe_int, opLt_i, opIx_l, opIx_t, opIsN_i, opNotN_i, fLen_l, fLen_t, fInt_i, fInt_b, fMax2_i, fMin2_i, fTuple_l, fTuple_t, fList_l, fList_t, fAppend_i, fExtend_l, fExtend_t, putA_i, cPart, cNoPart, cSl, opSl_l, opSl_t, isi_tuple, isTupD, numsOk]
/-! steps_good -/
/-! ties_at, tie_counts -/
theorem place_call {ρ : Rho} {n : Nat} {ts : List (Nat × Nat)} {k : Nat} (hk : k < n) : callM MM_check_place [.val (webD n ts), .val (.int (k : Nat))] ρ = .ok (.val .none) ρ := by
  have key : (MM_check_place [(webD n ts, .fz), (.int (k : Nat), .fz)]).rv = some (.none, false) := ?_
  · exact callM_rv rfl rfl key
  refine rv_mkN (ρ' := [some (webD n ts, .fz), some (.int (k : Nat), .fz)]) rfl ?_
  have h1 : ¬ ((k : Int) < 0) := by omega
  have h2 : ¬ ((n : Int) ≤ (k : Int)) := by omega
  have f1 : opLt (.int (k : Nat)) (.int 0) = some (.val (.bool false)) := by
    show some (Pl.val (.bool (decide ((k : Int) < 0)))) = _
    rw [decide_eq_false h1]
  have f2 : opGe (.int (k : Nat)) (.int (n : Nat)) = some (.val (.bool false)) := by
    show some (Pl.val (.bool (decide ((n : Int) ≤ (k : Int))))) = _
    rw [decide_eq_false h2]
  show cc_check_place [some (webD n ts, .fz), some (.int (k : Nat), .fz)] = .nx [some (webD n ts, .fz), some (.int (k : Nat), .fz)]
  exact if_no (or_no (not_ok (b := true) (tst_ok (call1_ok (var_fz rfl) (whole_call _)) rfl)) (or_no (tst_ok (bin_ok (var_fz rfl) rfl rfl rfl f1) rfl) (tst_ok (bin_ok (var_fz rfl) (bin_ok (var_fz rfl) rfl rfl rfl (web_n n ts)) rfl rfl f2) rfl))) rfl
def hasP (t : Nat × Nat) (k : Nat) : Bool := t.1 == k || t.2 == k
theorem in_tie (t : Nat × Nat) (k : Nat) : opIn (.int (k : Nat)) (tieD t) = some (.val (.bool (hasP t k))) := by
  have h : SeqAt.shaped (.int (k : Nat)) = true ∧ SeqAt.shaped (tieD t) = true := ⟨rfl, shaped_tints [(t.1 : Int), (t.2 : Int)]⟩
  unfold tieD at h ⊢
  unfold opIn seqOf
  have e : ∀ a b : Nat, ((a : Int) == (b : Int)) = (a == b) := fun a b => by
    rw [Bool.eq_iff_iff, beq_iff_eq, beq_iff_eq]
    omega
  simp only [if_pos h, List.any_cons, List.any_nil, PyData.eqv, hasP, e, Bool.or_false]
def idxs (ts : List (Nat × Nat)) (k : Nat) : List D := ts.zipIdx.filterMap fun p => if hasP p.1 k = true then some (.int (p.2 : Nat)) else none
def deg (ts : List (Nat × Nat)) (k : Nat) : Nat := ts.countP fun t => hasP t k
theorem idxs_len (ts : List (Nat × Nat)) (k : Nat) : (idxs ts k).length = deg ts k := by
  unfold idxs deg
  rw [List.length_filterMap_eq_countP]
  have : ∀ (ts : List (Nat × Nat)) (m : Nat), List.countP (fun a => (if hasP a.1 k = true then some (PyData.int (a.2 : Nat)) else none).isSome) (ts.zipIdx m) = List.countP (fun t => hasP t k) ts := by
    intro ts
    induction ts with
    | nil => intro m; rfl
    | cons t ts ih =>
      intro m
      rw [List.zipIdx_cons, List.countP_cons, List.countP_cons, ih]
      by_cases h : hasP t k = true <;> simp [h]
  exact this ts 0
theorem ties_run {n : Nat} {ts : List (Nat × Nat)} (h : WebOk n ts) {k : Nat} (hk : k < n) : (MM_ties_at [(webD n ts, .fz), (.int (k : Nat), .fz)]).rv = some (.list (idxs ts k), true) := by
  refine rv_mkF rfl ?_
  show (cc_ties_at [some (webD n ts, .fz), some (.int (k : Nat), .fz), none, none]).rv = _
  refine seq_rv (drop_ok (call2_ok (var_fz rfl) (var_fz rfl) (place_call hk))) (ret_rvT (ρ1 := [some (webD n ts, .fz), some (.int (k : Nat), .fz), none, none]) ?_)
  have hen : enumD (ts.map tieD) = ts.zipIdx.map fun p => .tuple [.int (p.2 : Nat), tieD p.1] := by
    unfold enumD
    rw [List.mapIdx_eq_zipIdx_map, List.zipIdx_map, List.map_map]
    rfl
  refine comp_T (xs := ts.zipIdx) (f := fun p => .tuple [.int (p.2 : Nat), tieD p.1]) ?_ rfl (by simp; have := h.tl; omega) fun p hp => ?_
  · have h1 := bin_ok (f := opIx) (a := cVar 0) (b := cLit (.int 1)) (ρ := [some (webD n ts, .fz), some (.int (k : Nat), .fz), none, none]) (var_fz rfl) rfl rfl rfl (web_ties n ts)
    unfold cEnum cFz
    simp only [h1, TN.R.bind, frz, seqOf, Option.map_some, hen]
  · have hg : gTp 2 (gsCons (gNm 2) (gsCons (gNm 3) gsNil)) (.tuple [.int (p.2 : Nat), tieD p.1]) [some (webD n ts, .fz), some (.int (k : Nat), .fz), none, none] = some [some (webD n ts, .fz), some (.int (k : Nat), .fz), some (.int (p.2 : Nat), .fz), some (tieD p.1, .fz)] := by
      simp [mkF, RS.rv, FR.rv, cSeq, cIf, cTst, cSet, cRet, cRetN, retP, cBin, cUn, cFn, cCons, cNil, cVar, cLit, cUnp, gPut, gNm, gTp, gsCons, gsNil, cFz, cDrop, cSkip, cAnd, cOr, cNot, cAndV, cOrV, cNotV, cIte, cTup, cLst, cCall, cPar, cAugI, cMutL, cMut, TN.R.bind, TN.R.toS, TN.R.toSB, look, lookA, TN.R.ofOpt, store, canSet, frzA, frz, plR, ownAt, opAdd_i, opAdd_t, opAdd_l, opAdd_s, opSub_i, opMul_i, opMod_i, opDiv_i, opPow_i, opNeg_i, opEq_int, opNe_int, opLt_i, opIx_l, opIx_t, opIsN_i, opNotN_i, fLen_l, fLen_t, fInt_i, fInt_b, fMax2_i, fMin2_i, fTuple_l, fTuple_t, fList_l, fList_t, fAppend_i, fExtend_l, fExtend_t, putA_i, cPart, cNoPart, cSl, opSl_l, opSl_t]
    have ht : tt_ties_at_2 [some (webD n ts, .fz), some (.int (k : Nat), .fz), some (.int (p.2 : Nat), .fz), some (tieD p.1, .fz)] = .ok (hasP p.1 k) _ := tst_ok (bin_ok (var_fz rfl) (var_fz rfl) rfl rfl (in_tie p.1 k)) rfl
    have he : ee_ties_at_1 [some (webD n ts, .fz), some (.int (k : Nat), .fz), some (.int (p.2 : Nat), .fz), some (tieD p.1, .fz)] = .ok (.val (.int (p.2 : Nat))) _ := var_fz rfl
    show elemT _ _ _ _ [some (webD n ts, .fz), some (.int (k : Nat), .fz), none, none] _ = some (_, [some (webD n ts, .fz), some (.int (k : Nat), .fz), none, none])
    unfold elemT
    simp only [hg, ht]
    cases hasP p.1 k with
    | true => simp only [he, frz]; rfl
    | false => rfl
theorem ties_call {ρ : Rho} {n : Nat} {ts : List (Nat × Nat)} (h : WebOk n ts) {k : Nat} (hk : k < n) : callM MM_ties_at [.val (webD n ts), .val (.int (k : Nat))] ρ = .ok (.tmp (.list (idxs ts k))) ρ := callM_rv rfl rfl (ties_run h hk)
theorem counts_run {n : Nat} {ts : List (Nat × Nat)} (h : WebOk n ts) : (MM_tie_counts [(webD n ts, .fz)]).rv = some (.tuple (((List.range n).map fun k => ((deg ts k : Nat) : Int)).map .int), false) := by
  have hnl := h.nl
  refine rv_mkF rfl ?_
  show (cc_tie_counts [some (webD n ts, .fz), none]).rv = _
  have hc : cComp (cRng1 (cBin opIx (cVar 0) (cLit (.int 0)))) (gNm 1) tTrue ee_tie_counts_1 [1] [some (webD n ts, .fz), none] = .ok (.tmp (.list ((List.range n).map fun k => .int ((deg ts k : Nat) : Int)))) [some (webD n ts, .fz), none] := by
    refine comp_map (xs := List.range n) (f := fun (k : Nat) => .int k) (rng1 (bin_ok (var_fz rfl) rfl rfl rfl (web_n n ts)) (by omega)) rfl (by simp; omega) fun k hk => ?_
    have hk' : k < n := by simpa using hk
    have he : ee_tie_counts_1 [some (webD n ts, .fz), some (.int (k : Nat), .fz)] = .ok (.val (.int ((deg ts k : Nat) : Int))) [some (webD n ts, .fz), some (.int (k : Nat), .fz)] := by
      have hl : fLen [.list (idxs ts k)] = some (.val (.int ((deg ts k : Nat) : Int))) := by rw [fLen_l, idxs_len]
      exact fn1_ok (call2_ok (var_fz rfl) (var_fz rfl) (ties_call h hk')) rfl hl
    have hg : gNm 1 (.int (k : Nat)) [some (webD n ts, .fz), none] = some [some (webD n ts, .fz), some (.int (k : Nat), .fz)] := rfl
    show elem _ _ _ [some (webD n ts, .fz), none] _ = some (_, [some (webD n ts, .fz), none])
    unfold elem
    simp only [hg, he, frz]
    rfl
  have := ret_rv (tupc_ok hc)
  rw [List.map_map]
  exact this
/-! lists of ties -/
theorem ties_depth : ∀ ts : List (Nat × Nat), PyData.depthAll (ts.map tieD) ≤ 1
  | [] => by simp [PyData.depthAll]
  | t :: ts => by
    have := ties_depth ts
    simp only [List.map_cons, PyData.depthAll, tieD, PyData.depth]
    omega
theorem ties_lay : ∀ ts : List (Nat × Nat), PyData.canLayAll0 (ts.map tieD) = true
  | [] => by simp [PyData.canLayAll0]
  | t :: ts => by simp [PyData.canLayAll0, PyData.canLay0, tieD, ties_lay ts]
theorem shaped_ties (ts : List (Nat × Nat)) : SeqAt.shaped (.list (ts.map tieD)) = true := by
  have := ties_depth ts
  unfold SeqAt.shaped
  simp only [PyData.canLay0, ties_lay, PyData.depth, Bool.true_and]
  exact decide_eq_true (by omega)
theorem pop_at {a : List D} {i : Nat} (hi : i < a.length) (hl : a.length ≤ 16777216) : fPop (.list a) [.int (i : Nat)] = some (.list (a.eraseIdx i), a[i]) := by
  have hx : ixN a.length (i : Int) = some i := by
    unfold ixN
    simp [hi]
  show (if a.length ≤ 16777216 then match ixN a.length (i : Int) with
    | some k => match a[k]? with
      | some y => some (PyData.list (a.eraseIdx k), y)
      | none => none
    | none => none
    else none) = _
  rw [if_pos hl, hx]
  simp [hi]
theorem erase_map {α β : Type} (f : α → β) : ∀ (l : List α) (i : Nat), (l.map f).eraseIdx i = (l.eraseIdx i).map f
  | [], _ => by simp
  | _ :: _, 0 => rfl
  | a :: l, i + 1 => by simp only [List.map_cons, List.eraseIdx_cons_succ, erase_map f l i]
end TN
namespace TN
open PySem PySem.Spec PyProof.Rows L2
/-! ### is, is not: truths and None -/
end TN
namespace TN
open PySem PySem.Spec PyProof.Rows L2

/-! ### a list of a name's own gone through, and the name's own still behind -/
section
variable {K : PySem.W.Frag} {L : L2.St} {B G G1 H H1 : Hp} {σ : L2.St} {ρ : Rho} {a : Addr} {o : HO} {xs : List V} {ds : List D} {j : Nat} {m : Md}
theorem Ext.keep {σ' : L2.St} {ρ' : Rho} {L' : L2.St} (ex : Ext (upd B a o) G G1) (r : Rel K L' (upd B a o) σ' ρ' G1 H1) (g : G a = none) (hn : ∀ vs, o ≠ .tup vs) : G1 a = none := by
  cases z : G1 a with
  | none => rfl
  | some o' =>
    rcases ex.new a (by rw [z]; simp) with w | w | ⟨us, w⟩
    · exact absurd g w
    · rw [upd_same] at w; cases w
    · have z1 := r.sub _ _ w
      have z2 := r.base a _ upd_same
      rw [z1] at z2; cases z2
      exact (hn _ rfl).elim
theorem Rel.hold (r : Rel K L B σ ρ G H) (q : ρ[j]? = some (some (.list ds, m))) (hm : m.isFz = false) : ∃ a xs, σ[j]? = some (some (.ref a)) ∧ G a = none ∧ B a = none ∧ H a = some (.lst xs) ∧ FzA K G xs ds ∧
    Rel K (L.set j none) (upd B a (.lst xs)) σ (ρ.set j none) G H ∧ ∀ v, L[j]? = some (some v) → σ[j]? = some (some v) ∧ (m = .lent ∨ m = .lz) := by
  obtain ⟨v, hv, hs⟩ := r.slots j _ q
  obtain ⟨a, rfl, hG, hB, c⟩ := hs.own hm
  cases c with
  | @lst xs _ hH fx =>
  have hlt : j < ρ.length := (List.getElem?_eq_some_iff.mp q).1
  have out : ∀ {i : Nat} {p : D × Md}, (ρ.set j none)[i]? = some (some p) → i ≠ j ∧ ρ[i]? = some (some p) := fun {i p} h => by
    by_cases hj : i = j
    · subst hj; rw [List.getElem?_set_self hlt] at h; cases h
    · rw [List.getElem?_set_ne (Ne.symm hj)] at h; exact ⟨hj, h⟩
  have r0 : Rel K (L.set j none) B σ (ρ.set j none) G H := by
    refine ⟨r.sub, r.base, by simpa using r.len, fun i p hp => r.slots i p (out hp).2, fun i k p p' w hik hp hp' hf hf' hw => r.sep i k p p' w hik (out hp).2 (out hp').2 hf hf' hw, fun i w hw => ?_⟩
    have hij : i ≠ j := fun z => by
      subst z
      by_cases hl : i < L.length
      · rw [List.getElem?_set_self hl] at hw; cases hw
      · rw [List.getElem?_eq_none (by simpa using hl)] at hw; cases hw
    rw [List.getElem?_set_ne (Ne.symm hij)] at hw
    obtain ⟨h1, d1, m1, h2, h3⟩ := r.lent i w hw
    exact ⟨h1, d1, m1, by rw [List.getElem?_set_ne (Ne.symm hij)]; exact h2, h3⟩
  refine ⟨a, xs, hv, hG, hB, hH, fx, r0.addB hB hH fun i p hp hf hw => ?_, fun w hw => ?_⟩
  · obtain ⟨hij, hp'⟩ := out hp
    exact r.sep i j p (.list ds, m) (.ref a) hij hp' q hf hm hw hv
  · obtain ⟨h1, d1, m1, h2, h3⟩ := r.lent j w hw
    rw [q] at h2; cases h2
    exact ⟨h1, h3⟩
end
section
variable {X : Cx} {elt tg iter : Expr} {ifs : List Expr} {scope : Scope} {own : List (Str × Nat)} {pos : Pos} {ci : CI} {g : D → Rho → Option Rho} {t : CB} {e : CE}
variable {ws : List Nat} {x y : Str} {py px spos : Pos} {j : Nat}
end
end TN
namespace TN
open PySem PySem.Spec PyProof.Rows L2

/-! ### chains of three: a op b op c op d -/
def tChain3 (r r' r'' : R2) (ta tb tc td : TE) : TE := fun σ H Q => ta σ H fun x H1 => tb σ H1 fun y H2 => r x y H2 fun z H3 => ∃ k, z = .bl k ∧
  (if k = true then tc σ H3 fun w' H4 => r' y w' H4 fun z2 H5 => ∃ k2, z2 = .bl k2 ∧ (if k2 = true then td σ H5 fun v' H6 => r'' w' v' H6 Q else Q (.bl false) H5) else Q (.bl false) H3)
section
variable {X : Cx} {a b c d : Expr} {ta tb tc td : TE} {pos : Pos} {op op' op'' : CmpOp} {r r' r'' : R2}
theorem pt_chain3 (ho : OpR X (compareOp op) r) (ho' : OpR X (compareOp op') r') (ho'' : OpR X (compareOp op'') r'') (ha : PE X a ta) (hb : PE X b tb) (hc : PE X c tc) (hd : PE X d td)
    (hm : lastMarks [op, op', op''] [b, c, d] = false := by with_unfolding_all rfl) : PT X (.Compare a [op, op', op''] [b, c, d] pos) (tTest (tChain3 r r' r'' ta tb tc td)) := by
  refine ⟨fun pins s σ H Q I h => ?_⟩
  refine isTrue_chain (thn (ha.run pins s σ H _ I h) fun v s1 ⟨x, H1, I1, r1, q1⟩ => test_link (thn (hb.run pins s1 σ H1 _ I1 q1) fun u s2 ⟨y, H2, I2, r2, q2⟩ =>
    thn (ho pins s2 σ H2 x y v u _ I2 r1 r2 q2) fun d1 s3 ⟨z, H3, I3, r3, k, e, q3⟩ => ?_)) hm
  subst e
  cases r3
  refine wpAny_truthy_bool ?_
  cases k with
  | false =>
    obtain ⟨k', e', q'⟩ := q3
    cases e'
    exact ite_ff ⟨H3, I3, q'⟩
  | true =>
    refine ite_tt (test_link (thn (hc.run pins s3 σ H3 _ I3 q3) fun w' s4 ⟨z', H4, I4, r4, q4⟩ => thn (ho' pins s4 σ H4 y z' u w' _ I4 r2 r4 q4) fun d2 s5 ⟨z2, H5, I5, r5, k2, e2, q5⟩ => ?_))
    subst e2
    cases r5
    refine wpAny_truthy_bool ?_
    cases k2 with
    | false =>
      obtain ⟨k', e', q'⟩ := q5
      cases e'
      exact ite_ff ⟨H5, I5, q'⟩
    | true =>
      refine ite_tt (test_last (thn (hd.run pins s5 σ H5 _ I5 q5) fun w2 s6 ⟨z3, H6, I6, r6, q6⟩ => thn (ho'' pins s6 σ H6 z' z3 w' w2 _ I6 r4 r6 q6) fun d3 s7 ⟨z4, H7, I7, r7, k3, e3, q7⟩ => ?_))
      subst e3
      cases r7
      exact wpAny_truthy_bool ⟨H7, I7, q7⟩
end
/-- behind the first comparison, q's value in hand -/
def cLink (f g : D → D → Option Pl) (q : Pl) (c d : CE) : CE := fun ρ2 => (c ρ2).bind fun r ρ3 => match look q ρ3, look r ρ3 with
  | some y, some z => match f y z with
    | some (.val (.bool true)) => (d ρ3).bind fun s ρ4 => match look r ρ4, look s ρ4 with
      | some z, some w => .ofOpt (g z w) ρ4
      | _, _ => .bad
    | some (.val (.bool false)) => .ok (.val (.bool false)) ρ3
    | _ => .bad
  | _, _ => .bad
def cChain3 (e f g : D → D → Option Pl) (a b c d : CE) : CE := fun ρ => (a ρ).bind fun p ρ1 => (b ρ1).bind fun q ρ2 => match look p ρ2, look q ρ2 with
  | some x, some y => match e x y with
    | some (.val (.bool true)) => cLink f g q c d ρ2
    | some (.val (.bool false)) => .ok (.val (.bool false)) ρ2
    | _ => .bad
  | _, _ => .bad
section
variable {X : Cx} {a b c d : Expr} {ca cb cc cd : CE} {pos : Pos} {op op' op'' : CmpOp} {r r' r'' : R2} {e f g : D → D → Option Pl}
theorem chain3_imp {W : WX} (hr : OpOk X.K r e) (hr' : OpOk X.K r' f) (hr'' : OpOk X.K r'' g) : ∀ (σ : L2.St) (H : Hp) (Q : VK), tX X W (cChain3 e f g ca cb cc cd) σ H Q → tChain3 r r' r'' (tX X W ca) (tX X W cb) (tX X W cc) (tX X W cd) σ H Q := by
  rintro σ H Q ⟨L, ρ, G, B, rel, h⟩
  refine ⟨L, ρ, G, B, rel, (Got.bind h).mono ?_⟩
  rintro x H1 ⟨p, ρ1, G1, _, rel1, _, fx1, h1⟩
  refine ⟨L, ρ1, G1, B, rel1, (Got.bind h1).mono ?_⟩
  rintro y H2 ⟨q, ρ2, G2, _, rel2, ext2, fx2, h2⟩
  cases e1 : look p ρ2 with
  | none => simp only [e1] at h2; exact h2.elim
  | some dx =>
  cases e2 : look q ρ2 with
  | none => simp only [e1, e2] at h2; exact h2.elim
  | some dy =>
  simp only [e1, e2] at h2
  have ok := hr G2 H2 x y dx dy
  cases e3 : e dx dy with
  | none => simp only [e3] at h2; exact h2.elim
  | some pl =>
  simp only [e3] at h2
  refine ok pl _ rel2.sub ((fx1.mono ext2.same).look rel2 e1) (fx2.look rel2 e2) e3 fun v H' ps => ?_
  split at h2
  · rename_i heq
    cases heq
    cases ps with
    | fz hv =>
    cases hv
    refine ⟨true, rfl, ?_⟩
    rw [if_pos rfl]
    unfold cLink at h2
    refine ⟨L, ρ2, G2, B, rel2, (Got.bind h2).mono ?_⟩
    rintro z H3 ⟨r3, ρ3, G3, _, rel3, ext3, fx3, h3⟩
    cases e4 : look q ρ3 with
    | none => simp only [e4] at h3; exact h3.elim
    | some dy' =>
    cases e5 : look r3 ρ3 with
    | none => simp only [e4, e5] at h3; exact h3.elim
    | some dz =>
    simp only [e4, e5] at h3
    cases e6 : f dy' dz with
    | none => simp only [e6] at h3; exact h3.elim
    | some pl =>
    simp only [e6] at h3
    refine hr' G3 H3 y z dy' dz pl _ rel3.sub ((fx2.mono ext3.same).look rel3 e4) (fx3.look rel3 e5) e6 fun v H' ps => ?_
    split at h3
    · rename_i heq
      cases heq
      cases ps with
      | fz hv =>
      cases hv
      refine ⟨true, rfl, ?_⟩
      rw [if_pos rfl]
      refine ⟨L, ρ3, G3, B, rel3, (Got.bind h3).mono ?_⟩
      rintro z2 H4 ⟨r4, ρ4, G4, _, rel4, ext4, fx4, h4⟩
      cases e7 : look r3 ρ4 with
      | none => simp only [e7] at h4; exact h4.elim
      | some dz' =>
      cases e8 : look r4 ρ4 with
      | none => simp only [e7, e8] at h4; exact h4.elim
      | some dw =>
      simp only [e7, e8] at h4
      cases e9 : g dz' dw with
      | none => simp only [e9] at h4; exact h4.elim
      | some pl =>
      simp only [e9] at h4
      exact hr'' G4 H4 z z2 dz' dw pl Q rel4.sub ((fx3.mono ext4.same).look rel4 e7) (fx4.look rel4 e8) e9 fun v H' ps => Got.done rel4 h4 ps
    · rename_i heq
      cases heq
      cases ps with
      | fz hv =>
      cases hv
      refine ⟨false, rfl, ?_⟩
      rw [if_neg Bool.false_ne_true]
      exact h3 _ H3 G3 rel3 .refl (.bl false)
    · exact h3.elim
  · rename_i heq
    cases heq
    cases ps with
    | fz hv =>
    cases hv
    refine ⟨false, rfl, ?_⟩
    rw [if_neg Bool.false_ne_true]
    exact h2 _ H2 G2 rel2 .refl (.bl false)
  · exact h2.elim
theorem st_chain3 (ho : OpR X (compareOp op) r) (hr : OpOk X.K r e) (ho' : OpR X (compareOp op') r') (hr' : OpOk X.K r' f) (ho'' : OpR X (compareOp op'') r'') (hr'' : OpOk X.K r'' g) (ha : SX X a ca) (hb : SX X b cb) (hc : SX X c cc) (hd : SX X d cd)
    (hm : lastMarks [op, op', op''] [b, c, d] = false := by with_unfolding_all rfl) : ST X (.Compare a [op, op', op''] [b, c, d] pos) (cTst (cChain3 e f g ca cb cc cd)) := fun W tk =>
  PTimp (pt_chain3 ho ho' ho'' (ha W tk) (hb W tk) (hc W tk) (hd W tk) hm) fun σ H Q h => chain3_imp hr hr' hr'' σ H _ (tst_imp σ H Q h)
end
end TN
namespace TN
open PySem PySem.Spec PyProof.Rows L2
/-! ### <, >= of tuples of ints -/
end TN
namespace TN
open PySem PySem.Spec PyProof.Rows L2

/-! ### webs by drawn ties -/
/-! more steps -/
theorem dr_ok {i : Nat} {ρ : Rho} {p : Pen} {md : Md} {m : Int} {c : CE} (hi : ρ[i]? = some (some (p.d, md))) (hm : md = .own ∨ md = .lent) (hc : c ρ = .ok (.val (.int m)) ρ) (h0 : 0 < m) (h1 : m < 1000000000) :
    cCall MMDraw (cCons (cVar i) (cCons c cNil)) ρ = .ok (.val (.int (p.draw m))) (ρ.set i (some ((p.next m).d, md))) :=
  call2_ok (by rcases hm with rfl | rfl; exact var_own hi; exact var_lent hi) hc (draw_call hi hm h0 (by omega))
theorem dr_nat (p : Pen) {m : Nat} (h : 0 < m) : ∃ a : Nat, a < m ∧ p.draw (m : Int) = (a : Int) := by
  have h1 := p.draw_ge (m := (m : Int)) (by omega)
  have h2 := p.draw_lt (m := (m : Int)) (by omega)
  exact ⟨(p.draw m).toNat, by omega, by omega⟩
/-! the dict of ties -/
def dictD (F : List (Nat × Nat)) : D := .dict ((.none, .none) :: F.map fun t => (tieD t, .bool true))
def addT (F : List (Nat × Nat)) (t : Nat × Nat) : List (Nat × Nat) := if t ∈ F then F else F ++ [t]
theorem tk_tie (t u : Nat × Nat) : (tkOf (tieD t) = some [.inl (u.1 : Int), .inl (u.2 : Int)]) ↔ t = u := by
  have : tkOf (tieD t) = some [.inl (t.1 : Int), .inl (t.2 : Int)] := rfl
  rw [this]
  obtain ⟨a, b⟩ := t
  obtain ⟨c, d⟩ := u
  simp
  omega
theorem lookT_tie (u : Nat × Nat) : ∀ F : List (Nat × Nat), lookT (F.map fun t => (tieD t, PyData.bool true)) [.inl (u.1 : Int), .inl (u.2 : Int)] = if u ∈ F then some (.bool true) else none
  | [] => rfl
  | t :: F => by
    simp only [List.map_cons, lookT, tk_tie, lookT_tie u F, List.mem_cons]
    by_cases h : t = u
    · simp [h]
    · simp [h, Ne.symm h]
theorem put_tie {F : List (Nat × Nat)} (t : Nat × Nat) (h : F.length < 16777216) : putA (dictD F) (tieD t) (.bool true) = some (dictD (addT F t)) := by
  have hk : tkOf (tieD t) = some [.inl (t.1 : Int), .inl (t.2 : Int)] := rfl
  show (dPut ((.none, .none) :: F.map fun t => (tieD t, PyData.bool true)) (tieD t) (.bool true)).map PyData.dict = _
  unfold dPut
  simp only [hk, List.length_map, h, if_true, Option.map_some]
  unfold putT addT dictD
  rw [lookT_tie]
  by_cases hm : t ∈ F
  · simp only [hm, if_true, Option.isSome]
    congr 2
    rw [List.map_map, List.cons.injEq]
    refine ⟨rfl, List.map_congr_left fun u hu => ?_⟩
    show (if tkOf (tieD u) = _ then _ else _) = _
    split <;> rfl
  · simp [hm, tkD, keyD, tieD]
theorem fLen_dict (F : List (Nat × Nat)) : fLen [dictD F] = some (.val (.int (F.length : Nat))) := by
  simp [fLen, dictD, dLen]
structure Ties (n : Nat) (F : List (Nat × Nat)) : Prop where
  lt : ∀ t ∈ F, t.1 < t.2 ∧ t.2 < n
  nd : F.Nodup
theorem Ties.add {n : Nat} {F : List (Nat × Nat)} (h : Ties n F) {t : Nat × Nat} (h1 : t.1 < t.2) (h2 : t.2 < n) : Ties n (addT F t) := by
  unfold addT
  by_cases hm : t ∈ F
  · rw [if_pos hm]; exact h
  · rw [if_neg hm]
    refine ⟨fun u hu => ?_, ?_⟩
    · rcases List.mem_append.mp hu with hu | hu
      · exact h.lt u hu
      · have : u = t := by simpa using hu
        subst this; exact ⟨h1, h2⟩
    · rw [List.nodup_append]
      refine ⟨h.nd, by simp, fun a ha b hb e => ?_⟩
      have : b = t := by simpa using hb
      subst this; subst e; exact hm ha
theorem addT_len (F : List (Nat × Nat)) (t : Nat × Nat) : (addT F t).length ≤ F.length + 1 := by
  unfold addT; split <;> simp
theorem sortT_perm (F : List (Nat × Nat)) : (sortT F).Perm F := List.mergeSort_perm _ _
theorem sortT_run (F : List (Nat × Nat)) (h : F.length ≤ 1000) : fSorted [.list (F.map tieD)] = some (.tmp (.list ((sortT F).map tieD))) := by
  cases hF : F with
  | nil => simp [fSorted, sortDs, intsOf, sortI, sortT]
  | cons t ts =>
    rw [← hF]
    have hi : intsOf (F.map tieD) = none := by rw [hF]; rfl
    have ho : sortOk (F.map tieD) = true := by
      simp only [sortOk, Bool.and_eq_true, Bool.or_eq_true, decide_eq_true_eq, List.all_map, List.length_map]
      refine ⟨⟨⟨?_, .inl ?_⟩, ?_⟩, by omega⟩
      · simp [PySem.W.alike, PySem.W.alikeAll, tieD]
      · simp [tup1, tieD]
      · simp [PyData.canLay0, PyData.canLayAll0, PyData.depth, PyData.depthAll, tieD]
    have : (F.map tieD).mergeSort dLe = (sortT F).map tieD := (PySem.W.sort_maps (s := dLe) tieD fun a _ b _ => rfl).symm
    simp only [fSorted, sortDs, hi, ho, if_true, Option.map_some, this]
end TN
namespace TN
open PySem PySem.Spec PyProof.Rows L2

/-! ### sums at places -/
def addAt (xs : List Int) (k : Nat) (v : Int) : List Int := xs.set k (xs.getD k 0 + v)
theorem addAt_len (xs : List Int) (k : Nat) (v : Int) : (addAt xs k v).length = xs.length := by simp [addAt]
theorem put_i {xs : List Int} {k : Nat} (h : k < xs.length) (v : Int) : putA (.list (xs.map .int)) (.int (k : Nat)) (.int v) = some (.list ((xs.set k v).map .int)) := by
  have hx : ixN (xs.map PyData.int).length (k : Int) = some k := by
    unfold ixN
    simp [h]
  rw [putA_i, hx, List.map_set]
def sumStep (acc : List Int) (p : (Nat × Nat) × Int) : List Int := addAt (addAt acc p.1.1 p.2) p.1.2 p.2
theorem sumStep_len (acc : List Int) (p : (Nat × Nat) × Int) : (sumStep acc p).length = acc.length := by simp [sumStep, addAt_len]
theorem sumFold_len : ∀ (ps : List ((Nat × Nat) × Int)) (acc : List Int), (ps.foldl sumStep acc).length = acc.length
  | [], _ => rfl
  | p :: ps, acc => by rw [List.foldl_cons, sumFold_len ps, sumStep_len]
def sumsL (n : Nat) (ts : List (Nat × Nat)) (ns : List Int) : List Int := (ts.zip ns).foldl sumStep (List.replicate n 0)
theorem sumsL_len (n : Nat) (ts : List (Nat × Nat)) (ns : List Int) : (sumsL n ts ns).length = n := by
  unfold sumsL
  rw [sumFold_len]
  simp
theorem rep0 {n : Nat} (h : n ≤ 1000) : opMul (.list [.int 0]) (.int (n : Nat)) = some (.tmp (.list ((List.replicate n (0 : Int)).map .int))) := by
  have e : (List.replicate ((n : Int).toNat) [PyData.int 0]).flatten = (List.replicate n (0 : Int)).map .int := by
    rw [Int.toNat_natCast, List.map_replicate]
    clear h
    induction n with
    | zero => rfl
    | succ n ih => rw [List.replicate_succ, List.flatten_cons, ih, List.replicate_succ]; rfl
  show (if [PyData.int 0].length * (n : Int).toNat ≤ 16777216 ∧ -1000000 ≤ (n : Int) ∧ (n : Int) ≤ 100000000 then _ else _) = _
  rw [if_pos ⟨by simp; omega, by omega, by omega⟩, e]
theorem zipD_ts : ∀ (ts : List (Nat × Nat)) (ns : List Int), zipD (ts.map tieD) (ns.map .int) = (ts.zip ns).map fun p => .tuple [tieD p.1, .int p.2]
  | [], _ => by simp [zipD]
  | _ :: _, [] => by simp [zipD]
  | t :: ts, n :: ns => by
    have := zipD_ts ts ns
    unfold zipD at this ⊢
    simp only [List.map_cons, List.zipWith_cons_cons, List.zip_cons_cons, this]
theorem fSorted_t (ns : List Int) (h : ns.length ≤ 16777216) : fSorted [.tuple (ns.map .int)] = some (.tmp (.list ((sortI ns).map .int))) := by
  simp only [fSorted, sortDs, intsOf_map, h, if_true, Option.map_some]
/-! all unlike -/
theorem dd_le : ∀ (xs acc : List Int), (xs.foldl step_dedup acc).length ≤ acc.length + xs.length
  | [], acc => by simp
  | x :: xs, acc => by
    have h := dd_le xs (step_dedup acc x)
    have h2 : (step_dedup acc x).length ≤ acc.length + 1 := by unfold step_dedup; split <;> simp
    simp only [List.foldl_cons, List.length_cons]
    omega
theorem dd_all : ∀ (xs acc : List Int), (xs.foldl step_dedup acc).length = acc.length + xs.length ↔ xs.Nodup ∧ ∀ x ∈ xs, x ∉ acc
  | [], acc => by simp
  | x :: xs, acc => by
    have h := dd_all xs (step_dedup acc x)
    have hle := dd_le xs (step_dedup acc x)
    simp only [List.foldl_cons, List.length_cons, List.nodup_cons]
    by_cases hx : acc.any (· == x) = true
    · have hm : x ∈ acc := by
        obtain ⟨y, hy, e⟩ := List.any_eq_true.mp hx
        have : y = x := by simpa using e
        rwa [← this]
      have e : step_dedup acc x = acc := by unfold step_dedup; rw [if_pos hx]
      rw [e] at hle ⊢
      constructor
      · intro z; omega
      · intro z; exact absurd hm (z.2 x (List.mem_cons_self ..))
    · have hm : x ∉ acc := fun z => hx (List.any_eq_true.mpr ⟨x, z, by simp⟩)
      have hl : (step_dedup acc x).length = acc.length + 1 := by unfold step_dedup; rw [if_neg hx]; simp
      have hmem : ∀ y, y ∈ step_dedup acc x ↔ y ∈ acc ∨ y = x := by
        intro y
        unfold step_dedup
        rw [if_neg hx]
        simp [or_comm]
      rw [hl] at h
      rw [show acc.length + (xs.length + 1) = acc.length + 1 + xs.length from by omega, h]
      constructor
      · rintro ⟨h1, h2⟩
        refine ⟨⟨fun z => (h2 x z) ((hmem x).mpr (.inr rfl)), h1⟩, fun y hy => ?_⟩
        rcases List.mem_cons.mp hy with rfl | hy
        · exact hm
        · exact fun z => h2 y hy ((hmem y).mpr (.inl z))
      · rintro ⟨⟨h1, h2⟩, h3⟩
        refine ⟨h2, fun y hy z => ?_⟩
        rcases (hmem y).mp z with z | rfl
        · exact h3 y (List.mem_cons_of_mem _ hy) z
        · exact h1 hy
theorem dd_nd (xs : List Int) : (ddI xs).length = xs.length ↔ xs.Nodup := by
  have := dd_all xs []
  simpa [ddI] using this
end TN
namespace TN
open PySem PySem.Spec PyProof.Rows L2

/-! ### a drawn order -/
def bb__law_order_of_1 : CS := (cDrop (cMutL 3 fAppend (cCons (cMutL 2 fPop (cCons (cCall MMDraw (cCons (cVar 0) (cCons (cFn fLen (cCons (cVar 2) cNil)) cNil))) cNil)) cNil)))
def tt__law_order_of_2 : CB := (cTst (cBin opNe (cVar 2) (cLst cNil)))
def cc__law_order_of : CS := (cSeq (cSet 2 (cLstRg (cRg1 (cVar 1))))
  (cSeq (cSet 3 (cLst cNil))
  (cSeq (cWhile 1000000 tt__law_order_of_2
  bb__law_order_of_1)
  (cRet (cVar 3)))))
def MM__law_order_of : FM := mkF 2 4 cc__law_order_of

theorem while_down {t : CB} {b : CS} {I : Nat → Rho → Prop} (h : ∀ k ρ, I (k + 1) ρ → ∃ ρ1 ρ2, t ρ = .ok true ρ1 ∧ b ρ1 = .nx ρ2 ∧ I k ρ2) (h0 : ∀ ρ, I 0 ρ → t ρ = .ok false ρ) : ∀ (k fuel : Nat) (ρ : Rho), k < fuel → I k ρ → ∃ ρ', whileL t b fuel ρ = .nx ρ' ∧ I 0 ρ'
  | 0, fuel + 1, ρ, _, i => by
    refine ⟨ρ, ?_, i⟩
    unfold whileL
    rw [h0 ρ i]
    rfl
  | k + 1, fuel + 1, ρ, hl, i => by
    obtain ⟨ρ1, ρ2, h1, h2, h3⟩ := h k ρ i
    obtain ⟨ρ', h4, h5⟩ := while_down h h0 k fuel ρ2 (by omega) h3
    refine ⟨ρ', ?_, h5⟩
    unfold whileL
    rw [h1]
    simp only [TN.R.toSB, if_true, h2, h4]
  | _, 0, _, hl, _ => by omega
theorem while_nx {fuel : Nat} {t : CB} {b : CS} {ρ ρ' : Rho} (h : whileL t b fuel ρ = .nx ρ') : cWhile fuel t b ρ = .nx ρ' := h
theorem lstRg0 {a : CE} {ρ ρ1 : Rho} {n : Nat} (ha : a ρ = .ok (.val (.int (n : Nat))) ρ1) (h : n ≤ 1000000) : cLstRg (cRg1 a) ρ = .ok (.tmp (.list ((rgI 0 (n : Int)).map .int))) ρ1 := lstRg1 ha (rgOk_nat h 0 (.inl rfl))
theorem rgI_len0 (n : Nat) : (rgI 0 (n : Int)).length = n := by simp [rgI]
theorem rgI_mem0 {n : Nat} {x : Int} (h : x ∈ rgI 0 (n : Int)) : ∃ k : Nat, k < n ∧ x = (k : Int) := by
  unfold rgI at h
  obtain ⟨k, hk, rfl⟩ := List.mem_map.mp h
  have := List.mem_range.mp hk
  exact ⟨k, by omega, by omega⟩
theorem ne_nil (xs : List Int) : opNe (.list (xs.map .int)) (.list []) = some (.val (.bool (!decide (xs = [])))) := opNe_ints xs []
theorem ret_rvoO {n : Nat} {i : Nat} {ρ : Rho} {d : D} (h : ρ[i]? = some (some (d, .own))) : (cRet (cVar i) ρ).rvo n = some (d, true, (ρ.set i none).take n) := by
  unfold cRet cVar
  simp only [h, R.toS, retP]; rfl
theorem erase_perm : ∀ (l : List Int) (i : Nat) (h : i < l.length), (l[i] :: l.eraseIdx i).Perm l
  | a :: l, 0, _ => .refl _
  | a :: l, i + 1, h => by
    have ih := erase_perm l i (by simpa using h)
    simp only [List.getElem_cons_succ, List.eraseIdx_cons_succ]
    exact (List.Perm.swap _ _ _).trans (ih.cons a)
/-- one number taken out -/
theorem pop_body (p : Pen) (s1 : Slot) (rest : Rho) (left found : List Int) (hl : left ≠ []) (h1 : left.length ≤ 1000) (h2 : found.length ≤ 1000) :
    ∃ (p' : Pen) (left' found' : List Int), left'.length + 1 = left.length ∧ found'.length = found.length + 1 ∧ (left' ++ found').Perm (left ++ found) ∧
    bb__law_order_of_1 (some (p.d, .lent) :: s1 :: some (.list (left.map .int), .own) :: some (.list (found.map .int), .own) :: rest) = .nx (some (p'.d, .lent) :: s1 :: some (.list (left'.map .int), .own) :: some (.list (found'.map .int), .own) :: rest) := by
  have hpos : 0 < left.length := List.length_pos_iff.mpr hl
  obtain ⟨i, hi, ei⟩ := dr_nat p (m := left.length) hpos
  have hdraw := dr_ok (i := 0) (p := p) (md := .lent) (m := (left.length : Nat)) (ρ := some (p.d, .lent) :: s1 :: some (.list (left.map .int), .own) :: some (.list (found.map .int), .own) :: rest) (c := cFn fLen (cCons (cVar 2) cNil)) rfl (.inr rfl) (fn1_ok (var_own rfl) rfl (by rw [fLen_l, List.length_map])) (by omega) (by omega)
  rw [ei] at hdraw
  have hpop : fPop (.list (left.map .int)) [.int (i : Nat)] = some (.list ((left.eraseIdx i).map .int), .int left[i]) := by
    have := pop_at (a := left.map PyData.int) (i := i) (by simpa using hi) (by simp; omega)
    rw [this, erase_map]
    simp
  have happ := app_i (a := found.map PyData.int) (x := .int left[i]) (by simp; omega)
  rw [show found.map PyData.int ++ [.int left[i]] = (found ++ [left[i]]).map .int from by simp] at happ
  refine ⟨p.next left.length, left.eraseIdx i, found ++ [left[i]], by rw [List.length_eraseIdx]; split <;> omega, by simp, ?_, ?_⟩
  · have e : (left.eraseIdx i ++ (found ++ [left[i]])).Perm (left[i] :: (left.eraseIdx i ++ found)) := by
      rw [← List.append_assoc]
      exact List.perm_append_singleton _ _
    exact e.trans ((erase_perm left i hi).append_right found)
  · exact drop_ok (mut_ok rfl (ar_cons (mut_ok rfl (ar_cons hdraw ar_nil) rfl rfl hpop) ar_nil) rfl rfl happ)
theorem order_run (p : Pen) {m : Nat} (hm : m ≤ 1000) : ∃ (p' : Pen) (os : List Int), os.Perm (rgI 0 (m : Int)) ∧ MM__law_order_of [(p.d, .lent), (.int (m : Nat), .fz)] = .ok (.list (os.map .int)) true [some (p'.d, .lent), some (.int (m : Nat), .fz)] := by
  have hlen := rgI_len0 m
  obtain ⟨ρ', e, p', left, found, e0, hp, rfl⟩ := while_down (t := tt__law_order_of_2) (b := bb__law_order_of_1) (I := fun k ρ => ∃ (p : Pen) (left found : List Int), left.length = k ∧ (left ++ found).Perm (rgI 0 (m : Int)) ∧ ρ = [some (p.d, .lent), some (.int (m : Nat), .fz), some (.list (left.map .int), .own), some (.list (found.map .int), .own)])
    (fun k ρ hI => by
      obtain ⟨p, left, found, hk, hp, rfl⟩ := hI
      have hl := hp.length_eq
      rw [List.length_append, hlen] at hl
      have hne : left ≠ [] := fun z => by rw [z] at hk; cases hk
      obtain ⟨p', left', found', h1, h2, h3, h4⟩ := pop_body p (some (.int (m : Nat), .fz)) [] left found hne (by omega) (by omega)
      refine ⟨_, _, tst_ok (bin_ok (var_own rfl) rfl rfl rfl (ne_nil left)) (by rw [decide_eq_false hne]; rfl), h4, p', left', found', by omega, h3.trans hp, rfl⟩)
    (fun ρ hI => by
      obtain ⟨p, left, found, hk, hp, rfl⟩ := hI
      have hne : left = [] := List.length_eq_zero_iff.mp hk
      exact tst_ok (bin_ok (var_own rfl) rfl rfl rfl (ne_nil left)) (by rw [decide_eq_true hne]; rfl))
    m 1000000 [some (p.d, .lent), some (.int (m : Nat), .fz), some (.list ((rgI 0 (m : Int)).map .int), .own), some (.list [], .own)] (by omega) ⟨p, rgI 0 (m : Int), [], hlen, by simp, rfl⟩
  have hl0 : left = [] := List.length_eq_zero_iff.mp e0
  subst hl0
  refine ⟨p', found, by simpa using hp, mkF_rvo rfl ?_⟩
  show (cc__law_order_of [some (p.d, .lent), some (.int (m : Nat), .fz), none, none]).rvo 2 = _
  refine seq_rvo (set_toT (lstRg0 (var_fz rfl) (by omega)) rfl rfl) (seq_rvo (ρ1 := [some (p.d, .lent), some (.int (m : Nat), .fz), some (.list ((rgI 0 (m : Int)).map .int), .own), some (.list [], .own)]) rfl (seq_rvo (while_nx e) (ret_rvoO rfl)))
/-! the last of a list, put -/
theorem ixN_last {n : Nat} (h : 0 < n) : ixN n (-1) = some (n - 1) := by
  unfold ixN
  rw [if_neg (by decide), if_pos (by omega)]
  congr 1
  omega
theorem ix_last {xs : List Int} (h : 0 < xs.length) : opIx (.list (xs.map .int)) (.int (-1)) = some (.val (.int (xs.getD (xs.length - 1) 0))) := by
  rw [opIx_l]
  unfold atI
  rw [List.length_map, ixN_last h]
  have : xs.length - 1 < xs.length := by omega
  simp [this]
end TN
namespace TN
open PySem PySem.Spec PyProof.Rows L2

/-! ### squares by drawn turns -/
structure Sq (N : List (List Int)) : Prop where
  pos : 1 ≤ N.length
  le : N.length ≤ 7
  row : ∀ r ∈ N, r.length = N.length
def rot (one other : Nat) (N : List (List Int)) : List (List Int) := (N.drop one ++ N.take one).map fun r => r.drop other ++ r.take other
def mk (n : Nat) : List (List Int) := (List.range n).map fun (row : Nat) => (List.range n).map fun (k : Nat) => (n : Int) * (((row : Int) + 2 * (k : Int)) % n) + ((row : Int) + 3 * (k : Int)) % n + 1
/-- as lsg, to be counted out -/
def lsq (N : List (List Int)) : Bool := N.flatten.isPerm (rgI 1 ((N.flatten.length : Int) + 1)) && (List.range N.length).all fun k => decide ((N.getD k []).sum = (N.getD 0 []).sum) && decide ((N.map fun r => r.getD k 0).sum = (N.getD 0 []).sum)
def Small (N : List (List Int)) : Prop := ∀ r ∈ N, ∀ x ∈ r, 0 ≤ x ∧ x < 1000
structure Fine (N : List (List Int)) : Prop where
  sq : Sq N
  sm : Small N
  all : ∀ one other : Nat, one < N.length → other < N.length → lsq (rot one other N) = true
end TN
namespace TN
open PySem PySem.Spec PyProof.Rows L2
/-! ### comprehensions that draw; held ones -/
/-! cuts of lists -/
/-- the cells that a law goes through -/
theorem cells_it {ρ : Rho} {ns : List Int} (k : Nat) (h0 : ρ[0]? = some (some (.list (ns.map .int), .fz))) (hn : ns.length ≤ 63) :
    cIt (cBin opAdd (cLst (cCons (cCall MMCell (cCons (cVar 0) (cCons (cLit (.int 0)) cNil))) cNil)) (cSl (cVar 0) (cPart (cLit (.int 1))) (cPart (cLit (.int (k : Nat)))))) ρ = .ok ((cellAt ns 0 :: (ns.take k).drop 1).map .int) ρ := by
  have c1 := cut_mid (ns.map PyData.int) 1 k
  have hsl : cSl (cVar 0) (cPart (cLit (.int 1))) (cPart (cLit (.int (k : Nat)))) ρ = .ok (.tmp (.list (((ns.take k).drop 1).map .int))) ρ := by
    unfold cSl cPart cLit
    simp only [var_fz h0, TN.R.bind, look, opSl_l, TN.R.ofOpt]
    rw [show ((1 : Int)) = ((1 : Nat) : Int) from rfl, c1, List.map_drop, List.map_take]
  refine it_tmp (bin_ok (lst_ok (ar_cons (call2_ok (var_fz h0) rfl (cell_call ns 0)) ar_nil) rfl) hsl rfl rfl (opAdd_ll ?_)) rfl
  simp; omega
end TN
namespace TN
open PySem PySem.Spec PyProof.Rows L2

/-! ### raise X() -/
theorem pmk_own0 {X : Cx} {C : Addr} {bmB : List Value} {B newId initId : String} {x : Str} {p pos : Pos} (F : ExcBaseFacts B newId initId bmB) (q : PySem.W.excIn X.K C bmB newId = true) (gC : X.mg x = some (.ref C)) (kC : PySem.W.keepIn X.K (.ref C) = true) (r : Raises X (.ref C)) (hg : Gl X x)
    (hdb : (x == ("__debug__" : Str)) = false := by decide) : PMk X (.Call (.Name x p) [] [] pos) (fun _ H Q => Q (.ref C) none H) := by
  intro pins s σ H Q I h
  refine wpAny_Call_Name_kw (ld_glob I hg gC ?_ hdb)
  refine PySem.W.callWith_K0 I.kIn kC ?_
  show wpAny _ _ (call (.ref C) []) _ _ _
  obtain ⟨bm, N, nm, qn, bs, hdct, sn, sub, ab, col, dd, k0, k1, k2, k3, k5, mN, hC, hN, hni, T⟩ := exc_obj I.kIn q
  refine wpAny_call_exc_subT F T hC hN hni (fun h' e hm => ?_) (by show 0 ≤ sizeLine; exact Nat.zero_le _)
  exact mk_of I hm r h (I.hok.gone hm.new)
theorem ss_raise0 {X : Cx} {x : Str} {p pos pos' : Pos} (hc : X.calm = true) (hg : Gl X x) (hm : X.mg x = some (.ref (He.ga X.K x))) (c : (He.Fa.exc x).ok X.K = true) (hdb : (x == ("__debug__" : Str)) = false := by decide) :
    SS X (.Raise (some (.Call (.Name x p) [] [] pos)) none pos') (cRaise x) := fun W tk _ => by
  obtain ⟨c1, c2, c3, c4⟩ := He.exc_ok c
  refine PSimp (ps_raise hc tk (pmk_own0 PySem.F.excBase_ValueError c1 hm c2 (raises_own c3 c4) hg hdb)) ?_
  rintro Dn σ H ⟨L, ρ, G, B, rel, h⟩
  exact h _ none σ H G rel .refl ⟨_, hm, rfl, .inl ⟨rfl, rfl⟩⟩

/-! ### a caught exception is tracked -/
/-! ### try: body, except x as n: suite; n holds the exception, frozen -/
section
variable {X : Cx} {x n : Str} {c : Value} {i : Nat} {body suite : List Stmt} {b₀ : Stmt} {np pos pos' : Pos} {tb : WX → TS} {ts : TS} {Wout : WX}
end

/-! ### what is known of the classes -/
structure ExX (K : PySem.W.Frag) (mg : Str → Option Value) (cs : List Str) (x : Str) : Prop where
  glo : mg x = some (.ref (He.ga K x))
  c1 : exC K (He.ga K x) = true
  c2 : exT K (He.ga K x) = true
  tie : PySem.W.exmOne K (.ref (He.ga K x)) (.ref (He.ga K ("TieError" : Str))) = some true
  val : PySem.W.kitOne K (.ref (He.ga K x)) (.type "ValueError") = some true
  one : ∀ y ∈ cs, PySem.W.kitOne K (.ref (He.ga K x)) (.ref (He.ga K y)) = some (x == y)
structure ExS (K : PySem.W.Frag) (mg : Str → Option Value) (cs : List Str) : Prop where
  tie : mg ("TieError" : Str) = some (.ref (He.ga K ("TieError" : Str)))
  all : ∀ x ∈ cs, ExX K mg cs x
theorem exS_of {K : PySem.W.Frag} {h : Heap} {mg : Str → Option Value} {cs : List Str} (X : K.In h) (G : h.Ns mainGlobals mg) (c : exAll cs K = true) : ExS K mg cs := by
  unfold exAll at c
  obtain ⟨c1, c2⟩ := He.ba c
  refine ⟨PySem.W.mg_of X G (He.eqO_ok c1), fun x hx => ?_⟩
  have q := List.all_eq_true.mp c2 x hx
  unfold exB at q
  obtain ⟨q1, q⟩ := He.ba q
  obtain ⟨q2, q⟩ := He.ba q
  obtain ⟨q3, q⟩ := He.ba q
  obtain ⟨q4, q⟩ := He.ba q
  obtain ⟨q5, q6⟩ := He.ba q
  exact ⟨PySem.W.mg_of X G (He.eqO_ok q1), q2, q3, of_decide_eq_true q4, of_decide_eq_true q5, fun y hy => of_decide_eq_true (List.all_eq_true.mp q6 y hy)⟩

/-! ### the catch -/
def cTry (cs : List Str) (i : Nat) (cb ch : CS) : CS := fun ρ => match cb ρ with
  | .exc x ρ1 => if cs.contains x.cls = true ∧ canSet ρ1 i = true then (match ch (ρ1.set i (some (exD x.cls x.flds, .fz))) with
    | .nx ρ2 => if canSet ρ2 i = true then .nx (ρ2.set i none) else .bad
    | .ret d fr ρ2 => .ret d fr ρ2
    | _ => .bad) else .bad
  | r => r
end TN
namespace TN
open PySem PySem.Spec PyProof.Rows L2 L2H

/-! ### defs that are called while an exception is handled -/
theorem FnHot.mono {P : Program} {w : World} {K : PySem.W.Frag} {mg : Str → Option Value} {base : Heap} {CX : CXT} {j k : Nat} {f : Addr} {fd : FuncData} {ps : List Str} {sp : Sp} (F : FnHot P w K mg base CX j f fd ps sp) (h : j ≤ k) : FnHot P w K mg base CX k f fd ps sp :=
  ⟨F.len, fun A outer s H args us vs Q E hr => F.run A outer s H args us vs Q E (hr.mono h)⟩
section
variable {X : Cx} {k n : Nat} {f : Addr} {fd : FuncData} {pn : List Str} {M : FM} {x : Str} {p pos : Pos} {e : Expr} {es : List Expr} {cr : CA}
end
/-- a def by its meaning, called anywhere -/
structure CalleeH (P : Program) (w : World) (K : PySem.W.Frag) (mg : Str → Option Value) (base : Heap) (k : Nat) (x : Str) (n : Nat) (M : FM) : Prop where
  ex : ∃ (f : Addr) (fd : FuncData) (pn : List Str), FnHot P w K mg base (L2.CX P w) k f fd pn (spF K mg n M) ∧ mg x = some (.ref f) ∧ PySem.W.keepIn K (.ref f) = true ∧ Binds K fd pn []
theorem CalleeH.up {P : Program} {w : World} {K : PySem.W.Frag} {mg : Str → Option Value} {base : Heap} {k : Nat} {x : Str} {n : Nat} {M : FM} (c : CalleeH P w K mg base k x n M) {j : Nat} (h : k ≤ j) : CalleeH P w K mg base j x n M := by
  obtain ⟨f, fd, pn, h1, h2, h3, h4⟩ := c.ex
  exact ⟨f, fd, pn, h1.mono h, h2, h3, h4⟩
/-! ### isinstance(e, C), e a caught exception -/
section
variable {X : Cx} {cs : List Str} {x : Expr} {c : CE} {C : Str} {p p2 pos : Pos}
end
end TN
namespace TN
open PySem PySem.Spec PyProof.Rows L2

/-! ### the head, with what is known of the exceptions' classes -/
end TN
namespace TN
open PySem PySem.Spec PyProof.Rows L2
/-! exceptions, plainly -/
theorem shaped_str {a : Str} (h : PyData.strOk a = true := by decide +kernel) : SeqAt.shaped (.str a) = true := by simp [SeqAt.shaped, PyData.canLay0, PyData.depth, h]
theorem opEq_str (a b : Str) (ha : PyData.strOk a = true := by decide +kernel) (hb : PyData.strOk b = true := by decide +kernel) : opEq (.str a) (.str b) = some (.val (.bool (a == b))) := by
  unfold opEq
  rw [if_pos ⟨shaped_str ha, shaped_str hb⟩]
  simp [PyData.eqv]
/-! what is no place -/
end TN
namespace TN
open PySem PySem.Spec PyProof.Rows L2
end TN
namespace TN
open PySem PySem.Spec PyProof.Rows L2

/-! ### defs that hand out a tuple of values and of new lists -/
theorem UIs.mono {K : PySem.W.Frag} {G G' H H' B B' : Hp} (s : Same G G') (hG : ∀ a o, G a = none → H a = some o → (∀ us, o ≠ .tup us) → B a = none → G' a = none ∧ B' a = none ∧ H' a = some o) : ∀ {vs : List V} {is : UI}, UIs K G H B vs is → UIs K G' H' B' vs is
  | _, _, .nil => .nil
  | _, _, .cons h1 h2 h3 r => .cons (fun e => (h1 e).mono s) (fun e => by
      obtain ⟨a, e1, g1, b1, c1⟩ := h2 e
      obtain ⟨o, ho⟩ := c1.there
      obtain ⟨x1, x2, x3⟩ := hG a o g1 ho (fun us z => by subst z; exact c1.notTup ho) b1
      exact ⟨a, e1, x1, x2, (c1.heap fun o' e' => by rw [ho] at e'; cases e'; exact x3).mono s⟩) h3 (r.mono s hG)
abbrev FMU := List (D × Md) → R UI
def URes (K : PySem.W.Frag) (mg : Str → Option Value) (B G : Hp) (vs : List V) (as : List (D × Md)) (Q : VK) (E : XK) (r : R UI) : Prop := match r with
  | .ok is outs => ∀ (t : Addr) (us : List V) (H' G' : Hp), After K B G vs as outs G' H' → H' t = some (.tup us) → UIs K G' H' B us is →
      (∀ (i : Nat) (d1 : D) (w : V) (d2 : D) (j : Nat) (d' : D), as[i]? = some (d1, .lent) → vs[i]? = some w → outs[i]? = some (some (d2, .lent)) → us[j]? = some w → is[j]? = some (d', true) → False) → Q (.ref t) H'
  | .exc x outs => ∀ (cls : Value) (d : Option Addr) (H' G' : Hp), After K B G vs as outs G' H' →
      (∃ C : Addr, mg x.cls = some (.ref C) ∧ cls = .ref C ∧ ((x.flds = [] ∧ d = none) ∨ ∃ (dd : Addr) (fs : List (Str × V)), d = some dd ∧ H' dd = some (.xd fs) ∧ B dd = none ∧ FzN K G' fs x.flds)) → E cls d H'
  | .bad => False
def spU (K : PySem.W.Frag) (mg : Str → Option Value) (n : Nat) (M : FMU) : Sp := fun vs H Q E => ∃ (G B : Hp) (as : List (D × Md)), vs.length = n ∧ Same G H ∧ Same B H ∧ ArgsOk K G H B vs as ∧ URes K mg B G vs as Q E (M as)

/-! ### the displayed tuple: new lists stay new -/
theorem PlAo.fresh {K : PySem.W.Frag} {B : Hp} {σ : L2.St} {ρ : Rho} {G H : Hp} : ∀ {vs : List V} {ps : List Pl} {j : Nat} {w : V} {d : D}, PlAo K B σ ρ G H vs ps → vs[j]? = some w → ps[j]? = some (.tmp d) → PlOk K B σ ρ G H w (.tmp d)
  | _, _, _, _, _, .nil, h, _ => by simp at h
  | _, _, 0, _, _, .cons h1 _ _, h, h' => by simp at h h'; subst h h'; exact h1
  | _, _, j + 1, _, _, .cons _ _ r, h, h' => r.fresh (j := j) (by simpa using h) (by simpa using h')
section
variable {X : Cx} {e : Expr} {es : List Expr} {c : CE} {r : CA}
end

/-! ### the items -/
def itemsOf : List Pl → Rho → Option (UI × Rho)
  | [], ρ => some ([], ρ)
  | .val d :: ps, ρ => match itemsOf ps ρ with
    | some (is, ρ') => some ((d, false) :: is, ρ')
    | none => none
  | .tmp d :: ps, ρ => match itemsOf ps ρ with
    | some (is, ρ') => some ((d, true) :: is, ρ')
    | none => none
  | .slot i :: ps, ρ => match ρ[i]? with
    | some (some (d, .own)) => match itemsOf ps (ρ.set i none) with
      | some (is, ρ') => some ((d, true) :: is, ρ')
      | none => none
    | _ => none
structure ItemsOk (K : PySem.W.Frag) (L : L2.St) (B : Hp) (σ : L2.St) (ρ ρ2 : Rho) (G H : Hp) (vs : List V) (ps : List Pl) (is : UI) : Prop where
  rel : Rel K L B σ ρ2 G H
  its : UIs K G H B vs is
  sub : ∀ (j : Nat) (p : D × Md), ρ2[j]? = some (some p) → ρ[j]? = some (some p)
  sep : ∀ (j : Nat) (p : D × Md) (i : Nat) (w : V) (d : D), ρ2[j]? = some (some p) → p.2.isFz = false → vs[i]? = some w → is[i]? = some (d, true) → σ[j]? ≠ some (some w)
  src : ∀ (i : Nat) (w : V) (d : D), vs[i]? = some w → is[i]? = some (d, true) → (∃ (k : Nat) (d' : D), vs[k]? = some w ∧ ps[k]? = some (.tmp d')) ∨ ∃ (j : Nat) (d' : D), ρ[j]? = some (some (d', .own)) ∧ σ[j]? = some (some w)
/-! ### a body that ends with return (a, b, ..) -/
def uEval (c : CS) (ca : CA) (ρ : Rho) : R UI := match c ρ with
  | .nx ρ1 => match ca ρ1 with
    | .ok ps ρ2 => if ps.length ≤ 16777216 then (match itemsOf ps ρ2 with
      | some (is, ρ3) => .ok is ρ3
      | none => .bad) else .bad
    | .exc x ρ2 => .exc x ρ2
    | .bad => .bad
  | .exc x ρ1 => .exc x ρ1
  | _ => .bad
section
variable {X : Cx} {es : List Expr} {c : CS} {ca : CA} {pos pos' : Pos}
end
def mkFU (n m : Nat) (c : CS) (ca : CA) : FMU := fun as => if as.length = n then (match uEval c ca (as.map some ++ List.replicate (m - n) none) with
  | .ok is ρ => .ok is (ρ.take n)
  | .exc x ρ => .exc x (ρ.take n)
  | .bad => .bad) else .bad
section
variable {P : Program} {w : World} {K : PySem.W.Frag} {mg : Str → Option Value} {base : Heap} {x qual : Str} {params : Arguments} {body : List Stmt} {scope : Scope} {f : Addr} {fd : FuncData}
end
structure CalleeU (P : Program) (w : World) (K : PySem.W.Frag) (mg : Str → Option Value) (base : Heap) (k : Nat) (x : Str) (n : Nat) (M : FMU) : Prop where
  ex : ∃ (f : Addr) (fd : FuncData) (pn : List Str), FnOk P w K mg base (L2.CX P w) k f fd pn (spU K mg n M) ∧ mg x = some (.ref f) ∧ PySem.W.keepIn K (.ref f) = true ∧ Binds K fd pn []
theorem CalleeU.up {P : Program} {w : World} {K : PySem.W.Frag} {mg : Str → Option Value} {base : Heap} {k : Nat} {x : Str} {n : Nat} {M : FMU} (c : CalleeU P w K mg base k x n M) {j : Nat} (h : k ≤ j) : CalleeU P w K mg base j x n M := by
  obtain ⟨f, fd, pn, h1, h2, h3, h4⟩ := c.ex
  exact ⟨f, fd, pn, h1.mono h, h2, h3, h4⟩
/-! ### a, b, .. = f(..) -/
end TN
namespace TN
open PySem PySem.Spec PyProof.Rows L2

/-! ### steps numberings, plainly -/
structure Gr (m : Nat) (T : List (Nat × Nat)) (N : List Int) : Prop where
  len : N.length = m
  pos : 1 ≤ m
  lt : ∀ t ∈ T, t.1 < m ∧ t.2 < m
  rng : ∀ x ∈ N, 0 ≤ x ∧ x ≤ (T.length : Int)
  nd : N.Nodup
  st : (steps N T).Perm (rgI 1 ((T.length : Int) + 1))
theorem steps_len (N : List Int) (T : List (Nat × Nat)) : (steps N T).length = T.length := by simp [steps]
theorem getD_map {N : List Int} {f : Int → Int} {i : Nat} (h : i < N.length) : (N.map f).getD i 0 = f (N.getD i 0) := by
  simp [List.getD_eq_getElem?_getD, h]
def ren (π : List Nat) (t : Nat × Nat) : Nat × Nat := (min (π.getD t.1 0) (π.getD t.2 0), max (π.getD t.1 0) (π.getD t.2 0))
theorem perm_lt {π : List Nat} {m i : Nat} (hp : π.Perm (List.range m)) (hi : i < m) : π.getD i 0 < m := by
  have hl : π.length = m := by simpa using hp.length_eq
  have : π.getD i 0 ∈ π := by simp [List.getD_eq_getElem?_getD, hl, hi]
  simpa using hp.mem_iff.mp this
/-! ### the spine -/
structure Sp (last : Int) (k : Nat) (T : List (Nat × Nat)) (N : List Int) (hub : Nat) (lo hi side : Int) : Prop where
  tl : T.length = k
  nl : N.length = k + 1
  hb : hub < k + 1
  l1 : 1 ≤ lo
  cnt : lo + last - hi = k + 1
  hl : hi ≤ last
  use : ∀ x ∈ N, (0 ≤ x ∧ x < lo) ∨ (hi < x ∧ x ≤ last)
  nd : N.Nodup
  hn : N.getD hub 0 = if side = 1 then lo - 1 else hi + 1
  sd : side = 0 ∨ side = 1
  lt : ∀ t ∈ T, t.1 < k + 1 ∧ t.2 < k + 1
  st : steps N T = (List.range k).map fun i => last - (i : Nat)
  z : N.getD 0 0 = 0
end TN
namespace TN
open PySem PySem.Spec PyProof.Rows L2
/-! webs made with their steps numberings -/
def bb__law_ring_1 : CS := (cSeq (cSet 3 (cBin opDiv (cVar 2) (cLit (.int 2))))
  (cSeq (cIf (cTst (cBin opEq (cBin opMod (cVar 2) (cLit (.int 2))) (cLit (.int 1))))
  (cSet 3 (cBin opSub (cVar 0) (cVar 3)))
  cSkip)
  (cSeq (cIf (cAnd (cTst (cBin opGe (cBin opMul (cLit (.int 2)) (cVar 2)) (cVar 0))) (cTst (cBin opEq (cBin opMod (cBin opAdd (cVar 2) (cVar 0)) (cLit (.int 2))) (cLit (.int 1)))))
  (cSet 3 (cBin opSub (cBin opAdd (cVar 3) (cLit (.int 1))) (cBin opMul (cLit (.int 2)) (cBin opMod (cVar 2) (cLit (.int 2))))))
  cSkip)
  (cDrop (cMutL 1 fAppend (cCons (cVar 3) cNil))))))
def ee__law_ring_2 : CE := (cTup (cCons (cVar 2) (cCons (cBin opAdd (cVar 2) (cLit (.int 1))) cNil)))
def cc__law_ring : CS := (cSeq (cSet 1 (cLst cNil))
  (cSeq (cFor (cRng1 (cVar 0)) (gNm 2)
  bb__law_ring_1)
  cSkip))
def aa__law_ring : CA := (cCons (cVar 0) (cCons (cBin opAdd (cComp (cRng1 (cBin opSub (cVar 0) (cLit (.int 1)))) (gNm 2) tTrue ee__law_ring_2 [2]) (cLst (cCons (cTup (cCons (cLit (.int 0)) (cCons (cBin opSub (cVar 0) (cLit (.int 1))) cNil))) cNil))) (cCons (cVar 1) cNil)))
def MM__law_ring : FMU := mkFU 1 4 cc__law_ring aa__law_ring
def ee__law_sides_1 : CE := (cTup (cCons (cVar 3) (cCons (cBin opAdd (cVar 0) (cVar 4)) cNil)))
def bb__law_sides_2 : CS := (cDrop (cMutL 2 fExtend (cCons (cComp (cRng1 (cVar 1)) (gNm 4) tTrue ee__law_sides_1 [4]) cNil)))
def ee__law_sides_3 : CE := (cBin opMul (cVar 0) (cBin opAdd (cVar 4) (cLit (.int 1))))
def cc__law_sides : CS := (cSeq (cSet 2 (cLst cNil))
  (cSeq (cFor (cRng1 (cVar 0)) (gNm 3)
  bb__law_sides_2)
  cSkip))
def aa__law_sides : CA := (cCons (cBin opAdd (cVar 0) (cVar 1)) (cCons (cVar 2) (cCons (cBin opAdd (cLstRg (cRg1 (cVar 0))) (cComp (cRng1 (cVar 1)) (gNm 4) tTrue ee__law_sides_3 [4])) cNil)))
def MM__law_sides : FMU := mkFU 2 5 cc__law_sides aa__law_sides
end TN
namespace TN
open PySem PySem.Spec PyProof.Rows L2
/-! rings and sides -/
structure Gr0 (m : Nat) (T : List (Nat × Nat)) (N : List Int) : Prop where
  gr : Gr m T N
  z : N.getD 0 0 = 0
  tl : T.length ≤ 30
  ml : m ≤ 31
def ringT (n : Nat) : List (Nat × Nat) := ((List.range (n - 1)).map fun k => (k, k + 1)) ++ [(0, n - 1)]
def ringN (n : Nat) : List Int := (List.range n).map fun (place : Nat) =>
  let one : Int := (place : Int) / 2
  let one : Int := if place % 2 = 1 then (n : Int) - one else one
  if n ≤ 2 * place ∧ (place + n) % 2 = 1 then one + 1 - 2 * ((place : Int) % 2) else one
structure Ring (n : Nat) : Prop where
  gr : Gr0 n (ringT n) (ringN n)
  run : MM__law_ring [(.int (n : Nat), .fz)] = .ok [(.int (n : Nat), false), (.list ((ringT n).map tieD), true), (.list ((ringN n).map .int), true)] [some (.int (n : Nat), .fz)]
def sideT (a b : Nat) : List (Nat × Nat) := (List.range a).flatMap fun i => (List.range b).map fun j => (i, a + j)
def sideN (a b : Nat) : List Int := ((List.range a).map fun (i : Nat) => (i : Int)) ++ (List.range b).map fun (j : Nat) => (a : Int) * ((j : Int) + 1)
structure Side (a b : Nat) : Prop where
  gr : Gr0 (a + b) (sideT a b) (sideN a b)
  run : MM__law_sides [(.int (a : Nat), .fz), (.int (b : Nat), .fz)] = .ok [(.int ((a + b : Nat) : Int), false), (.list ((sideT a b).map tieD), true), (.list ((sideN a b).map .int), true)] [some (.int (a : Nat), .fz), some (.int (b : Nat), .fz)]
theorem perm_nat {m : Nat} {os : List Int} (h : os.Perm (rgI 0 (m : Int))) : ∃ π : List Nat, os = π.map (fun (i : Nat) => (i : Int)) ∧ π.Perm (List.range m) := by
  refine ⟨os.map Int.toNat, ?_, ?_⟩
  · rw [List.map_map]
    have : ∀ x ∈ os, ((fun (i : Nat) => (i : Int)) ∘ Int.toNat) x = x := fun x hx => by
      obtain ⟨k, _, rfl⟩ := rgI_mem0 (h.mem_iff.mp hx)
      simp
    conv => lhs; rw [← List.map_id os]
    exact List.map_congr_left fun x hx => (this x hx).symm
  · have e : (rgI 0 (m : Int)).map Int.toNat = List.range m := by
      unfold rgI
      rw [List.map_map, show ((m : Int) - 0).toNat = m from by omega]
      conv => rhs; rw [← List.map_id (List.range m)]
      refine List.map_congr_left fun i _ => ?_
      simp
    rw [← e]
    exact h.map _
end TN
namespace TN
open PySem PySem.Spec PyProof.Rows L2
/-! renamed -/
end TN
namespace TN
open PySem PySem.Spec PyProof.Rows L2
structure Gr1 (m : Nat) (T : List (Nat × Nat)) (N : List Int) (b : Nat) : Prop where
  gr : Gr m T N
  z : N.getD 0 0 = 0
  tl : T.length ≤ 30 + b
  ml : m ≤ 31 + b
end TN
namespace TN
open PySem PySem.Spec PyProof.Rows L2
end TN
namespace TN
open PySem PySem.Spec PyProof.Rows L2
/-! dicts of whole numbers as sets -/
/-! a steps numbering, by dicts -/
theorem perm_of : ∀ {r m : List Int}, r.Nodup → (∀ x ∈ r, x ∈ m) → r.length = m.length → r.Perm m
  | [], m, _, _, h => by
    have : m = [] := List.length_eq_zero_iff.mp h.symm
    subst this; exact .nil
  | x :: r, m, hn, hs, h => by
    rw [List.nodup_cons] at hn
    have h1 := hs x (List.mem_cons_self ..)
    have ih := perm_of (r := r) (m := m.erase x) hn.2 (fun y hy => (List.mem_erase_of_ne (fun z : y = x => hn.1 (by rw [← z]; exact hy))).mpr (hs y (List.mem_cons_of_mem _ hy))) (by rw [List.length_erase_of_mem h1]; simp at h; omega)
    exact (ih.cons x).trans (List.perm_cons_erase h1).symm
theorem rg_mem {L : Nat} {x : Int} : x ∈ rgI 1 ((L : Int) + 1) ↔ 1 ≤ x ∧ x ≤ L := by
  unfold rgI
  simp only [List.mem_map, List.mem_range]
  constructor
  · rintro ⟨i, hi, rfl⟩; omega
  · rintro ⟨h1, h2⟩; exact ⟨(x - 1).toNat, by omega, by omega⟩
theorem rg_nodup (a b : Int) : (rgI a b).Nodup := by
  unfold rgI
  refine List.Pairwise.map _ (fun i j hij => ?_) (List.nodup_range (n := (b - a).toNat))
  intro z; exact hij (by omega)
end TN
namespace TN
open PySem PySem.Spec PyProof.Rows L2
/-! the look by dicts -/
end TN
namespace TN
open PySem PySem.Spec PyProof.Rows L2
/-! what is made of a numbering -/
theorem ix_tD {R : List D} {k : Nat} (h : k < R.length) : opIx (.tuple R) (.int (k : Nat)) = some (.val R[k]) := by
  rw [opIx_t, atI_nat R k R[k] (List.getElem?_eq_getElem h)]; rfl
end TN
namespace TN
open PySem PySem.Spec PyProof.Rows L2
/-! parted steps numberings -/
theorem shaped_tiesTL (ts : List (Nat × Nat)) : SeqAt.shaped (.tuple (ts.map tieD)) = true := by
  have := shaped_ties ts
  unfold SeqAt.shaped at this ⊢
  exact this
/-! plainly -/
theorem getD_memI {ns : List Int} {i : Nat} (h : i < ns.length) : ns.getD i 0 ∈ ns := by
  rw [List.getD_eq_getElem?_getD, List.getElem?_eq_getElem h]
  exact List.getElem_mem h
section
variable {n : Nat} {ts : List (Nat × Nat)} {ns : List Int}
/-- both sides turned about -/
def turn (L : Nat) (t : Int) (x : Int) : Int := if x ≤ t then t - x else (L : Int) + t + 1 - x
/-! what they compute -/
theorem fMax_l (a : Int) (ns : List Int) : fMax [.list ((a :: ns).map .int)] = some (.val (.int (ns.foldl max a))) := by
  simp only [fFold, seqInts, seqOf, intsOf_map]
end
end TN
namespace TN
open PySem PySem.Spec PyProof.Rows L2

/-! ### exceptions with fields: what must be known of their classes -/
structure OxX (K : PySem.W.Frag) (x : Str) (fs : List Str) : Prop where
  oc : OexC K (He.ga K x)
  ini : PySem.W.findIn K (.ref (He.ga K x)) "__init__" = some (some (.ref (iniA K x)))
  fn : PySem.W.typeIn K (.ref (iniA K x)) = some (.type "function")
  fld : ∀ f ∈ fs, PySem.W.findIn K (.ref (He.ga K x)) f = some none
/-! ### the head -/
/-! ### making one -/
def putF {α : Type} : List Str → List α → List (Str × α) → List (Str × α)
  | f :: fs, v :: vs, acc => putF fs vs ((f, v) :: acc)
  | _, _, acc => acc
theorem FzN.put {K : PySem.W.Frag} {G : Hp} : ∀ {fs : List Str} {vs : List V} {ds : List D} {av : List (Str × V)} {ad : List (Str × D)}, FzA K G vs ds → FzN K G av ad → FzN K G (putF fs vs av) (putF fs ds ad)
  | [], _, _, _, _, _, h => by simpa [putF] using h
  | f :: fs, _, _, _, _, .nil, h => by simpa [putF] using h
  | f :: fs, _, _, _, _, .cons a b, h => FzN.put (fs := fs) b (.cons a h)
/-- the promise of __init__ -/
def spI (C : Addr) (fs : List Str) : L2.Sp := fun vs H Q _ => ∃ (a : Addr) (us : List V), vs = .ref a :: us ∧ us.length = fs.length ∧ H a = some (exo a C none) ∧ ∀ dx, H dx = none → dx ≠ a → Q .non (upd (upd H dx (exd dx (putF fs us []))) a (exo a C (some dx)))
structure RaiseA (P : Program) (w : World) (K : PySem.W.Frag) (mg : Str → Option Value) (base : Heap) (k : Nat) (x : Str) (fs : List Str) : Prop where
  ox : OxX K x fs
  glo : mg x = some (.ref (He.ga K x))
  ex : ∃ (fd : FuncData) (pn : List Str), FnOk P w K mg base (L2.CX P w) k (iniA K x) fd pn (spI (He.ga K x) fs) ∧ Binds K fd pn []
theorem RaiseA.up {P : Program} {w : World} {K : PySem.W.Frag} {mg : Str → Option Value} {base : Heap} {k : Nat} {x : Str} {fs : List Str} (c : RaiseA P w K mg base k x fs) {j : Nat} (h : k ≤ j) : RaiseA P w K mg base j x fs := by
  obtain ⟨fd, pn, h1, h2⟩ := c.ex
  exact ⟨c.ox, c.glo, fd, pn, h1.mono h, h2⟩
section
variable {P : Program} {w : World} {K : PySem.W.Frag} {mg : Str → Option Value} {base : Heap} {x qual : Str} {params : Arguments} {body : List Stmt} {scope : Scope} {fd : FuncData}
end
/-! ### raise X(e, ..) -/
def cRaiseA (x : Str) (fs : List Str) (ca : CA) : CS := fun ρ => match ca ρ with
  | .ok ps ρ1 => (match frzA ps ρ1 with
    | some (ds, ρ2) => .exc ⟨x, putF fs ds []⟩ ρ2
    | none => .bad)
  | .exc y ρ1 => .exc y ρ1
  | .bad => .bad
/-! ### e.f, e a caught exception -/
def lookS (f : Str) : List (D × D) → Option D
  | (.str g, d) :: r => if f = g then some d else lookS f r
  | _ => none
theorem FzN.look {K : PySem.W.Frag} {G : Hp} {f : Str} {d : D} : ∀ {fs : List (Str × V)} {ds : List (Str × D)}, FzN K G fs ds → lookS f (ds.map fun p => (.str p.1, p.2)) = some d → ∃ v, fs.lookup f = some v ∧ Fz K G v d
  | _, _, .nil, h => by cases h
  | _, _, .cons (f := g) (v := v) a b, h => by
    simp only [List.map_cons, lookS] at h
    by_cases e : f = g
    · rw [if_pos e] at h
      cases h
      exact ⟨v, by rw [lookup_put, if_pos e], a⟩
    · rw [if_neg e] at h
      obtain ⟨u, h1, h2⟩ := FzN.look b h
      exact ⟨u, by rw [lookup_put, if_neg e]; exact h1, h2⟩
end TN
namespace TN
open PySem PySem.Spec PyProof.Rows L2
/-! webs joined by marks; round numberings as the laws look at them; the greatest divisor -/
def mx (a b : Int) : Int := if b > a then b else a
def mn (a b : Int) : Int := if b < a then b else a
def mkStep (ms : List Int) (t : Nat × Nat) : List Int := ms.map fun m => if m = mx (ms.getD t.1 0) (ms.getD t.2 0) then mn (ms.getD t.1 0) (ms.getD t.2 0) else m
def marksL (n : Nat) (ts : List (Nat × Nat)) : List Int := ts.foldl mkStep (rgI 0 n)
def maxL : List Int → Int
  | [] => 0
  | a :: xs => xs.foldl max a
def connB (n : Nat) (ts : List (Nat × Nat)) : Bool := decide (maxL (marksL n ts) = 0)
def treeB (n : Nat) (ts : List (Nat × Nat)) : Bool := decide (ts.length + 1 = n) && connB n ts
section
variable {n : Nat} {ts : List (Nat × Nat)}
/-! a round numbering, as the laws look at it -/
def sumsR (ts : List (Nat × Nat)) (ns : List Int) : List Int := ts.map fun t => (ns.getD t.1 0 + ns.getD t.2 0) % (ts.length : Int)
end
/-! the greatest divisor -/
end TN
namespace TN
open PySem PySem.Spec PyProof.Rows L2
/-! spines with legs, and the cases of round numberings -/
def lg (legs : List Nat) : List D := legs.map fun (k : Nat) => PyData.int (k : Nat)
theorem take_sum (legs : List Nat) {k : Nat} (h : k < legs.length) : (legs.take (k + 1)).sum = (legs.take k).sum + legs.getD k 0 := by
  rw [List.take_succ, List.sum_append]
  simp [h]
theorem take_le (legs : List Nat) (k : Nat) : (legs.take k).sum ≤ legs.sum := by
  have := congrArg List.sum (List.take_append_drop k legs)
  rw [List.sum_append] at this
  omega
theorem rng_at {m k : Nat} {pre post : List Nat} (e : List.range m = pre ++ k :: post) : k = pre.length ∧ k < m := by
  have h1 : (List.range m)[pre.length]? = some k := by rw [e]; simp
  obtain ⟨h3, h2⟩ := List.getElem?_eq_some_iff.mp h1
  have h4 : pre.length = k := by simpa using h2
  exact ⟨h4.symm, by simp at h3; omega⟩
end TN
namespace TN
open PySem PySem.Spec PyProof.Rows L2
end TN
namespace TN
open PySem PySem.Spec PyProof.Rows L2
theorem wok_sort {n : Nat} {F : List (Nat × Nat)} (h1 : 1 ≤ n) (h2 : n ≤ 1000) (h3 : F.length ≤ 1000) (h4 : ∀ t ∈ F, t.1 < n ∧ t.2 < n) : WebOk n (sortT F) :=
  ⟨h1, h2, by rw [(sortT_perm F).length_eq]; exact h3, fun t ht => h4 t ((sortT_perm F).mem_iff.mp ht)⟩
end TN
namespace TN
open PySem PySem.Spec PyProof.Rows L2
/-! pieces of webs -/
/-! marks, plainly -/
def mf (m : Nat → Nat) (t : Nat × Nat) : Nat → Nat := fun u => if m u = max (m t.1) (m t.2) then min (m t.1) (m t.2) else m u
def mkN (ts : List (Nat × Nat)) : Nat → Nat := ts.foldl mf id
structure MOk (m : Nat → Nat) : Prop where
  le : ∀ u, m u ≤ u
  id : ∀ u, m (m u) = m u
/-! pieces, plainly -/
def cls (n : Nat) (ts : List (Nat × Nat)) (r : Nat) : List Nat := (List.range n).filter fun v => decide (mkN ts v = r)
/-! one piece -/
def nbrs (ts : List (Nat × Nat)) (v : Nat) : List Nat := ts.filterMap fun t => if hasP t v = true then some (t.1 + t.2 - v) else none
structure Bf (n : Nat) (ts : List (Nat × Nat)) (p : Nat) (F : List Nat) (met : Nat) : Prop where
  nd : F.Nodup
  pin : p ∈ F
  cl : ∀ x ∈ F, x < n ∧ mkN ts x = mkN ts p
  le : met ≤ F.length
  done : ∀ i, i < met → ∀ o ∈ nbrs ts (F.getD i 0), o ∈ F
end TN
namespace TN
open PySem PySem.Spec PyProof.Rows L2
theorem lg_ints (F : List Nat) : lg F = (F.map fun (k : Nat) => (k : Int)).map .int := by rw [List.map_map]; rfl
section
variable {n : Nat} {ts : List (Nat × Nat)}
/-! all pieces -/
end
end TN
namespace TN
open PySem PySem.Spec PyProof.Rows L2
/-! two sides of webs -/
def dbl (n : Nat) (ts : List (Nat × Nat)) : List (Nat × Nat) := ts.flatMap fun t => [(t.1, t.2 + n), (t.1 + n, t.2)]
def m2 (n : Nat) (ts : List (Nat × Nat)) : Nat → Nat := mkN (dbl n ts)
section
variable {n : Nat} {ts : List (Nat × Nat)}
structure Sd (n : Nat) (ts : List (Nat × Nat)) (S : Nat → Nat) : Prop where
  le : ∀ v, v < n → S v ≤ 1
  s0 : ∀ v, v < n → S v = 0 → m2 n ts v = m2 n ts (mkN ts v)
  s1 : ∀ v, v < n → S v = 1 → m2 n ts v = m2 n ts (mkN ts v + n)
  rt : ∀ v, v < n → mkN ts v = v → S v = 0
/-! the dict of sides -/
def ks (l : List (Nat × Nat)) : List Nat := l.map (·.1)
/-! the walk through the pieces -/
structure Df (n : Nat) (ts : List (Nat × Nat)) (P : List Nat) (l : List (Nat × Nat)) (f : List Nat) (hot : List Nat) : Prop where
  nd : (ks l).Nodup
  lt : ∀ k ∈ ks l, k < n
  ok : ∀ p ∈ l, p.2 ≤ 1 ∧ (p.2 = 0 → m2 n ts p.1 = m2 n ts (mkN ts p.1)) ∧ (p.2 = 1 → m2 n ts p.1 = m2 n ts (mkN ts p.1 + n)) ∧ (mkN ts p.1 = p.1 → p.2 = 0)
  rt : ∀ k ∈ ks l, mkN ts k ∈ P
  sub : ∀ r ∈ P, r ∈ ks l
  fr : ∀ x ∈ f, x ∈ ks l
  cl : ∀ k ∈ ks l, k ∉ f → k ∉ hot → ∀ o ∈ nbrs ts k, o ∈ ks l
end
end TN
namespace TN
open PySem PySem.Spec PyProof.Rows L2
section
variable {n : Nat} {ts : List (Nat × Nat)}
end
end TN
namespace TN
open PySem PySem.Spec PyProof.Rows L2
/-! a, b = a list -/
end TN
namespace TN
open PySem PySem.Spec PyProof.Rows L2
/-! products: wide whole numbers, tuples so often -/
theorem tuple_mulOne (l : Addr) (items : Array Value) (n : Nat) (dd : Option Addr) (sl : Array (Option Value)) (u : Tok) :
    Meets (Builtin.«tuple.__mul__» ⟨[.ref l, .int 1 u], []⟩) (fun _ R s => s.heap.get? l = some { cls := .type "tuple", dict := dd, data := .seq items n, slots := sl } ∧
      R (.ok (.ret (Value.ref l))) s) :=
  .of_wp fun prog w A R s h => by
    obtain ⟨hp, g, d, tk, os⟩ := s
    obtain ⟨hl, h⟩ := h
    have f1 := AutoSeq1.idx_int
    have c0 : (decide ((1 : Int) < -(2 ^ 63)) || decide ((1 : Int) ≥ 2 ^ 63)) = false := by decide
    have c1 : (items.isEmpty || (1 : Int) == 1) = true := by simp
    wp_walk using wpAny_loadPart' hl
    repeat (first
      | (refine wpAny_ite_false (decide_eq_false (by rw [c0]; exact Bool.false_ne_true)) ?_; wp_walk using wpAny_loadPart' hl)
      | (refine wpAny_ite_true (decide_eq_true (by rw [c1])) ?_; wp_walk using wpAny_loadPart' hl))
    exact ⟨_, rfl, h⟩
def rRepT1 (K : PySem.W.Frag) : R2 := fun x y H Q => ∃ l xs, x = .ref l ∧ y = .int 1 ∧ SqT K H l xs ∧ Q (.ref l) H
theorem op_repT1 {X : Cx} : OpR X (binaryOp .Mult) (rRepT1 X.K) := by
  intro pins s σ H x y v u Q I rx ry h
  obtain ⟨l, xs, rfl, rfl, hT, q⟩ := h
  cases rx
  obtain ⟨t, rfl⟩ := ry
  obtain ⟨its, r, ⟨⟨cls, dd, data, sl⟩, ho, hc, n, hd⟩, hs⟩ := I.tuple hT
  simp only at hc hd
  subst hc hd
  refine wpAny_binaryOp_repeat_ref (T := "tuple") (U := "int") (by decide) ⟨_, ho, rfl⟩ (fun s' => typeIs_int s' 1 t) noFill_tuple_mul F.fills_int_mul F.slot_int_rmul repeat_tuple F.slot_int_index.lookup
    (call_meets F.slot_int_rmul (typeIs_int s 1 t) F.entry_int_rmul (F.args_int_rmul_2 _ _) (int_rmul_tuple 1 t l its.toArray n dd sl)
      ⟨ho, rfl, ⟨_, ho, rfl⟩, call_meets F.slot_tuple_mul ⟨_, ho, rfl⟩ F.entry_tuple_mul (F.args_tuple_mul_2 _ _) (tuple_mulOne l its.toArray n dd sl t) ⟨ho, ?_⟩⟩)
  exact ⟨.ref l, _, I, rfl, q⟩
def opMulX : D → D → Option Pl
  | .int i, .int j => if i.natAbs.log2 + j.natAbs.log2 < 1000000 then some (.val (.int (i * j))) else none
  | .tuple a, .int k => if k = 1 then some (.val (.tuple a)) else if a ≠ [] ∧ 2 ≤ k ∧ k ≤ 1000 ∧ a.length ≤ 1000 then some (.val (.tuple (List.replicate k.toNat a).flatten)) else none
  | _, _ => none
abbrev rMulX (K : PySem.W.Frag) : R2 := fun x y H Q => rI CMulW (fun i j => .int (i * j)) x y H Q ∨ (rRepT1 K x y H Q ∨ rRepT K x y H Q)
theorem op_mulX {X : Cx} : OpR X (binaryOp .Mult) (rMulX X.K) := op_mulW.or (op_repT1.or op_repT)
theorem mulX_ok (K : PySem.W.Frag) : OpOk K (rMulX K) opMulX := by
  intro G H x y dx dy p Q s hx hy e q
  cases dx <;> cases dy <;> simp only [opMulX] at e <;> try (cases e; done)
  case int.int i j =>
    split at e
    · rename_i hl
      cases e
      exact .inl ⟨_, _, hx.int, hy.int, hl, q _ _ (.fz (.int _))⟩
    · cases e
  case tuple.int a k =>
    obtain ⟨b, xs, rfl, g1, h1, h2⟩ := hx.tup s
    by_cases hk : k = 1
    · rw [if_pos hk] at e
      cases e
      subst hk
      exact .inr (.inl ⟨b, xs, rfl, hy.int, h1, q _ _ (.fz (.tup g1 h2))⟩)
    · rw [if_neg hk] at e
      split at e
      · rename_i hl
        cases e
        refine .inr (.inr ⟨b, k, xs, rfl, hy.int, h1, fun z => ?_, hl.2.1, hl.2.2.1, by rw [h2.length]; exact hl.2.2.2, fun p hp => q _ _ (.tup hp (h2.rep _))⟩)
        subst z
        cases h2
        exact hl.1 rfl
      · cases e
end TN
namespace TN
open PySem PySem.Spec PyProof.Rows L2
/-! is, is not: of a truth anything -/
end TN
namespace TN
open PySem PySem.Spec PyProof.Rows L2
/-! spines numbered from both ends -/
section
variable (legs : List Nat)
def offS : Nat → Nat
  | 0 => legs.length
  | k + 1 => offS k + legs.getD k 0
theorem off_sum : ∀ k, k ≤ legs.length → offS legs k = legs.length + (legs.take k).sum
  | 0, _ => by simp [offS]
  | k + 1, h => by
    rw [offS, off_sum k (by omega), take_sum legs (by omega)]; omega
theorem off_end : offS legs legs.length = legs.length + legs.sum := by
  rw [off_sum legs _ (Nat.le_refl _), List.take_length]
theorem off_ge (k : Nat) : legs.length ≤ offS legs k := by
  induction k with
  | zero => exact Nat.le_refl _
  | succ k ih => rw [offS]; omega
end
end TN
namespace TNO
open TN
open PySem PySem.Spec PyProof.Rows L2
/-! what is wanted of a run, told from its end: each step leads to what is wanted of the next -/
def gE {α : Type} (r : R α) (Q : α → Rho → Prop) (E : Xc → Rho → Prop) : Prop := match r with
  | .ok p ρ' => Q p ρ'
  | .exc x ρ' => E x ρ'
  | .bad => False
def gS (r : RS) (N : Rho → Prop) (T : D → Bool → Rho → Prop) (E : Xc → Rho → Prop) : Prop := match r with
  | .nx ρ' => N ρ'
  | .ret d fr ρ' => T d fr ρ'
  | .exc x ρ' => E x ρ'
  | .bad => False
def gF (r : FR) (T : D → Bool → List Slot → Prop) (E : Xc → List Slot → Prop) : Prop := match r with
  | .ok d fr o => T d fr o
  | .exc x o => E x o
  | .bad => False
def gO {α : Type} (o : Option α) (Q : α → Prop) : Prop := match o with
  | some a => Q a
  | none => False
def gP {α β : Type} (o : Option (α × β)) (Q : α → β → Prop) : Prop := match o with
  | some (a, b) => Q a b
  | none => False
def lk (p : Pl) (ρ : Rho) (Q : D → Prop) : Prop := gO (look p ρ) Q
def lkA (ps : List Pl) (ρ : Rho) (Q : List D → Prop) : Prop := gO (lookA ps ρ) Q
def fz1 (p : Pl) (ρ : Rho) (Q : D → Rho → Prop) : Prop := gP (frz p ρ) Q
def fzA (ps : List Pl) (ρ : Rho) (Q : List D → Rho → Prop) : Prop := gP (frzA ps ρ) Q
def br (b : Bool) (A B : Prop) : Prop := (b = true → A) ∧ (b = false → B)
def isB (d : D) (Q : Bool → Prop) : Prop := match d with
  | .bool b => Q b
  | _ => False
def isI (d : D) (Q : Int → Prop) : Prop := match d with
  | .int b => Q b
  | _ => False
def sto (i : Nat) (p : Pl) (ρ : Rho) (N : Rho → Prop) : Prop := gO (store i p ρ) N
def setW (ρ : Rho) (i : Nat) (s : Slot) (N : Rho → Prop) : Prop := N (ρ.set i s)
def ownW (i : Nat) (ρ : Rho) (Q : D → Md → Prop) : Prop := gP (ownAt i ρ) Q
def prW (p : Int × Int) (F : Int → Int → Prop) : Prop := F p.1 p.2
def lenW (ds : List D) (P : Prop) : Prop := ds.length ≤ 16777216 ∧ P
def rt (p : Pl) (ρ : Rho) (T : D → Bool → Rho → Prop) : Prop := gS (retP p ρ) (fun _ => False) T (fun _ _ => False)
def wpd (vs : List Nat) (ρ : Rho) (N : Rho → Prop) : Prop := wipeOk ρ vs = true ∧ N (wipeR ρ vs)
def elW (g : D → Rho → Option Rho) (t : CB) (e : CE) (vs : List Nat) (ρ : Rho) (x : D) (P : Option D → Rho → Prop) : Prop :=
  gO (g x ρ) fun ρ1 => gE (t ρ1) (fun b ρ2 => br b (gE (e ρ2) (fun p ρ3 => fz1 p ρ3 fun d ρ4 => wpd vs ρ4 (P (some d))) (fun _ _ => False)) (wpd vs ρ2 (P none))) (fun _ _ => False)
def cpW (ds : List D) (g : D → Rho → Option Rho) (t : CB) (e : CE) (vs : List Nat) (ρ : Rho) (Q : Pl → Rho → Prop) : Prop :=
  wipeOk ρ vs = true ∧ gE (compL g t e vs ds [] (wipeR ρ vs)) (fun acc ρ2 => Q (.tmp (.list acc)) (backR ρ ρ2 vs)) (fun _ _ => False)
/-- a slot that may be set -/
def okS (s : Slot) : Prop := match s with
  | some (_, .lent) => False
  | some (_, .lz) => False
  | _ => True
section
variable {α : Type} {ρ ρ1 ρ2 : Rho} {E : Xc → Rho → Prop} {d : D} {ds : List D} {i j : Nat}
theorem gE_mono {r : R α} {Q Q' : α → Rho → Prop} (h : gE r Q E) (k : ∀ p ρ, Q p ρ → Q' p ρ) : gE r Q' E := by
  cases r with
  | ok p ρ => exact k p ρ h
  | exc x ρ => exact h
  | bad => exact h
theorem gE_bind {β : Type} {r : R α} {k : α → Rho → R β} {Q : β → Rho → Prop} (h : gE r (fun p ρ1 => gE (k p ρ1) Q E) E) : gE (r.bind k) Q E := by
  cases r with
  | ok p ρ => exact h
  | exc x ρ => exact h
  | bad => exact h
theorem gO_ex {o : Option α} {Q : α → Prop} (h : gO o Q) : ∃ x, o = some x ∧ Q x := by
  cases o with
  | none => exact h.elim
  | some x => exact ⟨x, rfl, h⟩
theorem gP_ex {β : Type} {o : Option (α × β)} {Q : α → β → Prop} (h : gP o Q) : ∃ x y, o = some (x, y) ∧ Q x y := by
  cases o with
  | none => exact h.elim
  | some x => exact ⟨x.1, x.2, rfl, h⟩
theorem gO_of {o : Option α} {x : α} {Q : α → Prop} (h : o = some x) (k : Q x) : gO o Q := by rw [h]; exact k
theorem gP_of {β : Type} {o : Option (α × β)} {x : α} {y : β} {Q : α → β → Prop} (h : o = some (x, y)) (k : Q x y) : gP o Q := by rw [h]; exact k
theorem isB_ex {Q : Bool → Prop} (h : isB d Q) : ∃ b, d = .bool b ∧ Q b := by
  cases d <;> first | exact h.elim | exact ⟨_, rfl, h⟩
theorem isI_ex {Q : Int → Prop} (h : isI d Q) : ∃ b, d = .int b ∧ Q b := by
  cases d <;> first | exact h.elim | exact ⟨_, rfl, h⟩
theorem isB_b {b : Bool} {Q : Bool → Prop} (h : Q b) : isB (.bool b) Q := h
theorem isI_i {b : Int} {Q : Int → Prop} (h : Q b) : isI (.int b) Q := h
theorem gE_ok {r : R α} {a : α} {Q : α → Rho → Prop} (h : r = .ok a ρ1) (k : Q a ρ1) : gE r Q E := by rw [h]; exact k
theorem gE_okE {r : R α} {Q : α → Rho → Prop} (h : gE r Q (fun _ _ => False)) : ∃ a ρ, r = .ok a ρ ∧ Q a ρ := by
  cases r with
  | ok p ρ => exact ⟨p, ρ, rfl, h⟩
  | exc x ρ => exact h.elim
  | bad => exact h.elim
theorem gS_mono {r : RS} {N N' : Rho → Prop} {T T' : D → Bool → Rho → Prop} {E' : Xc → Rho → Prop} (h : gS r N T E) (h1 : ∀ ρ, N ρ → N' ρ) (h2 : ∀ d fr ρ, T d fr ρ → T' d fr ρ) (h3 : ∀ x ρ, E x ρ → E' x ρ) : gS r N' T' E' := by
  cases r with
  | nx p => exact h1 _ h
  | ret d fr p => exact h2 _ _ _ h
  | exc x ρ => exact h3 _ _ h
  | bad => exact h
/-! truths -/
section
variable {A B : Prop}
theorem br_true (h : A) : br true A B := ⟨fun _ => h, fun z => by cases z⟩
theorem br_false (h : B) : br false A B := ⟨(fun z => by cases z), fun _ => h⟩
theorem br_not {b : Bool} (h : br b B A) : br (!b) A B := by
  cases b
  · exact ⟨fun _ => h.2 rfl, fun z => by cases z⟩
  · exact ⟨(fun z => by cases z), fun _ => h.1 rfl⟩
theorem br_t {b : Bool} (h : b = true) (k : A) : br b A B := by rw [h]; exact br_true k
theorem br_f {b : Bool} (h : b = false) (k : B) : br b A B := by rw [h]; exact br_false k
theorem br_p {p : Prop} [Decidable p] (h : p) (k : A) : br (decide p) A B := br_t (decide_eq_true h) k
theorem br_n {p : Prop} [Decidable p] (h : ¬ p) (k : B) : br (decide p) A B := br_f (decide_eq_false h) k
theorem br_dec {p : Prop} [Decidable p] (h1 : p → A) (h2 : ¬ p → B) : br (decide p) A B := ⟨fun h => h1 (of_decide_eq_true h), fun h => h2 (of_decide_eq_false h)⟩
theorem br_and {a b : Bool} (h : br a (br b A B) B) : br (a && b) A B := by
  cases a
  · exact br_false (h.2 rfl)
  · exact h.1 rfl
theorem br_or {a b : Bool} (h : br a A (br b A B)) : br (a || b) A B := by
  cases a
  · exact h.2 rfl
  · exact br_true (h.1 rfl)
theorem br_sT {a b : String} (h : (Str.ofString a == Str.ofString b) = true) (k : A) : br (Str.ofString a == Str.ofString b) A B := br_t h k
theorem br_sF {a b : String} (h : (Str.ofString a == Str.ofString b) = false) (k : B) : br (Str.ofString a == Str.ofString b) A B := br_f h k
end
/-! looking -/
theorem lk_val {Q : D → Prop} (h : Q d) : lk (.val d) ρ Q := h
theorem lk_tmp {Q : D → Prop} (h : Q d) : lk (.tmp d) ρ Q := h
theorem lk_slot {m : Md} {Q : D → Prop} (h : ρ[i]? = some (some (d, m))) (k : Q d) : lk (.slot i) ρ Q := by
  unfold lk; rw [look_slot h]; exact k
theorem lkA_nil {Q : List D → Prop} (h : Q []) : lkA [] ρ Q := h
theorem lkA_cons {p : Pl} {ps : List Pl} {Q : List D → Prop} (h : lk p ρ fun d => lkA ps ρ fun ds => Q (d :: ds)) : lkA (p :: ps) ρ Q := by
  obtain ⟨x, hx, h⟩ := gO_ex h
  obtain ⟨y, hy, h⟩ := gO_ex h
  unfold lkA lookA
  rw [hx, hy]; exact h
theorem fz1_val {Q : D → Rho → Prop} (h : Q d ρ) : fz1 (.val d) ρ Q := h
theorem fz1_tmp {Q : D → Rho → Prop} (h : Q d ρ) : fz1 (.tmp d) ρ Q := h
theorem fz1_own {Q : D → Rho → Prop} (h : ρ[i]? = some (some (d, .own))) (e : ρ.set i (some (d, .fz)) = ρ1) (k : Q d ρ1) : fz1 (.slot i) ρ Q := by
  unfold fz1 frz; simp only [h, e]; exact k
theorem fz1_lent {Q : D → Rho → Prop} (h : ρ[i]? = some (some (d, .lent))) (e : ρ.set i (some (d, .lz)) = ρ1) (k : Q d ρ1) : fz1 (.slot i) ρ Q := by
  unfold fz1 frz; simp only [h, e]; exact k
theorem fzA_nil {Q : List D → Rho → Prop} (h : Q [] ρ) : fzA [] ρ Q := h
theorem fzA_cons {p : Pl} {ps : List Pl} {Q : List D → Rho → Prop} (h : fz1 p ρ fun d ρ1 => fzA ps ρ1 fun ds => Q (d :: ds)) : fzA (p :: ps) ρ Q := by
  obtain ⟨x, y, hx, h⟩ := gP_ex h
  obtain ⟨u, v, hu, h⟩ := gP_ex h
  unfold fzA frzA
  simp only [hx, hu]; exact h
theorem lenW_i {P : Prop} (h : ds.length ≤ 16777216) (k : P) : lenW ds P := ⟨h, k⟩
theorem len_nil {n : Nat} : ([] : List D).length ≤ n := Nat.zero_le _
theorem len_cons {n : Nat} (h : ds.length ≤ n) : (d :: ds).length ≤ n + 1 := Nat.succ_le_succ h
theorem st0 {s s' : Slot} : (s :: ρ).set 0 s' = s' :: ρ := rfl
theorem stS {s s' : Slot} (h : ρ.set i s' = ρ1) : (s :: ρ).set (i + 1) s' = s :: ρ1 := by rw [← h]; rfl
theorem setW_i {s : Slot} {N : Rho → Prop} (e : ρ.set i s = ρ1) (k : N ρ1) : setW ρ i s N := by unfold setW; rw [e]; exact k
theorem ownW_own {Q : D → Md → Prop} (h : ρ[i]? = some (some (d, .own))) (k : Q d .own) : ownW i ρ Q := by
  unfold ownW ownAt; simp only [h]; exact k
theorem ownW_lent {Q : D → Md → Prop} (h : ρ[i]? = some (some (d, .lent))) (k : Q d .lent) : ownW i ρ Q := by
  unfold ownW ownAt; simp only [h]; exact k
theorem can_ok {s : Slot} (h : ρ[i]? = some s) (hs : okS s) : canSet ρ i = true := by
  unfold canSet; rw [h]
  match s, hs with
  | none, _ => rfl
  | some (_, .fz), _ => rfl
  | some (_, .own), _ => rfl
  | some (_, .lent), h => exact h.elim
  | some (_, .lz), h => exact h.elim
theorem okS_jk {k : Option D} : okS (jk k) := by cases k <;> trivial
theorem okS_md {md : Md} (h : md = .own ∨ md = .fz) : okS (some (d, md)) := by rcases h with rfl | rfl <;> trivial
theorem sto_val {N : Rho → Prop} (h : canSet ρ i = true) (e : ρ.set i (some (d, .fz)) = ρ1) (k : N ρ1) : sto i (.val d) ρ N := by
  unfold sto store; simp only [h, if_true, e]; exact k
theorem sto_tmp {N : Rho → Prop} (h : canSet ρ i = true) (e : ρ.set i (some (d, .own)) = ρ1) (k : N ρ1) : sto i (.tmp d) ρ N := by
  unfold sto store; simp only [h, if_true, e]; exact k
theorem sto_own {N : Rho → Prop} (hj : ρ[j]? = some (some (d, .own))) (e : ρ.set j (some (d, .fz)) = ρ1) (h : canSet ρ1 i = true) (e2 : ρ1.set i (some (d, .fz)) = ρ2) (k : N ρ2) : sto i (.slot j) ρ N := by
  unfold sto store frz; simp only [hj, e, h, if_true, e2]; exact k
theorem sto_lent {N : Rho → Prop} (hj : ρ[j]? = some (some (d, .lent))) (e : ρ.set j (some (d, .lz)) = ρ1) (h : canSet ρ1 i = true) (e2 : ρ1.set i (some (d, .fz)) = ρ2) (k : N ρ2) : sto i (.slot j) ρ N := by
  unfold sto store frz; simp only [hj, e, h, if_true, e2]; exact k
theorem rt_val {T : D → Bool → Rho → Prop} (h : T d false ρ) : rt (.val d) ρ T := h
theorem rt_tmp {T : D → Bool → Rho → Prop} (h : T d true ρ) : rt (.tmp d) ρ T := h
theorem rt_own {T : D → Bool → Rho → Prop} (h : ρ[i]? = some (some (d, .own))) (e : ρ.set i none = ρ1) (k : T d true ρ1) : rt (.slot i) ρ T := by
  unfold rt retP; simp only [h, e]; exact k
theorem rt_lent {T : D → Bool → Rho → Prop} (h : ρ[i]? = some (some (d, .lent))) (e : ρ.set i (some (d, .lz)) = ρ1) (k : T d false ρ1) : rt (.slot i) ρ T := by
  unfold rt retP; simp only [h, e]; exact k
theorem wipe_nil : wipeR ρ [] = ρ := rfl
theorem wipe_cons {v : Nat} {vs : List Nat} (h : wipeR ρ vs = ρ1) (h2 : ρ1.set v none = ρ2) : wipeR ρ (v :: vs) = ρ2 := by unfold wipeR; rw [h, h2]
theorem wpd_i {vs : List Nat} {N : Rho → Prop} (h : wipeOk ρ vs = true) (e : wipeR ρ vs = ρ1) (k : N ρ1) : wpd vs ρ N := ⟨h, by rw [e]; exact k⟩
def okW (s : Slot) : Prop := match s with
  | none => True
  | some (_, .fz) => True
  | _ => False
theorem okW_none : okW none := trivial
theorem okW_fz : okW (some (d, .fz)) := trivial
theorem okW_jk {k : Option D} : okW (jk k) := by cases k <;> trivial
theorem wOk_nil : wipeOk ρ [] = true := rfl
theorem wOk_cons {v : Nat} {vs : List Nat} {s : Slot} (h : ρ[v]? = some s) (hs : okW s) (k : wipeOk ρ vs = true) : wipeOk ρ (v :: vs) = true := by
  unfold wipeOk at *
  rw [List.all_cons, k, Bool.and_true, h]
  match s, hs with
  | none, _ => rfl
  | some (_, .fz), _ => rfl
def setB (ρ0 ρ : Rho) (vs : List Nat) (N : Rho → Prop) : Prop := N (backR ρ0 ρ vs)
theorem back_nil {ρ0 : Rho} : backR ρ0 ρ [] = ρ := rfl
theorem back_cons {ρ0 : Rho} {v : Nat} {vs : List Nat} {s : Slot} (h : ρ0[v]? = some s) (h1 : backR ρ0 ρ vs = ρ1) (h2 : ρ1.set v s = ρ2) : backR ρ0 ρ (v :: vs) = ρ2 := by
  unfold backR; simp only [h, h1]; exact h2
theorem setB_i {ρ0 : Rho} {vs : List Nat} {N : Rho → Prop} (e : backR ρ0 ρ vs = ρ1) (k : N ρ1) : setB ρ0 ρ vs N := by unfold setB; rw [e]; exact k
/-! expressions -/
section
variable {Q : Pl → Rho → Prop} {a b c : CE} {ca : CA}
theorem w_lit (h : Q (.val d) ρ) : gE (cLit d ρ) Q E := h
theorem w_newK (h : Q (.tmp (.dict [])) ρ) : gE (cNewK ρ) Q E := h
theorem w_newT (h : Q (.tmp (.dict [(.none, .none)])) ρ) : gE (cNewT ρ) Q E := h
theorem w_fz (h : ρ[i]? = some (some (d, .fz))) (k : Q (.val d) ρ) : gE (cVar i ρ) Q E := gE_ok (var_fz h) k
theorem w_lz (h : ρ[i]? = some (some (d, .lz))) (k : Q (.val d) ρ) : gE (cVar i ρ) Q E := gE_ok (by unfold cVar; simp only [h]) k
theorem w_own (h : ρ[i]? = some (some (d, .own))) (k : Q (.slot i) ρ) : gE (cVar i ρ) Q E := gE_ok (var_own h) k
theorem w_lent (h : ρ[i]? = some (some (d, .lent))) (k : Q (.slot i) ρ) : gE (cVar i ρ) Q E := gE_ok (var_lent h) k
theorem w_any {md : Md} (h : ρ[i]? = some (some (d, md))) (hm : md = .fz ∨ md = .lent) (k : ∀ p : Pl, (∀ ρ' : Rho, ρ'[i]? = some (some (d, md)) → look p ρ' = some d) → Q p ρ) : gE (cVar i ρ) Q E := by
  rcases hm with rfl | rfl
  · exact gE_ok (var_fz h) (k _ fun _ _ => rfl)
  · exact gE_ok (var_lent h) (k _ fun _ h => look_slot h)
theorem w_any2 {md : Md} (h : ρ[i]? = some (some (d, md))) (hm : md = .own ∨ md = .fz) (k : ∀ p : Pl, (∀ ρ' : Rho, ρ'[i]? = some (some (d, md)) → look p ρ' = some d) → Q p ρ) : gE (cVar i ρ) Q E := by
  rcases hm with rfl | rfl
  · exact gE_ok (var_own h) (k _ fun _ h => look_slot h)
  · exact gE_ok (var_fz h) (k _ fun _ _ => rfl)
theorem lk_any {md : Md} {p : Pl} {Q : D → Prop} (hp : ∀ ρ' : Rho, ρ'[i]? = some (some (d, md)) → look p ρ' = some d) (h : ρ[i]? = some (some (d, md))) (k : Q d) : lk p ρ Q := by
  unfold lk; rw [hp ρ h]; exact k
theorem gE_op {o : Option Pl} (h : gO o fun r => Q r ρ) : gE (R.ofOpt o ρ) Q E := by
  obtain ⟨x, hx, h⟩ := gO_ex h
  rw [hx]; exact h
theorem w_bin {f : D → D → Option Pl} (h : gE (a ρ) (fun p ρ1 => gE (b ρ1) (fun q ρ2 => lk p ρ2 fun x => lk q ρ2 fun y => gO (f x y) fun r => Q r ρ2) E) E) : gE (cBin f a b ρ) Q E := by
  unfold cBin
  refine gE_bind (gE_mono h fun p ρ1 h => gE_bind (gE_mono h fun q ρ2 h => ?_))
  obtain ⟨x, hx, h⟩ := gO_ex h
  obtain ⟨y, hy, h⟩ := gO_ex h
  simp only [hx, hy]; exact gE_op h
theorem w_un {f : D → Option Pl} (h : gE (a ρ) (fun p ρ1 => lk p ρ1 fun x => gO (f x) fun r => Q r ρ1) E) : gE (cUn f a ρ) Q E := by
  unfold cUn
  refine gE_bind (gE_mono h fun p ρ1 h => ?_)
  obtain ⟨x, hx, h⟩ := gO_ex h
  simp only [hx]; exact gE_op h
theorem w_fn {f : List D → Option Pl} (h : gE (ca ρ) (fun ps ρ1 => lkA ps ρ1 fun x => gO (f x) fun r => Q r ρ1) E) : gE (cFn f ca ρ) Q E := by
  unfold cFn
  refine gE_bind (gE_mono h fun p ρ1 h => ?_)
  obtain ⟨x, hx, h⟩ := gO_ex h
  simp only [hx]; exact gE_op h
theorem w_nil {Q : List Pl → Rho → Prop} (h : Q [] ρ) : gE (cNil ρ) Q E := h
theorem w_cons {Q : List Pl → Rho → Prop} (h : gE (a ρ) (fun p ρ1 => gE (ca ρ1) (fun ps ρ2 => Q (p :: ps) ρ2) E) E) : gE (cCons a ca ρ) Q E :=
  gE_bind (gE_mono h fun _ _ h => gE_bind h)
theorem w_tst {Q : Bool → Rho → Prop} (h : gE (c ρ) (fun p ρ1 => lk p ρ1 fun d => isB d fun b => Q b ρ1) E) : gE (cTst c ρ) Q E := by
  unfold cTst
  refine gE_bind (gE_mono h fun p ρ1 h => ?_)
  obtain ⟨x, hx, h⟩ := gO_ex h
  obtain ⟨y, rfl, h⟩ := isB_ex h
  simp only [hx]; exact h
theorem w_true {Q : Bool → Rho → Prop} (h : Q true ρ) : gE (tTrue ρ) Q E := h
theorem br_if {r s : R α} {k : Bool} {Q : α → Rho → Prop} (h : br k (gE r Q E) (gE s Q E)) : gE (if k = true then r else s) Q E := by
  cases k
  · exact h.2 rfl
  · exact h.1 rfl
theorem w_and {Q : Bool → Rho → Prop} {a b : CB} (h : gE (a ρ) (fun c ρ1 => br c (gE (b ρ1) Q E) (Q false ρ1)) E) : gE (cAnd a b ρ) Q E := by
  unfold cAnd
  exact gE_bind (gE_mono h fun p ρ1 h => br_if h)
theorem w_or {Q : Bool → Rho → Prop} {a b : CB} (h : gE (a ρ) (fun c ρ1 => br c (Q true ρ1) (gE (b ρ1) Q E)) E) : gE (cOr a b ρ) Q E := by
  unfold cOr
  exact gE_bind (gE_mono h fun p ρ1 h => br_if h)
theorem w_not {Q : Bool → Rho → Prop} {a : CB} (h : gE (a ρ) (fun c ρ1 => Q (!c) ρ1) E) : gE (cNot a ρ) Q E := by
  unfold cNot
  exact gE_bind h
theorem w_andV (h : gE (a ρ) (fun p ρ1 => lk p ρ1 fun d => isB d fun k => br k (gE (b ρ1) Q E) (Q (.val (.bool false)) ρ1)) E) : gE (cAndV a b ρ) Q E := by
  unfold cAndV
  exact gE_bind (w_tst (gE_mono h fun p ρ1 h => by
    obtain ⟨x, hx, h⟩ := gO_ex h
    obtain ⟨y, rfl, h⟩ := isB_ex h
    exact gO_of hx (isB_b (br_if h))))
theorem w_orV (h : gE (a ρ) (fun p ρ1 => lk p ρ1 fun d => isB d fun k => br k (Q (.val (.bool true)) ρ1) (gE (b ρ1) Q E)) E) : gE (cOrV a b ρ) Q E := by
  unfold cOrV
  exact gE_bind (w_tst (gE_mono h fun p ρ1 h => by
    obtain ⟨x, hx, h⟩ := gO_ex h
    obtain ⟨y, rfl, h⟩ := isB_ex h
    exact gO_of hx (isB_b (br_if h))))
theorem w_notV (h : gE (a ρ) (fun p ρ1 => lk p ρ1 fun d => isB d fun k => Q (.val (.bool (!k))) ρ1) E) : gE (cNotV a ρ) Q E := by
  unfold cNotV
  exact gE_bind (w_tst h)
theorem w_ite {t : CB} (h : gE (t ρ) (fun k ρ1 => br k (gE (a ρ1) Q E) (gE (b ρ1) Q E)) E) : gE (cIte t a b ρ) Q E := by
  unfold cIte
  exact gE_bind (gE_mono h fun p ρ1 h => br_if h)
theorem w_tup (h : gE (ca ρ) (fun ps ρ1 => fzA ps ρ1 fun ds ρ2 => lenW ds (Q (.val (.tuple ds)) ρ2)) E) : gE (cTup ca ρ) Q E := by
  unfold cTup
  refine gE_bind (gE_mono h fun p ρ1 h => ?_)
  obtain ⟨x, y, hx, h⟩ := gP_ex h
  simp only [hx, h.1, if_true]; exact h.2
theorem w_lst (h : gE (ca ρ) (fun ps ρ1 => fzA ps ρ1 fun ds ρ2 => lenW ds (Q (.tmp (.list ds)) ρ2)) E) : gE (cLst ca ρ) Q E := by
  unfold cLst
  refine gE_bind (gE_mono h fun p ρ1 h => ?_)
  obtain ⟨x, y, hx, h⟩ := gP_ex h
  simp only [hx, h.1, if_true]; exact h.2
theorem w_call {M : FM} (h : gE (ca ρ) (fun ps ρ1 => gE (callM M ps ρ1) Q E) E) : gE (cCall M ca ρ) Q E := gE_bind h
theorem w_chain {f g : D → D → Option Pl} (h : gE (a ρ) (fun p ρ1 => gE (b ρ1) (fun q ρ2 => lk p ρ2 fun x => lk q ρ2 fun y => gO (f x y) fun r => lk r ρ2 fun d => isB d fun k => br k (gE (c ρ2) (fun r ρ3 => lk q ρ3 fun y => lk r ρ3 fun z => gO (g y z) fun s => Q s ρ3) E) (Q (.val (.bool false)) ρ2)) E) E)
    (hf : ∀ x y, (f x y).all fun p => match p with | .val _ => true | _ => false) : gE (cChain f g a b c ρ) Q E := by
  unfold cChain
  refine gE_bind (gE_mono h fun p ρ1 h => gE_bind (gE_mono h fun q ρ2 h => ?_))
  obtain ⟨x, hx, h⟩ := gO_ex h
  obtain ⟨y, hy, h⟩ := gO_ex h
  obtain ⟨r, hr, h⟩ := gO_ex h
  obtain ⟨u, hu, h⟩ := gO_ex h
  obtain ⟨k, rfl, h⟩ := isB_ex h
  have hv := hf x y
  rw [hr] at hv
  match r, hu, hv, hr with
  | .val u, hu, _, hr =>
    cases hu
    simp only [hx, hy, hr]
    cases k with
    | false => exact h.2 rfl
    | true =>
      refine gE_bind (gE_mono (h.1 rfl) fun s ρ3 h => ?_)
      obtain ⟨x', hx', h⟩ := gO_ex h
      obtain ⟨y', hy', h⟩ := gO_ex h
      simp only [hx', hy']; exact gE_op h
  | .tmp u, _, hv, _ => cases hv
  | .slot u, _, hv, _ => cases hv
theorem ltG_val (f : Int → Int → Bool) : ∀ x y, (opLtG f x y).all fun p => match p with | .val _ => true | _ => false := by
  intro x y; cases x <;> cases y <;> rfl
theorem eq_val : ∀ x y, (opEq x y).all fun p => match p with | .val _ => true | _ => false := by
  intro x y; unfold opEq; split <;> rfl
theorem w_chI {f : Int → Int → Bool} {g : D → D → Option Pl} (h : gE (a ρ) (fun p ρ1 => gE (b ρ1) (fun q ρ2 => lk p ρ2 fun x => lk q ρ2 fun y => gO (opLtG f x y) fun r => lk r ρ2 fun d => isB d fun k => br k (gE (c ρ2) (fun r ρ3 => lk q ρ3 fun y => lk r ρ3 fun z => gO (g y z) fun s => Q s ρ3) E) (Q (.val (.bool false)) ρ2)) E) E) : gE (cChain (opLtG f) g a b c ρ) Q E := w_chain h (ltG_val f)
theorem w_chE {g : D → D → Option Pl} (h : gE (a ρ) (fun p ρ1 => gE (b ρ1) (fun q ρ2 => lk p ρ2 fun x => lk q ρ2 fun y => gO (opEq x y) fun r => lk r ρ2 fun d => isB d fun k => br k (gE (c ρ2) (fun r ρ3 => lk q ρ3 fun y => lk r ρ3 fun z => gO (g y z) fun s => Q s ρ3) E) (Q (.val (.bool false)) ρ2)) E) E) : gE (cChain opEq g a b c ρ) Q E := w_chain h eq_val
theorem w_ch3 {e f : Int → Int → Bool} {g : D → D → Option Pl} {d : CE} (h : gE (a ρ) (fun p ρ1 => gE (b ρ1) (fun q ρ2 => lk p ρ2 fun x => lk q ρ2 fun y => gO (opLtG e x y) fun r => lk r ρ2 fun k0 => isB k0 fun k => br k
    (gE (c ρ2) (fun r ρ3 => lk q ρ3 fun y => lk r ρ3 fun z => gO (opLtG f y z) fun s => lk s ρ3 fun k1 => isB k1 fun k' => br k' (gE (d ρ3) (fun s ρ4 => lk r ρ4 fun z => lk s ρ4 fun w => gO (g z w) fun u => Q u ρ4) E) (Q (.val (.bool false)) ρ3)) E) (Q (.val (.bool false)) ρ2)) E) E) : gE (cChain3 (opLtG e) (opLtG f) g a b c d ρ) Q E := by
  unfold cChain3
  refine gE_bind (gE_mono h fun p ρ1 h => gE_bind (gE_mono h fun q ρ2 h => ?_))
  obtain ⟨x, hx, h⟩ := gO_ex h
  obtain ⟨y, hy, h⟩ := gO_ex h
  obtain ⟨r, hr, h⟩ := gO_ex h
  obtain ⟨u, hu, h⟩ := gO_ex h
  obtain ⟨k, rfl, h⟩ := isB_ex h
  have hv := ltG_val e x y
  rw [hr] at hv
  match r, hu, hv, hr with
  | .val u, hu, _, hr =>
    cases hu
    simp only [hx, hy, hr]
    cases k with
    | false => exact h.2 rfl
    | true =>
      unfold cLink
      refine gE_bind (gE_mono (h.1 rfl) fun s ρ3 h => ?_)
      obtain ⟨y', hy', h⟩ := gO_ex h
      obtain ⟨z', hz', h⟩ := gO_ex h
      obtain ⟨s', hs', h⟩ := gO_ex h
      obtain ⟨u', hu', h⟩ := gO_ex h
      obtain ⟨k', rfl, h⟩ := isB_ex h
      have hv' := ltG_val f y' z'
      rw [hs'] at hv'
      match s', hu', hv', hs' with
      | .val u', hu', _, hs' =>
        cases hu'
        simp only [hy', hz', hs']
        cases k' with
        | false => exact h.2 rfl
        | true =>
          refine gE_bind (gE_mono (h.1 rfl) fun s ρ4 h => ?_)
          obtain ⟨z2, hz2, h⟩ := gO_ex h
          obtain ⟨w2, hw2, h⟩ := gO_ex h
          simp only [hz2, hw2]; exact gE_op h
      | .tmp u', _, hv', _ => cases hv'
      | .slot u', _, hv', _ => cases hv'
  | .tmp u, _, hv, _ => cases hv
  | .slot u, _, hv, _ => cases hv
theorem w_sl {lo hi : CO} (h : gE (a ρ) (fun p ρ1 => gE (lo ρ1) (fun l ρ2 => gE (hi ρ2) (fun u ρ3 => lk p ρ3 fun x => gO (opSl x l u) fun r => Q r ρ3) E) E) E) : gE (cSl a lo hi ρ) Q E := by
  unfold cSl
  refine gE_bind (gE_mono h fun p ρ1 h => gE_bind (gE_mono h fun l ρ2 h => gE_bind (gE_mono h fun u ρ3 h => ?_)))
  obtain ⟨x, hx, h⟩ := gO_ex h
  simp only [hx]; exact gE_op h
theorem w_noPart {Q : Option Int → Rho → Prop} (h : Q none ρ) : gE (cNoPart ρ) Q E := h
theorem w_part {Q : Option Int → Rho → Prop} (h : gE (c ρ) (fun p ρ1 => lk p ρ1 fun d => isI d fun n => Q (some n) ρ1) E) : gE (cPart c ρ) Q E := by
  unfold cPart
  refine gE_bind (gE_mono h fun p ρ1 h => ?_)
  obtain ⟨x, hx, h⟩ := gO_ex h
  obtain ⟨n, rfl, h⟩ := isI_ex h
  simp only [hx]; exact h
theorem w_mt {T : String} {f : D → List D → Option Pl} (h : gE (a ρ) (fun p ρ1 => lk p ρ1 fun d0 => tyOk T d0 = true ∧ gE (ca ρ1) (fun ps ρ2 => lk p ρ2 fun d => lkA ps ρ2 fun ds => gO (f d ds) fun r => Q r ρ2) E) E) : gE (cMt T f a ca ρ) Q E := by
  unfold cMt
  refine gE_bind (gE_mono h fun p ρ1 h => ?_)
  obtain ⟨x, hx, h1, h⟩ := gO_ex h
  simp only [hx, h1, if_true]
  refine gE_bind (gE_mono h fun ps ρ2 h => ?_)
  obtain ⟨y, hy, h⟩ := gO_ex h
  obtain ⟨z, hz, h⟩ := gO_ex h
  simp only [hy, hz]; exact gE_op h
theorem w_mutL {xs : List D} {m0 : Md} {f : D → List D → Option (D × D)} (h0 : ownAt i ρ = some (.list xs, m0)) (h : gE (ca ρ) (fun ps ρ1 => fzA ps ρ1 fun ds ρ2 => ownW i ρ2 fun d m => gP (f d ds) fun d' y => setW ρ2 i (some (d', m)) fun ρ3 => Q (.val y) ρ3) E) : gE (cMutL i f ca ρ) Q E := by
  unfold cMutL; simp only [h0]
  unfold cMut
  refine gE_bind (gE_mono h fun p ρ1 h => ?_)
  obtain ⟨x, y, hx, h⟩ := gP_ex h
  obtain ⟨d, m, hd, h⟩ := gP_ex h
  obtain ⟨u, v, hu, h⟩ := gP_ex h
  simp only [hx, hd, hu]; exact h
theorem prW_i {n m : Int} {F : Int → Int → Prop} (h : F n m) : prW (n, m) F := h
theorem w_lstRg {r : Rho → R (Int × Int)} (h : gE (r ρ) (fun ab ρ1 => prW ab fun n m => rgOk n m = true ∧ Q (.tmp (.list ((rgI n m).map .int))) ρ1) E) : gE (cLstRg r ρ) Q E := by
  unfold cLstRg
  cases hr : r ρ with
  | ok ab ρ1 => rw [hr] at h; simp only [h.1, if_true]; exact h.2
  | exc x ρ1 => rw [hr] at h; exact h
  | bad => rw [hr] at h; exact h
theorem w_tupRg {r : Rho → R (Int × Int)} (h : gE (r ρ) (fun ab ρ1 => prW ab fun n m => rgOk n m = true ∧ Q (.val (.tuple ((rgI n m).map .int))) ρ1) E) : gE (cTupRg r ρ) Q E := by
  unfold cTupRg
  cases hr : r ρ with
  | ok ab ρ1 => rw [hr] at h; simp only [h.1, if_true]; exact h.2
  | exc x ρ1 => rw [hr] at h; exact h
  | bad => rw [hr] at h; exact h
theorem w_rg1 {Q : Int × Int → Rho → Prop} (h : gE (a ρ) (fun p ρ1 => lk p ρ1 fun d => isI d fun n => Q (0, n) ρ1) E) : gE (cRg1 a ρ) Q E := by
  unfold cRg1
  refine gE_bind (gE_mono h fun p ρ1 h => ?_)
  obtain ⟨x, hx, h⟩ := gO_ex h
  obtain ⟨n, rfl, h⟩ := isI_ex h
  simp only [hx]; exact h
theorem w_rg2 {Q : Int × Int → Rho → Prop} (h : gE (a ρ) (fun p ρ1 => gE (b ρ1) (fun q ρ2 => lk p ρ2 fun d => isI d fun n => lk q ρ2 fun e => isI e fun m => Q (n, m) ρ2) E) E) : gE (cRg2 a b ρ) Q E := by
  unfold cRg2
  refine gE_bind (gE_mono h fun p ρ1 h => gE_bind (gE_mono h fun q ρ2 h => ?_))
  obtain ⟨x, hx, h⟩ := gO_ex h
  obtain ⟨n, rfl, h⟩ := isI_ex h
  obtain ⟨y, hy, h⟩ := gO_ex h
  obtain ⟨m, rfl, h⟩ := isI_ex h
  simp only [hx, hy]; exact h
theorem rg_i {n m : Int} {Q : Prop} (h : 0 ≤ n ∧ n ≤ 1000000 ∧ 0 ≤ m ∧ m ≤ 1000000) (k : Q) : rgOk n m = true ∧ Q := by
  refine ⟨?_, k⟩
  unfold rgOk
  simp
  omega
theorem w_comp {ci : CI} {g : D → Rho → Option Rho} {t : CB} {e : CE} {vs : List Nat} (h : gE (ci ρ) (fun ds ρ1 => cpW ds g t e vs ρ1 Q) E) : gE (cComp ci g t e vs ρ) Q E := by
  unfold cComp
  cases hr : ci ρ with
  | ok ds ρ1 =>
    rw [hr] at h
    obtain ⟨h1, h2⟩ := h
    simp only [h1, if_true]
    cases hc : compL g t e vs ds [] (wipeR ρ1 vs) with
    | ok acc ρ2 => rw [hc] at h2; exact h2
    | exc x ρ2 => rw [hc] at h2; exact h2.elim
    | bad => rw [hc] at h2; exact h2.elim
  | exc x ρ1 => rw [hr] at h; exact h
  | bad => rw [hr] at h; exact h
end
/-! what is walked -/
section
variable {Q : List D → Rho → Prop} {a b c : CE}
theorem w_it (h : gE (c ρ) (fun p ρ1 => fz1 p ρ1 fun d ρ2 => gO (seqD d) fun ds => Q ds ρ2) E) : gE (cIt c ρ) Q E := by
  unfold cIt cFz
  refine gE_bind (gE_mono h fun p ρ1 h => ?_)
  obtain ⟨x, y, hx, h⟩ := gP_ex h
  obtain ⟨z, hz, h⟩ := gO_ex h
  simp only [hx, hz]; exact h
theorem w_enum (h : gE (c ρ) (fun p ρ1 => fz1 p ρ1 fun d ρ2 => gO (seqOf d) fun ds => Q (enumD ds) ρ2) E) : gE (cEnum c ρ) Q E := by
  unfold cEnum cFz
  refine gE_bind (gE_mono h fun p ρ1 h => ?_)
  obtain ⟨x, y, hx, h⟩ := gP_ex h
  obtain ⟨z, hz, h⟩ := gO_ex h
  simp only [hx, hz, Option.map_some]; exact h
theorem w_rev (h : gE (c ρ) (fun p ρ1 => fz1 p ρ1 fun d ρ2 => gO (seqOf d) fun ds => Q ds.reverse ρ2) E) : gE (cRev c ρ) Q E := by
  unfold cRev cFz
  refine gE_bind (gE_mono h fun p ρ1 h => ?_)
  obtain ⟨x, y, hx, h⟩ := gP_ex h
  obtain ⟨z, hz, h⟩ := gO_ex h
  simp only [hx, hz, Option.map_some]; exact h
theorem w_zip (h : gE (a ρ) (fun p ρ1 => gE (b ρ1) (fun q ρ2 => fz1 p ρ2 fun d ρ3 => fz1 q ρ3 fun e ρ4 => gO (match d, e with | .list a, .list b => some (zipD a b) | .tuple a, .tuple b => some (zipD a b) | _, _ => none) fun ds => Q ds ρ4) E) E) : gE (cZip a b ρ) Q E := by
  unfold cZip
  refine gE_bind (gE_mono h fun p ρ1 h => gE_bind (gE_mono h fun q ρ2 h => ?_))
  obtain ⟨x, y, hx, h⟩ := gP_ex h
  obtain ⟨u, v, hu, h⟩ := gP_ex h
  obtain ⟨z, hz, h⟩ := gO_ex h
  have hf : frzA [p, q] ρ2 = some ([x, u], v) := by simp only [frzA, hx, hu]
  simp only [hf]
  cases x <;> cases u <;> first | (cases hz; exact h) | cases hz
theorem w_r1 (h : gE (a ρ) (fun p ρ1 => lk p ρ1 fun d => isI d fun n => rgFit n = true ∧ Q (rgD 0 n) ρ1) E) : gE (cRng1 a ρ) Q E := by
  unfold cRng1
  refine gE_bind (gE_mono h fun p ρ1 h => ?_)
  obtain ⟨x, hx, h⟩ := gO_ex h
  obtain ⟨n, rfl, h1, h⟩ := isI_ex h
  simp only [hx, h1, if_true]; exact h
theorem w_r2 (h : gE (a ρ) (fun p ρ1 => gE (b ρ1) (fun q ρ2 => lk p ρ2 fun d => isI d fun n => lk q ρ2 fun e => isI e fun m => rgFit n = true ∧ rgFit m = true ∧ Q (rgD n m) ρ2) E) E) : gE (cRng2 a b ρ) Q E := by
  unfold cRng2
  refine gE_bind (gE_mono h fun p ρ1 h => gE_bind (gE_mono h fun q ρ2 h => ?_))
  obtain ⟨x, hx, h⟩ := gO_ex h
  obtain ⟨n, rfl, h⟩ := isI_ex h
  obtain ⟨y, hy, h⟩ := gO_ex h
  obtain ⟨m, rfl, h1, h2, h⟩ := isI_ex h
  simp only [hx, hy, h1, h2, and_self, if_true]; exact h
theorem w_r3 (h : gE (a ρ) (fun p ρ1 => gE (b ρ1) (fun q ρ2 => gE (c ρ2) (fun r ρ3 => lk p ρ3 fun d => isI d fun n => lk q ρ3 fun e => isI e fun m => lk r ρ3 fun f => isI f fun k => k = -1 ∧ rgFit n = true ∧ rgFit m = true ∧ Q (rgDown n m) ρ3) E) E) E) : gE (cRng3 a b c ρ) Q E := by
  unfold cRng3
  refine gE_bind (gE_mono h fun p ρ1 h => gE_bind (gE_mono h fun q ρ2 h => gE_bind (gE_mono h fun q ρ3 h => ?_)))
  obtain ⟨x, hx, h⟩ := gO_ex h
  obtain ⟨n, rfl, h⟩ := isI_ex h
  obtain ⟨y, hy, h⟩ := gO_ex h
  obtain ⟨m, rfl, h⟩ := isI_ex h
  obtain ⟨z, hz, h⟩ := gO_ex h
  obtain ⟨k, rfl, h0, h1, h2, h⟩ := isI_ex h
  simp only [hx, hy, hz, h1, h2, h0, and_self, if_true]; exact h
theorem rf_i {n : Int} {Q : Prop} (h : -1000000 ≤ n ∧ n ≤ 1000000) (k : Q) : rgFit n = true ∧ Q := by
  refine ⟨?_, k⟩
  unfold rgFit
  simp
  omega
end
/-! statements -/
section
variable {N : Rho → Prop} {T : D → Bool → Rho → Prop} {a b : CS} {c : CE} {t : CB} {g : D → Rho → Option Rho}
theorem s_seq (h : gS (a ρ) (fun ρ1 => gS (b ρ1) N T E) T E) : gS (cSeq a b ρ) N T E := by
  unfold cSeq
  cases hr : a ρ <;> (rw [hr] at h; exact h)
theorem s_skip (h : N ρ) : gS (cSkip ρ) N T E := h
theorem gS_to {r : R Pl} {k : Pl → Rho → RS} (h : gE r (fun p ρ1 => gS (k p ρ1) N T E) E) : gS (r.toS k) N T E := by
  cases r with
  | ok p ρ => exact h
  | exc x ρ => exact h
  | bad => exact h
theorem gS_toB {r : R Bool} {k : Bool → Rho → RS} (h : gE r (fun p ρ1 => gS (k p ρ1) N T E) E) : gS (r.toSB k) N T E := by
  cases r with
  | ok p ρ => exact h
  | exc x ρ => exact h
  | bad => exact h
theorem br_ifS {r s : RS} {k : Bool} (h : br k (gS r N T E) (gS s N T E)) : gS (if k = true then r else s) N T E := by
  cases k
  · exact h.2 rfl
  · exact h.1 rfl
theorem rt_gS {p : Pl} (h : rt p ρ T) : gS (retP p ρ) N T E := gS_mono h (fun _ z => z.elim) (fun _ _ _ z => z) (fun _ _ z => z.elim)
theorem s_ret (h : gE (c ρ) (fun p ρ1 => rt p ρ1 T) E) : gS (cRet c ρ) N T E := gS_to (gE_mono h fun _ _ h => rt_gS h)
theorem s_retN (h : T .none false ρ) : gS (cRetN ρ) N T E := h
theorem s_if (h : gE (t ρ) (fun k ρ1 => br k (gS (a ρ1) N T E) (gS (b ρ1) N T E)) E) : gS (cIf t a b ρ) N T E := gS_toB (gE_mono h fun _ _ h => br_ifS h)
theorem s_set (h : gE (c ρ) (fun p ρ1 => sto i p ρ1 N) E) : gS (cSet i c ρ) N T E := by
  unfold cSet
  refine gS_to (gE_mono h fun p ρ1 h => ?_)
  obtain ⟨x, hx, h⟩ := gO_ex h
  simp only [hx]; exact h
theorem s_drop (h : gE (c ρ) (fun _ ρ1 => N ρ1) E) : gS (cDrop c ρ) N T E := gS_to h
theorem s_raise {x : Str} (h : E ⟨x, []⟩ ρ) : gS (cRaise x ρ) N T E := h
theorem s_raiseA {x : Str} {fs : List Str} {ca : CA} (h : gE (ca ρ) (fun ps ρ1 => fzA ps ρ1 fun ds ρ2 => E ⟨x, putF fs ds []⟩ ρ2) E) : gS (cRaiseA x fs ca ρ) N T E := by
  unfold cRaiseA
  cases hr : ca ρ with
  | ok ps ρ1 =>
    rw [hr] at h
    obtain ⟨u, v, hu, h⟩ := gP_ex h
    simp only [hu]; exact h
  | exc x ρ1 => rw [hr] at h; exact h
  | bad => rw [hr] at h; exact h
def tryW (cs : List Str) (i : Nat) (ch : CS) (x : Xc) (ρ : Rho) (N : Rho → Prop) (T : D → Bool → Rho → Prop) : Prop :=
  cs.contains x.cls = true ∧ canSet ρ i = true ∧ gS (ch (ρ.set i (some (exD x.cls x.flds, .fz)))) (fun ρ2 => canSet ρ2 i = true ∧ N (ρ2.set i none)) T (fun _ _ => False)
theorem s_try {cs : List Str} (h : gS (a ρ) N T (fun x ρ1 => tryW cs i b x ρ1 N T)) : gS (cTry cs i a b ρ) N T E := by
  unfold cTry
  cases hr : a ρ with
  | exc x ρ1 =>
    rw [hr] at h
    obtain ⟨h1, h2, h3⟩ := h
    simp only [h1, h2, and_self, if_true]
    cases hb : b (ρ1.set i (some (exD x.cls x.flds, .fz))) with
    | nx ρ2 => rw [hb] at h3; simp only [h3.1, if_true]; exact h3.2
    | ret d fr ρ2 => rw [hb] at h3; exact h3
    | exc x ρ2 => rw [hb] at h3; exact h3.elim
    | bad => rw [hb] at h3; exact h3.elim
  | nx ρ1 => rw [hr] at h; exact h
  | ret d fr ρ1 => rw [hr] at h; exact h
  | bad => rw [hr] at h; exact h
theorem tryW_i {cs : List Str} {x : Str} {fl : List (Str × D)} (h1 : cs.contains x = true) (h2 : canSet ρ i = true) (e : ρ.set i (some (exD x fl, .fz)) = ρ1) (h : gS (b ρ1) (fun ρ2 => canSet ρ2 i = true ∧ setW ρ2 i none N) T (fun _ _ => False)) : tryW cs i b ⟨x, fl⟩ ρ N T := ⟨h1, h2, by rw [e]; exact h⟩
theorem s_for {ci : CI} (h : gE (ci ρ) (fun ds ρ1 => gS (forL g b ds ρ1) N T E) E) : gS (cFor ci g b ρ) N T E := by
  unfold cFor
  cases hr : ci ρ with
  | ok ds ρ1 => rw [hr] at h; exact h
  | exc x ρ1 => rw [hr] at h; exact h
  | bad => rw [hr] at h; exact h
theorem s_unp (h : gE (c ρ) (fun p ρ1 => fz1 p ρ1 fun d ρ2 => gO (g d ρ2) N) E) : gS (cUnp g c ρ) N T E := by
  unfold cUnp
  refine gS_to (gE_mono h fun p ρ1 h => ?_)
  obtain ⟨x, y, hx, h⟩ := gP_ex h
  obtain ⟨z, hz, h⟩ := gO_ex h
  simp only [hx, hz]; exact h
theorem s_aug {f : Int → Int → Int} (h : lk (.slot i) ρ fun d => isI d fun n => gE (c ρ) (fun p ρ1 => lk p ρ1 fun e => isI e fun m => sto i (.val (.int (f n m))) ρ1 N) E) : gS (cAugI i f c ρ) N T E := by
  unfold cAugI
  obtain ⟨x, hx, h⟩ := gO_ex h
  obtain ⟨n, rfl, h⟩ := isI_ex h
  simp only [hx]
  refine gS_to (gE_mono h fun p ρ1 h => ?_)
  obtain ⟨y, hy, h⟩ := gO_ex h
  obtain ⟨m, rfl, h⟩ := isI_ex h
  obtain ⟨z, hz, h⟩ := gO_ex h
  simp only [hy, hz]; exact h
theorem s_par {c2 : CE} (h : gE (c ρ) (fun p ρ1 => gE (c2 ρ1) (fun q ρ2 => fz1 p ρ2 fun d ρ3 => fz1 q ρ3 fun e ρ4 => sto i (.val d) ρ4 fun ρ5 => sto j (.val e) ρ5 N) E) E) : gS (cPar i j c c2 ρ) N T E := by
  have h' : gE (cCons c (cCons c2 cNil) ρ) (fun ps ρ2 => ∃ p q, ps = [p, q] ∧ fz1 p ρ2 fun d ρ3 => fz1 q ρ3 fun e ρ4 => sto i (.val d) ρ4 fun ρ5 => sto j (.val e) ρ5 N) E :=
    w_cons (gE_mono h fun p ρ1 h => w_cons (gE_mono h fun q ρ2 h => w_nil ⟨p, q, rfl, h⟩))
  unfold cPar
  cases hr : cCons c (cCons c2 cNil) ρ with
  | ok ps ρ1 =>
    rw [hr] at h'
    obtain ⟨p, q, rfl, h⟩ := h'
    obtain ⟨x, y, hx, h⟩ := gP_ex h
    obtain ⟨u, v, hu, h⟩ := gP_ex h
    obtain ⟨z, hz, h⟩ := gO_ex h
    obtain ⟨z2, hz2, h⟩ := gO_ex h
    have hf : frzA [p, q] ρ1 = some ([x, u], v) := by simp only [frzA, hx, hu]
    simp only [hf, hz, hz2]; exact h
  | exc x ρ1 => rw [hr] at h'; exact h'
  | bad => rw [hr] at h'; exact h'
def lsD (d : D) (Q : List D → Prop) : Prop := match d with
  | .list a => Q a
  | _ => False
theorem lsD_l {a : List D} {Q : List D → Prop} (h : Q a) : lsD (.list a) Q := h
theorem lsD_ex {Q : List D → Prop} (h : lsD d Q) : ∃ a, d = .list a ∧ Q a := by
  cases d <;> first | exact h.elim | exact ⟨_, rfl, h⟩
theorem at_rfl {a : List D} {k : Int} {e : D} {Q : D → Prop} (h : atI a k = some e) (q : Q e) : gO (atI a k) Q := gO_of h q
theorem putL_rfl {c k d c' : D} {Q : D → Prop} (h : putL c k d = some c') (q : Q c') : gO (putL c k d) Q := gO_of h q
theorem s_augS {f : D → D → D → Option D} {g0 : Int → Int → Int} {ck ce : CE} (h : ownW i ρ fun _ _ => gE (ck ρ) (fun p ρ1 => lk p ρ1 fun d => isI d fun k => ownW i ρ1 fun c _ => lsD c fun a => gO (atI a k) fun e => isI e fun n =>
    gE (ce ρ1) (fun q ρ2 => lk q ρ2 fun e2 => isI e2 fun b => ownW i ρ2 fun c2 m2 => gO (f c2 (.int k) (.int (g0 n b))) fun c' => setW ρ2 i (some (c', m2)) N) E) E) : gS (cAugS i f g0 ck ce ρ) N T E := by
  unfold cAugS
  obtain ⟨c0, m0, h0, h⟩ := gP_ex h
  simp only [h0]
  refine gS_to (gE_mono h fun p ρ1 h => ?_)
  obtain ⟨d, hd, h⟩ := gO_ex h
  obtain ⟨k, rfl, h⟩ := isI_ex h
  obtain ⟨c, m, hc, h⟩ := gP_ex h
  obtain ⟨a, rfl, h⟩ := lsD_ex h
  obtain ⟨e, he, h⟩ := gO_ex h
  obtain ⟨n, rfl, h⟩ := isI_ex h
  simp only [hd, hc, he]
  refine gS_to (gE_mono h fun q ρ2 h => ?_)
  obtain ⟨e2, he2, h⟩ := gO_ex h
  obtain ⟨b, rfl, h⟩ := isI_ex h
  obtain ⟨c2, m2, hc2, h⟩ := gP_ex h
  obtain ⟨c', hc', h⟩ := gO_ex h
  simp only [he2, hc2, hc']; exact h
/-- a walk, by what holds behind each prefix -/
theorem for_inv {α : Type} (xs : List α) (f : α → D) (I : List α → Rho → Prop) {ds : List D} (hds : ds = xs.map f) (h0 : I [] ρ) (hs : ∀ pre x post ρ, xs = pre ++ x :: post → I pre ρ → gO (g (f x) ρ) fun ρ1 => gS (b ρ1) (I (pre ++ [x])) T E) (hN : ∀ ρ, I xs ρ → N ρ) : gS (forL g b ds ρ) N T E := by
  subst hds
  have key : ∀ (post pre : List α) (ρ : Rho), xs = pre ++ post → I pre ρ → gS (forL g b (post.map f) ρ) N T E := by
    intro post
    induction post with
    | nil => intro pre ρ e h; rw [List.append_nil] at e; subst e; exact hN ρ h
    | cons x post ih =>
      intro pre ρ e h
      obtain ⟨ρ1, h1, h2⟩ := gO_ex (hs pre x post ρ e h)
      rw [List.map_cons, forL]
      simp only [h1]
      cases hb : b ρ1 with
      | nx ρ2 => rw [hb] at h2; exact ih (pre ++ [x]) ρ2 (by rw [e]; simp) h2
      | ret d fr ρ2 => rw [hb] at h2; exact h2
      | exc x ρ2 => rw [hb] at h2; exact h2
      | bad => rw [hb] at h2; exact h2
  exact key xs [] ρ rfl h0
end
/-! targets -/
section
variable {N : Rho → Prop}
theorem t_nm (h : sto i (.val d) ρ N) : gO (gNm i d ρ) N := h
theorem t_tp {n : Nat} {g : List D → Rho → Option Rho} (hl : ds.length = n) (h : gO (g ds ρ) N) : gO (gTp n g (.tuple ds) ρ) N := by
  unfold gTp; simp only [hl, if_true]; exact h
theorem t_tie {t : Nat × Nat} {g : List D → Rho → Option Rho} (h : gO (g [.int (t.1 : Nat), .int (t.2 : Nat)] ρ) N) : gO (gTp 2 g (tieD t) ρ) N := h
theorem t_nil (h : N ρ) : gO (gsNil [] ρ) N := h
theorem t_cons {g : D → Rho → Option Rho} {r : List D → Rho → Option Rho} (h : gO (g d ρ) fun ρ1 => gO (r ds ρ1) N) : gO (gsCons g r (d :: ds) ρ) N := by
  obtain ⟨x, hx, h⟩ := gO_ex h
  unfold gsCons
  simp only [hx]; exact h
theorem t_put {f : D → D → D → Option D} {ck : CE} (h : ownW i ρ fun _ _ => gE (ck ρ) (fun p ρ1 => fz1 p ρ1 fun k ρ2 => ownW i ρ2 fun c m => gO (f c k d) fun c' => setW ρ2 i (some (c', m)) N) (fun _ _ => False)) : gO (gPut i f ck d ρ) N := by
  unfold gPut
  obtain ⟨c0, m0, hc0, h⟩ := gP_ex h
  simp only [hc0]
  unfold cFz
  cases hr : ck ρ with
  | ok p ρ1 =>
    rw [hr] at h
    obtain ⟨k, ρ2, hk, h⟩ := gP_ex h
    obtain ⟨c, m, hc, h⟩ := gP_ex h
    obtain ⟨c', hc', h⟩ := gO_ex h
    simp only [R.bind, hk, hc, hc']; exact h
  | exc x ρ1 => rw [hr] at h; exact h.elim
  | bad => rw [hr] at h; exact h.elim
end
/-! comprehensions -/
section
variable {Q : Pl → Rho → Prop} {g : D → Rho → Option Rho} {t : CB} {e : CE} {vs : List Nat}
theorem elW_i {x : D} {P : Option D → Rho → Prop} (h : gO (g x ρ) fun ρ1 => gE (t ρ1) (fun b ρ2 => br b (gE (e ρ2) (fun p ρ3 => fz1 p ρ3 fun d ρ4 => wpd vs ρ4 (P (some d))) (fun _ _ => False)) (wpd vs ρ2 (P none))) (fun _ _ => False)) : elW g t e vs ρ x P := h
theorem elW_comp {x : D} {P : Option D → Rho → Prop} (h : elW g t e vs ρ x P) : ∃ o ρ', P o ρ' ∧ ∀ (ds acc : List D), acc.length < 16777216 → compL g t e vs (x :: ds) acc ρ = compL g t e vs ds (acc ++ o.toList) ρ' := by
  obtain ⟨ρ1, h1, h⟩ := gO_ex h
  cases ht : t ρ1 with
  | ok b ρ2 =>
    rw [ht] at h
    cases b with
    | false =>
      obtain ⟨hw, h⟩ := h.2 rfl
      refine ⟨none, _, h, fun ds acc _ => ?_⟩
      rw [compL]
      simp only [h1, ht, hw, if_true, Option.toList, List.append_nil]
    | true =>
      have h := h.1 rfl
      cases he : e ρ2 with
      | ok p ρ3 =>
        rw [he] at h
        obtain ⟨d, ρ4, hd, hw, h⟩ := gP_ex h
        refine ⟨some d, _, h, fun ds acc hl => ?_⟩
        rw [compL]
        simp only [h1, ht, he, hd, hw, hl, and_self, if_true, Option.toList]
      | exc x ρ3 => rw [he] at h; exact h.elim
      | bad => rw [he] at h; exact h.elim
  | exc x ρ2 => rw [ht] at h; exact h.elim
  | bad => rw [ht] at h; exact h.elim
theorem cp_inv {α : Type} (xs : List α) (f : α → D) (I : List α → List D → Rho → Prop) {ds : List D} (hds : ds = xs.map f) (hl : xs.length ≤ 1000000) (hw : wipeOk ρ vs = true) (ew : wipeR ρ vs = ρ1) (h0 : I [] [] ρ1)
    (hs : ∀ pre x post acc ρ, xs = pre ++ x :: post → I pre acc ρ → elW g t e vs ρ (f x) fun o ρ' => I (pre ++ [x]) (acc ++ o.toList) ρ') (hN : ∀ acc ρ2, I xs acc ρ2 → setB ρ ρ2 vs (Q (.tmp (.list acc)))) : cpW ds g t e vs ρ Q := by
  subst hds
  refine ⟨hw, ?_⟩
  rw [ew]
  have key : ∀ (post pre : List α) (acc : List D) (ρ' : Rho), xs = pre ++ post → acc.length ≤ pre.length → I pre acc ρ' → gE (compL g t e vs (post.map f) acc ρ') (fun acc ρ2 => Q (.tmp (.list acc)) (backR ρ ρ2 vs)) (fun _ _ => False) := by
    intro post
    induction post with
    | nil => intro pre acc ρ' e _ h; rw [List.append_nil] at e; subst e; exact hN acc ρ' h
    | cons x post ih =>
      intro pre acc ρ' e hal h
      obtain ⟨o, ρ2, h2, h3⟩ := elW_comp (hs pre x post acc ρ' e h)
      have hxl : pre.length < xs.length := by rw [e]; simp
      rw [List.map_cons, h3 _ _ (by omega)]
      refine ih (pre ++ [x]) _ ρ2 (by rw [e]; simp) ?_ h2
      cases o <;> simp <;> omega
  exact key xs [] [] ρ1 rfl (Nat.le_refl _) h0
theorem cp_map {α : Type} (xs : List α) (f out : α → D) {ds : List D} (hds : ds = xs.map f) (hl : xs.length ≤ 1000000) (hw : wipeOk ρ vs = true) (ew : wipeR ρ vs = ρ1)
    (hs : ∀ x ∈ xs, elW g t e vs ρ1 (f x) fun o ρ' => o = some (out x) ∧ ρ' = ρ1) (k : Q (.tmp (.list (xs.map out))) ρ) : cpW ds g t e vs ρ Q := by
  refine cp_inv xs f (fun pre acc ρ' => acc = pre.map out ∧ ρ' = ρ1) hds hl hw ew ⟨rfl, rfl⟩ (fun pre x post acc ρ' he h => ?_) fun acc ρ2 h => ?_
  · obtain ⟨rfl, rfl⟩ := h
    have h2 := hs x (by rw [he]; simp)
    have mono : ∀ {P P' : Option D → Rho → Prop}, (∀ o ρ, P o ρ → P' o ρ) → elW g t e vs ρ' (f x) P → elW g t e vs ρ' (f x) P' := by
      intro P P' hp h
      obtain ⟨ρ1, h1, h⟩ := gO_ex h
      refine gO_of h1 ?_
      refine gE_mono h fun b ρ2 h => ⟨fun hb => gE_mono (h.1 hb) fun p ρ3 h => ?_, fun hb => ⟨(h.2 hb).1, hp _ _ (h.2 hb).2⟩⟩
      obtain ⟨d, ρ4, hd, h⟩ := gP_ex h
      exact gP_of hd ⟨h.1, hp _ _ h.2⟩
    refine mono (fun o ρ h => ?_) h2
    obtain ⟨rfl, rfl⟩ := h
    simp
  · obtain ⟨rfl, rfl⟩ := h
    unfold setB; rw [← ew, back_wipe]; exact k
theorem cp_filter {α : Type} (xs : List α) (f : α → D) (out : α → Option D) {ds : List D} (hds : ds = xs.map f) (hl : xs.length ≤ 1000000) (hw : wipeOk ρ vs = true) (ew : wipeR ρ vs = ρ1)
    (hs : ∀ x ∈ xs, elW g t e vs ρ1 (f x) fun o ρ' => o = out x ∧ ρ' = ρ1) (k : Q (.tmp (.list (xs.filterMap out))) ρ) : cpW ds g t e vs ρ Q := by
  refine cp_inv xs f (fun pre acc ρ' => acc = pre.filterMap out ∧ ρ' = ρ1) hds hl hw ew ⟨rfl, rfl⟩ (fun pre x post acc ρ' he h => ?_) fun acc ρ2 h => ?_
  · obtain ⟨rfl, rfl⟩ := h
    have h2 := hs x (by rw [he]; simp)
    have mono : ∀ {P P' : Option D → Rho → Prop}, (∀ o ρ, P o ρ → P' o ρ) → elW g t e vs ρ' (f x) P → elW g t e vs ρ' (f x) P' := by
      intro P P' hp h
      obtain ⟨ρ1, h1, h⟩ := gO_ex h
      refine gO_of h1 ?_
      refine gE_mono h fun b ρ2 h => ⟨fun hb => gE_mono (h.1 hb) fun p ρ3 h => ?_, fun hb => ⟨(h.2 hb).1, hp _ _ (h.2 hb).2⟩⟩
      obtain ⟨d, ρ4, hd, h⟩ := gP_ex h
      exact gP_of hd ⟨h.1, hp _ _ h.2⟩
    refine mono (fun o ρ h => ?_) h2
    obtain ⟨rfl, rfl⟩ := h
    refine ⟨?_, rfl⟩
    rw [List.filterMap_append]
    cases ho : out x <;> simp [List.filterMap, ho]
  · obtain ⟨rfl, rfl⟩ := h
    unfold setB; rw [← ew, back_wipe]; exact k
end
/-! calls -/
section
variable {Q : Pl → Rho → Prop} {M : FM} {ps : List Pl} {as : List (D × Md)} {outs : List Slot} {x : Xc}
theorem c_rv (h : ps.all noSlot = true) (ha : argsOf ps ρ = some as) (hM : (M as).rv = some (d, false)) (k : Q (.val d) ρ) : gE (callM M ps ρ) Q E := gE_ok (callM_rv h ha hM) k
theorem c_rvT (h : ps.all noSlot = true) (ha : argsOf ps ρ = some as) (hM : (M as).rv = some (d, true)) (k : Q (.tmp d) ρ) : gE (callM M ps ρ) Q E := gE_ok (callM_rv h ha hM) k
theorem callM_g {fr : Bool} {ρ' : Rho} (ha : argsOf ps ρ = some as) (nd : noDup ps = true) (hM : M as = .ok d fr outs) (hg : gb ps outs 0 ρ = ρ') : callM M ps ρ = .ok (plR d fr) ρ' := by
  unfold callM
  simp only [ha, nd, if_true, hM, hg]
theorem c_gen (ha : argsOf ps ρ = some as) (nd : noDup ps = true) (hM : M as = .ok d false outs) (hg : gb ps outs 0 ρ = ρ1) (k : Q (.val d) ρ1) : gE (callM M ps ρ) Q E := gE_ok (callM_g ha nd hM hg) k
theorem c_genT (ha : argsOf ps ρ = some as) (nd : noDup ps = true) (hM : M as = .ok d true outs) (hg : gb ps outs 0 ρ = ρ1) (k : Q (.tmp d) ρ1) : gE (callM M ps ρ) Q E := gE_ok (callM_g ha nd hM hg) k
theorem c_draw {p : Pen} {m : Int} {md : Md} (hi : ρ[i]? = some (some (p.d, md))) (hm : md = .own ∨ md = .lent) (h0 : 0 < m ∧ m < 10000000000000000000000000000000000000000000000000000000000000000000000) (k : ∀ (v : Int) (p' : Pen), 0 ≤ v ∧ v < m → setW ρ i (some (p'.d, md)) fun ρ' => Q (.val (.int v)) ρ') : gE (callM MMDraw [.slot i, .val (.int m)] ρ) Q E :=
  gE_ok (draw_call hi hm h0.1 h0.2) (k _ _ ⟨p.draw_ge h0.1, p.draw_lt h0.1⟩)
end
section
theorem c_pen {Q : Pl → Rho → Prop} {c : Int} (k : ∀ p : Pen, Q (.tmp p.d) ρ) : gE (callM MMPen [.val (.int c)] ρ) Q E := gE_ok (pen_call c) (k _)
end
/-! defs -/
section
variable {n m : Nat} {c : CS} {as : List (D × Md)} {fr : Bool} {r : FR} {o : List Slot} {x : Xc}
theorem gF_mk {T : D → Bool → List Slot → Prop} {E : Xc → List Slot → Prop} (hl : as.length = n) (h : gS (c (as.map some ++ List.replicate (m - n) none)) (fun ρ => T .none false (ρ.take n)) (fun d fr ρ => T d fr (ρ.take n)) (fun x ρ => E x (ρ.take n))) : gF (mkF n m c as) T E := by
  unfold mkF
  simp only [hl, if_true]
  cases hc : c (as.map some ++ List.replicate (m - n) none) <;> (rw [hc] at h; exact h)
theorem rv_gF (h : gF r (fun d' fr' _ => d' = d ∧ fr' = fr) (fun _ _ => False)) : r.rv = some (d, fr) := by
  cases r with
  | ok a b o => obtain ⟨rfl, rfl⟩ := h; rfl
  | exc x o => exact h.elim
  | bad => exact h.elim
theorem ex_gF {T : D → Bool → List Slot → Prop} (h : gF r T (fun _ _ => False)) : ∃ d fr o, r = .ok d fr o ∧ T d fr o := by
  cases r with
  | ok a b o => exact ⟨a, b, o, rfl, h⟩
  | exc x o => exact h.elim
  | bad => exact h.elim
end
end
/-! what operators give, asked for from the end -/
section
variable {Q : Pl → Prop} {i j : Int} {a b : List D} {P : D → D → Prop} {x : D}
theorem ty_i {T : String} {d : D} {A : Prop} (h : tyOk T d = true) (k : A) : tyOk T d = true ∧ A := ⟨h, k⟩
theorem o_add (h : Q (.val (.int (i + j)))) : gO (opAdd (.int i) (.int j)) Q := h
theorem o_sub (h : Q (.val (.int (i - j)))) : gO (opSub (.int i) (.int j)) Q := h
theorem o_neg (h : Q (.val (.int (-i)))) : gO (opNeg (.int i)) Q := h
theorem o_mul (hb : (-1000000000 < i ∧ i < 1000000000) ∨ (-1000000000 < j ∧ j < 1000000000)) (h : Q (.val (.int (i * j)))) : gO (opMul (.int i) (.int j)) Q := by
  refine gO_of ?_ h
  rw [opMul_i, if_pos]
  unfold mulB
  rcases hb with hb | hb
  · simp; left; omega
  · simp; right; omega
theorem o_mod (hb : 0 < j) (h : Q (.val (.int (i % j)))) : gO (opMod (.int i) (.int j)) Q := gO_of (by rw [opMod_i, if_pos hb]) h
theorem o_div (hb : 0 < j ∧ j < 1000000000) (h : Q (.val (.int (i / j)))) : gO (opDiv (.int i) (.int j)) Q := gO_of (by rw [opDiv_i, if_pos ⟨hb.1, by omega⟩]) h
theorem o_ltG {f : Int → Int → Bool} (h : Q (.val (.bool (f i j)))) : gO (opLtG f (.int i) (.int j)) Q := h
theorem o_eqI (h : Q (.val (.bool (decide (i = j))))) : gO (opEq (.int i) (.int j)) Q := gO_of (opEq_int _ _) h
theorem o_neI (h : Q (.val (.bool (!decide (i = j))))) : gO (opNe (.int i) (.int j)) Q := gO_of (opNe_int _ _) h
theorem o_eqB {a b : Bool} (h : Q (.val (.bool (a == b)))) : gO (opEq (.bool a) (.bool b)) Q := gO_of (opEq_bool _ _) h
theorem o_neB {a b : Bool} (h : Q (.val (.bool (!(a == b))))) : gO (opNe (.bool a) (.bool b)) Q := gO_of (opNe_bool _ _) h
theorem o_eqL {a b : List Int} (h : Q (.val (.bool (decide (a = b))))) : gO (opEq (.list (a.map .int)) (.list (b.map .int))) Q := gO_of (opEq_ints _ _) h
theorem o_neL {a b : List Int} (h : Q (.val (.bool (!decide (a = b))))) : gO (opNe (.list (a.map .int)) (.list (b.map .int))) Q := gO_of (opNe_ints _ _) h
theorem o_eqT {a b : List Int} (h : Q (.val (.bool (decide (a = b))))) : gO (opEq (.tuple (a.map .int)) (.tuple (b.map .int))) Q := gO_of (opEq_tints _ _) h
theorem o_neT {a b : List Int} (h : Q (.val (.bool (!decide (a = b))))) : gO (opNe (.tuple (a.map .int)) (.tuple (b.map .int))) Q := gO_of (opNe_tints _ _) h
theorem o_isN (h : Q (.val (.bool (isNonD x)))) : gO (opIsN x .none) Q := h
theorem o_notN (h : Q (.val (.bool (!isNonD x)))) : gO (opNotN x .none) Q := h
theorem o_tup (h : Q (.val (.bool (isTupD x)))) : gO (opIsi "tuple" x) Q := gO_of (isi_tuple x) h
theorem o_lst (h : Q (.val (.bool (isLstD x)))) : gO (opIsi "list" x) Q := gO_of (isi_list x) h
theorem o_bool (h : Q (.val (.bool (isBoolD x)))) : gO (opIsi "bool" x) Q := gO_of (isi_bool x) h
theorem o_lenM {α : Type} {xs : List α} {f : α → D} (h : Q (.val (.int (xs.length : Nat)))) : gO (fLen [.list (xs.map f)]) Q := gO_of (by rw [fLen_l, List.length_map]) h
theorem o_lenMt {α : Type} {xs : List α} {f : α → D} (h : Q (.val (.int (xs.length : Nat)))) : gO (fLen [.tuple (xs.map f)]) Q := gO_of (by rw [fLen_t, List.length_map]) h
theorem o_lenL (h : Q (.val (.int (a.length : Nat)))) : gO (fLen [.list a]) Q := h
theorem o_lenT (h : Q (.val (.int (a.length : Nat)))) : gO (fLen [.tuple a]) Q := h
theorem o_intI (h : Q (.val (.int i))) : gO (fInt [.int i]) Q := h
theorem o_intB {b : Bool} (h : Q (.val (.int (if b = true then 1 else 0)))) : gO (fInt [.bool b]) Q := h
theorem o_abs (h : Q (.val (.int (absI i)))) : gO (fAbs [.int i]) Q := h
theorem o_max2 (h : Q (.val (.int (max i j)))) : gO (fMax2 [.int i, .int j]) Q := by
  have : (if j > i then j else i) = max i j := by split <;> omega
  rw [← this] at h; exact h
theorem o_min2 (h : Q (.val (.int (min i j)))) : gO (fMin2 [.int i, .int j]) Q := by
  have : (if j < i then j else i) = min i j := by split <;> omega
  rw [← this] at h; exact h
theorem o_tupL (h : Q (.val (.tuple a))) : gO (fTuple [.list a]) Q := h
theorem o_tupT (h : Q (.val (.tuple a))) : gO (fTuple [.tuple a]) Q := h
theorem o_lstL (h : Q (.tmp (.list a))) : gO (fListA [.list a]) Q := h
theorem o_lstT (h : Q (.tmp (.list a))) : gO (fListA [.tuple a]) Q := h
theorem o_sumL {ns : List Int} (h : Q (.val (.int ns.sum))) : gO (fSum [.list (ns.map .int)]) Q := gO_of (fSum_l _) h
theorem o_sumT {ns : List Int} (h : Q (.val (.int ns.sum))) : gO (fSum [.tuple (ns.map .int)]) Q := gO_of (fSum_t _) h
theorem o_sortL {ns : List Int} (hl : ns.length ≤ 16777216) (h : Q (.tmp (.list ((sortI ns).map .int)))) : gO (fSorted [.list (ns.map .int)]) Q := gO_of (fSorted_l _ hl) h
theorem o_sortT {ns : List Int} (hl : ns.length ≤ 16777216) (h : Q (.tmp (.list ((sortI ns).map .int)))) : gO (fSorted [.tuple (ns.map .int)]) Q := gO_of (fSorted_t _ hl) h
theorem o_setL {ns : List Int} (hl : ns.length ≤ 4000) (h : Q (.val (.int ((ddI ns).length : Nat)))) : gO (fLenSet (.list (ns.map .int))) Q := gO_of (fLenSet_l _ hl) h
theorem o_setT {ns : List Int} (hl : ns.length ≤ 4000) (h : Q (.val (.int ((ddI ns).length : Nat)))) : gO (fLenSet (.tuple (ns.map .int))) Q := gO_of (fLenSet_t _ hl) h
theorem o_webN {n : Nat} {ts : List (Nat × Nat)} (h : Q (.val (.int (n : Nat)))) : gO (opIx (webD n ts) (.int 0)) Q := h
theorem o_webT {n : Nat} {ts : List (Nat × Nat)} (h : Q (.val (.tuple (ts.map tieD)))) : gO (opIx (webD n ts) (.int 1)) Q := h
theorem o_seqL {Q : List D → Prop} (h : Q a) : gO (seqD (.list a)) Q := h
theorem o_seqT {Q : List D → Prop} (h : Q a) : gO (seqD (.tuple a)) Q := h
theorem o_sqL {Q : List D → Prop} (h : Q a) : gO (seqOf (.list a)) Q := h
theorem o_sqT {Q : List D → Prop} (h : Q a) : gO (seqOf (.tuple a)) Q := h
theorem o_allM {α : Type} {xs : List α} {f : α → Bool} (h : Q (.val (.bool (xs.all f)))) : gO (fAll [.list (xs.map fun x => .bool (f x))]) Q := gO_of (fAll_map _ _) h
theorem o_addT (hl : a.length + b.length ≤ 16777216) (h : Q (.val (.tuple (a ++ b)))) : gO (opAdd (.tuple a) (.tuple b)) Q := gO_of (opAdd_tt hl) h
theorem o_addL (hl : a.length + b.length ≤ 16777216) (h : Q (.tmp (.list (a ++ b)))) : gO (opAdd (.list a) (.list b)) Q := gO_of (opAdd_ll hl) h
theorem o_slL {lo hi : Option Int} (h : Q (.tmp (.list (cutL a lo hi)))) : gO (opSl (.list a) lo hi) Q := h
theorem o_slT {lo hi : Option Int} (h : Q (.val (.tuple (cutL a lo hi)))) : gO (opSl (.tuple a) lo hi) Q := h
theorem o_app (hl : a.length < 16777216) (h : P (.list (a ++ [x])) .none) : gP (fAppend (.list a) [x]) P := gP_of (app_i hl) h
theorem o_extL (hl : a.length + b.length ≤ 16777216) (h : P (.list (a ++ b)) .none) : gP (fExtend (.list a) [.list b]) P := gP_of (ext_l hl) h
theorem o_extT (hl : a.length + b.length ≤ 16777216) (h : P (.list (a ++ b)) .none) : gP (fExtend (.list a) [.tuple b]) P := gP_of (ext_t hl) h
theorem o_eqS {a b : Str} (ha : PyData.strOk a = true) (hb : PyData.strOk b = true) (h : Q (.val (.bool (a == b)))) : gO (opEq (.str a) (.str b)) Q := gO_of (opEq_str a b ha hb) h
theorem o_neS {a b : Str} (ha : PyData.strOk a = true) (hb : PyData.strOk b = true) (h : Q (.val (.bool (!(a == b))))) : gO (opNe (.str a) (.str b)) Q := by
  refine gO_of ?_ h
  unfold opNe
  rw [if_pos ⟨shaped_str ha, shaped_str hb⟩]
  simp [PyData.eqv]
theorem o_strS {a : Str} (h : Q (.val (.bool true))) : gO (opIsi "str" (.str a)) Q := h
theorem fAll_true {α : Type} (xs : List α) : fAll [.list (xs.map fun _ => PyData.bool true)] = some (.val (.bool true)) := by
  rw [fAll_map xs fun _ => true]; simp
theorem o_allT {α : Type} {xs : List α} (h : Q (.val (.bool true))) : gO (fAll [.list (xs.map fun _ => PyData.bool true)]) Q := gO_of (fAll_true xs) h
theorem ix_rfl {x y : D} {r : Pl} (h : opIx x y = some r) (k : Q r) : gO (opIx x y) Q := gO_of h k
theorem put_rfl {c k d c' : D} {Q : D → Prop} (h : putA c k d = some c') (q : Q c') : gO (putA c k d) Q := gO_of h q
end
theorem gO_of_mono {α : Type} {o : Option α} {P P' : α → Prop} (h : gO o P) (k : ∀ x, P x → P' x) : gO o P' := by
  cases o with
  | none => exact h
  | some x => exact k x h
end TNO
namespace TN
open PySem PySem.Spec PyProof.Rows L2
/-! the same over words that nothing unfolds by itself -/
/-! what is wanted of a run, told from its end: each step leads to what is wanted of the next -/
@[irreducible] def gE {α : Type} (r : R α) (Q : α → Rho → Prop) (E : Xc → Rho → Prop) : Prop := TNO.gE r Q E
@[irreducible] def gS (r : RS) (N : Rho → Prop) (T : D → Bool → Rho → Prop) (E : Xc → Rho → Prop) : Prop := TNO.gS r N T E
abbrev gF (r : FR) (T : D → Bool → List Slot → Prop) (E : Xc → List Slot → Prop) : Prop := TNO.gF r T E
@[irreducible] def gO {α : Type} (o : Option α) (Q : α → Prop) : Prop := TNO.gO o Q
@[irreducible] def gP {α β : Type} (o : Option (α × β)) (Q : α → β → Prop) : Prop := TNO.gP o Q
@[irreducible] def lk (p : Pl) (ρ : Rho) (Q : D → Prop) : Prop := TNO.lk p ρ Q
@[irreducible] def lkA (ps : List Pl) (ρ : Rho) (Q : List D → Prop) : Prop := TNO.lkA ps ρ Q
@[irreducible] def fz1 (p : Pl) (ρ : Rho) (Q : D → Rho → Prop) : Prop := TNO.fz1 p ρ Q
@[irreducible] def fzA (ps : List Pl) (ρ : Rho) (Q : List D → Rho → Prop) : Prop := TNO.fzA ps ρ Q
@[irreducible] def br (b : Bool) (A B : Prop) : Prop := TNO.br b A B
@[irreducible] def isB (d : D) (Q : Bool → Prop) : Prop := TNO.isB d Q
@[irreducible] def isI (d : D) (Q : Int → Prop) : Prop := TNO.isI d Q
@[irreducible] def sto (i : Nat) (p : Pl) (ρ : Rho) (N : Rho → Prop) : Prop := TNO.sto i p ρ N
@[irreducible] def setW (ρ : Rho) (i : Nat) (s : Slot) (N : Rho → Prop) : Prop := TNO.setW ρ i s N
@[irreducible] def ownW (i : Nat) (ρ : Rho) (Q : D → Md → Prop) : Prop := TNO.ownW i ρ Q
@[irreducible] def prW (p : Int × Int) (F : Int → Int → Prop) : Prop := TNO.prW p F
@[irreducible] def lenW (ds : List D) (P : Prop) : Prop := TNO.lenW ds P
@[irreducible] def rt (p : Pl) (ρ : Rho) (T : D → Bool → Rho → Prop) : Prop := TNO.rt p ρ T
@[irreducible] def wpd (vs : List Nat) (ρ : Rho) (N : Rho → Prop) : Prop := TNO.wpd vs ρ N
@[irreducible] def elW (g : D → Rho → Option Rho) (t : CB) (e : CE) (vs : List Nat) (ρ : Rho) (x : D) (P : Option D → Rho → Prop) : Prop := TNO.elW g t e vs ρ x P
@[irreducible] def cpW (ds : List D) (g : D → Rho → Option Rho) (t : CB) (e : CE) (vs : List Nat) (ρ : Rho) (Q : Pl → Rho → Prop) : Prop := TNO.cpW ds g t e vs ρ Q
/-- a slot that may be set -/
abbrev okS (s : Slot) : Prop := TNO.okS s
section
variable {α : Type} {ρ ρ1 ρ2 : Rho} {E : Xc → Rho → Prop} {d : D} {ds : List D} {i j : Nat}
theorem gE_mono {r : R α} {Q Q' : α → Rho → Prop} (h : gE r Q E) (k : ∀ p ρ, Q p ρ → Q' p ρ) : gE r Q' E := by with_unfolding_all exact TNO.gE_mono h k
theorem gE_bind {β : Type} {r : R α} {k : α → Rho → R β} {Q : β → Rho → Prop} (h : gE r (fun p ρ1 => gE (k p ρ1) Q E) E) : gE (r.bind k) Q E := by with_unfolding_all exact TNO.gE_bind h
theorem gO_ex {o : Option α} {Q : α → Prop} (h : gO o Q) : ∃ x, o = some x ∧ Q x := by with_unfolding_all exact TNO.gO_ex h
theorem gP_ex {β : Type} {o : Option (α × β)} {Q : α → β → Prop} (h : gP o Q) : ∃ x y, o = some (x, y) ∧ Q x y := by with_unfolding_all exact TNO.gP_ex h
theorem gO_of {o : Option α} {x : α} {Q : α → Prop} (h : o = some x) (k : Q x) : gO o Q := by with_unfolding_all exact TNO.gO_of h k
theorem gP_of {β : Type} {o : Option (α × β)} {x : α} {y : β} {Q : α → β → Prop} (h : o = some (x, y)) (k : Q x y) : gP o Q := by with_unfolding_all exact TNO.gP_of h k
theorem isB_b {b : Bool} {Q : Bool → Prop} (h : Q b) : isB (.bool b) Q := by with_unfolding_all exact TNO.isB_b h
theorem isI_i {b : Int} {Q : Int → Prop} (h : Q b) : isI (.int b) Q := by with_unfolding_all exact TNO.isI_i h
theorem gE_ok {r : R α} {a : α} {Q : α → Rho → Prop} (h : r = .ok a ρ1) (k : Q a ρ1) : gE r Q E := by with_unfolding_all exact TNO.gE_ok h k
theorem gE_okE {r : R α} {Q : α → Rho → Prop} (h : gE r Q (fun _ _ => False)) : ∃ a ρ, r = .ok a ρ ∧ Q a ρ := by with_unfolding_all exact TNO.gE_okE h
/-! truths -/
section
variable {A B : Prop}
theorem br_true (h : A) : br true A B := by with_unfolding_all exact TNO.br_true h
theorem br_false (h : B) : br false A B := by with_unfolding_all exact TNO.br_false h
theorem br_not {b : Bool} (h : br b B A) : br (!b) A B := by with_unfolding_all exact TNO.br_not h
theorem br_t {b : Bool} (h : b = true) (k : A) : br b A B := by with_unfolding_all exact TNO.br_t h k
theorem br_f {b : Bool} (h : b = false) (k : B) : br b A B := by with_unfolding_all exact TNO.br_f h k
theorem br_p {p : Prop} [Decidable p] (h : p) (k : A) : br (decide p) A B := by with_unfolding_all exact TNO.br_p h k
theorem br_n {p : Prop} [Decidable p] (h : ¬ p) (k : B) : br (decide p) A B := by with_unfolding_all exact TNO.br_n h k
theorem br_dec {p : Prop} [Decidable p] (h1 : p → A) (h2 : ¬ p → B) : br (decide p) A B := by with_unfolding_all exact TNO.br_dec h1 h2
theorem br_and {a b : Bool} (h : br a (br b A B) B) : br (a && b) A B := by with_unfolding_all exact TNO.br_and h
theorem br_or {a b : Bool} (h : br a A (br b A B)) : br (a || b) A B := by with_unfolding_all exact TNO.br_or h
theorem br_sT {a b : String} (h : (Str.ofString a == Str.ofString b) = true) (k : A) : br (Str.ofString a == Str.ofString b) A B := by with_unfolding_all exact TNO.br_sT h k
theorem br_sF {a b : String} (h : (Str.ofString a == Str.ofString b) = false) (k : B) : br (Str.ofString a == Str.ofString b) A B := by with_unfolding_all exact TNO.br_sF h k
end
/-! looking -/
theorem lk_val {Q : D → Prop} (h : Q d) : lk (.val d) ρ Q := by with_unfolding_all exact TNO.lk_val h
theorem lk_tmp {Q : D → Prop} (h : Q d) : lk (.tmp d) ρ Q := by with_unfolding_all exact TNO.lk_tmp h
theorem lk_slot {m : Md} {Q : D → Prop} (h : ρ[i]? = some (some (d, m))) (k : Q d) : lk (.slot i) ρ Q := by with_unfolding_all exact TNO.lk_slot h k
theorem lkA_nil {Q : List D → Prop} (h : Q []) : lkA [] ρ Q := by with_unfolding_all exact TNO.lkA_nil h
theorem lkA_cons {p : Pl} {ps : List Pl} {Q : List D → Prop} (h : lk p ρ fun d => lkA ps ρ fun ds => Q (d :: ds)) : lkA (p :: ps) ρ Q := by with_unfolding_all exact TNO.lkA_cons h
theorem fz1_val {Q : D → Rho → Prop} (h : Q d ρ) : fz1 (.val d) ρ Q := by with_unfolding_all exact TNO.fz1_val h
theorem fz1_tmp {Q : D → Rho → Prop} (h : Q d ρ) : fz1 (.tmp d) ρ Q := by with_unfolding_all exact TNO.fz1_tmp h
theorem fz1_own {Q : D → Rho → Prop} (h : ρ[i]? = some (some (d, .own))) (e : ρ.set i (some (d, .fz)) = ρ1) (k : Q d ρ1) : fz1 (.slot i) ρ Q := by with_unfolding_all exact TNO.fz1_own h e k
theorem fz1_lent {Q : D → Rho → Prop} (h : ρ[i]? = some (some (d, .lent))) (e : ρ.set i (some (d, .lz)) = ρ1) (k : Q d ρ1) : fz1 (.slot i) ρ Q := by with_unfolding_all exact TNO.fz1_lent h e k
theorem fzA_nil {Q : List D → Rho → Prop} (h : Q [] ρ) : fzA [] ρ Q := by with_unfolding_all exact TNO.fzA_nil h
theorem fzA_cons {p : Pl} {ps : List Pl} {Q : List D → Rho → Prop} (h : fz1 p ρ fun d ρ1 => fzA ps ρ1 fun ds => Q (d :: ds)) : fzA (p :: ps) ρ Q := by with_unfolding_all exact TNO.fzA_cons h
theorem lenW_i {P : Prop} (h : ds.length ≤ 16777216) (k : P) : lenW ds P := by with_unfolding_all exact TNO.lenW_i h k
theorem len_nil {n : Nat} : ([] : List D).length ≤ n := by with_unfolding_all exact TNO.len_nil
theorem len_cons {n : Nat} (h : ds.length ≤ n) : (d :: ds).length ≤ n + 1 := by with_unfolding_all exact TNO.len_cons h
theorem st0 {s s' : Slot} : (s :: ρ).set 0 s' = s' :: ρ := by with_unfolding_all exact TNO.st0
theorem stS {s s' : Slot} (h : ρ.set i s' = ρ1) : (s :: ρ).set (i + 1) s' = s :: ρ1 := by with_unfolding_all exact TNO.stS h
theorem setW_i {s : Slot} {N : Rho → Prop} (e : ρ.set i s = ρ1) (k : N ρ1) : setW ρ i s N := by with_unfolding_all exact TNO.setW_i e k
theorem ownW_own {Q : D → Md → Prop} (h : ρ[i]? = some (some (d, .own))) (k : Q d .own) : ownW i ρ Q := by with_unfolding_all exact TNO.ownW_own h k
theorem ownW_lent {Q : D → Md → Prop} (h : ρ[i]? = some (some (d, .lent))) (k : Q d .lent) : ownW i ρ Q := by with_unfolding_all exact TNO.ownW_lent h k
theorem can_ok {s : Slot} (h : ρ[i]? = some s) (hs : okS s) : canSet ρ i = true := by with_unfolding_all exact TNO.can_ok h hs
theorem okS_jk {k : Option D} : okS (jk k) := by with_unfolding_all exact TNO.okS_jk
theorem okS_md {md : Md} (h : md = .own ∨ md = .fz) : okS (some (d, md)) := by with_unfolding_all exact TNO.okS_md h
theorem sto_val {N : Rho → Prop} (h : canSet ρ i = true) (e : ρ.set i (some (d, .fz)) = ρ1) (k : N ρ1) : sto i (.val d) ρ N := by with_unfolding_all exact TNO.sto_val h e k
theorem sto_tmp {N : Rho → Prop} (h : canSet ρ i = true) (e : ρ.set i (some (d, .own)) = ρ1) (k : N ρ1) : sto i (.tmp d) ρ N := by with_unfolding_all exact TNO.sto_tmp h e k
theorem sto_own {N : Rho → Prop} (hj : ρ[j]? = some (some (d, .own))) (e : ρ.set j (some (d, .fz)) = ρ1) (h : canSet ρ1 i = true) (e2 : ρ1.set i (some (d, .fz)) = ρ2) (k : N ρ2) : sto i (.slot j) ρ N := by with_unfolding_all exact TNO.sto_own hj e h e2 k
theorem sto_lent {N : Rho → Prop} (hj : ρ[j]? = some (some (d, .lent))) (e : ρ.set j (some (d, .lz)) = ρ1) (h : canSet ρ1 i = true) (e2 : ρ1.set i (some (d, .fz)) = ρ2) (k : N ρ2) : sto i (.slot j) ρ N := by with_unfolding_all exact TNO.sto_lent hj e h e2 k
theorem rt_val {T : D → Bool → Rho → Prop} (h : T d false ρ) : rt (.val d) ρ T := by with_unfolding_all exact TNO.rt_val h
theorem rt_tmp {T : D → Bool → Rho → Prop} (h : T d true ρ) : rt (.tmp d) ρ T := by with_unfolding_all exact TNO.rt_tmp h
theorem rt_own {T : D → Bool → Rho → Prop} (h : ρ[i]? = some (some (d, .own))) (e : ρ.set i none = ρ1) (k : T d true ρ1) : rt (.slot i) ρ T := by with_unfolding_all exact TNO.rt_own h e k
theorem rt_lent {T : D → Bool → Rho → Prop} (h : ρ[i]? = some (some (d, .lent))) (e : ρ.set i (some (d, .lz)) = ρ1) (k : T d false ρ1) : rt (.slot i) ρ T := by with_unfolding_all exact TNO.rt_lent h e k
theorem wipe_nil : wipeR ρ [] = ρ := by with_unfolding_all exact TNO.wipe_nil
theorem wipe_cons {v : Nat} {vs : List Nat} (h : wipeR ρ vs = ρ1) (h2 : ρ1.set v none = ρ2) : wipeR ρ (v :: vs) = ρ2 := by with_unfolding_all exact TNO.wipe_cons h h2
theorem wpd_i {vs : List Nat} {N : Rho → Prop} (h : wipeOk ρ vs = true) (e : wipeR ρ vs = ρ1) (k : N ρ1) : wpd vs ρ N := by with_unfolding_all exact TNO.wpd_i h e k
abbrev okW (s : Slot) : Prop := TNO.okW s
theorem okW_none : okW none := by with_unfolding_all exact TNO.okW_none
theorem okW_fz : okW (some (d, .fz)) := by with_unfolding_all exact TNO.okW_fz
theorem okW_jk {k : Option D} : okW (jk k) := by with_unfolding_all exact TNO.okW_jk
theorem wOk_nil : wipeOk ρ [] = true := by with_unfolding_all exact TNO.wOk_nil
theorem wOk_cons {v : Nat} {vs : List Nat} {s : Slot} (h : ρ[v]? = some s) (hs : okW s) (k : wipeOk ρ vs = true) : wipeOk ρ (v :: vs) = true := by with_unfolding_all exact TNO.wOk_cons h hs k
@[irreducible] def setB (ρ0 ρ : Rho) (vs : List Nat) (N : Rho → Prop) : Prop := TNO.setB ρ0 ρ vs N
theorem back_nil {ρ0 : Rho} : backR ρ0 ρ [] = ρ := by with_unfolding_all exact TNO.back_nil
theorem back_cons {ρ0 : Rho} {v : Nat} {vs : List Nat} {s : Slot} (h : ρ0[v]? = some s) (h1 : backR ρ0 ρ vs = ρ1) (h2 : ρ1.set v s = ρ2) : backR ρ0 ρ (v :: vs) = ρ2 := by with_unfolding_all exact TNO.back_cons h h1 h2
theorem setB_i {ρ0 : Rho} {vs : List Nat} {N : Rho → Prop} (e : backR ρ0 ρ vs = ρ1) (k : N ρ1) : setB ρ0 ρ vs N := by with_unfolding_all exact TNO.setB_i e k
/-! expressions -/
section
variable {Q : Pl → Rho → Prop} {a b c : CE} {ca : CA}
theorem w_lit (h : Q (.val d) ρ) : gE (cLit d ρ) Q E := by with_unfolding_all exact TNO.w_lit h
theorem w_newK (h : Q (.tmp (.dict [])) ρ) : gE (cNewK ρ) Q E := by with_unfolding_all exact TNO.w_newK h
theorem w_newT (h : Q (.tmp (.dict [(.none, .none)])) ρ) : gE (cNewT ρ) Q E := by with_unfolding_all exact TNO.w_newT h
theorem w_fz (h : ρ[i]? = some (some (d, .fz))) (k : Q (.val d) ρ) : gE (cVar i ρ) Q E := by with_unfolding_all exact TNO.w_fz h k
theorem w_lz (h : ρ[i]? = some (some (d, .lz))) (k : Q (.val d) ρ) : gE (cVar i ρ) Q E := by with_unfolding_all exact TNO.w_lz h k
theorem w_own (h : ρ[i]? = some (some (d, .own))) (k : Q (.slot i) ρ) : gE (cVar i ρ) Q E := by with_unfolding_all exact TNO.w_own h k
theorem w_lent (h : ρ[i]? = some (some (d, .lent))) (k : Q (.slot i) ρ) : gE (cVar i ρ) Q E := by with_unfolding_all exact TNO.w_lent h k
theorem w_any {md : Md} (h : ρ[i]? = some (some (d, md))) (hm : md = .fz ∨ md = .lent) (k : ∀ p : Pl, (∀ ρ' : Rho, ρ'[i]? = some (some (d, md)) → look p ρ' = some d) → Q p ρ) : gE (cVar i ρ) Q E := by with_unfolding_all exact TNO.w_any h hm k
theorem w_any2 {md : Md} (h : ρ[i]? = some (some (d, md))) (hm : md = .own ∨ md = .fz) (k : ∀ p : Pl, (∀ ρ' : Rho, ρ'[i]? = some (some (d, md)) → look p ρ' = some d) → Q p ρ) : gE (cVar i ρ) Q E := by with_unfolding_all exact TNO.w_any2 h hm k
theorem lk_any {md : Md} {p : Pl} {Q : D → Prop} (hp : ∀ ρ' : Rho, ρ'[i]? = some (some (d, md)) → look p ρ' = some d) (h : ρ[i]? = some (some (d, md))) (k : Q d) : lk p ρ Q := by with_unfolding_all exact TNO.lk_any hp h k
theorem w_bin {f : D → D → Option Pl} (h : gE (a ρ) (fun p ρ1 => gE (b ρ1) (fun q ρ2 => lk p ρ2 fun x => lk q ρ2 fun y => gO (f x y) fun r => Q r ρ2) E) E) : gE (cBin f a b ρ) Q E := by with_unfolding_all exact TNO.w_bin h
theorem w_un {f : D → Option Pl} (h : gE (a ρ) (fun p ρ1 => lk p ρ1 fun x => gO (f x) fun r => Q r ρ1) E) : gE (cUn f a ρ) Q E := by with_unfolding_all exact TNO.w_un h
theorem w_fn {f : List D → Option Pl} (h : gE (ca ρ) (fun ps ρ1 => lkA ps ρ1 fun x => gO (f x) fun r => Q r ρ1) E) : gE (cFn f ca ρ) Q E := by with_unfolding_all exact TNO.w_fn h
theorem w_nil {Q : List Pl → Rho → Prop} (h : Q [] ρ) : gE (cNil ρ) Q E := by with_unfolding_all exact TNO.w_nil h
theorem w_cons {Q : List Pl → Rho → Prop} (h : gE (a ρ) (fun p ρ1 => gE (ca ρ1) (fun ps ρ2 => Q (p :: ps) ρ2) E) E) : gE (cCons a ca ρ) Q E := by with_unfolding_all exact TNO.w_cons h
theorem w_tst {Q : Bool → Rho → Prop} (h : gE (c ρ) (fun p ρ1 => lk p ρ1 fun d => isB d fun b => Q b ρ1) E) : gE (cTst c ρ) Q E := by with_unfolding_all exact TNO.w_tst h
theorem w_true {Q : Bool → Rho → Prop} (h : Q true ρ) : gE (tTrue ρ) Q E := by with_unfolding_all exact TNO.w_true h
theorem w_and {Q : Bool → Rho → Prop} {a b : CB} (h : gE (a ρ) (fun c ρ1 => br c (gE (b ρ1) Q E) (Q false ρ1)) E) : gE (cAnd a b ρ) Q E := by with_unfolding_all exact TNO.w_and h
theorem w_or {Q : Bool → Rho → Prop} {a b : CB} (h : gE (a ρ) (fun c ρ1 => br c (Q true ρ1) (gE (b ρ1) Q E)) E) : gE (cOr a b ρ) Q E := by with_unfolding_all exact TNO.w_or h
theorem w_not {Q : Bool → Rho → Prop} {a : CB} (h : gE (a ρ) (fun c ρ1 => Q (!c) ρ1) E) : gE (cNot a ρ) Q E := by with_unfolding_all exact TNO.w_not h
theorem w_andV (h : gE (a ρ) (fun p ρ1 => lk p ρ1 fun d => isB d fun k => br k (gE (b ρ1) Q E) (Q (.val (.bool false)) ρ1)) E) : gE (cAndV a b ρ) Q E := by with_unfolding_all exact TNO.w_andV h
theorem w_orV (h : gE (a ρ) (fun p ρ1 => lk p ρ1 fun d => isB d fun k => br k (Q (.val (.bool true)) ρ1) (gE (b ρ1) Q E)) E) : gE (cOrV a b ρ) Q E := by with_unfolding_all exact TNO.w_orV h
theorem w_notV (h : gE (a ρ) (fun p ρ1 => lk p ρ1 fun d => isB d fun k => Q (.val (.bool (!k))) ρ1) E) : gE (cNotV a ρ) Q E := by with_unfolding_all exact TNO.w_notV h
theorem w_ite {t : CB} (h : gE (t ρ) (fun k ρ1 => br k (gE (a ρ1) Q E) (gE (b ρ1) Q E)) E) : gE (cIte t a b ρ) Q E := by with_unfolding_all exact TNO.w_ite h
theorem w_tup (h : gE (ca ρ) (fun ps ρ1 => fzA ps ρ1 fun ds ρ2 => lenW ds (Q (.val (.tuple ds)) ρ2)) E) : gE (cTup ca ρ) Q E := by with_unfolding_all exact TNO.w_tup h
theorem w_lst (h : gE (ca ρ) (fun ps ρ1 => fzA ps ρ1 fun ds ρ2 => lenW ds (Q (.tmp (.list ds)) ρ2)) E) : gE (cLst ca ρ) Q E := by with_unfolding_all exact TNO.w_lst h
theorem w_call {M : FM} (h : gE (ca ρ) (fun ps ρ1 => gE (callM M ps ρ1) Q E) E) : gE (cCall M ca ρ) Q E := by with_unfolding_all exact TNO.w_call h
theorem w_chI {f : Int → Int → Bool} {g : D → D → Option Pl} (h : gE (a ρ) (fun p ρ1 => gE (b ρ1) (fun q ρ2 => lk p ρ2 fun x => lk q ρ2 fun y => gO (opLtG f x y) fun r => lk r ρ2 fun d => isB d fun k => br k (gE (c ρ2) (fun r ρ3 => lk q ρ3 fun y => lk r ρ3 fun z => gO (g y z) fun s => Q s ρ3) E) (Q (.val (.bool false)) ρ2)) E) E) : gE (cChain (opLtG f) g a b c ρ) Q E := by with_unfolding_all exact TNO.w_chI h
theorem w_chE {g : D → D → Option Pl} (h : gE (a ρ) (fun p ρ1 => gE (b ρ1) (fun q ρ2 => lk p ρ2 fun x => lk q ρ2 fun y => gO (opEq x y) fun r => lk r ρ2 fun d => isB d fun k => br k (gE (c ρ2) (fun r ρ3 => lk q ρ3 fun y => lk r ρ3 fun z => gO (g y z) fun s => Q s ρ3) E) (Q (.val (.bool false)) ρ2)) E) E) : gE (cChain opEq g a b c ρ) Q E := by with_unfolding_all exact TNO.w_chE h
theorem w_ch3 {e f : Int → Int → Bool} {g : D → D → Option Pl} {d : CE} (h : gE (a ρ) (fun p ρ1 => gE (b ρ1) (fun q ρ2 => lk p ρ2 fun x => lk q ρ2 fun y => gO (opLtG e x y) fun r => lk r ρ2 fun k0 => isB k0 fun k => br k
    (gE (c ρ2) (fun r ρ3 => lk q ρ3 fun y => lk r ρ3 fun z => gO (opLtG f y z) fun s => lk s ρ3 fun k1 => isB k1 fun k' => br k' (gE (d ρ3) (fun s ρ4 => lk r ρ4 fun z => lk s ρ4 fun w => gO (g z w) fun u => Q u ρ4) E) (Q (.val (.bool false)) ρ3)) E) (Q (.val (.bool false)) ρ2)) E) E) : gE (cChain3 (opLtG e) (opLtG f) g a b c d ρ) Q E := by with_unfolding_all exact TNO.w_ch3 h
theorem w_sl {lo hi : CO} (h : gE (a ρ) (fun p ρ1 => gE (lo ρ1) (fun l ρ2 => gE (hi ρ2) (fun u ρ3 => lk p ρ3 fun x => gO (opSl x l u) fun r => Q r ρ3) E) E) E) : gE (cSl a lo hi ρ) Q E := by with_unfolding_all exact TNO.w_sl h
theorem w_noPart {Q : Option Int → Rho → Prop} (h : Q none ρ) : gE (cNoPart ρ) Q E := by with_unfolding_all exact TNO.w_noPart h
theorem w_part {Q : Option Int → Rho → Prop} (h : gE (c ρ) (fun p ρ1 => lk p ρ1 fun d => isI d fun n => Q (some n) ρ1) E) : gE (cPart c ρ) Q E := by with_unfolding_all exact TNO.w_part h
theorem w_mt {T : String} {f : D → List D → Option Pl} (h : gE (a ρ) (fun p ρ1 => lk p ρ1 fun d0 => tyOk T d0 = true ∧ gE (ca ρ1) (fun ps ρ2 => lk p ρ2 fun d => lkA ps ρ2 fun ds => gO (f d ds) fun r => Q r ρ2) E) E) : gE (cMt T f a ca ρ) Q E := by with_unfolding_all exact TNO.w_mt h
theorem w_mutL {xs : List D} {m0 : Md} {f : D → List D → Option (D × D)} (h0 : ownAt i ρ = some (.list xs, m0)) (h : gE (ca ρ) (fun ps ρ1 => fzA ps ρ1 fun ds ρ2 => ownW i ρ2 fun d m => gP (f d ds) fun d' y => setW ρ2 i (some (d', m)) fun ρ3 => Q (.val y) ρ3) E) : gE (cMutL i f ca ρ) Q E := by with_unfolding_all exact TNO.w_mutL h0 h
theorem prW_i {n m : Int} {F : Int → Int → Prop} (h : F n m) : prW (n, m) F := by with_unfolding_all exact TNO.prW_i h
theorem w_lstRg {r : Rho → R (Int × Int)} (h : gE (r ρ) (fun ab ρ1 => prW ab fun n m => rgOk n m = true ∧ Q (.tmp (.list ((rgI n m).map .int))) ρ1) E) : gE (cLstRg r ρ) Q E := by with_unfolding_all exact TNO.w_lstRg h
theorem w_tupRg {r : Rho → R (Int × Int)} (h : gE (r ρ) (fun ab ρ1 => prW ab fun n m => rgOk n m = true ∧ Q (.val (.tuple ((rgI n m).map .int))) ρ1) E) : gE (cTupRg r ρ) Q E := by with_unfolding_all exact TNO.w_tupRg h
theorem w_rg1 {Q : Int × Int → Rho → Prop} (h : gE (a ρ) (fun p ρ1 => lk p ρ1 fun d => isI d fun n => Q (0, n) ρ1) E) : gE (cRg1 a ρ) Q E := by with_unfolding_all exact TNO.w_rg1 h
theorem w_rg2 {Q : Int × Int → Rho → Prop} (h : gE (a ρ) (fun p ρ1 => gE (b ρ1) (fun q ρ2 => lk p ρ2 fun d => isI d fun n => lk q ρ2 fun e => isI e fun m => Q (n, m) ρ2) E) E) : gE (cRg2 a b ρ) Q E := by with_unfolding_all exact TNO.w_rg2 h
theorem rg_i {n m : Int} {Q : Prop} (h : 0 ≤ n ∧ n ≤ 1000000 ∧ 0 ≤ m ∧ m ≤ 1000000) (k : Q) : rgOk n m = true ∧ Q := by with_unfolding_all exact TNO.rg_i h k
theorem w_comp {ci : CI} {g : D → Rho → Option Rho} {t : CB} {e : CE} {vs : List Nat} (h : gE (ci ρ) (fun ds ρ1 => cpW ds g t e vs ρ1 Q) E) : gE (cComp ci g t e vs ρ) Q E := by with_unfolding_all exact TNO.w_comp h
end
/-! what is walked -/
section
variable {Q : List D → Rho → Prop} {a b c : CE}
theorem w_it (h : gE (c ρ) (fun p ρ1 => fz1 p ρ1 fun d ρ2 => gO (seqD d) fun ds => Q ds ρ2) E) : gE (cIt c ρ) Q E := by with_unfolding_all exact TNO.w_it h
theorem w_enum (h : gE (c ρ) (fun p ρ1 => fz1 p ρ1 fun d ρ2 => gO (seqOf d) fun ds => Q (enumD ds) ρ2) E) : gE (cEnum c ρ) Q E := by with_unfolding_all exact TNO.w_enum h
theorem w_rev (h : gE (c ρ) (fun p ρ1 => fz1 p ρ1 fun d ρ2 => gO (seqOf d) fun ds => Q ds.reverse ρ2) E) : gE (cRev c ρ) Q E := by with_unfolding_all exact TNO.w_rev h
theorem w_zip (h : gE (a ρ) (fun p ρ1 => gE (b ρ1) (fun q ρ2 => fz1 p ρ2 fun d ρ3 => fz1 q ρ3 fun e ρ4 => gO (match d, e with | .list a, .list b => some (zipD a b) | .tuple a, .tuple b => some (zipD a b) | _, _ => none) fun ds => Q ds ρ4) E) E) : gE (cZip a b ρ) Q E := by with_unfolding_all exact TNO.w_zip h
theorem w_r1 (h : gE (a ρ) (fun p ρ1 => lk p ρ1 fun d => isI d fun n => rgFit n = true ∧ Q (rgD 0 n) ρ1) E) : gE (cRng1 a ρ) Q E := by with_unfolding_all exact TNO.w_r1 h
theorem w_r2 (h : gE (a ρ) (fun p ρ1 => gE (b ρ1) (fun q ρ2 => lk p ρ2 fun d => isI d fun n => lk q ρ2 fun e => isI e fun m => rgFit n = true ∧ rgFit m = true ∧ Q (rgD n m) ρ2) E) E) : gE (cRng2 a b ρ) Q E := by with_unfolding_all exact TNO.w_r2 h
theorem w_r3 (h : gE (a ρ) (fun p ρ1 => gE (b ρ1) (fun q ρ2 => gE (c ρ2) (fun r ρ3 => lk p ρ3 fun d => isI d fun n => lk q ρ3 fun e => isI e fun m => lk r ρ3 fun f => isI f fun k => k = -1 ∧ rgFit n = true ∧ rgFit m = true ∧ Q (rgDown n m) ρ3) E) E) E) : gE (cRng3 a b c ρ) Q E := by with_unfolding_all exact TNO.w_r3 h
theorem rf_i {n : Int} {Q : Prop} (h : -1000000 ≤ n ∧ n ≤ 1000000) (k : Q) : rgFit n = true ∧ Q := by with_unfolding_all exact TNO.rf_i h k
end
/-! statements -/
section
variable {N : Rho → Prop} {T : D → Bool → Rho → Prop} {a b : CS} {c : CE} {t : CB} {g : D → Rho → Option Rho}
theorem s_seq (h : gS (a ρ) (fun ρ1 => gS (b ρ1) N T E) T E) : gS (cSeq a b ρ) N T E := by with_unfolding_all exact TNO.s_seq h
theorem s_skip (h : N ρ) : gS (cSkip ρ) N T E := by with_unfolding_all exact TNO.s_skip h
theorem s_ret (h : gE (c ρ) (fun p ρ1 => rt p ρ1 T) E) : gS (cRet c ρ) N T E := by with_unfolding_all exact TNO.s_ret h
theorem s_retN (h : T .none false ρ) : gS (cRetN ρ) N T E := by with_unfolding_all exact TNO.s_retN h
theorem s_if (h : gE (t ρ) (fun k ρ1 => br k (gS (a ρ1) N T E) (gS (b ρ1) N T E)) E) : gS (cIf t a b ρ) N T E := by with_unfolding_all exact TNO.s_if h
theorem s_set (h : gE (c ρ) (fun p ρ1 => sto i p ρ1 N) E) : gS (cSet i c ρ) N T E := by with_unfolding_all exact TNO.s_set h
theorem s_drop (h : gE (c ρ) (fun _ ρ1 => N ρ1) E) : gS (cDrop c ρ) N T E := by with_unfolding_all exact TNO.s_drop h
theorem s_raise {x : Str} (h : E ⟨x, []⟩ ρ) : gS (cRaise x ρ) N T E := by with_unfolding_all exact TNO.s_raise h
theorem s_raiseA {x : Str} {fs : List Str} {ca : CA} (h : gE (ca ρ) (fun ps ρ1 => fzA ps ρ1 fun ds ρ2 => E ⟨x, putF fs ds []⟩ ρ2) E) : gS (cRaiseA x fs ca ρ) N T E := by with_unfolding_all exact TNO.s_raiseA h
@[irreducible] def tryW (cs : List Str) (i : Nat) (ch : CS) (x : Xc) (ρ : Rho) (N : Rho → Prop) (T : D → Bool → Rho → Prop) : Prop := TNO.tryW cs i ch x ρ N T
theorem s_try {cs : List Str} (h : gS (a ρ) N T (fun x ρ1 => tryW cs i b x ρ1 N T)) : gS (cTry cs i a b ρ) N T E := by with_unfolding_all exact TNO.s_try h
theorem tryW_i {cs : List Str} {x : Str} {fl : List (Str × D)} (h1 : cs.contains x = true) (h2 : canSet ρ i = true) (e : ρ.set i (some (exD x fl, .fz)) = ρ1) (h : gS (b ρ1) (fun ρ2 => canSet ρ2 i = true ∧ setW ρ2 i none N) T (fun _ _ => False)) : tryW cs i b ⟨x, fl⟩ ρ N T := by with_unfolding_all exact TNO.tryW_i h1 h2 e h
theorem s_for {ci : CI} (h : gE (ci ρ) (fun ds ρ1 => gS (forL g b ds ρ1) N T E) E) : gS (cFor ci g b ρ) N T E := by with_unfolding_all exact TNO.s_for h
theorem s_unp (h : gE (c ρ) (fun p ρ1 => fz1 p ρ1 fun d ρ2 => gO (g d ρ2) N) E) : gS (cUnp g c ρ) N T E := by with_unfolding_all exact TNO.s_unp h
theorem s_aug {f : Int → Int → Int} (h : lk (.slot i) ρ fun d => isI d fun n => gE (c ρ) (fun p ρ1 => lk p ρ1 fun e => isI e fun m => sto i (.val (.int (f n m))) ρ1 N) E) : gS (cAugI i f c ρ) N T E := by with_unfolding_all exact TNO.s_aug h
theorem s_par {c2 : CE} (h : gE (c ρ) (fun p ρ1 => gE (c2 ρ1) (fun q ρ2 => fz1 p ρ2 fun d ρ3 => fz1 q ρ3 fun e ρ4 => sto i (.val d) ρ4 fun ρ5 => sto j (.val e) ρ5 N) E) E) : gS (cPar i j c c2 ρ) N T E := by with_unfolding_all exact TNO.s_par h
@[irreducible] def lsD (d : D) (Q : List D → Prop) : Prop := TNO.lsD d Q
theorem lsD_l {a : List D} {Q : List D → Prop} (h : Q a) : lsD (.list a) Q := by with_unfolding_all exact TNO.lsD_l h
theorem at_rfl {a : List D} {k : Int} {e : D} {Q : D → Prop} (h : atI a k = some e) (q : Q e) : gO (atI a k) Q := by with_unfolding_all exact TNO.at_rfl h q
theorem putL_rfl {c k d c' : D} {Q : D → Prop} (h : putL c k d = some c') (q : Q c') : gO (putL c k d) Q := by with_unfolding_all exact TNO.putL_rfl h q
theorem s_augS {f : D → D → D → Option D} {g0 : Int → Int → Int} {ck ce : CE} (h : ownW i ρ fun _ _ => gE (ck ρ) (fun p ρ1 => lk p ρ1 fun d => isI d fun k => ownW i ρ1 fun c _ => lsD c fun a => gO (atI a k) fun e => isI e fun n =>
    gE (ce ρ1) (fun q ρ2 => lk q ρ2 fun e2 => isI e2 fun b => ownW i ρ2 fun c2 m2 => gO (f c2 (.int k) (.int (g0 n b))) fun c' => setW ρ2 i (some (c', m2)) N) E) E) : gS (cAugS i f g0 ck ce ρ) N T E := by with_unfolding_all exact TNO.s_augS h
/-- a walk, by what holds behind each prefix -/
theorem for_inv {α : Type} (xs : List α) (f : α → D) (I : List α → Rho → Prop) {ds : List D} (hds : ds = xs.map f) (h0 : I [] ρ) (hs : ∀ pre x post ρ, xs = pre ++ x :: post → I pre ρ → gO (g (f x) ρ) fun ρ1 => gS (b ρ1) (I (pre ++ [x])) T E) (hN : ∀ ρ, I xs ρ → N ρ) : gS (forL g b ds ρ) N T E := by with_unfolding_all exact TNO.for_inv xs f I hds h0 hs hN
end
/-! targets -/
section
variable {N : Rho → Prop}
theorem t_nm (h : sto i (.val d) ρ N) : gO (gNm i d ρ) N := by with_unfolding_all exact TNO.t_nm h
theorem t_tp {n : Nat} {g : List D → Rho → Option Rho} (hl : ds.length = n) (h : gO (g ds ρ) N) : gO (gTp n g (.tuple ds) ρ) N := by with_unfolding_all exact TNO.t_tp hl h
theorem t_tie {t : Nat × Nat} {g : List D → Rho → Option Rho} (h : gO (g [.int (t.1 : Nat), .int (t.2 : Nat)] ρ) N) : gO (gTp 2 g (tieD t) ρ) N := by with_unfolding_all exact TNO.t_tie h
theorem t_nil (h : N ρ) : gO (gsNil [] ρ) N := by with_unfolding_all exact TNO.t_nil h
theorem t_cons {g : D → Rho → Option Rho} {r : List D → Rho → Option Rho} (h : gO (g d ρ) fun ρ1 => gO (r ds ρ1) N) : gO (gsCons g r (d :: ds) ρ) N := by with_unfolding_all exact TNO.t_cons h
theorem t_put {f : D → D → D → Option D} {ck : CE} (h : ownW i ρ fun _ _ => gE (ck ρ) (fun p ρ1 => fz1 p ρ1 fun k ρ2 => ownW i ρ2 fun c m => gO (f c k d) fun c' => setW ρ2 i (some (c', m)) N) (fun _ _ => False)) : gO (gPut i f ck d ρ) N := by with_unfolding_all exact TNO.t_put h
end
/-! comprehensions -/
section
variable {Q : Pl → Rho → Prop} {g : D → Rho → Option Rho} {t : CB} {e : CE} {vs : List Nat}
theorem elW_i {x : D} {P : Option D → Rho → Prop} (h : gO (g x ρ) fun ρ1 => gE (t ρ1) (fun b ρ2 => br b (gE (e ρ2) (fun p ρ3 => fz1 p ρ3 fun d ρ4 => wpd vs ρ4 (P (some d))) (fun _ _ => False)) (wpd vs ρ2 (P none))) (fun _ _ => False)) : elW g t e vs ρ x P := by with_unfolding_all exact TNO.elW_i h
theorem cp_map {α : Type} (xs : List α) (f out : α → D) {ds : List D} (hds : ds = xs.map f) (hl : xs.length ≤ 1000000) (hw : wipeOk ρ vs = true) (ew : wipeR ρ vs = ρ1)
    (hs : ∀ x ∈ xs, elW g t e vs ρ1 (f x) fun o ρ' => o = some (out x) ∧ ρ' = ρ1) (k : Q (.tmp (.list (xs.map out))) ρ) : cpW ds g t e vs ρ Q := by with_unfolding_all exact TNO.cp_map xs f out hds hl hw ew hs k
theorem cp_filter {α : Type} (xs : List α) (f : α → D) (out : α → Option D) {ds : List D} (hds : ds = xs.map f) (hl : xs.length ≤ 1000000) (hw : wipeOk ρ vs = true) (ew : wipeR ρ vs = ρ1)
    (hs : ∀ x ∈ xs, elW g t e vs ρ1 (f x) fun o ρ' => o = out x ∧ ρ' = ρ1) (k : Q (.tmp (.list (xs.filterMap out))) ρ) : cpW ds g t e vs ρ Q := by with_unfolding_all exact TNO.cp_filter xs f out hds hl hw ew hs k
end
/-! calls -/
section
variable {Q : Pl → Rho → Prop} {M : FM} {ps : List Pl} {as : List (D × Md)} {outs : List Slot} {x : Xc}
theorem c_rv (h : ps.all noSlot = true) (ha : argsOf ps ρ = some as) (hM : (M as).rv = some (d, false)) (k : Q (.val d) ρ) : gE (callM M ps ρ) Q E := by with_unfolding_all exact TNO.c_rv h ha hM k
theorem c_rvT (h : ps.all noSlot = true) (ha : argsOf ps ρ = some as) (hM : (M as).rv = some (d, true)) (k : Q (.tmp d) ρ) : gE (callM M ps ρ) Q E := by with_unfolding_all exact TNO.c_rvT h ha hM k
theorem c_gen (ha : argsOf ps ρ = some as) (nd : noDup ps = true) (hM : M as = .ok d false outs) (hg : gb ps outs 0 ρ = ρ1) (k : Q (.val d) ρ1) : gE (callM M ps ρ) Q E := by with_unfolding_all exact TNO.c_gen ha nd hM hg k
theorem c_genT (ha : argsOf ps ρ = some as) (nd : noDup ps = true) (hM : M as = .ok d true outs) (hg : gb ps outs 0 ρ = ρ1) (k : Q (.tmp d) ρ1) : gE (callM M ps ρ) Q E := by with_unfolding_all exact TNO.c_genT ha nd hM hg k
theorem c_draw {p : Pen} {m : Int} {md : Md} (hi : ρ[i]? = some (some (p.d, md))) (hm : md = .own ∨ md = .lent) (h0 : 0 < m ∧ m < 10000000000000000000000000000000000000000000000000000000000000000000000) (k : ∀ (v : Int) (p' : Pen), 0 ≤ v ∧ v < m → setW ρ i (some (p'.d, md)) fun ρ' => Q (.val (.int v)) ρ') : gE (callM MMDraw [.slot i, .val (.int m)] ρ) Q E := by with_unfolding_all exact TNO.c_draw hi hm h0 k
end
section
theorem c_pen {Q : Pl → Rho → Prop} {c : Int} (k : ∀ p : Pen, Q (.tmp p.d) ρ) : gE (callM MMPen [.val (.int c)] ρ) Q E := by with_unfolding_all exact TNO.c_pen k
end
/-! defs -/
section
variable {n m : Nat} {c : CS} {as : List (D × Md)} {fr : Bool} {r : FR} {o : List Slot} {x : Xc}
theorem gF_mk {T : D → Bool → List Slot → Prop} {E : Xc → List Slot → Prop} (hl : as.length = n) (h : gS (c (as.map some ++ List.replicate (m - n) none)) (fun ρ => T .none false (ρ.take n)) (fun d fr ρ => T d fr (ρ.take n)) (fun x ρ => E x (ρ.take n))) : gF (mkF n m c as) T E := by with_unfolding_all exact TNO.gF_mk hl h
theorem rv_gF (h : gF r (fun d' fr' _ => d' = d ∧ fr' = fr) (fun _ _ => False)) : r.rv = some (d, fr) := by with_unfolding_all exact TNO.rv_gF h
theorem ex_gF {T : D → Bool → List Slot → Prop} (h : gF r T (fun _ _ => False)) : ∃ d fr o, r = .ok d fr o ∧ T d fr o := by with_unfolding_all exact TNO.ex_gF h
end
end
/-! what operators give, asked for from the end -/
section
variable {Q : Pl → Prop} {i j : Int} {a b : List D} {P : D → D → Prop} {x : D}
theorem ty_i {T : String} {d : D} {A : Prop} (h : tyOk T d = true) (k : A) : tyOk T d = true ∧ A := by with_unfolding_all exact TNO.ty_i h k
theorem o_add (h : Q (.val (.int (i + j)))) : gO (opAdd (.int i) (.int j)) Q := by with_unfolding_all exact TNO.o_add h
theorem o_sub (h : Q (.val (.int (i - j)))) : gO (opSub (.int i) (.int j)) Q := by with_unfolding_all exact TNO.o_sub h
theorem o_neg (h : Q (.val (.int (-i)))) : gO (opNeg (.int i)) Q := by with_unfolding_all exact TNO.o_neg h
theorem o_mul (hb : (-1000000000 < i ∧ i < 1000000000) ∨ (-1000000000 < j ∧ j < 1000000000)) (h : Q (.val (.int (i * j)))) : gO (opMul (.int i) (.int j)) Q := by with_unfolding_all exact TNO.o_mul hb h
theorem o_mod (hb : 0 < j) (h : Q (.val (.int (i % j)))) : gO (opMod (.int i) (.int j)) Q := by with_unfolding_all exact TNO.o_mod hb h
theorem o_div (hb : 0 < j ∧ j < 1000000000) (h : Q (.val (.int (i / j)))) : gO (opDiv (.int i) (.int j)) Q := by with_unfolding_all exact TNO.o_div hb h
theorem o_ltG {f : Int → Int → Bool} (h : Q (.val (.bool (f i j)))) : gO (opLtG f (.int i) (.int j)) Q := by with_unfolding_all exact TNO.o_ltG h
theorem o_eqI (h : Q (.val (.bool (decide (i = j))))) : gO (opEq (.int i) (.int j)) Q := by with_unfolding_all exact TNO.o_eqI h
theorem o_neI (h : Q (.val (.bool (!decide (i = j))))) : gO (opNe (.int i) (.int j)) Q := by with_unfolding_all exact TNO.o_neI h
theorem o_eqB {a b : Bool} (h : Q (.val (.bool (a == b)))) : gO (opEq (.bool a) (.bool b)) Q := by with_unfolding_all exact TNO.o_eqB h
theorem o_neB {a b : Bool} (h : Q (.val (.bool (!(a == b))))) : gO (opNe (.bool a) (.bool b)) Q := by with_unfolding_all exact TNO.o_neB h
theorem o_eqL {a b : List Int} (h : Q (.val (.bool (decide (a = b))))) : gO (opEq (.list (a.map .int)) (.list (b.map .int))) Q := by with_unfolding_all exact TNO.o_eqL h
theorem o_neL {a b : List Int} (h : Q (.val (.bool (!decide (a = b))))) : gO (opNe (.list (a.map .int)) (.list (b.map .int))) Q := by with_unfolding_all exact TNO.o_neL h
theorem o_eqT {a b : List Int} (h : Q (.val (.bool (decide (a = b))))) : gO (opEq (.tuple (a.map .int)) (.tuple (b.map .int))) Q := by with_unfolding_all exact TNO.o_eqT h
theorem o_neT {a b : List Int} (h : Q (.val (.bool (!decide (a = b))))) : gO (opNe (.tuple (a.map .int)) (.tuple (b.map .int))) Q := by with_unfolding_all exact TNO.o_neT h
theorem o_isN (h : Q (.val (.bool (isNonD x)))) : gO (opIsN x .none) Q := by with_unfolding_all exact TNO.o_isN h
theorem o_notN (h : Q (.val (.bool (!isNonD x)))) : gO (opNotN x .none) Q := by with_unfolding_all exact TNO.o_notN h
theorem o_tup (h : Q (.val (.bool (isTupD x)))) : gO (opIsi "tuple" x) Q := by with_unfolding_all exact TNO.o_tup h
theorem o_lst (h : Q (.val (.bool (isLstD x)))) : gO (opIsi "list" x) Q := by with_unfolding_all exact TNO.o_lst h
theorem o_bool (h : Q (.val (.bool (isBoolD x)))) : gO (opIsi "bool" x) Q := by with_unfolding_all exact TNO.o_bool h
theorem o_lenM {α : Type} {xs : List α} {f : α → D} (h : Q (.val (.int (xs.length : Nat)))) : gO (fLen [.list (xs.map f)]) Q := by with_unfolding_all exact TNO.o_lenM h
theorem o_lenMt {α : Type} {xs : List α} {f : α → D} (h : Q (.val (.int (xs.length : Nat)))) : gO (fLen [.tuple (xs.map f)]) Q := by with_unfolding_all exact TNO.o_lenMt h
theorem o_lenL (h : Q (.val (.int (a.length : Nat)))) : gO (fLen [.list a]) Q := by with_unfolding_all exact TNO.o_lenL h
theorem o_lenT (h : Q (.val (.int (a.length : Nat)))) : gO (fLen [.tuple a]) Q := by with_unfolding_all exact TNO.o_lenT h
theorem o_intI (h : Q (.val (.int i))) : gO (fInt [.int i]) Q := by with_unfolding_all exact TNO.o_intI h
theorem o_intB {b : Bool} (h : Q (.val (.int (if b = true then 1 else 0)))) : gO (fInt [.bool b]) Q := by with_unfolding_all exact TNO.o_intB h
theorem o_abs (h : Q (.val (.int (absI i)))) : gO (fAbs [.int i]) Q := by with_unfolding_all exact TNO.o_abs h
theorem o_max2 (h : Q (.val (.int (max i j)))) : gO (fMax2 [.int i, .int j]) Q := by with_unfolding_all exact TNO.o_max2 h
theorem o_min2 (h : Q (.val (.int (min i j)))) : gO (fMin2 [.int i, .int j]) Q := by with_unfolding_all exact TNO.o_min2 h
theorem o_tupL (h : Q (.val (.tuple a))) : gO (fTuple [.list a]) Q := by with_unfolding_all exact TNO.o_tupL h
theorem o_tupT (h : Q (.val (.tuple a))) : gO (fTuple [.tuple a]) Q := by with_unfolding_all exact TNO.o_tupT h
theorem o_lstL (h : Q (.tmp (.list a))) : gO (fListA [.list a]) Q := by with_unfolding_all exact TNO.o_lstL h
theorem o_lstT (h : Q (.tmp (.list a))) : gO (fListA [.tuple a]) Q := by with_unfolding_all exact TNO.o_lstT h
theorem o_sumL {ns : List Int} (h : Q (.val (.int ns.sum))) : gO (fSum [.list (ns.map .int)]) Q := by with_unfolding_all exact TNO.o_sumL h
theorem o_sumT {ns : List Int} (h : Q (.val (.int ns.sum))) : gO (fSum [.tuple (ns.map .int)]) Q := by with_unfolding_all exact TNO.o_sumT h
theorem o_sortL {ns : List Int} (hl : ns.length ≤ 16777216) (h : Q (.tmp (.list ((sortI ns).map .int)))) : gO (fSorted [.list (ns.map .int)]) Q := by with_unfolding_all exact TNO.o_sortL hl h
theorem o_sortT {ns : List Int} (hl : ns.length ≤ 16777216) (h : Q (.tmp (.list ((sortI ns).map .int)))) : gO (fSorted [.tuple (ns.map .int)]) Q := by with_unfolding_all exact TNO.o_sortT hl h
theorem o_setL {ns : List Int} (hl : ns.length ≤ 4000) (h : Q (.val (.int ((ddI ns).length : Nat)))) : gO (fLenSet (.list (ns.map .int))) Q := by with_unfolding_all exact TNO.o_setL hl h
theorem o_setT {ns : List Int} (hl : ns.length ≤ 4000) (h : Q (.val (.int ((ddI ns).length : Nat)))) : gO (fLenSet (.tuple (ns.map .int))) Q := by with_unfolding_all exact TNO.o_setT hl h
theorem o_webN {n : Nat} {ts : List (Nat × Nat)} (h : Q (.val (.int (n : Nat)))) : gO (opIx (webD n ts) (.int 0)) Q := by with_unfolding_all exact TNO.o_webN h
theorem o_webT {n : Nat} {ts : List (Nat × Nat)} (h : Q (.val (.tuple (ts.map tieD)))) : gO (opIx (webD n ts) (.int 1)) Q := by with_unfolding_all exact TNO.o_webT h
theorem o_seqL {Q : List D → Prop} (h : Q a) : gO (seqD (.list a)) Q := by with_unfolding_all exact TNO.o_seqL h
theorem o_seqT {Q : List D → Prop} (h : Q a) : gO (seqD (.tuple a)) Q := by with_unfolding_all exact TNO.o_seqT h
theorem o_sqL {Q : List D → Prop} (h : Q a) : gO (seqOf (.list a)) Q := by with_unfolding_all exact TNO.o_sqL h
theorem o_sqT {Q : List D → Prop} (h : Q a) : gO (seqOf (.tuple a)) Q := by with_unfolding_all exact TNO.o_sqT h
theorem o_allM {α : Type} {xs : List α} {f : α → Bool} (h : Q (.val (.bool (xs.all f)))) : gO (fAll [.list (xs.map fun x => .bool (f x))]) Q := by with_unfolding_all exact TNO.o_allM h
theorem o_addT (hl : a.length + b.length ≤ 16777216) (h : Q (.val (.tuple (a ++ b)))) : gO (opAdd (.tuple a) (.tuple b)) Q := by with_unfolding_all exact TNO.o_addT hl h
theorem o_addL (hl : a.length + b.length ≤ 16777216) (h : Q (.tmp (.list (a ++ b)))) : gO (opAdd (.list a) (.list b)) Q := by with_unfolding_all exact TNO.o_addL hl h
theorem o_slL {lo hi : Option Int} (h : Q (.tmp (.list (cutL a lo hi)))) : gO (opSl (.list a) lo hi) Q := by with_unfolding_all exact TNO.o_slL h
theorem o_slT {lo hi : Option Int} (h : Q (.val (.tuple (cutL a lo hi)))) : gO (opSl (.tuple a) lo hi) Q := by with_unfolding_all exact TNO.o_slT h
theorem o_app (hl : a.length < 16777216) (h : P (.list (a ++ [x])) .none) : gP (fAppend (.list a) [x]) P := by with_unfolding_all exact TNO.o_app hl h
theorem o_extL (hl : a.length + b.length ≤ 16777216) (h : P (.list (a ++ b)) .none) : gP (fExtend (.list a) [.list b]) P := by with_unfolding_all exact TNO.o_extL hl h
theorem o_extT (hl : a.length + b.length ≤ 16777216) (h : P (.list (a ++ b)) .none) : gP (fExtend (.list a) [.tuple b]) P := by with_unfolding_all exact TNO.o_extT hl h
theorem o_eqS {a b : Str} (ha : PyData.strOk a = true) (hb : PyData.strOk b = true) (h : Q (.val (.bool (a == b)))) : gO (opEq (.str a) (.str b)) Q := by with_unfolding_all exact TNO.o_eqS ha hb h
theorem o_neS {a b : Str} (ha : PyData.strOk a = true) (hb : PyData.strOk b = true) (h : Q (.val (.bool (!(a == b))))) : gO (opNe (.str a) (.str b)) Q := by with_unfolding_all exact TNO.o_neS ha hb h
theorem o_strS {a : Str} (h : Q (.val (.bool true))) : gO (opIsi "str" (.str a)) Q := by with_unfolding_all exact TNO.o_strS h
theorem o_allT {α : Type} {xs : List α} (h : Q (.val (.bool true))) : gO (fAll [.list (xs.map fun _ => PyData.bool true)]) Q := by with_unfolding_all exact TNO.o_allT h
theorem ix_rfl {x y : D} {r : Pl} (h : opIx x y = some r) (k : Q r) : gO (opIx x y) Q := by with_unfolding_all exact TNO.ix_rfl h k
theorem put_rfl {c k d c' : D} {Q : D → Prop} (h : putA c k d = some c') (q : Q c') : gO (putA c k d) Q := by with_unfolding_all exact TNO.put_rfl h q
end
theorem gO_of_mono {α : Type} {o : Option α} {P P' : α → Prop} (h : gO o P) (k : ∀ x, P x → P' x) : gO o P' := by with_unfolding_all exact TNO.gO_of_mono h k
end TN
local macro_rules | `(tactic| array_mem_dec) => `(tactic| ((with_reducible apply TN.br_f); (decide +kernel)))
local macro_rules | `(tactic| array_mem_dec) => `(tactic| ((with_reducible apply TN.br_t); (decide +kernel)))
local macro_rules | `(tactic| array_mem_dec) => `(tactic| ((with_reducible apply TN.br_f); exact rfl))
local macro_rules | `(tactic| array_mem_dec) => `(tactic| ((with_reducible apply TN.br_t); exact rfl))
local macro_rules | `(tactic| array_mem_dec) => `(tactic| ((with_reducible apply TN.put_rfl); exact rfl))
local macro_rules | `(tactic| array_mem_dec) => `(tactic| ((with_reducible apply TN.ix_rfl); exact rfl))
local macro_rules | `(tactic| array_mem_dec) => `(tactic| ((with_reducible apply TN.setB_i); (repeat (first | exact TN.back_nil | ((apply TN.back_cons); exact rfl) | exact TN.st0 | apply TN.stS))))
local macro_rules | `(tactic| array_mem_dec) => `(tactic| ((with_reducible apply TN.wpd_i); (first | exact rfl | (repeat (first | exact TN.wOk_nil | ((apply TN.wOk_cons); exact rfl; (first | exact TN.okW_none | exact TN.okW_fz | exact TN.okW_jk | assumption))))); (repeat (first | exact TN.wipe_nil | apply TN.wipe_cons | exact TN.st0 | apply TN.stS))))
local macro_rules | `(tactic| array_mem_dec) => `(tactic| (with_reducible apply TN.w_newT))
local macro_rules | `(tactic| array_mem_dec) => `(tactic| (with_reducible apply TN.w_newK))
local macro_rules | `(tactic| array_mem_dec) => `(tactic| ((with_reducible apply TN.rg_i); omega))
local macro_rules | `(tactic| array_mem_dec) => `(tactic| (with_reducible apply TN.w_rg2))
local macro_rules | `(tactic| array_mem_dec) => `(tactic| (with_reducible apply TN.w_rg1))
local macro_rules | `(tactic| array_mem_dec) => `(tactic| (with_reducible apply TN.w_tupRg))
local macro_rules | `(tactic| array_mem_dec) => `(tactic| (with_reducible apply TN.w_lstRg))
local macro_rules | `(tactic| array_mem_dec) => `(tactic| (with_reducible apply TN.prW_i))
local macro_rules | `(tactic| array_mem_dec) => `(tactic| (with_reducible apply TN.w_ch3))
local macro_rules | `(tactic| array_mem_dec) => `(tactic| (with_reducible apply TN.w_chE))
local macro_rules | `(tactic| array_mem_dec) => `(tactic| (with_reducible apply TN.w_chI))
local macro_rules | `(tactic| array_mem_dec) => `(tactic| ((with_reducible apply TN.ty_i); exact rfl))
local macro_rules | `(tactic| array_mem_dec) => `(tactic| (with_reducible apply TN.w_mt))
local macro_rules | `(tactic| array_mem_dec) => `(tactic| (with_reducible apply TN.w_part))
local macro_rules | `(tactic| array_mem_dec) => `(tactic| (with_reducible apply TN.w_noPart))
local macro_rules | `(tactic| array_mem_dec) => `(tactic| (with_reducible apply TN.w_sl))
local macro_rules | `(tactic| array_mem_dec) => `(tactic| ((with_reducible apply TN.tryW_i); (decide +kernel); (first | exact rfl | exact TN.can_ok rfl (by assumption) | exact TN.can_ok rfl TN.okS_jk | exact TN.can_ok rfl (TN.okS_md (by assumption))); (repeat (first | exact TN.st0 | apply TN.stS))))
local macro_rules | `(tactic| array_mem_dec) => `(tactic| (with_reducible apply TN.s_try))
local macro_rules | `(tactic| array_mem_dec) => `(tactic| (with_reducible apply TN.s_raiseA))
local macro_rules | `(tactic| array_mem_dec) => `(tactic| (with_reducible apply TN.s_raise))
local macro_rules | `(tactic| array_mem_dec) => `(tactic| (with_reducible apply TN.s_par))
local macro_rules | `(tactic| array_mem_dec) => `(tactic| ((with_reducible apply TN.putL_rfl); exact rfl))
local macro_rules | `(tactic| array_mem_dec) => `(tactic| ((with_reducible apply TN.at_rfl); exact rfl))
local macro_rules | `(tactic| array_mem_dec) => `(tactic| (with_reducible apply TN.lsD_l))
local macro_rules | `(tactic| array_mem_dec) => `(tactic| (with_reducible apply TN.s_augS))
local macro_rules | `(tactic| array_mem_dec) => `(tactic| (with_reducible apply TN.s_aug))
local macro_rules | `(tactic| array_mem_dec) => `(tactic| (with_reducible apply TN.s_unp))
local macro_rules | `(tactic| array_mem_dec) => `(tactic| (with_reducible apply TN.t_put))
local macro_rules | `(tactic| array_mem_dec) => `(tactic| (with_reducible apply TN.t_cons))
local macro_rules | `(tactic| array_mem_dec) => `(tactic| (with_reducible apply TN.t_nil))
local macro_rules | `(tactic| array_mem_dec) => `(tactic| (with_reducible apply TN.t_tie))
local macro_rules | `(tactic| array_mem_dec) => `(tactic| ((with_reducible apply TN.t_tp); exact rfl))
local macro_rules | `(tactic| array_mem_dec) => `(tactic| (with_reducible apply TN.t_nm))
local macro_rules | `(tactic| array_mem_dec) => `(tactic| (with_reducible apply TN.o_slT))
local macro_rules | `(tactic| array_mem_dec) => `(tactic| (with_reducible apply TN.o_slL))
local macro_rules | `(tactic| array_mem_dec) => `(tactic| ((with_reducible apply TN.o_addL); (first | omega | (simp only [List.length_append, List.length_cons, List.length_nil, List.length_map, List.length_range, List.length_replicate, List.length_reverse, List.length_take, List.length_drop, List.length_set]; omega) | (simp; omega))))
local macro_rules | `(tactic| array_mem_dec) => `(tactic| ((with_reducible apply TN.o_addT); (first | omega | (simp only [List.length_append, List.length_cons, List.length_nil, List.length_map, List.length_range, List.length_replicate, List.length_reverse, List.length_take, List.length_drop, List.length_set]; omega) | (simp; omega))))
local macro_rules | `(tactic| array_mem_dec) => `(tactic| ((with_reducible apply TN.o_neS); (decide +kernel); (decide +kernel)))
local macro_rules | `(tactic| array_mem_dec) => `(tactic| ((with_reducible apply TN.o_eqS); (decide +kernel); (decide +kernel)))
local macro_rules | `(tactic| array_mem_dec) => `(tactic| (with_reducible apply TN.o_strS))
local macro_rules | `(tactic| array_mem_dec) => `(tactic| (with_reducible apply TN.o_allM))
local macro_rules | `(tactic| array_mem_dec) => `(tactic| (with_reducible apply TN.o_allT))
local macro_rules | `(tactic| array_mem_dec) => `(tactic| (with_reducible apply TN.o_webT))
local macro_rules | `(tactic| array_mem_dec) => `(tactic| (with_reducible apply TN.o_webN))
local macro_rules | `(tactic| array_mem_dec) => `(tactic| ((with_reducible apply TN.o_setT); (first | omega | (simp only [List.length_append, List.length_cons, List.length_nil, List.length_map, List.length_range, List.length_replicate, List.length_reverse, List.length_take, List.length_drop, List.length_set]; omega) | (simp; omega))))
local macro_rules | `(tactic| array_mem_dec) => `(tactic| ((with_reducible apply TN.o_setL); (first | omega | (simp only [List.length_append, List.length_cons, List.length_nil, List.length_map, List.length_range, List.length_replicate, List.length_reverse, List.length_take, List.length_drop, List.length_set]; omega) | (simp; omega))))
local macro_rules | `(tactic| array_mem_dec) => `(tactic| ((with_reducible apply TN.o_sortT); (first | omega | (simp only [List.length_append, List.length_cons, List.length_nil, List.length_map, List.length_range, List.length_replicate, List.length_reverse, List.length_take, List.length_drop, List.length_set]; omega) | (simp; omega))))
local macro_rules | `(tactic| array_mem_dec) => `(tactic| ((with_reducible apply TN.o_sortL); (first | omega | (simp only [List.length_append, List.length_cons, List.length_nil, List.length_map, List.length_range, List.length_replicate, List.length_reverse, List.length_take, List.length_drop, List.length_set]; omega) | (simp; omega))))
local macro_rules | `(tactic| array_mem_dec) => `(tactic| (with_reducible apply TN.o_sumT))
local macro_rules | `(tactic| array_mem_dec) => `(tactic| (with_reducible apply TN.o_sumL))
local macro_rules | `(tactic| array_mem_dec) => `(tactic| (with_reducible apply TN.o_lstT))
local macro_rules | `(tactic| array_mem_dec) => `(tactic| (with_reducible apply TN.o_lstL))
local macro_rules | `(tactic| array_mem_dec) => `(tactic| (with_reducible apply TN.o_tupT))
local macro_rules | `(tactic| array_mem_dec) => `(tactic| (with_reducible apply TN.o_tupL))
local macro_rules | `(tactic| array_mem_dec) => `(tactic| (with_reducible apply TN.o_min2))
local macro_rules | `(tactic| array_mem_dec) => `(tactic| (with_reducible apply TN.o_max2))
local macro_rules | `(tactic| array_mem_dec) => `(tactic| (with_reducible apply TN.o_abs))
local macro_rules | `(tactic| array_mem_dec) => `(tactic| (with_reducible apply TN.o_intB))
local macro_rules | `(tactic| array_mem_dec) => `(tactic| (with_reducible apply TN.o_intI))
local macro_rules | `(tactic| array_mem_dec) => `(tactic| (with_reducible apply TN.o_lenT))
local macro_rules | `(tactic| array_mem_dec) => `(tactic| (with_reducible apply TN.o_lenL))
local macro_rules | `(tactic| array_mem_dec) => `(tactic| (with_reducible apply TN.o_lenMt))
local macro_rules | `(tactic| array_mem_dec) => `(tactic| (with_reducible apply TN.o_lenM))
local macro_rules | `(tactic| array_mem_dec) => `(tactic| (with_reducible apply TN.o_bool))
local macro_rules | `(tactic| array_mem_dec) => `(tactic| (with_reducible apply TN.o_lst))
local macro_rules | `(tactic| array_mem_dec) => `(tactic| (with_reducible apply TN.o_tup))
local macro_rules | `(tactic| array_mem_dec) => `(tactic| (with_reducible apply TN.o_notN))
local macro_rules | `(tactic| array_mem_dec) => `(tactic| (with_reducible apply TN.o_isN))
local macro_rules | `(tactic| array_mem_dec) => `(tactic| (with_reducible apply TN.o_neT))
local macro_rules | `(tactic| array_mem_dec) => `(tactic| (with_reducible apply TN.o_eqT))
local macro_rules | `(tactic| array_mem_dec) => `(tactic| (with_reducible apply TN.o_neL))
local macro_rules | `(tactic| array_mem_dec) => `(tactic| (with_reducible apply TN.o_eqL))
local macro_rules | `(tactic| array_mem_dec) => `(tactic| (with_reducible apply TN.o_neB))
local macro_rules | `(tactic| array_mem_dec) => `(tactic| (with_reducible apply TN.o_eqB))
local macro_rules | `(tactic| array_mem_dec) => `(tactic| (with_reducible apply TN.o_neI))
local macro_rules | `(tactic| array_mem_dec) => `(tactic| (with_reducible apply TN.o_eqI))
local macro_rules | `(tactic| array_mem_dec) => `(tactic| (with_reducible apply TN.o_ltG))
local macro_rules | `(tactic| array_mem_dec) => `(tactic| ((with_reducible apply TN.o_div); omega))
local macro_rules | `(tactic| array_mem_dec) => `(tactic| ((with_reducible apply TN.o_mod); omega))
local macro_rules | `(tactic| array_mem_dec) => `(tactic| ((with_reducible apply TN.o_mul); omega))
local macro_rules | `(tactic| array_mem_dec) => `(tactic| (with_reducible apply TN.o_neg))
local macro_rules | `(tactic| array_mem_dec) => `(tactic| (with_reducible apply TN.o_sub))
local macro_rules | `(tactic| array_mem_dec) => `(tactic| (with_reducible apply TN.o_add))
local macro_rules | `(tactic| array_mem_dec) => `(tactic| ((with_reducible apply TN.o_extT); (first | omega | (simp only [List.length_append, List.length_cons, List.length_nil, List.length_map, List.length_range, List.length_replicate, List.length_reverse, List.length_take, List.length_drop, List.length_set]; omega) | (simp; omega))))
local macro_rules | `(tactic| array_mem_dec) => `(tactic| ((with_reducible apply TN.o_extL); (first | omega | (simp only [List.length_append, List.length_cons, List.length_nil, List.length_map, List.length_range, List.length_replicate, List.length_reverse, List.length_take, List.length_drop, List.length_set]; omega) | (simp; omega))))
local macro_rules | `(tactic| array_mem_dec) => `(tactic| ((with_reducible apply TN.o_app); (first | omega | (simp only [List.length_append, List.length_cons, List.length_nil, List.length_map, List.length_range, List.length_replicate, List.length_reverse, List.length_take, List.length_drop, List.length_set]; omega) | (simp; omega))))
local macro_rules | `(tactic| array_mem_dec) => `(tactic| ((with_reducible apply TN.setW_i); (repeat (first | exact TN.st0 | apply TN.stS))))
local macro_rules | `(tactic| array_mem_dec) => `(tactic| ((with_reducible apply TN.ownW_lent); exact rfl))
local macro_rules | `(tactic| array_mem_dec) => `(tactic| ((with_reducible apply TN.ownW_own); exact rfl))
local macro_rules | `(tactic| array_mem_dec) => `(tactic| ((with_reducible apply TN.w_mutL); exact rfl))
local macro_rules | `(tactic| array_mem_dec) => `(tactic| (with_reducible apply TN.o_sqT))
local macro_rules | `(tactic| array_mem_dec) => `(tactic| (with_reducible apply TN.o_sqL))
local macro_rules | `(tactic| array_mem_dec) => `(tactic| (with_reducible apply TN.o_seqT))
local macro_rules | `(tactic| array_mem_dec) => `(tactic| (with_reducible apply TN.o_seqL))
local macro_rules | `(tactic| array_mem_dec) => `(tactic| ((with_reducible apply TN.gP_of); (with_reducible assumption)))
local macro_rules | `(tactic| array_mem_dec) => `(tactic| ((with_reducible apply TN.gO_of); (with_reducible assumption)))
local macro_rules | `(tactic| array_mem_dec) => `(tactic| (with_reducible apply TN.elW_i))
local macro_rules | `(tactic| array_mem_dec) => `(tactic| (with_reducible apply TN.w_comp))
local macro_rules | `(tactic| array_mem_dec) => `(tactic| (with_reducible apply TN.w_zip))
local macro_rules | `(tactic| array_mem_dec) => `(tactic| (with_reducible apply TN.w_rev))
local macro_rules | `(tactic| array_mem_dec) => `(tactic| (with_reducible apply TN.w_enum))
local macro_rules | `(tactic| array_mem_dec) => `(tactic| ((with_reducible apply TN.rf_i); omega))
local macro_rules | `(tactic| array_mem_dec) => `(tactic| (with_reducible apply TN.w_r3))
local macro_rules | `(tactic| array_mem_dec) => `(tactic| (with_reducible apply TN.w_r2))
local macro_rules | `(tactic| array_mem_dec) => `(tactic| (with_reducible apply TN.w_r1))
local macro_rules | `(tactic| array_mem_dec) => `(tactic| (with_reducible apply TN.w_it))
local macro_rules | `(tactic| array_mem_dec) => `(tactic| (with_reducible apply TN.s_for))
local macro_rules | `(tactic| array_mem_dec) => `(tactic| (with_reducible apply TN.s_retN))
local macro_rules | `(tactic| array_mem_dec) => `(tactic| (with_reducible apply TN.s_skip))
local macro_rules | `(tactic| array_mem_dec) => `(tactic| (with_reducible apply TN.s_drop))
local macro_rules | `(tactic| array_mem_dec) => `(tactic| ((with_reducible apply TN.rt_lent); exact rfl; (repeat (first | exact TN.st0 | apply TN.stS))))
local macro_rules | `(tactic| array_mem_dec) => `(tactic| ((with_reducible apply TN.rt_own); exact rfl; (repeat (first | exact TN.st0 | apply TN.stS))))
local macro_rules | `(tactic| array_mem_dec) => `(tactic| (with_reducible apply TN.rt_tmp))
local macro_rules | `(tactic| array_mem_dec) => `(tactic| (with_reducible apply TN.rt_val))
local macro_rules | `(tactic| array_mem_dec) => `(tactic| (with_reducible apply TN.s_ret))
local macro_rules | `(tactic| array_mem_dec) => `(tactic| (with_reducible apply TN.fzA_cons))
local macro_rules | `(tactic| array_mem_dec) => `(tactic| (with_reducible apply TN.fzA_nil))
local macro_rules | `(tactic| array_mem_dec) => `(tactic| ((with_reducible apply TN.fz1_lent); exact rfl; (repeat (first | exact TN.st0 | apply TN.stS))))
local macro_rules | `(tactic| array_mem_dec) => `(tactic| ((with_reducible apply TN.fz1_own); exact rfl; (repeat (first | exact TN.st0 | apply TN.stS))))
local macro_rules | `(tactic| array_mem_dec) => `(tactic| (with_reducible apply TN.fz1_tmp))
local macro_rules | `(tactic| array_mem_dec) => `(tactic| (with_reducible apply TN.fz1_val))
local macro_rules | `(tactic| array_mem_dec) => `(tactic| ((with_reducible apply TN.lenW_i); (repeat (first | exact TN.len_nil | apply TN.len_cons))))
local macro_rules | `(tactic| array_mem_dec) => `(tactic| (with_reducible apply TN.w_lst))
local macro_rules | `(tactic| array_mem_dec) => `(tactic| (with_reducible apply TN.w_tup))
local macro_rules | `(tactic| array_mem_dec) => `(tactic| (with_reducible apply TN.w_ite))
local macro_rules | `(tactic| array_mem_dec) => `(tactic| (with_reducible apply TN.w_notV))
local macro_rules | `(tactic| array_mem_dec) => `(tactic| (with_reducible apply TN.w_orV))
local macro_rules | `(tactic| array_mem_dec) => `(tactic| (with_reducible apply TN.w_andV))
local macro_rules | `(tactic| array_mem_dec) => `(tactic| (with_reducible apply TN.w_true))
local macro_rules | `(tactic| array_mem_dec) => `(tactic| (with_reducible apply TN.w_not))
local macro_rules | `(tactic| array_mem_dec) => `(tactic| (with_reducible apply TN.w_or))
local macro_rules | `(tactic| array_mem_dec) => `(tactic| (with_reducible apply TN.w_and))
local macro_rules | `(tactic| array_mem_dec) => `(tactic| (with_reducible apply TN.w_fn))
local macro_rules | `(tactic| array_mem_dec) => `(tactic| (with_reducible apply TN.w_un))
local macro_rules | `(tactic| array_mem_dec) => `(tactic| ((with_reducible apply TN.c_draw); exact rfl; (first | exact Or.inl rfl | exact Or.inr rfl); omega))
local macro_rules | `(tactic| array_mem_dec) => `(tactic| (with_reducible apply TN.c_pen))
local macro_rules | `(tactic| array_mem_dec) => `(tactic| ((with_reducible apply TN.br_p); (with_reducible exact rfl)))
local macro_rules | `(tactic| array_mem_dec) => `(tactic| ((with_reducible apply TN.br_n); omega))
local macro_rules | `(tactic| array_mem_dec) => `(tactic| ((with_reducible apply TN.br_p); omega))
local macro_rules | `(tactic| array_mem_dec) => `(tactic| ((with_reducible apply TN.br_f); (with_reducible assumption)))
local macro_rules | `(tactic| array_mem_dec) => `(tactic| ((with_reducible apply TN.br_t); (with_reducible assumption)))
local macro_rules | `(tactic| array_mem_dec) => `(tactic| (with_reducible apply TN.br_or))
local macro_rules | `(tactic| array_mem_dec) => `(tactic| (with_reducible apply TN.br_and))
local macro_rules | `(tactic| array_mem_dec) => `(tactic| ((with_reducible apply TN.br_sT); (decide +kernel)))
local macro_rules | `(tactic| array_mem_dec) => `(tactic| ((with_reducible apply TN.br_sF); (decide +kernel)))
local macro_rules | `(tactic| array_mem_dec) => `(tactic| (with_reducible apply TN.br_not))
local macro_rules | `(tactic| array_mem_dec) => `(tactic| (with_reducible apply TN.br_false))
local macro_rules | `(tactic| array_mem_dec) => `(tactic| (with_reducible apply TN.br_true))
local macro_rules | `(tactic| array_mem_dec) => `(tactic| ((with_reducible apply TN.sto_lent); exact rfl; (repeat (first | exact TN.st0 | apply TN.stS)); (first | exact rfl | exact TN.can_ok rfl (by assumption) | exact TN.can_ok rfl TN.okS_jk | exact TN.can_ok rfl (TN.okS_md (by assumption))); (repeat (first | exact TN.st0 | apply TN.stS))))
local macro_rules | `(tactic| array_mem_dec) => `(tactic| ((with_reducible apply TN.sto_own); exact rfl; (repeat (first | exact TN.st0 | apply TN.stS)); (first | exact rfl | exact TN.can_ok rfl (by assumption) | exact TN.can_ok rfl TN.okS_jk | exact TN.can_ok rfl (TN.okS_md (by assumption))); (repeat (first | exact TN.st0 | apply TN.stS))))
local macro_rules | `(tactic| array_mem_dec) => `(tactic| ((with_reducible apply TN.sto_tmp); (first | exact rfl | exact TN.can_ok rfl (by assumption) | exact TN.can_ok rfl TN.okS_jk | exact TN.can_ok rfl (TN.okS_md (by assumption))); (repeat (first | exact TN.st0 | apply TN.stS))))
local macro_rules | `(tactic| array_mem_dec) => `(tactic| ((with_reducible apply TN.sto_val); (first | exact rfl | exact TN.can_ok rfl (by assumption) | exact TN.can_ok rfl TN.okS_jk | exact TN.can_ok rfl (TN.okS_md (by assumption))); (repeat (first | exact TN.st0 | apply TN.stS))))
local macro_rules | `(tactic| array_mem_dec) => `(tactic| (with_reducible apply TN.s_set))
local macro_rules | `(tactic| array_mem_dec) => `(tactic| (with_reducible apply TN.s_if))
local macro_rules | `(tactic| array_mem_dec) => `(tactic| (with_reducible apply TN.w_tst))
local macro_rules | `(tactic| array_mem_dec) => `(tactic| (with_reducible apply TN.isI_i))
local macro_rules | `(tactic| array_mem_dec) => `(tactic| (with_reducible apply TN.isB_b))
local macro_rules | `(tactic| array_mem_dec) => `(tactic| (with_reducible apply TN.lkA_cons))
local macro_rules | `(tactic| array_mem_dec) => `(tactic| (with_reducible apply TN.lkA_nil))
local macro_rules | `(tactic| array_mem_dec) => `(tactic| (with_reducible apply TN.lk_tmp))
local macro_rules | `(tactic| array_mem_dec) => `(tactic| ((with_reducible apply TN.lk_slot); exact rfl))
local macro_rules | `(tactic| array_mem_dec) => `(tactic| (with_reducible apply TN.lk_val))
local macro_rules | `(tactic| array_mem_dec) => `(tactic| (with_reducible apply TN.w_call))
local macro_rules | `(tactic| array_mem_dec) => `(tactic| (with_reducible apply TN.w_nil))
local macro_rules | `(tactic| array_mem_dec) => `(tactic| (with_reducible apply TN.w_cons))
local macro_rules | `(tactic| array_mem_dec) => `(tactic| ((with_reducible apply TN.lk_any); (with_reducible assumption); exact rfl))
local macro_rules | `(tactic| array_mem_dec) => `(tactic| ((with_reducible apply TN.w_any2); exact rfl; (with_reducible assumption); intro _ _))
local macro_rules | `(tactic| array_mem_dec) => `(tactic| ((with_reducible apply TN.w_any); exact rfl; (with_reducible assumption); intro _ _))
local macro_rules | `(tactic| array_mem_dec) => `(tactic| ((with_reducible apply TN.w_lz); exact rfl))
local macro_rules | `(tactic| array_mem_dec) => `(tactic| ((with_reducible apply TN.w_lent); exact rfl))
local macro_rules | `(tactic| array_mem_dec) => `(tactic| ((with_reducible apply TN.w_own); exact rfl))
local macro_rules | `(tactic| array_mem_dec) => `(tactic| (with_reducible apply TN.w_lit))
local macro_rules | `(tactic| array_mem_dec) => `(tactic| ((with_reducible apply TN.w_fz); exact rfl))
local macro_rules | `(tactic| array_mem_dec) => `(tactic| (with_reducible apply TN.w_bin))
local macro_rules | `(tactic| array_mem_dec) => `(tactic| (with_reducible apply TN.s_seq))
namespace TN
open PySem PySem.Spec PyProof.Rows L2
section
variable {ρ ρ1 : Rho} {N : Rho → Prop} {T : D → Bool → Rho → Prop} {E : Xc → Rho → Prop} {g : D → Rho → Option Rho} {b : CS}
theorem for_rng {e : Int} (n : Nat) (I : Nat → Rho → Prop) (he : e = (n : Nat)) (h0 : I 0 ρ) (hs : ∀ k ρ, k < n → I k ρ → gO (g (.int (k : Nat)) ρ) fun ρ1 => gS (b ρ1) (I (k + 1)) T E) (hN : ∀ ρ, I n ρ → N ρ) : gS (forL g b (rgD 0 e) ρ) N T E := by
  subst he
  refine for_inv (List.range n) (fun (k : Nat) => .int (k : Nat)) (fun pre ρ => I pre.length ρ) (rgD_nat n) h0 (fun pre x post ρ hE hI => ?_) fun ρ h => hN ρ (by rw [List.length_range] at h; exact h)
  obtain ⟨rfl, hx⟩ := rng_at hE
  refine gO_of_mono (hs pre.length ρ hx hI) fun ρ1 h => ?_
  rw [List.length_append]; exact h
theorem for_rng2 {a e : Int} (lo n : Nat) (I : Nat → Rho → Prop) (ha : a = (lo : Nat)) (he : e = ((lo + n : Nat) : Int)) (h0 : I 0 ρ) (hs : ∀ k ρ, k < n → I k ρ → gO (g (.int ((lo + k : Nat) : Int)) ρ) fun ρ1 => gS (b ρ1) (I (k + 1)) T E) (hN : ∀ ρ, I n ρ → N ρ) : gS (forL g b (rgD a e) ρ) N T E := by
  subst ha he
  refine for_inv (List.range n) (fun (k : Nat) => .int ((lo + k : Nat) : Int)) (fun pre ρ => I pre.length ρ) ?_ h0 (fun pre x post ρ hE hI => ?_) fun ρ h => hN ρ (by rw [List.length_range] at h; exact h)
  · unfold rgD
    rw [show (((lo + n : Nat) : Int) - (lo : Nat)).toNat = n by omega]
    refine List.map_congr_left fun k _ => ?_
    rw [Int.natCast_add]
  · obtain ⟨rfl, hx⟩ := rng_at hE
    refine gO_of_mono (hs pre.length ρ hx hI) fun ρ1 h => ?_
    rw [List.length_append]; exact h
theorem cp_rng {Q : Pl → Rho → Prop} {t : CB} {c : CE} {vs : List Nat} {e : Int} (n : Nat) (out : Nat → D) (he : e = (n : Nat)) (hl : n ≤ 1000000) (hw : wipeOk ρ vs = true) (ew : wipeR ρ vs = ρ1)
    (hs : ∀ k, k < n → elW g t c vs ρ1 (.int (k : Nat)) fun o ρ' => o = some (out k) ∧ ρ' = ρ1) (k : Q (.tmp (.list ((List.range n).map out))) ρ) : cpW (rgD 0 e) g t c vs ρ Q := by
  subst he
  exact cp_map (List.range n) (fun (k : Nat) => .int (k : Nat)) out (rgD_nat n) (by simpa using hl) hw ew (fun x hx => hs x (List.mem_range.mp hx)) k
end
theorem rgD_off (lo n : Nat) {a e : Int} (ha : a = (lo : Nat)) (he : e = ((lo + n : Nat) : Int)) : rgD a e = (List.range n).map fun (k : Nat) => PyData.int ((lo + k : Nat) : Int) := by
  subst ha he
  unfold rgD
  rw [show (((lo + n : Nat) : Int) - (lo : Nat)).toNat = n by omega]
  refine List.map_congr_left fun k _ => ?_
  rw [Int.natCast_add]
theorem cp_rng2 {ρ ρ1 : Rho} {g : D → Rho → Option Rho} {Q : Pl → Rho → Prop} {t : CB} {c : CE} {vs : List Nat} {a e : Int} (lo n : Nat) (out : Nat → D) (ha : a = (lo : Nat)) (he : e = ((lo + n : Nat) : Int)) (hl : n ≤ 1000000) (hw : wipeOk ρ vs = true) (ew : wipeR ρ vs = ρ1)
    (hs : ∀ k, k < n → elW g t c vs ρ1 (.int ((lo + k : Nat) : Int)) fun o ρ' => o = some (out k) ∧ ρ' = ρ1) (k : Q (.tmp (.list ((List.range n).map out))) ρ) : cpW (rgD a e) g t c vs ρ Q :=
  cp_map (List.range n) (fun (k : Nat) => .int ((lo + k : Nat) : Int)) out (rgD_off lo n ha he) (by simpa using hl) hw ew (fun x hx => hs x (List.mem_range.mp hx)) k
theorem enum_zip {α : Type} (xs : List α) (f : α → D) : enumD (xs.map f) = xs.zipIdx.map fun p => PyData.tuple [.int (p.2 : Nat), f p.1] := by
  unfold enumD
  apply List.ext_getElem?
  intro i
  rw [List.getElem?_mapIdx, List.getElem?_map, List.getElem?_map, List.getElem?_zipIdx]
  cases xs[i]? <;> simp
theorem zip_at {α : Type} {xs : List α} {pre post : List (α × Nat)} {p : α × Nat} (h : xs.zipIdx = pre ++ p :: post) : p.2 = pre.length ∧ xs = pre.map Prod.fst ++ p.1 :: post.map Prod.fst := by
  have h1 : xs.zipIdx[pre.length]? = some p := by rw [h]; simp
  rw [List.getElem?_zipIdx] at h1
  cases hx : xs[pre.length]? with
  | none => rw [hx] at h1; cases h1
  | some x =>
    rw [hx] at h1
    simp at h1
    refine ⟨by rw [← h1], ?_⟩
    have := congrArg (List.map Prod.fst) h
    rw [List.zipIdx_map_fst, List.map_append, List.map_cons] at this
    exact this
theorem for_enum {α : Type} {ρ : Rho} {N : Rho → Prop} {T : D → Bool → Rho → Prop} {E : Xc → Rho → Prop} {g : D → Rho → Option Rho} {b : CS} (xs : List α) (f : α → D) (I : List α → Rho → Prop) {ds : List D} (hds : ds = xs.map f) (h0 : I [] ρ)
    (hs : ∀ pre x post ρ, xs = pre ++ x :: post → I pre ρ → gO (g (.tuple [.int (pre.length : Nat), f x]) ρ) fun ρ1 => gS (b ρ1) (I (pre ++ [x])) T E) (hN : ∀ ρ, I xs ρ → N ρ) : gS (forL g b (enumD ds) ρ) N T E := by
  subst hds
  refine for_inv xs.zipIdx (fun p => PyData.tuple [.int (p.2 : Nat), f p.1]) (fun pre ρ => I (pre.map Prod.fst) ρ) (enum_zip xs f) h0 (fun pre p post ρ hE hI => ?_) fun ρ h => hN ρ (by rw [List.zipIdx_map_fst] at h; exact h)
  obtain ⟨h1, h2⟩ := zip_at hE
  have := hs _ _ _ ρ h2 hI
  rw [List.length_map, ← h1] at this
  rw [List.map_append]
  exact this
theorem cp_enumF {α : Type} {ρ ρ1 : Rho} {g : D → Rho → Option Rho} {Q : Pl → Rho → Prop} {t : CB} {c : CE} {vs : List Nat} (xs : List α) (f : α → D) (out : Nat → α → Option D) {ds : List D} (hds : ds = xs.map f) (hl : xs.length ≤ 1000000) (hw : wipeOk ρ vs = true) (ew : wipeR ρ vs = ρ1)
    (hs : ∀ i x, xs[i]? = some x → elW g t c vs ρ1 (.tuple [.int (i : Nat), f x]) fun o ρ' => o = out i x ∧ ρ' = ρ1) (k : Q (.tmp (.list (xs.zipIdx.filterMap fun p => out p.2 p.1))) ρ) : cpW (enumD ds) g t c vs ρ Q := by
  subst hds
  refine cp_filter xs.zipIdx (fun p => PyData.tuple [.int (p.2 : Nat), f p.1]) (fun p => out p.2 p.1) (enum_zip xs f) (by simpa using hl) hw ew (fun p hp => ?_) k
  exact hs p.2 p.1 (List.mem_zipIdx_iff_getElem?.mp hp)
end TN
namespace TN
open PySem PySem.Spec PyProof.Rows L2
section
variable (legs : List Nat)
end
end TN
namespace TN
open PySem PySem.Spec PyProof.Rows L2
/-! parted numberings of trees, plainly -/
structure Ptd (n : Nat) (ts : List (Nat × Nat)) (ns : List Int) (lo : Int) : Prop where
  ln : ns.length = n
  nn : n = ts.length + 1
  t1 : 1 ≤ ts.length
  pm : ns.Perm (rgI 0 ((ts.length : Int) + 1))
  sp : (steps ns ts).Perm (rgI 1 ((ts.length : Int) + 1))
  cut : ∀ t ∈ ts, min (ns.getD t.1 0) (ns.getD t.2 0) ≤ lo ∧ lo < max (ns.getD t.1 0) (ns.getD t.2 0)
  lt : ∀ t ∈ ts, t.1 < n ∧ t.2 < n
theorem rg_mem0 {a b x : Int} : x ∈ rgI a b ↔ a ≤ x ∧ x < b := by
  unfold rgI
  rw [List.mem_map]
  constructor
  · rintro ⟨i, hi, rfl⟩
    have := List.mem_range.mp hi
    omega
  · rintro ⟨h1, h2⟩
    exact ⟨(x - a).toNat, List.mem_range.mpr (by omega), by omega⟩
theorem rg_len (a b : Int) : (rgI a b).length = (b - a).toNat := by simp [rgI]
section
variable {n : Nat} {ts : List (Nat × Nat)} {ns : List Int} {lo : Int}
theorem Ptd.rng (p : Ptd n ts ns lo) : ∀ x ∈ ns, 0 ≤ x ∧ x ≤ ts.length := fun x hx => by
  have := rg_mem0.mp (p.pm.mem_iff.mp hx); omega
theorem Ptd.lo0 (p : Ptd n ts ns lo) : 0 ≤ lo ∧ lo < ts.length := by
  have ht1 := p.t1
  obtain ⟨t, ht⟩ : ∃ t, t ∈ ts := List.exists_mem_of_ne_nil _ fun z => by rw [z] at ht1; simp at ht1
  have := p.cut t ht
  have hlt := p.lt t ht
  have hln := p.ln
  have h1 := p.rng _ (getD_memI (ns := ns) (i := t.1) (by omega))
  have h2 := p.rng _ (getD_memI (ns := ns) (i := t.2) (by omega))
  omega
/-- the tie of step 1 -/
theorem Ptd.one (p : Ptd n ts ns lo) : (∃ t ∈ ts, absI (ns.getD t.1 0 - ns.getD t.2 0) = 1) ∧ ∀ t ∈ ts, absI (ns.getD t.1 0 - ns.getD t.2 0) = 1 → min (ns.getD t.1 0) (ns.getD t.2 0) = lo := by
  refine ⟨?_, fun t ht h => ?_⟩
  · have h1 := p.t1
    have : (1 : Int) ∈ steps ns ts := p.sp.mem_iff.mpr (rg_mem0.mpr (by omega))
    unfold steps at this
    obtain ⟨t, ht, e⟩ := List.mem_map.mp this
    exact ⟨t, ht, e⟩
  · have := p.cut t ht
    unfold absI at h
    split at h <;> omega
/-! the round numbering by it -/
def rfI (c : Nat) (lo x : Int) : Int := if x > lo then lo + 1 + c - x else x
def rndI (c : Nat) (lo : Int) (ns : List Int) : List Int := ns.map fun x => rfI c lo x % c
theorem mod_lt {c : Nat} {x : Int} (hc : 1 ≤ c) : 0 ≤ x % (c : Int) ∧ x % (c : Int) < c := ⟨Int.emod_nonneg _ (by omega), Int.emod_lt_of_pos _ (by omega)⟩
theorem Ptd.sums (p : Ptd n ts ns lo) : (sumsR ts (rndI ts.length lo ns)).Perm (rgI 0 (ts.length : Int)) := by
  have h1 := p.t1
  have hln := p.ln
  have hlo := p.lo0
  have e : sumsR ts (rndI ts.length lo ns) = (steps ns ts).map fun s => (lo + 1 + (ts.length : Int) - s) % (ts.length : Int) := by
    unfold sumsR steps
    rw [List.map_map]
    refine List.map_congr_left fun t ht => ?_
    have hlt := p.lt t ht
    have hc := p.cut t ht
    unfold rndI
    simp only [Function.comp]
    rw [getD_map (by omega), getD_map (by omega), ← Int.add_emod]
    congr 1
    unfold rfI absI
    (repeat' split) <;> omega
  rw [e]
  refine perm_of ?_ ?_ (by rw [List.length_map, steps_len, rg_len]; omega)
  · unfold List.Nodup
    rw [List.pairwise_map]
    refine List.Pairwise.imp_of_mem (fun {a b} ha hb hab h => hab ?_) (p.sp.nodup_iff.mpr (rg_nodup _ _))
    have ha' := rg_mem0.mp (p.sp.mem_iff.mp ha)
    have hb' := rg_mem0.mp (p.sp.mem_iff.mp hb)
    have hd := Int.emod_emod_of_dvd
    have h2 : ((ts.length : Int)) ∣ (lo + 1 + (ts.length : Int) - a) - (lo + 1 + (ts.length : Int) - b) := Int.dvd_of_emod_eq_zero (Int.emod_eq_emod_iff_emod_sub_eq_zero.mp h)
    obtain ⟨k, hk⟩ := h2
    have h3 : b - a = (ts.length : Int) * k := by omega
    have hk0 : k = 0 := by
      rcases Int.lt_trichotomy k 0 with q | q | q
      · have : (ts.length : Int) * k ≤ (ts.length : Int) * (-1) := Int.mul_le_mul_of_nonneg_left (by omega) (by omega)
        omega
      · exact q
      · have : (ts.length : Int) * 1 ≤ (ts.length : Int) * k := Int.mul_le_mul_of_nonneg_left (by omega) (by omega)
        omega
    rw [hk0] at h3
    omega
  · intro x hx
    obtain ⟨y, hy, rfl⟩ := List.mem_map.mp hx
    exact rg_mem0.mpr (mod_lt h1)
end
/-! spines -/
section
variable (legs : List Nat)
end
end TN
namespace TN
open PySem PySem.Spec PyProof.Rows L2
end TN
namespace TN
open PySem PySem.Spec PyProof.Rows L2
/-! ### displays of dicts -/
section
variable {X : Cx}
section
variable {K : PySem.W.Frag} {L : L2.St} {B G H : Hp} {σ : L2.St} {ρ : Rho} {p : Addr} {o : HO}
end
end
end TN
namespace TN
open PySem PySem.Spec PyProof.Rows L2
/-! ### d.get(k, z) -/
def cGet2 (co ck cz : CE) : CE := fun ρ => (co ρ).bind fun p ρ1 => match look p ρ1 with
  | some (.dict es0) => if isE es0 = true then .bad else (ck ρ1).bind fun q ρ2 => (cz ρ2).bind fun r ρ3 => (match look p ρ3, look q ρ3, r with
    | some (.dict es), some k, .val dz => (match dGet es k with
      | some o => .ok (.val (o.getD dz)) ρ3
      | none => .bad)
    | _, _, _ => .bad)
  | _ => .bad
section
variable {X : Cx}
theorem isD_of {K : PySem.W.Frag} {G H : Hp} {v : V} {es : List (D × D)} (s : Same G H) (hE : isE es = false) (h : Vw K G H v (.dict es)) : ∃ a, v = .ref a ∧ IsD H a := by
  rcases h.dict s hE with ⟨a, kvs, rfl, e1, f⟩ | ⟨a, kvs, es', rfl, e1, f, rfl⟩
  · exact ⟨a, rfl, .inl ⟨kvs, .inl e1⟩⟩
  · exact ⟨a, rfl, .inr ⟨kvs, .inl e1⟩⟩
theorem sx_get2 {o e f : Expr} {co ck cz : CE} {apos cpos : Pos} (hu : X.A.units + 1 < cLine) (ho : SX X o co) (he : SX X e ck) (hf : SX X f cz) (m : M2 X o "get" apos e f cpos) : SX X (.Call (.Attribute o "get" apos) [e, f] [] cpos) (cGet2 co ck cz) := fun W tk =>
  PEimp (pe_dget2 hu (ho W tk) (he W tk) (hf W tk) m) (by
    rintro σ H Q ⟨L, ρ, G, B, rel, h⟩
    refine ⟨L, ρ, G, B, rel, (Got.bind h).mono ?_⟩
    rintro x H1 ⟨p, ρ1, G1, _, rel1, _, fx1, h1⟩
    cases e1 : look p ρ1 with
    | none => simp only [e1] at h1; exact h1.elim
    | some d0 =>
      cases d0 with
      | dict es0 =>
        simp only [e1] at h1
        by_cases hE : isE es0 = true
        · rw [if_pos hE] at h1; exact h1.elim
        · rw [if_neg hE] at h1
          obtain ⟨a, rfl, hD⟩ := isD_of rel1.sub (by simpa using hE) (fx1.look rel1 e1)
          refine ⟨a, rfl, hD, L, ρ1, G1, B, rel1, (Got.bind h1).mono ?_⟩
          rintro y H2 ⟨q, ρ2, G2, _, rel2, ext2, fx2, h2⟩
          refine ⟨L, ρ2, G2, B, rel2, (Got.bind h2).mono ?_⟩
          rintro z H3 ⟨r, ρ3, G3, _, rel3, ext3, fx3, h3⟩
          cases e2 : look p ρ3 with
          | none => simp only [e2] at h3; exact h3.elim
          | some d =>
            cases e3 : look q ρ3 with
            | none =>
              simp only [e2, e3] at h3
              cases d <;> exact h3.elim
            | some k =>
              cases d with
              | dict es =>
                cases r with
                | val dz =>
                  simp only [e2, e3] at h3
                  cases e4 : dGet es k with
                  | none => simp only [e4] at h3; exact h3.elim
                  | some ov =>
                    simp only [e4] at h3
                    obtain ⟨a', w, q1, q2, q3⟩ := ((fx1.mono (ext2.same.trans ext3.same)).look rel3 e2).get rel3.sub ((fx2.mono ext3.same).look rel3 e3) e4
                    cases q1
                    refine ⟨w, q2, ?_⟩
                    rcases q3 with ⟨rfl, rfl⟩ | ⟨w', d', rfl, rfl, fz⟩
                    · exact h3 z H3 G3 rel3 .refl fx3
                    · exact h3 w' H3 G3 rel3 .refl fz
                | slot i => simp only [e2, e3] at h3; exact h3.elim
                | tmp t => simp only [e2, e3] at h3; exact h3.elim
              | _ => simp only [e2, e3] at h3; exact h3.elim
      | _ => simp only [e1] at h1; exact h1.elim)
end
/-! ### constants of the module: dicts of texts and ints -/
structure KC (K : PySem.W.Frag) (w : World) (mg : Str → Option Value) (x : Str) (es : List (Str × Int)) : Prop where
  glo : mg x = some (.ref (He.ga K x))
  kd : ∃ arr n, KDict K w (He.ga K x) arr n
  there : ∀ q ∈ es, ∃ u, PySem.W.nsIn K (He.ga K x) q.1 = some (some u) ∧ L2.RelV (.int q.2) u
  no : ∀ z, (∀ q ∈ es, q.1 ≠ z) → PySem.W.nsIn K (He.ga K x) z = some none
def opInC (es : List (Str × Int)) : D → Option Pl
  | .str z => some (.val (.bool (es.any fun q => decide (q.1 = z))))
  | _ => none
def opIxC (es : List (Str × Int)) : D → Option Pl
  | .str z => (es.find? fun q => decide (q.1 = z)).map fun q => .val (.int q.2)
  | _ => none
section
variable {X : Cx} {x : Str} {es : List (Str × Int)} {e : Expr} {c : CE} {pos p : Pos}
theorem vw_str {K : PySem.W.Frag} {G H : Hp} {v : V} {z : Str} (h : Vw K G H v (.str z)) : v = .str z := by
  rcases h with h | ⟨a, _, h⟩
  · cases h; rfl
  · cases h
theorem sx_inC (C : KC X.K X.w X.mg x es) (hg : Gl X x) (ha : SX X e c) (hm : behindInMarks .In (.Name x p) = false := by first | exact nomark _ | with_unfolding_all rfl) (hd : (x == ("__debug__" : Str)) = false := by decide) : SX X (.Compare e [.In] [.Name x p] pos) (cUn (opInC es) c) := fun W tk => by
  obtain ⟨arr, n, D⟩ := C.kd
  refine PEimp (pe_cmpR (op_in_kd D) (ha W tk) (pe_glob (v := .ref (He.ga X.K x)) hg C.glo rfl hd) hm) ?_
  rintro σ H Q ⟨L, ρ, G, B, rel, h⟩
  refine ⟨L, ρ, G, B, rel, (Got.bind h).mono ?_⟩
  rintro y H1 ⟨p, ρ1, G1, _, rel1, _, fx1, h1⟩
  cases e1 : look p ρ1 with
  | none => simp only [e1] at h1; exact h1.elim
  | some dx =>
    simp only [e1] at h1
    cases dx with
    | str z =>
      have hy := vw_str (fx1.look rel1 e1)
      subst hy
      have h2 : GotP X L W σ G1 B (.ok (.val (.bool (es.any fun q => decide (q.1 = z)))) ρ1) Q := h1
      cases hb : es.any fun q => decide (q.1 = z) with
      | true =>
        obtain ⟨q, hq, hz⟩ := List.any_eq_true.mp hb
        have hz := of_decide_eq_true hz
        subst hz
        obtain ⟨u, hu, _⟩ := C.there q hq
        rw [hb] at h2
        exact ⟨q.1, some u, rfl, rfl, hu, h2 (.bl true) H1 G1 rel1 .refl (.bl true)⟩
      | false =>
        have hno : ∀ q ∈ es, q.1 ≠ z := fun q hq hz => by
          have := List.any_eq_false.mp hb q hq
          exact this (decide_eq_true hz)
        rw [hb] at h2
        exact ⟨z, none, rfl, rfl, C.no z hno, h2 (.bl false) H1 G1 rel1 .refl (.bl false)⟩
    | _ => exact h1.elim
theorem sx_ixC (C : KC X.K X.w X.mg x es) (hg : Gl X x) (ha : SX X e c) (hs : PlainIx e := by exact fun _ _ => rfl) (hd : (x == ("__debug__" : Str)) = false := by decide) : SX X (.Subscript (.Name x p) e pos) (cUn (opIxC es) c) := fun W tk => by
  obtain ⟨arr, n, D⟩ := C.kd
  refine PEimp (pe_ix ix_kdict (pe_glob (v := .ref (He.ga X.K x)) hg C.glo rfl hd) (ha W tk) hs) ?_
  rintro σ H Q ⟨L, ρ, G, B, rel, h⟩
  refine ⟨L, ρ, G, B, rel, (Got.bind h).mono ?_⟩
  rintro y H1 ⟨p, ρ1, G1, _, rel1, _, fx1, h1⟩
  cases e1 : look p ρ1 with
  | none => simp only [e1] at h1; exact h1.elim
  | some dx =>
    simp only [e1] at h1
    cases dx with
    | str z =>
      have hy := vw_str (fx1.look rel1 e1)
      subst hy
      cases hf : es.find? fun q => decide (q.1 = z) with
      | none =>
        exfalso
        have h2 : GotP X L W σ G1 B (R.ofOpt (((es.find? fun q => decide (q.1 = z))).map fun q => Pl.val (.int q.2)) ρ1) Q := h1
        rw [hf] at h2; exact h2
      | some q =>
        have h2 : GotP X L W σ G1 B (R.ofOpt (((es.find? fun q => decide (q.1 = z))).map fun q => Pl.val (.int q.2)) ρ1) Q := h1
        rw [hf] at h2
        have hz : q.1 = z := of_decide_eq_true (List.find?_some (p := fun q : Str × Int => decide (q.1 = z)) hf)
        subst hz
        obtain ⟨u, hu, hr⟩ := C.there q (List.mem_of_find?_eq_some hf)
        exact ⟨He.ga X.K x, q.1, .int q.2, rfl, rfl, ⟨arr, n, u, D.at_, D.lit, hu, hr⟩, h2 (.int q.2) H1 G1 rel1 .refl (.int q.2)⟩
    | _ => exact h1.elim
end
theorem find_none {P : Params} {z : Str} : ∀ {l : List DictEntry} {ks : List Str}, l.map He.keyOf = He.keysIn P ks → (∀ k ∈ ks, k ≠ z) → l.find? (fun x => x.key.isStr z) = none ∧ l.any (fun x => x.refKey) = false
  | [], ks, h, _ => ⟨rfl, rfl⟩
  | e :: l, [], h, _ => by simp [He.keysIn] at h
  | e :: l, k :: ks, h, hk => by
    simp only [He.keysIn, List.map_cons, List.cons.injEq] at h
    obtain ⟨h1, h2⟩ := h
    obtain ⟨i1, i2⟩ := find_none (l := l) (ks := ks) h2 fun k' hk' => hk k' (List.mem_cons_of_mem _ hk')
    obtain ⟨hs, ky, vl⟩ := e
    have hkz := hk k (List.mem_cons_self ..)
    unfold He.keyOf at h1
    cases ky <;> simp only [Option.some.injEq, Prod.mk.injEq] at h1 <;> try (cases h1; done)
    rename_i s tok
    obtain ⟨rfl, _⟩ := h1
    refine ⟨?_, ?_⟩
    · rw [List.find?_cons_of_neg, i1]
      show ¬ (s == z) = true
      simpa using hkz
    · rw [List.any_cons, i2]; rfl
theorem kc_of {K : PySem.W.Frag} {w : World} {mg : Str → Option Value} {h : Heap} {ts : List Tb} {x : Str} {es : List (Str × Int)} (X : K.In h) (G : h.Ns mainGlobals mg) (e : tabObs ts K = tabVal ts w) (ht : (x, es) ∈ ts) : KC K w mg x es := by
  have e1 := congrArg Prod.fst e
  have e2 := congrArg Prod.snd e
  simp only [tabObs, tabVal] at e1 e2
  have hd : He.dicW K (He.ga K x) = some (He.keysIn w.params (es.map (·.1))) := by
    have := List.map_inj_left.mp e1 (x, es) ht
    exact this
  have hb := List.all_eq_true.mp e2 (x, es) ht
  simp only [Bool.and_eq_true] at hb
  refine ⟨He.glo_ok X G hb.1, He.dicW_ok hd, fun q hq => ?_, fun z hz => ?_⟩
  · exact He.valsB_ok hb.2 (q := (q.1, He.Dv.int q.2)) (List.mem_map.mpr ⟨q, hq, rfl⟩)
  · unfold He.dicW at hd
    unfold PySem.W.nsIn
    split at hd
    · rename_i c arr ep sl hl
      rw [hl]
      split at hd
      · simp only [Option.some.injEq] at hd
        obtain ⟨h1, h2⟩ := find_none (z := z) hd fun k hk => by
          obtain ⟨q, hq, rfl⟩ := List.mem_map.mp hk
          exact hz q hq
        simp only [h1, h2]
        rfl
      · cases hd
    · cases hd
/-! ### the head, with these -/
theorem obsZ_eq {n : Nat} {fa : List He.Fa} {fn : List He.DefD} {cs : List Str} {rs : List (Str × List Str)} {ts : List Tb} {g : Addr → Option Obj} {s : Shared} (h : ∀ a, g a = s.heap.get? a) : obsZ n fa fn cs rs ts g = (hookZ n fa fn cs rs ts).obs s := by
  have e : g = s.heap.get? := funext h
  rw [e] <;> rfl
theorem law_endZ {l : PySem.W.OpenLaw} {k m : Nat} {fa : List He.Fa} {fn : List He.DefD} {cs : List Str} {rs : List (Str × List Str)} {ts : List Tb} {q : Program} {loose : List Str} {XP : (Str → Option Value) → Heap → Prop} {d : DefRec} {x : Str} {M : FM}
    (hn : l.most = some 63) (hdf : d.params.defaults = []) (hd : d.name = ("law" : Str)) (hr : Room k callerA)
    (F : ∀ (w : World) (K : PySem.W.Frag) (mg : Str → Option Value) (f : Addr) (h : Heap), K.In h → h.Ns mainGlobals mg → mg "law" = some (.ref f) → He.SaysD fa fn K → exAll cs K = true → oxAll rs K = true → tabObs ts K = tabVal ts w →
      ∃ fd : FuncData, (∀ (s : Shared) (u : Value), BindsTo s fd ⟨[u], []⟩ [(x, u)]) ∧ ∀ base : Heap, K.In base → base.Ns mainGlobals mg → FnOk l.prog w K mg base (L2.CX l.prog w) k f fd [x] (spF K mg 1 M))
    (hM : ∀ ns : List Int, ns.length ≤ 63 → ∃ outs, M [(.list (ns.map PyData.int), .fz)] = .ok (.bool true) false outs) :
    PySem.W.WalkO q loose XP (hookZ m fa fn cs rs ts).says l.row.toRowW d [] (fun f vs => PySem.call f vs) := by
  refine Att.attach_call hn hdf fun w s₀ s₁ mg mb fa o pm cd doc a vs ns G Y ho hd' hcd hmg hobj hints hlen hg => ?_
  obtain ⟨K, KX, nl, c, cx, co, ct⟩ := Y
  rw [hd] at hmg
  obtain ⟨fd, hb, hF⟩ := F w K mg fa _ KX G.T.g hmg c cx co ct
  exact law_call KX G.T.g G.T.b G.T.builtins G.T.nolimit hg hobj hints (Nat.le_trans hlen (by decide)) hr hF hb (fun H hO hS => sp_law hM H a ns hlen (nl.rd hS)) fun H e s' => no_exc H s₁ e s'
end TN
namespace TN
open PySem PySem.Spec PyProof.Rows L2
/-! ### ties in order -/
def leT (a b : Nat × Nat) : Bool := decide (a.1 < b.1) || (decide (a.1 = b.1) && decide (a.2 ≤ b.2))
theorem dLe_tie (a b : Nat × Nat) : dLe (tieD a) (tieD b) = leT a b := by
  unfold dLe tieD PySem.W.dataLe PySem.W.sortLe leT
  simp only [PySem.W.keyToks, PySem.W.keyToksAll, id, cond_false, PyProof.Rows.lexLt, PyProof.Rows.itemLt, List.append_nil, List.cons_append, List.nil_append]
  rw [Bool.eq_iff_iff]
  simp
  omega
theorem leT_trans (a b c : Nat × Nat) (h1 : leT a b = true) (h2 : leT b c = true) : leT a c = true := by
  simp [leT] at *; omega
theorem leT_total (a b : Nat × Nat) : (leT a b || leT b a) = true := by
  simp [leT]; omega
theorem sortT_le (F : List (Nat × Nat)) : sortT F = F.mergeSort leT := by
  unfold sortT
  congr 1
  funext a b
  exact dLe_tie a b
theorem sortT_pw (F : List (Nat × Nat)) : (sortT F).Pairwise fun a b => leT a b = true := by
  rw [sortT_le]; exact List.pairwise_mergeSort leT_trans leT_total F
theorem perm_nd {F F' : List (Nat × Nat)} (h1 : F.Nodup) (h2 : F'.Nodup) (h : ∀ t, t ∈ F ↔ t ∈ F') : F.Perm F' := (List.perm_ext_iff_of_nodup h1 h2).mpr h
/-! ### kinds -/
inductive Kd where
  | spine (legs : List Nat) | ring (n : Nat) | sides (a b : Nat) | full (n : Nat) | wheel (n : Nat) | fan (n : Nat)
def kdD : Kd → D
  | .spine legs => .tuple [.str "spine", .tuple (lg legs)]
  | .ring n => .tuple [.str "ring", .int (n : Nat)]
  | .sides a b => .tuple [.str "sides", .int (a : Nat), .int (b : Nat)]
  | .full n => .tuple [.str "full", .int (n : Nat)]
  | .wheel n => .tuple [.str "wheel", .int (n : Nat)]
  | .fan n => .tuple [.str "fan", .int (n : Nat)]
def kdN : Kd → Nat
  | .spine legs => legs.length + legs.sum
  | .ring n => n
  | .sides a b => a + b
  | .full n => n
  | .wheel n => n + 1
  | .fan n => n + 1
def rowT (a b : Nat) : List (Nat × Nat) := (List.range (b - a)).map fun i => (a + i, a + i + 1)
def spinT (legs : List Nat) (K : Nat) : List (Nat × Nat) := (List.range K).flatMap fun k => (List.range (legs.getD k 0)).map fun i => (k, offS legs k + i)
def fullT (n K : Nat) : List (Nat × Nat) := (List.range K).flatMap fun i => (List.range (n - (i + 1))).map fun j => (i, i + 1 + j)
def sidT (a b K : Nat) : List (Nat × Nat) := (List.range K).flatMap fun i => (List.range b).map fun j => (i, a + j)
/-- in the order in which the package makes them -/
def kdT : Kd → List (Nat × Nat)
  | .spine legs => rowT 0 (legs.length - 1) ++ spinT legs legs.length
  | .ring n => rowT 0 (n - 1) ++ [(0, n - 1)]
  | .sides a b => sidT a b a
  | .full n => fullT n n
  | .wheel n => (List.range n).map (fun i => (0, 1 + i)) ++ rowT 1 n ++ [(1, n)]
  | .fan n => (List.range n).map (fun i => (0, 1 + i)) ++ rowT 1 n
/-- a kind -/
def KdOk : Kd → Prop
  | .spine legs => 1 ≤ legs.length ∧ legs.length + legs.sum ≤ 40
  | .ring n => 3 ≤ n ∧ n ≤ 40
  | .sides a b => 1 ≤ a ∧ 1 ≤ b ∧ a + b ≤ 40 ∧ a * b ≤ 60
  | .full n => 1 ≤ n ∧ n ≤ 11
  | .wheel n => 3 ≤ n ∧ n ≤ 30
  | .fan n => 1 ≤ n ∧ n ≤ 30
theorem mem_row {a b : Nat} {t : Nat × Nat} : t ∈ rowT a b ↔ a ≤ t.1 ∧ t.1 < b ∧ t.2 = t.1 + 1 := by
  unfold rowT
  rw [List.mem_map]
  constructor
  · rintro ⟨i, hi, rfl⟩
    have := List.mem_range.mp hi
    simp; omega
  · rintro ⟨h1, h2, h3⟩
    refine ⟨t.1 - a, List.mem_range.mpr (by omega), ?_⟩
    obtain ⟨x, y⟩ := t
    simp at *; omega
theorem nd_row (a b : Nat) : (rowT a b).Nodup := by
  unfold rowT List.Nodup
  rw [List.pairwise_map]
  refine List.Pairwise.imp (fun {x y} h e => h ?_) List.nodup_range
  simp at e; omega
theorem mem_spin {legs : List Nat} {K : Nat} {t : Nat × Nat} : t ∈ spinT legs K ↔ ∃ k i, k < K ∧ i < legs.getD k 0 ∧ t = (k, offS legs k + i) := by
  unfold spinT
  rw [List.mem_flatMap]
  constructor
  · rintro ⟨k, hk, ht⟩
    obtain ⟨i, hi, rfl⟩ := List.mem_map.mp ht
    exact ⟨k, i, List.mem_range.mp hk, List.mem_range.mp hi, rfl⟩
  · rintro ⟨k, i, hk, hi, rfl⟩
    exact ⟨k, List.mem_range.mpr hk, List.mem_map.mpr ⟨i, List.mem_range.mpr hi, rfl⟩⟩
theorem nd_flat {α : Type} {f : Nat → List (Nat × Nat)} (h1 : ∀ k t, t ∈ f k → t.1 = k) (h2 : ∀ k, (f k).Nodup) (K : Nat) : ((List.range K).flatMap f).Nodup := by
  induction K with
  | zero => simp
  | succ K ih =>
    rw [List.range_succ, List.flatMap_append]
    refine List.nodup_append.mpr ⟨ih, by simpa using h2 K, fun a ha b hb e => ?_⟩
    obtain ⟨k, hk, hak⟩ := List.mem_flatMap.mp ha
    have hb' : b ∈ f K := by simpa using hb
    have := List.mem_range.mp hk
    have e1 := h1 k a hak
    have e2 := h1 K b hb'
    rw [e] at e1; omega
theorem nd_mapr {n : Nat} {f : Nat → Nat × Nat} (h : ∀ x y, f x = f y → x = y) : ((List.range n).map f).Nodup := by
  unfold List.Nodup
  rw [List.pairwise_map]
  exact List.Pairwise.imp (fun {x y} hxy e => hxy (h x y e)) List.nodup_range
theorem nd_spin (legs : List Nat) (K : Nat) : (spinT legs K).Nodup := by
  refine nd_flat (α := Nat) (fun k t ht => ?_) (fun k => nd_mapr fun x y e => ?_) K
  · obtain ⟨i, _, rfl⟩ := List.mem_map.mp ht; rfl
  · simp at e; omega
theorem mem_full {n K : Nat} {t : Nat × Nat} : t ∈ fullT n K ↔ t.1 < K ∧ t.1 < t.2 ∧ t.2 < n := by
  unfold fullT
  rw [List.mem_flatMap]
  constructor
  · rintro ⟨k, hk, ht⟩
    obtain ⟨i, hi, rfl⟩ := List.mem_map.mp ht
    have := List.mem_range.mp hk
    have := List.mem_range.mp hi
    simp; omega
  · rintro ⟨h1, h2, h3⟩
    refine ⟨t.1, List.mem_range.mpr h1, List.mem_map.mpr ⟨t.2 - (t.1 + 1), List.mem_range.mpr (by omega), ?_⟩⟩
    obtain ⟨x, y⟩ := t
    simp at *; omega
theorem nd_full (n K : Nat) : (fullT n K).Nodup := by
  refine nd_flat (α := Nat) (fun k t ht => ?_) (fun k => nd_mapr fun x y e => ?_) K
  · obtain ⟨i, _, rfl⟩ := List.mem_map.mp ht; rfl
  · simp at e; omega
theorem mem_sid {a b K : Nat} {t : Nat × Nat} : t ∈ sidT a b K ↔ t.1 < K ∧ a ≤ t.2 ∧ t.2 < a + b := by
  unfold sidT
  rw [List.mem_flatMap]
  constructor
  · rintro ⟨k, hk, ht⟩
    obtain ⟨i, hi, rfl⟩ := List.mem_map.mp ht
    have := List.mem_range.mp hk
    have := List.mem_range.mp hi
    simp; omega
  · rintro ⟨h1, h2, h3⟩
    refine ⟨t.1, List.mem_range.mpr h1, List.mem_map.mpr ⟨t.2 - a, List.mem_range.mpr (by omega), ?_⟩⟩
    obtain ⟨x, y⟩ := t
    simp at *; omega
theorem nd_sid (a b K : Nat) : (sidT a b K).Nodup := by
  refine nd_flat (α := Nat) (fun k t ht => ?_) (fun k => nd_mapr fun x y e => ?_) K
  · obtain ⟨i, _, rfl⟩ := List.mem_map.mp ht; rfl
  · simp at e; omega
theorem mem_hub {n : Nat} {t : Nat × Nat} : t ∈ (List.range n).map (fun i => (0, 1 + i)) ↔ t.1 = 0 ∧ 1 ≤ t.2 ∧ t.2 ≤ n := by
  rw [List.mem_map]
  constructor
  · rintro ⟨i, hi, rfl⟩
    have := List.mem_range.mp hi
    simp; omega
  · rintro ⟨h1, h2, h3⟩
    refine ⟨t.2 - 1, List.mem_range.mpr (by omega), ?_⟩
    obtain ⟨x, y⟩ := t
    simp at *; omega
theorem flatT_len {f : Nat → List (Nat × Nat)} (K : Nat) : ((List.range K).flatMap f).length = ((List.range K).map fun k => (f k).length).sum := by
  induction K with
  | zero => rfl
  | succ K ih => rw [List.range_succ, List.flatMap_append, List.length_append, List.map_append, List.sum_append, ih]; simp
theorem sid_len (a b K : Nat) : (sidT a b K).length = K * b := by
  unfold sidT
  rw [flatT_len]
  induction K with
  | zero => simp
  | succ K ih => rw [List.range_succ, List.map_append, List.sum_append, ih, Nat.succ_mul]; simp
theorem spin_len (legs : List Nat) (K : Nat) : (spinT legs K).length + legs.length = offS legs K := by
  induction K with
  | zero => simp [spinT, offS]
  | succ K ih =>
    have e : spinT legs (K + 1) = spinT legs K ++ (List.range (legs.getD K 0)).map fun i => (K, offS legs K + i) := by
      unfold spinT; rw [List.range_succ, List.flatMap_append]; simp
    rw [e, List.length_append, offS]; simp; omega
theorem row_len (a b : Nat) : (rowT a b).length = b - a := by simp [rowT]
theorem full_len : ∀ n, n ≤ 11 → (fullT n n).length ≤ 60 := by decide
/-- what a kind's ties are -/
structure KdW (n : Nat) (T : List (Nat × Nat)) : Prop where
  n1 : 1 ≤ n
  n40 : n ≤ 40
  t60 : T.length ≤ 60
  nd : T.Nodup
  lt : ∀ t ∈ T, t.1 < t.2 ∧ t.2 < n
theorem kd_web : ∀ {k : Kd}, KdOk k → KdW (kdN k) (kdT k)
  | .spine legs, ⟨h1, h2⟩ => by
    have hl := spin_len legs legs.length
    rw [off_end] at hl
    refine ⟨by simp [kdN]; omega, h2, ?_, ?_, ?_⟩
    · simp only [kdT, List.length_append, row_len]; omega
    · refine List.nodup_append.mpr ⟨nd_row _ _, nd_spin _ _, fun a ha b hb e => ?_⟩
      subst e
      have h3 := mem_row.mp ha
      obtain ⟨k, i, hk, hi, rfl⟩ := mem_spin.mp hb
      have := off_ge legs k
      simp at h3; omega
    · intro t ht
      rcases List.mem_append.mp ht with ht | ht
      · have := mem_row.mp ht
        simp only [kdN]; omega
      · obtain ⟨k, i, hk, hi, rfl⟩ := mem_spin.mp ht
        have h3 := off_sum legs (k + 1) (by omega)
        have h4 := take_le legs (k + 1)
        have h5 := off_ge legs k
        rw [offS] at h3
        simp only [kdN]; omega
  | .ring n, ⟨h1, h2⟩ => by
    refine ⟨by simp [kdN]; omega, h2, ?_, ?_, ?_⟩
    · simp [kdT, row_len]; omega
    · refine List.nodup_append.mpr ⟨nd_row _ _, by simp, fun a ha b hb e => ?_⟩
      subst e
      have h3 := mem_row.mp ha
      rw [List.mem_singleton.mp hb] at h3
      simp at h3; omega
    · intro t ht
      rcases List.mem_append.mp ht with ht | ht
      · have := mem_row.mp ht
        simp only [kdN]; omega
      · rw [List.mem_singleton.mp ht]; simp only [kdN]; omega
  | .sides a b, ⟨h1, h2, h3, h4⟩ => by
    refine ⟨by simp [kdN]; omega, h3, by simp only [kdT, sid_len]; exact h4, nd_sid _ _ _, fun t ht => ?_⟩
    have := mem_sid.mp ht
    simp only [kdN]; omega
  | .full n, ⟨h1, h2⟩ => by
    refine ⟨h1, by simp [kdN]; omega, full_len n h2, nd_full _ _, fun t ht => ?_⟩
    have := mem_full.mp ht
    simp only [kdN]; omega
  | .wheel n, ⟨h1, h2⟩ => by
    refine ⟨by simp [kdN], by simp [kdN]; omega, by simp [kdT, row_len]; omega, ?_, ?_⟩
    · refine List.nodup_append.mpr ⟨List.nodup_append.mpr ⟨nd_mapr fun x y e => ?_, nd_row _ _, fun a ha b hb e => ?_⟩, by simp, fun a ha b hb e => ?_⟩
      · simp at e; omega
      · subst e
        have h3 := mem_hub.mp ha
        have h4 := mem_row.mp hb
        omega
      · subst e
        rw [List.mem_singleton.mp hb] at ha
        rcases List.mem_append.mp ha with ha | ha
        · have := mem_hub.mp ha; simp at this
        · have := mem_row.mp ha; simp at this; omega
    · intro t ht
      rcases List.mem_append.mp ht with ht | ht
      · rcases List.mem_append.mp ht with ht | ht
        · have := mem_hub.mp ht; simp only [kdN]; omega
        · have := mem_row.mp ht; simp only [kdN]; omega
      · rw [List.mem_singleton.mp ht]; simp only [kdN]; omega
  | .fan n, ⟨h1, h2⟩ => by
    refine ⟨by simp [kdN], by simp [kdN]; omega, by simp [kdT, row_len]; omega, ?_, ?_⟩
    · refine List.nodup_append.mpr ⟨nd_mapr fun x y e => ?_, nd_row _ _, fun a ha b hb e => ?_⟩
      · simp at e; omega
      · subst e
        have h3 := mem_hub.mp ha
        have h4 := mem_row.mp hb
        omega
    · intro t ht
      rcases List.mem_append.mp ht with ht | ht
      · have := mem_hub.mp ht; simp only [kdN]; omega
      · have := mem_row.mp ht; simp only [kdN]; omega
/-- the web of a kind, as data -/
def kdWeb (k : Kd) : D := webD (kdN k) (sortT (kdT k))
theorem KdW.ok {n : Nat} {T : List (Nat × Nat)} (h : KdW n T) : WebOk n (sortT T) := by
  have h1 := h.n1
  have h2 := h.n40
  have h3 := h.t60
  exact wok_sort h1 (by omega) (by omega) fun t ht => by have := h.lt t ht; omega
end TN
namespace TN
open PySem PySem.Spec PyProof.Rows L2
abbrev ee_legs_good_1 : CE := (cAndV (cCall MMWhole (cCons (cVar 1) cNil)) (cChain opLe opLe (cLit (.int 0)) (cVar 1) (cLit (.int 40))))
abbrev cc_legs_good : CS := (cSeq (cIf (cOr (cNot (cTst (cUn (opIsi "tuple") (cVar 0)))) (cOr (cTst (cBin opLt (cFn fLen (cCons (cVar 0) cNil)) (cLit (.int 1)))) (cTst (cBin opGt (cFn fLen (cCons (cVar 0) cNil)) (cLit (.int 40))))))
  (cRet (cLit (.bool false)))
  cSkip)
  (cSeq (cIf (cNot (cTst (cFn fAll (cCons (cComp (cIt (cVar 0)) (gNm 1) tTrue ee_legs_good_1 [1]) cNil))))
  (cRet (cLit (.bool false)))
  cSkip)
  (cRet (cBin opLe (cBin opAdd (cFn fLen (cCons (cVar 0) cNil)) (cFn fSum (cCons (cVar 0) cNil))) (cLit (.int 40))))))
def MM_legs_good : FM := mkF 1 2 cc_legs_good
theorem in_legs_good {x0 : D} {m0 : Md} {T : D → Bool → List Slot → Prop} {E : Xc → List Slot → Prop} (h : gS (cc_legs_good [some (x0, m0), none]) (fun ρ => T .none false (ρ.take 1)) (fun d fr ρ => T d fr (ρ.take 1)) (fun x ρ => E x (ρ.take 1))) : gF (MM_legs_good [(x0, m0)]) T E := gF_mk rfl h
abbrev ee_kind_form_1 : CE := (cAndV (cCall MMWhole (cCons (cVar 1) cNil)) (cChain opLe opLe (cLit (.int 1)) (cVar 1) (cLit (.int 40))))
abbrev cc_kind_form : CS := (cSeq (cIf (cOr (cNot (cTst (cUn (opIsi "tuple") (cVar 0)))) (cOr (cTst (cBin opLt (cFn fLen (cCons (cVar 0) cNil)) (cLit (.int 2)))) (cNot (cTst (cUn (opIsi "str") (cBin opIx (cVar 0) (cLit (.int 0))))))))
  (cRet (cLit (.bool false)))
  cSkip)
  (cSeq (cIf (cTst (cBin opEq (cBin opIx (cVar 0) (cLit (.int 0))) (cLit (.str "spine"))))
  (cRet (cAndV (cBin opEq (cFn fLen (cCons (cVar 0) cNil)) (cLit (.int 2))) (cCall MM_legs_good (cCons (cBin opIx (cVar 0) (cLit (.int 1))) cNil))))
  cSkip)
  (cSeq (cIf (cNot (cTst (cFn fAll (cCons (cComp (cIt (cSl (cVar 0) (cPart (cLit (.int 1))) cNoPart)) (gNm 1) tTrue ee_kind_form_1 [1]) cNil))))
  (cRet (cLit (.bool false)))
  cSkip)
  (cSeq (cIf (cTst (cBin opEq (cBin opIx (cVar 0) (cLit (.int 0))) (cLit (.str "sides"))))
  (cRet (cBin opEq (cFn fLen (cCons (cVar 0) cNil)) (cLit (.int 3))))
  cSkip)
  (cRet (cAndV (cUn (opInC [("ring", 3), ("full", 1), ("wheel", 3), ("fan", 1)]) (cBin opIx (cVar 0) (cLit (.int 0)))) (cAndV (cBin opEq (cFn fLen (cCons (cVar 0) cNil)) (cLit (.int 2))) (cBin opGe (cBin opIx (cVar 0) (cLit (.int 1))) (cUn (opIxC [("ring", 3), ("full", 1), ("wheel", 3), ("fan", 1)]) (cBin opIx (cVar 0) (cLit (.int 0))))))))))))
def MM_kind_form : FM := mkF 1 2 cc_kind_form
theorem in_kind_form {x0 : D} {m0 : Md} {T : D → Bool → List Slot → Prop} {E : Xc → List Slot → Prop} (h : gS (cc_kind_form [some (x0, m0), none]) (fun ρ => T .none false (ρ.take 1)) (fun d fr ρ => T d fr (ρ.take 1)) (fun x ρ => E x (ρ.take 1))) : gF (MM_kind_form [(x0, m0)]) T E := gF_mk rfl h
abbrev ee_spine_ties_1 : CE := (cTup (cCons (cVar 3) (cCons (cBin opAdd (cVar 3) (cLit (.int 1))) cNil)))
abbrev ee_spine_ties_2 : CE := (cTup (cCons (cVar 3) (cCons (cBin opAdd (cVar 1) (cVar 5)) cNil)))
abbrev bb_spine_ties_3 : CS := (cSeq (cDrop (cMutL 2 fExtend (cCons (cComp (cRng1 (cVar 4)) (gNm 5) tTrue ee_spine_ties_2 [5]) cNil)))
  (cSet 1 (cBin opAdd (cVar 1) (cVar 4))))
abbrev cc_spine_ties : CS := (cSeq (cSet 1 (cFn fLen (cCons (cVar 0) cNil)))
  (cSeq (cSet 2 (cComp (cRng1 (cBin opSub (cVar 1) (cLit (.int 1)))) (gNm 3) tTrue ee_spine_ties_1 [3]))
  (cSeq (cFor (cEnum (cVar 0)) (gTp 2 (gsCons (gNm 3) (gsCons (gNm 4) gsNil)))
  bb_spine_ties_3)
  (cRet (cTup (cCons (cVar 1) (cCons (cVar 2) cNil)))))))
def MM_spine_ties : FM := mkF 1 6 cc_spine_ties
theorem in_spine_ties {x0 : D} {m0 : Md} {T : D → Bool → List Slot → Prop} {E : Xc → List Slot → Prop} (h : gS (cc_spine_ties [some (x0, m0), none, none, none, none, none]) (fun ρ => T .none false (ρ.take 1)) (fun d fr ρ => T d fr (ρ.take 1)) (fun x ρ => E x (ρ.take 1))) : gF (MM_spine_ties [(x0, m0)]) T E := gF_mk rfl h
abbrev ee_row_ties_1 : CE := (cTup (cCons (cVar 2) (cCons (cBin opAdd (cVar 2) (cLit (.int 1))) cNil)))
abbrev cc_row_ties : CS := (cRet (cComp (cRng2 (cVar 0) (cVar 1)) (gNm 2) tTrue ee_row_ties_1 [2]))
def MM_row_ties : FM := mkF 2 3 cc_row_ties
theorem in_row_ties {x0 x1 : D} {m0 m1 : Md} {T : D → Bool → List Slot → Prop} {E : Xc → List Slot → Prop} (h : gS (cc_row_ties [some (x0, m0), some (x1, m1), none]) (fun ρ => T .none false (ρ.take 2)) (fun d fr ρ => T d fr (ρ.take 2)) (fun x ρ => E x (ρ.take 2))) : gF (MM_row_ties [(x0, m0), (x1, m1)]) T E := gF_mk rfl h
abbrev ee_kind_ties_1 : CE := (cTup (cCons (cVar 3) (cCons (cVar 5) cNil)))
abbrev bb_kind_ties_2 : CS := (cDrop (cMutL 2 fExtend (cCons (cComp (cRng2 (cBin opAdd (cVar 3) (cLit (.int 1))) (cVar 1)) (gNm 5) tTrue ee_kind_ties_1 [5]) cNil)))
abbrev ee_kind_ties_3 : CE := (cTup (cCons (cVar 3) (cCons (cBin opAdd (cVar 1) (cVar 5)) cNil)))
abbrev bb_kind_ties_4 : CS := (cDrop (cMutL 2 fExtend (cCons (cComp (cRng1 (cBin opIx (cVar 0) (cLit (.int 2)))) (gNm 5) tTrue ee_kind_ties_3 [5]) cNil)))
abbrev ee_kind_ties_5 : CE := (cTup (cCons (cLit (.int 0)) (cCons (cVar 4) cNil)))
abbrev cc_kind_ties : CS := (cSeq (cIf (cTst (cBin opEq (cBin opIx (cVar 0) (cLit (.int 0))) (cLit (.str "spine"))))
  (cRet (cCall MM_spine_ties (cCons (cBin opIx (cVar 0) (cLit (.int 1))) cNil)))
  cSkip)
  (cSeq (cSet 1 (cBin opIx (cVar 0) (cLit (.int 1))))
  (cSeq (cIf (cTst (cBin opEq (cBin opIx (cVar 0) (cLit (.int 0))) (cLit (.str "ring"))))
  (cRet (cTup (cCons (cVar 1) (cCons (cBin opAdd (cCall MM_row_ties (cCons (cLit (.int 0)) (cCons (cBin opSub (cVar 1) (cLit (.int 1))) cNil))) (cLst (cCons (cTup (cCons (cLit (.int 0)) (cCons (cBin opSub (cVar 1) (cLit (.int 1))) cNil))) cNil))) cNil))))
  cSkip)
  (cSeq (cIf (cTst (cBin opEq (cBin opIx (cVar 0) (cLit (.int 0))) (cLit (.str "full"))))
  (cSeq (cSet 2 (cLst cNil))
  (cSeq (cFor (cRng1 (cVar 1)) (gNm 3)
  bb_kind_ties_2)
  (cRet (cTup (cCons (cVar 1) (cCons (cVar 2) cNil))))))
  cSkip)
  (cSeq (cIf (cTst (cBin opEq (cBin opIx (cVar 0) (cLit (.int 0))) (cLit (.str "sides"))))
  (cSeq (cSet 2 (cLst cNil))
  (cSeq (cFor (cRng1 (cVar 1)) (gNm 3)
  bb_kind_ties_4)
  (cRet (cTup (cCons (cBin opAdd (cVar 1) (cBin opIx (cVar 0) (cLit (.int 2)))) (cCons (cVar 2) cNil))))))
  cSkip)
  (cSeq (cSet 2 (cBin opAdd (cComp (cRng2 (cLit (.int 1)) (cBin opAdd (cVar 1) (cLit (.int 1)))) (gNm 4) tTrue ee_kind_ties_5 [4]) (cCall MM_row_ties (cCons (cLit (.int 1)) (cCons (cVar 1) cNil)))))
  (cSeq (cIf (cTst (cBin opEq (cBin opIx (cVar 0) (cLit (.int 0))) (cLit (.str "wheel"))))
  (cDrop (cMutL 2 fAppend (cCons (cTup (cCons (cLit (.int 1)) (cCons (cVar 1) cNil))) cNil)))
  cSkip)
  (cRet (cTup (cCons (cBin opAdd (cVar 1) (cLit (.int 1))) (cCons (cVar 2) cNil)))))))))))
def MM_kind_ties : FM := mkF 1 6 cc_kind_ties
theorem in_kind_ties {x0 : D} {m0 : Md} {T : D → Bool → List Slot → Prop} {E : Xc → List Slot → Prop} (h : gS (cc_kind_ties [some (x0, m0), none, none, none, none, none]) (fun ρ => T .none false (ρ.take 1)) (fun d fr ρ => T d fr (ρ.take 1)) (fun x ρ => E x (ρ.take 1))) : gF (MM_kind_ties [(x0, m0)]) T E := gF_mk rfl h
abbrev cc_kind_good : CS := (cSeq (cIf (cNot (cTst (cCall MM_kind_form (cCons (cVar 0) cNil))))
  (cRet (cLit (.bool false)))
  cSkip)
  (cSeq (cUnp (gTp 2 (gsCons (gNm 1) (gsCons (gNm 2) gsNil))) (cCall MM_kind_ties (cCons (cVar 0) cNil)))
  (cRet (cAndV (cBin opLe (cVar 1) (cLit (.int 40))) (cBin opLe (cFn fLen (cCons (cVar 2) cNil)) (cLit (.int 60)))))))
def MM_kind_good : FM := mkF 1 3 cc_kind_good
theorem in_kind_good {x0 : D} {m0 : Md} {T : D → Bool → List Slot → Prop} {E : Xc → List Slot → Prop} (h : gS (cc_kind_good [some (x0, m0), none, none]) (fun ρ => T .none false (ρ.take 1)) (fun d fr ρ => T d fr (ρ.take 1)) (fun x ρ => E x (ρ.take 1))) : gF (MM_kind_good [(x0, m0)]) T E := gF_mk rfl h
abbrev cc_web_for : CS := (cSeq (cIf (cNot (cTst (cCall MM_kind_good (cCons (cVar 0) cNil))))
  (cRaise "NoKind")
  cSkip)
  (cSeq (cUnp (gTp 2 (gsCons (gNm 1) (gsCons (gNm 2) gsNil))) (cCall MM_kind_ties (cCons (cVar 0) cNil)))
  (cRet (cTup (cCons (cVar 1) (cCons (cFn fTuple (cCons (cFn fSorted (cCons (cVar 2) cNil)) cNil)) cNil))))))
def MM_web_for : FM := mkF 1 3 cc_web_for
theorem in_web_for {x0 : D} {m0 : Md} {T : D → Bool → List Slot → Prop} {E : Xc → List Slot → Prop} (h : gS (cc_web_for [some (x0, m0), none, none]) (fun ρ => T .none false (ρ.take 1)) (fun d fr ρ => T d fr (ρ.take 1)) (fun x ρ => E x (ρ.take 1))) : gF (MM_web_for [(x0, m0)]) T E := gF_mk rfl h
theorem sum_lgI (legs : List Nat) : (legs.map fun (k : Nat) => (k : Int)).sum = ((legs.sum : Nat) : Int) := by
  induction legs with
  | nil => rfl
  | cons a l ih => rw [List.map_cons, List.sum_cons, List.sum_cons, ih]; simp
theorem sum_lgT (legs : List Nat) : fSum [.tuple (lg legs)] = some (.val (.int (legs.sum : Nat))) := by
  have e : lg legs = (legs.map fun (k : Nat) => (k : Int)).map .int := by unfold lg; rw [List.map_map]; rfl
  rw [e, fSum_t, sum_lgI]
theorem fLen_lgT (legs : List Nat) : fLen [.tuple (lg legs)] = some (.val (.int (legs.length : Nat))) := by simp [fLen, lg]
theorem le_sum {x : Nat} : ∀ {l : List Nat}, x ∈ l → x ≤ l.sum
  | a :: l, h => by
    rw [List.sum_cons]
    rcases List.mem_cons.mp h with h | h
    · omega
    · have := le_sum h; omega
theorem legsg_run {legs : List Nat} (h1 : 1 ≤ legs.length) (h2 : legs.length + legs.sum ≤ 40) : (MM_legs_good [(.tuple (lg legs), .fz)]).rv = some (.bool true, false) := by
  have hfl := fLen_lgT legs
  have hsu := sum_lgT legs
  have hlg : lg legs = legs.map fun (k : Nat) => PyData.int (k : Nat) := rfl
  generalize lg legs = LD at *
  refine rv_gF (in_legs_good ?_)
  repeat' array_mem_dec
  refine cp_map legs (fun (k : Nat) => .int (k : Nat)) (fun _ => .bool true) hlg (by omega) (by (first | exact rfl | (repeat (first | exact TN.wOk_nil | ((apply TN.wOk_cons); exact rfl; (first | exact TN.okW_none | exact TN.okW_fz | exact TN.okW_jk | assumption)))))) (by (repeat (first | exact wipe_nil | apply wipe_cons | exact st0 | apply stS))) ?_ ?_
  · intro x hx
    have := le_sum hx
    repeat' (first | (apply c_rv rfl rfl (whole_run _)) | array_mem_dec)
    rw [decide_eq_true (by omega)]
    exact ⟨rfl, rfl⟩
  · repeat' array_mem_dec
    rw [decide_eq_true (by omega)]
    exact ⟨rfl, rfl⟩
theorem row_run (a b : Nat) (hb : b ≤ 100) (hab : a ≤ b) : (MM_row_ties [(.int (a : Nat), .fz), (.int (b : Nat), .fz)]).rv = some (.list ((rowT a b).map tieD), true) := by
  refine rv_gF (in_row_ties ?_)
  repeat' array_mem_dec
  refine TN.cp_rng2 (a) (b - a) (fun i => tieD (a + i, a + i + 1)) (by (first | omega | exact rfl)) (by (first | omega | exact rfl)) (by (first | omega | (simp; done) | (simp; omega))) (by (first | exact rfl | (repeat (first | exact TN.wOk_nil | ((apply TN.wOk_cons); exact rfl; (first | exact TN.okW_none | exact TN.okW_fz | exact TN.okW_jk | assumption)))))) (by (repeat (first | exact wipe_nil | apply wipe_cons | exact st0 | apply stS))) ?_ ?_
  · intro i hi
    repeat' array_mem_dec
    exact ⟨rfl, rfl⟩
  · repeat' array_mem_dec
    unfold rowT
    rw [List.map_map]
    exact ⟨rfl, rfl⟩
theorem spin_succ (legs : List Nat) (K : Nat) : spinT legs (K + 1) = spinT legs K ++ (List.range (legs.getD K 0)).map fun i => (K, offS legs K + i) := by
  unfold spinT; rw [List.range_succ, List.flatMap_append]; simp
theorem spine_run2 {legs : List Nat} (h1 : 1 ≤ legs.length) (h2 : legs.length + legs.sum ≤ 40) : (MM_spine_ties [(.tuple (lg legs), .fz)]).rv = some (.tuple [.int ((legs.length + legs.sum : Nat) : Int), .list ((rowT 0 (legs.length - 1) ++ spinT legs legs.length).map tieD)], false) := by
  have hfl := fLen_lgT legs
  have hlg : lg legs = legs.map fun (k : Nat) => PyData.int (k : Nat) := rfl
  have hrl := row_len 0 (legs.length - 1)
  generalize lg legs = LD at *
  refine rv_gF (in_spine_ties ?_)
  repeat' array_mem_dec
  refine TN.cp_rng (legs.length - 1) (fun i => tieD (0 + i, 0 + i + 1)) (by (first | omega | exact rfl)) (by (first | omega | (simp; done) | (simp; omega))) (by (first | exact rfl | (repeat (first | exact TN.wOk_nil | ((apply TN.wOk_cons); exact rfl; (first | exact TN.okW_none | exact TN.okW_fz | exact TN.okW_jk | assumption)))))) (by (repeat (first | exact wipe_nil | apply wipe_cons | exact st0 | apply stS))) ?_ ?_
  · intro i hi
    repeat' array_mem_dec
    rw [Nat.zero_add]
    exact ⟨rfl, rfl⟩
  · rw [show (List.range (legs.length - 1)).map (fun i => tieD (0 + i, 0 + i + 1)) = (rowT 0 (legs.length - 1)).map tieD by unfold rowT; rw [List.map_map]; rfl]
    repeat' array_mem_dec
    refine for_enum legs (fun (k : Nat) => .int (k : Nat)) (fun pre ρ => ∃ j3 j4, ρ = [some (.tuple LD, .fz), some (.int (offS legs pre.length : Nat), .fz), some (.list ((rowT 0 (legs.length - 1) ++ spinT legs pre.length).map tieD), .own), jk j3, jk j4, none]) hlg ⟨none, none, by simp [spinT, offS, jk]⟩ ?_ ?_
    · rintro pre x post _ hE ⟨j3, j4, rfl⟩
      have hk : pre.length < legs.length := by rw [hE]; simp
      have hx : legs.getD pre.length 0 = x := by rw [hE]; simp
      have hxs : x ≤ legs.sum := le_sum (by rw [hE]; simp)
      have hsl := spin_len legs pre.length
      have hol := off_sum legs pre.length (by omega)
      have htl := take_le legs pre.length
      repeat' array_mem_dec
      refine TN.cp_rng (x) (fun i => tieD (pre.length, offS legs pre.length + i)) (by (first | omega | exact rfl)) (by (first | omega | (simp; done) | (simp; omega))) (by (first | exact rfl | (repeat (first | exact TN.wOk_nil | ((apply TN.wOk_cons); exact rfl; (first | exact TN.okW_none | exact TN.okW_fz | exact TN.okW_jk | assumption)))))) (by (repeat (first | exact wipe_nil | apply wipe_cons | exact st0 | apply stS))) ?_ ?_
      · intro i hi
        repeat' array_mem_dec
        exact ⟨rfl, rfl⟩
      · repeat' array_mem_dec
        refine ⟨some (.int (pre.length : Nat)), some (.int (x : Nat)), ?_⟩
        rw [List.length_append, List.length_singleton, spin_succ, offS, hx, ← List.append_assoc]
        simp only [List.map_append, List.map_map]
        rfl
    · rintro _ ⟨j3, j4, rfl⟩
      repeat' array_mem_dec
      rw [off_end]
      exact ⟨rfl, rfl⟩
theorem full_succ (n K : Nat) : fullT n (K + 1) = fullT n K ++ (List.range (n - (K + 1))).map fun j => (K, K + 1 + j) := by
  unfold fullT; rw [List.range_succ, List.flatMap_append]; simp
theorem sid_succ (a b K : Nat) : sidT a b (K + 1) = sidT a b K ++ (List.range b).map fun j => (K, a + j) := by
  unfold sidT; rw [List.range_succ, List.flatMap_append]; simp
theorem full_le {n K : Nat} (h : n ≤ 100) (hK : K ≤ n) : (fullT n K).length ≤ K * 100 := by
  induction K with
  | zero => simp [fullT]
  | succ K ih =>
    have := ih (by omega)
    rw [full_succ, List.length_append, Nat.succ_mul]; simp; omega
theorem kties_run : ∀ {k : Kd}, KdOk k → (MM_kind_ties [(kdD k, .fz)]).rv = some (.tuple [.int (kdN k : Nat), .list ((kdT k).map tieD)], false)
  | .spine legs, ⟨h1, h2⟩ => by
    have h := spine_run2 h1 h2
    simp only [kdD, kdN, kdT]
    refine rv_gF (in_kind_ties ?_)
    repeat' (first | (apply c_rv rfl rfl h) | array_mem_dec)
    exact ⟨rfl, rfl⟩
  | .ring n, ⟨h1, h2⟩ => by
    have h := row_run 0 (n - 1) (by omega) (by omega)
    have hrl := row_len 0 (n - 1)
    simp only [kdD, kdN, kdT]
    refine rv_gF (in_kind_ties ?_)
    have e : ((n : Nat) : Int) - 1 = ((n - 1 : Nat) : Int) := by omega
    repeat' (first | (rw [e]) | (apply c_rvT rfl rfl h) | array_mem_dec)
    refine ⟨?_, rfl⟩
    rw [List.map_append]; rfl
  | .sides a b, ⟨h1, h2, h3, h4⟩ => by
    have hsl : ∀ K, K ≤ a → (sidT a b K).length ≤ 2000 := fun K hK => by
      rw [sid_len]
      have := Nat.mul_le_mul hK (Nat.le_refl b)
      omega
    simp only [kdD, kdN, kdT]
    refine rv_gF (in_kind_ties ?_)
    repeat' array_mem_dec
    refine for_rng a (fun k ρ => ∃ j3, ρ = [some (.tuple [.str "sides", .int (a : Nat), .int (b : Nat)], .fz), some (.int (a : Nat), .fz), some (.list ((sidT a b k).map tieD), .own), jk j3, none, none]) rfl ⟨none, rfl⟩ ?_ ?_
    · rintro k _ hk ⟨j3, rfl⟩
      have := hsl k (by omega)
      repeat' array_mem_dec
      refine TN.cp_rng (b) (fun i => tieD (k, a + i)) (by (first | omega | exact rfl)) (by (first | omega | (simp; done) | (simp; omega))) (by (first | exact rfl | (repeat (first | exact TN.wOk_nil | ((apply TN.wOk_cons); exact rfl; (first | exact TN.okW_none | exact TN.okW_fz | exact TN.okW_jk | assumption)))))) (by (repeat (first | exact wipe_nil | apply wipe_cons | exact st0 | apply stS))) ?_ ?_
      · intro i hi
        repeat' array_mem_dec
        exact ⟨rfl, rfl⟩
      · repeat' array_mem_dec
        refine ⟨some (.int (k : Nat)), ?_⟩
        rw [sid_succ]
        simp only [List.map_append, List.map_map]
        rfl
    · rintro _ ⟨j3, rfl⟩
      repeat' array_mem_dec
      exact ⟨rfl, rfl⟩
  | .full n, ⟨h1, h2⟩ => by
    simp only [kdD, kdN, kdT]
    refine rv_gF (in_kind_ties ?_)
    repeat' array_mem_dec
    refine for_rng n (fun k ρ => ∃ j3, ρ = [some (.tuple [.str "full", .int (n : Nat)], .fz), some (.int (n : Nat), .fz), some (.list ((fullT n k).map tieD), .own), jk j3, none, none]) rfl ⟨none, rfl⟩ ?_ ?_
    · rintro k _ hk ⟨j3, rfl⟩
      have := full_le (n := n) (K := k) (by omega) (by omega)
      repeat' array_mem_dec
      refine TN.cp_rng2 (k + 1) (n - (k + 1)) (fun i => tieD (k, k + 1 + i)) (by (first | omega | exact rfl)) (by (first | omega | exact rfl)) (by (first | omega | (simp; done) | (simp; omega))) (by (first | exact rfl | (repeat (first | exact TN.wOk_nil | ((apply TN.wOk_cons); exact rfl; (first | exact TN.okW_none | exact TN.okW_fz | exact TN.okW_jk | assumption)))))) (by (repeat (first | exact wipe_nil | apply wipe_cons | exact st0 | apply stS))) ?_ ?_
      · intro i hi
        repeat' array_mem_dec
        exact ⟨rfl, rfl⟩
      · repeat' array_mem_dec
        refine ⟨some (.int (k : Nat)), ?_⟩
        rw [full_succ]
        simp only [List.map_append, List.map_map]
        rfl
    · rintro _ ⟨j3, rfl⟩
      repeat' array_mem_dec
      exact ⟨rfl, rfl⟩
  | .wheel n, ⟨h1, h2⟩ => by
    have h := row_run 1 n (by omega) (by omega)
    have hrl := row_len 1 n
    simp only [kdD, kdN, kdT]
    refine rv_gF (in_kind_ties ?_)
    repeat' array_mem_dec
    refine TN.cp_rng2 (1) (n) (fun i => tieD (0, 1 + i)) (by (first | omega | exact rfl)) (by (first | omega | exact rfl)) (by (first | omega | (simp; done) | (simp; omega))) (by (first | exact rfl | (repeat (first | exact TN.wOk_nil | ((apply TN.wOk_cons); exact rfl; (first | exact TN.okW_none | exact TN.okW_fz | exact TN.okW_jk | assumption)))))) (by (repeat (first | exact wipe_nil | apply wipe_cons | exact st0 | apply stS))) ?_ ?_
    · intro i hi
      repeat' array_mem_dec
      exact ⟨rfl, rfl⟩
    · repeat' (first | (apply c_rvT rfl rfl h) | array_mem_dec)
      refine ⟨?_, rfl⟩
      simp only [List.map_append, List.map_map]
      rfl
  | .fan n, ⟨h1, h2⟩ => by
    have h := row_run 1 n (by omega) (by omega)
    have hrl := row_len 1 n
    simp only [kdD, kdN, kdT]
    refine rv_gF (in_kind_ties ?_)
    repeat' array_mem_dec
    refine TN.cp_rng2 (1) (n) (fun i => tieD (0, 1 + i)) (by (first | omega | exact rfl)) (by (first | omega | exact rfl)) (by (first | omega | (simp; done) | (simp; omega))) (by (first | exact rfl | (repeat (first | exact TN.wOk_nil | ((apply TN.wOk_cons); exact rfl; (first | exact TN.okW_none | exact TN.okW_fz | exact TN.okW_jk | assumption)))))) (by (repeat (first | exact wipe_nil | apply wipe_cons | exact st0 | apply stS))) ?_ ?_
    · intro i hi
      repeat' array_mem_dec
      exact ⟨rfl, rfl⟩
    · repeat' (first | (apply c_rvT rfl rfl h) | array_mem_dec)
      refine ⟨?_, rfl⟩
      simp only [List.map_append, List.map_map]
      rfl
theorem kform_run : ∀ {k : Kd}, KdOk k → (MM_kind_form [(kdD k, .fz)]).rv = some (.bool true, false)
  | .spine legs, ⟨h1, h2⟩ => by
    have h := legsg_run h1 h2
    simp only [kdD]
    refine rv_gF (in_kind_form ?_)
    repeat' (first | (apply c_rv rfl rfl h) | array_mem_dec)
    exact ⟨rfl, rfl⟩
  | .sides a b, ⟨h1, h2, h3, h4⟩ => by
    simp only [kdD]
    refine rv_gF (in_kind_form ?_)
    repeat' array_mem_dec
    refine cp_map [a, b] (fun (k : Nat) => .int (k : Nat)) (fun _ => .bool true) rfl (by simp) (by (first | exact rfl | (repeat (first | exact TN.wOk_nil | ((apply TN.wOk_cons); exact rfl; (first | exact TN.okW_none | exact TN.okW_fz | exact TN.okW_jk | assumption)))))) (by (repeat (first | exact wipe_nil | apply wipe_cons | exact st0 | apply stS))) ?_ ?_
    · intro x hx
      have hx2 : x = a ∨ x = b := by simpa using hx
      repeat' (first | (apply c_rv rfl rfl (whole_run _)) | array_mem_dec)
      rw [decide_eq_true (by omega)]
      exact ⟨rfl, rfl⟩
    · repeat' array_mem_dec
      exact ⟨rfl, rfl⟩
  | .ring n, ⟨h1, h2⟩ => by
    have hin : opInC [("ring", 3), ("full", 1), ("wheel", 3), ("fan", 1)] (.str "ring") = some (.val (.bool true)) := rfl
    have hix : opIxC [("ring", 3), ("full", 1), ("wheel", 3), ("fan", 1)] (.str "ring") = some (.val (.int 3)) := rfl
    simp only [kdD]
    refine rv_gF (in_kind_form ?_)
    repeat' array_mem_dec
    refine cp_map [n] (fun (k : Nat) => .int (k : Nat)) (fun _ => .bool true) rfl (by simp) (by (first | exact rfl | (repeat (first | exact TN.wOk_nil | ((apply TN.wOk_cons); exact rfl; (first | exact TN.okW_none | exact TN.okW_fz | exact TN.okW_jk | assumption)))))) (by (repeat (first | exact wipe_nil | apply wipe_cons | exact st0 | apply stS))) ?_ ?_
    · intro x hx
      have hx2 : x = n := by simpa using hx
      repeat' (first | (apply c_rv rfl rfl (whole_run _)) | array_mem_dec)
      rw [decide_eq_true (by omega)]
      exact ⟨rfl, rfl⟩
    · repeat' array_mem_dec
      rw [decide_eq_true (by omega)]
      exact ⟨rfl, rfl⟩
  | .full n, ⟨h1, h2⟩ => by
    have hin : opInC [("ring", 3), ("full", 1), ("wheel", 3), ("fan", 1)] (.str "full") = some (.val (.bool true)) := rfl
    have hix : opIxC [("ring", 3), ("full", 1), ("wheel", 3), ("fan", 1)] (.str "full") = some (.val (.int 1)) := rfl
    simp only [kdD]
    refine rv_gF (in_kind_form ?_)
    repeat' array_mem_dec
    refine cp_map [n] (fun (k : Nat) => .int (k : Nat)) (fun _ => .bool true) rfl (by simp) (by (first | exact rfl | (repeat (first | exact TN.wOk_nil | ((apply TN.wOk_cons); exact rfl; (first | exact TN.okW_none | exact TN.okW_fz | exact TN.okW_jk | assumption)))))) (by (repeat (first | exact wipe_nil | apply wipe_cons | exact st0 | apply stS))) ?_ ?_
    · intro x hx
      have hx2 : x = n := by simpa using hx
      repeat' (first | (apply c_rv rfl rfl (whole_run _)) | array_mem_dec)
      rw [decide_eq_true (by omega)]
      exact ⟨rfl, rfl⟩
    · repeat' array_mem_dec
      rw [decide_eq_true (by omega)]
      exact ⟨rfl, rfl⟩
  | .wheel n, ⟨h1, h2⟩ => by
    have hin : opInC [("ring", 3), ("full", 1), ("wheel", 3), ("fan", 1)] (.str "wheel") = some (.val (.bool true)) := rfl
    have hix : opIxC [("ring", 3), ("full", 1), ("wheel", 3), ("fan", 1)] (.str "wheel") = some (.val (.int 3)) := rfl
    simp only [kdD]
    refine rv_gF (in_kind_form ?_)
    repeat' array_mem_dec
    refine cp_map [n] (fun (k : Nat) => .int (k : Nat)) (fun _ => .bool true) rfl (by simp) (by (first | exact rfl | (repeat (first | exact TN.wOk_nil | ((apply TN.wOk_cons); exact rfl; (first | exact TN.okW_none | exact TN.okW_fz | exact TN.okW_jk | assumption)))))) (by (repeat (first | exact wipe_nil | apply wipe_cons | exact st0 | apply stS))) ?_ ?_
    · intro x hx
      have hx2 : x = n := by simpa using hx
      repeat' (first | (apply c_rv rfl rfl (whole_run _)) | array_mem_dec)
      rw [decide_eq_true (by omega)]
      exact ⟨rfl, rfl⟩
    · repeat' array_mem_dec
      rw [decide_eq_true (by omega)]
      exact ⟨rfl, rfl⟩
  | .fan n, ⟨h1, h2⟩ => by
    have hin : opInC [("ring", 3), ("full", 1), ("wheel", 3), ("fan", 1)] (.str "fan") = some (.val (.bool true)) := rfl
    have hix : opIxC [("ring", 3), ("full", 1), ("wheel", 3), ("fan", 1)] (.str "fan") = some (.val (.int 1)) := rfl
    simp only [kdD]
    refine rv_gF (in_kind_form ?_)
    repeat' array_mem_dec
    refine cp_map [n] (fun (k : Nat) => .int (k : Nat)) (fun _ => .bool true) rfl (by simp) (by (first | exact rfl | (repeat (first | exact TN.wOk_nil | ((apply TN.wOk_cons); exact rfl; (first | exact TN.okW_none | exact TN.okW_fz | exact TN.okW_jk | assumption)))))) (by (repeat (first | exact wipe_nil | apply wipe_cons | exact st0 | apply stS))) ?_ ?_
    · intro x hx
      have hx2 : x = n := by simpa using hx
      repeat' (first | (apply c_rv rfl rfl (whole_run _)) | array_mem_dec)
      rw [decide_eq_true (by omega)]
      exact ⟨rfl, rfl⟩
    · repeat' array_mem_dec
      rw [decide_eq_true (by omega)]
      exact ⟨rfl, rfl⟩
theorem kgood_run {k : Kd} (h : KdOk k) : (MM_kind_good [(kdD k, .fz)]).rv = some (.bool true, false) := by
  have h1 := kform_run h
  have h2 := kties_run h
  have hw := kd_web h
  have hn := hw.n40
  have ht := hw.t60
  generalize kdD k = KD at *
  refine rv_gF (in_kind_good ?_)
  repeat' (first | (apply c_rv rfl rfl h1) | (apply c_rv rfl rfl h2) | array_mem_dec)
  rw [decide_eq_true (by omega)]
  exact ⟨rfl, rfl⟩
theorem webfor_run {k : Kd} (h : KdOk k) : (MM_web_for [(kdD k, .fz)]).rv = some (kdWeb k, false) := by
  have h1 := kgood_run h
  have h2 := kties_run h
  have hw := kd_web h
  have ht := hw.t60
  have hso := sortT_run (kdT k) (by omega)
  unfold kdWeb
  generalize kdD k = KD at *
  refine rv_gF (in_web_for ?_)
  repeat' (first | (apply c_rv rfl rfl h1) | (apply c_rv rfl rfl h2) | array_mem_dec)
  exact ⟨rfl, rfl⟩
end TN
namespace TN
open PySem PySem.Spec PyProof.Rows L2
end TN
namespace TN
open PySem PySem.Spec PyProof.Rows L2
/-! ### defs that hand out new lists in a tuple, from their end -/
/-! ### the law's webs of kinds -/
section
variable {C : Nat → Nat → Prop} [∀ a b, Decidable (C a b)]
end
end TN
namespace TN
open PySem PySem.Spec PyProof.Rows L2
/-! ### equal webs -/
theorem eqv_tie (a b : Nat × Nat) : PyData.eqv (tieD a) (tieD b) = decide (a = b) := by
  obtain ⟨a1, a2⟩ := a
  obtain ⟨b1, b2⟩ := b
  simp only [tieD, PyData.eqv, PyData.eqvAll, Bool.and_true]
  rw [Bool.eq_iff_iff]
  simp
  omega
/-! ### f(g(..), x) where g's list is lent -/
end TN
namespace TN
open PySem PySem.Spec PyProof.Rows L2
/-! ### steps numberings of kinds, plainly -/
/-! ### the package's runs -/
def kdW : Kd → Str
  | .spine _ => "spine" | .ring _ => "ring" | .sides _ _ => "sides" | .full _ => "full" | .wheel _ => "wheel" | .fan _ => "fan"
theorem kd_word (k : Kd) : opIx (kdD k) (.int 0) = some (.val (.str (kdW k))) := by cases k <;> rfl
end TN
namespace TN
open PySem PySem.Spec PyProof.Rows L2
/-! steps_for, parted_for and the law's look at a steps numbering, as runs -/
end TN
namespace TN
open PySem PySem.Spec PyProof.Rows L2
/-! kinds compared, plainly -/
end TN
namespace TNO
open TN
open PySem PySem.Spec PyProof.Rows L2
/-! comprehensions over an own list, told from their end -/
end TNO
namespace TN
open PySem PySem.Spec PyProof.Rows L2
end TN
namespace TN
open PySem PySem.Spec PyProof.Rows L2
/-! ### copies that go round, plainly -/
structure RP (C : Nat) (P : List (Int × Int)) : Prop where
  rg : ∀ p ∈ P, (0 ≤ p.1 ∧ p.1 ≤ C) ∧ (0 ≤ p.2 ∧ p.2 ≤ C) ∧ p.1 ≠ p.2
  df : P.Pairwise fun p q => absI (p.1 - p.2) ≠ absI (q.1 - q.2)
section
variable {C M t t' : Nat} {p q : Int × Int}
end
theorem pw_inj {α : Type} {l : List α} {f : α → Int} (h : l.Pairwise fun p q => f p ≠ f q) : ∀ {p q}, p ∈ l → q ∈ l → f p = f q → p = q := by
  induction l with
  | nil => intro p q hp; cases hp
  | cons a l ih =>
    obtain ⟨h1, h2⟩ := List.pairwise_cons.mp h
    intro p q hp hq e
    rcases List.mem_cons.mp hp with h3 | h3
    · rcases List.mem_cons.mp hq with h4 | h4
      · rw [h3, h4]
      · subst h3; exact absurd e (h1 q h4)
    · rcases List.mem_cons.mp hq with h4 | h4
      · subst h4; exact absurd e.symm (h1 p h3)
      · exact ih h2 h3 h4 e
theorem RP.inj {C : Nat} {P : List (Int × Int)} (r : RP C P) {p q : Int × Int} (hp : p ∈ P) (hq : q ∈ P) (h : absI (p.1 - p.2) = absI (q.1 - q.2)) : p = q := pw_inj (f := fun p : Int × Int => absI (p.1 - p.2)) r.df hp hq h
/-! ### .. and as runs -/
end TN
namespace TNO
open TN
open PySem PySem.Spec PyProof.Rows L2
/-! i in range(..), told from its end -/
end TNO
namespace TN
open PySem PySem.Spec PyProof.Rows L2
end TN
namespace TN
open PySem PySem.Spec PyProof.Rows L2
theorem gF_mkE {n m : Nat} {c : CS} {as : List (D × Md)} {ρ0 : Rho} {T : D → Bool → List Slot → Prop} {E : Xc → List Slot → Prop} (hl : as.length = n) (e : as.map some ++ List.replicate (m - n) none = ρ0) (h : gS (c ρ0) (fun ρ => T .none false (ρ.take n)) (fun d fr ρ => T d fr (ρ.take n)) (fun x ρ => E x (ρ.take n))) : gF (mkF n m c as) T E := by
  subst e
  exact gF_mk hl h
end TN
namespace TN
open PySem PySem.Spec PyProof.Rows L2
/-! the sums of round numberings, turned and so often -/
section
variable {n : Nat} {ts : List (Nat × Nat)} {ns : List Int}
structure RdN (n : Nat) (ts : List (Nat × Nat)) (ns : List Int) : Prop where
  pos : 0 < ts.length
  len : ns.length = n
  rng : ∀ x ∈ ns, 0 ≤ x ∧ x < (ts.length : Int)
  un : (ddI ns).length + (if treeB n ts = true then 1 else 0) = n
  su : (sumsR ts ns).Perm (rgI 0 (ts.length : Int))
end
/-! ### bars of round numberings, plainly -/
section
variable {n : Nat} {ts : List (Nat × Nat)} {ns : List Int}
end
end TN
namespace TN
open PySem PySem.Spec PyProof.Rows L2
/-! ### how many pieces there are, plainly -/
end TN
namespace TN
open PySem PySem.Spec PyProof.Rows L2
/-! ### trees have two sides; pieces hold all places, once; plainly -/
end TN
namespace TN
open PySem PySem.Spec PyProof.Rows L2
/-! ### kinds by their words, plainly -/
def hubB (n : Nat) (ts : List (Nat × Nat)) : List Nat := (List.range n).filter fun k => decide (deg ts k + 1 = n)
theorem hub_perm {n : Nat} {ts ts' : List (Nat × Nat)} (h : ts.Perm ts') : hubB n ts = hubB n ts' := by
  unfold hubB
  exact List.filter_congr fun k _ => by rw [show deg ts k = deg ts' k from h.countP_eq _]
end TN
namespace TN
open PySem PySem.Spec PyProof.Rows L2
/-! ### s.upper() -/
end TN
namespace TN
open PySem PySem.Spec PyProof.Rows L2
/-! ### kind_form of a thing of any form -/
end TN
namespace TN
open PySem PySem.Spec PyProof.Rows L2
/-! ### kinds by form, too great ones too -/
end TN
namespace TN
open PySem PySem.Spec PyProof.Rows L2
/-! ### kind_good of a thing of any form -/
structure Thg (t : D) : Prop where
  wd : ∀ w rest, t = .tuple (.str w :: rest) → PyData.strOk w = true ∧ rest.length ≤ 1000 ∧ ∀ ls, .tuple ls ∈ rest → ls.length ≤ 1000
  ln : ∀ ls, t = .tuple ls → ls.length ≤ 1000
  nd : ∀ b rest, t ≠ .tuple (.dict b :: rest)
end TN
namespace TNO
open TN
open PySem PySem.Spec PyProof.Rows L2
/-! d.get(k, z), told from its end -/
theorem w_get2 {co ck cz : CE} {ρ : Rho} {Q : Pl → Rho → Prop} {E : Xc → Rho → Prop} (h : gE (co ρ) (fun p ρ1 => lk p ρ1 fun d0 => ∃ es0, d0 = .dict es0 ∧ isE es0 = false ∧ gE (ck ρ1) (fun q ρ2 => gE (cz ρ2) (fun r ρ3 => lk p ρ3 fun d => ∃ es, d = .dict es ∧ lk q ρ3 fun k => ∃ dz, r = .val dz ∧ gO (dGet es k) fun o => Q (.val (o.getD dz)) ρ3) E) E) E) : gE (cGet2 co ck cz ρ) Q E := by
  unfold cGet2
  refine gE_bind (gE_mono h fun p ρ1 h1 => ?_)
  obtain ⟨d0, hd0, es0, hes, he, h2⟩ := gO_ex h1
  rw [hd0]
  subst hes
  simp only [he]
  rw [if_neg (by simp)]
  refine gE_bind (gE_mono h2 fun q ρ2 h3 => gE_bind (gE_mono h3 fun r ρ3 h4 => ?_))
  obtain ⟨d, hd, es, hds, h5⟩ := gO_ex h4
  obtain ⟨k, hk, dz, hr, h6⟩ := gO_ex h5
  obtain ⟨o, ho, h7⟩ := gO_ex h6
  subst hds hr
  simp only [hd, hk, ho]
  exact h7
end TNO
namespace TN
open PySem PySem.Spec PyProof.Rows L2
theorem w_get2 {co ck cz : CE} {ρ : Rho} {Q : Pl → Rho → Prop} {E : Xc → Rho → Prop} (h : gE (co ρ) (fun p ρ1 => lk p ρ1 fun d0 => ∃ es0, d0 = .dict es0 ∧ isE es0 = false ∧ gE (ck ρ1) (fun q ρ2 => gE (cz ρ2) (fun r ρ3 => lk p ρ3 fun d => ∃ es, d = .dict es ∧ lk q ρ3 fun k => ∃ dz, r = .val dz ∧ gO (dGet es k) fun o => Q (.val (o.getD dz)) ρ3) E) E) E) : gE (cGet2 co ck cz ρ) Q E := by with_unfolding_all exact TNO.w_get2 h
end TN
/-! ### enumerate(reversed(xs)) -/
namespace PySem
open Sem (wp)
open AutoSeq1 (wpAny_loadPart')
section
variable {prog : Program} {w : World} {A : Around} {E : Value → Shared → Prop} {s : Shared}
end
section
variable {prog : Program} {w : World} {A : Around} {E : Value → Shared → Prop} {s : Shared}
end
end PySem
namespace TN
open PySem PySem.Spec PyProof.Rows L2
section
variable {X : Cx} {e : Expr} {c : CE} {p pos : Pos}
end
end TN
namespace TNO
open PySem PySem.Spec PyProof.Rows L2 TN
end TNO
namespace TN
open PySem PySem.Spec PyProof.Rows L2
end TN
/-! ### zip of a list with a tuple, of a tuple with a list (printed by mkL90.py) -/
namespace PySem
open Sem (wp)
abbrev zipLTH1 (h : Heap) (l1 : Addr) : Heap := h.push { cls := .type "list_iterator", data := .fields #[.ref l1, .int 0 0] }
abbrev zipLTH2 (h : Heap) (l1 l2 : Addr) : Heap := (zipLTH1 h l1).push { cls := .type "tuple_iterator", data := .fields #[.ref l2, .int 0 0] }
abbrev zipLTH3 (h : Heap) (l1 l2 : Addr) : Heap := (zipLTH2 h l1 l2).push { cls := .type "tuple", data := .seq #[.ref h.objs.size, .ref (zipLTH1 h l1).objs.size] }
abbrev zipLTH4 (h : Heap) (l1 l2 : Addr) : Heap := (zipLTH3 h l1 l2).push { cls := .type "tuple", data := .seq #[.none, .none] }
abbrev zipLTH5 (h : Heap) (l1 l2 : Addr) : Heap := (zipLTH4 h l1 l2).push { cls := .type "zip", data := .fields #[.none, .bool false, .bool false, .ref (zipLTH2 h l1 l2).objs.size, .ref (zipLTH3 h l1 l2).objs.size] }
theorem meets_zipLT_new (l1 l2 : Addr) (xs ys : Array Value) :
    Meets (Builtin.«zip.__new__» ⟨[.type "zip", .ref l1, .ref l2], []⟩) (fun _ R s => s.heap.IsList l1 xs ∧ s.heap.IsTuple l2 ys ∧
      R (.ok (.ret (.ref (zipLTH4 s.heap l1 l2).objs.size))) { s with heap := zipLTH5 s.heap l1 l2 }) :=
  .of_wp fun prog w A R s h => by
    obtain ⟨hp, g, d, tk, os⟩ := s; obtain ⟨hl1, hl2, h⟩ := h
    have hsub := sub_zip
    have hL1 : Heap.IsList (Shared.heap ⟨hp, g, d, tk, os⟩) l1 xs := hl1
    have hL2 : Heap.IsTuple (Shared.heap ⟨hp.push { cls := .type "list_iterator", data := .fields #[.ref l1, .int 0 0] }, g, d, tk, os⟩) l2 ys := Heap.IsTuple.push hl2 _
    wp_walk using wpAny_pyIter_list hL1, wpAny_pyIter_tuple hL2
    exact ⟨_, rfl, h⟩
section
variable {prog : Program} {w : World} {A : Around} {E : Value → Shared → Prop} {s : Shared}
theorem call_zipLT {l1 l2 : Addr} {xs ys : Array Value} {Q : Value → Shared → Prop} (hl1 : s.heap.IsList l1 xs) (hl2 : s.heap.IsTuple l2 ys)
    (h : ∀ h', IsZip h' (s.heap.objs.size + 4) (s.heap.objs.size + 2) (s.heap.objs.size + 3) .none → IsPair h' (s.heap.objs.size + 2) (.ref s.heap.objs.size) (.ref (s.heap.objs.size + 1)) →
      IsPair h' (s.heap.objs.size + 3) .none .none → h'.IsListIter s.heap.objs.size l1 0 → h'.IsTupleIter (s.heap.objs.size + 1) l2 0 → h'.objs.size = s.heap.objs.size + 5 →
      (∀ c o, s.heap.get? c = some o → h'.get? c = some o) → Q (.ref (s.heap.objs.size + 4)) { s with heap := h' }) :
    wpAny (model prog w) A (call (.type "zip") [.ref l1, .ref l2]) Q E s := by
  refine callType_new F.called_zip (by decide) (F.typeCall_zip_2 _ _) (F.newCall_zip_2 _ _) (fun obj => F.args_object_init_3 obj _ _) F.entry_zip_new
    (meets_zipLT_new l1 l2 xs ys) ⟨hl1, hl2, ?_⟩
  have z1 : (zipLTH1 s.heap l1).objs.size = s.heap.objs.size + 1 := Heap.size_push ..
  have z2 : (zipLTH2 s.heap l1 l2).objs.size = s.heap.objs.size + 2 := by rw [Heap.size_push, z1]
  have z3 : (zipLTH3 s.heap l1 l2).objs.size = s.heap.objs.size + 3 := by rw [Heap.size_push, z2]
  have z4 : (zipLTH4 s.heap l1 l2).objs.size = s.heap.objs.size + 4 := by rw [Heap.size_push, z3]
  have z5 : (zipLTH5 s.heap l1 l2).objs.size = s.heap.objs.size + 5 := by rw [Heap.size_push, z4]
  have g5 : (zipLTH5 s.heap l1 l2).get? (zipLTH4 s.heap l1 l2).objs.size = some _ := Heap.get?_push_size _ rfl
  have g4 : (zipLTH5 s.heap l1 l2).get? (zipLTH3 s.heap l1 l2).objs.size = some _ := Heap.get?_push_of_some _ (Heap.get?_push_size _ rfl)
  have g3 : (zipLTH5 s.heap l1 l2).get? (zipLTH2 s.heap l1 l2).objs.size = some _ := Heap.get?_push_of_some _ (Heap.get?_push_of_some _ (Heap.get?_push_size _ rfl))
  have g2 : (zipLTH5 s.heap l1 l2).get? (zipLTH1 s.heap l1).objs.size = some _ := Heap.get?_push_of_some _ (Heap.get?_push_of_some _ (Heap.get?_push_of_some _ (Heap.get?_push_size _ rfl)))
  have g1 : (zipLTH5 s.heap l1 l2).get? s.heap.objs.size = some _ := Heap.get?_push_of_some _ (Heap.get?_push_of_some _ (Heap.get?_push_of_some _ (Heap.get?_push_of_some _ (Heap.get?_push_size _ rfl))))
  show _ ∧ _
  rw [z2, z3, z4] at g5
  rw [z1, z2] at g3
  rw [z3] at g4
  rw [z1] at g2
  rw [z4]
  exact ⟨⟨_, g5, rfl⟩, h _ g5 g3 g4 ⟨_, g1, rfl, rfl⟩ ⟨_, g2, rfl, rfl⟩ z5 fun c o x =>
    Heap.get?_push_of_some _ (Heap.get?_push_of_some _ (Heap.get?_push_of_some _ (Heap.get?_push_of_some _ (Heap.get?_push_of_some _ x))))⟩
end
end PySem
namespace PySem
open Sem (wp)
abbrev zipTLH1 (h : Heap) (l1 : Addr) : Heap := h.push { cls := .type "tuple_iterator", data := .fields #[.ref l1, .int 0 0] }
abbrev zipTLH2 (h : Heap) (l1 l2 : Addr) : Heap := (zipTLH1 h l1).push { cls := .type "list_iterator", data := .fields #[.ref l2, .int 0 0] }
abbrev zipTLH3 (h : Heap) (l1 l2 : Addr) : Heap := (zipTLH2 h l1 l2).push { cls := .type "tuple", data := .seq #[.ref h.objs.size, .ref (zipTLH1 h l1).objs.size] }
abbrev zipTLH4 (h : Heap) (l1 l2 : Addr) : Heap := (zipTLH3 h l1 l2).push { cls := .type "tuple", data := .seq #[.none, .none] }
abbrev zipTLH5 (h : Heap) (l1 l2 : Addr) : Heap := (zipTLH4 h l1 l2).push { cls := .type "zip", data := .fields #[.none, .bool false, .bool false, .ref (zipTLH2 h l1 l2).objs.size, .ref (zipTLH3 h l1 l2).objs.size] }
theorem meets_zipTL_new (l1 l2 : Addr) (xs ys : Array Value) :
    Meets (Builtin.«zip.__new__» ⟨[.type "zip", .ref l1, .ref l2], []⟩) (fun _ R s => s.heap.IsTuple l1 xs ∧ s.heap.IsList l2 ys ∧
      R (.ok (.ret (.ref (zipTLH4 s.heap l1 l2).objs.size))) { s with heap := zipTLH5 s.heap l1 l2 }) :=
  .of_wp fun prog w A R s h => by
    obtain ⟨hp, g, d, tk, os⟩ := s; obtain ⟨hl1, hl2, h⟩ := h
    have hsub := sub_zip
    have hL1 : Heap.IsTuple (Shared.heap ⟨hp, g, d, tk, os⟩) l1 xs := hl1
    have hL2 : Heap.IsList (Shared.heap ⟨hp.push { cls := .type "tuple_iterator", data := .fields #[.ref l1, .int 0 0] }, g, d, tk, os⟩) l2 ys := Heap.IsList.push hl2 _
    wp_walk using wpAny_pyIter_tuple hL1, wpAny_pyIter_list hL2
    exact ⟨_, rfl, h⟩
section
variable {prog : Program} {w : World} {A : Around} {E : Value → Shared → Prop} {s : Shared}
theorem call_zipTL {l1 l2 : Addr} {xs ys : Array Value} {Q : Value → Shared → Prop} (hl1 : s.heap.IsTuple l1 xs) (hl2 : s.heap.IsList l2 ys)
    (h : ∀ h', IsZip h' (s.heap.objs.size + 4) (s.heap.objs.size + 2) (s.heap.objs.size + 3) .none → IsPair h' (s.heap.objs.size + 2) (.ref s.heap.objs.size) (.ref (s.heap.objs.size + 1)) →
      IsPair h' (s.heap.objs.size + 3) .none .none → h'.IsTupleIter s.heap.objs.size l1 0 → h'.IsListIter (s.heap.objs.size + 1) l2 0 → h'.objs.size = s.heap.objs.size + 5 →
      (∀ c o, s.heap.get? c = some o → h'.get? c = some o) → Q (.ref (s.heap.objs.size + 4)) { s with heap := h' }) :
    wpAny (model prog w) A (call (.type "zip") [.ref l1, .ref l2]) Q E s := by
  refine callType_new F.called_zip (by decide) (F.typeCall_zip_2 _ _) (F.newCall_zip_2 _ _) (fun obj => F.args_object_init_3 obj _ _) F.entry_zip_new
    (meets_zipTL_new l1 l2 xs ys) ⟨hl1, hl2, ?_⟩
  have z1 : (zipTLH1 s.heap l1).objs.size = s.heap.objs.size + 1 := Heap.size_push ..
  have z2 : (zipTLH2 s.heap l1 l2).objs.size = s.heap.objs.size + 2 := by rw [Heap.size_push, z1]
  have z3 : (zipTLH3 s.heap l1 l2).objs.size = s.heap.objs.size + 3 := by rw [Heap.size_push, z2]
  have z4 : (zipTLH4 s.heap l1 l2).objs.size = s.heap.objs.size + 4 := by rw [Heap.size_push, z3]
  have z5 : (zipTLH5 s.heap l1 l2).objs.size = s.heap.objs.size + 5 := by rw [Heap.size_push, z4]
  have g5 : (zipTLH5 s.heap l1 l2).get? (zipTLH4 s.heap l1 l2).objs.size = some _ := Heap.get?_push_size _ rfl
  have g4 : (zipTLH5 s.heap l1 l2).get? (zipTLH3 s.heap l1 l2).objs.size = some _ := Heap.get?_push_of_some _ (Heap.get?_push_size _ rfl)
  have g3 : (zipTLH5 s.heap l1 l2).get? (zipTLH2 s.heap l1 l2).objs.size = some _ := Heap.get?_push_of_some _ (Heap.get?_push_of_some _ (Heap.get?_push_size _ rfl))
  have g2 : (zipTLH5 s.heap l1 l2).get? (zipTLH1 s.heap l1).objs.size = some _ := Heap.get?_push_of_some _ (Heap.get?_push_of_some _ (Heap.get?_push_of_some _ (Heap.get?_push_size _ rfl)))
  have g1 : (zipTLH5 s.heap l1 l2).get? s.heap.objs.size = some _ := Heap.get?_push_of_some _ (Heap.get?_push_of_some _ (Heap.get?_push_of_some _ (Heap.get?_push_of_some _ (Heap.get?_push_size _ rfl))))
  show _ ∧ _
  rw [z2, z3, z4] at g5
  rw [z1, z2] at g3
  rw [z3] at g4
  rw [z1] at g2
  rw [z4]
  exact ⟨⟨_, g5, rfl⟩, h _ g5 g3 g4 ⟨_, g1, rfl, rfl⟩ ⟨_, g2, rfl, rfl⟩ z5 fun c o x =>
    Heap.get?_push_of_some _ (Heap.get?_push_of_some _ (Heap.get?_push_of_some _ (Heap.get?_push_of_some _ (Heap.get?_push_of_some _ x))))⟩
end
end PySem
namespace TN
open PySem PySem.Spec PyProof.Rows L2
/-- a list at a, a tuple at b, item by item in new pairs -/
def ItzLT (K : PySem.W.Frag) (a b : Addr) (n1 n2 : Nat) : It :=
  ⟨fun i H => ∃ (xs ys : List V) (x y : V), SqL K H a xs ∧ SqT K H b ys ∧ xs.length = n1 ∧ ys.length = n2 ∧ xs[i]? = some x ∧ ys[i]? = some y,
    fun i H v H' => ∃ T x y, v = .ref T ∧ H T = none ∧ H' = upd H T (.tup [x, y]) ∧ (∀ xs, SqL K H a xs → xs[i]? = some x) ∧ ∀ ys, SqT K H b ys → ys[i]? = some y,
    fun i H => ∃ xs ys : List V, SqL K H a xs ∧ SqT K H b ys ∧ xs.length = n1 ∧ ys.length = n2 ∧ (n1 ≤ i ∨ n2 ≤ i)⟩
theorem turn_zipLT {P : Program} {w : World} {K : PySem.W.Frag} {elts : List Expr} {kk : Nat} {tpos : Pos} {a b z TI TO i1 i2 : Addr} {n1 n2 : Nat} (D : ZipApart z TI TO i1 i2 a b) :
    Turn P w K (.Tuple elts kk tpos) (ItzLT K a b n1 n2) [z, TI, TO, i1, i2] z (fun i h => IsZip h z TI TO .none ∧ IsPair h TI (.ref i1) (.ref i2) ∧ (∃ x y, IsPair h TO x y) ∧ h.IsListIter i1 a i ∧ h.IsTupleIter i2 b i ∧ i ≤ n1 ∧ i ≤ n2) where
  mem := by simp
  obj := fun i h st c hc => by
    obtain ⟨hz, hTI, ⟨x, y, hTO⟩, ⟨o1, e1, _, d1⟩, ⟨o2, e2, _, d2⟩, _⟩ := st
    have e' : c = z ∨ c = TI ∨ c = TO ∨ c = i1 ∨ c = i2 := by simpa using hc
    rcases e' with q | q | q | q | q
    · rw [q]; exact ⟨_, hz, fun v q => nomatch q⟩
    · rw [q]; exact ⟨_, hTI, fun v q => nomatch q⟩
    · rw [q]; exact ⟨_, hTO, fun v q => nomatch q⟩
    · rw [q]; exact ⟨o1, e1, fun v q => by rw [d1] at q; cases q⟩
    · rw [q]; exact ⟨o2, e2, fun v q => by rw [d2] at q; cases q⟩
  keep := fun i h h' st k => by
    obtain ⟨hz, hTI, ⟨x, y, hTO⟩, h1, h2, h3⟩ := st
    exact ⟨k z (by simp) _ hz, k TI (by simp) _ hTI, ⟨x, y, k TO (by simp) _ hTO⟩, h1.at fun o q => k i1 (by simp) o q, h2.at fun o q => k i2 (by simp) o q, h3⟩
  item := by
    intro X hP hw hK hc i pins s σ H E I hf st hg
    subst hP hw hK
    obtain ⟨hz, hTI, ⟨x0, y0, hTO⟩, h1, h2, _⟩ := st
    obtain ⟨xs, ys, x, y, hqx, hqy, hn1, hn2, hx, hy⟩ := hg
    obtain ⟨its, rv, p, _⟩ := I.list hqx
    obtain ⟨its2, rv2, p2, _⟩ := I.tuple hqy
    have pl1 : s.heap.IsList a its.toArray := p.isList
    have pl2 : s.heap.IsTuple b its2.toArray := p2
    have sz1 : its.toArray.size = n1 := by rw [List.size_toArray, ← rv.length]; exact hn1
    have sz2 : its2.toArray.size = n2 := by rw [List.size_toArray, ← rv2.length]; exact hn2
    have S : ZipSep2 z TI TO i1 i2 [i1, a] [i2, b] := ⟨D.TIz, D.TOz, D.TITO, D.TIi1, by simp, by simp [D.i1z.symm, D.l1z.symm], by simp [D.TOi1, D.l1TO.symm], D.TIi2, by simp, by simp [D.i2z.symm, D.l2z.symm], by simp [D.TOi2, D.l2TO.symm], by simp [D.i12, D.l2i1.symm], by simp [D.i12.symm, D.l1i2.symm]⟩
    obtain ⟨u, hu, ru⟩ := rv.get hx
    obtain ⟨u2, hu2, ru2⟩ := rv2.get hy
    have hzl : z < s.heap.objs.size := Heap.lt_size hz
    have lt1 : i < n1 := by rw [← hn1]; exact (List.getElem?_eq_some_iff.mp hx).1
    have lt2 : i < n2 := by rw [← hn2]; exact (List.getElem?_eq_some_iff.mp hy).1
    refine wpAny_pyNext_zipD2_item S (Draws.list (A := X.A.in1) (I.ok.hd hc) i1 a D.l1i1 its.toArray) (Draws.tuple (A := X.A.in1) (I.ok.hd hc) i2 b D.l2i2 its2.toArray) hz hTI hTO ⟨h1, pl1⟩ ⟨h2, pl2⟩ (by rw [sz1]; exact lt1) (by rw [sz2]; exact lt2) fun x1 x2 h' tk hx1 hx2 z' TO' st1' st2' hT hsz hk => ?_
    have ex1 : x1 = u := by
      have e1 : its[i]? = some x1 := by simpa using hx1
      rw [hu] at e1; cases e1; rfl
    have ex2 : x2 = u2 := by
      have e1 : its2[i]? = some x2 := by simpa using hx2
      rw [hu2] at e1; cases e1; rfl
    subst ex1 ex2
    refine ⟨_, rfl, wpAny_letOwnedTupleGo_zip (s := { s with heap := h', toks := tk }) z' fun h'' z'' sb => ?_⟩
    have hT2 : h''.get? s.heap.objs.size = some { cls := .type "tuple", data := .seq #[x1, x2] } := (sb.2 _ (Nat.ne_of_gt hzl)).trans hT
    have new : ObjOk X.prog X.w (upd H s.heap.objs.size (.tup [x, y])) h'' s.heap.objs.size (.tup [x, y]) :=
      ⟨by show 2 ≤ sizeLine; decide, [x1, x2], .cons ru (.cons ru2 .nil), ⟨_, hT2, rfl, _, rfl⟩⟩
    have I1 : Inv X pins σ (upd H s.heap.objs.size (.tup [x, y])) { s with heap := h'', toks := tk } :=
      I.turnedNew (ch := [z, TI, TO, i1, i2]) (fun c o hb q => (sb.2 c (fun q' => hb (by simp [q']))).trans (hk c o (fun q' => hb (by simp [q'])) (fun q' => hb (by simp [q'])) (fun q' => hb (by simp [q'])) (fun q' => hb (by simp [q'])) q)) hf (Nat.le_refl _) new
    refine ⟨.ref s.heap.objs.size, _, I1, rfl, ⟨_, x, y, rfl, I.hok.fresh (Nat.le_refl _), rfl, fun l hl => by rw [I.list_inj hl hqx]; exact hx, fun l hl => by rw [I.tuple_inj hl hqy]; exact hy⟩, ⟨z'', ?_, ⟨x1, x2, ?_⟩, ?_, ?_, lt1, lt2⟩, fun c hcm => ?_⟩
    · exact (sb.2 _ D.TIz).trans (hk _ _ D.TIz D.TITO D.TIi1 D.TIi2 hTI)
    · exact (sb.2 _ D.TOz).trans TO'
    · exact st1'.1.at fun o q => (sb.2 _ D.i1z).trans q
    · exact st2'.1.at fun o q => (sb.2 _ D.i2z).trans q
    · have hlt : c < s.heap.objs.size := by
        have e' : c = z ∨ c = TI ∨ c = TO ∨ c = i1 ∨ c = i2 := by simpa using hcm
        rcases e' with q | q | q | q | q
        · rw [q]; exact hzl
        · rw [q]; exact Heap.lt_size hTI
        · rw [q]; exact Heap.lt_size hTO
        · rw [q]; obtain ⟨_, e1, _⟩ := h1; exact Heap.lt_size e1
        · rw [q]; obtain ⟨_, e2, _⟩ := h2; exact Heap.lt_size e2
      rw [upd_ne (Nat.ne_of_lt hlt)]
      exact (hf c hcm).1
  done := by
    intro X hP hw hK hc i pins s σ H E I hf st hg
    subst hP hw hK
    obtain ⟨hz, hTI, ⟨x0, y0, hTO⟩, h1, h2, le1, le2⟩ := st
    obtain ⟨xs, ys, hqx, hqy, hn1, hn2, hend⟩ := hg
    obtain ⟨its, rv, p, _⟩ := I.list hqx
    obtain ⟨its2, rv2, p2, _⟩ := I.tuple hqy
    have pl1 : s.heap.IsList a its.toArray := p.isList
    have pl2 : s.heap.IsTuple b its2.toArray := p2
    have sz1 : its.toArray.size = n1 := by rw [List.size_toArray, ← rv.length]; exact hn1
    have sz2 : its2.toArray.size = n2 := by rw [List.size_toArray, ← rv2.length]; exact hn2
    have S : ZipSep2 z TI TO i1 i2 [i1, a] [i2, b] := ⟨D.TIz, D.TOz, D.TITO, D.TIi1, by simp, by simp [D.i1z.symm, D.l1z.symm], by simp [D.TOi1, D.l1TO.symm], D.TIi2, by simp, by simp [D.i2z.symm, D.l2z.symm], by simp [D.TOi2, D.l2TO.symm], by simp [D.i12, D.l2i1.symm], by simp [D.i12.symm, D.l1i2.symm]⟩
    exact wpAny_pyNext_zipD2_end S (Draws.list (A := X.A.in1) (I.ok.hd hc) i1 a D.l1i1 its.toArray) (Draws.tuple (A := X.A.in1) (I.ok.hd hc) i2 b D.l2i2 its2.toArray) hz hTI hTO ⟨h1, pl1⟩ ⟨h2, pl2⟩ (by rw [sz1]; exact le1) (by rw [sz2]; exact le2) (by rw [sz1, sz2]; omega) fun h' tk hk => ⟨rfl, I.turnedL (t' := tk) (ch := [z, TI, TO, i1, i2]) (fun c o hb q =>
      hk c o (fun q' => hb (by simp [q'])) (fun q' => hb (by simp [q'])) (fun q' => hb (by simp [q'])) (fun q' => hb (by simp [q'])) q) hf⟩
  self := fun A i s Q E st h => wpAny_pyIter_zip st.1 h
theorem itok_zipLT {K : PySem.W.Frag} {G : Hp} {a b : Addr} {xs ys : List V} {ds es : List D} (h : ∀ {H2 : Hp}, Same G H2 → SqL K H2 a xs) (f : FzA K G xs ds) (h' : ∀ {H2 : Hp}, Same G H2 → SqT K H2 b ys) (f' : FzA K G ys es) : ItOk K G (zipD ds es) (ItzLT K a b xs.length ys.length) := by
  intro G2 H2 s1 s2 i
  have h2 := h (s1.trans s2)
  have h3 := h' (s1.trans s2)
  refine ⟨fun d hd => ?_, fun hl => ⟨xs, ys, h2, h3, rfl, rfl, zipD_end f.length f'.length hl⟩⟩
  obtain ⟨x, y, hx, hy, rfl⟩ := zipD_get hd
  obtain ⟨v, hv, hf⟩ := f.get hx
  obtain ⟨u, hu, hf'⟩ := f'.get hy
  refine ⟨⟨xs, ys, v, u, h2, h3, rfl, rfl, hv, hu⟩, fun y H3 hy => ?_⟩
  obtain ⟨T, z, z', rfl, hT, rfl, hq, hq'⟩ := hy
  have e1 := hq xs h2
  rw [hv] at e1; cases e1
  have e2 := hq' ys h3
  rw [hu] at e2; cases e2
  exact .tup hT (.cons (hf.mono s1) (.cons (hf'.mono s1) .nil))
end TN
namespace TN
open PySem PySem.Spec PyProof.Rows L2
/-- a tuple at a, a list at b, item by item in new pairs -/
def ItzTL (K : PySem.W.Frag) (a b : Addr) (n1 n2 : Nat) : It :=
  ⟨fun i H => ∃ (xs ys : List V) (x y : V), SqT K H a xs ∧ SqL K H b ys ∧ xs.length = n1 ∧ ys.length = n2 ∧ xs[i]? = some x ∧ ys[i]? = some y,
    fun i H v H' => ∃ T x y, v = .ref T ∧ H T = none ∧ H' = upd H T (.tup [x, y]) ∧ (∀ xs, SqT K H a xs → xs[i]? = some x) ∧ ∀ ys, SqL K H b ys → ys[i]? = some y,
    fun i H => ∃ xs ys : List V, SqT K H a xs ∧ SqL K H b ys ∧ xs.length = n1 ∧ ys.length = n2 ∧ (n1 ≤ i ∨ n2 ≤ i)⟩
theorem turn_zipTL {P : Program} {w : World} {K : PySem.W.Frag} {elts : List Expr} {kk : Nat} {tpos : Pos} {a b z TI TO i1 i2 : Addr} {n1 n2 : Nat} (D : ZipApart z TI TO i1 i2 a b) :
    Turn P w K (.Tuple elts kk tpos) (ItzTL K a b n1 n2) [z, TI, TO, i1, i2] z (fun i h => IsZip h z TI TO .none ∧ IsPair h TI (.ref i1) (.ref i2) ∧ (∃ x y, IsPair h TO x y) ∧ h.IsTupleIter i1 a i ∧ h.IsListIter i2 b i ∧ i ≤ n1 ∧ i ≤ n2) where
  mem := by simp
  obj := fun i h st c hc => by
    obtain ⟨hz, hTI, ⟨x, y, hTO⟩, ⟨o1, e1, _, d1⟩, ⟨o2, e2, _, d2⟩, _⟩ := st
    have e' : c = z ∨ c = TI ∨ c = TO ∨ c = i1 ∨ c = i2 := by simpa using hc
    rcases e' with q | q | q | q | q
    · rw [q]; exact ⟨_, hz, fun v q => nomatch q⟩
    · rw [q]; exact ⟨_, hTI, fun v q => nomatch q⟩
    · rw [q]; exact ⟨_, hTO, fun v q => nomatch q⟩
    · rw [q]; exact ⟨o1, e1, fun v q => by rw [d1] at q; cases q⟩
    · rw [q]; exact ⟨o2, e2, fun v q => by rw [d2] at q; cases q⟩
  keep := fun i h h' st k => by
    obtain ⟨hz, hTI, ⟨x, y, hTO⟩, h1, h2, h3⟩ := st
    exact ⟨k z (by simp) _ hz, k TI (by simp) _ hTI, ⟨x, y, k TO (by simp) _ hTO⟩, h1.at fun o q => k i1 (by simp) o q, h2.at fun o q => k i2 (by simp) o q, h3⟩
  item := by
    intro X hP hw hK hc i pins s σ H E I hf st hg
    subst hP hw hK
    obtain ⟨hz, hTI, ⟨x0, y0, hTO⟩, h1, h2, _⟩ := st
    obtain ⟨xs, ys, x, y, hqx, hqy, hn1, hn2, hx, hy⟩ := hg
    obtain ⟨its, rv, p, _⟩ := I.tuple hqx
    obtain ⟨its2, rv2, p2, _⟩ := I.list hqy
    have pl1 : s.heap.IsTuple a its.toArray := p
    have pl2 : s.heap.IsList b its2.toArray := p2.isList
    have sz1 : its.toArray.size = n1 := by rw [List.size_toArray, ← rv.length]; exact hn1
    have sz2 : its2.toArray.size = n2 := by rw [List.size_toArray, ← rv2.length]; exact hn2
    have S : ZipSep2 z TI TO i1 i2 [i1, a] [i2, b] := ⟨D.TIz, D.TOz, D.TITO, D.TIi1, by simp, by simp [D.i1z.symm, D.l1z.symm], by simp [D.TOi1, D.l1TO.symm], D.TIi2, by simp, by simp [D.i2z.symm, D.l2z.symm], by simp [D.TOi2, D.l2TO.symm], by simp [D.i12, D.l2i1.symm], by simp [D.i12.symm, D.l1i2.symm]⟩
    obtain ⟨u, hu, ru⟩ := rv.get hx
    obtain ⟨u2, hu2, ru2⟩ := rv2.get hy
    have hzl : z < s.heap.objs.size := Heap.lt_size hz
    have lt1 : i < n1 := by rw [← hn1]; exact (List.getElem?_eq_some_iff.mp hx).1
    have lt2 : i < n2 := by rw [← hn2]; exact (List.getElem?_eq_some_iff.mp hy).1
    refine wpAny_pyNext_zipD2_item S (Draws.tuple (A := X.A.in1) (I.ok.hd hc) i1 a D.l1i1 its.toArray) (Draws.list (A := X.A.in1) (I.ok.hd hc) i2 b D.l2i2 its2.toArray) hz hTI hTO ⟨h1, pl1⟩ ⟨h2, pl2⟩ (by rw [sz1]; exact lt1) (by rw [sz2]; exact lt2) fun x1 x2 h' tk hx1 hx2 z' TO' st1' st2' hT hsz hk => ?_
    have ex1 : x1 = u := by
      have e1 : its[i]? = some x1 := by simpa using hx1
      rw [hu] at e1; cases e1; rfl
    have ex2 : x2 = u2 := by
      have e1 : its2[i]? = some x2 := by simpa using hx2
      rw [hu2] at e1; cases e1; rfl
    subst ex1 ex2
    refine ⟨_, rfl, wpAny_letOwnedTupleGo_zip (s := { s with heap := h', toks := tk }) z' fun h'' z'' sb => ?_⟩
    have hT2 : h''.get? s.heap.objs.size = some { cls := .type "tuple", data := .seq #[x1, x2] } := (sb.2 _ (Nat.ne_of_gt hzl)).trans hT
    have new : ObjOk X.prog X.w (upd H s.heap.objs.size (.tup [x, y])) h'' s.heap.objs.size (.tup [x, y]) :=
      ⟨by show 2 ≤ sizeLine; decide, [x1, x2], .cons ru (.cons ru2 .nil), ⟨_, hT2, rfl, _, rfl⟩⟩
    have I1 : Inv X pins σ (upd H s.heap.objs.size (.tup [x, y])) { s with heap := h'', toks := tk } :=
      I.turnedNew (ch := [z, TI, TO, i1, i2]) (fun c o hb q => (sb.2 c (fun q' => hb (by simp [q']))).trans (hk c o (fun q' => hb (by simp [q'])) (fun q' => hb (by simp [q'])) (fun q' => hb (by simp [q'])) (fun q' => hb (by simp [q'])) q)) hf (Nat.le_refl _) new
    refine ⟨.ref s.heap.objs.size, _, I1, rfl, ⟨_, x, y, rfl, I.hok.fresh (Nat.le_refl _), rfl, fun l hl => by rw [I.tuple_inj hl hqx]; exact hx, fun l hl => by rw [I.list_inj hl hqy]; exact hy⟩, ⟨z'', ?_, ⟨x1, x2, ?_⟩, ?_, ?_, lt1, lt2⟩, fun c hcm => ?_⟩
    · exact (sb.2 _ D.TIz).trans (hk _ _ D.TIz D.TITO D.TIi1 D.TIi2 hTI)
    · exact (sb.2 _ D.TOz).trans TO'
    · exact st1'.1.at fun o q => (sb.2 _ D.i1z).trans q
    · exact st2'.1.at fun o q => (sb.2 _ D.i2z).trans q
    · have hlt : c < s.heap.objs.size := by
        have e' : c = z ∨ c = TI ∨ c = TO ∨ c = i1 ∨ c = i2 := by simpa using hcm
        rcases e' with q | q | q | q | q
        · rw [q]; exact hzl
        · rw [q]; exact Heap.lt_size hTI
        · rw [q]; exact Heap.lt_size hTO
        · rw [q]; obtain ⟨_, e1, _⟩ := h1; exact Heap.lt_size e1
        · rw [q]; obtain ⟨_, e2, _⟩ := h2; exact Heap.lt_size e2
      rw [upd_ne (Nat.ne_of_lt hlt)]
      exact (hf c hcm).1
  done := by
    intro X hP hw hK hc i pins s σ H E I hf st hg
    subst hP hw hK
    obtain ⟨hz, hTI, ⟨x0, y0, hTO⟩, h1, h2, le1, le2⟩ := st
    obtain ⟨xs, ys, hqx, hqy, hn1, hn2, hend⟩ := hg
    obtain ⟨its, rv, p, _⟩ := I.tuple hqx
    obtain ⟨its2, rv2, p2, _⟩ := I.list hqy
    have pl1 : s.heap.IsTuple a its.toArray := p
    have pl2 : s.heap.IsList b its2.toArray := p2.isList
    have sz1 : its.toArray.size = n1 := by rw [List.size_toArray, ← rv.length]; exact hn1
    have sz2 : its2.toArray.size = n2 := by rw [List.size_toArray, ← rv2.length]; exact hn2
    have S : ZipSep2 z TI TO i1 i2 [i1, a] [i2, b] := ⟨D.TIz, D.TOz, D.TITO, D.TIi1, by simp, by simp [D.i1z.symm, D.l1z.symm], by simp [D.TOi1, D.l1TO.symm], D.TIi2, by simp, by simp [D.i2z.symm, D.l2z.symm], by simp [D.TOi2, D.l2TO.symm], by simp [D.i12, D.l2i1.symm], by simp [D.i12.symm, D.l1i2.symm]⟩
    exact wpAny_pyNext_zipD2_end S (Draws.tuple (A := X.A.in1) (I.ok.hd hc) i1 a D.l1i1 its.toArray) (Draws.list (A := X.A.in1) (I.ok.hd hc) i2 b D.l2i2 its2.toArray) hz hTI hTO ⟨h1, pl1⟩ ⟨h2, pl2⟩ (by rw [sz1]; exact le1) (by rw [sz2]; exact le2) (by rw [sz1, sz2]; omega) fun h' tk hk => ⟨rfl, I.turnedL (t' := tk) (ch := [z, TI, TO, i1, i2]) (fun c o hb q =>
      hk c o (fun q' => hb (by simp [q'])) (fun q' => hb (by simp [q'])) (fun q' => hb (by simp [q'])) (fun q' => hb (by simp [q'])) q) hf⟩
  self := fun A i s Q E st h => wpAny_pyIter_zip st.1 h
theorem itok_zipTL {K : PySem.W.Frag} {G : Hp} {a b : Addr} {xs ys : List V} {ds es : List D} (h : ∀ {H2 : Hp}, Same G H2 → SqT K H2 a xs) (f : FzA K G xs ds) (h' : ∀ {H2 : Hp}, Same G H2 → SqL K H2 b ys) (f' : FzA K G ys es) : ItOk K G (zipD ds es) (ItzTL K a b xs.length ys.length) := by
  intro G2 H2 s1 s2 i
  have h2 := h (s1.trans s2)
  have h3 := h' (s1.trans s2)
  refine ⟨fun d hd => ?_, fun hl => ⟨xs, ys, h2, h3, rfl, rfl, zipD_end f.length f'.length hl⟩⟩
  obtain ⟨x, y, hx, hy, rfl⟩ := zipD_get hd
  obtain ⟨v, hv, hf⟩ := f.get hx
  obtain ⟨u, hu, hf'⟩ := f'.get hy
  refine ⟨⟨xs, ys, v, u, h2, h3, rfl, rfl, hv, hu⟩, fun y H3 hy => ?_⟩
  obtain ⟨T, z, z', rfl, hT, rfl, hq, hq'⟩ := hy
  have e1 := hq xs h2
  rw [hv] at e1; cases e1
  have e2 := hq' ys h3
  rw [hu] at e2; cases e2
  exact .tup hT (.cons (hf.mono s1) (.cons (hf'.mono s1) .nil))
end TN
namespace TN
open PySem PySem.Spec PyProof.Rows L2
section
variable {X : Cx} {e e2 : Expr} {c c2 : CE} {p pos : Pos}
def iZipM (K : PySem.W.Frag) (ta : TA) : TI := fun σ H R => ta σ H fun vs H1 => ∃ a b xs ys, vs = [.ref a, .ref b] ∧ ((SqL K H1 a xs ∧ SqL K H1 b ys ∧ R (Itz K a b) H1) ∨ (SqT K H1 a xs ∧ SqT K H1 b ys ∧ R (RZ.ItzT K a b) H1) ∨ (SqL K H1 a xs ∧ SqT K H1 b ys ∧ R (ItzLT K a b xs.length ys.length) H1) ∨ (SqT K H1 a xs ∧ SqL K H1 b ys ∧ R (ItzTL K a b xs.length ys.length) H1))
theorem pi_zipM {ta : TA} {tpos : Pos} {elts : List Expr} {kk : Nat} (hg : Gl X "zip") (hm : X.mg "zip" = none) (ha : PA X [e, e2] ta)
    (hs : starEach [e, e2] X.env = (false, eval e X.env) :: starEach [e2] X.env := by rfl) (hpl : (backTo pos (starEach [e2] X.env)).any (·.1) = false := by rfl) :
    PI X (.Tuple elts kk tpos) (.Call (.Name "zip" p) [e, e2] [] pos) (iZipM X.K ta) := by
  refine ⟨fun pins s σ H R I h => ?_⟩
  refine Call_ (ld_blt I hg hm PyProof.Rows.boot_zip (PyProof.Rows.callWith_type1 (thn (ha.run pos pins s σ H _ I h) fun us s1 ⟨vs, H1, I1, r1, q1⟩ => ?_) hs hpl))
  obtain ⟨a, b, xs, ys, ex, q1⟩ := q1
  subst ex
  cases r1 with
  | cons r rr =>
    cases rr with
    | cons r' rr =>
      cases rr
      cases r
      cases r'
      have fresh5 : ∀ c, c ∈ [s1.heap.objs.size + 4, s1.heap.objs.size + 2, s1.heap.objs.size + 3, s1.heap.objs.size, s1.heap.objs.size + 1] → FpOk X pins H1 c := fun c hcm => by
        have e' : c = s1.heap.objs.size + 4 ∨ c = s1.heap.objs.size + 2 ∨ c = s1.heap.objs.size + 3 ∨ c = s1.heap.objs.size ∨ c = s1.heap.objs.size + 1 := by simpa using hcm
        have hle : s1.heap.objs.size ≤ c := by
          rcases e' with z | z | z | z | z
          · rw [z]; exact Nat.le_add_right _ _
          · rw [z]; exact Nat.le_add_right _ _
          · rw [z]; exact Nat.le_add_right _ _
          · rw [z]; exact Nat.le_refl _
          · rw [z]; exact Nat.le_add_right _ _
        exact I1.fpOk hle (I1.hok.fresh hle)
      rcases q1 with ⟨hqx, hqy, q⟩ | ⟨hqx, hqy, q⟩ | ⟨hqx, hqy, q⟩ | ⟨hqx, hqy, q⟩
      · obtain ⟨its, rv, p1, _⟩ := I1.list hqx
        obtain ⟨its2, rv2, p2, _⟩ := I1.list hqy
        refine call_zip_2 p1.isList p2.isList fun h' hz hTI hTO h1 h2 hsz hk => wpAny_pyIter_zip hz ?_
        have I2 : Inv X pins σ H1 { s1 with heap := h' } := I1.kept (t' := s1.toks) hk
        exact ⟨s1.heap.objs.size + 4, [s1.heap.objs.size + 4, s1.heap.objs.size + 2, s1.heap.objs.size + 3, s1.heap.objs.size, s1.heap.objs.size + 1], _, _, H1, rfl, I2, turn_zip (PySem.W.ktu_apart s1.heap.objs.size a b p1.lt p2.lt), ⟨hz, hTI, ⟨_, _, hTO⟩, h1, h2⟩, fresh5, q⟩
      · obtain ⟨its, rv, p1, _⟩ := I1.tuple hqx
        obtain ⟨its2, rv2, p2, _⟩ := I1.tuple hqy
        obtain ⟨o1, ho1, _⟩ := id p1
        obtain ⟨o2, ho2, _⟩ := id p2
        refine RZ.call_zipT (show s1.heap.IsTuple a its.toArray from p1) (show s1.heap.IsTuple b its2.toArray from p2) fun h' hz hTI hTO h1 h2 hsz hk => wpAny_pyIter_zip hz ?_
        have I2 : Inv X pins σ H1 { s1 with heap := h' } := I1.kept (t' := s1.toks) hk
        exact ⟨s1.heap.objs.size + 4, [s1.heap.objs.size + 4, s1.heap.objs.size + 2, s1.heap.objs.size + 3, s1.heap.objs.size, s1.heap.objs.size + 1], _, _, H1, rfl, I2, RZ.turn_zipT (PySem.W.ktu_apart s1.heap.objs.size a b (Heap.lt_size ho1) (Heap.lt_size ho2)), ⟨hz, hTI, ⟨_, _, hTO⟩, h1, h2⟩, fresh5, q⟩
      · obtain ⟨its, rv, p1, _⟩ := I1.list hqx
        obtain ⟨its2, rv2, p2, _⟩ := I1.tuple hqy
        obtain ⟨o2, ho2, _⟩ := id p2
        refine call_zipLT p1.isList (show s1.heap.IsTuple b its2.toArray from p2) fun h' hz hTI hTO h1 h2 hsz hk => wpAny_pyIter_zip hz ?_
        have I2 : Inv X pins σ H1 { s1 with heap := h' } := I1.kept (t' := s1.toks) hk
        exact ⟨s1.heap.objs.size + 4, [s1.heap.objs.size + 4, s1.heap.objs.size + 2, s1.heap.objs.size + 3, s1.heap.objs.size, s1.heap.objs.size + 1], _, _, H1, rfl, I2, turn_zipLT (PySem.W.ktu_apart s1.heap.objs.size a b p1.lt (Heap.lt_size ho2)), ⟨hz, hTI, ⟨_, _, hTO⟩, h1, h2, Nat.zero_le _, Nat.zero_le _⟩, fresh5, q⟩
      · obtain ⟨its, rv, p1, _⟩ := I1.tuple hqx
        obtain ⟨its2, rv2, p2, _⟩ := I1.list hqy
        obtain ⟨o1, ho1, _⟩ := id p1
        refine call_zipTL (show s1.heap.IsTuple a its.toArray from p1) p2.isList fun h' hz hTI hTO h1 h2 hsz hk => wpAny_pyIter_zip hz ?_
        have I2 : Inv X pins σ H1 { s1 with heap := h' } := I1.kept (t' := s1.toks) hk
        exact ⟨s1.heap.objs.size + 4, [s1.heap.objs.size + 4, s1.heap.objs.size + 2, s1.heap.objs.size + 3, s1.heap.objs.size, s1.heap.objs.size + 1], _, _, H1, rfl, I2, turn_zipTL (PySem.W.ktu_apart s1.heap.objs.size a b (Heap.lt_size ho1) p2.lt), ⟨hz, hTI, ⟨_, _, hTO⟩, h1, h2, Nat.zero_le _, Nat.zero_le _⟩, fresh5, q⟩
def cZipM (c c2 : CE) : CI := fun ρ => (c ρ).bind fun p ρ1 => (c2 ρ1).bind fun q ρ2 => match frzA [p, q] ρ2 with
  | some ([.list a, .list b], ρ3) => .ok (zipD a b) ρ3
  | some ([.tuple a, .tuple b], ρ3) => .ok (zipD a b) ρ3
  | some ([.list a, .tuple b], ρ3) => .ok (zipD a b) ρ3
  | some ([.tuple a, .list b], ρ3) => .ok (zipD a b) ρ3
  | _ => .bad
theorem si_zipM {tpos : Pos} {elts : List Expr} {kk : Nat} (hg : Gl X "zip") (hm : X.mg "zip" = none) (h : SX X e c) (h' : SX X e2 c2)
    (hs : starEach [e, e2] X.env = (false, eval e X.env) :: starEach [e2] X.env := by rfl) (hs2 : starEach [e2] X.env = (false, eval e2 X.env) :: starEach [] X.env := by rfl) (hpl : (backTo pos (starEach [e2] X.env)).any (·.1) = false := by rfl) :
    SI X (.Tuple elts kk tpos) (.Call (.Name "zip" p) [e, e2] [] pos) (cZipM c c2) := fun W tk => PIimp (pi_zipM hg hm (pa_cons (h W tk) (pa_cons (h' W tk) pa_nil hs2) hs) hs hpl) (by
  rintro σ H Q ⟨L, ρ, G, B, rel, h⟩
  refine ⟨L, ρ, G, B, rel, (Got.bind h).mono ?_⟩
  rintro x H1 ⟨p, ρ1, G1, _, rel1, ext1, fx1, h1⟩
  refine ⟨L, ρ1, G1, B, rel1, (Got.bind h1).mono ?_⟩
  rintro y H2 ⟨q, ρ2, G2, _, rel2, ext2, fx2, h2⟩
  split at h2
  · rename_i a b ρ3 e1
    obtain ⟨G3, r3, x3, f3⟩ := PlA.frz rel2 (.cons (fx1.mono ext2.same) (.cons fx2 .nil)) e1
    cases f3 with
    | cons f4 f5 =>
      cases f5 with
      | cons f5 f6 =>
        cases f4 with
        | lst g1 g2 =>
          cases f5 with
          | lst g3 g4 => exact ⟨_, _, _, _, rfl, .inl ⟨.inl (Same.rd r3.sub g1), .inl (Same.rd r3.sub g3), h2 _ H2 G3 r3 x3 (itok_zip g1 g2 g3 g4)⟩⟩
  · rename_i a b ρ3 e1
    obtain ⟨G3, r3, x3, f3⟩ := PlA.frz rel2 (.cons (fx1.mono ext2.same) (.cons fx2 .nil)) e1
    cases f3 with
    | cons f4 f5 =>
      cases f5 with
      | cons f5 f6 =>
        cases f4 with
        | tup g1 g2 =>
          cases f5 with
          | tup g3 g4 => exact ⟨_, _, _, _, rfl, .inr (.inl ⟨Same.tp r3.sub (sqt g1), Same.tp r3.sub (sqt g3), h2 _ H2 G3 r3 x3 (itok_zipT (sqt g1) g2 (sqt g3) g4)⟩)⟩
  · rename_i a b ρ3 e1
    obtain ⟨G3, r3, x3, f3⟩ := PlA.frz rel2 (.cons (fx1.mono ext2.same) (.cons fx2 .nil)) e1
    cases f3 with
    | cons f4 f5 =>
      cases f5 with
      | cons f5 f6 =>
        cases f4 with
        | lst g1 g2 =>
          cases f5 with
          | tup g3 g4 => exact ⟨_, _, _, _, rfl, .inr (.inr (.inl ⟨.inl (Same.rd r3.sub g1), Same.tp r3.sub (sqt g3), h2 _ H2 G3 r3 x3 (itok_zipLT (fun s => .inl (Same.rd s g1)) g2 (fun s => Same.tp s (sqt g3)) g4)⟩))⟩
  · rename_i a b ρ3 e1
    obtain ⟨G3, r3, x3, f3⟩ := PlA.frz rel2 (.cons (fx1.mono ext2.same) (.cons fx2 .nil)) e1
    cases f3 with
    | cons f4 f5 =>
      cases f5 with
      | cons f5 f6 =>
        cases f4 with
        | tup g1 g2 =>
          cases f5 with
          | lst g3 g4 => exact ⟨_, _, _, _, rfl, .inr (.inr (.inr ⟨Same.tp r3.sub (sqt g1), .inl (Same.rd r3.sub g3), h2 _ H2 G3 r3 x3 (itok_zipTL (fun s => Same.tp s (sqt g1)) g2 (fun s => .inl (Same.rd s g3)) g4)⟩))⟩
  · exact h2.elim)
end
end TN
namespace TNO
open PySem PySem.Spec PyProof.Rows L2 TN
theorem w_zipM {a b : CE} {ρ : Rho} {Q : List D → Rho → Prop} {E : Xc → Rho → Prop} (h : gE (a ρ) (fun p ρ1 => gE (b ρ1) (fun q ρ2 => fz1 p ρ2 fun d ρ3 => fz1 q ρ3 fun e ρ4 => gO (seqOf d) fun xs => gO (seqOf e) fun ys => Q (zipD xs ys) ρ4) E) E) : gE (cZipM a b ρ) Q E := by
  unfold cZipM
  refine gE_bind (gE_mono h fun p ρ1 h => gE_bind (gE_mono h fun q ρ2 h => ?_))
  obtain ⟨x, y, hx, h⟩ := gP_ex h
  obtain ⟨u, v, hu, h⟩ := gP_ex h
  obtain ⟨z, hz, h⟩ := gO_ex h
  obtain ⟨z', hz', h⟩ := gO_ex h
  have hf : frzA [p, q] ρ2 = some ([x, u], v) := by simp only [frzA, hx, hu]
  simp only [hf]
  cases x <;> cases hz <;> cases u <;> cases hz' <;> exact h
end TNO
namespace TN
open PySem PySem.Spec PyProof.Rows L2
theorem w_zipM {a b : CE} {ρ : Rho} {Q : List D → Rho → Prop} {E : Xc → Rho → Prop} (h : gE (a ρ) (fun p ρ1 => gE (b ρ1) (fun q ρ2 => fz1 p ρ2 fun d ρ3 => fz1 q ρ3 fun e ρ4 => gO (seqOf d) fun xs => gO (seqOf e) fun ys => Q (zipD xs ys) ρ4) E) E) : gE (cZipM a b ρ) Q E := by with_unfolding_all exact TNO.w_zipM h
end TN
/-! ### set(a) == set(b), of whole numbers -/
namespace PySem
open Sem (wp)
section
variable {prog : Program} {w : World} {A : Around} {E : Value → Shared → Prop} {s : Shared}
end
end PySem
namespace TN
open PySem PySem.Spec PyProof.Rows L2
section
variable {X : Cx} {a b : Expr} {ca cb : CE} {p p2 q q2 pos : Pos}
end
end TN
namespace TNO
open PySem PySem.Spec PyProof.Rows L2 TN
end TNO
namespace TN
open PySem PySem.Spec PyProof.Rows L2
end TN
/-! ### min(a, b, c) -/
namespace TN
open PySem PySem.Spec PyProof.Rows L2
end TN
namespace TN
open PySem PySem.Spec PyProof.Rows L2
/-! ### bars -/
section
variable {n : Nat} {ts : List (Nat × Nat)}
inductive Br where
  | plc
  | sh (s : Nat)
  | al
def bars (c : Nat) : List Br := [.plc] ++ (List.range (c - 1)).map (fun i => .sh (2 + i)) ++ [.al]
/-! ### round_from, by the package -/
end
/-! ### round_for -/
end TN
namespace TN
open PySem PySem.Spec PyProof.Rows L2
/-! ### the laws' look at bars -/
def lcI (n : Nat) (ts : List (Nat × Nat)) : List Int := (List.range n).map fun k => ((deg ts k : Nat) : Int)
theorem lcI_len (n : Nat) (ts : List (Nat × Nat)) : (lcI n ts).length = n := by simp [lcI]
theorem lcI_get {n : Nat} {ts : List (Nat × Nat)} {k : Nat} (h : k < n) : (lcI n ts).getD k 0 = ((deg ts k : Nat) : Int) := by
  simp [lcI, List.getD_eq_getElem?_getD, h]
theorem deg_snoc (pre : List (Nat × Nat)) (t : Nat × Nat) (k : Nat) : deg (pre ++ [t]) k = deg pre k + if hasP t k = true then 1 else 0 := by
  unfold deg
  rw [List.countP_append]
  by_cases h : hasP t k = true
  · simp [List.countP_cons, h]
  · simp [List.countP_cons, h]
section
variable {n : Nat} {ts : List (Nat × Nat)}
end
end TN
namespace TN
open PySem PySem.Spec PyProof.Rows L2
section
variable {n : Nat} {ts : List (Nat × Nat)}
end
/-! ### the webs of the laws on bars -/
structure Bwb (n : Nat) (ts : List (Nat × Nat)) : Prop where
  ok : WebOk n ts
  ne : ∀ t ∈ ts, t.1 ≠ t.2
  l1 : 1 ≤ ts.length
  lu : ts.length ≤ 200
end TN
namespace TNO
open PySem PySem.Spec PyProof.Rows L2 TN
end TNO
namespace TN
open PySem PySem.Spec PyProof.Rows L2
end TN
namespace TN
open PySem PySem.Spec PyProof.Rows L2
/-! ### orders -/
theorem fm_cong2 {α β : Type} {f g : α → Option β} (h : ∀ x, f x = g x) (l : List α) : l.filterMap f = l.filterMap g := by
  rw [funext h]
/-! ### total_span -/
end TN
namespace TN
open PySem PySem.Spec PyProof.Rows L2
/-! ### total numberings -/
def hiI : List Int → Int
  | [] => 0
  | a :: xs => xs.foldl max a
section
variable {n : Nat} {ts : List (Nat × Nat)} {P T : List Int}
theorem fMaxT {P : List Int} (h : P ≠ []) : fMax [.tuple (P.map .int)] = some (.val (.int (hiI P))) := by
  cases P with
  | nil => exact absurd rfl h
  | cons a xs => exact fMax_l a xs
/-! bars -/
inductive TBr where
  | sh (s : Nat)
  | tie
end

end TN
/-! ### isinstance(x, (list, tuple)) -/
namespace TN
open PySem PySem.Spec PyProof.Rows L2
inductive LTv (K : PySem.W.Frag) (H : Hp) : V → Bool → Prop
  | non : LTv K H .non false
  | bl (b : Bool) : LTv K H (.bl b) false
  | int (i : Int) : LTv K H (.int i) false
  | str (x : Str) : LTv K H (.str x) false
  | lst {a : Addr} {xs : List V} : SqL K H a xs → LTv K H (.ref a) true
  | tup {a : Addr} {xs : List V} : SqT K H a xs → LTv K H (.ref a) true
  | dct {a : Addr} : ((∃ kvs, H a = some (.dK kvs)) ∨ ∃ kvs, H a = some (.dT kvs)) → LTv K H (.ref a) false
def tIsLT (K : PySem.W.Frag) (te : TE) : TE := fun σ H Q => te σ H fun x H1 => ∃ b, LTv K H1 x b ∧ Q (.bl b) H1
section
variable {X : Cx} {e : Expr} {te : TE} {c : CE} {p p2 p3 pos tpos : Pos}
theorem vals_ty2' {a b : String} {us : List Value} (r : Vals [V.ty a, V.ty b] us) : us = [Value.type a, Value.type b] := by
  cases r with
  | cons r t =>
    cases t with
    | cons r' t =>
      cases t
      cases r
      cases r'
      rfl
theorem pe_isiLT {k : Nat} (he : PE X e te) (hg : Gl X "isinstance") (hm : X.mg "isinstance" = none) (hgl : Gl X "list") (hml : X.mg "list" = none) (hgt : Gl X "tuple") (hmt : X.mg "tuple" = none)
    (hs1 : starEach [e, .Tuple [.Name "list" p2, .Name "tuple" p3] k tpos] X.env = (false, eval e X.env) :: starEach [.Tuple [.Name "list" p2, .Name "tuple" p3] k tpos] X.env := by rfl) (hs2 : starEach [.Tuple [.Name "list" p2, .Name "tuple" p3] k tpos] X.env = (false, eval (.Tuple [.Name "list" p2, .Name "tuple" p3] k tpos) X.env) :: starEach [] X.env := by rfl)
    (hpl : (backTo pos (starEach [.Tuple [.Name "list" p2, .Name "tuple" p3] k tpos] X.env)).any (·.1) = false := by rfl) :
    PE X (.Call (.Name "isinstance" p) [e, .Tuple [.Name "list" p2, .Name "tuple" p3] k tpos] [] pos) (tIsLT X.K te) := by
  have hes : PA X [.Name "list" p2, .Name "tuple" p3] (tCons (tC (.ty "list")) (tCons (tC (.ty "tuple")) tNil)) :=
    pa_cons (pe_bltn (v := .ty "list") hgl hml boot_list rfl (by decide) (by decide)) (pa_cons (pe_bltn (v := .ty "tuple") hgt hmt boot_tuple rfl (by decide) (by decide)) pa_nil)
  refine ⟨fun pins s σ H Q I h => ?_⟩
  refine wpAny_Call_Name_kw (ld_blt I hg hm PyProof.Rows.boot_isinstance ?_ (by decide) (by decide))
  refine PyProof.Rows.callWith_builtin1 ?_ hs1 hpl
  rw [hs1]
  show wpAny _ _ (spliced ((false, eval e X.env) :: backTo pos (starEach [.Tuple [.Name "list" p2, .Name "tuple" p3] k tpos] X.env))) _ _ s
  refine Calls.spliced_cons (thn (he.run pins s σ H _ I h) fun u s1 ⟨x, H1, I1, r1, b, hb, q1⟩ => ?_)
  rw [hs2]
  show wpAny _ _ (spliced ((false, eval (.Tuple [.Name "list" p2, .Name "tuple" p3] k tpos) X.env) :: backTo pos (starEach [] X.env))) _ _ s1
  refine Calls.spliced_cons (wpAny_Tuple_spliced (thn (hes.run tpos pins s1 σ H1 (fun ys H' => ys = [.ty "list", .ty "tuple"] ∧ H' = H1) I1 ⟨rfl, rfl⟩) fun us s2 ⟨ys, H2, I2, r2, ey, eH⟩ => ?_))
  subst ey eH
  have eu := vals_ty2' r2
  subst eu
  refine ⟨by show 2 ≤ sizeLine; rw [sizeLine_eq]; omega, ?_⟩
  have I3 : Inv X pins σ H2 { s2 with heap := s2.heap.push { cls := .type "tuple", data := .seq [Value.type "list", Value.type "tuple"].toArray } } := I2.kept (t' := s2.toks) fun b u e => Heap.get?_push_of_some _ e
  have hgp : (s2.heap.push { cls := .type "tuple", data := .seq [Value.type "list", Value.type "tuple"].toArray }).get? s2.heap.objs.size = some { cls := .type "tuple", data := .seq [Value.type "list", Value.type "tuple"].toArray } := Heap.get?_push_size _ rfl
  refine Calls.spliced_nil ?_
  cases hb with
  | non =>
    cases (show u = Value.none from r1)
    exact call_isinstance (isinstance_tuple (Tx := "NoneType") (tp := s2.heap.objs.size) (cs := [.type "list", .type "tuple"]) (vs := [false, false]) ⟨Answers.of_false_none (by decide +kernel) PySem.F.isi_meta_list PySem.F.sub_NoneType_list, Answers.of_false_none (by decide +kernel) PySem.F.isi_meta_tuple PySem.F.sub_NoneType_tuple, True.intro⟩)
      ⟨typeIs_none _, hgp, fun tk => ⟨.bl false, _, I3.tok tk, rfl, q1⟩⟩
  | bl y =>
    cases (show u = Value.bool y from r1)
    exact call_isinstance (isinstance_tuple (Tx := "bool") (tp := s2.heap.objs.size) (cs := [.type "list", .type "tuple"]) (vs := [false, false]) ⟨Answers.of_false_bool (by decide +kernel) PySem.F.isi_meta_list PySem.F.sub_bool_list, Answers.of_false_bool (by decide +kernel) PySem.F.isi_meta_tuple PySem.F.sub_bool_tuple, True.intro⟩)
      ⟨PySem.typeIs_bool _ _, hgp, fun tk => ⟨.bl false, _, I3.tok tk, rfl, q1⟩⟩
  | int i =>
    obtain ⟨t, rfl⟩ := (show ∃ t, u = Value.int i t from r1)
    exact call_isinstance (isinstance_tuple (Tx := "int") (tp := s2.heap.objs.size) (cs := [.type "list", .type "tuple"]) (vs := [false, false]) ⟨Answers.of_false_int (by decide +kernel) PySem.F.isi_meta_list PySem.F.sub_int_list, Answers.of_false_int (by decide +kernel) PySem.F.isi_meta_tuple PySem.F.sub_int_tuple, True.intro⟩)
      ⟨typeIs_int _ _ _, hgp, fun tk => ⟨.bl false, _, I3.tok tk, rfl, q1⟩⟩
  | str y =>
    obtain ⟨t, rfl⟩ := (show ∃ t, u = Value.str y t from r1)
    exact call_isinstance (isinstance_tuple (Tx := "str") (tp := s2.heap.objs.size) (cs := [.type "list", .type "tuple"]) (vs := [false, false]) ⟨Answers.of_false_str (by decide +kernel) PySem.F.isi_meta_list PySem.F.sub_str_list, Answers.of_false_str (by decide +kernel) PySem.F.isi_meta_tuple PySem.F.sub_str_tuple, True.intro⟩)
      ⟨typeIs_str _ _ _, hgp, fun tk => ⟨.bl false, _, I3.tok tk, rfl, q1⟩⟩
  | @lst a xs hq =>
    cases (show u = Value.ref a from r1)
    obtain ⟨its, rv, pl, hz⟩ := I3.list hq
    exact call_isinstance (isinstance_tuple (Tx := "list") (tp := s2.heap.objs.size) (cs := [.type "list", .type "tuple"]) (vs := [true, false]) ⟨Answers.of_true PySem.F.isi_meta_list PySem.F.sub_list_list, Answers.of_false_list (by decide +kernel) PySem.F.isi_meta_tuple PySem.F.sub_list_tuple, True.intro⟩)
      ⟨pl.isList.typeIs, hgp, fun tk => ⟨.bl true, _, I3.tok tk, rfl, q1⟩⟩
  | @tup a xs hq =>
    cases (show u = Value.ref a from r1)
    obtain ⟨its, _, ⟨o, ho, hc, _⟩, _⟩ := I3.tuple hq
    exact call_isinstance (isinstance_tuple (Tx := "tuple") (tp := s2.heap.objs.size) (cs := [.type "list", .type "tuple"]) (vs := [false, true]) ⟨Answers.of_false_tuple (by decide +kernel) PySem.F.isi_meta_list PySem.F.sub_tuple_list, Answers.of_true PySem.F.isi_meta_tuple PySem.F.sub_tuple_tuple, True.intro⟩)
      ⟨⟨o, ho, hc⟩, hgp, fun tk => ⟨.bl true, _, I3.tok tk, rfl, q1⟩⟩
  | @dct a hk =>
    cases (show u = Value.ref a from r1)
    have z : ∃ o, (s2.heap.push { cls := .type "tuple", data := .seq [Value.type "list", Value.type "tuple"].toArray }).get? a = some o ∧ o.ExactDict := by
      rcases hk with ⟨kvs, hk⟩ | ⟨kvs, hk⟩
      · obtain ⟨_, _, _, _, o, _, _, e, ex, _⟩ := I3.hok a _ hk
        exact ⟨o, e, ex⟩
      · obtain ⟨_, _, _, _, o, _, _, e, ex, _⟩ := I3.hok a _ hk
        exact ⟨o, e, ex⟩
    obtain ⟨o, ho, hc⟩ := z
    exact call_isinstance (isinstance_tuple (Tx := "dict") (tp := s2.heap.objs.size) (cs := [.type "list", .type "tuple"]) (vs := [false, false]) ⟨Answers.of_false_dict (by decide +kernel) PySem.F.isi_meta_list PySem.F.sub_dict_list, Answers.of_false_dict (by decide +kernel) PySem.F.isi_meta_tuple PySem.F.sub_dict_tuple, True.intro⟩)
      ⟨⟨o, ho, hc.1⟩, hgp, fun tk => ⟨.bl false, _, I3.tok tk, rfl, q1⟩⟩
/-- whether a thing is a list or a tuple -/
def fIsLT : D → Option Pl
  | .none => some (.val (.bool false))
  | .bool _ => some (.val (.bool false))
  | .int _ => some (.val (.bool false))
  | .str _ => some (.val (.bool false))
  | .list _ => some (.val (.bool true))
  | .tuple _ => some (.val (.bool true))
  | .dict es => if isX (.dict es) = true then none else some (.val (.bool false))
theorem sx_isiLT {k : Nat} (hg : Gl X "isinstance") (hm : X.mg "isinstance" = none) (hgl : Gl X "list") (hml : X.mg "list" = none) (hgt : Gl X "tuple") (hmt : X.mg "tuple" = none) (ha : SX X e c)
    (hs1 : starEach [e, .Tuple [.Name "list" p2, .Name "tuple" p3] k tpos] X.env = (false, eval e X.env) :: starEach [.Tuple [.Name "list" p2, .Name "tuple" p3] k tpos] X.env := by rfl) (hs2 : starEach [.Tuple [.Name "list" p2, .Name "tuple" p3] k tpos] X.env = (false, eval (.Tuple [.Name "list" p2, .Name "tuple" p3] k tpos) X.env) :: starEach [] X.env := by rfl)
    (hpl : (backTo pos (starEach [.Tuple [.Name "list" p2, .Name "tuple" p3] k tpos] X.env)).any (·.1) = false := by rfl) :
    SX X (.Call (.Name "isinstance" p) [e, .Tuple [.Name "list" p2, .Name "tuple" p3] k tpos] [] pos) (cUn fIsLT c) := fun W tk => PEimp (pe_isiLT (ha W tk) hg hm hgl hml hgt hmt hs1 hs2 hpl) (by
  rintro σ H Q ⟨L, ρ, G, B, rel, h⟩
  refine ⟨L, ρ, G, B, rel, (Got.bind h).mono ?_⟩
  rintro v H1 ⟨q, ρ1, G1, _, rel1, _, fx1, h1⟩
  cases e1 : look q ρ1 with
  | none => simp only [e1] at h1; exact h1.elim
  | some d =>
    simp only [e1] at h1
    have hv := fx1.look rel1 e1
    cases d with
    | none =>
      have e2 : v = .non := by rcases hv with h | ⟨a, rfl, h⟩ <;> cases h; rfl
      subst e2
      exact ⟨_, .non, Got.done rel1 h1 (.fz (.bl _))⟩
    | bool b =>
      have e2 : v = .bl b := by rcases hv with h | ⟨a, rfl, h⟩ <;> cases h; rfl
      subst e2
      exact ⟨_, .bl b, Got.done rel1 h1 (.fz (.bl _))⟩
    | int i =>
      have e2 : v = .int i := by rcases hv with h | ⟨a, rfl, h⟩ <;> cases h; rfl
      subst e2
      exact ⟨_, .int i, Got.done rel1 h1 (.fz (.bl _))⟩
    | str x =>
      have e2 : v = .str x := by rcases hv with h | ⟨a, rfl, h⟩ <;> cases h; rfl
      subst e2
      exact ⟨_, .str x, Got.done rel1 h1 (.fz (.bl _))⟩
    | list ds =>
      obtain ⟨a, xs, rfl, h2, h3⟩ := hv.lst rel1.sub
      exact ⟨_, .lst (.inl h2), Got.done rel1 h1 (.fz (.bl _))⟩
    | tuple ds =>
      obtain ⟨a, xs, rfl, _, h2, h3⟩ := hv.tup rel1.sub
      exact ⟨_, .tup h2, Got.done rel1 h1 (.fz (.bl _))⟩
    | dict es =>
      simp only [fIsLT] at h1
      by_cases hx : isX (.dict es) = true
      · rw [if_pos hx] at h1; exact h1.elim
      · rw [if_neg hx] at h1
        have hk : ∃ a, v = .ref a ∧ ((∃ kvs, H1 a = some (.dK kvs)) ∨ ∃ kvs, H1 a = some (.dT kvs)) := by
          rcases hv with h | ⟨a, rfl, h⟩
          · cases h with
            | dK e _ => exact ⟨_, rfl, .inl ⟨_, rel1.sub _ _ e⟩⟩
            | dT e _ => exact ⟨_, rfl, .inr ⟨_, rel1.sub _ _ e⟩⟩
            | ex => exact absurd rfl hx
          · cases h with
            | dK e _ => exact ⟨_, rfl, .inl ⟨_, e⟩⟩
            | dT e _ => exact ⟨_, rfl, .inr ⟨_, e⟩⟩
        obtain ⟨a, rfl, hk⟩ := hk
        exact ⟨_, .dct hk, Got.done rel1 h1 (.fz (.bl _))⟩)
end
end TN
namespace TN
open PySem PySem.Spec PyProof.Rows L2
abbrev bb_put_in_order_1 : CS := (cUnp (gPut 3 putA (cVar 4)) (cVar 5))
abbrev ee_put_in_order_2 : CE := (cBin opIx (cVar 3) (cVar 4))
abbrev cc_put_in_order : CS := (cSeq (cSet 3 cNewT)
  (cSeq (cFor (cZipM (cVar 1) (cVar 2)) (gTp 2 (gsCons (gNm 4) (gsCons (gNm 5) gsNil)))
  bb_put_in_order_1)
  (cRet (cFn fTuple (cCons (cComp (cIt (cBin opIx (cVar 0) (cLit (.int 1)))) (gNm 4) tTrue ee_put_in_order_2 [4]) cNil)))))
def MM_put_in_order : FM := mkF 3 6 cc_put_in_order
theorem in_put_in_order {x0 x1 x2 : D} {m0 m1 m2 : Md} {T : D → Bool → List Slot → Prop} {E : Xc → List Slot → Prop} (h : gS (cc_put_in_order [some (x0, m0), some (x1, m1), some (x2, m2), none, none, none]) (fun ρ => T .none false (ρ.take 3)) (fun d fr ρ => T d fr (ρ.take 3)) (fun x ρ => E x (ρ.take 3))) : gF (MM_put_in_order [(x0, m0), (x1, m1), (x2, m2)]) T E := by
  unfold MM_put_in_order
  with_reducible refine gF_mkE (c := cc_put_in_order) ?_ ?_ h
  · rfl
  · rfl
abbrev ee_ring_numbers_1 : CE := (cVar 2)
abbrev tt_ring_numbers_2 : CB := (cTst (cBin opEq (cBin opMod (cVar 2) (cLit (.int 2))) (cLit (.int 0))))
abbrev ee_ring_numbers_3 : CE := (cVar 2)
abbrev tt_ring_numbers_4 : CB := (cTst (cBin opEq (cBin opMod (cVar 2) (cLit (.int 2))) (cLit (.int 1))))
abbrev cc_ring_numbers : CS := (cSeq (cSet 1 (cComp (cRng3 (cVar 0) (cLit (.int 0)) (cUn opNeg (cLit (.int 1)))) (gNm 2) tt_ring_numbers_2 ee_ring_numbers_1 [2]))
  (cRet (cBin opAdd (cComp (cRng2 (cLit (.int 1)) (cBin opAdd (cVar 0) (cLit (.int 1)))) (gNm 2) tt_ring_numbers_4 ee_ring_numbers_3 [2]) (cVar 1))))
def MM_ring_numbers : FM := mkF 1 3 cc_ring_numbers
theorem in_ring_numbers {x0 : D} {m0 : Md} {T : D → Bool → List Slot → Prop} {E : Xc → List Slot → Prop} (h : gS (cc_ring_numbers [some (x0, m0), none, none]) (fun ρ => T .none false (ρ.take 1)) (fun d fr ρ => T d fr (ρ.take 1)) (fun x ρ => E x (ρ.take 1))) : gF (MM_ring_numbers [(x0, m0)]) T E := by
  unfold MM_ring_numbers
  with_reducible refine gF_mkE (c := cc_ring_numbers) ?_ ?_ h
  · rfl
  · rfl
abbrev cc_row_numbers : CS := (cSeq (cSet 1 (cLstRg (cRg2 (cLit (.int 1)) (cBin opAdd (cVar 0) (cLit (.int 1))))))
  (cSeq (cIf (cTst (cBin opEq (cBin opMod (cVar 0) (cLit (.int 2))) (cLit (.int 1))))
  (cRet (cBin opAdd (cSl (cVar 1) cNoPart (cPart (cUn opNeg (cLit (.int 2))))) (cLst (cCons (cVar 0) (cCons (cBin opSub (cVar 0) (cLit (.int 1))) cNil)))))
  cSkip)
  (cRet (cVar 1))))
def MM_row_numbers : FM := mkF 1 2 cc_row_numbers
theorem in_row_numbers {x0 : D} {m0 : Md} {T : D → Bool → List Slot → Prop} {E : Xc → List Slot → Prop} (h : gS (cc_row_numbers [some (x0, m0), none]) (fun ρ => T .none false (ρ.take 1)) (fun d fr ρ => T d fr (ρ.take 1)) (fun x ρ => E x (ρ.take 1))) : gF (MM_row_numbers [(x0, m0)]) T E := by
  unfold MM_row_numbers
  with_reducible refine gF_mkE (c := cc_row_numbers) ?_ ?_ h
  · rfl
  · rfl
abbrev ee_hubs_of_1 : CE := (cVar 1)
abbrev tt_hubs_of_2 : CB := (cTst (cBin opEq (cVar 2) (cBin opSub (cBin opIx (cVar 0) (cLit (.int 0))) (cLit (.int 1)))))
abbrev cc_hubs_of : CS := (cRet (cComp (cEnum (cCall MM_tie_counts (cCons (cVar 0) cNil))) (gTp 2 (gsCons (gNm 1) (gsCons (gNm 2) gsNil))) tt_hubs_of_2 ee_hubs_of_1 [1, 2]))
def MM_hubs_of : FM := mkF 1 3 cc_hubs_of
theorem in_hubs_of {x0 : D} {m0 : Md} {T : D → Bool → List Slot → Prop} {E : Xc → List Slot → Prop} (h : gS (cc_hubs_of [some (x0, m0), none, none]) (fun ρ => T .none false (ρ.take 1)) (fun d fr ρ => T d fr (ρ.take 1)) (fun x ρ => E x (ρ.take 1))) : gF (MM_hubs_of [(x0, m0)]) T E := by
  unfold MM_hubs_of
  with_reducible refine gF_mkE (c := cc_hubs_of) ?_ ?_ h
  · rfl
  · rfl
abbrev cc_need_hub : CS := (cSeq (cSet 1 (cCall MM_hubs_of (cCons (cVar 0) cNil)))
  (cSeq (cIf (cOr (cTst (cBin opLt (cBin opIx (cVar 0) (cLit (.int 0))) (cLit (.int 3)))) (cTst (cBin opEq (cVar 1) (cLst cNil))))
  (cRaise "NoKind")
  cSkip)
  (cRet (cBin opIx (cVar 1) (cLit (.int 0))))))
def MM_need_hub : FM := mkF 1 2 cc_need_hub
theorem in_need_hub {x0 : D} {m0 : Md} {T : D → Bool → List Slot → Prop} {E : Xc → List Slot → Prop} (h : gS (cc_need_hub [some (x0, m0), none]) (fun ρ => T .none false (ρ.take 1)) (fun d fr ρ => T d fr (ρ.take 1)) (fun x ρ => E x (ρ.take 1))) : gF (MM_need_hub [(x0, m0)]) T E := by
  unfold MM_need_hub
  with_reducible refine gF_mkE (c := cc_need_hub) ?_ ?_ h
  · rfl
  · rfl
abbrev bb_sums_at_1 : CS := (cSeq (cUnp (gPut 2 putA (cVar 4)) (cBin opAdd (cBin opIx (cVar 2) (cVar 4)) (cVar 3)))
  (cUnp (gPut 2 putA (cVar 5)) (cBin opAdd (cBin opIx (cVar 2) (cVar 5)) (cVar 3))))
abbrev cc_sums_at : CS := (cSeq (cSet 2 (cBin opMul (cLst (cCons (cLit (.int 0)) cNil)) (cBin opIx (cVar 0) (cLit (.int 0)))))
  (cSeq (cFor (cZipM (cBin opIx (cVar 0) (cLit (.int 1))) (cVar 1)) (gTp 2 (gsCons (gTp 2 (gsCons (gNm 4) (gsCons (gNm 5) gsNil))) (gsCons (gNm 3) gsNil)))
  bb_sums_at_1)
  (cRet (cVar 2))))
def MM_sums_at : FM := mkF 2 6 cc_sums_at
theorem in_sums_at {x0 x1 : D} {m0 m1 : Md} {T : D → Bool → List Slot → Prop} {E : Xc → List Slot → Prop} (h : gS (cc_sums_at [some (x0, m0), some (x1, m1), none, none, none, none]) (fun ρ => T .none false (ρ.take 2)) (fun d fr ρ => T d fr (ρ.take 2)) (fun x ρ => E x (ρ.take 2))) : gF (MM_sums_at [(x0, m0), (x1, m1)]) T E := by
  unfold MM_sums_at
  with_reducible refine gF_mkE (c := cc_sums_at) ?_ ?_ h
  · rfl
  · rfl
abbrev bb_by_hub_1 : CS := (cIf (cTst (cBin opNotIn (cVar 1) (cVar 8)))
  (cUnp (gPut 3 putA (cVar 7)) (cMutL 4 fPop (cCons (cLit (.int 0)) cNil)))
  cSkip)
abbrev ee_by_hub_2 : CE := (cGet2 (cVar 3) (cVar 7) (cLit (.int 0)))
abbrev ee_by_hub_3 : CE := (cTup (cCons (cBin opIx (cVar 5) (cBin opSub (cFn fSum (cCons (cVar 8) cNil)) (cVar 1))) (cCons (cVar 7) cNil)))
abbrev tt_by_hub_4 : CB := (cTst (cBin opIn (cVar 1) (cVar 8)))
abbrev bb_by_hub_5 : CS := (cUnp (gPut 3 putA (cVar 7)) (cMutL 4 fPop (cCons (cLit (.int 0)) cNil)))
abbrev ee_by_hub_6 : CE := (cBin opIx (cVar 3) (cVar 7))
abbrev cc_by_hub : CS := (cSeq (cSet 3 cNewK)
  (cSeq (cSet 4 (cFn fListA (cCons (cVar 2) cNil)))
  (cSeq (cFor (cEnum (cBin opIx (cVar 0) (cLit (.int 1)))) (gTp 2 (gsCons (gNm 7) (gsCons (gNm 8) gsNil)))
  bb_by_hub_1)
  (cSeq (cSet 5 (cCall MM_sums_at (cCons (cVar 0) (cCons (cComp (cRng1 (cFn fLen (cCons (cBin opIx (cVar 0) (cLit (.int 1))) cNil))) (gNm 7) tTrue ee_by_hub_2 [7]) cNil))))
  (cSeq (cSet 6 (cComp (cEnum (cBin opIx (cVar 0) (cLit (.int 1)))) (gTp 2 (gsCons (gNm 7) (gsCons (gNm 8) gsNil))) tt_by_hub_4 ee_by_hub_3 [7, 8]))
  (cSeq (cFor (cIt (cFn fSorted (cCons (cVar 6) cNil))) (gTp 2 (gsCons (gNm 9) (gsCons (gNm 7) gsNil)))
  bb_by_hub_5)
  (cRet (cFn fTuple (cCons (cComp (cRng1 (cFn fLen (cCons (cBin opIx (cVar 0) (cLit (.int 1))) cNil))) (gNm 7) tTrue ee_by_hub_6 [7]) cNil)))))))))
def MM_by_hub : FM := mkF 3 10 cc_by_hub
theorem in_by_hub {x0 x1 x2 : D} {m0 m1 m2 : Md} {T : D → Bool → List Slot → Prop} {E : Xc → List Slot → Prop} (h : gS (cc_by_hub [some (x0, m0), some (x1, m1), some (x2, m2), none, none, none, none, none, none, none]) (fun ρ => T .none false (ρ.take 3)) (fun d fr ρ => T d fr (ρ.take 3)) (fun x ρ => E x (ρ.take 3))) : gF (MM_by_hub [(x0, m0), (x1, m1), (x2, m2)]) T E := by
  unfold MM_by_hub
  with_reducible refine gF_mkE (c := cc_by_hub) ?_ ?_ h
  · rfl
  · rfl
abbrev ee_numbers_in_1 : CE := (cAndV (cCall MMWhole (cCons (cVar 2) cNil)) (cBin opGt (cVar 2) (cLit (.int 0))))
abbrev cc_numbers_in : CS := (cSeq (cIf (cOr (cNot (cTst (cUn fIsLT (cVar 0)))) (cTst (cBin opNe (cFn fLen (cCons (cVar 0) cNil)) (cVar 1))))
  (cRaise "NoNumber")
  cSkip)
  (cSeq (cIf (cOr (cNot (cTst (cFn fAll (cCons (cComp (cIt (cVar 0)) (gNm 2) tTrue ee_numbers_in_1 [2]) cNil)))) (cTst (cBin opLt (cUn fLenSet (cVar 0)) (cVar 1))))
  (cRaise "NoNumber")
  cSkip)
  (cRet (cFn fSorted (cCons (cVar 0) cNil)))))
def MM_numbers_in : FM := mkF 2 3 cc_numbers_in
theorem in_numbers_in {x0 x1 : D} {m0 m1 : Md} {T : D → Bool → List Slot → Prop} {E : Xc → List Slot → Prop} (h : gS (cc_numbers_in [some (x0, m0), some (x1, m1), none]) (fun ρ => T .none false (ρ.take 2)) (fun d fr ρ => T d fr (ρ.take 2)) (fun x ρ => E x (ρ.take 2))) : gF (MM_numbers_in [(x0, m0), (x1, m1)]) T E := by
  unfold MM_numbers_in
  with_reducible refine gF_mkE (c := cc_numbers_in) ?_ ?_ h
  · rfl
  · rfl
abbrev cc_unlike_by : CS := (cSeq (cSet 2 (cCall MM_need_hub (cCons (cVar 0) cNil)))
  (cRet (cCall MM_by_hub (cCons (cVar 0) (cCons (cVar 2) (cCons (cCall MM_numbers_in (cCons (cVar 1) (cCons (cFn fLen (cCons (cBin opIx (cVar 0) (cLit (.int 1))) cNil)) cNil))) cNil))))))
def MM_unlike_by : FM := mkF 2 3 cc_unlike_by
theorem in_unlike_by {x0 x1 : D} {m0 m1 : Md} {T : D → Bool → List Slot → Prop} {E : Xc → List Slot → Prop} (h : gS (cc_unlike_by [some (x0, m0), some (x1, m1), none]) (fun ρ => T .none false (ρ.take 2)) (fun d fr ρ => T d fr (ρ.take 2)) (fun x ρ => E x (ρ.take 2))) : gF (MM_unlike_by [(x0, m0), (x1, m1)]) T E := by
  unfold MM_unlike_by
  with_reducible refine gF_mkE (c := cc_unlike_by) ?_ ?_ h
  · rfl
  · rfl
abbrev ee_unlike_for_1 : CE := (cTup (cCons (cVar 3) (cCons (cBin opAdd (cVar 3) (cLit (.int 1))) cNil)))
abbrev cc_unlike_for : CS := (cSeq (cIf (cNot (cTst (cCall MM_kind_good (cCons (cVar 0) cNil))))
  (cRaise "NoKind")
  cSkip)
  (cSeq (cSet 1 (cCall MM_web_for (cCons (cVar 0) cNil)))
  (cSeq (cSet 2 (cComp (cRng1 (cBin opSub (cBin opIx (cVar 1) (cLit (.int 0))) (cLit (.int 1)))) (gNm 3) tTrue ee_unlike_for_1 [3]))
  (cSeq (cIf (cTst (cBin opEq (cBin opIx (cVar 0) (cLit (.int 0))) (cLit (.str "ring"))))
  (cRet (cCall MM_put_in_order (cCons (cVar 1) (cCons (cBin opAdd (cVar 2) (cLst (cCons (cTup (cCons (cLit (.int 0)) (cCons (cBin opSub (cBin opIx (cVar 1) (cLit (.int 0))) (cLit (.int 1))) cNil))) cNil))) (cCons (cCall MM_ring_numbers (cCons (cBin opIx (cVar 1) (cLit (.int 0))) cNil)) cNil)))))
  cSkip)
  (cSeq (cIf (cAnd (cTst (cBin opEq (cBin opIx (cVar 0) (cLit (.int 0))) (cLit (.str "spine")))) (cAnd (cTst (cBin opEq (cFn fMax (cCons (cBin opIx (cVar 0) (cLit (.int 1))) cNil)) (cLit (.int 0)))) (cTst (cBin opGt (cBin opIx (cVar 1) (cLit (.int 0))) (cLit (.int 2))))))
  (cRet (cCall MM_put_in_order (cCons (cVar 1) (cCons (cVar 2) (cCons (cCall MM_row_numbers (cCons (cFn fLen (cCons (cVar 2) cNil)) cNil)) cNil)))))
  cSkip)
  (cRet (cCall MM_unlike_by (cCons (cVar 1) (cCons (cLstRg (cRg2 (cLit (.int 1)) (cBin opAdd (cFn fLen (cCons (cBin opIx (cVar 1) (cLit (.int 1))) cNil)) (cLit (.int 1))))) cNil)))))))))
def MM_unlike_for : FM := mkF 1 4 cc_unlike_for
theorem in_unlike_for {x0 : D} {m0 : Md} {T : D → Bool → List Slot → Prop} {E : Xc → List Slot → Prop} (h : gS (cc_unlike_for [some (x0, m0), none, none, none]) (fun ρ => T .none false (ρ.take 1)) (fun d fr ρ => T d fr (ρ.take 1)) (fun x ρ => E x (ρ.take 1))) : gF (MM_unlike_for [(x0, m0)]) T E := by
  unfold MM_unlike_for
  with_reducible refine gF_mkE (c := cc_unlike_for) ?_ ?_ h
  · rfl
  · rfl
abbrev bb__law_sums_of_1 : CS := (cSeq (cUnp (gPut 2 putA (cVar 4)) (cBin opAdd (cBin opIx (cVar 2) (cVar 4)) (cBin opIx (cVar 1) (cVar 3))))
  (cUnp (gPut 2 putA (cVar 5)) (cBin opAdd (cBin opIx (cVar 2) (cVar 5)) (cBin opIx (cVar 1) (cVar 3)))))
abbrev cc__law_sums_of : CS := (cSeq (cSet 2 (cBin opMul (cLst (cCons (cLit (.int 0)) cNil)) (cBin opIx (cVar 0) (cLit (.int 0)))))
  (cSeq (cFor (cEnum (cBin opIx (cVar 0) (cLit (.int 1)))) (gTp 2 (gsCons (gNm 3) (gsCons (gTp 2 (gsCons (gNm 4) (gsCons (gNm 5) gsNil))) gsNil)))
  bb__law_sums_of_1)
  (cRet (cVar 2))))
def MM__law_sums_of : FM := mkF 2 6 cc__law_sums_of
theorem in__law_sums_of {x0 x1 : D} {m0 m1 : Md} {T : D → Bool → List Slot → Prop} {E : Xc → List Slot → Prop} (h : gS (cc__law_sums_of [some (x0, m0), some (x1, m1), none, none, none, none]) (fun ρ => T .none false (ρ.take 2)) (fun d fr ρ => T d fr (ρ.take 2)) (fun x ρ => E x (ρ.take 2))) : gF (MM__law_sums_of [(x0, m0), (x1, m1)]) T E := by
  unfold MM__law_sums_of
  with_reducible refine gF_mkE (c := cc__law_sums_of) ?_ ?_ h
  · rfl
  · rfl
abbrev bb__law_unlike_1 : CS := (cIf (cTst (cBin opEq (cBin opIx (cVar 2) (cVar 3)) (cBin opIx (cVar 2) (cBin opAdd (cVar 3) (cLit (.int 1))))))
  (cRet (cLit (.bool false)))
  cSkip)
abbrev cc__law_unlike : CS := (cSeq (cSet 2 (cFn fSorted (cCons (cCall MM__law_sums_of (cCons (cVar 0) (cCons (cVar 1) cNil))) cNil)))
  (cSeq (cFor (cRng1 (cBin opSub (cFn fLen (cCons (cVar 2) cNil)) (cLit (.int 1)))) (gNm 3)
  bb__law_unlike_1)
  (cRet (cLit (.bool true)))))
def MM__law_unlike : FM := mkF 2 4 cc__law_unlike
theorem in__law_unlike {x0 x1 : D} {m0 m1 : Md} {T : D → Bool → List Slot → Prop} {E : Xc → List Slot → Prop} (h : gS (cc__law_unlike [some (x0, m0), some (x1, m1), none, none]) (fun ρ => T .none false (ρ.take 2)) (fun d fr ρ => T d fr (ρ.take 2)) (fun x ρ => E x (ρ.take 2))) : gF (MM__law_unlike [(x0, m0), (x1, m1)]) T E := by
  unfold MM__law_unlike
  with_reducible refine gF_mkE (c := cc__law_unlike) ?_ ?_ h
  · rfl
  · rfl
/-! ### unlike numberings: the package's ways -/
/-- a dict of whole numbers by whole numbers -/
def dII (E : List (Nat × Int)) : D := .dict (E.map fun p => (PyData.int (p.1 : Nat), PyData.int p.2))
def lkI (E : List (Nat × Int)) (k : Nat) : Option Int := (E.find? fun p => p.1 == k).map (·.2)
theorem lookK_dII (k : Nat) : ∀ E : List (Nat × Int), lookK (E.map fun p => (PyData.int (p.1 : Nat), PyData.int p.2)) (.inl (k : Int)) = (lkI E k).map PyData.int
  | [] => rfl
  | (s, v) :: E => by
    simp only [List.map_cons, lookK, lookK_dII k E]
    have e : (ckOf (.int (s : Nat)) = some (.inl (k : Int))) ↔ s = k := by
      show (some (Sum.inl (s : Int) : Key) = some (.inl (k : Int))) ↔ _
      simp
      omega
    by_cases h : s = k
    · rw [if_pos (e.mpr h)]
      simp [lkI, h]
    · rw [if_neg (fun z => h (e.mp z))]
      have : ((s, v).1 == k) = false := by simpa using h
      simp [lkI, List.find?_cons, this]
theorem dGet_dII (E : List (Nat × Int)) (k : Nat) : dGet (E.map fun p => (PyData.int (p.1 : Nat), PyData.int p.2)) (.int (k : Nat)) = some ((lkI E k).map PyData.int) := by
  rw [← lookK_dII k E]
  cases E <;> rfl
theorem isE_dII (E : List (Nat × Int)) : isE (E.map fun p => (PyData.int (p.1 : Nat), PyData.int p.2)) = false := by
  cases E <;> rfl
theorem put_dII {E : List (Nat × Int)} {k : Nat} (v : Int) (h : E.length < 16777216) (hk : lkI E k = none) : putA (dII E) (.int (k : Nat)) (.int v) = some (dII (E ++ [(k, v)])) := by
  have hp : dPut (E.map fun p => (PyData.int (p.1 : Nat), PyData.int p.2)) (.int (k : Nat)) (.int v) = some (putKD (E.map fun p => (PyData.int (p.1 : Nat), PyData.int p.2)) (.inl (k : Int)) (.int v)) := by
    have hl : (E.map fun p => (PyData.int (p.1 : Nat), PyData.int p.2)).length < 16777216 := by simpa using h
    cases E with
    | nil => rfl
    | cons s S =>
      rw [List.map_cons] at hl ⊢
      show (if _ then some _ else none) = _
      rw [if_pos hl]
  show (dPut (E.map fun p => (PyData.int (p.1 : Nat), PyData.int p.2)) (.int (k : Nat)) (.int v)).map PyData.dict = _
  rw [hp]
  unfold putKD dII
  rw [lookK_dII, hk]
  simp [keyD]
theorem ix_dII {E : List (Nat × Int)} {k : Nat} {v : Int} (h : lkI E k = some v) : opIx (dII E) (.int (k : Nat)) = some (.val (.int v)) := by
  have hg := dGet_dII E k
  rw [h] at hg
  show (match dGet (E.map fun p => (PyData.int (p.1 : Nat), PyData.int p.2)) (.int (k : Nat)) with
    | some (some d) => some (Pl.val d)
    | _ => none) = _
  rw [hg]; rfl
section
variable {n : Nat} {ts : List (Nat × Nat)}
theorem notin_tie (t : Nat × Nat) (k : Nat) : opNotIn (.int (k : Nat)) (tieD t) = some (.val (.bool (!hasP t k))) := by
  have h : SeqAt.shaped (.int (k : Nat)) = true ∧ SeqAt.shaped (tieD t) = true := ⟨rfl, shaped_tints [(t.1 : Int), (t.2 : Int)]⟩
  unfold tieD at h ⊢
  unfold opNotIn seqOf
  have e : ∀ a b : Nat, ((a : Int) == (b : Int)) = (a == b) := fun a b => by
    rw [Bool.eq_iff_iff, beq_iff_eq, beq_iff_eq]
    omega
  simp only [if_pos h, List.any_cons, List.any_nil, PyData.eqv, hasP, e, Bool.or_false]
theorem sat_run (h : WebOk n ts) {V : List Int} (hV : V.length = ts.length) : (MM_sums_at [(webD n ts, .fz), (.list (V.map .int), .fz)]).rv = some (.list ((sumsL n ts V).map .int), true) := by
  have hnl := h.nl
  have h0 := rep0 h.nl
  have hz := zipD_ts ts V
  have hzm : ∀ p ∈ ts.zip V, p.1.1 < n ∧ p.1.2 < n := fun p hp => h.lt p.1 (List.of_mem_zip hp).1
  unfold sumsL
  generalize ts.zip V = Z at *
  with_reducible refine rv_gF (in_sums_at ?_)
  repeat' (first | (apply gO_of h0) | (apply w_zipM) | array_mem_dec)
  rw [hz]
  refine for_inv Z (fun p => .tuple [tieD p.1, .int p.2]) (fun pre ρ => ∃ j3 j4 j5, ρ = [some (webD n ts, .fz), some (.list (V.map .int), .fz), some (.list ((pre.foldl sumStep (List.replicate n 0)).map .int), .own), jk j3, jk j4, jk j5]) rfl ⟨none, none, none, rfl⟩ ?_ ?_
  · rintro pre p post _ hE ⟨j3, j4, j5, rfl⟩
    obtain ⟨l1, l2⟩ := hzm p (by rw [hE]; simp)
    have hal : (pre.foldl sumStep (List.replicate n 0)).length = n := by rw [sumFold_len]; simp
    rw [List.foldl_append]
    generalize pre.foldl sumStep (List.replicate n 0) = A at *
    have i1 : opIx (.list (A.map .int)) (.int (p.1.1 : Nat)) = some (.val (.int (A.getD p.1.1 0))) := ix_intsL (by omega)
    have p1 : putA (.list (A.map .int)) (.int (p.1.1 : Nat)) (.int (A.getD p.1.1 0 + p.2)) = some (.list ((addAt A p.1.1 p.2).map .int)) := put_i (by omega) _
    have hbl := addAt_len A p.1.1 p.2
    have e1 : List.foldl sumStep A [p] = addAt (addAt A p.1.1 p.2) p.1.2 p.2 := rfl
    rw [e1]
    generalize addAt A p.1.1 p.2 = Bq at *
    have i2 : opIx (.list (Bq.map .int)) (.int (p.1.2 : Nat)) = some (.val (.int (Bq.getD p.1.2 0))) := ix_intsL (by omega)
    have p2 : putA (.list (Bq.map .int)) (.int (p.1.2 : Nat)) (.int (Bq.getD p.1.2 0 + p.2)) = some (.list ((addAt Bq p.1.2 p.2).map .int)) := put_i (by omega) _
    generalize (addAt Bq p.1.2 p.2).map PyData.int = CD at *
    generalize Bq.map PyData.int = BD at *
    generalize A.map PyData.int = AD at *
    repeat' (first | (apply put_rfl p1) | (apply put_rfl p2) | array_mem_dec)
    exact ⟨some (.int p.2), some (.int (p.1.1 : Nat)), some (.int (p.1.2 : Nat)), rfl⟩
  · rintro _ ⟨j3, j4, j5, rfl⟩
    repeat' array_mem_dec
    exact ⟨rfl, rfl⟩
/-- the hubs -/
def hubL (n : Nat) (ts : List (Nat × Nat)) : List Nat := (lcI n ts).zipIdx.filterMap fun p => if decide (p.1 = (n : Int) - 1) = true then some p.2 else none
theorem hubs_run (h : WebOk n ts) : (MM_hubs_of [(webD n ts, .fz)]).rv = some (.list (lg (hubL n ts)), true) := by
  have hc : (MM_tie_counts [(webD n ts, .fz)]).rv = some (.tuple ((lcI n ts).map .int), false) := counts_run h
  have hnl := h.nl
  have hll := lcI_len n ts
  have key : (lcI n ts).zipIdx.filterMap (fun p => if decide (p.1 = (n : Int) - 1) = true then some (PyData.int (p.2 : Nat)) else none) = lg (hubL n ts) := by
    unfold hubL
    rw [lg_ints, List.map_map, List.map_filterMap]
    refine fm_cong2 (fun p => ?_) _
    split <;> rfl
  with_reducible refine rv_gF (in_hubs_of ?_)
  repeat' (first | array_mem_dec | ((with_reducible refine TN.c_rv ?_ ?_ hc ?_); exact rfl; exact rfl))
  refine TN.cp_enumF ((lcI n ts)) (.int) (fun k x => if decide (x = (n : Int) - 1) = true then some (.int (k : Nat)) else none) rfl (by (first | omega | (simp; done) | (simp; omega))) (by (first | exact rfl | (repeat (first | exact TN.wOk_nil | ((apply TN.wOk_cons); exact rfl; (first | exact TN.okW_none | exact TN.okW_fz | exact TN.okW_jk | assumption)))))) (by (repeat (first | exact wipe_nil | apply wipe_cons | exact st0 | apply stS))) ?_ ?_
  · intro k x hx
    repeat' array_mem_dec
    refine br_dec (fun q => ?_) fun q => ?_
    · repeat' array_mem_dec
      exact ⟨by rw [if_pos (decide_eq_true q)], rfl⟩
    · repeat' array_mem_dec
      exact ⟨by rw [if_neg (fun z => q (of_decide_eq_true z))], rfl⟩
  · rw [key]
    repeat' array_mem_dec
    exact ⟨rfl, rfl⟩
theorem need_run (h : WebOk n ts) (h3 : 3 ≤ n) {h0 : Nat} {r : List Nat} (hh : hubL n ts = h0 :: r) : (MM_need_hub [(webD n ts, .fz)]).rv = some (.int (h0 : Nat), false) := by
  have h1 := hubs_run h
  rw [hh] at h1
  have h2 : opEq (.list (lg (h0 :: r))) (.list []) = some (.val (.bool false)) := by
    have e := opEq_ints ((h0 :: r).map fun (k : Nat) => (k : Int)) []
    rw [lg_ints]
    simpa using e
  have i0 : opIx (.list (lg (h0 :: r))) (.int 0) = some (.val (.int (h0 : Nat))) := by
    rw [lg_ints]
    exact ix_intsL (ns := (h0 :: r).map fun (k : Nat) => (k : Int)) (k := 0) (by simp)
  generalize lg (h0 :: r) = LD at *
  with_reducible refine rv_gF (in_need_hub ?_)
  repeat' (first | array_mem_dec | ((with_reducible refine TN.c_rvT ?_ ?_ h1 ?_); exact rfl; exact rfl))
  all_goals exact ⟨rfl, rfl⟩
theorem numin_run {X : List Int} {m : Nat} (hl : X.length = m) (hm : m ≤ 1000) (hp : ∀ x ∈ X, 0 < x) (hn : X.Nodup) : (MM_numbers_in [(.list (X.map .int), .fz), (.int (m : Nat), .fz)]).rv = some (.list ((sortI X).map .int), true) := by
  have hXl : (X.map PyData.int).length = m := by rw [List.length_map, hl]
  have hls := fLenSet_l X (by omega)
  have hdd : (ddI X).length = m := by rw [← hl]; exact (dd_nd X).mpr hn
  have hso := fSorted_l X (by omega)
  have hal : fAll [.list (X.map fun _ => PyData.bool true)] = some (.val (.bool true)) := by
    have := fAll_map X (fun _ => true)
    rw [show (X.all fun _ => true) = true by simp] at this
    exact this
  rw [hdd] at hls
  have hlt : fIsLT (.list (X.map .int)) = some (.val (.bool true)) := rfl
  with_reducible refine rv_gF (in_numbers_in ?_)
  repeat' (first | (apply gO_of hlt) | array_mem_dec)
  refine TN.cp_map (X) (.int) (fun _ => .bool true) rfl (by (first | omega | (simp; done) | (simp; omega))) (by (first | exact rfl | (repeat (first | exact TN.wOk_nil | ((apply TN.wOk_cons); exact rfl; (first | exact TN.okW_none | exact TN.okW_fz | exact TN.okW_jk | assumption)))))) (by (repeat (first | exact wipe_nil | apply wipe_cons | exact st0 | apply stS))) ?_ ?_
  · intro x hx
    have h0 := hp x hx
    have hwr : (MMWhole [(.int x, .fz)]).rv = some (.bool true, false) := whole_run (.int x)
    repeat' (first | array_mem_dec | ((with_reducible refine TN.c_rv ?_ ?_ hwr ?_); exact rfl; exact rfl))
    exact ⟨by rw [decide_eq_true h0], rfl⟩
  · repeat' (first | (apply gO_of hal) | (apply gO_of hls) | (apply gO_of hso) | array_mem_dec)
    exact ⟨rfl, rfl⟩
/-- the keys of the ties aside from a place, of a part of the ties -/
def asdK (h : Nat) (pre : List ((Nat × Nat) × Nat)) : List Nat := (pre.filter fun p => !hasP p.1 h).map (·.2)
def lk0 (E : List (Nat × Int)) (k : Nat) : Int := (lkI E k).getD 0
def rowsH (h : Nat) (ts : List (Nat × Nat)) (W : List Nat) : List (Nat × Nat) := ts.zipIdx.filterMap fun p => if hasP p.1 h = true then some (W.getD (p.1.1 + p.1.2 - h) 0, p.2) else none
def byE (h : Nat) (ts : List (Nat × Nat)) (X : List Int) (L : List (Nat × Nat)) : List (Nat × Int) := (asdK h ts.zipIdx ++ L.map (·.2)).zip X
theorem popL {x : Int} {xs : List Int} (h : xs.length < 1000) : fPop (.list ((x :: xs).map .int)) [.int 0] = some (.list (xs.map .int), .int x) := by
  have h1 : ((x :: xs).map PyData.int).length ≤ 16777216 := by simp; omega
  show (if ((x :: xs).map PyData.int).length ≤ 16777216 then _ else none) = _
  rw [if_pos h1]
  have e : ixN ((x :: xs).map PyData.int).length (0 : Int) = some 0 := by unfold ixN; simp
  rw [e]; rfl
theorem lk_none {K : List Nat} {V : List Int} {k : Nat} (h : k ∉ K) : lkI (K.zip V) k = none := by
  unfold lkI
  rw [Option.map_eq_none_iff, List.find?_eq_none]
  intro p hp
  have := (List.of_mem_zip hp).1
  simp
  rintro rfl
  exact h this
theorem zip_snoc {K : List Nat} {X : List Int} {k : Nat} (h : K.length < X.length) : (K ++ [k]).zip X = K.zip X ++ [(k, X.getD K.length 0)] := by
  induction K generalizing X with
  | nil =>
    cases X with
    | nil => simp at h
    | cons x xs => simp
  | cons a K ih =>
    cases X with
    | nil => simp at h
    | cons x xs =>
      simp only [List.cons_append, List.zip_cons_cons, List.length_cons]
      rw [ih (by simpa using h)]
      simp
theorem drop_get {X : List Int} {i : Nat} (h : i < X.length) : X.drop i = X.getD i 0 :: X.drop (i + 1) := by
  rw [List.drop_eq_getElem_cons h, List.getD_eq_getElem?_getD, List.getElem?_eq_getElem h]; rfl
theorem asdK_snoc (hb : Nat) (pre : List ((Nat × Nat) × Nat)) (p : (Nat × Nat) × Nat) : asdK hb (pre ++ [p]) = asdK hb pre ++ if hasP p.1 hb = true then [] else [p.2] := by
  unfold asdK
  rw [List.filter_append, List.map_append]
  congr 1
  cases q : hasP p.1 hb <;> simp [q]
theorem asdK_le (hb : Nat) (pre : List ((Nat × Nat) × Nat)) : (asdK hb pre).length ≤ pre.length := by
  unfold asdK
  rw [List.length_map]
  exact List.length_filter_le _ _
theorem asdK_mem {hb : Nat} {pre : List ((Nat × Nat) × Nat)} {k : Nat} (h : k ∈ asdK hb pre) : ∃ p ∈ pre, p.2 = k := by
  unfold asdK at h
  obtain ⟨p, hp, e⟩ := List.mem_map.mp h
  exact ⟨p, (List.mem_filter.mp hp).1, e⟩
theorem zipIdx_fst {α : Type} {l : List α} {pre post : List (α × Nat)} {p : α × Nat} (h : l.zipIdx = pre ++ p :: post) : p.2 = pre.length ∧ ∀ q ∈ pre, q.2 < pre.length := by
  have hl := congrArg List.length h
  simp at hl
  have key : ∀ i (hi : i < l.zipIdx.length), (l.zipIdx[i]).2 = i := fun i hi => by simp
  constructor
  · have h1 : l.zipIdx[pre.length]? = some p := by rw [h]; simp
    obtain ⟨hi, e⟩ := List.getElem?_eq_some_iff.mp h1
    have := key _ hi
    rw [e] at this
    exact this
  · intro q hq
    obtain ⟨i, hi, e⟩ := List.mem_iff_getElem.mp hq
    have h1 : l.zipIdx[i]? = some q := by
      rw [h, List.getElem?_append_left hi, List.getElem?_eq_getElem hi, e]
    obtain ⟨hi2, e2⟩ := List.getElem?_eq_some_iff.mp h1
    have := key _ hi2
    rw [e2] at this
    omega
theorem byhub_run (h : WebOk n ts) {hb : Nat} {X : List Int} (hX : X.length = ts.length) (hm : ts.length ≤ 900) {W : List Nat} (hWl : W.length = n) (hW : sumsL n ts ((List.range ts.length).map fun k => lk0 ((asdK hb ts.zipIdx).zip X) k) = W.map (fun (k : Nat) => (k : Int)))
    (ho : ∀ t ∈ ts, hasP t hb = true → hb ≤ t.1 + t.2 ∧ t.1 + t.2 - hb < n) {L : List (Nat × Nat)} (hL : sortT (rowsH hb ts W) = L) (hKn : (asdK hb ts.zipIdx ++ L.map (·.2)).Nodup) (hKl : (asdK hb ts.zipIdx ++ L.map (·.2)).length = ts.length) (hKc : ∀ k, k < ts.length → ∃ v, lkI (byE hb ts X L) k = some v) :
    (MM_by_hub [(webD n ts, .fz), (.int (hb : Nat), .fz), (.list (X.map .int), .fz)]).rv = some (.tuple ((List.range ts.length).map fun k => .int (lk0 (byE hb ts X L) k)), false) := by
  have hnl := h.nl
  have e1 : enumD (ts.map tieD) = ts.zipIdx.map fun p => PyData.tuple [.int (p.2 : Nat), tieD p.1] := enum_zip ts tieD
  have hzl : ts.zipIdx.length = ts.length := by simp
  with_reducible refine rv_gF (in_by_hub ?_)
  repeat' array_mem_dec
  rw [e1]
  refine for_inv ts.zipIdx (fun p => PyData.tuple [.int (p.2 : Nat), tieD p.1]) (fun pre ρ => ∃ j7 j8, ρ = [some (webD n ts, .fz), some (.int (hb : Nat), .fz), some (.list (X.map .int), .fz), some (dII ((asdK hb pre).zip X), .own), some (.list ((X.drop (asdK hb pre).length).map .int), .own), none, none, jk j7, jk j8, none]) rfl ⟨none, none, rfl⟩ ?_ ?_
  · rintro pre p post _ hE ⟨j7, j8, rfl⟩
    obtain ⟨hp2, hq⟩ := zipIdx_fst hE
    have hni := notin_tie p.1 hb
    have hle := asdK_le hb pre
    have hpl : pre.length < X.length := by
      have := congrArg List.length hE
      rw [List.length_append, hzl] at this
      simp at this; omega
    rw [asdK_snoc]
    cases hc : hasP p.1 hb with
    | true =>
      rw [hc] at hni
      rw [if_pos rfl, List.append_nil]
      generalize tieD p.1 = TD at *
      repeat' array_mem_dec
      exact ⟨some (.int (p.2 : Nat)), some TD, rfl⟩
    | false =>
      rw [hc] at hni
      rw [if_neg Bool.false_ne_true]
      have hnk : p.2 ∉ asdK hb pre := fun hk => by
        obtain ⟨q, hq1, e⟩ := asdK_mem hk
        have := hq q hq1
        omega
      have hdl : (X.drop ((asdK hb pre).length + 1)).length < 1000 := by rw [List.length_drop]; omega
      have hpop := popL (x := X.getD (asdK hb pre).length 0) hdl
      rw [← drop_get (by omega)] at hpop
      have hput := put_dII (E := (asdK hb pre).zip X) (k := p.2) (X.getD (asdK hb pre).length 0) (by rw [List.length_zip]; omega) (lk_none hnk)
      rw [← zip_snoc (by omega)] at hput
      have hsl : (asdK hb pre ++ [p.2]).length = (asdK hb pre).length + 1 := by simp
      rw [hsl]
      generalize (X.drop ((asdK hb pre).length + 1)).map PyData.int = L2 at *
      generalize (X.drop (asdK hb pre).length).map PyData.int = L1 at *
      generalize X.getD (asdK hb pre).length 0 = x at *
      generalize dII ((asdK hb pre ++ [p.2]).zip X) = D2 at *
      generalize dII ((asdK hb pre).zip X) = D1 at *
      generalize tieD p.1 = TD at *
      repeat' (first | (apply gO_of hpop) | (apply put_rfl hput) | array_mem_dec)
      exact ⟨some (.int (p.2 : Nat)), some TD, rfl⟩
  · rintro _ ⟨j7, j8, rfl⟩
    have hAn : (asdK hb ts.zipIdx).length ≤ ts.length := by rw [List.length_append] at hKl; omega
    have hV : ((List.range ts.length).map fun k => lk0 ((asdK hb ts.zipIdx).zip X) k).length = ts.length := by simp
    have hsat := sat_run h hV
    rw [hW] at hsat
    have kV : (List.range ts.length).map (fun k => PyData.int (lk0 ((asdK hb ts.zipIdx).zip X) k)) = ((List.range ts.length).map fun k => lk0 ((asdK hb ts.zipIdx).zip X) k).map .int := by rw [List.map_map]; rfl
    have hrl : (rowsH hb ts W).length ≤ 1000 := by
      unfold rowsH
      exact Nat.le_trans (List.length_filterMap_le _ _) (by simp; omega)
    have hso := sortT_run (rowsH hb ts W) hrl
    rw [hL] at hso
    have kR : ts.zipIdx.filterMap (fun p => if hasP p.1 hb = true then some (tieD (W.getD (p.1.1 + p.1.2 - hb) 0, p.2)) else none) = (rowsH hb ts W).map tieD := by
      unfold rowsH
      rw [List.map_filterMap]
      refine fm_cong2 (fun p => ?_) _
      split <;> rfl
    have hWW : ((W.map fun (k : Nat) => (k : Int)).map PyData.int).length = n := by simp [hWl]
    unfold byE at hKc ⊢
    generalize hA : asdK hb ts.zipIdx = A at *
    repeat' array_mem_dec
    refine TN.cp_rng (ts.length) ((fun k => PyData.int (lk0 (A.zip X) k))) (by (first | omega | exact rfl)) (by (first | omega | (simp; done) | (simp; omega))) (by (first | exact rfl | (repeat (first | exact TN.wOk_nil | ((apply TN.wOk_cons); exact rfl; (first | exact TN.okW_none | exact TN.okW_fz | exact TN.okW_jk | assumption)))))) (by (repeat (first | exact wipe_nil | apply wipe_cons | exact st0 | apply stS))) ?_ ?_
    · intro k hk
      have hg := dGet_dII (A.zip X) k
      have hv : (((lkI (A.zip X) k).map PyData.int).getD (.int 0)) = .int (lk0 (A.zip X) k) := by
        unfold lk0
        cases lkI (A.zip X) k <;> rfl
      rw [← hv]
      unfold dII
      repeat' (first | (apply w_get2) | array_mem_dec)
      refine ⟨_, rfl, isE_dII _, ?_⟩
      repeat' array_mem_dec
      refine ⟨_, rfl, ?_⟩
      repeat' array_mem_dec
      refine ⟨_, rfl, ?_⟩
      repeat' (first | (apply gO_of hg) | array_mem_dec)
      exact ⟨rfl, rfl⟩
    · rw [kV]
      generalize ((List.range ts.length).map fun k => lk0 (A.zip X) k).map PyData.int = VD at *
      have hix : ∀ j, j < n → opIx (.list ((W.map fun (k : Nat) => (k : Int)).map .int)) (.int (j : Nat)) = some (.val (.int ((W.getD j 0 : Nat) : Int))) := fun j hj => by
        rw [ix_intsL (by simp [hWl]; exact hj)]
        congr 3
        rw [List.getD_eq_getElem?_getD, List.getD_eq_getElem?_getD, List.getElem?_map, List.getElem?_eq_getElem (by omega)]; rfl
      generalize (W.map fun (k : Nat) => (k : Int)).map PyData.int = WD at *
      repeat' (first | array_mem_dec | ((with_reducible refine TN.c_rvT ?_ ?_ hsat ?_); exact rfl; exact rfl))
      refine TN.cp_enumF (ts) (tieD) (fun k t => if hasP t hb = true then some (tieD (W.getD (t.1 + t.2 - hb) 0, k)) else none) rfl (by (first | omega | (simp; done) | (simp; omega))) (by (first | exact rfl | (repeat (first | exact TN.wOk_nil | ((apply TN.wOk_cons); exact rfl; (first | exact TN.okW_none | exact TN.okW_fz | exact TN.okW_jk | assumption)))))) (by (repeat (first | exact wipe_nil | apply wipe_cons | exact st0 | apply stS))) ?_ ?_
      · intro k t ht
        have htm := List.mem_of_getElem? ht
        have hni := in_tie t hb
        cases hc : hasP t hb with
        | false =>
          rw [hc] at hni
          generalize tieD t = TD at *
          repeat' array_mem_dec
          exact ⟨rfl, rfl⟩
        | true =>
          rw [hc] at hni
          obtain ⟨o1, o2⟩ := ho t htm hc
          have hsm : fSum [tieD t] = some (.val (.int ((t.1 + t.2 : Nat) : Int))) := by
            have := fSum_t [(t.1 : Int), (t.2 : Int)]
            unfold tieD
            simp only [List.map_cons, List.map_nil] at this
            rw [this]
            simp
          have e2 : ((t.1 + t.2 : Nat) : Int) - (hb : Nat) = ((t.1 + t.2 - hb : Nat) : Int) := by omega
          have hj := hix _ o2
          rw [if_pos rfl]
          have e3 : tieD (W.getD (t.1 + t.2 - hb) 0, k) = .tuple [.int ((W.getD (t.1 + t.2 - hb) 0 : Nat) : Int), .int (k : Nat)] := rfl
          rw [e3]
          generalize tieD t = TD at *
          repeat' (first | (rw [e2]) | array_mem_dec)
          exact ⟨rfl, rfl⟩
      · rw [kR]
        repeat' (first | (apply gO_of hso) | array_mem_dec)
        have hLl : L.length ≤ ts.length := by rw [List.length_append, List.length_map] at hKl; omega
        generalize (rowsH hb ts W).map tieD = RD at *
        refine for_inv L tieD (fun pre ρ => ∃ j7 j9, ρ = [some (webD n ts, .fz), some (.int (hb : Nat), .fz), some (.list (X.map .int), .fz), some (dII ((A ++ pre.map (·.2)).zip X), .own), some (.list ((X.drop (A.length + pre.length)).map .int), .own), some (.list WD, .own), some (.list RD, .own), jk j7, jk j8, jk j9]) rfl ⟨j7, none, by simp; rfl⟩ ?_ ?_
        · rintro pre p post _ hE ⟨j7, j9, rfl⟩
          have hpl : pre.length < L.length := by rw [hE]; simp
          have hAl : (A ++ pre.map (·.2)).length = A.length + pre.length := by simp
          have hAL : A.length + L.length = ts.length := by rw [List.length_append, List.length_map] at hKl; exact hKl
          have hnk : p.2 ∉ A ++ pre.map (·.2) := by
            rw [hE, List.map_append, List.map_cons, ← List.append_assoc] at hKn
            have := (List.nodup_append.mp hKn).2.2
            intro hk
            exact this _ hk p.2 (by simp) rfl
          have hdl : (X.drop (A.length + pre.length + 1)).length < 1000 := by rw [List.length_drop]; omega
          have hpop := popL (x := X.getD (A.length + pre.length) 0) hdl
          rw [← drop_get (by omega)] at hpop
          have hput := put_dII (E := (A ++ pre.map (·.2)).zip X) (k := p.2) (X.getD (A.length + pre.length) 0) (by rw [List.length_zip]; omega) (lk_none hnk)
          rw [← hAl, ← zip_snoc (by omega), hAl] at hput
          have e4 : A ++ (pre ++ [p]).map (·.2) = A ++ pre.map (·.2) ++ [p.2] := by simp
          have e5 : A.length + (pre ++ [p]).length = A.length + pre.length + 1 := by simp; omega
          have e6 : tieD p = .tuple [.int (p.1 : Nat), .int (p.2 : Nat)] := rfl
          rw [e4, e5, e6]
          generalize (X.drop (A.length + pre.length + 1)).map PyData.int = L2 at *
          generalize (X.drop (A.length + pre.length)).map PyData.int = L1 at *
          generalize X.getD (A.length + pre.length) 0 = x at *
          generalize dII ((A ++ pre.map (·.2) ++ [p.2]).zip X) = D2 at *
          generalize dII ((A ++ pre.map (·.2)).zip X) = D1 at *
          repeat' (first | (apply gO_of hpop) | (apply put_rfl hput) | array_mem_dec)
          exact ⟨some (.int (p.2 : Nat)), some (.int (p.1 : Nat)), rfl⟩
        · rintro _ ⟨j7, j9, rfl⟩
          have hix2 : ∀ k, k < ts.length → opIx (dII ((A ++ L.map (·.2)).zip X)) (.int (k : Nat)) = some (.val (.int (lk0 ((A ++ L.map (·.2)).zip X) k))) := fun k hk => by
            obtain ⟨v, hv⟩ := hKc k hk
            rw [ix_dII hv]
            unfold lk0
            rw [hv]; rfl
          generalize dII ((A ++ L.map (·.2)).zip X) = DD at *
          repeat' array_mem_dec
          refine TN.cp_rng (ts.length) ((fun k => PyData.int (lk0 ((A ++ L.map (·.2)).zip X) k))) (by (first | omega | exact rfl)) (by (first | omega | (simp; done) | (simp; omega))) (by (first | exact rfl | (repeat (first | exact TN.wOk_nil | ((apply TN.wOk_cons); exact rfl; (first | exact TN.okW_none | exact TN.okW_fz | exact TN.okW_jk | assumption)))))) (by (repeat (first | exact wipe_nil | apply wipe_cons | exact st0 | apply stS))) ?_ ?_
          · intro k hk
            have hk2 := hix2 k hk
            repeat' array_mem_dec
            exact ⟨rfl, rfl⟩
          · repeat' array_mem_dec
            exact ⟨rfl, rfl⟩
end
/-! the laws' sums -/
section
variable {n : Nat} {ts : List (Nat × Nat)}
theorem zip_idx (ts : List (Nat × Nat)) {V : List Int} (hV : V.length = ts.length) : ts.zip V = ts.zipIdx.map fun p => (p.1, V.getD p.2 0) := by
  apply List.ext_getElem?
  intro i
  by_cases hi : i < ts.length
  · have hv : i < V.length := by omega
    simp [hi, hv, List.getD_eq_getElem?_getD, List.getElem?_zip_eq_some]
  · rw [List.getElem?_eq_none (by simp; omega), List.getElem?_eq_none (by simp; omega)]
theorem lsat_run (h : WebOk n ts) {V : List Int} (hV : V.length = ts.length) : (MM__law_sums_of [(webD n ts, .fz), (.tuple (V.map .int), .fz)]).rv = some (.list ((sumsL n ts V).map .int), true) := by
  have hnl := h.nl
  have h0 := rep0 h.nl
  have e1 : enumD (ts.map tieD) = ts.zipIdx.map fun p => PyData.tuple [.int (p.2 : Nat), tieD p.1] := enum_zip ts tieD
  have hzm : ∀ p ∈ ts.zipIdx, p.1.1 < n ∧ p.1.2 < n ∧ p.2 < V.length := fun p hp => by
    have hg := List.mem_zipIdx_iff_getElem?.mp hp
    have := h.lt p.1 (List.mem_of_getElem? hg)
    have := (List.getElem?_eq_some_iff.mp hg).1
    omega
  unfold sumsL
  rw [zip_idx ts hV]
  generalize ts.zipIdx = Z at *
  have hfl : ∀ pre : List ((Nat × Nat) × Nat), (pre.foldl (fun acc p => sumStep acc (p.1, V.getD p.2 0)) (List.replicate n 0)).length = n := fun pre => by
    rw [← List.foldl_map (f := fun p : (Nat × Nat) × Nat => (p.1, V.getD p.2 0)) (g := sumStep), sumFold_len]; simp
  rw [List.foldl_map]
  with_reducible refine rv_gF (in__law_sums_of ?_)
  repeat' (first | (apply gO_of h0) | array_mem_dec)
  rw [e1]
  refine for_inv Z (fun p => .tuple [.int (p.2 : Nat), tieD p.1]) (fun pre ρ => ∃ j3 j4 j5, ρ = [some (webD n ts, .fz), some (.tuple (V.map .int), .fz), some (.list ((pre.foldl (fun acc p => sumStep acc (p.1, V.getD p.2 0)) (List.replicate n 0)).map .int), .own), jk j3, jk j4, jk j5]) rfl ⟨none, none, none, rfl⟩ ?_ ?_
  · rintro pre p post _ hE ⟨j3, j4, j5, rfl⟩
    obtain ⟨l1, l2, l3⟩ := hzm p (by rw [hE]; simp)
    have hal := hfl pre
    rw [List.foldl_append]
    generalize pre.foldl (fun acc p => sumStep acc (p.1, V.getD p.2 0)) (List.replicate n 0) = A at *
    have iv : opIx (.tuple (V.map .int)) (.int (p.2 : Nat)) = some (.val (.int (V.getD p.2 0))) := ix_ints l3
    have i1 : opIx (.list (A.map .int)) (.int (p.1.1 : Nat)) = some (.val (.int (A.getD p.1.1 0))) := ix_intsL (by omega)
    have p1 : putA (.list (A.map .int)) (.int (p.1.1 : Nat)) (.int (A.getD p.1.1 0 + V.getD p.2 0)) = some (.list ((addAt A p.1.1 (V.getD p.2 0)).map .int)) := put_i (by omega) _
    have hbl := addAt_len A p.1.1 (V.getD p.2 0)
    have e2 : List.foldl (fun acc (p : (Nat × Nat) × Nat) => sumStep acc (p.1, V.getD p.2 0)) A [p] = addAt (addAt A p.1.1 (V.getD p.2 0)) p.1.2 (V.getD p.2 0) := rfl
    rw [e2]
    generalize V.getD p.2 0 = v at *
    generalize addAt A p.1.1 v = Bq at *
    have i2 : opIx (.list (Bq.map .int)) (.int (p.1.2 : Nat)) = some (.val (.int (Bq.getD p.1.2 0))) := ix_intsL (by omega)
    have p2 : putA (.list (Bq.map .int)) (.int (p.1.2 : Nat)) (.int (Bq.getD p.1.2 0 + v)) = some (.list ((addAt Bq p.1.2 v).map .int)) := put_i (by omega) _
    generalize (addAt Bq p.1.2 v).map PyData.int = CD at *
    generalize Bq.map PyData.int = BD at *
    generalize A.map PyData.int = AD at *
    repeat' (first | (apply put_rfl p1) | (apply put_rfl p2) | array_mem_dec)
    exact ⟨some (.int (p.2 : Nat)), some (.int (p.1.1 : Nat)), some (.int (p.1.2 : Nat)), rfl⟩
  · rintro _ ⟨j3, j4, j5, rfl⟩
    repeat' array_mem_dec
    exact ⟨rfl, rfl⟩
theorem adj_lt {S : List Int} (hp : S.Pairwise (· ≤ ·)) (hn : S.Nodup) {k : Nat} (hk : k + 1 < S.length) : ¬ S.getD k 0 = S.getD (k + 1) 0 := by
  rw [List.getD_eq_getElem?_getD, List.getD_eq_getElem?_getD, List.getElem?_eq_getElem (by omega), List.getElem?_eq_getElem hk]
  intro e
  have := List.pairwise_iff_getElem.mp hn k (k + 1) (by omega) hk (by omega)
  exact this e
theorem lun_run (h : WebOk n ts) {V : List Int} (hV : V.length = ts.length) (hn : (sumsL n ts V).Nodup) : (MM__law_unlike [(webD n ts, .fz), (.tuple (V.map .int), .fz)]).rv = some (.bool true, false) := by
  have hnl := h.nl
  have hn1 := h.n1
  have hs := lsat_run h hV
  have hsl : (sumsL n ts V).length = n := sumsL_len n ts V
  have hso := fSorted_l (sumsL n ts V) (by omega)
  have hSl : (sortI (sumsL n ts V)).length = n := by rw [(sortI_perm _).length_eq, hsl]
  have hSn : (sortI (sumsL n ts V)).Nodup := (sortI_perm _).nodup_iff.mpr hn
  have hSp := sortI_pw (sumsL n ts V)
  generalize sortI (sumsL n ts V) = S at *
  generalize (sumsL n ts V).map PyData.int = SD at *
  have hl2 : (S.map PyData.int).length = n := by rw [List.length_map, hSl]
  have e1 : (n : Int) - 1 = ((n - 1 : Nat) : Int) := by omega
  with_reducible refine rv_gF (in__law_unlike ?_)
  repeat' (first | (apply gO_of hso) | (rw [hl2]) | (rw [hSl]) | (rw [e1]) | array_mem_dec | ((with_reducible refine TN.c_rvT ?_ ?_ hs ?_); exact rfl; exact rfl))
  refine for_rng (n - 1) (fun k ρ => ∃ j3, ρ = [some (webD n ts, .fz), some (.tuple (V.map .int), .fz), some (.list (S.map .int), .own), jk j3]) (by rfl) ⟨none, rfl⟩ ?_ ?_
  · rintro k _ hk ⟨j3, rfl⟩
    have i1 : opIx (.list (S.map .int)) (.int (k : Nat)) = some (.val (.int (S.getD k 0))) := ix_intsL (by omega)
    have i2 : opIx (.list (S.map .int)) (.int ((k : Int) + 1)) = some (.val (.int (S.getD (k + 1) 0))) := ix_intsL (k := k + 1) (by omega)
    have hne := adj_lt hSp hSn (k := k) (by omega)
    generalize S.map PyData.int = SS at *
    generalize S.getD k 0 = x at *
    generalize S.getD (k + 1) 0 = y at *
    repeat' (first | (apply br_n hne) | array_mem_dec)
    exact ⟨some (.int (k : Nat)), rfl⟩
  · rintro _ ⟨j3, rfl⟩
    repeat' array_mem_dec
    exact ⟨rfl, rfl⟩
end

end TN
namespace TN
open PySem PySem.Spec PyProof.Rows L2
def dictV (E : List ((Nat × Nat) × Int)) : D := .dict ((.none, .none) :: E.map fun e => (tieD e.1, PyData.int e.2))
def kV' (E : List ((Nat × Nat) × Int)) : List (Nat × Nat) := E.map (·.1)
def vT (E : List ((Nat × Nat) × Int)) (t : Nat × Nat) : Int := ((E.find? fun e => decide (e.1 = t)).map (·.2)).getD 0
def putV (E : List ((Nat × Nat) × Int)) (t : Nat × Nat) (v : Int) : List ((Nat × Nat) × Int) := if t ∈ kV' E then E.map (fun e => if e.1 = t then (e.1, v) else e) else E ++ [(t, v)]
theorem lookT_V (u : Nat × Nat) : ∀ E : List ((Nat × Nat) × Int), lookT (E.map fun e => (tieD e.1, PyData.int e.2)) [.inl (u.1 : Int), .inl (u.2 : Int)] = if u ∈ kV' E then some (.int (vT E u)) else none
  | [] => rfl
  | e :: E => by
    have ih := lookT_V u E
    unfold kV' at ih ⊢
    unfold vT at ih ⊢
    simp only [List.map_cons, lookT, tk_tie, ih, List.mem_cons, List.find?_cons]
    by_cases h : e.1 = u
    · rw [if_pos h, if_pos (.inl h.symm), decide_eq_true h]; rfl
    · rw [if_neg h, decide_eq_false h]
      have : (u = e.1 ∨ u ∈ E.map (·.1)) ↔ u ∈ E.map (·.1) := ⟨fun z => z.elim (fun q => absurd q.symm h) id, .inr⟩
      simp only [this]
theorem put_V {E : List ((Nat × Nat) × Int)} (t : Nat × Nat) (v : Int) (h : E.length < 16777216) : putA (dictV E) (tieD t) (.int v) = some (dictV (putV E t v)) := by
  have hk : tkOf (tieD t) = some [.inl (t.1 : Int), .inl (t.2 : Int)] := rfl
  show (dPut ((.none, .none) :: E.map fun e => (tieD e.1, PyData.int e.2)) (tieD t) (.int v)).map PyData.dict = _
  unfold dPut
  simp only [hk, List.length_map, h, if_true, Option.map_some]
  unfold putT putV dictV
  rw [lookT_V]
  by_cases hm : t ∈ kV' E
  · simp only [hm, if_true, Option.isSome]
    congr 2
    rw [List.map_map, List.map_map, List.cons.injEq]
    refine ⟨rfl, List.map_congr_left fun e _ => ?_⟩
    simp only [Function.comp]
    by_cases q : e.1 = t
    · rw [if_pos q, if_pos ((tk_tie e.1 t).mpr q)]
    · rw [if_neg q, if_neg (fun z => q ((tk_tie e.1 t).mp z))]
  · simp [hm, tkD, keyD, tieD]
theorem ix_V {E : List ((Nat × Nat) × Int)} {t : Nat × Nat} (h : t ∈ kV' E) : opIx (dictV E) (tieD t) = some (.val (.int (vT E t))) := by
  have hl := lookT_V t E
  rw [if_pos h] at hl
  have hg : dGet ((.none, .none) :: E.map fun e => (tieD e.1, PyData.int e.2)) (tieD t) = some (some (.int (vT E t))) := by
    show some (lookT _ _) = _
    rw [← hl]
  unfold opIx dictV
  simp only [hg]
theorem zipD_tl : ∀ (O : List (Nat × Nat)) (V : List Int), zipD (O.map tieD) (V.map .int) = (O.zip V).map fun p => .tuple [tieD p.1, .int p.2] := zipD_ts
section
variable {n : Nat} {ts : List (Nat × Nat)}
theorem put_run (h : WebOk n ts) {O : List (Nat × Nat)} {V : List Int} (hO : O.Nodup) (hl : O.length = V.length) (hm : O.length ≤ 900) (hc : ∀ t ∈ ts, t ∈ O) : (MM_put_in_order [(webD n ts, .fz), (.list (O.map tieD), .fz), (.list (V.map .int), .fz)]).rv = some (.tuple (ts.map fun t => .int (vT (O.zip V) t)), false) := by
  have htl := h.tl
  have hz := zipD_tl O V
  have hZn : ((O.zip V).map (·.1)).Nodup := by rw [List.map_fst_zip (by omega)]; exact hO
  have hZk : kV' (O.zip V) = O := by unfold kV'; exact List.map_fst_zip (by omega)
  have hZl : (O.zip V).length ≤ 900 := by rw [List.length_zip]; omega
  have hix : ∀ t ∈ ts, opIx (dictV (O.zip V)) (tieD t) = some (.val (.int (vT (O.zip V) t))) := fun t ht => ix_V (by rw [hZk]; exact hc t ht)
  with_reducible refine rv_gF (in_put_in_order ?_)
  repeat' (first | (apply w_zipM) | array_mem_dec)
  rw [hz]
  generalize O.zip V = Z at *
  refine for_inv Z (fun p => .tuple [tieD p.1, .int p.2]) (fun pre ρ => ∃ j4 j5, ρ = [some (webD n ts, .fz), some (.list (O.map tieD), .fz), some (.list (V.map .int), .fz), some (dictV pre, .own), jk j4, jk j5]) rfl ⟨none, none, rfl⟩ ?_ ?_
  · rintro pre p post _ hE ⟨j4, j5, rfl⟩
    have hpl : pre.length < 16777216 := by
      have := congrArg List.length hE
      rw [List.length_append] at this; omega
    have hnk : p.1 ∉ kV' pre := by
      rw [hE, List.map_append, List.map_cons] at hZn
      have := (List.nodup_append.mp hZn).2.2
      intro hk
      exact this _ hk p.1 (by simp) rfl
    have hput := put_V p.1 p.2 hpl
    have e1 : putV pre p.1 p.2 = pre ++ [p] := by unfold putV; rw [if_neg hnk]
    rw [e1] at hput
    generalize dictV (pre ++ [p]) = D2 at *
    generalize dictV pre = D1 at *
    generalize tieD p.1 = TD at *
    repeat' (first | (apply put_rfl hput) | array_mem_dec)
    exact ⟨some TD, some (.int p.2), rfl⟩
  · rintro _ ⟨j4, j5, rfl⟩
    generalize dictV Z = DZ at *
    repeat' array_mem_dec
    refine TN.cp_map (ts) (tieD) (fun t => .int (vT Z t)) rfl (by (first | omega | (simp; done) | (simp; omega))) (by (first | exact rfl | (repeat (first | exact TN.wOk_nil | ((apply TN.wOk_cons); exact rfl; (first | exact TN.okW_none | exact TN.okW_fz | exact TN.okW_jk | assumption)))))) (by (repeat (first | exact wipe_nil | apply wipe_cons | exact st0 | apply stS))) ?_ ?_
    · intro t ht
      have hx := hix t ht
      generalize tieD t = TD at *
      repeat' array_mem_dec
      exact ⟨rfl, rfl⟩
    · repeat' array_mem_dec
      exact ⟨rfl, rfl⟩
end
def oddN (m : Nat) : List Int := (List.range m).filterMap fun i => if decide (((1 + i : Nat) : Int) % 2 = 1) = true then some ((1 + i : Nat) : Int) else none
def evnN (m : Nat) : List Int := (List.range m).filterMap fun i => if decide (((m : Int) + (i : Nat) * -1) % 2 = 0) = true then some ((m : Int) + (i : Nat) * -1) else none
theorem ringn_run {m : Nat} (h1 : 1 ≤ m) (h : m ≤ 900) : (MM_ring_numbers [(.int (m : Nat), .fz)]).rv = some (.list ((oddN m ++ evnN m).map .int), true) := by
  have k1 : (List.range m).filterMap (fun i => if decide (((1 + i : Nat) : Int) % 2 = 1) = true then some (PyData.int ((1 + i : Nat) : Int)) else none) = (oddN m).map .int := by
    unfold oddN
    rw [List.map_filterMap]
    refine fm_cong2 (fun p => ?_) _
    split <;> rfl
  have k2 : (List.range m).filterMap (fun (i : Nat) => if decide (((m : Int) + (i : Nat) * -1) % 2 = 0) = true then some (PyData.int ((m : Int) + (i : Nat) * -1)) else none) = (evnN m).map .int := by
    unfold evnN
    rw [List.map_filterMap]
    refine fm_cong2 (fun p => ?_) _
    split <;> rfl
  have hr : rgDown (m : Int) 0 = (List.range m).map fun (i : Nat) => PyData.int ((m : Int) + (i : Nat) * -1) := by
    unfold rgDown
    rw [show ((m : Int) - 0).toNat = m by omega]
  have l1 : ((oddN m).map PyData.int).length ≤ 900 := by
    rw [List.length_map]
    unfold oddN
    exact Nat.le_trans (List.length_filterMap_le _ _) (by simpa using h)
  have l2 : ((evnN m).map PyData.int).length ≤ 900 := by
    rw [List.length_map]
    unfold evnN
    exact Nat.le_trans (List.length_filterMap_le _ _) (by simpa using h)
  rw [List.map_append]
  with_reducible refine rv_gF (in_ring_numbers ?_)
  repeat' (first | (apply w_r3) | array_mem_dec)
  refine ⟨rfl, ?_⟩
  repeat' array_mem_dec
  refine TN.cp_filter (List.range m) (fun (i : Nat) => PyData.int ((m : Int) + (i : Nat) * -1)) (fun (i : Nat) => if decide (((m : Int) + (i : Nat) * -1) % 2 = 0) = true then some (PyData.int ((m : Int) + (i : Nat) * -1)) else none) hr (by simp; omega) (by (first | exact rfl | (repeat (first | exact TN.wOk_nil | ((apply TN.wOk_cons); exact rfl; (first | exact TN.okW_none | exact TN.okW_fz | exact TN.okW_jk | assumption)))))) (by (repeat (first | exact wipe_nil | apply wipe_cons | exact st0 | apply stS))) ?_ ?_
  · intro i hi
    repeat' array_mem_dec
    refine br_dec (fun q => ?_) fun q => ?_
    · repeat' array_mem_dec
      exact ⟨by rw [if_pos (decide_eq_true q)], rfl⟩
    · repeat' array_mem_dec
      exact ⟨by rw [if_neg (fun z => q (of_decide_eq_true z))], rfl⟩
  · rw [k2]
    generalize (evnN m).map PyData.int = ED at *
    repeat' array_mem_dec
    refine TN.cp_filter (List.range m) (fun (i : Nat) => PyData.int ((1 + i : Nat) : Int)) (fun (i : Nat) => if decide (((1 + i : Nat) : Int) % 2 = 1) = true then some (PyData.int ((1 + i : Nat) : Int)) else none) (rgD_off 1 m (by rfl) (by omega)) (by simp; omega) (by (first | exact rfl | (repeat (first | exact TN.wOk_nil | ((apply TN.wOk_cons); exact rfl; (first | exact TN.okW_none | exact TN.okW_fz | exact TN.okW_jk | assumption)))))) (by (repeat (first | exact wipe_nil | apply wipe_cons | exact st0 | apply stS))) ?_ ?_
    · intro i hi
      repeat' array_mem_dec
      refine br_dec (fun q => ?_) fun q => ?_
      · repeat' array_mem_dec
        exact ⟨by rw [if_pos (decide_eq_true q)], rfl⟩
      · repeat' array_mem_dec
        exact ⟨by rw [if_neg (fun z => q (of_decide_eq_true z))], rfl⟩
    · rw [k1]
      generalize (oddN m).map PyData.int = OD at *
      repeat' array_mem_dec
      exact ⟨rfl, rfl⟩
def rowN (l : Nat) : List Int := if l % 2 = 1 then (rgI 1 ((l : Int) + 1)).take (l - 2) ++ [(l : Int), (l : Int) - 1] else rgI 1 ((l : Int) + 1)
theorem rown_run {l : Nat} (h1 : 2 ≤ l) (h : l ≤ 900) : (MM_row_numbers [(.int (l : Nat), .fz)]).rv = some (.list ((rowN l).map .int), true) := by
  have hrl : ((rgI 1 ((l : Int) + 1)).map PyData.int).length = l := by simp [rgI]
  have hcut : cutL ((rgI 1 ((l : Int) + 1)).map PyData.int) none (some (-2)) = ((rgI 1 ((l : Int) + 1)).take (l - 2)).map .int := by
    rw [List.map_take]
    generalize (rgI 1 ((l : Int) + 1)).map PyData.int = A at *
    unfold cutL
    rw [hrl, HT.sIx_none]
    have e : HT.sIx l l (some (-2)) = l - 2 := by
      unfold HT.sIx
      simp
      omega
    rw [e]
    simp
  unfold rowN
  with_reducible refine rv_gF (in_row_numbers ?_)
  repeat' array_mem_dec
  refine br_dec (fun q => ?_) fun q => ?_
  · rw [if_pos (by omega), List.map_append]
    have htl : (((rgI 1 ((l : Int) + 1)).take (l - 2)).map PyData.int).length ≤ 900 := by simp [rgI]; omega
    repeat' (first | (rw [hcut]) | array_mem_dec)
    exact ⟨rfl, rfl⟩
  · rw [if_neg (by omega)]
    repeat' array_mem_dec
    exact ⟨rfl, rfl⟩

end TN
namespace TN
open PySem PySem.Spec PyProof.Rows L2
/-! ### numbers put by a hub: the sums are unlike -/
theorem perm_ofN : ∀ {r m : List Nat}, r.Nodup → (∀ x ∈ r, x ∈ m) → r.length = m.length → r.Perm m
  | [], m, _, _, h => by
    have : m = [] := List.length_eq_zero_iff.mp h.symm
    subst this; exact .nil
  | x :: r, m, hn, hs, h => by
    rw [List.nodup_cons] at hn
    have h1 := hs x (List.mem_cons_self ..)
    have ih := perm_ofN (r := r) (m := m.erase x) hn.2 (fun y hy => (List.mem_erase_of_ne (fun z : y = x => hn.1 (by rw [← z]; exact hy))).mpr (hs y (List.mem_cons_of_mem _ hy))) (by rw [List.length_erase_of_mem h1]; simp at h; omega)
    exact (ih.cons x).trans (List.perm_cons_erase h1).symm
/-- what the ties of some keys bring to a place -/
def atP (ts : List (Nat × Nat)) (f : Nat → Int) (p : Nat) (K : List Nat) : Int := (K.map fun k => if hasP (ts.getD k (0, 0)) p = true then f k else 0).sum
theorem addAt_get (xs : List Int) {k : Nat} (v : Int) (p : Nat) (hk : k < xs.length) : (addAt xs k v).getD p 0 = xs.getD p 0 + if k = p then v else 0 := by
  unfold addAt
  rw [List.getD_eq_getElem?_getD, List.getElem?_set]
  by_cases h : k = p
  · subst h
    rw [if_pos rfl, if_pos rfl, if_pos hk]
    rfl
  · rw [if_neg h, if_neg h, List.getD_eq_getElem?_getD]
    omega
theorem sumFold_get (p : Nat) : ∀ (ps : List ((Nat × Nat) × Int)) (acc : List Int), (∀ q ∈ ps, q.1.1 < acc.length ∧ q.1.2 < acc.length ∧ q.1.1 ≠ q.1.2) → (ps.foldl sumStep acc).getD p 0 = acc.getD p 0 + (ps.map fun q => if hasP q.1 p = true then q.2 else 0).sum
  | [], acc, _ => by simp
  | q :: ps, acc, h => by
    obtain ⟨h1, h2, h3⟩ := h q (List.mem_cons_self ..)
    rw [List.foldl_cons, sumFold_get p ps _ fun r hr => by rw [sumStep_len]; exact h r (List.mem_cons_of_mem _ hr)]
    unfold sumStep
    rw [addAt_get _ _ _ (by rw [addAt_len]; exact h2), addAt_get _ _ _ h1, List.map_cons, List.sum_cons]
    have e : (if hasP q.1 p = true then q.2 else 0) = (if q.1.1 = p then q.2 else 0) + (if q.1.2 = p then q.2 else 0) := by
      unfold hasP
      by_cases a : q.1.1 = p
      · have b : q.1.2 ≠ p := by omega
        simp [a, b]
      · by_cases b : q.1.2 = p <;> simp [a, b]
    rw [e]
    omega
section
variable {n : Nat} {ts : List (Nat × Nat)}
theorem sumsL_get (h : ∀ t ∈ ts, t.1 < n ∧ t.2 < n ∧ t.1 ≠ t.2) (V : List Int) (p : Nat) : (sumsL n ts V).getD p 0 = ((ts.zip V).map fun q => if hasP q.1 p = true then q.2 else 0).sum := by
  unfold sumsL
  rw [sumFold_get p _ _ fun q hq => by simpa using h q.1 (List.of_mem_zip hq).1]
  have : (List.replicate n (0 : Int)).getD p 0 = 0 := by
    rw [List.getD_eq_getElem?_getD, List.getElem?_replicate]
    split <;> rfl
  omega
theorem sumsL_perm {n : Nat} {ts O : List (Nat × Nat)} (h : ∀ t ∈ ts, t.1 < n ∧ t.2 < n ∧ t.1 ≠ t.2) (hp : ts.Perm O) (f : Nat × Nat → Int) : sumsL n ts (ts.map f) = sumsL n O (O.map f) := by
  have hO : ∀ t ∈ O, t.1 < n ∧ t.2 < n ∧ t.1 ≠ t.2 := fun t ht => h t (hp.mem_iff.mpr ht)
  apply List.ext_getElem
  · rw [sumsL_len, sumsL_len]
  · intro i h1 h2
    have e1 := sumsL_get h (ts.map f) i
    have e2 := sumsL_get hO (O.map f) i
    rw [List.getD_eq_getElem?_getD, List.getElem?_eq_getElem h1] at e1
    rw [List.getD_eq_getElem?_getD, List.getElem?_eq_getElem h2] at e2
    have z : ∀ T : List (Nat × Nat), (T.zip (T.map f)).map (fun q => if hasP q.1 i = true then q.2 else 0) = T.map fun t => if hasP t i = true then f t else 0 := fun T => by
      induction T with
      | nil => rfl
      | cons t T ih => simp only [List.map_cons, List.zip_cons_cons, ih]
    rw [z] at e1 e2
    simp only [Option.getD_some] at e1 e2
    rw [e1, e2]
    exact sum_perm (hp.map _)
theorem sumsL_atP (h : ∀ t ∈ ts, t.1 < n ∧ t.2 < n ∧ t.1 ≠ t.2) (f : Nat → Int) (p : Nat) : (sumsL n ts ((List.range ts.length).map f)).getD p 0 = atP ts f p (List.range ts.length) := by
  rw [sumsL_get h]
  unfold atP
  congr 1
  apply List.ext_getElem
  · simp
  · intro i h1 h2
    have hi : i < ts.length := by simpa using h2
    simp [List.getD_eq_getElem?_getD, List.getElem?_eq_getElem hi]
theorem zipIdx_rg : ts.zipIdx = (List.range ts.length).map fun k => (ts.getD k (0, 0), k) := by
  apply List.ext_getElem
  · simp
  · intro i h1 h2
    have hi : i < ts.length := by simpa using h2
    simp [List.getD_eq_getElem?_getD, List.getElem?_eq_getElem hi]
def asdN (hb : Nat) (ts : List (Nat × Nat)) : List Nat := (List.range ts.length).filter fun k => !hasP (ts.getD k (0, 0)) hb
def hubN (hb : Nat) (ts : List (Nat × Nat)) : List Nat := (List.range ts.length).filter fun k => hasP (ts.getD k (0, 0)) hb
def othN (hb : Nat) (ts : List (Nat × Nat)) (k : Nat) : Nat := (ts.getD k (0, 0)).1 + (ts.getD k (0, 0)).2 - hb
theorem asdK_rg (hb : Nat) : asdK hb ts.zipIdx = asdN hb ts := by
  unfold asdK asdN
  rw [zipIdx_rg, List.filter_map, List.map_map]
  exact List.map_id _
theorem rowsH_rg (hb : Nat) (W : List Nat) : rowsH hb ts W = (hubN hb ts).map fun k => (W.getD (othN hb ts k) 0, k) := by
  unfold rowsH hubN
  rw [zipIdx_rg, List.filterMap_map]
  generalize List.range ts.length = R
  induction R with
  | nil => rfl
  | cons k R ih =>
    rw [List.filterMap_cons, List.filter_cons]
    simp only [Function.comp_apply]
    cases hc : hasP (ts.getD k (0, 0)) hb with
    | false => simpa using ih
    | true => simpa [othN] using ih
theorem hubN_len (hb : Nat) : (hubN hb ts).length = deg ts hb := by
  unfold hubN deg
  have e : ts = (List.range ts.length).map fun k => ts.getD k (0, 0) := by
    apply List.ext_getElem
    · simp
    · intro i h1 h2
      simp [List.getD_eq_getElem?_getD, List.getElem?_eq_getElem h1]
  conv => rhs; rw [e]
  rw [List.countP_map, List.countP_eq_length_filter]
  rfl
theorem split_perm (hb : Nat) : (asdN hb ts ++ hubN hb ts).Perm (List.range ts.length) := by
  have := List.filter_append_perm (fun k => !hasP (ts.getD k (0, 0)) hb) (List.range ts.length)
  simp only [Bool.not_not] at this
  exact this
theorem lk_zip : ∀ {K : List Nat} {X : List Int} {i : Nat}, K.Nodup → (hi : i < K.length) → i < X.length → lkI (K.zip X) (K.getD i 0) = some (X.getD i 0)
  | [], _, _, _, h, _ => by simp at h
  | _ :: _, [], _, _, _, h => by simp at h
  | k :: K, x :: X, 0, _, _, _ => by simp [lkI]
  | k :: K, x :: X, i + 1, hn, hi, hx => by
    rw [List.nodup_cons] at hn
    have hi' : i < K.length := by simpa using hi
    have ih := lk_zip (K := K) (X := X) (i := i) hn.2 hi' (by simpa using hx)
    have hm : K.getD i 0 ∈ K := by
      rw [List.getD_eq_getElem?_getD, List.getElem?_eq_getElem hi']
      exact List.getElem_mem hi'
    have hne : ¬ k = K.getD i 0 := fun z => hn.1 (by rw [z]; exact hm)
    have e1 : (k :: K).getD (i + 1) 0 = K.getD i 0 := by simp
    have e2 : (x :: X).getD (i + 1) 0 = X.getD i 0 := by simp
    rw [e1, e2, ← ih]
    unfold lkI
    rw [List.zip_cons_cons, List.find?_cons]
    have : ((k, x).1 == K.getD i 0) = false := by simpa using hne
    rw [this]
theorem lk0_map {K : List Nat} {X : List Int} (hn : K.Nodup) (hl : K.length ≤ X.length) : K.map (lk0 (K.zip X)) = X.take K.length := by
  apply List.ext_getElem
  · simp; omega
  · intro i h1 h2
    have hi : i < K.length := by simpa using h1
    have e := lk_zip (X := X) hn hi (by omega)
    rw [List.getElem_map, List.getElem_take]
    unfold lk0
    rw [List.getD_eq_getElem?_getD, List.getElem?_eq_getElem hi, List.getD_eq_getElem?_getD, List.getElem?_eq_getElem (show i < X.length by omega)] at e
    simp only [Option.getD_some] at e
    rw [e]; rfl
theorem one_of : ∀ {P : List Nat} {Y : List Int} {i : Nat}, P.Nodup → i < P.length → Y.length = P.length → ((P.zip Y).map fun q => if q.1 = P.getD i 0 then q.2 else 0).sum = Y.getD i 0
  | [], _, _, _, h, _ => by simp at h
  | p :: P, [], _, _, _, h => by simp at h
  | p :: P, y :: Y, 0, hn, _, hl => by
    rw [List.nodup_cons] at hn
    rw [List.zip_cons_cons, List.map_cons, List.sum_cons]
    have e : ((P.zip Y).map fun q => if q.1 = (p :: P).getD 0 0 then q.2 else 0).sum = ((P.zip Y).map fun _ => (0 : Int)).sum := sum_congr fun q hq => if_neg fun z => hn.1 (by
      have := (List.of_mem_zip hq).1
      rw [z] at this
      simpa using this)
    rw [e, sum_zero]
    simp
  | p :: P, y :: Y, i + 1, hn, hi, hl => by
    rw [List.nodup_cons] at hn
    have hi' : i < P.length := by simpa using hi
    have ih := one_of (P := P) (Y := Y) (i := i) hn.2 hi' (by simpa using hl)
    have hm : P.getD i 0 ∈ P := by
      rw [List.getD_eq_getElem?_getD, List.getElem?_eq_getElem hi']
      exact List.getElem_mem hi'
    have hne : ¬ p = P.getD i 0 := fun z => hn.1 (by rw [z]; exact hm)
    have e1 : (p :: P).getD (i + 1) 0 = P.getD i 0 := by simp
    have e2 : (y :: Y).getD (i + 1) 0 = Y.getD i 0 := by simp
    rw [List.zip_cons_cons, List.map_cons, List.sum_cons, e1, e2, ih, if_neg hne]
    omega
theorem sum_ge {c : Int} : ∀ (Y : List Int), (∀ y ∈ Y, c ≤ y) → (Y.length : Int) * c ≤ Y.sum
  | [], _ => by simp
  | y :: Y, h => by
    have h1 := h y (List.mem_cons_self ..)
    have h2 := sum_ge Y fun z hz => h z (List.mem_cons_of_mem _ hz)
    rw [List.length_cons, List.sum_cons, Int.natCast_add, Int.add_mul]
    omega
theorem sum_ge1 {c : Int} : ∀ (Y : List Int) {i : Nat}, (∀ y ∈ Y, c ≤ y) → i < Y.length → Y.getD i 0 + ((Y.length : Int) - 1) * c ≤ Y.sum
  | [], _, _, h => by simp at h
  | y :: Y, 0, h, _ => by
    have h2 := sum_ge Y fun z hz => h z (List.mem_cons_of_mem _ hz)
    rw [List.length_cons, List.sum_cons, show (((Y.length + 1 : Nat) : Int) - 1) = (Y.length : Int) by omega]
    have : (y :: Y).getD 0 0 = y := rfl
    omega
  | y :: Y, i + 1, h, hi => by
    have h1 := h y (List.mem_cons_self ..)
    have h2 := sum_ge1 Y (i := i) (fun z hz => h z (List.mem_cons_of_mem _ hz)) (by simpa using hi)
    have e1 : (y :: Y).getD (i + 1) 0 = Y.getD i 0 := by simp
    rw [List.length_cons, List.sum_cons, e1, show (((Y.length + 1 : Nat) : Int) - 1) = ((Y.length : Int) - 1) + 1 by omega, Int.add_mul]
    omega
theorem atP_le (f : Nat → Int) (p : Nat) {c : Int} : ∀ (K : List Nat), (∀ k ∈ K, f k ≤ c) → atP ts f p K ≤ ((K.countP fun k => hasP (ts.getD k (0, 0)) p : Nat) : Int) * c
  | [], _ => by simp [atP]
  | k :: K, h => by
    have h1 := h k (List.mem_cons_self ..)
    have h2 := atP_le f p K fun z hz => h z (List.mem_cons_of_mem _ hz)
    unfold atP at h2 ⊢
    rw [List.map_cons, List.sum_cons, List.countP_cons]
    by_cases hc : hasP (ts.getD k (0, 0)) p = true
    · rw [if_pos hc, if_pos hc, Int.natCast_add, Int.add_mul]
      omega
    · rw [if_neg hc, if_neg hc]
      simpa using h2
theorem atP_ge (f : Nat → Int) (p : Nat) : ∀ (K : List Nat), (∀ k ∈ K, 0 ≤ f k) → 0 ≤ atP ts f p K
  | [], _ => by simp [atP]
  | k :: K, h => by
    have h1 := h k (List.mem_cons_self ..)
    have h2 := atP_ge f p K fun z hz => h z (List.mem_cons_of_mem _ hz)
    unfold atP at h2 ⊢
    rw [List.map_cons, List.sum_cons]
    split <;> omega
theorem atP_app (f : Nat → Int) (p : Nat) (A B : List Nat) : atP ts f p (A ++ B) = atP ts f p A + atP ts f p B := by
  unfold atP
  rw [List.map_append, List.sum_append]
theorem atP_perm (f : Nat → Int) (p : Nat) {A B : List Nat} (h : A.Perm B) : atP ts f p A = atP ts f p B := sum_perm (h.map _)
/-- a web with a hub, as the package takes it -/
structure HubW (n : Nat) (ts : List (Nat × Nat)) (hb : Nat) : Prop where
  n3 : 3 ≤ n
  lt : ∀ t ∈ ts, t.1 < t.2 ∧ t.2 < n
  nd : ts.Nodup
  hn : hb < n
  dg : deg ts hb + 1 = n
variable {hb : Nat}
theorem get_mem {k : Nat} (hk : k < ts.length) : ts.getD k (0, 0) ∈ ts := by
  rw [List.getD_eq_getElem?_getD, List.getElem?_eq_getElem hk]
  exact List.getElem_mem hk
theorem get_inj (hn : ts.Nodup) {i j : Nat} (hi : i < ts.length) (hj : j < ts.length) (h : ts.getD i (0, 0) = ts.getD j (0, 0)) : i = j := by
  rw [List.getD_eq_getElem?_getD, List.getElem?_eq_getElem hi, List.getD_eq_getElem?_getD, List.getElem?_eq_getElem hj] at h
  exact (List.getElem_inj hn).mp h
theorem other_ne {t : Nat × Nat} {p : Nat} (h : t.1 < t.2) (hp : hasP t p = true) : p ≤ t.1 + t.2 ∧ t.1 + t.2 - p ≠ p ∧ (t.1 + t.2 - p = t.1 ∨ t.1 + t.2 - p = t.2) := by
  unfold hasP at hp
  rw [Bool.or_eq_true, beq_iff_eq, beq_iff_eq] at hp
  omega
theorem same_tie {t u : Nat × Nat} {p : Nat} (ht : t.1 < t.2) (hu : u.1 < u.2) (h1 : hasP t p = true) (h2 : hasP u p = true) (h : t.1 + t.2 - p = u.1 + u.2 - p) : t = u := by
  unfold hasP at h1 h2
  rw [Bool.or_eq_true, beq_iff_eq, beq_iff_eq] at h1 h2
  apply Prod.ext <;> omega
theorem oth_nd (w : HubW n ts hb) (p : Nat) {K : List Nat} (hK : K.Nodup) (h : ∀ k ∈ K, k < ts.length ∧ hasP (ts.getD k (0, 0)) p = true) : (K.map (othN p ts)).Nodup := by
  refine List.Pairwise.map _ (R := fun i j => i ≠ j ∧ i ∈ K ∧ j ∈ K) (fun i j hij e => ?_) ?_
  · obtain ⟨hne, hi, hj⟩ := hij
    obtain ⟨l1, q1⟩ := h i hi
    obtain ⟨l2, q2⟩ := h j hj
    exact hne (get_inj w.nd l1 l2 (same_tie (w.lt _ (get_mem l1)).1 (w.lt _ (get_mem l2)).1 q1 q2 e))
  · have : K.Pairwise fun i j => i ≠ j := hK
    exact List.Pairwise.imp_of_mem (fun ha hb hab => ⟨hab, ha, hb⟩) this
theorem hubN_mem {k : Nat} : k ∈ hubN hb ts ↔ k < ts.length ∧ hasP (ts.getD k (0, 0)) hb = true := by
  unfold hubN
  rw [List.mem_filter, List.mem_range]
theorem asdN_mem {k : Nat} : k ∈ asdN hb ts ↔ k < ts.length ∧ hasP (ts.getD k (0, 0)) hb = false := by
  unfold asdN
  rw [List.mem_filter, List.mem_range, Bool.not_eq_true']
/-- aside from the hub few ties meet -/
theorem asd_few (w : HubW n ts hb) {q : Nat} (hq : q < n) (hqh : q ≠ hb) : (asdN hb ts).countP (fun k => hasP (ts.getD k (0, 0)) q) + 2 ≤ n := by
  rw [List.countP_eq_length_filter]
  have hnd : ((asdN hb ts).filter fun k => hasP (ts.getD k (0, 0)) q).Nodup := List.Pairwise.filter _ (List.Pairwise.filter _ (List.nodup_range (n := ts.length)))
  have hm : ∀ k ∈ (asdN hb ts).filter (fun k => hasP (ts.getD k (0, 0)) q), k < ts.length ∧ hasP (ts.getD k (0, 0)) q = true := fun k hk => by
    obtain ⟨h1, h2⟩ := List.mem_filter.mp hk
    exact ⟨(asdN_mem.mp h1).1, h2⟩
  have hn2 := oth_nd w q hnd hm
  have hn3 : (q :: hb :: ((asdN hb ts).filter fun k => hasP (ts.getD k (0, 0)) q).map (othN q ts)).Nodup := by
    rw [List.nodup_cons, List.nodup_cons]
    refine ⟨?_, ?_, hn2⟩
    · intro h
      rcases List.mem_cons.mp h with h | h
      · exact hqh h
      · obtain ⟨k, hk, e⟩ := List.mem_map.mp h
        obtain ⟨l, z⟩ := hm k hk
        exact (other_ne (w.lt _ (get_mem l)).1 z).2.1 e
    · intro h
      obtain ⟨k, hk, e⟩ := List.mem_map.mp h
      obtain ⟨l, z⟩ := hm k hk
      have ha := (asdN_mem.mp (List.mem_filter.mp hk).1).2
      have ho := (other_ne (w.lt _ (get_mem l)).1 z).2.2
      unfold othN at e
      rw [e] at ho
      unfold hasP at ha
      rw [Bool.or_eq_false_iff, beq_eq_false_iff_ne, beq_eq_false_iff_ne] at ha
      rcases ho with ho | ho
      · exact ha.1 ho.symm
      · exact ha.2 ho.symm
  have := nodup_le (m := List.range n) hn3 fun x hx => by
    rw [List.mem_range]
    rcases List.mem_cons.mp hx with h | h
    · omega
    · rcases List.mem_cons.mp h with h | h
      · have := w.hn; omega
      · obtain ⟨k, hk, e⟩ := List.mem_map.mp h
        obtain ⟨l, z⟩ := hm k hk
        have ho := (other_ne (w.lt _ (get_mem l)).1 z).2.2
        have hl := w.lt _ (get_mem l)
        unfold othN at e
        omega
  simp only [List.length_cons, List.length_map, List.length_range] at this
  omega
theorem getD_cast (W : List Nat) (p : Nat) : (W.map fun (k : Nat) => (k : Int)).getD p 0 = ((W.getD p 0 : Nat) : Int) := by
  rw [List.getD_eq_getElem?_getD, List.getD_eq_getElem?_getD, List.getElem?_map]
  cases W[p]? <;> rfl
theorem pw_get {α : Type} {R : α → α → Prop} {l : List α} (h : l.Pairwise R) (d : α) {i j : Nat} (hij : i < j) (hj : j < l.length) : R (l.getD i d) (l.getD j d) := by
  rw [List.getD_eq_getElem?_getD, List.getElem?_eq_getElem (show i < l.length by omega), List.getD_eq_getElem?_getD, List.getElem?_eq_getElem hj]
  exact List.pairwise_iff_getElem.mp h i j (by omega) hj hij
theorem getD_drop (X : List Int) (a i : Nat) : (X.drop a).getD i 0 = X.getD (a + i) 0 := by
  rw [List.getD_eq_getElem?_getD, List.getElem?_drop, ← List.getD_eq_getElem?_getD]
theorem getD_mem {X : List Int} {i : Nat} (h : i < X.length) : X.getD i 0 ∈ X := by
  rw [List.getD_eq_getElem?_getD, List.getElem?_eq_getElem h]
  exact List.getElem_mem h
theorem hub_unlike (w : HubW n ts hb) {X : List Int} (hX : X.length = ts.length) (hs : X.Pairwise (· < ·)) (hp : ∀ x ∈ X, 0 < x) :
    ∃ (W : List Nat) (L : List (Nat × Nat)), W.length = n ∧ sumsL n ts ((List.range ts.length).map fun k => lk0 ((asdK hb ts.zipIdx).zip X) k) = W.map (fun (k : Nat) => (k : Int)) ∧ sortT (rowsH hb ts W) = L ∧
      (asdK hb ts.zipIdx ++ L.map (·.2)).Nodup ∧ (asdK hb ts.zipIdx ++ L.map (·.2)).length = ts.length ∧ (∀ k, k < ts.length → ∃ v, lkI (byE hb ts X L) k = some v) ∧
      ((List.range ts.length).map (lk0 (byE hb ts X L))).Perm X ∧ (sumsL n ts ((List.range ts.length).map (lk0 (byE hb ts X L)))).Nodup := by
  have hlt : ∀ t ∈ ts, t.1 < n ∧ t.2 < n ∧ t.1 ≠ t.2 := fun t ht => by have := w.lt t ht; omega
  rw [asdK_rg]
  unfold byE
  rw [asdK_rg]
  have hAnd : (asdN hb ts).Nodup := List.Pairwise.filter _ (List.nodup_range (n := ts.length))
  have hAl : (asdN hb ts).length + (hubN hb ts).length = ts.length := by
    have := (split_perm (ts := ts) hb).length_eq
    simpa using this
  have hBl : (hubN hb ts).length + 1 = n := by rw [hubN_len]; exact w.dg
  have hAm : ∀ k ∈ asdN hb ts, k < ts.length ∧ hasP (ts.getD k (0, 0)) hb = false := fun k hk => asdN_mem.mp hk
  have hn3 := w.n3
  have few := fun (q : Nat) (h1 : q < n) (h2 : q ≠ hb) => asd_few w h1 h2
  generalize hA : asdN hb ts = A at *
  have hA0 := lk0_map (X := X) hAnd (by omega)
  have h0pos : ∀ k, 0 ≤ lk0 (A.zip X) k := fun k => by
    unfold lk0 lkI
    cases hf : (A.zip X).find? (fun p => p.1 == k) with
    | none => simp
    | some q =>
      have := hp q.2 (List.of_mem_zip (List.mem_of_find?_eq_some hf)).2
      simp
      omega
  let S0 := sumsL n ts ((List.range ts.length).map fun k => lk0 (A.zip X) k)
  have hS0l : S0.length = n := sumsL_len _ _ _
  have hS0 : ∀ p, S0.getD p 0 = atP ts (lk0 (A.zip X)) p (List.range ts.length) := fun p => sumsL_atP hlt _ p
  have hSW : S0 = (S0.map Int.toNat).map fun (k : Nat) => (k : Int) := by
    rw [List.map_map]
    have : ∀ x ∈ S0, ((fun (k : Nat) => (k : Int)) ∘ Int.toNat) x = x := fun x hx => by
      obtain ⟨i, hi, e⟩ := List.mem_iff_getElem.mp hx
      have h1 := hS0 i
      rw [List.getD_eq_getElem?_getD, List.getElem?_eq_getElem hi] at h1
      simp only [Option.getD_some] at h1
      have h2 := atP_ge (ts := ts) (lk0 (A.zip X)) i (List.range ts.length) fun k _ => h0pos k
      show ((x.toNat : Nat) : Int) = x
      omega
    rw [List.map_congr_left this, List.map_id']
  obtain ⟨W, hW⟩ : ∃ W, W = S0.map Int.toNat := ⟨_, rfl⟩
  have hSW' : S0 = W.map fun (k : Nat) => (k : Int) := by rw [hW]; exact hSW
  have hWl : W.length = n := by rw [hW, List.length_map, hS0l]
  have hWp : ∀ p, ((W.getD p 0 : Nat) : Int) = atP ts (lk0 (A.zip X)) p (List.range ts.length) := fun p => by
    rw [← hS0, hSW', getD_cast]
  have hLp : (sortT (rowsH hb ts W)).Perm ((hubN hb ts).map fun k => (W.getD (othN hb ts k) 0, k)) := by
    rw [← rowsH_rg]; exact sortT_perm _
  have hLs := sortT_pw (rowsH hb ts W)
  generalize hL : sortT (rowsH hb ts W) = L at *
  have hLm : ∀ r ∈ L, r = (W.getD (othN hb ts r.2) 0, r.2) ∧ r.2 < ts.length ∧ hasP (ts.getD r.2 (0, 0)) hb = true := fun r hr => by
    obtain ⟨k, hk, e⟩ := List.mem_map.mp (hLp.mem_iff.mp hr)
    subst e
    exact ⟨rfl, hubN_mem.mp hk⟩
  have hL2 : (L.map (·.2)).Perm (hubN hb ts) := by
    have := hLp.map (·.2)
    rw [List.map_map] at this
    have e : (hubN hb ts).map ((·.2) ∘ fun k => (W.getD (othN hb ts k) 0, k)) = hubN hb ts := by
      rw [show ((·.2) ∘ fun k => (W.getD (othN hb ts k) 0, k) : Nat → Nat) = id from rfl, List.map_id]
    rw [e] at this
    exact this
  have hLl : L.length + 1 = n := by
    have := hL2.length_eq
    rw [List.length_map] at this; omega
  have hK : (A ++ L.map (·.2)).Perm (List.range ts.length) := by
    have := split_perm (ts := ts) hb
    rw [hA] at this
    exact (List.Perm.append_left A hL2).trans this
  have hKnd : (A ++ L.map (·.2)).Nodup := hK.nodup_iff.mpr (List.nodup_range (n := ts.length))
  have hKl : (A ++ L.map (·.2)).length = ts.length := by rw [hK.length_eq]; simp
  have hKf := lk0_map (X := X) hKnd (by omega)
  have htake : X.take (A ++ L.map (·.2)).length = X := List.take_of_length_le (by omega)
  rw [htake] at hKf
  let f := lk0 ((A ++ L.map (·.2)).zip X)
  have hKf' : A.map f ++ (L.map (·.2)).map f = X := by rw [← List.map_append]; exact hKf
  have hAf : A.map f = X.take A.length := by
    have := congrArg (List.take A.length) hKf'
    rwa [List.take_left' (by simp)] at this
  have hLf : (L.map (·.2)).map f = X.drop A.length := by
    have := congrArg (List.drop A.length) hKf'
    rwa [List.drop_left' (by simp)] at this
  have hff0 : ∀ k ∈ A, f k = lk0 (A.zip X) k := List.map_inj_left.mp (hAf.trans hA0.symm)
  have hf0L : ∀ k ∈ L.map (·.2), lk0 (A.zip X) k = 0 := fun k hk => by
    have hna : k ∉ A := fun h => (List.nodup_append.mp hKnd).2.2 k h k hk rfl
    unfold lk0
    rw [lk_none hna]; rfl
  -- sums
  have hsum : ∀ p, (sumsL n ts ((List.range ts.length).map f)).getD p 0 = ((W.getD p 0 : Nat) : Int) + atP ts f p (L.map (·.2)) := fun p => by
    rw [sumsL_atP hlt, ← atP_perm f p hK, atP_app, hWp, ← atP_perm _ p hK, atP_app]
    have e1 : atP ts (lk0 (A.zip X)) p (L.map (·.2)) = 0 := by
      unfold atP
      rw [sum_congr (g := fun _ => (0 : Int)) fun k hk => by rw [hf0L k hk]; split <;> rfl, sum_zero]
    have e2 : atP ts f p A = atP ts (lk0 (A.zip X)) p A := by
      unfold atP
      exact sum_congr fun k hk => by rw [hff0 k hk]
    rw [e1, e2]
    omega
  -- the places, in the order of their numbers
  have hPnd : (L.map fun r => othN hb ts r.2).Nodup := by
    have := oth_nd w hb (K := L.map (·.2)) (List.nodup_append.mp hKnd).2.1 fun k hk => by
      obtain ⟨r, hr, rfl⟩ := List.mem_map.mp hk
      exact (hLm r hr).2
    rwa [List.map_map] at this
  have hPlt : ∀ r ∈ L, othN hb ts r.2 < n ∧ othN hb ts r.2 ≠ hb := fun r hr => by
    obtain ⟨_, l, z⟩ := hLm r hr
    have h1 := w.lt _ (get_mem l)
    have h2 := other_ne h1.1 z
    unfold othN
    omega
  have hPat : ∀ i, i < L.length → atP ts f ((L.map fun r => othN hb ts r.2).getD i 0) (L.map (·.2)) = (X.drop A.length).getD i 0 := fun i hi => by
    have h1 := one_of (P := L.map fun r => othN hb ts r.2) (Y := X.drop A.length) (i := i) hPnd (by simpa using hi) (by rw [← hLf]; simp)
    rw [← h1, ← hLf]
    have hg : ∃ r ∈ L, (L.map fun r => othN hb ts r.2).getD i 0 = othN hb ts r.2 := ⟨L[i], List.getElem_mem hi, by simp [List.getD_eq_getElem?_getD, List.getElem?_eq_getElem hi]⟩
    obtain ⟨r0, hr0, e0⟩ := hg
    have hq := hPlt r0 hr0
    rw [e0]
    generalize othN hb ts r0.2 = q at *
    have z : ∀ M : List (Nat × Nat), (∀ r ∈ M, r ∈ L) → atP ts f q (M.map (·.2)) = (((M.map fun r => othN hb ts r.2).zip ((M.map (·.2)).map f)).map fun y => if y.1 = q then y.2 else 0).sum := fun M => by
      induction M with
      | nil => intro _; rfl
      | cons r M ih =>
        intro hM
        have ih' := ih fun r hr => hM r (List.mem_cons_of_mem _ hr)
        obtain ⟨_, l, z⟩ := hLm r (hM r (List.mem_cons_self ..))
        have h2 := other_ne (w.lt _ (get_mem l)).1 z
        unfold atP at ih' ⊢
        simp only [List.map_cons, List.zip_cons_cons, List.sum_cons]
        rw [ih']
        congr 1
        have e : (hasP (ts.getD r.2 (0, 0)) q = true) ↔ othN hb ts r.2 = q := by
          unfold othN
          unfold hasP at z ⊢
          rw [Bool.or_eq_true, beq_iff_eq, beq_iff_eq] at z ⊢
          omega
        by_cases hc : othN hb ts r.2 = q
        · rw [if_pos hc, if_pos (e.mpr hc)]
        · rw [if_neg hc, if_neg (fun x => hc (e.mp x))]
    exact z L fun r h => h
  have hHat : atP ts f hb (L.map (·.2)) = (X.drop A.length).sum := by
    rw [← hLf]
    unfold atP
    exact sum_congr fun k hk => by
      obtain ⟨r, hr, rfl⟩ := List.mem_map.mp hk
      rw [if_pos (hLm r hr).2.2]
  have hDl : (X.drop A.length).length = L.length := by rw [← hLf]; simp
  -- what is aside brings little
  have hx0 : 0 < X.getD A.length 0 := hp _ (getD_mem (by omega))
  have hWle : ∀ q, q < n → q ≠ hb → ((W.getD q 0 : Nat) : Int) ≤ ((n : Int) - 2) * (X.getD A.length 0 - 1) := fun q h1 h2 => by
    have e1 : atP ts (lk0 (A.zip X)) q (L.map (·.2)) = 0 := by
      unfold atP
      rw [sum_congr (g := fun _ => (0 : Int)) fun k hk => by rw [hf0L k hk]; split <;> rfl, sum_zero]
    rw [hWp, ← atP_perm _ q hK, atP_app, e1]
    have h3 := atP_le (ts := ts) (lk0 (A.zip X)) q (c := X.getD A.length 0 - 1) A fun k hk => by
      have : lk0 (A.zip X) k ∈ X.take A.length := by rw [← hA0]; exact List.mem_map_of_mem hk
      obtain ⟨i, hi, e⟩ := List.mem_iff_getElem.mp this
      have hi' : i < A.length := by simp at hi; omega
      have h3 := pw_get hs 0 hi' (by omega)
      have e3 : X.getD i 0 = X[i]'(by omega) := by rw [List.getD_eq_getElem?_getD, List.getElem?_eq_getElem (show i < X.length by omega)]; rfl
      rw [List.getElem_take] at e
      omega
    have h4 := few q h1 h2
    have h5 : ((A.countP fun k => hasP (ts.getD k (0, 0)) q : Nat) : Int) * (X.getD A.length 0 - 1) ≤ ((n : Int) - 2) * (X.getD A.length 0 - 1) := Int.mul_le_mul_of_nonneg_right (by omega) (by omega)
    omega
  have hdom : ∀ i, i < L.length → ∀ q, q < n → q ≠ hb → ((W.getD q 0 : Nat) : Int) + (X.drop A.length).getD i 0 < (X.drop A.length).sum := fun i hi q h1 h2 => by
    have h3 := hWle q h1 h2
    have h4 := sum_ge1 (c := X.getD A.length 0) (X.drop A.length) (i := i) (fun y hy => by
      obtain ⟨j, hj, e⟩ := List.mem_iff_getElem.mp hy
      have e2 : (X.drop A.length).getD j 0 = y := by rw [List.getD_eq_getElem?_getD, List.getElem?_eq_getElem hj]; exact e
      rw [getD_drop] at e2
      by_cases hz : j = 0
      · subst hz; rw [Nat.add_zero] at e2; omega
      · have := pw_get hs 0 (show A.length < A.length + j by omega) (by simp at hj; omega)
        omega) (by omega)
    rw [hDl] at h4
    have h5 : (((L.length : Nat) : Int) - 1) = (n : Int) - 2 := by omega
    rw [h5] at h4
    have h6 : ((n : Int) - 2) * (X.getD A.length 0 - 1) = ((n : Int) - 2) * X.getD A.length 0 - ((n : Int) - 2) := by rw [Int.mul_sub]; omega
    omega
  have hW0 : W.getD hb 0 = 0 := by
    have h1 := hWp hb
    rw [← atP_perm _ hb hK, atP_app] at h1
    have e1 : atP ts (lk0 (A.zip X)) hb (L.map (·.2)) = 0 := by
      unfold atP
      rw [sum_congr (g := fun _ => (0 : Int)) fun k hk => by rw [hf0L k hk]; split <;> rfl, sum_zero]
    have e2 : atP ts (lk0 (A.zip X)) hb A = 0 := by
      unfold atP
      rw [sum_congr (g := fun _ => (0 : Int)) fun k hk => by rw [(hAm k hk).2]; rfl, sum_zero]
    omega
  let P := L.map fun r => othN hb ts r.2
  have hPn : (P ++ [hb]).Perm (List.range n) := by
    refine perm_ofN ?_ ?_ ?_
    · rw [List.nodup_append]
      refine ⟨hPnd, by simp, ?_⟩
      rintro x hx y hy rfl
      obtain ⟨r, hr, rfl⟩ := List.mem_map.mp hx
      exact (hPlt r hr).2 (by simpa using hy)
    · intro x hx
      rw [List.mem_range]
      rcases List.mem_append.mp hx with h | h
      · obtain ⟨r, hr, rfl⟩ := List.mem_map.mp h
        exact (hPlt r hr).1
      · have := w.hn
        have : x = hb := by simpa using h
        omega
    · simp [P]; omega
  let s := fun p => (sumsL n ts ((List.range ts.length).map f)).getD p 0
  have hsP : ∀ i, i < L.length → ∃ (r : Nat × Nat), r ∈ L ∧ L.getD i (0, 0) = r ∧ P.getD i 0 = othN hb ts r.2 ∧ s (P.getD i 0) = (r.1 : Int) + (X.drop A.length).getD i 0 := fun i hi => by
    have e0 : P.getD i 0 = othN hb ts (L[i]).2 := by simp [P, List.getD_eq_getElem?_getD, List.getElem?_eq_getElem hi]
    refine ⟨L[i], List.getElem_mem hi, by rw [List.getD_eq_getElem?_getD, List.getElem?_eq_getElem hi]; rfl, e0, ?_⟩
    show (sumsL n ts ((List.range ts.length).map f)).getD (P.getD i 0) 0 = _
    rw [hsum, hPat i hi]
    have := (hLm _ (List.getElem_mem hi)).1
    rw [e0]
    congr 2
    exact (congrArg Prod.fst this).symm
  have hsH : s hb = (X.drop A.length).sum := by
    show (sumsL n ts ((List.range ts.length).map f)).getD hb 0 = _
    rw [hsum, hHat, hW0]
    omega
  have hsort : (P.map s).Pairwise (· < ·) := by
    rw [List.pairwise_iff_getElem]
    intro i j hi hj hij
    have hPl : P.length = L.length := by simp [P]
    have hi' : i < L.length := by simpa [hPl] using hi
    have hj' : j < L.length := by simpa [hPl] using hj
    obtain ⟨r1, m1, g1, _, e1⟩ := hsP i hi'
    obtain ⟨r2, m2, g2, _, e2⟩ := hsP j hj'
    have q1 : (P.map s)[i] = s (P.getD i 0) := by simp [List.getD_eq_getElem?_getD, List.getElem?_eq_getElem (show i < P.length by omega)]
    have q2 : (P.map s)[j] = s (P.getD j 0) := by simp [List.getD_eq_getElem?_getD, List.getElem?_eq_getElem (show j < P.length by omega)]
    rw [q1, q2, e1, e2]
    have h1 := pw_get hLs (0, 0) hij hj'
    rw [g1, g2] at h1
    have h2 := pw_get hs 0 (show A.length + i < A.length + j by omega) (by omega)
    rw [← getD_drop, ← getD_drop] at h2
    have h3 : r1.1 ≤ r2.1 := by
      unfold leT at h1
      rw [Bool.or_eq_true, Bool.and_eq_true, decide_eq_true_eq, decide_eq_true_eq] at h1
      omega
    omega
  have hall : ((P ++ [hb]).map s).Pairwise (· < ·) := by
    rw [List.map_append, List.pairwise_append]
    refine ⟨hsort, by simp, ?_⟩
    intro x hx y hy
    have hy' : y = s hb := by simpa using hy
    obtain ⟨i, hi, e⟩ := List.mem_iff_getElem.mp hx
    have hPl : P.length = L.length := by simp [P]
    have hi' : i < L.length := by simpa [hPl] using hi
    obtain ⟨r, m, _, e0, e1⟩ := hsP i hi'
    have q1 : (P.map s)[i] = s (P.getD i 0) := by simp [List.getD_eq_getElem?_getD, List.getElem?_eq_getElem (show i < P.length by omega)]
    rw [← e, q1, e1, hy', hsH]
    have hrr := (hLm r m).1
    have hpl := hPlt r m
    have := hdom i hi' _ hpl.1 hpl.2
    have hf : r.1 = W.getD (othN hb ts r.2) 0 := congrArg Prod.fst hrr
    rw [← hf] at this
    exact this
  have hnodup : ((List.range n).map s).Nodup := by
    rw [← (hPn.map s).nodup_iff]
    exact hall.imp fun h => by omega
  have hend : (List.range n).map s = sumsL n ts ((List.range ts.length).map f) := by
    apply List.ext_getElem
    · rw [sumsL_len]; simp
    · intro i h1 h2
      simp only [List.getElem_map, List.getElem_range]
      show (sumsL n ts ((List.range ts.length).map f)).getD i 0 = _
      rw [List.getD_eq_getElem?_getD, List.getElem?_eq_getElem h2]; rfl
  refine ⟨W, L, hWl, hSW', hL, hKnd, hKl, fun k hk => ?_, ?_, by rw [← hend]; exact hnodup⟩
  · have : k ∈ A ++ L.map (·.2) := hK.mem_iff.mpr (List.mem_range.mpr hk)
    obtain ⟨i, hi, e⟩ := List.mem_iff_getElem.mp this
    have := lk_zip (X := X) hKnd hi (by omega)
    rw [List.getD_eq_getElem?_getD, List.getElem?_eq_getElem hi] at this
    simp only [Option.getD_some] at this
    rw [e] at this
    exact ⟨_, this⟩
  · have := (hK.map f).symm
    rw [List.map_append, hKf'] at this
    exact this
end
end TN
namespace TN
open PySem PySem.Spec PyProof.Rows L2
/-! ### unlike_by by a hub, unlike_for of kinds -/
section
variable {n : Nat} {ts : List (Nat × Nat)} {hb : Nat}
theorem hubL_B : hubL n ts = hubB n ts := by
  unfold hubL hubB lcI
  have e : ((List.range n).map fun k => ((deg ts k : Nat) : Int)).zipIdx = (List.range n).map fun k => (((deg ts k : Nat) : Int), k) := by
    apply List.ext_getElem
    · simp
    · intro i h1 h2
      simp
  rw [e, List.filterMap_map]
  generalize List.range n = R
  induction R with
  | nil => rfl
  | cons k R ih =>
    rw [List.filterMap_cons, List.filter_cons]
    simp only [Function.comp_apply]
    by_cases h : deg ts k + 1 = n
    · have h1 : ((deg ts k : Nat) : Int) = (n : Int) - 1 := by omega
      rw [decide_eq_true h, decide_eq_true h1]
      simpa using ih
    · have h1 : ¬ ((deg ts k : Nat) : Int) = (n : Int) - 1 := by omega
      rw [decide_eq_false h, decide_eq_false h1]
      simpa using ih
theorem HubW.of (h3 : 3 ≤ n) (lt : ∀ t ∈ ts, t.1 < t.2 ∧ t.2 < n) (nd : ts.Nodup) {r : List Nat} (hh : hubL n ts = hb :: r) : HubW n ts hb := by
  have hm : hb ∈ hubB n ts := by rw [← hubL_B, hh]; exact List.mem_cons_self ..
  obtain ⟨h1, h2⟩ := List.mem_filter.mp hm
  exact ⟨h3, lt, nd, List.mem_range.mp h1, of_decide_eq_true h2⟩
theorem vT_map {O : List (Nat × Nat)} : ∀ {V : List Int}, O.Nodup → O.length = V.length → O.map (vT (O.zip V)) = V := by
  induction O with
  | nil => intro V _ h; exact (List.length_eq_zero_iff.mp h.symm).symm
  | cons t O ih =>
    intro V hn hl
    cases V with
    | nil => simp at hl
    | cons v V =>
      rw [List.nodup_cons] at hn
      rw [List.map_cons, List.zip_cons_cons]
      congr 1
      · simp [vT]
      · have := ih (V := V) hn.2 (by simpa using hl)
        refine Eq.trans (List.map_congr_left fun u hu => ?_) this
        unfold vT
        rw [List.find?_cons]
        have : decide ((t, v).1 = u) = false := decide_eq_false fun z => hn.1 (by rw [show t = u from z]; exact hu)
        rw [this]
theorem order_ok (h : ∀ t ∈ ts, t.1 < n ∧ t.2 < n ∧ t.1 ≠ t.2) {O : List (Nat × Nat)} {V : List Int} (hp : ts.Perm O) (hO : O.Nodup) (hl : O.length = V.length) (hs : (sumsL n O V).Nodup) :
    (ts.map (vT (O.zip V))).Perm V ∧ (sumsL n ts (ts.map (vT (O.zip V)))).Nodup := by
  have hv := vT_map hO hl
  refine ⟨?_, ?_⟩
  · have := hp.map (vT (O.zip V))
    rwa [hv] at this
  · rw [sumsL_perm h hp, hv]
    exact hs
end
def goodV (n : Nat) (O : List (Nat × Nat)) (V : List Int) : Bool := decide (O.length = V.length) && ((List.range V.length).all (fun i => V.contains ((i + 1 : Nat) : Int)) && decide ((sumsL n O V).Nodup))
theorem goodV_ok {n : Nat} {O : List (Nat × Nat)} {V : List Int} (h : goodV n O V = true) : O.length = V.length ∧ V.Perm (rgI 1 ((V.length : Int) + 1)) ∧ (sumsL n O V).Nodup := by
  unfold goodV at h
  simp only [Bool.and_eq_true, decide_eq_true_eq] at h
  obtain ⟨h1, h2, h3⟩ := h
  refine ⟨h1, ?_, h3⟩
  refine (perm_of (rg_nodup _ _) (fun x hx => ?_) (by simp [rgI])).symm
  obtain ⟨a, b⟩ := rg_mem.mp hx
  have := List.all_eq_true.mp h2 (x - 1).toNat (List.mem_range.mpr (by omega))
  rw [List.contains_iff_mem] at this
  rw [show (((x - 1).toNat + 1 : Nat) : Int) = x by omega] at this
  exact this
theorem ring_good : ((List.range 41).all fun n => !decide (3 ≤ n) || goodV n (kdT (.ring n)) (oddN n ++ evnN n)) = true := by decide +kernel
theorem row_good : ((List.range 41).all fun n => !decide (3 ≤ n) || goodV n (rowT 0 (n - 1)) (rowN (n - 1))) = true := by decide +kernel
/-- an unlike numbering, told -/
def UnlD (n : Nat) (ts : List (Nat × Nat)) (d : D) : Prop := ∃ V : List Int, d = .tuple (V.map .int) ∧ V.length = ts.length ∧ V.Perm (rgI 1 ((ts.length : Int) + 1)) ∧ (sumsL n ts V).Nodup
theorem ks_lt {k : Kd} (h : KdOk k) : ∀ t ∈ sortT (kdT k), t.1 < t.2 ∧ t.2 < kdN k := fun t ht => (kd_web h).lt t ((sortT_perm _).mem_iff.mp ht)
theorem unl_order {k : Kd} (h : KdOk k) {O : List (Nat × Nat)} {V : List Int} (hO : O = kdT k) (hg : goodV (kdN k) O V = true) {R : Option (D × Bool)} (hr : R = some (.tuple ((sortT (kdT k)).map fun t => .int (vT (O.zip V) t)), false)) :
    ∃ d, R = some (d, false) ∧ UnlD (kdN k) (sortT (kdT k)) d := by
  have hp : (sortT (kdT k)).Perm O := by rw [hO]; exact sortT_perm _
  obtain ⟨g1, g2, g3⟩ := goodV_ok hg
  obtain ⟨o1, o2⟩ := order_ok (fun t ht => by have := ks_lt h t ht; omega) hp (by rw [hO]; exact (kd_web h).nd) g1 g3
  refine ⟨_, hr, (sortT (kdT k)).map (vT (O.zip V)), ?_, by simp, ?_, o2⟩
  · rw [List.map_map]; rfl
  · have hl : ((sortT (kdT k)).length : Int) = V.length := by rw [hp.length_eq, g1]
    rw [hl]
    exact o1.trans g2
theorem ix_row (n : Nat) : (List.range n).map (fun i => PyData.tuple [.int (i : Nat), .int (((i : Nat) : Int) + 1)]) = (rowT 0 n).map tieD := by
  unfold rowT
  rw [List.map_map]
  refine List.map_congr_left fun i _ => ?_
  show _ = tieD (0 + i, 0 + i + 1)
  unfold tieD
  congr 3 <;> simp
theorem unlf_ring {n : Nat} (h : KdOk (.ring n)) : ∃ d, (MM_unlike_for [(kdD (.ring n), .fz)]).rv = some (d, false) ∧ UnlD n (sortT (kdT (.ring n))) d := by
  have hg := kgood_run h
  have hw := webfor_run h
  have hwd := kd_word (.ring n)
  have hok := (kd_web h).ok
  have hk := h
  obtain ⟨h3, h40⟩ := h
  have hgv := List.all_eq_true.mp ring_good n (List.mem_range.mpr (by omega))
  rw [decide_eq_true h3] at hgv
  simp only [Bool.not_true, Bool.false_or] at hgv
  have hl := (goodV_ok hgv).1
  have hOl : (kdT (.ring n)).length = n := by simp [kdT, rowT]; omega
  have hput := put_run (n := n) hok (O := kdT (.ring n)) (V := oddN n ++ evnN n) (kd_web hk).nd hl (by omega) fun t ht => (sortT_perm _).mem_iff.mp ht
  refine unl_order hk rfl hgv ?_
  have hrn := ringn_run (m := n) (by omega) (by omega)
  have e1 : ((n : Nat) : Int) - 1 = ((n - 1 : Nat) : Int) := by omega
  have e2 : (kdT (.ring n)).map tieD = (rowT 0 (n - 1)).map tieD ++ [.tuple [.int 0, .int ((n - 1 : Nat) : Int)]] := by
    show (rowT 0 (n - 1) ++ [(0, n - 1)]).map tieD = _
    rw [List.map_append]; rfl
  have e3 : ((rowT 0 (n - 1)).map tieD).length = n - 1 := by simp [rowT]
  have hwn : opIx (kdWeb (.ring n)) (.int 0) = some (.val (.int (n : Nat))) := web_n _ _
  rw [e2] at hput
  unfold kdWeb at *
  simp only [kdN] at *
  generalize (fun t => PyData.int (vT _ t)) = F at *
  generalize webD n (sortT (kdT (.ring n))) = WD at *
  generalize (oddN n ++ evnN n).map PyData.int = VD at *
  generalize hKD : kdD (.ring n) = KD at *
  simp only [kdW] at hwd
  with_reducible refine rv_gF (in_unlike_for ?_)
  repeat' (first | (rw [e1]) | array_mem_dec | ((with_reducible refine TN.c_rv ?_ ?_ hg ?_); exact rfl; exact rfl) | ((with_reducible refine TN.c_rv ?_ ?_ hw ?_); exact rfl; exact rfl))
  refine TN.cp_rng ((n - 1)) ((fun i => PyData.tuple [.int (i : Nat), .int (((i : Nat) : Int) + 1)])) (by (first | omega | exact rfl)) (by (first | omega | (simp; done) | (simp; omega))) (by (first | exact rfl | (repeat (first | exact TN.wOk_nil | ((apply TN.wOk_cons); exact rfl; (first | exact TN.okW_none | exact TN.okW_fz | exact TN.okW_jk | assumption)))))) (by (repeat (first | exact wipe_nil | apply wipe_cons | exact st0 | apply stS))) ?_ ?_
  · intro i hi
    repeat' array_mem_dec
    exact ⟨rfl, rfl⟩
  · rw [ix_row]
    generalize (rowT 0 (n - 1)).map tieD = RD at *
    repeat' (first | (rw [e1]) | array_mem_dec | ((with_reducible refine TN.c_rvT ?_ ?_ hrn ?_); exact rfl; exact rfl) | ((with_reducible refine TN.c_rv ?_ ?_ hput ?_); exact rfl; exact rfl))
    all_goals exact ⟨rfl, rfl⟩
section
variable {n : Nat} {ts : List (Nat × Nat)}
theorem put_runL (h : WebOk n ts) {O : List (Nat × Nat)} {V : List Int} (hO : O.Nodup) (hl : O.length = V.length) (hm : O.length ≤ 900) (hc : ∀ t ∈ ts, t ∈ O) : MM_put_in_order [(webD n ts, .fz), (.list (O.map tieD), .lent), (.list (V.map .int), .fz)] = .ok (.tuple (ts.map fun t => .int (vT (O.zip V) t))) false [some (webD n ts, .fz), some (.list (O.map tieD), .lz), some (.list (V.map .int), .fz)] := by
  have h := ex_gF (r := MM_put_in_order [(webD n ts, .fz), (.list (O.map tieD), .lent), (.list (V.map .int), .fz)]) (T := fun d fr o => d = .tuple (ts.map fun t => .int (vT (O.zip V) t)) ∧ fr = false ∧ o = [some (webD n ts, .fz), some (.list (O.map tieD), .lz), some (.list (V.map .int), .fz)]) ?_
  · obtain ⟨d, fr, o, e, rfl, rfl, rfl⟩ := h
    exact e
  have htl := h.tl
  have hz := zipD_tl O V
  have hZn : ((O.zip V).map (·.1)).Nodup := by rw [List.map_fst_zip (by omega)]; exact hO
  have hZk : kV' (O.zip V) = O := by unfold kV'; exact List.map_fst_zip (by omega)
  have hZl : (O.zip V).length ≤ 900 := by rw [List.length_zip]; omega
  have hix : ∀ t ∈ ts, opIx (dictV (O.zip V)) (tieD t) = some (.val (.int (vT (O.zip V) t))) := fun t ht => ix_V (by rw [hZk]; exact hc t ht)
  with_reducible refine in_put_in_order ?_
  repeat' (first | (apply w_zipM) | array_mem_dec)
  rw [hz]
  generalize O.zip V = Z at *
  refine for_inv Z (fun p => .tuple [tieD p.1, .int p.2]) (fun pre ρ => ∃ j4 j5, ρ = [some (webD n ts, .fz), some (.list (O.map tieD), .lz), some (.list (V.map .int), .fz), some (dictV pre, .own), jk j4, jk j5]) rfl ⟨none, none, rfl⟩ ?_ ?_
  · rintro pre p post _ hE ⟨j4, j5, rfl⟩
    have hpl : pre.length < 16777216 := by
      have := congrArg List.length hE
      rw [List.length_append] at this; omega
    have hnk : p.1 ∉ kV' pre := by
      rw [hE, List.map_append, List.map_cons] at hZn
      have := (List.nodup_append.mp hZn).2.2
      intro hk
      exact this _ hk p.1 (by simp) rfl
    have hput := put_V p.1 p.2 hpl
    have e1 : putV pre p.1 p.2 = pre ++ [p] := by unfold putV; rw [if_neg hnk]
    rw [e1] at hput
    generalize dictV (pre ++ [p]) = D2 at *
    generalize dictV pre = D1 at *
    generalize tieD p.1 = TD at *
    repeat' (first | (apply put_rfl hput) | array_mem_dec)
    exact ⟨some TD, some (.int p.2), rfl⟩
  · rintro _ ⟨j4, j5, rfl⟩
    generalize dictV Z = DZ at *
    repeat' array_mem_dec
    refine TN.cp_map (ts) (tieD) (fun t => .int (vT Z t)) rfl (by (first | omega | (simp; done) | (simp; omega))) (by (first | exact rfl | (repeat (first | exact TN.wOk_nil | ((apply TN.wOk_cons); exact rfl; (first | exact TN.okW_none | exact TN.okW_fz | exact TN.okW_jk | assumption)))))) (by (repeat (first | exact wipe_nil | apply wipe_cons | exact st0 | apply stS))) ?_ ?_
    · intro t ht
      have hx := hix t ht
      generalize tieD t = TD at *
      repeat' array_mem_dec
      exact ⟨rfl, rfl⟩
    · repeat' array_mem_dec
      exact ⟨rfl, rfl, rfl⟩
end
theorem hi_zero : ∀ {L : List Nat}, L ≠ [] → (hiI (L.map fun (k : Nat) => (k : Int)) = 0 ↔ ∀ x ∈ L, x = 0)
  | [], h => absurd rfl h
  | a :: L, _ => by
    unfold hiI
    have key : ∀ (L : List Nat) (a : Nat), (L.map fun (k : Nat) => (k : Int)).foldl max (a : Int) = 0 ↔ a = 0 ∧ ∀ x ∈ L, x = 0 := by
      intro L
      induction L with
      | nil => intro a; simp
      | cons b L ih =>
        intro a
        rw [List.map_cons, List.foldl_cons, show max (a : Int) (b : Int) = ((max a b : Nat) : Int) by omega, ih]
        constructor
        · rintro ⟨h1, h2⟩
          refine ⟨by omega, fun x hx => ?_⟩
          rcases List.mem_cons.mp hx with h | h
          · subst h; omega
          · exact h2 x h
        · rintro ⟨h1, h2⟩
          exact ⟨by have := h2 b (List.mem_cons_self ..); omega, fun x hx => h2 x (List.mem_cons_of_mem _ hx)⟩
    rw [List.map_cons]
    rw [key]
    simp
theorem spin_zero {legs : List Nat} (h : ∀ x ∈ legs, x = 0) : ∀ K, spinT legs K = []
  | 0 => rfl
  | K + 1 => by
    have ih := spin_zero h K
    unfold spinT at ih ⊢
    rw [List.range_succ, List.flatMap_append, ih]
    have : legs.getD K 0 = 0 := by
      rw [List.getD_eq_getElem?_getD]
      by_cases hk : K < legs.length
      · rw [List.getElem?_eq_getElem hk]; exact h _ (List.getElem_mem hk)
      · rw [List.getElem?_eq_none (by omega)]; rfl
    rw [List.flatMap_cons, this]
    rfl
theorem sum_zeroN : ∀ {L : List Nat}, (∀ x ∈ L, x = 0) → L.sum = 0
  | [], _ => rfl
  | a :: L, h => by
    rw [List.sum_cons, sum_zeroN fun x hx => h x (List.mem_cons_of_mem _ hx), h a (List.mem_cons_self ..)]
theorem unlf_row {legs : List Nat} (h : KdOk (.spine legs)) (hz : ∀ x ∈ legs, x = 0) (h3 : 3 ≤ legs.length) : ∃ d, (MM_unlike_for [(kdD (.spine legs), .fz)]).rv = some (d, false) ∧ UnlD legs.length (sortT (kdT (.spine legs))) d := by
  have hg := kgood_run h
  have hw := webfor_run h
  have hwd := kd_word (.spine legs)
  have hok := (kd_web h).ok
  have hk := h
  obtain ⟨h1, h40⟩ := h
  have hs0 := sum_zeroN hz
  have hkn : kdN (.spine legs) = legs.length := by show legs.length + legs.sum = _; omega
  have hO : rowT 0 (legs.length - 1) = kdT (.spine legs) := by
    show _ = rowT 0 (legs.length - 1) ++ spinT legs legs.length
    rw [spin_zero hz, List.append_nil]
  have hgv := List.all_eq_true.mp row_good legs.length (List.mem_range.mpr (by omega))
  rw [decide_eq_true h3] at hgv
  simp only [Bool.not_true, Bool.false_or] at hgv
  have hl := (goodV_ok hgv).1
  have hOl : (rowT 0 (legs.length - 1)).length = legs.length - 1 := by simp [rowT]
  have hput := put_runL (n := kdN (.spine legs)) hok (O := rowT 0 (legs.length - 1)) (V := rowN (legs.length - 1)) (by rw [hO]; exact (kd_web hk).nd) hl (by omega) fun t ht => by rw [hO]; exact (sortT_perm _).mem_iff.mp ht
  have := unl_order hk hO (by rw [hkn]; exact hgv) (R := (MM_unlike_for [(kdD (.spine legs), .fz)]).rv)
  rw [hkn] at this
  refine this ?_
  have hrn := rown_run (l := legs.length - 1) (by omega) (by omega)
  have e1 : ((legs.length : Nat) : Int) - 1 = ((legs.length - 1 : Nat) : Int) := by omega
  have e3 : ((rowT 0 (legs.length - 1)).map tieD).length = legs.length - 1 := by simp [rowT]
  have hwn : opIx (kdWeb (.spine legs)) (.int 0) = some (.val (.int (legs.length : Nat))) := by rw [← hkn]; exact web_n _ _
  have hne : legs ≠ [] := by intro z; subst z; simp at h1
  have hmx : fMax [.tuple (lg legs)] = some (.val (.int 0)) := by
    rw [lg_ints, fMaxT (by simpa using hne), (hi_zero hne).mpr hz]
  have hlx : opIx (kdD (.spine legs)) (.int 1) = some (.val (.tuple (lg legs))) := rfl
  unfold kdWeb at *
  simp only [hkn] at *
  generalize (fun t => PyData.int (vT _ t)) = F at *
  generalize webD legs.length (sortT (kdT (.spine legs))) = WD at *
  generalize (rowN (legs.length - 1)).map PyData.int = VD at *
  generalize lg legs = LG at *
  generalize hKD : kdD (.spine legs) = KD at *
  simp only [kdW] at hwd
  with_reducible refine rv_gF (in_unlike_for ?_)
  repeat' (first | (rw [e1]) | array_mem_dec | ((with_reducible refine TN.c_rv ?_ ?_ hg ?_); exact rfl; exact rfl) | ((with_reducible refine TN.c_rv ?_ ?_ hw ?_); exact rfl; exact rfl))
  refine TN.cp_rng ((legs.length - 1)) ((fun i => PyData.tuple [.int (i : Nat), .int (((i : Nat) : Int) + 1)])) (by (first | omega | exact rfl)) (by (first | omega | (simp; done) | (simp; omega))) (by (first | exact rfl | (repeat (first | exact TN.wOk_nil | ((apply TN.wOk_cons); exact rfl; (first | exact TN.okW_none | exact TN.okW_fz | exact TN.okW_jk | assumption)))))) (by (repeat (first | exact wipe_nil | apply wipe_cons | exact st0 | apply stS))) ?_ ?_
  · intro i hi
    repeat' array_mem_dec
    exact ⟨rfl, rfl⟩
  · rw [ix_row]
    generalize (rowT 0 (legs.length - 1)).map tieD = RD at *
    repeat' (first | (apply gO_of hmx) | (rw [e3]) | array_mem_dec | ((with_reducible refine TN.c_rvT ?_ ?_ hrn ?_); exact rfl; exact rfl))
    refine c_gen (ρ1 := [some (KD, .fz), some (WD, .fz), some (.list RD, .fz), none]) rfl rfl hput rfl ?_
    repeat' array_mem_dec
    all_goals exact ⟨rfl, rfl⟩
theorem kdT_len60 {k : Kd} (h : KdOk k) : (sortT (kdT k)).length ≤ 60 := by rw [(sortT_perm _).length_eq]; exact (kd_web h).t60
end TN
namespace TN
open PySem PySem.Spec PyProof.Rows L2

/-! ### a comprehension over a name's own dict of tuple keys: the dict is held and locked -/
def ItOkG (K : PySem.W.Frag) (G B : Hp) (ds : List D) (J : It) : Prop := ∀ (G2 H2 : Hp), Same G G2 → Same G2 H2 → Same B H2 → ∀ i : Nat, (∀ d, ds[i]? = some d → J.go i H2 ∧ ∀ x H3, J.yld i H2 x H3 → PostG K G2 H2 x H3 (.val d)) ∧ (ds.length ≤ i → J.stop i H2)
theorem FzT.lenT {K : PySem.W.Frag} {G : Hp} : ∀ {kvs : List (List Key × V)} {es : List (D × D)}, FzT K G kvs es → kvs.length = es.length
  | _, _, .nil => rfl
  | _, _, .cons _ b => by simp [b.lenT]
theorem FzT.getK {K : PySem.W.Frag} {G : Hp} : ∀ {kvs : List (List Key × V)} {es : List (D × D)} {i : Nat} {d : D}, FzT K G kvs es → (es.map (·.1))[i]? = some d → ∃ k v, kvs[i]? = some (k, v) ∧ d = tkD k
  | _, _, _, _, .nil, e => by simp at e
  | _, _, 0, _, .cons (k := k) (v := v) _ _, e => by simp at e; exact ⟨k, v, rfl, e.symm⟩
  | _, _, i + 1, _, .cons _ b, e => by
    obtain ⟨k, v, h1, h2⟩ := b.getK (i := i) (by simpa using e)
    exact ⟨k, v, by simpa using h1, h2⟩
theorem itokG_keysT {K : PySem.W.Frag} {G B : Hp} {a : Addr} {od : Obj} {kvs : List (List Key × V)} {es : List (D × D)} (h : B a = some (.frz od (.dT kvs))) (f : FzT K G kvs es) : ItOkG K G B (es.map (·.1)) (Itkt a od kvs) := by
  intro G2 H2 s1 s2 sb i
  have h2 : H2 a = some (.frz od (.dT kvs)) := sb _ _ h
  refine ⟨fun d hd => ?_, fun hl => ⟨h2, by rw [f.lenT]; simpa using hl⟩⟩
  obtain ⟨k, v, hk, rfl⟩ := f.getK hd
  refine ⟨⟨h2, (List.getElem?_eq_some_iff.mp hk).1⟩, fun x H3 hy => ?_⟩
  obtain ⟨rfl, k', v', q, hk', rfl, hq⟩ := hy
  rw [hk] at hk'; cases hk'
  refine ⟨fun b => if b = q then some (.tup (k.map kV)) else G2 b, ⟨fun b o hb => ?_, fun b o hb => ?_, fun b hb => ?_⟩, .fz (.tup (if_pos rfl) (fz_keys k))⟩
  · show (if b = q then some (.tup (k.map kV)) else G2 b) = some o
    by_cases z : b = q
    · subst z
      have := s2 _ _ hb
      rw [hq] at this; cases this
      rw [if_pos rfl]
    · rw [if_neg z]; exact hb
  · have hb : (if b = q then some (.tup (k.map kV)) else G2 b) = some o := hb
    by_cases z : b = q
    · subst z
      rw [if_pos rfl] at hb; cases hb
      exact hq
    · rw [if_neg z] at hb; exact s2 _ _ hb
  · have hb : (if b = q then some (.tup (k.map kV)) else G2 b) ≠ none := hb
    show G2 b ≠ none ∨ ∃ vs, (if b = q then some (.tup (k.map kV)) else G2 b) = some (.tup vs)
    by_cases z : b = q
    · rw [if_pos z]; exact .inr ⟨_, rfl⟩
    · rw [if_neg z] at hb; exact .inl hb
section
variable {K : PySem.W.Frag} {L : L2.St} {B G G1 H H1 : Hp} {σ : L2.St} {ρ : Rho} {a : Addr} {o : HO} {xs : List V} {ds : List D} {j : Nat} {m : Md}
theorem Rel.holdC (r : Rel K L B σ ρ G H) {d : D} (q : ρ[j]? = some (some (d, m))) (hm : m.isFz = false) : ∃ a o, σ[j]? = some (some (.ref a)) ∧ G a = none ∧ B a = none ∧ H a = some o ∧ Cont K G H a d ∧
    Rel K (L.set j none) (upd B a o) σ (ρ.set j none) G H ∧ ∀ v, L[j]? = some (some v) → σ[j]? = some (some v) ∧ (m = .lent ∨ m = .lz) := by
  obtain ⟨v, hv, hs⟩ := r.slots j _ q
  obtain ⟨a, rfl, hG, hB, c⟩ := hs.own hm
  obtain ⟨o, hH⟩ := c.there
  have hlt : j < ρ.length := (List.getElem?_eq_some_iff.mp q).1
  have out : ∀ {i : Nat} {p : D × Md}, (ρ.set j none)[i]? = some (some p) → i ≠ j ∧ ρ[i]? = some (some p) := fun {i p} h => by
    by_cases hj : i = j
    · subst hj; rw [List.getElem?_set_self hlt] at h; cases h
    · rw [List.getElem?_set_ne (Ne.symm hj)] at h; exact ⟨hj, h⟩
  have r0 : Rel K (L.set j none) B σ (ρ.set j none) G H := by
    refine ⟨r.sub, r.base, by simpa using r.len, fun i p hp => r.slots i p (out hp).2, fun i k p p' w hik hp hp' hf hf' hw => r.sep i k p p' w hik (out hp).2 (out hp').2 hf hf' hw, fun i w hw => ?_⟩
    have hij : i ≠ j := fun z => by
      subst z
      by_cases hl : i < L.length
      · rw [List.getElem?_set_self hl] at hw; cases hw
      · rw [List.getElem?_eq_none (by simpa using hl)] at hw; cases hw
    rw [List.getElem?_set_ne (Ne.symm hij)] at hw
    obtain ⟨h1, d1, m1, h2, h3⟩ := r.lent i w hw
    exact ⟨h1, d1, m1, by rw [List.getElem?_set_ne (Ne.symm hij)]; exact h2, h3⟩
  refine ⟨a, o, hv, hG, hB, hH, c, r0.addB hB hH fun i p hp hf hw => ?_, fun w hw => ?_⟩
  · obtain ⟨hij, hp'⟩ := out hp
    exact r.sep i j p (d, m) (.ref a) hij hp' q hf hm hw hv
  · obtain ⟨h1, d1, m1, h2, h3⟩ := r.lent j w hw
    rw [q] at h2; cases h2
    exact ⟨h1, h3⟩
theorem Rel.unholdC {d : D} (r : Rel K (L.set j none) (upd B a o) σ ρ G H) (hB : B a = none) (hG : G a = none) (hv : σ[j]? = some (some (.ref a))) (c : Cont K G H a d) (hρ : ρ[j]? = some none) (hm : m.isFz = false)
    (hl : ∀ v, L[j]? = some (some v) → σ[j]? = some (some v) ∧ (m = .lent ∨ m = .lz)) : Rel K L B σ (ρ.set j (some (d, m))) G H := by
  obtain ⟨r1, hn⟩ := r.subB hB
  have hlt : j < ρ.length := (List.getElem?_eq_some_iff.mp hρ).1
  have sl : SlotOk K G H B (.ref a) (d, m) := by
    cases m with
    | fz => cases hm
    | lz => cases hm
    | own => exact ⟨a, rfl, hG, hB, c⟩
    | lent => exact ⟨a, rfl, hG, hB, c⟩
  refine ⟨r1.sub, r1.base, by simpa using r1.len, fun i p hp => ?_, fun i k p p' w hik hp hp' hf hf' hw => ?_, fun i w hw => ?_⟩
  · by_cases hij : i = j
    · subst hij; rw [List.getElem?_set_self hlt] at hp; cases hp; exact ⟨_, hv, sl⟩
    · rw [List.getElem?_set_ne (Ne.symm hij)] at hp; exact r1.slots i p hp
  · by_cases hij : i = j
    · subst hij
      rw [hv] at hw; cases hw
      rw [List.getElem?_set_ne hik] at hp'
      exact hn k p' hp' hf'
    · rw [List.getElem?_set_ne (Ne.symm hij)] at hp
      by_cases hkj : k = j
      · subst hkj
        rw [hv]; intro z; cases z
        exact hn i p hp hf hw
      · rw [List.getElem?_set_ne (Ne.symm hkj)] at hp'
        exact r1.sep i k p p' w hik hp hp' hf hf' hw
  · by_cases hij : i = j
    · subst hij
      obtain ⟨h1, h2⟩ := hl w hw
      exact ⟨h1, d, m, List.getElem?_set_self hlt, h2⟩
    · have hw' : (L.set j none)[i]? = some (some w) := by rw [List.getElem?_set_ne (Ne.symm hij)]; exact hw
      obtain ⟨h1, d1, m1, h2, h3⟩ := r1.lent i w hw'
      exact ⟨h1, d1, m1, by rw [List.getElem?_set_ne (Ne.symm hij)]; exact h2, h3⟩
end
section
variable {X : Cx} {elt tg iter : Expr} {ifs : List Expr} {scope : Scope} {own : List (Str × Nat)} {pos : Pos} {ci : CI} {g : D → Rho → Option Rho} {t : CB} {e : CE}
theorem comp_coreG {L : L2.St} {σ : L2.St} {ρ1 ρF : Rho} {G1 B H1 : Hp} {vs ws : List Nat} {J : It} {ds accF : List D} {Q : VK} (hvs : ∀ i ∈ ws, i ∈ vs) (rel1 : Rel X.K L B σ ρ1 G1 H1) (hw : wipeOk ρ1 vs = true) (hit : ItOkG X.K G1 B ds J)
    (qc : compL g t e vs ds [] (wipeR ρ1 vs) = .ok accF ρF)
    (fin : ∀ (D0 : Addr) (H2 G2 : Hp), H1 D0 = none → Rel X.K L B σ (backR ρ1 ρF vs) G2 H2 → Ext B G1 G2 → PlOk X.K B σ (backR ρ1 ρF vs) G2 H2 (.ref D0) (.tmp (.list accF)) → Q (.ref D0) H2) :
    ∀ D, H1 D = none → ∃ W : Nat → Nat → Hp → Prop, (∃ m, W 0 m (upd H1 D (.lst []))) ∧ ∀ i m H, W i m H →
      (J.stop i H ∧ Q (.ref D) H) ∨ (J.go i H ∧ ∃ Nx : Hp → Prop, (∀ H', Nx H' → ∃ m', m' < m ∧ W (i + 1) m' H') ∧ ∀ x H', J.yld i H x H' → tG X ws g x (L2.wipe σ vs) H' fun σ2 H2 => L2.wipe σ2 vs = L2.wipe σ vs ∧ tT X Wf t σ2 H2 fun b H3 =>
        if b = true then tX X Wf e σ2 H3 fun y H4 => ∃ acc, H4 D = some (.lst acc) ∧ acc.length < sizeLine ∧ Nx (upd H4 D (.lst (acc ++ [y]))) else Nx H3) := by
    intro D0 hD
    have hB : B D0 = none := rel1.base.free hD
    -- the invariant: behind i things the list so far, and what the rest gives
    let W0 : Nat → Hp → Prop := fun i H => i ≤ ds.length ∧ ∃ (acc : List D) (xs : List V) (ρ : Rho) (G : Hp), Rel X.K L B (L2.wipe σ vs) ρ G H ∧ Ext B G1 G ∧ G D0 = none ∧ H D0 = some (.lst xs) ∧ FzA X.K G xs acc ∧
      (∀ (j : Nat) (p : D × Md), ρ[j]? = some (some p) → p.2.isFz = false → (L2.wipe σ vs)[j]? ≠ some (some (.ref D0))) ∧ compL g t e vs (ds.drop i) acc ρ = .ok accF ρF
    have noD : ∀ {σ : L2.St} {ρ : Rho} {G H : Hp}, Rel X.K L B σ ρ G H → H D0 = none → ∀ (j : Nat) (p : D × Md), ρ[j]? = some (some p) → p.2.isFz = false → σ[j]? ≠ some (some (.ref D0)) := by
      intro σ ρ G H r hD j p hp hf hv
      obtain ⟨w, h1, h2⟩ := r.slots j p hp
      rw [hv] at h1; cases h1
      obtain ⟨a, e', _, _, c⟩ := h2.own hf
      cases e'
      obtain ⟨o, ho⟩ := c.there
      rw [hD] at ho; cases ho
    have start0 : W0 0 (upd H1 D0 (.lst [])) :=
      ⟨Nat.zero_le _, [], [], wipeR ρ1 vs, G1, (rel1.wipe hw).new (Same.upd_new (o := .lst []) hD), .refl, rel1.sub.free hD, upd_same, .nil, noD (rel1.wipe hw) hD, by simpa using qc⟩
    refine ⟨fun i m H => m = ds.length - i ∧ W0 i H, ⟨_, rfl, start0⟩, ?_⟩
    rintro i m H2 ⟨rfl, hle, acc, xs, ρ2, G2, rel2, ext2, hG2, hx, fx, hn, hc⟩
    obtain ⟨ha, hb⟩ := hit G2 H2 ext2.same rel2.sub rel2.base i
    by_cases hlt : i < ds.length
    · right
      have ei : ds[i]? = some ds[i] := by simp [hlt]
      obtain ⟨hgo', hy⟩ := ha _ ei
      refine ⟨hgo', fun H' => W0 (i + 1) H', fun H' w => ⟨ds.length - (i + 1), by omega, rfl, w⟩, fun x H3 hyl => ?_⟩
      have relB := rel2.addB hB hx hn
      obtain ⟨Gg, gg, pp⟩ := hy x H3 hyl
      obtain ⟨rg, xg⟩ := relB.growT gg
      obtain ⟨G3, r3, x3', f3⟩ := pp.ok rg
      have x3 := xg.trans x3'
      rw [List.drop_eq_getElem_cons hlt] at hc
      unfold compL at hc
      refine ⟨L, ρ2, G3, upd B D0 (.lst xs), ds[i], r3, f3, ?_⟩
      cases q1 : g ds[i] ρ2 with
      | none => simp only [q1] at hc; cases hc
      | some ρ3 =>
        simp only [q1] at hc
        intro σ3 H3' G3' r3' x3' ho
        have x3 := x3.trans x3'
        have hwσ : L2.wipe σ3 vs = L2.wipe σ vs := wipe_only ho hvs
        refine ⟨hwσ, L, ρ3, G3', upd B D0 (.lst xs), r3', ?_⟩
        have wipeN : ∀ {ρ' : Rho} {G' H' : Hp}, Rel X.K L (upd B D0 (.lst xs)) σ3 ρ' G' H' → wipeOk ρ' vs = true → Rel X.K L (upd B D0 (.lst xs)) (L2.wipe σ vs) (wipeR ρ' vs) G' H' := by
          intro ρ' G' H' r hwo
          have := r.wipe hwo
          rwa [hwσ] at this
        have gD : ∀ {σ' : L2.St} {ρ' : Rho} {G' H' : Hp}, Rel X.K L (upd B D0 (.lst xs)) σ' ρ' G' H' → Ext (upd B D0 (.lst xs)) G2 G' → G' D0 = none := by
          intro σ' ρ' G' H' r ex
          cases z : G' D0 with
          | none => rfl
          | some o =>
            rcases ex.new D0 (by rw [z]; simp) with w | w | ⟨us, w⟩
            · exact absurd hG2 w
            · rw [upd_same] at w; cases w
            · have z1 := r.sub _ _ w
              have z2 := r.base D0 _ upd_same
              rw [z1] at z2; cases z2
        cases q2 : t ρ3 with
        | bad => simp only [q2] at hc; cases hc
        | exc y ρ4 => simp only [q2] at hc; cases hc
        | ok b ρ4 =>
          intro b' H4 G4 r4 x4 eb
          subst eb
          cases b' with
          | false =>
            simp only [q2] at hc
            rw [if_neg Bool.false_ne_true]
            by_cases hwo : wipeOk ρ4 vs = true
            · rw [if_pos hwo] at hc
              have rN := wipeN r4 hwo
              obtain ⟨rN', nN⟩ := rN.subB hB
              exact ⟨hlt, acc, xs, wipeR ρ4 vs, G4, rN', ext2.trans (x3.subB.trans x4.subB), gD r4 (x3.trans x4), rN.base D0 _ upd_same, fx.mono (x3.trans x4).same, nN, hc⟩
            · rw [if_neg hwo] at hc; cases hc
          | true =>
            simp only [q2] at hc
            rw [if_pos rfl]
            refine ⟨L, ρ4, G4, upd B D0 (.lst xs), r4, ?_⟩
            cases q3 : e ρ4 with
            | bad => simp only [q3] at hc; cases hc
            | exc y ρ5 => simp only [q3] at hc; cases hc
            | ok p ρ5 =>
              simp only [q3] at hc
              intro v H5 G5 r5 x5 ok
              obtain ⟨G6, r6, x6, fx6⟩ := ok.fix r5
              cases q4 : frz p ρ5 with
              | none => simp only [q4] at hc; cases hc
              | some w =>
                obtain ⟨d, ρ6⟩ := w
                simp only [q4] at hc
                obtain ⟨G7, r7, x7, f7⟩ := fx6.frz r6 q4
                by_cases hl : acc.length < 16777216 ∧ wipeOk ρ6 vs = true
                · rw [if_pos hl] at hc
                  have xx : Ext (upd B D0 (.lst xs)) G2 G7 := x3.trans (x4.trans (x5.trans (x6.trans x7)))
                  have hD7 : H5 D0 = some (.lst xs) := r7.base D0 _ upd_same
                  refine ⟨xs, hD7, by rw [fx.length, sizeLine_eq]; exact hl.1, ?_⟩
                  have rN := wipeN r7 hl.2
                  have fx' : FzA X.K G7 (xs ++ [v]) (acc ++ [d]) := (fx.mono xx.same).append (.cons f7 .nil)
                  exact ⟨hlt, acc ++ [d], xs ++ [v], wipeR ρ6 vs, G7, rN.grow hB (gD r7 xx), ext2.trans xx.subB, gD r7 xx, upd_same, fx', (rN.subB hB).2, hc⟩
                · rw [if_neg hl] at hc; cases hc
    · left
      have e' : i = ds.length := by omega
      subst e'
      rw [List.drop_length] at hc
      unfold compL at hc
      simp only [R.ok.injEq] at hc
      obtain ⟨rfl, rfl⟩ := hc
      refine ⟨hb (Nat.le_refl _), ?_⟩
      refine fin D0 H2 G2 hD (rel1.back hw rel2 ext2) ext2 ⟨D0, rfl, hG2, hB, .lst hx fx, fun j p hp hf hv => ?_⟩
      have hl : ρ1.length = ρ2.length := by
        have e1 := rel1.len
        have e2 := rel2.len
        rw [wipe_length] at e2
        omega
      by_cases hj : j ∈ vs
      · rw [backR_in hl hj] at hp
        rcases wipeOk_at hw hj with z | ⟨d', z⟩
        · rw [hp] at z; cases z
        · rw [hp] at z; cases z
          cases hf
      · rw [backR_out hj] at hp
        exact hn j p hp hf (by rw [wipe_out' hj]; exact hv)
def heldD (j : Nat) (g : D → Rho → Option Rho) (t : CB) (e : CE) (vs : List Nat) (es : List (D × D)) (m : Md) (ρ : Rho) : R Pl :=
  if wipeOk (ρ.set j none) vs = true ∧ j ∉ vs then (match compL g t e vs (es.map (·.1)) [] (wipeR (ρ.set j none) vs) with
    | .ok acc ρ2 => (match (backR (ρ.set j none) ρ2 vs)[j]? with
      | some none => .ok (.tmp (.list acc)) ((backR (ρ.set j none) ρ2 vs).set j (some (.dict ((.none, .none) :: es), m)))
      | _ => .bad)
    | _ => .bad) else .bad
def cCompD (j : Nat) (g : D → Rho → Option Rho) (t : CB) (e : CE) (vs : List Nat) : CE := fun ρ => match ρ[j]? with
  | some (some (.dict ((.none, .none) :: es), m)) => if m.isFz = true then .bad else heldD j g t e vs es m ρ
  | _ => .bad
theorem Cont.isT {K : PySem.W.Frag} {G H : Hp} {a : Addr} {es : List (D × D)} (c : Cont K G H a (.dict ((.none, .none) :: es))) : ∃ kvs, H a = some (.dT kvs) ∧ FzT K G kvs es := by
  cases c with
  | dK h f => exact f.nomark.elim
  | dT h f => exact ⟨_, h, f⟩
theorem compD_imp {W : WX} {vs ws : List Nat} {j : Nat} (hvs : ∀ i ∈ ws, i ∈ vs) :
    ∀ (σ : L2.St) (H : Hp) (Q : VK), tX X W (cCompD j g t e vs) σ H Q → tLockE (tLc (iKeys (tVar j)) (tG X ws g) (tT X Wf t) (tX X Wf e) vs) σ H Q := by
  rintro σ H Q ⟨L, ρ, G, B, rel, h⟩
  unfold cCompD at h
  split at h
  case h_2 => exact h.elim
  rename_i es m q
  by_cases hm : m.isFz = true
  · rw [if_pos hm] at h; exact h.elim
  rw [if_neg hm] at h
  have hm : m.isFz = false := by simpa using hm
  unfold heldD at h
  by_cases hc : wipeOk (ρ.set j none) vs = true ∧ j ∉ vs
  case neg => rw [if_neg hc] at h; exact h.elim
  rw [if_pos hc] at h
  cases qc : compL g t e vs (es.map (·.1)) [] (wipeR (ρ.set j none) vs) with
  | bad => simp only [qc] at h; exact h.elim
  | exc x ρ2 => simp only [qc] at h; exact h.elim
  | ok accF ρF =>
  simp only [qc] at h
  split at h
  case h_2 => exact h.elim
  rename_i hn
  obtain ⟨a, o, hv, hG, hB, hH, c, rh, hl⟩ := rel.holdC q hm
  obtain ⟨kvs, hT, fx⟩ := c.isT
  rw [hH] at hT; cases hT
  refine ⟨a, .dT kvs, hH, trivial, fun od => ?_⟩
  obtain ⟨_, hs⟩ := rh.subB hB
  have rl : Rel X.K (L.set j none) (upd B a (.frz od (.dT kvs))) σ (ρ.set j none) G (upd H a (.frz od (.dT kvs))) := (rh.grow (o' := .frz od (.dT kvs)) hB hG).addB hB upd_same hs
  refine ⟨.ref a, hv, a, od, rfl, .inr ⟨kvs, upd_same, ?_⟩⟩
  refine comp_coreG (Q := fun v H' => H' a = some (.frz od (.dT kvs)) ∧ Q v (upd H' a (.dT kvs))) hvs rl hc.1 (itokG_keysT upd_same fx) qc fun D0 H2 G2 hD r2 x2 ok => ?_
  have hG2 := x2.keep r2 hG (fun _ z => by cases z)
  obtain ⟨aa, e1, g1, b1, c1, s1⟩ := ok
  cases e1
  have aD : a ≠ D0 := fun z => by subst z; rw [upd_same] at hD; cases hD
  refine ⟨r2.base a _ upd_same, ?_⟩
  obtain ⟨_, hs2⟩ := r2.subB hB
  have r3 : Rel X.K (L.set j none) (upd B a (.dT kvs)) σ (backR (ρ.set j none) ρF vs) G2 (upd H2 a (.dT kvs)) := (r2.grow (o' := .dT kvs) hB hG2).addB hB upd_same hs2
  have c2 : Cont X.K G2 (upd H2 a (.dT kvs)) a (.dict ((.none, .none) :: es)) := .dT upd_same (fx.mono x2.same)
  have rF := r3.unholdC hB hG2 hv c2 hn hm hl
  refine h (.ref D0) (upd H2 a (.dT kvs)) G2 rF x2.subB ⟨D0, rfl, g1, by rw [upd_ne (Ne.symm aD)] at b1; exact b1, c1.heap fun u e => by rw [upd_ne (Ne.symm aD)]; exact e, fun i p hp hf hw => ?_⟩
  by_cases hij : i = j
  · subst hij
    rw [hv] at hw; cases hw
    exact aD rfl
  · rw [List.getElem?_set_ne (Ne.symm hij)] at hp
    exact s1 i p hp hf hw
variable {ws : List Nat} {x y : Str} {py px spos : Pos} {j : Nat}
theorem ss_setCompD (i : Nat) (hc : X.calm = true) (hN : X.N.Nodup) (hjN : X.N[j]? = some x) (hv : Vis X.env.scope x) (hd : (x == ("__debug__" : Str)) = false) (hcd : (x == ("__classdict__" : Str)) = false) (ok : BlkOk X.N X.env.scope scope own) (hvs : ∀ i ∈ ws, i ∈ own.map (·.2))
    (hg : ∀ (s : Shared) (H : Hp) (C : Addr) (cl : List (Str × Addr)) (fp : List Addr), SG (X.blk s H scope (compEnvC scope cl C X.env) fp) tg ws g) (ht : ∀ (s : Shared) (H : Hp) (C : Addr) (cl : List (Str × Addr)) (fp : List Addr), SPt (X.blk s H scope (compEnvC scope cl C X.env) fp) ifs t)
    (he : ∀ (s : Shared) (H : Hp) (C : Addr) (cl : List (Str × Addr)) (fp : List Addr), SX (X.blk s H scope (compEnvC scope cl C X.env) fp) elt e)
    (hsw : swapsWith (.ListComp elt [⟨tg, .Name x px, ifs, 0⟩] scope pos) (some (.Name y py)) spos.line X.env = pure true := by exact sw_true rfl rfl rfl (by decide +kernel)) (hy : X.N[i]? = some y := by rfl) (hyl : X.env.scope.names.lookup y = some .local := by rfl) (hs : ∀ z, foldedSetIterable (.Name x px) X.env z = pure z := by intro _; rfl) :
    SS X (.Assign [.Name y py] (.ListComp elt [⟨tg, .Name x px, ifs, 0⟩] scope pos) spos) (cSet i (cCompD j g t e (own.map (·.2)))) := fun W tk _ =>
  PSimp (ps_lock (ps_setLc (tt := tT X Wf t) (te := tX X Wf e) (g := tG X ws g) hc hN hy hyl hsw (pi_keys (pe_var hjN hv hd hcd)) ok hg (fun s H C cl fp => ht s H C cl fp Wf takes0) (fun s H C cl fp => he s H C cl fp Wf takes0) hs)) fun D σ H h => compD_imp hvs σ H _ (set_imp h)
end
end TN
namespace TNO
open TN
open PySem PySem.Spec PyProof.Rows L2
/-! comprehensions over an own dict of ties, told from their end -/
theorem w_compD {j : Nat} {g : D → Rho → Option Rho} {t : CB} {e : CE} {vs : List Nat} {ρ ρ1 : Rho} {es : List (D × D)} {m : Md} {Q : Pl → Rho → Prop} {E : Xc → Rho → Prop} (hj : ρ[j]? = some (some (.dict ((.none, .none) :: es), m))) (hm : m.isFz = false) (hv : j ∉ vs) (e1 : ρ.set j none = ρ1)
    (h : cpW (es.map (·.1)) g t e vs ρ1 fun p ρ2 => ρ2[j]? = some none ∧ Q p (ρ2.set j (some (.dict ((.none, .none) :: es), m)))) : gE (cCompD j g t e vs ρ) Q E := by
  subst e1
  obtain ⟨h1, h2⟩ := h
  obtain ⟨acc, ρ2, h3, h4, h5⟩ := gE_okE h2
  have h6 : heldD j g t e vs es m ρ = .ok (.tmp (.list acc)) ((backR (ρ.set j none) ρ2 vs).set j (some (.dict ((.none, .none) :: es), m))) := by
    unfold heldD
    rw [if_pos ⟨h1, hv⟩, h3]
    simp only [h4]
  unfold cCompD
  simp only [hj, hm, h6]
  exact h5
end TNO
namespace TN
open PySem PySem.Spec PyProof.Rows L2
theorem w_compD {j : Nat} {g : D → Rho → Option Rho} {t : CB} {e : CE} {vs : List Nat} {ρ ρ1 : Rho} {es : List (D × D)} {m : Md} {Q : Pl → Rho → Prop} {E : Xc → Rho → Prop} (hj : ρ[j]? = some (some (.dict ((.none, .none) :: es), m))) (hm : m.isFz = false) (hv : j ∉ vs) (e1 : ρ.set j none = ρ1)
    (h : cpW (es.map (·.1)) g t e vs ρ1 fun p ρ2 => ρ2[j]? = some none ∧ Q p (ρ2.set j (some (.dict ((.none, .none) :: es), m)))) : gE (cCompD j g t e vs ρ) Q E := by with_unfolding_all exact TNO.w_compD hj hm hv e1 h
theorem cpD_ties {j : Nat} {g : D → Rho → Option Rho} {e : CE} {vs : List Nat} {ρ ρ1 ρ2 : Rho} {m : Md} {Q : Pl → Rho → Prop} {E : Xc → Rho → Prop} (F : List (Nat × Nat)) (out : Nat × Nat → D) (hj : ρ[j]? = some (some (dictD F, m))) (hm : m.isFz = false) (hv : j ∉ vs) (e1 : ρ.set j none = ρ1) (hl : F.length ≤ 1000000) (hw : wipeOk ρ1 vs = true) (ew : wipeR ρ1 vs = ρ2) (e3 : ρ1[j]? = some none) (e4 : ρ1.set j (some (dictD F, m)) = ρ)
    (hs : ∀ t ∈ F, elW g tTrue e vs ρ2 (tieD t) fun o ρ' => o = some (out t) ∧ ρ' = ρ2) (k : Q (.tmp (.list (F.map out))) ρ) : gE (cCompD j g tTrue e vs ρ) Q E :=
  w_compD hj hm hv e1 (cp_map F tieD out (by rw [List.map_map]; rfl) hl hw ew hs ⟨e3, by
    show Q _ (ρ1.set j (some (dictD F, m)))
    rw [e4]; exact k⟩)
abbrev bb__law_hub_web_1 : CS := (cUnp (gPut 2 putA (cTup (cCons (cLit (.int 0)) (cCons (cVar 3) cNil)))) (cLit (.bool true)))
abbrev bb__law_hub_web_2 : CS := (cSeq (cSet 7 (cCall MMDraw (cCons (cVar 0) (cCons (cVar 1) cNil))))
  (cSeq (cSet 8 (cCall MMDraw (cCons (cVar 0) (cCons (cVar 1) cNil))))
  (cIf (cAnd (cTst (cBin opNe (cVar 7) (cVar 8))) (cTst (cBin opLt (cFn fLen (cCons (cVar 2) cNil)) (cLit (.int 60)))))
  (cUnp (gPut 2 putA (cTup (cCons (cFn fMin2 (cCons (cVar 7) (cCons (cVar 8) cNil))) (cCons (cFn fMax2 (cCons (cVar 7) (cCons (cVar 8) cNil))) cNil)))) (cLit (.bool true)))
  cSkip)))
abbrev ee__law_hub_web_3 : CE := (cTup (cCons (cFn fMin2 (cCons (cBin opIx (cVar 5) (cVar 9)) (cCons (cBin opIx (cVar 5) (cVar 10)) cNil))) (cCons (cFn fMax2 (cCons (cBin opIx (cVar 5) (cVar 9)) (cCons (cBin opIx (cVar 5) (cVar 10)) cNil))) cNil)))
abbrev cc__law_hub_web : CS := (cSeq (cSet 1 (cBin opAdd (cLit (.int 3)) (cCall MMDraw (cCons (cVar 0) (cCons (cLit (.int 9)) cNil)))))
  (cSeq (cSet 2 cNewT)
  (cSeq (cFor (cRng2 (cLit (.int 1)) (cVar 1)) (gNm 3)
  bb__law_hub_web_1)
  (cSeq (cFor (cRng1 (cBin opIx (cLst (cCons (cLit (.int 0)) (cCons (cVar 1) (cCons (cBin opMul (cLit (.int 2)) (cVar 1)) cNil)))) (cCall MMDraw (cCons (cVar 0) (cCons (cLit (.int 3)) cNil))))) (gNm 4)
  bb__law_hub_web_2)
  (cSeq (cSet 5 (cCall MM__law_order_of (cCons (cVar 0) (cCons (cVar 1) cNil))))
  (cSeq (cSet 6 (cCompD 2 (gTp 2 (gsCons (gNm 9) (gsCons (gNm 10) gsNil))) tTrue ee__law_hub_web_3 [9, 10]))
  (cRet (cTup (cCons (cVar 1) (cCons (cFn fTuple (cCons (cFn fSorted (cCons (cVar 6) cNil)) cNil)) cNil))))))))))
def MM__law_hub_web : FM := mkF 1 11 cc__law_hub_web
theorem in__law_hub_web {x0 : D} {m0 : Md} {T : D → Bool → List Slot → Prop} {E : Xc → List Slot → Prop} (h : gS (cc__law_hub_web [some (x0, m0), none, none, none, none, none, none, none, none, none, none]) (fun ρ => T .none false (ρ.take 1)) (fun d fr ρ => T d fr (ρ.take 1)) (fun x ρ => E x (ρ.take 1))) : gF (MM__law_hub_web [(x0, m0)]) T E := by
  unfold MM__law_hub_web
  with_reducible refine gF_mkE (c := cc__law_hub_web) ?_ ?_ h
  · rfl
  · rfl

/-! ### the laws' webs with a hub -/
theorem ren_lt {n : Nat} {π : List Nat} (hp : π.Perm (List.range n)) {t : Nat × Nat} (h1 : t.1 < t.2) (h2 : t.2 < n) : (ren π t).1 < (ren π t).2 ∧ (ren π t).2 < n := by
  have p1 := perm_lt hp (show t.1 < n by omega)
  have p2 := perm_lt hp h2
  have hnd : π.Nodup := hp.nodup_iff.mpr (List.nodup_range (n := n))
  have hl : π.length = n := by rw [hp.length_eq]; simp
  have hne : π.getD t.1 0 ≠ π.getD t.2 0 := fun e => by
    rw [List.getD_eq_getElem?_getD, List.getElem?_eq_getElem (show t.1 < π.length by omega), List.getD_eq_getElem?_getD, List.getElem?_eq_getElem (show t.2 < π.length by omega)] at e
    have := (List.getElem_inj hnd).mp e
    omega
  simp only [ren]
  omega
theorem ren_inj {n : Nat} {π : List Nat} (hp : π.Perm (List.range n)) {t u : Nat × Nat} (h1 : t.1 < t.2) (h2 : t.2 < n) (h3 : u.1 < u.2) (h4 : u.2 < n) (h : ren π t = ren π u) : t = u := by
  have hnd : π.Nodup := hp.nodup_iff.mpr (List.nodup_range (n := n))
  have hl : π.length = n := by rw [hp.length_eq]; simp
  have inj : ∀ i j, i < n → j < n → π.getD i 0 = π.getD j 0 → i = j := fun i j hi hj e => by
    rw [List.getD_eq_getElem?_getD, List.getElem?_eq_getElem (show i < π.length by omega), List.getD_eq_getElem?_getD, List.getElem?_eq_getElem (show j < π.length by omega)] at e
    exact (List.getElem_inj hnd).mp e
  have e1 := congrArg Prod.fst h
  have e2 := congrArg Prod.snd h
  simp only [ren] at e1 e2
  have hc : (π.getD t.1 0 = π.getD u.1 0 ∧ π.getD t.2 0 = π.getD u.2 0) ∨ (π.getD t.1 0 = π.getD u.2 0 ∧ π.getD t.2 0 = π.getD u.1 0) := by omega
  rcases hc with ⟨a, b⟩ | ⟨a, b⟩
  · exact Prod.ext (inj _ _ (by omega) (by omega) a) (inj _ _ (by omega) (by omega) b)
  · have := inj _ _ (by omega) (by omega) a
    have := inj _ _ (by omega) (by omega) b
    omega
theorem ren_hub {n : Nat} {π : List Nat} (hp : π.Perm (List.range n)) (h0 : 0 < n) {F : List (Nat × Nat)} (hT : Ties n F) (hs : ∀ i, i + 1 < n → (0, i + 1) ∈ F) : deg (F.map (ren π)) (π.getD 0 0) + 1 = n := by
  have hnd : π.Nodup := hp.nodup_iff.mpr (List.nodup_range (n := n))
  have hl : π.length = n := by rw [hp.length_eq]; simp
  have inj : ∀ i j, i < n → j < n → π.getD i 0 = π.getD j 0 → i = j := fun i j hi hj e => by
    rw [List.getD_eq_getElem?_getD, List.getElem?_eq_getElem (show i < π.length by omega), List.getD_eq_getElem?_getD, List.getElem?_eq_getElem (show j < π.length by omega)] at e
    exact (List.getElem_inj hnd).mp e
  have e1 : deg (F.map (ren π)) (π.getD 0 0) = F.countP fun t => decide (t.1 = 0) := by
    unfold deg
    rw [List.countP_map]
    refine List.countP_congr fun t ht => ?_
    obtain ⟨a, b⟩ := hT.lt t ht
    simp only [Function.comp_apply, hasP, ren, Bool.or_eq_true, beq_iff_eq, decide_eq_true_eq]
    constructor
    · intro h
      have hc : π.getD t.1 0 = π.getD 0 0 ∨ π.getD t.2 0 = π.getD 0 0 := by omega
      rcases hc with h | h
      · exact inj _ _ (by omega) h0 h
      · have := inj _ _ (by omega) h0 h; omega
    · intro h
      rw [h]
      omega
  have e2 : (F.filter fun t => decide (t.1 = 0)).Perm ((List.range (n - 1)).map fun i => (0, i + 1)) := by
    refine perm_nd (List.Pairwise.filter _ hT.nd) (nd_mapr fun x y e => by simpa using e) fun t => ?_
    rw [List.mem_filter, decide_eq_true_eq, List.mem_map]
    constructor
    · rintro ⟨ht, h⟩
      obtain ⟨a, b⟩ := hT.lt t ht
      exact ⟨t.2 - 1, List.mem_range.mpr (by omega), Prod.ext h.symm (show t.2 - 1 + 1 = t.2 by omega)⟩
    · rintro ⟨i, hi, rfl⟩
      have := List.mem_range.mp hi
      exact ⟨hs i (by omega), rfl⟩
  rw [e1, List.countP_eq_length_filter, e2.length_eq, List.length_map, List.length_range]
  omega
theorem hubweb_run (p : Pen) : ∃ (n : Nat) (ts : List (Nat × Nat)) (p' : Pen), GoodWeb n ts ∧ 3 ≤ n ∧ n ≤ 11 ∧ n ≤ ts.length + 1 ∧ hubL n ts ≠ [] ∧ MM__law_hub_web [(p.d, .lent)] = .ok (webD n ts) false [some (p'.d, .lent)] := by
  have h := ex_gF (r := MM__law_hub_web [(p.d, .lent)]) (T := fun d fr o => ∃ (n : Nat) (ts : List (Nat × Nat)) (p' : Pen), GoodWeb n ts ∧ 3 ≤ n ∧ n ≤ 11 ∧ n ≤ ts.length + 1 ∧ hubL n ts ≠ [] ∧ d = webD n ts ∧ fr = false ∧ o = [some (p'.d, .lent)]) (in__law_hub_web ?_)
  · obtain ⟨d, fr, o, e, n, ts, p', h1, h2, h3, h4, h5, rfl, rfl, rfl⟩ := h
    exact ⟨n, ts, p', h1, h2, h3, h4, h5, e⟩
  · repeat' array_mem_dec
    intro v p1 hv
    obtain ⟨n, hn, n3, n11⟩ : ∃ n : Nat, 3 + v = (n : Nat) ∧ 3 ≤ n ∧ n ≤ 11 := ⟨(3 + v).toNat, by omega, by omega, by omega⟩
    repeat' (first | (rw [hn]) | array_mem_dec)
    refine for_rng2 1 (n - 1) (fun k ρ => ∃ j3, ρ = [some (p1.d, .lent), some (.int (n : Nat), .fz), some (dictD ((List.range k).map fun i => (0, i + 1)), .own), jk j3, none, none, none, none, none, none, none]) rfl (by omega) ⟨none, rfl⟩ ?_ ?_
    · rintro k _ hk ⟨j3, rfl⟩
      have hput := put_tie (F := (List.range k).map fun i => (0, i + 1)) (0, k + 1) (by simp; omega)
      have e1 : addT ((List.range k).map fun i => (0, i + 1)) (0, k + 1) = (List.range (k + 1)).map fun i => (0, i + 1) := by
        unfold addT
        rw [if_neg (by
          intro h
          obtain ⟨i, hi, e⟩ := List.mem_map.mp h
          have := List.mem_range.mp hi
          have : i + 1 = k + 1 := congrArg Prod.snd e
          omega), List.range_succ, List.map_append]
        rfl
      rw [e1] at hput
      have e2 : tieD (0, k + 1) = .tuple [.int 0, .int ((1 + k : Nat) : Int)] := by
        unfold tieD
        rw [Nat.add_comm]
        rfl
      rw [e2] at hput
      generalize dictD ((List.range (k + 1)).map fun i => (0, i + 1)) = D2 at *
      generalize dictD ((List.range k).map fun i => (0, i + 1)) = D1 at *
      repeat' (first | (apply put_rfl hput) | array_mem_dec)
      exact ⟨some (.int ((1 + k : Nat) : Int)), rfl⟩
    · rintro _ ⟨j3, rfl⟩
      obtain ⟨F, hF⟩ : ∃ F, (List.range (n - 1)).map (fun i => (0, i + 1)) = F := ⟨_, rfl⟩
      rw [hF]
      have hT : Ties n F := by
        rw [← hF]
        refine ⟨fun t ht => ?_, nd_mapr fun x y e => by simpa using e⟩
        obtain ⟨i, hi, rfl⟩ := List.mem_map.mp ht
        have := List.mem_range.mp hi
        exact ⟨by simp, by simp only; omega⟩
      have hs : ∀ i, i + 1 < n → (0, i + 1) ∈ F := fun i hi => by
        rw [← hF]
        exact List.mem_map.mpr ⟨i, List.mem_range.mpr (by omega), rfl⟩
      have hFl : F.length ≤ 60 := by rw [← hF]; simp; omega
      clear hF
      repeat' array_mem_dec
      intro v2 p2 hv2
      obtain ⟨c, hc, hix⟩ : ∃ c : Nat, c ≤ 22 ∧ opIx (.list [.int 0, .int (n : Nat), .int (2 * (n : Nat))]) (.int v2) = some (.val (.int (c : Nat))) := by
        have : v2 = 0 ∨ v2 = 1 ∨ v2 = 2 := by omega
        rcases this with rfl | rfl | rfl
        · exact ⟨0, by omega, rfl⟩
        · exact ⟨n, by omega, rfl⟩
        · exact ⟨2 * n, by omega, by rw [Int.natCast_mul]; rfl⟩
      repeat' (first | (apply gO_of hix) | array_mem_dec)
      refine for_rng c (fun _ ρ => ∃ (q : Pen) (F : List (Nat × Nat)) (j4 j7 j8 : Option D), Ties n F ∧ (∀ i, i + 1 < n → (0, i + 1) ∈ F) ∧ F.length ≤ 60 ∧ ρ = [some (q.d, .lent), some (.int (n : Nat), .fz), some (dictD F, .own), jk j3, jk j4, none, none, jk j7, jk j8, none, none]) rfl ⟨p2, F, none, none, none, hT, hs, hFl, rfl⟩ ?_ ?_
      · clear hT hs hFl F
        rintro k _ hk ⟨q, F, j4, j7, j8, hT, hs, hFl, rfl⟩
        repeat' array_mem_dec
        intro a q1 ha
        obtain ⟨a, rfl⟩ : ∃ x : Nat, a = x := ⟨a.toNat, by omega⟩
        repeat' array_mem_dec
        intro b q2 hb
        obtain ⟨b, rfl⟩ : ∃ x : Nat, b = x := ⟨b.toNat, by omega⟩
        have hlen := fLen_dict F
        have hput := put_tie (F := F) (min a b, max a b) (by omega)
        have e2 : tieD (min a b, max a b) = .tuple [.int (min (a : Int) (b : Int)), .int (max (a : Int) (b : Int))] := by
          have h1 : ((min a b : Nat) : Int) = min (a : Int) (b : Int) := by omega
          have h2 : ((max a b : Nat) : Int) = max (a : Int) (b : Int) := by omega
          show PyData.tuple [.int ((min a b : Nat) : Int), .int ((max a b : Nat) : Int)] = _
          rw [h1, h2]
        rw [e2] at hput
        have hs2 : ∀ i, i + 1 < n → (0, i + 1) ∈ addT F (min a b, max a b) := fun i hi => by
          have := hs i hi
          unfold addT
          split
          · exact this
          · exact List.mem_append_left _ this
        have hl2 := addT_len F (min a b, max a b)
        have hmm : a ≠ b → min a b < max a b ∧ max a b < n := fun h => by omega
        have hT2 : a ≠ b → Ties n (addT F (min a b, max a b)) := fun h => hT.add (hmm h).1 (hmm h).2
        generalize addT F (min a b, max a b) = F2 at *
        generalize hD1 : dictD F = D1 at *
        generalize hD2 : dictD F2 = D2 at *
        repeat' (first | (apply gO_of hlen) | (apply put_rfl hput) | array_mem_dec)
        refine br_dec (fun q => ?_) fun q => ?_
        · repeat' array_mem_dec
          exact ⟨q2, F, some (.int (k : Nat)), some (.int (a : Nat)), some (.int (b : Nat)), hT, hs, hFl, by rw [hD1]; rfl⟩
        · repeat' (first | (apply gO_of hlen) | array_mem_dec)
          refine br_dec (fun q3 => ?_) fun q3 => ?_
          · repeat' (first | (apply gO_of hlen) | (apply put_rfl hput) | array_mem_dec)
            exact ⟨q2, F2, some (.int (k : Nat)), some (.int (a : Nat)), some (.int (b : Nat)), hT2 (by omega), hs2, by omega, by rw [hD2]; rfl⟩
          · repeat' array_mem_dec
            exact ⟨q2, F, some (.int (k : Nat)), some (.int (a : Nat)), some (.int (b : Nat)), hT, hs, hFl, by rw [hD1]; rfl⟩
      · clear hT hs hFl F
        rintro _ ⟨q, F, j4, j7, j8, hT, hs, hFl, rfl⟩
        obtain ⟨q2, os, hos, hO⟩ := order_run q (m := n) (by omega)
        obtain ⟨π, rfl, hπ⟩ := perm_nat hos
        repeat' array_mem_dec
        refine c_genT (ρ1 := [some (q2.d, .lent), some (.int (n : Nat), .fz), some (dictD F, .own), jk j3, jk j4, none, none, jk j7, jk j8, none, none]) rfl rfl hO (by cases j3 <;> cases j4 <;> cases j7 <;> cases j8 <;> rfl) ?_
        have hπl : π.length = n := by rw [hπ.length_eq]; simp
        repeat' array_mem_dec
        refine cpD_ties F (fun t => tieD (ren π t)) (by rfl) rfl (by decide) (by (repeat (first | exact st0 | apply stS))) (by omega) (by (first | exact rfl | (repeat (first | exact TN.wOk_nil | ((apply TN.wOk_cons); exact rfl; (first | exact TN.okW_none | exact TN.okW_fz | exact TN.okW_jk | assumption)))))) (by (repeat (first | exact wipe_nil | apply wipe_cons | exact st0 | apply stS))) rfl rfl ?_ ?_
        · intro t ht
          obtain ⟨h1, h2⟩ := hT.lt t ht
          have i1 : opIx (.list ((π.map fun (i : Nat) => (i : Int)).map .int)) (.int (t.1 : Nat)) = some (.val (.int ((π.getD t.1 0 : Nat) : Int))) := by
            rw [ix_intsL (by simp; omega), getD_cast]
          have i2 : opIx (.list ((π.map fun (i : Nat) => (i : Int)).map .int)) (.int (t.2 : Nat)) = some (.val (.int ((π.getD t.2 0 : Nat) : Int))) := by
            rw [ix_intsL (by simp; omega), getD_cast]
          have e2 : tieD (ren π t) = .tuple [.int (min ((π.getD t.1 0 : Nat) : Int) ((π.getD t.2 0 : Nat) : Int)), .int (max ((π.getD t.1 0 : Nat) : Int) ((π.getD t.2 0 : Nat) : Int))] := by
            have h1 : ((min (π.getD t.1 0) (π.getD t.2 0) : Nat) : Int) = min ((π.getD t.1 0 : Nat) : Int) ((π.getD t.2 0 : Nat) : Int) := by omega
            have h2 : ((max (π.getD t.1 0) (π.getD t.2 0) : Nat) : Int) = max ((π.getD t.1 0 : Nat) : Int) ((π.getD t.2 0 : Nat) : Int) := by omega
            show PyData.tuple [.int ((min (π.getD t.1 0) (π.getD t.2 0) : Nat) : Int), .int ((max (π.getD t.1 0) (π.getD t.2 0) : Nat) : Int)] = _
            rw [h1, h2]
          have e3 : tieD t = .tuple [.int (t.1 : Nat), .int (t.2 : Nat)] := rfl
          rw [e2, e3]
          generalize π.getD t.1 0 = x at *
          generalize π.getD t.2 0 = y at *
          generalize (π.map fun (i : Nat) => (i : Int)).map PyData.int = OD at *
          repeat' array_mem_dec
          exact ⟨rfl, rfl⟩
        · have hso := sortT_run (F.map (ren π)) (by simp; omega)
          have kR : F.map (fun t => tieD (ren π t)) = (F.map (ren π)).map tieD := by rw [List.map_map]; rfl
          rw [kR]
          have hfl : ((F.map (ren π)).map tieD).length ≤ 60 := by simp; omega
          have hgw : GoodWeb n (sortT (F.map (ren π))) := by
            have hp := sortT_perm (F.map (ren π))
            refine ⟨by omega, by omega, by rw [hp.length_eq, List.length_map]; exact hFl, fun t ht => ?_, hp.nodup_iff.mpr ?_, _, rfl⟩
            · obtain ⟨u, hu, rfl⟩ := List.mem_map.mp (hp.mem_iff.mp ht)
              obtain ⟨a, b⟩ := hT.lt u hu
              exact ren_lt hπ a b
            · refine List.Pairwise.map _ (R := fun t u => t ≠ u ∧ t ∈ F ∧ u ∈ F) (fun t u htu e => ?_) ?_
              · obtain ⟨hne, h1, h2⟩ := htu
                exact hne (ren_inj hπ (hT.lt t h1).1 (hT.lt t h1).2 (hT.lt u h2).1 (hT.lt u h2).2 e)
              · exact List.Pairwise.imp_of_mem (fun ha hb hab => ⟨hab, ha, hb⟩) hT.nd
          have hhub : hubL n (sortT (F.map (ren π))) ≠ [] := by
            rw [hubL_B, hub_perm (sortT_perm _)]
            have := ren_hub hπ (by omega) hT hs
            have hm : π.getD 0 0 ∈ hubB n (F.map (ren π)) := List.mem_filter.mpr ⟨List.mem_range.mpr (perm_lt hπ (by omega)), decide_eq_true this⟩
            intro z
            rw [z] at hm
            simp at hm
          have hln : n ≤ (sortT (F.map (ren π))).length + 1 := by
            rw [(sortT_perm _).length_eq, List.length_map]
            have := nodup_le (r := (List.range (n - 1)).map fun i => (0, i + 1)) (m := F) (nd_mapr fun x y e => by simpa using e) fun t ht => by
              obtain ⟨i, hi, rfl⟩ := List.mem_map.mp ht
              have := List.mem_range.mp hi
              exact hs i (by omega)
            simp at this
            omega
          generalize hR : (F.map (ren π)).map tieD = RD at *
          repeat' (first | (apply gO_of hso) | array_mem_dec)
          exact ⟨n, _, q2, hgw, n3, n11, hln, hhub, rfl, rfl, rfl⟩

end TN
namespace TN
open PySem PySem.Spec PyProof.Rows L2
/-! ### numbers handed to unlike_by: lists, tuples, in any order; what is none -/
theorem numin_runT {X : List Int} {m : Nat} (hl : X.length = m) (hm : m ≤ 1000) (hp : ∀ x ∈ X, 0 < x) (hn : X.Nodup) : (MM_numbers_in [(.tuple (X.map .int), .fz), (.int (m : Nat), .fz)]).rv = some (.list ((sortI X).map .int), true) := by
  have hXl : (X.map PyData.int).length = m := by rw [List.length_map, hl]
  have hls := fLenSet_t X (by omega)
  have hdd : (ddI X).length = m := by rw [← hl]; exact (dd_nd X).mpr hn
  have hso := fSorted_t X (by omega)
  have hal : fAll [.list (X.map fun _ => PyData.bool true)] = some (.val (.bool true)) := by
    have := fAll_map X (fun _ => true)
    rw [show (X.all fun _ => true) = true by simp] at this
    exact this
  rw [hdd] at hls
  have hlt : fIsLT (.tuple (X.map .int)) = some (.val (.bool true)) := rfl
  with_reducible refine rv_gF (in_numbers_in ?_)
  repeat' (first | (apply gO_of hlt) | array_mem_dec)
  refine TN.cp_map (X) (.int) (fun _ => .bool true) rfl (by (first | omega | (simp; done) | (simp; omega))) (by (first | exact rfl | (repeat (first | exact TN.wOk_nil | ((apply TN.wOk_cons); exact rfl; (first | exact TN.okW_none | exact TN.okW_fz | exact TN.okW_jk | assumption)))))) (by (repeat (first | exact wipe_nil | apply wipe_cons | exact st0 | apply stS))) ?_ ?_
  · intro x hx
    have h0 := hp x hx
    have hwr : (MMWhole [(.int x, .fz)]).rv = some (.bool true, false) := whole_run (.int x)
    repeat' (first | array_mem_dec | ((with_reducible refine TN.c_rv ?_ ?_ hwr ?_); exact rfl; exact rfl))
    exact ⟨by rw [decide_eq_true h0], rfl⟩
  · repeat' (first | (apply gO_of hal) | (apply gO_of hls) | (apply gO_of hso) | array_mem_dec)
    exact ⟨rfl, rfl⟩
/-- numbers in any order, as a list or a tuple -/
theorem unby_any {n : Nat} {ts : List (Nat × Nat)} (h : WebOk n ts) (h3 : 3 ≤ n) (lt : ∀ t ∈ ts, t.1 < t.2 ∧ t.2 < n) (nd : ts.Nodup) (hne : hubL n ts ≠ []) {X : List Int} (hX : X.length = ts.length) (hp : ∀ x ∈ X, 0 < x) (hn : X.Nodup) (hm : ts.length ≤ 900) :
    ∃ V : List Int, V.length = ts.length ∧ V.Perm X ∧ (sumsL n ts V).Nodup ∧ (MM_unlike_by [(webD n ts, .fz), (.list (X.map .int), .fz)]).rv = some (.tuple (V.map .int), false) ∧ (MM_unlike_by [(webD n ts, .fz), (.tuple (X.map .int), .fz)]).rv = some (.tuple (V.map .int), false) := by
  obtain ⟨hb, r, hh⟩ : ∃ hb r, hubL n ts = hb :: r := by
    cases e : hubL n ts with
    | nil => exact absurd e hne
    | cons a r => exact ⟨a, r, rfl⟩
  have w := HubW.of h3 lt nd hh
  have hsp := sortI_perm X
  have hsl : (sortI X).length = ts.length := by rw [hsp.length_eq, hX]
  have hsn : (sortI X).Nodup := hsp.nodup_iff.mpr hn
  have hsp2 : ∀ x ∈ sortI X, 0 < x := fun x hx => hp x (hsp.mem_iff.mp hx)
  have hss : (sortI X).Pairwise (· < ·) := by
    have h1 := sortI_pw X
    have h2 : (sortI X).Pairwise (· ≠ ·) := hsn
    exact List.Pairwise.imp₂ (fun a b hab hne => by omega) h1 h2
  obtain ⟨W, L, hWl, hW, hL, hKn, hKl, hKc, hV, hN⟩ := hub_unlike w hsl hss hsp2
  have hR := byhub_run h hsl hm hWl hW (fun t ht hc => by
    have h1 := lt t ht
    have h2 := other_ne h1.1 hc
    omega) hL hKn hKl hKc
  have h1 := need_run h h3 hh
  have h2 := numin_run hX (by omega) hp hn
  have h3 := numin_runT hX (by omega) hp hn
  have hR2 : (MM_by_hub [(webD n ts, .fz), (.int (hb : Nat), .fz), (.list ((sortI X).map .int), .fz)]).rv = some (.tuple (((List.range ts.length).map (lk0 (byE hb ts (sortI X) L))).map .int), false) := by
    rw [List.map_map]
    exact hR
  refine ⟨(List.range ts.length).map (lk0 (byE hb ts (sortI X) L)), by simp, hV.trans hsp, hN, ?_, ?_⟩
  · generalize ((List.range ts.length).map (lk0 (byE hb ts (sortI X) L))).map PyData.int = VD at *
    generalize (sortI X).map PyData.int = SD at *
    generalize X.map PyData.int = XD at *
    with_reducible refine rv_gF (in_unlike_by ?_)
    repeat' (first | array_mem_dec | ((with_reducible refine TN.c_rv ?_ ?_ h1 ?_); exact rfl; exact rfl) | ((with_reducible refine TN.c_rvT ?_ ?_ h2 ?_); exact rfl; exact rfl) | ((with_reducible refine TN.c_rv ?_ ?_ hR2 ?_); exact rfl; exact rfl))
    all_goals exact ⟨rfl, rfl⟩
  · generalize ((List.range ts.length).map (lk0 (byE hb ts (sortI X) L))).map PyData.int = VD at *
    generalize (sortI X).map PyData.int = SD at *
    generalize X.map PyData.int = XD at *
    with_reducible refine rv_gF (in_unlike_by ?_)
    repeat' (first | array_mem_dec | ((with_reducible refine TN.c_rv ?_ ?_ h1 ?_); exact rfl; exact rfl) | ((with_reducible refine TN.c_rvT ?_ ?_ h3 ?_); exact rfl; exact rfl) | ((with_reducible refine TN.c_rv ?_ ?_ hR2 ?_); exact rfl; exact rfl))
    all_goals exact ⟨rfl, rfl⟩
end TN
namespace K69
open PySem PySem.Spec PyProof.Rows L2 TN
abbrev M__law_cell_at : FM := MMCell
abbrev M__law_pen_of : FM := MMPen
abbrev M__law_next : FM := MMNext
abbrev M__law_draw : FM := MMDraw
abbrev M__law_order_of : FM := MM__law_order_of
abbrev M__law_hub_web : FM := MM__law_hub_web
abbrev b__law_numbers_of_1 : CS := (cSeq (cSet 3 (cBin opAdd (cBin opAdd (cVar 3) (cLit (.int 1))) (cCall M__law_draw (cCons (cVar 0) (cCons (cBin opIx (cLst (cCons (cLit (.int 1)) (cCons (cLit (.int 4)) (cCons (cBin opPow (cLit (.int 10)) (cLit (.int 12))) cNil)))) (cCall M__law_draw (cCons (cVar 0) (cCons (cLit (.int 3)) cNil)))) cNil)))))
  (cDrop (cMutL 2 fAppend (cCons (cVar 3) cNil))))
abbrev c__law_numbers_of : CS := (cSeq (cSet 2 (cLst cNil))
  (cSeq (cSet 3 (cLit (.int 0)))
  (cSeq (cFor (cRng1 (cVar 1)) (gNm 4)
  b__law_numbers_of_1)
  (cRet (cVar 2)))))
def M__law_numbers_of : FM := mkF 2 5 c__law_numbers_of
theorem in__law_numbers_of {x0 x1 : D} {m0 m1 : Md} {T : D → Bool → List Slot → Prop} {E : Xc → List Slot → Prop} (h : gS (c__law_numbers_of [some (x0, m0), some (x1, m1), none, none, none]) (fun ρ => T .none false (ρ.take 2)) (fun d fr ρ => T d fr (ρ.take 2)) (fun x ρ => E x (ρ.take 2))) : gF (M__law_numbers_of [(x0, m0), (x1, m1)]) T E := by
  unfold M__law_numbers_of
  with_reducible refine gF_mkE (c := c__law_numbers_of) ?_ ?_ h
  · rfl
  · rfl
abbrev M_is_whole : FM := MMWhole
abbrev M_check_place : FM := MM_check_place
abbrev M_ties_at : FM := MM_ties_at
abbrev M_tie_counts : FM := MM_tie_counts
abbrev M_hubs_of : FM := MM_hubs_of
abbrev M_need_hub : FM := MM_need_hub
abbrev M_sums_at : FM := MM_sums_at
abbrev M_by_hub : FM := MM_by_hub
abbrev M_numbers_in : FM := MM_numbers_in
abbrev M_unlike_by : FM := MM_unlike_by
abbrev M__law_sums_of : FM := MM__law_sums_of
abbrev M__law_unlike : FM := MM__law_unlike
abbrev e_unlike_bar_holds_1 : CE := (cCall M_is_whole (cCons (cVar 3) cNil))
abbrev e_unlike_bar_holds_2 : CE := (cBin opEq (cBin opIx (cVar 2) (cVar 4)) (cLit (.int 1)))
abbrev c_unlike_bar_holds : CS := (cSeq (cSet 2 (cCall M_tie_counts (cCons (cVar 0) cNil)))
  (cSeq (cIf (cOr (cNot (cTst (cUn (opIsi "tuple") (cVar 1)))) (cOr (cTst (cBin opNotIn (cFn fLen (cCons (cVar 1) cNil)) (cTup (cCons (cLit (.int 2)) (cCons (cLit (.int 3)) cNil))))) (cNot (cTst (cUn (opIsi "str") (cBin opIx (cVar 1) (cLit (.int 0))))))))
  (cRet (cLit (.bool false)))
  cSkip)
  (cSeq (cIf (cNot (cTst (cFn fAll (cCons (cComp (cIt (cSl (cVar 1) (cPart (cLit (.int 1))) cNoPart)) (gNm 3) tTrue e_unlike_bar_holds_1 [3]) cNil))))
  (cRet (cLit (.bool false)))
  cSkip)
  (cSeq (cIf (cAnd (cTst (cBin opEq (cBin opIx (cVar 1) (cLit (.int 0))) (cLit (.str "lone")))) (cAnd (cTst (cBin opEq (cFn fLen (cCons (cVar 1) cNil)) (cLit (.int 2)))) (cTst (cChain opLe opLt (cLit (.int 0)) (cBin opIx (cVar 1) (cLit (.int 1))) (cFn fLen (cCons (cBin opIx (cVar 0) (cLit (.int 1))) cNil))))))
  (cRet (cFn fAll (cCons (cComp (cIt (cBin opIx (cBin opIx (cVar 0) (cLit (.int 1))) (cBin opIx (cVar 1) (cLit (.int 1))))) (gNm 4) tTrue e_unlike_bar_holds_2 [4]) cNil)))
  cSkip)
  (cSeq (cIf (cAnd (cTst (cBin opEq (cBin opIx (cVar 1) (cLit (.int 0))) (cLit (.str "bare")))) (cAnd (cTst (cBin opEq (cFn fLen (cCons (cVar 1) cNil)) (cLit (.int 3)))) (cTst (cChain3 opLe opLt opLt (cLit (.int 0)) (cBin opIx (cVar 1) (cLit (.int 1))) (cBin opIx (cVar 1) (cLit (.int 2))) (cBin opIx (cVar 0) (cLit (.int 0)))))))
  (cRet (cAndV (cBin opEq (cBin opIx (cVar 2) (cBin opIx (cVar 1) (cLit (.int 1)))) (cLit (.int 0))) (cBin opEq (cBin opIx (cVar 2) (cBin opIx (cVar 1) (cLit (.int 2)))) (cLit (.int 0)))))
  cSkip)
  (cRet (cLit (.bool false))))))))
def M_unlike_bar_holds : FM := mkF 2 5 c_unlike_bar_holds
theorem in_unlike_bar_holds {x0 x1 : D} {m0 m1 : Md} {T : D → Bool → List Slot → Prop} {E : Xc → List Slot → Prop} (h : gS (c_unlike_bar_holds [some (x0, m0), some (x1, m1), none, none, none]) (fun ρ => T .none false (ρ.take 2)) (fun d fr ρ => T d fr (ρ.take 2)) (fun x ρ => E x (ρ.take 2))) : gF (M_unlike_bar_holds [(x0, m0), (x1, m1)]) T E := by
  unfold M_unlike_bar_holds
  with_reducible refine gF_mkE (c := c_unlike_bar_holds) ?_ ?_ h
  · rfl
  · rfl
abbrev b_unlike_bar_1 : CS := (cIf (cTst (cCall M_unlike_bar_holds (cCons (cVar 0) (cCons (cTup (cCons (cLit (.str "lone")) (cCons (cVar 1) cNil))) cNil))))
  (cRet (cTup (cCons (cLit (.str "lone")) (cCons (cVar 1) cNil))))
  cSkip)
abbrev e_unlike_bar_2 : CE := (cVar 3)
abbrev t_unlike_bar_3 : CB := (cTst (cBin opEq (cVar 4) (cLit (.int 0))))
abbrev c_unlike_bar : CS := (cSeq (cFor (cRng1 (cFn fLen (cCons (cBin opIx (cVar 0) (cLit (.int 1))) cNil))) (gNm 1)
  b_unlike_bar_1)
  (cSeq (cSet 2 (cComp (cEnum (cCall M_tie_counts (cCons (cVar 0) cNil))) (gTp 2 (gsCons (gNm 3) (gsCons (gNm 4) gsNil))) t_unlike_bar_3 e_unlike_bar_2 [3, 4]))
  (cSeq (cIf (cTst (cBin opGt (cFn fLen (cCons (cVar 2) cNil)) (cLit (.int 1))))
  (cRet (cTup (cCons (cLit (.str "bare")) (cCons (cBin opIx (cVar 2) (cLit (.int 0))) (cCons (cBin opIx (cVar 2) (cLit (.int 1))) cNil)))))
  cSkip)
  (cRet (cLit .none)))))
def M_unlike_bar : FM := mkF 1 5 c_unlike_bar
theorem in_unlike_bar {x0 : D} {m0 : Md} {T : D → Bool → List Slot → Prop} {E : Xc → List Slot → Prop} (h : gS (c_unlike_bar [some (x0, m0), none, none, none, none]) (fun ρ => T .none false (ρ.take 1)) (fun d fr ρ => T d fr (ρ.take 1)) (fun x ρ => E x (ρ.take 1))) : gF (M_unlike_bar [(x0, m0)]) T E := by
  unfold M_unlike_bar
  with_reducible refine gF_mkE (c := c_unlike_bar) ?_ ?_ h
  · rfl
  · rfl
abbrev c__law_right : CS := (cSeq (cSet 2 (cCall M_unlike_by (cCons (cVar 0) (cCons (cVar 1) cNil))))
  (cSeq (cIf (cOr (cTst (cBin opNe (cFn fSorted (cCons (cVar 2) cNil)) (cFn fSorted (cCons (cVar 1) cNil)))) (cNot (cTst (cCall M__law_unlike (cCons (cVar 0) (cCons (cVar 2) cNil))))))
  (cRet (cLit (.bool false)))
  cSkip)
  (cRet (cAndV (cBin opEq (cFn fSum (cCons (cCall M__law_sums_of (cCons (cVar 0) (cCons (cVar 2) cNil))) cNil)) (cBin opMul (cLit (.int 2)) (cFn fSum (cCons (cVar 1) cNil)))) (cBin opIsN (cCall M_unlike_bar (cCons (cVar 0) cNil)) (cLit .none))))))
def M__law_right : FM := mkF 2 3 c__law_right
theorem in__law_right {x0 x1 : D} {m0 m1 : Md} {T : D → Bool → List Slot → Prop} {E : Xc → List Slot → Prop} (h : gS (c__law_right [some (x0, m0), some (x1, m1), none]) (fun ρ => T .none false (ρ.take 2)) (fun d fr ρ => T d fr (ρ.take 2)) (fun x ρ => E x (ρ.take 2))) : gF (M__law_right [(x0, m0), (x1, m1)]) T E := by
  unfold M__law_right
  with_reducible refine gF_mkE (c := c__law_right) ?_ ?_ h
  · rfl
  · rfl
abbrev b__law_more_tied_1 : CS := (cIf (cTst (cBin opNotIn (cTup (cCons (cVar 1) (cCons (cVar 2) cNil))) (cBin opIx (cVar 0) (cLit (.int 1)))))
  (cRet (cTup (cCons (cBin opIx (cVar 0) (cLit (.int 0))) (cCons (cFn fTuple (cCons (cFn fSorted (cCons (cBin opAdd (cBin opIx (cVar 0) (cLit (.int 1))) (cTup (cCons (cTup (cCons (cVar 1) (cCons (cVar 2) cNil))) cNil))) cNil)) cNil)) cNil))))
  cSkip)
abbrev b__law_more_tied_2 : CS := (cFor (cRng2 (cBin opAdd (cVar 1) (cLit (.int 1))) (cBin opIx (cVar 0) (cLit (.int 0)))) (gNm 2)
  b__law_more_tied_1)
abbrev c__law_more_tied : CS := (cSeq (cFor (cRng1 (cBin opIx (cVar 0) (cLit (.int 0)))) (gNm 1)
  b__law_more_tied_2)
  (cRet (cLit .none)))
def M__law_more_tied : FM := mkF 1 3 c__law_more_tied
theorem in__law_more_tied {x0 : D} {m0 : Md} {T : D → Bool → List Slot → Prop} {E : Xc → List Slot → Prop} (h : gS (c__law_more_tied [some (x0, m0), none, none]) (fun ρ => T .none false (ρ.take 1)) (fun d fr ρ => T d fr (ρ.take 1)) (fun x ρ => E x (ρ.take 1))) : gF (M__law_more_tied [(x0, m0)]) T E := by
  unfold M__law_more_tied
  with_reducible refine gF_mkE (c := c__law_more_tied) ?_ ?_ h
  · rfl
  · rfl
abbrev M_legs_good : FM := MM_legs_good
abbrev M_kind_form : FM := MM_kind_form
abbrev M_spine_ties : FM := MM_spine_ties
abbrev M_row_ties : FM := MM_row_ties
abbrev M_kind_ties : FM := MM_kind_ties
abbrev M_kind_good : FM := MM_kind_good
abbrev M_web_for : FM := MM_web_for
abbrev M_put_in_order : FM := MM_put_in_order
abbrev M_ring_numbers : FM := MM_ring_numbers
abbrev M_row_numbers : FM := MM_row_numbers
abbrev M_unlike_for : FM := MM_unlike_for
abbrev M_are_numbers : FM := MM_are_numbers
abbrev c_sums_unlike : CS := (cRet (cBin opEq (cUn fLenSet (cCall M_sums_at (cCons (cVar 0) (cCons (cVar 1) cNil)))) (cBin opIx (cVar 0) (cLit (.int 0)))))
def M_sums_unlike : FM := mkF 2 2 c_sums_unlike
theorem in_sums_unlike {x0 x1 : D} {m0 m1 : Md} {T : D → Bool → List Slot → Prop} {E : Xc → List Slot → Prop} (h : gS (c_sums_unlike [some (x0, m0), some (x1, m1)]) (fun ρ => T .none false (ρ.take 2)) (fun d fr ρ => T d fr (ρ.take 2)) (fun x ρ => E x (ρ.take 2))) : gF (M_sums_unlike [(x0, m0), (x1, m1)]) T E := by
  unfold M_sums_unlike
  with_reducible refine gF_mkE (c := c_sums_unlike) ?_ ?_ h
  · rfl
  · rfl
abbrev c_unlike_good : CS := (cSeq (cSet 2 (cFn fLen (cCons (cBin opIx (cVar 0) (cLit (.int 1))) cNil)))
  (cSeq (cIf (cOr (cNot (cTst (cCall M_are_numbers (cCons (cVar 1) (cCons (cVar 2) cNil))))) (cTst (cBin opNe (cFn fSorted (cCons (cVar 1) cNil)) (cLstRg (cRg2 (cLit (.int 1)) (cBin opAdd (cVar 2) (cLit (.int 1))))))))
  (cRet (cLit (.bool false)))
  cSkip)
  (cRet (cCall M_sums_unlike (cCons (cVar 0) (cCons (cVar 1) cNil))))))
def M_unlike_good : FM := mkF 2 3 c_unlike_good
theorem in_unlike_good {x0 x1 : D} {m0 m1 : Md} {T : D → Bool → List Slot → Prop} {E : Xc → List Slot → Prop} (h : gS (c_unlike_good [some (x0, m0), some (x1, m1), none]) (fun ρ => T .none false (ρ.take 2)) (fun d fr ρ => T d fr (ρ.take 2)) (fun x ρ => E x (ρ.take 2))) : gF (M_unlike_good [(x0, m0), (x1, m1)]) T E := by
  unfold M_unlike_good
  with_reducible refine gF_mkE (c := c_unlike_good) ?_ ?_ h
  · rfl
  · rfl
abbrev e_law_1 : CE := (cBin opAdd (cVar 9) (cVar 5))
abbrev b_law_2 : CS := (cSeq (cSet 2 (cCall M__law_pen_of (cCons (cVar 1) cNil)))
  (cSeq (cSet 3 (cCall M__law_hub_web (cCons (cVar 2) cNil)))
  (cSeq (cSet 4 (cCall M__law_numbers_of (cCons (cVar 2) (cCons (cFn fLen (cCons (cBin opIx (cVar 3) (cLit (.int 1))) cNil)) cNil))))
  (cSeq (cSet 5 (cBin opAdd (cLit (.int 1)) (cCall M__law_draw (cCons (cVar 2) (cCons (cBin opPow (cLit (.int 10)) (cLit (.int 6))) cNil)))))
  (cSeq (cIf (cOr (cNot (cTst (cCall M__law_right (cCons (cVar 3) (cCons (cVar 4) cNil))))) (cNot (cTst (cCall M__law_right (cCons (cVar 3) (cCons (cComp (cIt (cUn fRev (cVar 4))) (gNm 9) tTrue e_law_1 [9]) cNil))))))
  (cRet (cLit (.bool false)))
  cSkip)
  (cSeq (cSet 6 (cCall M__law_more_tied (cCons (cVar 3) cNil)))
  (cSeq (cIf (cAnd (cTst (cBin opNotN (cVar 6) (cLit .none))) (cNot (cTst (cCall M__law_right (cCons (cVar 6) (cCons (cBin opAdd (cVar 4) (cLst (cCons (cBin opAdd (cBin opIx (cVar 4) (cUn opNeg (cLit (.int 1)))) (cVar 5)) cNil))) cNil))))))
  (cRet (cLit (.bool false)))
  cSkip)
  (cSeq (cSet 7 (cBin opIx (cLst (cCons (cTup (cCons (cLit (.str "ring")) (cCons (cBin opAdd (cLit (.int 3)) (cCall M__law_draw (cCons (cVar 2) (cCons (cLit (.int 38)) cNil)))) cNil))) (cCons (cTup (cCons (cLit (.str "spine")) (cCons (cBin opMulX (cTup (cCons (cLit (.int 0)) cNil)) (cBin opAdd (cLit (.int 3)) (cCall M__law_draw (cCons (cVar 2) (cCons (cLit (.int 38)) cNil))))) cNil))) cNil))) (cCall M__law_draw (cCons (cVar 2) (cCons (cLit (.int 2)) cNil)))))
  (cSeq (cSet 8 (cCall M_unlike_for (cCons (cVar 7) cNil)))
  (cSeq (cIf (cOr (cNot (cTst (cCall M_unlike_good (cCons (cCall M_web_for (cCons (cVar 7) cNil)) (cCons (cVar 8) cNil))))) (cNot (cTst (cCall M__law_unlike (cCons (cCall M_web_for (cCons (cVar 7) cNil)) (cCons (cVar 8) cNil))))))
  (cRet (cLit (.bool false)))
  cSkip)
  (cIf (cTst (cBin opNe (cFn fSorted (cCons (cVar 8) cNil)) (cLstRg (cRg2 (cLit (.int 1)) (cBin opAdd (cFn fLen (cCons (cVar 8) cNil)) (cLit (.int 1)))))))
  (cRet (cLit (.bool false)))
  cSkip)))))))))))
abbrev c_law : CS := (cSeq (cFor (cIt (cBin opAdd (cLst (cCons (cCall M__law_cell_at (cCons (cVar 0) (cCons (cLit (.int 0)) cNil))) cNil)) (cSl (cVar 0) (cPart (cLit (.int 1))) (cPart (cLit (.int 4)))))) (gNm 1)
  b_law_2)
  (cRet (cLit (.bool true))))
def M_law : FM := mkF 1 10 c_law
theorem in_law {x0 : D} {m0 : Md} {T : D → Bool → List Slot → Prop} {E : Xc → List Slot → Prop} (h : gS (c_law [some (x0, m0), none, none, none, none, none, none, none, none, none]) (fun ρ => T .none false (ρ.take 1)) (fun d fr ρ => T d fr (ρ.take 1)) (fun x ρ => E x (ρ.take 1))) : gF (M_law [(x0, m0)]) T E := by
  unfold M_law
  with_reducible refine gF_mkE (c := c_law) ?_ ?_ h
  · rfl
  · rfl
end K69
namespace K69
open PySem PySem.Spec PyProof.Rows L2 TN
/-! the sum of all sums -/
theorem sum_setK : ∀ {xs : List Int} {k : Nat} {v : Int}, k < xs.length → (xs.set k (xs.getD k 0 + v)).sum = xs.sum + v
  | [], _, _, h => by simp at h
  | x :: xs, 0, v, _ => by simp; omega
  | x :: xs, k + 1, v, h => by
    have := sum_setK (xs := xs) (k := k) (v := v) (by simpa using h)
    simp only [List.set_cons_succ, List.sum_cons, List.getD_cons_succ, this]
    omega
theorem sum_addAt {xs : List Int} {k : Nat} {v : Int} (h : k < xs.length) : (addAt xs k v).sum = xs.sum + v := sum_setK h
theorem sum_fold : ∀ (ps : List ((Nat × Nat) × Int)) (acc : List Int), (∀ p ∈ ps, p.1.1 < acc.length ∧ p.1.2 < acc.length) → (ps.foldl TN.sumStep acc).sum = acc.sum + 2 * (ps.map (·.2)).sum
  | [], _, _ => by simp
  | p :: ps, acc, h => by
    have h1 := h p (by simp)
    rw [List.foldl_cons, sum_fold ps _ (fun q hq => by rw [sumStep_len]; exact h q (by simp [hq]))]
    unfold TN.sumStep
    rw [sum_addAt (by rw [addAt_len]; exact h1.2), sum_addAt h1.1, List.map_cons, List.sum_cons]
    omega
theorem sum_sumsL {n : Nat} {ts : List (Nat × Nat)} {V : List Int} (h : ∀ t ∈ ts, t.1 < n ∧ t.2 < n) (hV : V.length = ts.length) : (sumsL n ts V).sum = 2 * V.sum := by
  unfold sumsL
  rw [sum_fold _ _ (fun p hp => by
    have := h p.1 (List.of_mem_zip hp).1
    simpa using this)]
  rw [List.map_snd_zip (by omega)]
  have : (List.replicate n (0 : Int)).sum = 0 := by
    clear h
    induction n with
    | zero => rfl
    | succ n ih => rw [List.replicate_succ, List.sum_cons, ih]; rfl
  omega
/-! a web with a hub has no bar -/
section
variable {n hb : Nat} {ts : List (Nat × Nat)}
theorem hub_tie (w : HubW n ts hb) {q : Nat} (hq : q < n) (hqh : q ≠ hb) : ∃ t ∈ ts, hasP t hb = true ∧ hasP t q = true := by
  have hm : ∀ k ∈ hubN hb ts, k < ts.length ∧ hasP (ts.getD k (0, 0)) hb = true := fun k hk => hubN_mem.mp hk
  have hnd : (hubN hb ts).Nodup := List.Pairwise.filter _ (List.nodup_range (n := ts.length))
  have h1 := oth_nd w hb hnd hm
  have hsub : ∀ x ∈ (hubN hb ts).map (othN hb ts), x < n ∧ x ≠ hb := fun x hx => by
    obtain ⟨k, hk, e⟩ := List.mem_map.mp hx
    obtain ⟨l, z⟩ := hm k hk
    have ho := other_ne (w.lt _ (get_mem l)).1 z
    have hl := w.lt _ (get_mem l)
    unfold othN at e
    constructor
    · omega
    · rw [← e]; exact ho.2.1
  by_cases hc : q ∈ (hubN hb ts).map (othN hb ts)
  · obtain ⟨k, hk, e⟩ := List.mem_map.mp hc
    obtain ⟨l, z⟩ := hm k hk
    refine ⟨_, get_mem l, z, ?_⟩
    have ho := (other_ne (w.lt _ (get_mem l)).1 z).2.2
    unfold othN at e
    rw [e] at ho
    unfold hasP
    rw [Bool.or_eq_true, beq_iff_eq, beq_iff_eq]
    rcases ho with ho | ho
    · exact .inl ho.symm
    · exact .inr ho.symm
  · exfalso
    have := nodup_le (r := q :: hb :: (hubN hb ts).map (othN hb ts)) (m := List.range n) (by
      rw [List.nodup_cons, List.nodup_cons]
      refine ⟨fun z => ?_, fun z => (hsub _ z).2 rfl, h1⟩
      rcases List.mem_cons.mp z with z | z
      · exact hqh z
      · exact hc z) (fun x hx => by
      rw [List.mem_range]
      rcases List.mem_cons.mp hx with h | h
      · omega
      · rcases List.mem_cons.mp h with h | h
        · have := w.hn; omega
        · exact (hsub x h).1)
    simp only [List.length_cons, List.length_map, List.length_range, hubN_len] at this
    have := w.dg
    omega
theorem two_in {α : Type} {l : List α} {p : α → Bool} {a b : α} (ha : a ∈ l) (hb : b ∈ l) (hne : a ≠ b) (pa : p a = true) (pb : p b = true) : 2 ≤ l.countP p := by
  rw [List.countP_eq_length_filter]
  have h1 : a ∈ l.filter p := List.mem_filter.mpr ⟨ha, pa⟩
  have h2 : b ∈ l.filter p := List.mem_filter.mpr ⟨hb, pb⟩
  match l.filter p, h1, h2 with
  | [], h, _ => cases h
  | [x], h1, h2 =>
    rw [List.mem_singleton] at h1 h2
    exact absurd (h1.trans h2.symm) hne
  | _ :: _ :: _, _, _ => simp
theorem lone_no (w : HubW n ts hb) {e : Nat × Nat} (he : e ∈ ts) : ¬(deg ts e.1 = 1 ∧ deg ts e.2 = 1) := by
  rintro ⟨h1, h2⟩
  have hd := w.dg
  have h3 := w.n3
  have hl := w.lt e he
  by_cases hh : hasP e hb = true
  · have hh2 := hh
    unfold hasP at hh2
    rw [Bool.or_eq_true, beq_iff_eq, beq_iff_eq] at hh2
    rcases hh2 with h | h
    · rw [h] at h1; omega
    · rw [h] at h2; omega
  · have hh1 : hasP e e.1 = true := by simp [hasP]
    have hne : e.1 ≠ hb := fun z => hh (z ▸ hh1)
    obtain ⟨u, hu, q1, q2⟩ := hub_tie w (q := e.1) (by omega) hne
    have := two_in (p := fun t => hasP t e.1) hu he (fun z => hh (z ▸ q1)) q2 hh1
    unfold deg at h1
    omega
theorem deg_pos (w : HubW n ts hb) {q : Nat} (hq : q < n) : 1 ≤ deg ts q := by
  by_cases h : q = hb
  · rw [h]
    have := w.dg
    have := w.n3
    omega
  · obtain ⟨u, hu, _, q2⟩ := hub_tie w hq h
    exact List.countP_pos_iff.mpr ⟨u, hu, q2⟩
end
/-! runs -/
theorem ubh_run {n hb k : Nat} {ts : List (Nat × Nat)} (h : WebOk n ts) (w : HubW n ts hb) (hk : k < ts.length) : (M_unlike_bar_holds [(webD n ts, .fz), (.tuple [.str "lone", .int (k : Nat)], .fz)]).rv = some (.bool false, false) := by
  have hc : (MM_tie_counts [(webD n ts, .fz)]).rv = some (.tuple ((lcI n ts).map .int), false) := counts_run h
  have hm := get_mem (ts := ts) hk
  have hno := lone_no w hm
  have hlt := w.lt _ hm
  have hnl := h.nl
  have hwr : (MMWhole [(.int (k : Nat), .fz)]).rv = some (.bool true, false) := whole_run (.int (k : Nat))
  have hwt := web_ties n ts
  have hln : fLen [.tuple (ts.map tieD)] = some (.val (.int (ts.length : Nat))) := by rw [fLen_t, List.length_map]
  have hix : opIx (.tuple (ts.map tieD)) (.int (k : Nat)) = some (.val (.tuple ([(ts.getD k (0, 0)).1, (ts.getD k (0, 0)).2].map fun (i : Nat) => PyData.int (i : Nat)))) := by
    rw [ix_tD (R := ts.map tieD) (k := k) (by simpa using hk)]
    simp [List.getD_eq_getElem?_getD, List.getElem?_eq_getElem hk, tieD]
  have hal : fAll [.list ([(ts.getD k (0, 0)).1, (ts.getD k (0, 0)).2].map fun (i : Nat) => PyData.bool (decide (deg ts i = 1)))] = some (.val (.bool false)) := by
    have := fAll_map [(ts.getD k (0, 0)).1, (ts.getD k (0, 0)).2] (fun i => decide (deg ts i = 1))
    rw [this]
    congr 3
    simp only [List.all_cons, List.all_nil, Bool.and_true, Bool.and_eq_false_iff, decide_eq_false_iff_not]
    by_cases z : deg ts (ts.getD k (0, 0)).1 = 1
    · exact .inr fun z2 => hno ⟨z, z2⟩
    · exact .inl z
  have i0 : opIx (.tuple [.str "lone", .int (k : Nat)]) (.int 0) = some (.val (.str "lone")) := rfl
  have i1 : opIx (.tuple [.str "lone", .int (k : Nat)]) (.int 1) = some (.val (.int (k : Nat))) := rfl
  have ti : opIsi "tuple" (.tuple [.str "lone", .int (k : Nat)]) = some (.val (.bool true)) := rfl
  have tl : fLen [.tuple [.str "lone", .int (k : Nat)]] = some (.val (.int 2)) := rfl
  have t23 : opNotIn (.int 2) (.tuple [.int 2, .int 3]) = some (.val (.bool false)) := by rfl
  have si : opIsi "str" (.str "lone") = some (.val (.bool true)) := rfl
  have sl : opSl (.tuple [.str "lone", .int (k : Nat)]) (some 1) none = some (.val (.tuple ([(k : Int)].map PyData.int))) := rfl
  have sle : opEq (.str "lone") (.str "lone") = some (.val (.bool true)) := by kernel_rfl
  have hkk : (0 : Int) ≤ (k : Nat) := by omega
  have hkl : ((k : Nat) : Int) < (ts.length : Nat) := by omega
  have al1 : fAll [.list ([(k : Int)].map fun _ => PyData.bool true)] = some (.val (.bool true)) := rfl
  have hll := lcI_len n ts
  generalize hL : ([(ts.getD k (0, 0)).1, (ts.getD k (0, 0)).2] : List Nat) = L at *
  have hLn : ∀ i ∈ L, i < n := fun i hi => by
    rw [← hL] at hi
    simp only [List.mem_cons, List.not_mem_nil, or_false] at hi
    rcases hi with rfl | rfl <;> omega
  have hLl : L.length = 2 := by rw [← hL]; rfl
  clear hno hm hlt hL
  generalize webD n ts = WD at *
  generalize ts.map tieD = TD at *
  generalize hTH : PyData.tuple [.str "lone", .int (k : Nat)] = TH at *
  with_reducible refine rv_gF (in_unlike_bar_holds ?_)
  repeat' (first | (apply gO_of ti) | (apply gO_of tl) | (apply gO_of t23) | (apply gO_of i0) | (apply gO_of si) | (apply gO_of sl) | array_mem_dec | ((with_reducible refine TN.c_rv ?_ ?_ hc ?_); exact rfl; exact rfl))
  refine TN.cp_map ([(k : Int)]) (.int) (fun _ => .bool true) rfl (by (first | omega | (simp; done) | (simp; omega))) (by (first | exact rfl | (repeat (first | exact TN.wOk_nil | ((apply TN.wOk_cons); exact rfl; (first | exact TN.okW_none | exact TN.okW_fz | exact TN.okW_jk | assumption)))))) (by (repeat (first | exact wipe_nil | apply wipe_cons | exact st0 | apply stS))) ?_ ?_
  · intro x hx
    have hwx : (MMWhole [(.int x, .fz)]).rv = some (.bool true, false) := whole_run (.int x)
    repeat' (first | array_mem_dec | ((with_reducible refine TN.c_rv ?_ ?_ hwx ?_); exact rfl; exact rfl))
    exact ⟨rfl, rfl⟩
  · repeat' (first | (apply gO_of al1) | (apply gO_of i0) | (apply gO_of sle) | (apply gO_of tl) | (apply gO_of i1) | (apply gO_of hwt) | (apply gO_of hln) | (apply gO_of hix) | (apply br_p hkk) | (apply br_p hkl) | array_mem_dec)
    refine TN.cp_map (L) (fun (i : Nat) => PyData.int (i : Nat)) (fun i => .bool (decide (deg ts i = 1))) rfl (by (first | omega | (simp; done) | (simp; omega))) (by (first | exact rfl | (repeat (first | exact TN.wOk_nil | ((apply TN.wOk_cons); exact rfl; (first | exact TN.okW_none | exact TN.okW_fz | exact TN.okW_jk | assumption)))))) (by (repeat (first | exact wipe_nil | apply wipe_cons | exact st0 | apply stS))) ?_ ?_
    · intro i hi
      have hin := hLn i hi
      have hix2 : opIx (.tuple ((lcI n ts).map .int)) (.int (i : Nat)) = some (.val (.int (deg ts i : Nat))) := by
        rw [ix_ints (by omega), lcI_get hin]
      have heq : opEq (.int (deg ts i : Nat)) (.int 1) = some (.val (.bool (decide (deg ts i = 1)))) := by
        rw [opEq_int]
        congr 3
        exact decide_eq_decide.mpr (by omega)
      repeat' (first | (apply gO_of hix2) | (apply gO_of heq) | array_mem_dec)
      exact ⟨rfl, rfl⟩
    · repeat' (first | (apply gO_of hal) | array_mem_dec)
      exact ⟨rfl, rfl⟩
theorem ubar_run {n hb : Nat} {ts : List (Nat × Nat)} (h : WebOk n ts) (w : HubW n ts hb) : (M_unlike_bar [(webD n ts, .fz)]).rv = some (.none, false) := by
  have hc : (MM_tie_counts [(webD n ts, .fz)]).rv = some (.tuple ((lcI n ts).map .int), false) := counts_run h
  have hh : ∀ k, k < ts.length → (M_unlike_bar_holds [(webD n ts, .fz), (.tuple [.str "lone", .int (k : Nat)], .fz)]).rv = some (.bool false, false) := fun k hk => ubh_run h w hk
  have hwt := web_ties n ts
  have hln : fLen [.tuple (ts.map tieD)] = some (.val (.int (ts.length : Nat))) := by rw [fLen_t, List.length_map]
  have hnl := h.nl
  have hml := h.tl
  have hll := lcI_len n ts
  have hpos : ∀ x ∈ lcI n ts, ¬ x = 0 := fun x hx z => by
    unfold lcI at hx
    obtain ⟨k, hk, e⟩ := List.mem_map.mp hx
    have := deg_pos w (List.mem_range.mp hk)
    omega
  have key : (lcI n ts).zipIdx.filterMap (fun p => if decide (p.1 = (0 : Int)) = true then some (PyData.int (p.2 : Nat)) else none) = [] := by
    rw [List.filterMap_eq_nil_iff]
    intro p hp
    have := hpos p.1 (by
      have := List.fst_mem_of_mem_zipIdx hp
      exact this)
    rw [if_neg (fun z => this (of_decide_eq_true z))]
  generalize webD n ts = WD at *
  generalize ts.map tieD = TD at *
  generalize ts.length = m at *
  with_reducible refine rv_gF (in_unlike_bar ?_)
  repeat' (first | (apply gO_of hwt) | (apply gO_of hln) | array_mem_dec)
  refine for_rng m (fun k ρ => ∃ j1, ρ = [some (WD, .fz), jk j1, none, none, none]) rfl ⟨none, rfl⟩ ?_ ?_
  · rintro k _ hk ⟨j1, rfl⟩
    have hr := hh k hk
    repeat' (first | array_mem_dec | ((with_reducible refine TN.c_rv ?_ ?_ hr ?_); exact rfl; exact rfl))
    exact ⟨some (.int (k : Nat)), rfl⟩
  · rintro _ ⟨j1, rfl⟩
    repeat' (first | array_mem_dec | ((with_reducible refine TN.c_rv ?_ ?_ hc ?_); exact rfl; exact rfl))
    refine TN.cp_enumF ((lcI n ts)) (.int) (fun k x => if decide (x = (0 : Int)) = true then some (.int (k : Nat)) else none) rfl (by (first | omega | (simp; done) | (simp; omega))) (by (first | exact rfl | (repeat (first | exact TN.wOk_nil | ((apply TN.wOk_cons); exact rfl; (first | exact TN.okW_none | exact TN.okW_fz | exact TN.okW_jk | assumption)))))) (by (repeat (first | exact wipe_nil | apply wipe_cons | exact st0 | apply stS))) ?_ ?_
    · intro k x hx
      repeat' array_mem_dec
      refine br_dec (fun q => ?_) fun q => ?_
      · repeat' array_mem_dec
        exact ⟨by rw [if_pos (decide_eq_true q)], rfl⟩
      · repeat' array_mem_dec
        exact ⟨by rw [if_neg (fun z => q (of_decide_eq_true z))], rfl⟩
    · rw [key]
      repeat' array_mem_dec
      exact ⟨rfl, rfl⟩
/-! the numbers put, of a lent list -/
theorem numin_lz {X : List Int} {m : Nat} (hl : X.length = m) (hm : m ≤ 1000) (hp : ∀ x ∈ X, 0 < x) (hn : X.Nodup) : MM_numbers_in [(.list (X.map .int), .lent), (.int (m : Nat), .fz)] = .ok (.list ((sortI X).map .int)) true [some (.list (X.map .int), .lz), some (.int (m : Nat), .fz)] := by
  have hXl : (X.map PyData.int).length = m := by rw [List.length_map, hl]
  have hls := fLenSet_l X (by omega)
  have hdd : (ddI X).length = m := by rw [← hl]; exact (dd_nd X).mpr hn
  have hso := fSorted_l X (by omega)
  have hal : fAll [.list (X.map fun _ => PyData.bool true)] = some (.val (.bool true)) := by
    have := fAll_map X (fun _ => true)
    rw [show (X.all fun _ => true) = true by simp] at this
    exact this
  rw [hdd] at hls
  have hlt : fIsLT (.list (X.map .int)) = some (.val (.bool true)) := rfl
  have hg := ex_gF (r := MM_numbers_in [(.list (X.map .int), .lent), (.int (m : Nat), .fz)]) (T := fun d fr o => d = .list ((sortI X).map .int) ∧ fr = true ∧ o = [some (.list (X.map .int), .lz), some (.int (m : Nat), .fz)]) (in_numbers_in ?_)
  · obtain ⟨d, fr, o, e, rfl, rfl, rfl⟩ := hg
    exact e
  · repeat' (first | (apply gO_of hlt) | array_mem_dec)
    refine TN.cp_map (X) (.int) (fun _ => .bool true) rfl (by (first | omega | (simp; done) | (simp; omega))) (by (first | exact rfl | (repeat (first | exact TN.wOk_nil | ((apply TN.wOk_cons); exact rfl; (first | exact TN.okW_none | exact TN.okW_fz | exact TN.okW_jk | assumption)))))) (by (repeat (first | exact wipe_nil | apply wipe_cons | exact st0 | apply stS))) ?_ ?_
    · intro x hx
      have h0 := hp x hx
      have hwr : (MMWhole [(.int x, .fz)]).rv = some (.bool true, false) := whole_run (.int x)
      repeat' (first | array_mem_dec | ((with_reducible refine TN.c_rv ?_ ?_ hwr ?_); exact rfl; exact rfl))
      exact ⟨by rw [decide_eq_true h0], rfl⟩
    · repeat' (first | (apply gO_of hal) | (apply gO_of hls) | (apply gO_of hso) | array_mem_dec)
      exact ⟨rfl, rfl, rfl⟩
end K69
namespace K69
open PySem PySem.Spec PyProof.Rows L2 TN
theorem p12 : opPow (.int 10) (.int 12) = some (.val (.int 1000000000000)) := by rfl
theorem p6 : opPow (.int 10) (.int 6) = some (.val (.int 1000000)) := by rfl
theorem numsof_run (p : Pen) {m : Nat} (hm : m ≤ 100) : ∃ (X : List Int) (p' : Pen), X.length = m ∧ (∀ x ∈ X, 0 < x) ∧ X.Pairwise (· < ·) ∧ M__law_numbers_of [(p.d, .lent), (.int (m : Nat), .fz)] = .ok (.list (X.map .int)) true [some (p'.d, .lent), some (.int (m : Nat), .fz)] := by
  have h := ex_gF (r := M__law_numbers_of [(p.d, .lent), (.int (m : Nat), .fz)]) (T := fun d fr o => ∃ (X : List Int) (p' : Pen), X.length = m ∧ (∀ x ∈ X, 0 < x) ∧ X.Pairwise (· < ·) ∧ d = .list (X.map .int) ∧ fr = true ∧ o = [some (p'.d, .lent), some (.int (m : Nat), .fz)]) (in__law_numbers_of ?_)
  · obtain ⟨d, fr, o, e, X, p', h1, h2, h3, rfl, rfl, rfl⟩ := h
    exact ⟨X, p', h1, h2, h3, e⟩
  · repeat' array_mem_dec
    refine for_rng m (fun k ρ => ∃ (q : Pen) (F : List Int) (l : Int) (j4 : Option D), F.length = k ∧ F.Pairwise (· < ·) ∧ (∀ x ∈ F, 0 < x ∧ x ≤ l) ∧ 0 ≤ l ∧ ρ = [some (q.d, .lent), some (.int (m : Nat), .fz), some (.list (F.map .int), .own), some (.int l, .fz), jk j4]) rfl ⟨p, [], 0, none, rfl, by simp, by simp, by omega, rfl⟩ ?_ ?_
    · rintro k _ hk ⟨q, F, l, j4, hF, hs, hl, h0, rfl⟩
      repeat' (first | (apply gO_of p12) | array_mem_dec)
      intro a q1 ha
      obtain ⟨s, hs0, hs1, hix⟩ : ∃ s : Int, 0 < s ∧ s < 10000000000000 ∧ opIx (.list [.int 1, .int 4, .int 1000000000000]) (.int a) = some (.val (.int s)) := by
        have : a = 0 ∨ a = 1 ∨ a = 2 := by omega
        rcases this with rfl | rfl | rfl
        · exact ⟨1, by omega, by omega, rfl⟩
        · exact ⟨4, by omega, by omega, rfl⟩
        · exact ⟨1000000000000, by omega, by omega, rfl⟩
      repeat' (first | (apply gO_of hix) | array_mem_dec)
      intro b q2 hb
      have hFl : (F.map PyData.int).length ≤ 100 := by simp; omega
      repeat' array_mem_dec
      refine ⟨q2, F ++ [l + 1 + b], l + 1 + b, some (.int (k : Nat)), by simp [hF], ?_, ?_, by omega, by rw [List.map_append]; rfl⟩
      · rw [List.pairwise_append]
        refine ⟨hs, by simp, fun x hx y hy => ?_⟩
        have := hl x hx
        have : y = l + 1 + b := by simpa using hy
        omega
      · intro x hx
        rcases List.mem_append.mp hx with hx | hx
        · have := hl x hx; omega
        · have : x = l + 1 + b := by simpa using hx
          omega
    · rintro _ ⟨q, F, l, j4, hF, hs, hl, h0, rfl⟩
      repeat' array_mem_dec
      exact ⟨F, q, hF, fun x hx => (hl x hx).1, hs, rfl, rfl, rfl⟩
/-! one tie more -/
theorem shaped_tie (e : Nat × Nat) : SeqAt.shaped (tieD e) = true := by
  simp [SeqAt.shaped, tieD, PyData.canLay0, PyData.canLayAll0, PyData.depth, PyData.depthAll]
theorem notin_ties (ts : List (Nat × Nat)) (e : Nat × Nat) : opNotIn (tieD e) (.tuple (ts.map tieD)) = some (.val (.bool (!decide (e ∈ ts)))) := by
  have h1 := shaped_tie e
  have h2 := shaped_tiesTL ts
  have h3 : ((ts.map tieD).any fun z => PyData.eqv z (tieD e)) = decide (e ∈ ts) := by
    rw [Bool.eq_iff_iff, List.any_eq_true, decide_eq_true_eq]
    constructor
    · rintro ⟨z, hz, q⟩
      obtain ⟨t, ht, rfl⟩ := List.mem_map.mp hz
      rw [eqv_tie, decide_eq_true_eq] at q
      exact q ▸ ht
    · exact fun h => ⟨tieD e, List.mem_map.mpr ⟨e, h, rfl⟩, by rw [eqv_tie]; exact decide_eq_true rfl⟩
  unfold opNotIn
  simp only [seqOf, h1, h2, h3, and_self, if_true]
theorem more_run {n : Nat} {ts : List (Nat × Nat)} (hn : n ≤ 100) (hl : ts.length ≤ 100) : ∃ d, (M__law_more_tied [(webD n ts, .fz)]).rv = some (d, false) ∧ (d = .none ∨ ∃ e : Nat × Nat, e ∉ ts ∧ e.1 < e.2 ∧ e.2 < n ∧ d = webD n (sortT (ts ++ [e]))) := by
  have hg := ex_gF (r := M__law_more_tied [(webD n ts, .fz)]) (T := fun d fr o => fr = false ∧ (d = .none ∨ ∃ e : Nat × Nat, e ∉ ts ∧ e.1 < e.2 ∧ e.2 < n ∧ d = webD n (sortT (ts ++ [e])))) (in__law_more_tied ?_)
  · obtain ⟨d, fr, o, e, rfl, h⟩ := hg
    exact ⟨d, by rw [e]; rfl, h⟩
  · have hwn := web_n n ts
    have hwt := web_ties n ts
    have hso : ∀ e : Nat × Nat, fSorted [.tuple ((ts ++ [e]).map tieD)] = some (.tmp (.list ((sortT (ts ++ [e])).map tieD))) := fun e => sortT_run (ts ++ [e]) (by simp; omega)
    have had : ∀ a b : Nat, opAdd (.tuple (ts.map tieD)) (.tuple [.tuple [.int (a : Nat), .int (b : Nat)]]) = some (.val (.tuple ((ts ++ [(a, b)]).map tieD))) := fun a b => by
      rw [opAdd_t, if_pos (by simp; omega), List.map_append]; rfl
    have hni : ∀ a b : Nat, opNotIn (.tuple [.int (a : Nat), .int (b : Nat)]) (.tuple (ts.map tieD)) = some (.val (.bool (!decide ((a, b) ∈ ts)))) := fun a b => notin_ties ts (a, b)
    generalize hWD : webD n ts = WD at *
    generalize hTD : ts.map tieD = TD at *
    repeat' (first | (apply gO_of hwn) | array_mem_dec)
    refine for_rng n (fun k ρ => ∃ j1 j2, ρ = [some (WD, .fz), jk j1, jk j2]) rfl ⟨none, none, rfl⟩ ?_ ?_
    · rintro a _ ha ⟨j1, j2, rfl⟩
      repeat' (first | (apply gO_of hwn) | array_mem_dec)
      refine for_rng2 (a + 1) (n - (a + 1)) (fun k ρ => ∃ j2, ρ = [some (WD, .fz), some (.int (a : Nat), .fz), jk j2]) (by omega) (by omega) ⟨j2, rfl⟩ ?_ ?_
      · rintro k _ hk ⟨j2, rfl⟩
        have h1 := hni a (a + 1 + k)
        have h2 := had a (a + 1 + k)
        have h3 := hso (a, a + 1 + k)
        by_cases he : (a, a + 1 + k) ∈ ts
        · rw [decide_eq_true he] at h1
          repeat' (first | (apply gO_of hwt) | (apply gO_of h1) | array_mem_dec)
          exact ⟨some (.int ((a + 1 + k : Nat) : Int)), rfl⟩
        · rw [decide_eq_false he] at h1
          repeat' (first | (apply gO_of hwt) | (apply gO_of h1) | (apply gO_of hwn) | (apply gO_of h2) | (apply gO_of h3) | array_mem_dec)
          exact ⟨rfl, .inr ⟨(a, a + 1 + k), he, by simp only; omega, by simp only; omega, rfl⟩⟩
      · rintro _ ⟨j2, rfl⟩
        exact ⟨some (.int (a : Nat)), j2, rfl⟩
    · rintro _ ⟨j1, j2, rfl⟩
      repeat' array_mem_dec
      exact ⟨rfl, .inl rfl⟩
/-! the law's look at what is put -/
structure HubIn (n : Nat) (ts : List (Nat × Nat)) : Prop where
  w : WebOk n ts
  h3 : 3 ≤ n
  lt : ∀ t ∈ ts, t.1 < t.2 ∧ t.2 < n
  nd : ts.Nodup
  ne : hubL n ts ≠ []
  tl : ts.length ≤ 100
theorem HubIn.hub {n : Nat} {ts : List (Nat × Nat)} (h : HubIn n ts) : ∃ hb, HubW n ts hb := by
  cases e : hubL n ts with
  | nil => exact absurd e h.ne
  | cons a r => exact ⟨a, HubW.of h.h3 h.lt h.nd e⟩
theorem unby_lz {n : Nat} {ts : List (Nat × Nat)} (h : WebOk n ts) (h3 : 3 ≤ n) (lt : ∀ t ∈ ts, t.1 < t.2 ∧ t.2 < n) (nd : ts.Nodup) (hne : hubL n ts ≠ []) {X : List Int} (hX : X.length = ts.length) (hp : ∀ x ∈ X, 0 < x) (hn : X.Nodup) (hm : ts.length ≤ 900) :
    ∃ V : List Int, V.length = ts.length ∧ V.Perm X ∧ (sumsL n ts V).Nodup ∧ MM_unlike_by [(webD n ts, .fz), (.list (X.map .int), .lent)] = .ok (.tuple (V.map .int)) false [some (webD n ts, .fz), some (.list (X.map .int), .lz)] := by
  obtain ⟨hb, r, hh⟩ : ∃ hb r, hubL n ts = hb :: r := by
    cases e : hubL n ts with
    | nil => exact absurd e hne
    | cons a r => exact ⟨a, r, rfl⟩
  have w := HubW.of h3 lt nd hh
  have hsp := sortI_perm X
  have hsl : (sortI X).length = ts.length := by rw [hsp.length_eq, hX]
  have hsn : (sortI X).Nodup := hsp.nodup_iff.mpr hn
  have hsp2 : ∀ x ∈ sortI X, 0 < x := fun x hx => hp x (hsp.mem_iff.mp hx)
  have hss : (sortI X).Pairwise (· < ·) := by
    have h1 := sortI_pw X
    have h2 : (sortI X).Pairwise (· ≠ ·) := hsn
    exact List.Pairwise.imp₂ (fun a b hab hne => by omega) h1 h2
  obtain ⟨W, L, hWl, hW, hL, hKn, hKl, hKc, hV, hN⟩ := hub_unlike w hsl hss hsp2
  have hR := byhub_run h hsl hm hWl hW (fun t ht hc => by
    have h1 := lt t ht
    have h2 := other_ne h1.1 hc
    omega) hL hKn hKl hKc
  have h1 := need_run h h3 hh
  have h2 := numin_lz hX (by omega) hp hn
  have hR2 : (MM_by_hub [(webD n ts, .fz), (.int (hb : Nat), .fz), (.list ((sortI X).map .int), .fz)]).rv = some (.tuple (((List.range ts.length).map (lk0 (byE hb ts (sortI X) L))).map .int), false) := by
    rw [List.map_map]
    exact hR
  have hwt := web_ties n ts
  have hln : fLen [.tuple (ts.map tieD)] = some (.val (.int (ts.length : Nat))) := by rw [fLen_t, List.length_map]
  refine ⟨(List.range ts.length).map (lk0 (byE hb ts (sortI X) L)), by simp, hV.trans hsp, hN, ?_⟩
  generalize ((List.range ts.length).map (lk0 (byE hb ts (sortI X) L))).map PyData.int = VD at *
  generalize (sortI X).map PyData.int = SD at *
  generalize X.map PyData.int = XD at *
  generalize webD n ts = WD at *
  generalize ts.map tieD = TD at *
  have hg := ex_gF (r := MM_unlike_by [(WD, .fz), (.list XD, .lent)]) (T := fun d fr o => d = .tuple VD ∧ fr = false ∧ o = [some (WD, .fz), some (.list XD, .lz)]) (in_unlike_by ?_)
  · obtain ⟨d, fr, o, e, rfl, rfl, rfl⟩ := hg
    exact e
  · repeat' (first | (apply gO_of hwt) | (apply gO_of hln) | array_mem_dec | ((with_reducible refine TN.c_rv ?_ ?_ h1 ?_); exact rfl; exact rfl))
    refine c_genT (ρ1 := [some (WD, .fz), some (.list XD, .lz), some (.int (hb : Nat), .fz)]) rfl rfl h2 rfl ?_
    repeat' (first | array_mem_dec | ((with_reducible refine TN.c_rv ?_ ?_ hR2 ?_); exact rfl; exact rfl))
    exact ⟨rfl, rfl, rfl⟩
theorem right_lz {n : Nat} {ts : List (Nat × Nat)} (h : HubIn n ts) {X : List Int} (hX : X.length = ts.length) (hp : ∀ x ∈ X, 0 < x) (hn : X.Nodup) :
    M__law_right [(webD n ts, .fz), (.list (X.map .int), .lent)] = .ok (.bool true) false [some (webD n ts, .fz), some (.list (X.map .int), .lz)] := by
  have htl := h.tl
  obtain ⟨hb, w⟩ := h.hub
  obtain ⟨V, v1, v2, v3, u1⟩ := unby_lz h.w h.h3 h.lt h.nd h.ne hX hp hn (by omega)
  have hun := lun_run h.w v1 v3
  have hls : (MM__law_sums_of [(webD n ts, .fz), (.tuple (V.map .int), .fz)]).rv = some (.list ((sumsL n ts V).map .int), true) := lsat_run h.w v1
  have hub := ubar_run h.w w
  have hsV := fSorted_t V (by omega)
  have hsX := fSorted_l X (by omega)
  have hse : sortI V = sortI X := (sortI_iff (sortI_pw X)).mpr (v2.trans (sortI_perm X).symm)
  rw [hse] at hsV
  have ne1 := opNe_ints (sortI X) (sortI X)
  rw [decide_eq_true rfl] at ne1
  have hs1 := fSum_l (sumsL n ts V)
  have hs2 := fSum_l X
  rw [sum_sumsL (fun t ht => by have := h.lt t ht; omega) v1, sum_perm v2] at hs1
  have hmu : opMul (.int 2) (.int X.sum) = some (.val (.int (2 * X.sum))) := opMul_ii (by omega)
  have heq : opEq (.int (2 * X.sum)) (.int (2 * X.sum)) = some (.val (.bool true)) := by rw [opEq_int, decide_eq_true rfl]
  have his : opIsN .none .none = some (.val (.bool true)) := rfl
  have hne : opNe (.list ((sortI X).map .int)) (.list ((sortI X).map .int)) = some (.val (.bool false)) := ne1
  generalize (sumsL n ts V).map PyData.int = SD at *
  generalize V.map PyData.int = VD at *
  generalize (sortI X).map PyData.int = OD at *
  generalize X.map PyData.int = XD at *
  generalize webD n ts = WD at *
  generalize 2 * X.sum = z at *
  have hg := ex_gF (r := M__law_right [(WD, .fz), (.list XD, .lent)]) (T := fun d fr o => d = .bool true ∧ fr = false ∧ o = [some (WD, .fz), some (.list XD, .lz)]) (in__law_right ?_)
  · obtain ⟨d, fr, o, e, rfl, rfl, rfl⟩ := hg
    exact e
  · repeat' array_mem_dec
    refine c_gen (ρ1 := [some (WD, .fz), some (.list XD, .lz), none]) rfl rfl u1 rfl ?_
    repeat' (first | (apply gO_of hsV) | (apply gO_of hsX) | (apply gO_of hne) | (apply gO_of hs1) | (apply gO_of hs2) | (apply gO_of hmu) | (apply gO_of heq) | (apply gO_of his) | array_mem_dec | ((with_reducible refine TN.c_rv ?_ ?_ hun ?_); exact rfl; exact rfl) | ((with_reducible refine TN.c_rvT ?_ ?_ hls ?_); exact rfl; exact rfl) | ((with_reducible refine TN.c_rv ?_ ?_ hub ?_); exact rfl; exact rfl))
    exact ⟨rfl, rfl, rfl⟩
theorem right_fz {n : Nat} {ts : List (Nat × Nat)} (h : HubIn n ts) {X : List Int} (hX : X.length = ts.length) (hp : ∀ x ∈ X, 0 < x) (hn : X.Nodup) :
    (M__law_right [(webD n ts, .fz), (.list (X.map .int), .fz)]).rv = some (.bool true, false) := by
  have htl := h.tl
  obtain ⟨hb, w⟩ := h.hub
  obtain ⟨V, v1, v2, v3, u1, _⟩ := unby_any h.w h.h3 h.lt h.nd h.ne hX hp hn (by omega)
  have hun := lun_run h.w v1 v3
  have hls : (MM__law_sums_of [(webD n ts, .fz), (.tuple (V.map .int), .fz)]).rv = some (.list ((sumsL n ts V).map .int), true) := lsat_run h.w v1
  have hub := ubar_run h.w w
  have hsV := fSorted_t V (by omega)
  have hsX := fSorted_l X (by omega)
  have hse : sortI V = sortI X := (sortI_iff (sortI_pw X)).mpr (v2.trans (sortI_perm X).symm)
  rw [hse] at hsV
  have ne1 := opNe_ints (sortI X) (sortI X)
  rw [decide_eq_true rfl] at ne1
  have hs1 := fSum_l (sumsL n ts V)
  have hs2 := fSum_l X
  rw [sum_sumsL (fun t ht => by have := h.lt t ht; omega) v1, sum_perm v2] at hs1
  have hmu : opMul (.int 2) (.int X.sum) = some (.val (.int (2 * X.sum))) := opMul_ii (by omega)
  have heq : opEq (.int (2 * X.sum)) (.int (2 * X.sum)) = some (.val (.bool true)) := by rw [opEq_int, decide_eq_true rfl]
  have his : opIsN .none .none = some (.val (.bool true)) := rfl
  have hne : opNe (.list ((sortI X).map .int)) (.list ((sortI X).map .int)) = some (.val (.bool false)) := ne1
  generalize (sumsL n ts V).map PyData.int = SD at *
  generalize V.map PyData.int = VD at *
  generalize (sortI X).map PyData.int = OD at *
  generalize X.map PyData.int = XD at *
  generalize webD n ts = WD at *
  generalize 2 * X.sum = z at *
  with_reducible refine rv_gF (in__law_right ?_)
  repeat' (first | (apply gO_of hsV) | (apply gO_of hsX) | (apply gO_of hne) | (apply gO_of hs1) | (apply gO_of hs2) | (apply gO_of hmu) | (apply gO_of heq) | (apply gO_of his) | array_mem_dec | ((with_reducible refine TN.c_rv ?_ ?_ u1 ?_); exact rfl; exact rfl) | ((with_reducible refine TN.c_rv ?_ ?_ hun ?_); exact rfl; exact rfl) | ((with_reducible refine TN.c_rvT ?_ ?_ hls ?_); exact rfl; exact rfl) | ((with_reducible refine TN.c_rv ?_ ?_ hub ?_); exact rfl; exact rfl))
  all_goals exact ⟨rfl, rfl⟩
/-- a web with a hub and one tie more -/
theorem HubIn.more {n : Nat} {ts : List (Nat × Nat)} (h : HubIn n ts) (hl : ts.length < 100) {e : Nat × Nat} (he : e ∉ ts) (h1 : e.1 < e.2) (h2 : e.2 < n) : HubIn n (sortT (ts ++ [e])) := by
  obtain ⟨hb, w⟩ := h.hub
  have hp := sortT_perm (ts ++ [e])
  have hlen : (sortT (ts ++ [e])).length = ts.length + 1 := by rw [hp.length_eq]; simp
  have lt : ∀ t ∈ sortT (ts ++ [e]), t.1 < t.2 ∧ t.2 < n := fun t ht => by
    rcases List.mem_append.mp (hp.mem_iff.mp ht) with z | z
    · exact h.lt t z
    · have : t = e := by simpa using z
      rw [this]; exact ⟨h1, h2⟩
  have nd : (sortT (ts ++ [e])).Nodup := by
    rw [hp.nodup_iff, List.nodup_append]
    refine ⟨h.nd, by simp, fun a ha b hb q => he ?_⟩
    have : b = e := by simpa using hb
    rw [← this, ← q]; exact ha
  have hnl := h.w.nl
  refine ⟨⟨h.w.n1, h.w.nl, by omega, fun t ht => by have := lt t ht; omega⟩, h.h3, lt, nd, ?_, by omega⟩
  have hd : deg (ts ++ [e]) hb = deg ts hb := by
    rw [deg_snoc]
    by_cases hc : hasP e hb = true
    · exfalso
      have ho := other_ne h1 hc
      have hq : e.1 + e.2 - hb < n := by omega
      obtain ⟨t, ht, q1, q2⟩ := hub_tie w hq ho.2.1
      have hlt := h.lt t ht
      refine he ?_
      have : t = e := same_tie hlt.1 h1 q1 hc (by
        have ho2 := other_ne hlt.1 q1
        unfold hasP at q2
        rw [Bool.or_eq_true, beq_iff_eq, beq_iff_eq] at q2
        omega)
      rw [← this]; exact ht
    · rw [if_neg hc]; rfl
  rw [hubL_B, hub_perm hp]
  intro z
  have : hb ∈ hubB n (ts ++ [e]) := by
    unfold hubB
    rw [List.mem_filter, List.mem_range]
    exact ⟨w.hn, decide_eq_true (by rw [hd]; exact w.dg)⟩
  rw [z] at this
  cases this
end K69
namespace K69
open PySem PySem.Spec PyProof.Rows L2 TN
theorem satT_run {n : Nat} {ts : List (Nat × Nat)} (h : WebOk n ts) {V : List Int} (hV : V.length = ts.length) : (MM_sums_at [(webD n ts, .fz), (.tuple (V.map .int), .fz)]).rv = some (.list ((sumsL n ts V).map .int), true) := by
  have hnl := h.nl
  have h0 := rep0 h.nl
  have hz := zipD_ts ts V
  have hzm : ∀ p ∈ ts.zip V, p.1.1 < n ∧ p.1.2 < n := fun p hp => h.lt p.1 (List.of_mem_zip hp).1
  unfold sumsL
  generalize ts.zip V = Z at *
  with_reducible refine rv_gF (in_sums_at ?_)
  repeat' (first | (apply gO_of h0) | (apply w_zipM) | array_mem_dec)
  rw [hz]
  refine for_inv Z (fun p => .tuple [tieD p.1, .int p.2]) (fun pre ρ => ∃ j3 j4 j5, ρ = [some (webD n ts, .fz), some (.tuple (V.map .int), .fz), some (.list ((pre.foldl TN.sumStep (List.replicate n 0)).map .int), .own), jk j3, jk j4, jk j5]) rfl ⟨none, none, none, rfl⟩ ?_ ?_
  · rintro pre p post _ hE ⟨j3, j4, j5, rfl⟩
    obtain ⟨l1, l2⟩ := hzm p (by rw [hE]; simp)
    have hal : (pre.foldl TN.sumStep (List.replicate n 0)).length = n := by rw [sumFold_len]; simp
    rw [List.foldl_append]
    generalize pre.foldl TN.sumStep (List.replicate n 0) = A at *
    have i1 : opIx (.list (A.map .int)) (.int (p.1.1 : Nat)) = some (.val (.int (A.getD p.1.1 0))) := ix_intsL (by omega)
    have p1 : putA (.list (A.map .int)) (.int (p.1.1 : Nat)) (.int (A.getD p.1.1 0 + p.2)) = some (.list ((addAt A p.1.1 p.2).map .int)) := put_i (by omega) _
    have hbl := addAt_len A p.1.1 p.2
    have e1 : List.foldl TN.sumStep A [p] = addAt (addAt A p.1.1 p.2) p.1.2 p.2 := rfl
    rw [e1]
    generalize addAt A p.1.1 p.2 = Bq at *
    have i2 : opIx (.list (Bq.map .int)) (.int (p.1.2 : Nat)) = some (.val (.int (Bq.getD p.1.2 0))) := ix_intsL (by omega)
    have p2 : putA (.list (Bq.map .int)) (.int (p.1.2 : Nat)) (.int (Bq.getD p.1.2 0 + p.2)) = some (.list ((addAt Bq p.1.2 p.2).map .int)) := put_i (by omega) _
    generalize (addAt Bq p.1.2 p.2).map PyData.int = CD at *
    generalize Bq.map PyData.int = BD at *
    generalize A.map PyData.int = AD at *
    repeat' (first | (apply put_rfl p1) | (apply put_rfl p2) | array_mem_dec)
    exact ⟨some (.int p.2), some (.int (p.1.1 : Nat)), some (.int (p.1.2 : Nat)), rfl⟩
  · rintro _ ⟨j3, j4, j5, rfl⟩
    repeat' array_mem_dec
    exact ⟨rfl, rfl⟩
theorem sunl_run {n : Nat} {ts : List (Nat × Nat)} (h : WebOk n ts) {V : List Int} (hV : V.length = ts.length) (hn : (sumsL n ts V).Nodup) : (M_sums_unlike [(webD n ts, .fz), (.tuple (V.map .int), .fz)]).rv = some (.bool true, false) := by
  have hs := satT_run h hV
  have hnl := h.nl
  have hls := fLenSet_l (sumsL n ts V) (by rw [sumsL_len]; omega)
  rw [(dd_nd _).mpr hn, sumsL_len] at hls
  have hwn := web_n n ts
  have heq : opEq (.int (n : Nat)) (.int (n : Nat)) = some (.val (.bool true)) := by rw [opEq_int, decide_eq_true rfl]
  generalize (sumsL n ts V).map PyData.int = SD at *
  generalize V.map PyData.int = VD at *
  generalize webD n ts = WD at *
  with_reducible refine rv_gF (in_sums_unlike ?_)
  repeat' (first | (apply gO_of hls) | (apply gO_of hwn) | (apply gO_of heq) | array_mem_dec | ((with_reducible refine TN.c_rvT ?_ ?_ hs ?_); exact rfl; exact rfl))
  all_goals exact ⟨rfl, rfl⟩
theorem ugood_run {n : Nat} {ts : List (Nat × Nat)} (h : WebOk n ts) {V : List Int} (hV : V.length = ts.length) (hp : V.Perm (rgI 1 ((ts.length : Int) + 1))) (hn : (sumsL n ts V).Nodup) : (M_unlike_good [(webD n ts, .fz), (.tuple (V.map .int), .fz)]).rv = some (.bool true, false) := by
  have htl := h.tl
  have hs := sunl_run h hV hn
  have hno : (MM_are_numbers [(.tuple (V.map .int), .fz), (.int (ts.length : Nat), .fz)]).rv = some (.bool true, false) := by
    rw [TN.nums_run _ (by omega)]
    have : numsOk (.tuple (V.map .int)) ts.length = true := by
      unfold numsOk
      rw [Bool.and_eq_true]
      refine ⟨decide_eq_true (by rw [List.length_map, hV]), ?_⟩
      rw [List.all_map, List.all_eq_true]
      exact fun _ _ => rfl
    rw [this]
  have hwt := web_ties n ts
  have hln : fLen [.tuple (ts.map tieD)] = some (.val (.int (ts.length : Nat))) := by rw [fLen_t, List.length_map]
  have hso := fSorted_t V (by omega)
  rw [(sortI_iff (rgI_pw _ _)).mpr hp] at hso
  have hne := opNe_ints (rgI 1 ((ts.length : Int) + 1)) (rgI 1 ((ts.length : Int) + 1))
  rw [decide_eq_true rfl] at hne
  generalize V.map PyData.int = VD at *
  generalize webD n ts = WD at *
  generalize ts.map tieD = TD at *
  with_reducible refine rv_gF (in_unlike_good ?_)
  repeat' (first | (apply gO_of hwt) | (apply gO_of hln) | (apply gO_of hso) | (apply gO_of hne) | array_mem_dec | ((with_reducible refine TN.c_rv ?_ ?_ hno ?_); exact rfl; exact rfl) | ((with_reducible refine TN.c_rv ?_ ?_ hs ?_); exact rfl; exact rfl))
  all_goals exact ⟨rfl, rfl⟩
theorem rp69 {k : Nat} (h2 : 2 ≤ k) (h : k ≤ 1000) : opMulX (.tuple [.int 0]) (.int (k : Nat)) = some (.val (.tuple (lg (List.replicate k 0)))) := by
  have e : (List.replicate ((k : Int).toNat) [PyData.int 0]).flatten = lg (List.replicate k 0) := by
    rw [Int.toNat_natCast]
    unfold lg
    rw [List.map_replicate]
    clear h h2
    induction k with
    | zero => rfl
    | succ n ih => rw [List.replicate_succ, List.flatten_cons, ih, List.replicate_succ]; rfl
  show (if (k : Int) = 1 then _ else if [PyData.int 0] ≠ [] ∧ 2 ≤ (k : Int) ∧ (k : Int) ≤ 1000 ∧ [PyData.int 0].length ≤ 1000 then some (Pl.val (.tuple (List.replicate (k : Int).toNat [PyData.int 0]).flatten)) else none) = _
  rw [if_neg (by omega), if_pos ⟨by simp, by omega, by omega, by simp⟩, e]
def Unl (k : Kd) : Prop := KdOk k ∧ ∃ d, (MM_unlike_for [(kdD k, .fz)]).rv = some (d, false) ∧ UnlD (kdN k) (sortT (kdT k)) d
theorem unl_ring {n : Nat} (h3 : 3 ≤ n) (h : n ≤ 40) : Unl (.ring n) := ⟨⟨h3, h⟩, unlf_ring ⟨h3, h⟩⟩
theorem unl_row {m : Nat} (h3 : 3 ≤ m) (h : m ≤ 40) : Unl (.spine (List.replicate m 0)) := by
  have hk : KdOk (.spine (List.replicate m 0)) := by simp [KdOk]; omega
  refine ⟨hk, ?_⟩
  have := unlf_row hk (fun x hx => List.eq_of_mem_replicate hx) (by simpa using h3)
  rwa [show kdN (.spine (List.replicate m 0)) = (List.replicate m 0).length by simp [kdN]]
theorem kind_facts {k : Kd} (h : Unl k) : ∃ (WD : D) (VD : List D) (m : Nat), m ≤ 100 ∧ (MM_unlike_for [(kdD k, .fz)]).rv = some (.tuple VD, false) ∧ (MM_web_for [(kdD k, .fz)]).rv = some (WD, false) ∧ (M_unlike_good [(WD, .fz), (.tuple VD, .fz)]).rv = some (.bool true, false) ∧ (MM__law_unlike [(WD, .fz), (.tuple VD, .fz)]).rv = some (.bool true, false) ∧
    fSorted [.tuple VD] = some (.tmp (.list ((rgI 1 ((m : Int) + 1)).map .int))) ∧ fLen [.tuple VD] = some (.val (.int (m : Nat))) ∧ opNe (.list ((rgI 1 ((m : Int) + 1)).map .int)) (.list ((rgI 1 ((m : Int) + 1)).map .int)) = some (.val (.bool false)) := by
  obtain ⟨hk, d, hu, V, rfl, v1, v2, v3⟩ := h
  have hw := kd_web hk
  have hl := kdT_len60 hk
  have hso := fSorted_t V (by omega)
  rw [(sortI_iff (rgI_pw _ _)).mpr v2] at hso
  have hne := opNe_ints (rgI 1 (((sortT (kdT k)).length : Int) + 1)) (rgI 1 (((sortT (kdT k)).length : Int) + 1))
  rw [decide_eq_true rfl] at hne
  exact ⟨kdWeb k, V.map .int, (sortT (kdT k)).length, by omega, hu, webfor_run hk, ugood_run hw.ok v1 v2 v3, lun_run hw.ok v1 v3, hso, by rw [fLen_t, List.length_map, v1], hne⟩
theorem law_true : ∀ ns : List Int, ns.length ≤ 63 → ∃ outs, M_law [(.list (ns.map PyData.int), .fz)] = .ok (.bool true) false outs := by
  intro ns hn
  with_reducible refine FR.rv_ok (rv_gF (in_law ?_))
  generalize hsc : (some (.list (ns.map PyData.int), .fz) : Slot) = sc
  repeat' (first | (refine s_for (gE_ok (cells_it 4 (by rw [← hsc]; rfl) hn) ?_)) | array_mem_dec)
  refine for_inv (cellAt ns 0 :: (ns.take 4).drop 1) PyData.int (fun _ ρ => ∃ j1 s2 j3 j4 j5 j6 j7 j8 j9, okS s2 ∧ ρ = [sc, jk j1, s2, jk j3, jk j4, jk j5, jk j6, jk j7, jk j8, jk j9]) rfl ⟨none, none, none, none, none, none, none, none, none, trivial, rfl⟩ ?_ ?_
  · rintro pre c post _ hE ⟨j1, s2, j3, j4, j5, j6, j7, j8, j9, o2, rfl⟩
    repeat' array_mem_dec
    intro p1
    obtain ⟨n, ts, p2, hw, h3, h11, hm1, hne, hr1⟩ := hubweb_run p1
    have hok := hw.ok
    have htl := hw.tl
    have H : HubIn n ts := ⟨hok, h3, hw.lt, hw.nd, hne, by omega⟩
    obtain ⟨X, p3, hX, hpos, hpw, hr2⟩ := numsof_run p2 (m := ts.length) (by omega)
    have hnd : X.Nodup := hpw.imp (fun {a b} h => by omega)
    have r1 := right_lz H hX hpos hnd
    have hln : fLen [.tuple (ts.map tieD)] = some (.val (.int (ts.length : Nat))) := by rw [fLen_t, List.length_map]
    have hwt := web_ties n ts
    have r2 : ∀ v : Int, 0 < v → (M__law_right [(webD n ts, .fz), (.list ((X.reverse.map fun x => x + v).map .int), .fz)]).rv = some (.bool true, false) := fun v hv => by
      refine right_fz H (by simp [hX]) (fun x hx => ?_) ?_
      · obtain ⟨y, hy, rfl⟩ := List.mem_map.mp hx
        have := hpos y (List.mem_reverse.mp hy)
        omega
      · refine List.Pairwise.map _ (fun a b hab e => hab (by omega)) ((List.reverse_perm X).nodup_iff.mpr hnd)
    have er : ∀ v : Int, X.reverse.map (fun x => PyData.int (x + v)) = (X.reverse.map fun x => x + v).map .int := fun v => by rw [List.map_map]; rfl
    have hrev : fRev (.list (X.map .int)) = some (.tmp (.list (X.reverse.map .int))) := by
      show some (Pl.tmp (.list (X.map PyData.int).reverse)) = _
      rw [List.map_reverse]
    have hXl : X.reverse.length ≤ 1000 := by simp; omega
    obtain ⟨wd, mr1, mr2⟩ := more_run (n := n) (ts := ts) (by omega) (by omega)
    have hlast : opIx (.list (X.map .int)) (.int (-1)) = some (.val (.int (X.getD (X.length - 1) 0))) := ix_last (by omega)
    have hng : opNeg (.int 1) = some (.val (.int (-1))) := rfl
    have wide : ∀ v : Int, 0 < v → (wd = .none ∨ (opNotN wd .none = some (.val (.bool true)) ∧ (M__law_right [(wd, .fz), (.list ((X ++ [X.getD (X.length - 1) 0 + v]).map .int), .fz)]).rv = some (.bool true, false))) := fun v hv => by
      rcases mr2 with h | ⟨e, he, h1, h2, rfl⟩
      · exact .inl h
      · refine .inr ⟨rfl, right_fz (H.more (by omega) he h1 h2) (by rw [(sortT_perm _).length_eq]; simp [hX]) (fun x hx => ?_) ?_⟩
        · rcases List.mem_append.mp hx with z | z
          · exact hpos x z
          · have : x = X.getD (X.length - 1) 0 + v := by simpa using z
            have := hpos _ (getD_mem (X := X) (i := X.length - 1) (by omega))
            omega
        · rw [List.nodup_append]
          refine ⟨hnd, by simp, fun a ha b hb q => ?_⟩
          have hb : b = X.getD (X.length - 1) 0 + v := by simpa using hb
          obtain ⟨i, hi, e⟩ := List.getElem_of_mem ha
          have e2 : X.getD i 0 = a := by rw [List.getD_eq_getElem?_getD, List.getElem?_eq_getElem hi, Option.getD_some, e]
          by_cases hc : i = X.length - 1
          · rw [← hc] at hb; omega
          · have := pw_get hpw 0 (i := i) (j := X.length - 1) (by omega) (by omega)
            omega
    have had : ∀ z : Int, opAdd (.list (X.map .int)) (.list [.int z]) = some (.tmp (.list ((X ++ [z]).map .int))) := fun z => by
      rw [opAdd_l, if_pos (by simp; omega), List.map_append]; rfl
    clear mr2
    generalize webD n ts = WD at *
    generalize ts.map tieD = TD at *
    generalize hm : ts.length = m at *
    repeat' array_mem_dec
    refine c_gen (ρ1 := [sc, some (.int c, .fz), some (p2.d, .own), jk j3, jk j4, jk j5, jk j6, jk j7, jk j8, jk j9]) rfl rfl hr1 (by rw [← hsc]; cases j3 <;> cases j4 <;> cases j5 <;> cases j6 <;> cases j7 <;> cases j8 <;> cases j9 <;> rfl) ?_
    repeat' (first | (apply gO_of hwt) | (apply gO_of hln) | array_mem_dec)
    refine c_genT (ρ1 := [sc, some (.int c, .fz), some (p3.d, .own), some (WD, .fz), jk j4, jk j5, jk j6, jk j7, jk j8, jk j9]) rfl rfl hr2 (by rw [← hsc]; cases j4 <;> cases j5 <;> cases j6 <;> cases j7 <;> cases j8 <;> cases j9 <;> rfl) ?_
    repeat' (first | (apply gO_of p6) | array_mem_dec)
    intro v p4 hv
    have hv0 : 0 < 1 + v := by omega
    have r2 := r2 (1 + v) hv0
    have er := er (1 + v)
    have wide := wide (1 + v) hv0
    have ha1 : ∀ x : Int, opAdd (.int x) (.int (1 + v)) = some (.val (.int (x + (1 + v)))) := fun x => opAdd_i _ _
    repeat' array_mem_dec
    refine c_gen (ρ1 := [sc, some (.int c, .fz), some (p4.d, .own), some (WD, .fz), some (.list (X.map .int), .fz), some (.int (1 + v), .fz), jk j6, jk j7, jk j8, jk j9]) rfl rfl r1 (by rw [← hsc]; cases j6 <;> cases j7 <;> cases j8 <;> cases j9 <;> rfl) ?_
    repeat' (first | (apply gO_of hrev) | array_mem_dec)
    refine TN.cp_map (X.reverse) (.int) (fun x => .int (x + (1 + v))) rfl (by (first | omega | (simp; done) | (simp; omega))) (by (first | exact rfl | (repeat (first | exact TN.wOk_nil | ((apply TN.wOk_cons); exact rfl; (first | exact TN.okW_none | exact TN.okW_fz | exact TN.okW_jk | assumption)))))) (by (repeat (first | exact wipe_nil | apply wipe_cons | exact st0 | apply stS))) ?_ ?_
    · intro x hx
      repeat' array_mem_dec
      exact ⟨rfl, rfl⟩
    · rw [er]
      rcases wide with rfl | ⟨w1, w2⟩
      · have w0 : opNotN .none .none = some (.val (.bool false)) := rfl
        repeat' (first | (apply gO_of w0) | array_mem_dec | ((with_reducible refine TN.c_rv ?_ ?_ r2 ?_); exact rfl; exact rfl) | ((with_reducible refine TN.c_rv ?_ ?_ mr1 ?_); exact rfl; exact rfl))
        intro a q1 ha
        obtain ⟨a, rfl⟩ := Int.eq_ofNat_of_zero_le ha.1
        repeat' array_mem_dec
        intro b q2 hb
        obtain ⟨b, rfl⟩ := Int.eq_ofNat_of_zero_le hb.1
        have hmx : opMulX (.tuple [.int 0]) (.int (3 + (b : Nat))) = some (.val (.tuple (lg (List.replicate (3 + b) 0)))) := by
          have := rp69 (k := 3 + b) (by omega) (by omega)
          rwa [Int.natCast_add] at this
        repeat' (first | (apply gO_of hmx) | array_mem_dec)
        intro w q3 hw3
        obtain ⟨k, hk, hix⟩ : ∃ k : Kd, Unl k ∧ opIx (.list [.tuple [.str "ring", .int (3 + (a : Nat))], .tuple [.str "spine", .tuple (lg (List.replicate (3 + b) 0))]]) (.int w) = some (.val (kdD k)) := by
          have : w = 0 ∨ w = 1 := by omega
          rcases this with rfl | rfl
          · refine ⟨.ring (3 + a), unl_ring (by omega) (by omega), ?_⟩
            have e : kdD (.ring (3 + a)) = .tuple [.str "ring", .int (3 + (a : Nat))] := by
              show PyData.tuple [.str "ring", .int ((3 + a : Nat) : Int)] = _
              rw [Int.natCast_add]; rfl
            rw [e]; rfl
          · exact ⟨.spine (List.replicate (3 + b) 0), unl_row (by omega) (by omega), rfl⟩
        obtain ⟨WK, VD, mk, hmk, k1, k2, k3, k4, k5, k6, k7⟩ := kind_facts hk
        generalize kdD k = KD at *
        repeat' (first | (apply gO_of hix) | (apply gO_of k5) | (apply gO_of k6) | (apply gO_of k7) | array_mem_dec | ((with_reducible refine TN.c_rv ?_ ?_ k1 ?_); exact rfl; exact rfl) | ((with_reducible refine TN.c_rv ?_ ?_ k2 ?_); exact rfl; exact rfl) | ((with_reducible refine TN.c_rv ?_ ?_ k3 ?_); exact rfl; exact rfl) | ((with_reducible refine TN.c_rv ?_ ?_ k4 ?_); exact rfl; exact rfl))
        exact ⟨some (.int c), some (q3.d, .own), some WD, some (.list (X.map .int)), some (.int (1 + v)), some .none, some KD, some (.tuple VD), j9, okS_md (.inl rfl), rfl⟩
      · have hadd := opAdd_i (X.getD (X.length - 1) 0) (1 + v)
        have had := had (X.getD (X.length - 1) 0 + (1 + v))
        generalize (X ++ [X.getD (X.length - 1) 0 + (1 + v)]).map PyData.int = YD at *
        repeat' (first | (apply gO_of w1) | (apply gO_of hng) | (apply gO_of hlast) | (apply gO_of had) | array_mem_dec | ((with_reducible refine TN.c_rv ?_ ?_ r2 ?_); exact rfl; exact rfl) | ((with_reducible refine TN.c_rv ?_ ?_ mr1 ?_); exact rfl; exact rfl) | ((with_reducible refine TN.c_rv ?_ ?_ w2 ?_); exact rfl; exact rfl))
        intro a q1 ha
        obtain ⟨a, rfl⟩ := Int.eq_ofNat_of_zero_le ha.1
        repeat' array_mem_dec
        intro b q2 hb
        obtain ⟨b, rfl⟩ := Int.eq_ofNat_of_zero_le hb.1
        have hmx : opMulX (.tuple [.int 0]) (.int (3 + (b : Nat))) = some (.val (.tuple (lg (List.replicate (3 + b) 0)))) := by
          have := rp69 (k := 3 + b) (by omega) (by omega)
          rwa [Int.natCast_add] at this
        repeat' (first | (apply gO_of hmx) | array_mem_dec)
        intro w q3 hw3
        obtain ⟨k, hk, hix⟩ : ∃ k : Kd, Unl k ∧ opIx (.list [.tuple [.str "ring", .int (3 + (a : Nat))], .tuple [.str "spine", .tuple (lg (List.replicate (3 + b) 0))]]) (.int w) = some (.val (kdD k)) := by
          have : w = 0 ∨ w = 1 := by omega
          rcases this with rfl | rfl
          · refine ⟨.ring (3 + a), unl_ring (by omega) (by omega), ?_⟩
            have e : kdD (.ring (3 + a)) = .tuple [.str "ring", .int (3 + (a : Nat))] := by
              show PyData.tuple [.str "ring", .int ((3 + a : Nat) : Int)] = _
              rw [Int.natCast_add]; rfl
            rw [e]; rfl
          · exact ⟨.spine (List.replicate (3 + b) 0), unl_row (by omega) (by omega), rfl⟩
        obtain ⟨WK, VD, mk, hmk, k1, k2, k3, k4, k5, k6, k7⟩ := kind_facts hk
        generalize kdD k = KD at *
        repeat' (first | (apply gO_of hix) | (apply gO_of k5) | (apply gO_of k6) | (apply gO_of k7) | array_mem_dec | ((with_reducible refine TN.c_rv ?_ ?_ k1 ?_); exact rfl; exact rfl) | ((with_reducible refine TN.c_rv ?_ ?_ k2 ?_); exact rfl; exact rfl) | ((with_reducible refine TN.c_rv ?_ ?_ k3 ?_); exact rfl; exact rfl) | ((with_reducible refine TN.c_rv ?_ ?_ k4 ?_); exact rfl; exact rfl))
        exact ⟨some (.int c), some (q3.d, .own), some WD, some (.list (X.map .int)), some (.int (1 + v)), some wd, some KD, some (.tuple VD), j9, okS_md (.inl rfl), rfl⟩
  · rintro _ ⟨j1, s2, j3, j4, j5, j6, j7, j8, j9, o2, rfl⟩
    repeat' array_mem_dec
    exact ⟨rfl, rfl⟩
end K69
namespace K69
open PySem PySem.Spec PyProof.Rows L2 TN
theorem sc__law_cell_at : FnScope ["script", "k"] ["script", "k"] (defScope s__law_cell_at) := ⟨rfl, rfl, rfl, by decide +kernel, rfl, by decide +kernel, by decide +kernel⟩
theorem ok__law_cell_at {P : Program} {w : World} {K : PySem.W.Frag} {mg : Str → Option Value} {base : Heap} {f : Addr} {fd : FuncData} (F : FunD K "_law_cell_at" "_law_cell_at" (defArgs s__law_cell_at) (defBody s__law_cell_at) (defScope s__law_cell_at) [] [] f fd) (hm : mg "_law_cell_at" = some (.ref f)) (h_len : mg "len" = none) :
    Callee P w K mg base 1 "_law_cell_at" 2 M__law_cell_at :=
  calleeOf F sc__law_cell_at hm (fun _ _ _ _ _ _ us hl => match us, hl with | [_, _], _ => rfl) fun cdv A outer s H E hr =>
  (ss_cons (ss_if (st_cmp op_lt (ltG_ok _ _) (sx_var 1) (sx_callB cr_lenA (len_ok _) rfl h_len boot_len (sa_cons (sx_var 0) sa_nil)))
  (ss_one (ss_ret (sx_item (u65 hr) (sx_var 0) (sx_var 1))))
  ss_nil)
  (ss_one (ss_ret sx_int)))
theorem sc__law_pen_of : FnScope ["cell", "left"] ["cell"] (defScope s__law_pen_of) := ⟨rfl, rfl, rfl, by decide +kernel, rfl, by decide +kernel, by decide +kernel⟩
theorem ok__law_pen_of {P : Program} {w : World} {K : PySem.W.Frag} {mg : Str → Option Value} {base : Heap} {f : Addr} {fd : FuncData} (F : FunD K "_law_pen_of" "_law_pen_of" (defArgs s__law_pen_of) (defBody s__law_pen_of) (defScope s__law_pen_of) [] [] f fd) (hm : mg "_law_pen_of" = some (.ref f)) (h_max : mg "max" = none) (h_int : mg "int" = none) :
    Callee P w K mg base 1 "_law_pen_of" 1 M__law_pen_of :=
  calleeOf F sc__law_pen_of hm (fun _ _ _ _ _ _ us hl => match us, hl with | [_], _ => rfl) fun cdv A outer s H E hr =>
  (ss_cons (ss_set 1 sc__law_pen_of.nd (sx_callB (call_max2 rfl) (max2_ok _) rfl h_max boot_max (sa_cons (sx_var 0) (sa_cons (sx_bin op_sub (sub_ok _) sx_int (sx_var 0)) sa_nil))))
  (ss_one (ss_ret (sx_lst (sa_cons (sx_var 1) (sa_cons (sx_callTy call_int1 (int_ok _) rfl h_int boot_int (sa_cons (sx_cmp op_ge (ltG_ok _ _) (sx_var 1) (sx_bin op_pow (pow_ok _) sx_int sx_int)) sa_nil)) (sa_cons (sx_bin op_mod (mod_ok _) (sx_var 1) sx_int) sa_nil)))))))
theorem sc__law_next : FnScope ["seed"] ["seed"] (defScope s__law_next) := ⟨rfl, rfl, rfl, by decide +kernel, rfl, by decide +kernel, by decide +kernel⟩
theorem ok__law_next {P : Program} {w : World} {K : PySem.W.Frag} {mg : Str → Option Value} {base : Heap} {f : Addr} {fd : FuncData} (F : FunD K "_law_next" "_law_next" (defArgs s__law_next) (defBody s__law_next) (defScope s__law_next) [] [] f fd) (hm : mg "_law_next" = some (.ref f)) :
    Callee P w K mg base 1 "_law_next" 1 M__law_next :=
  calleeOf F sc__law_next hm (fun _ _ _ _ _ _ us hl => match us, hl with | [_], _ => rfl) fun cdv A outer s H E hr =>
  (ss_cons (ss_set 0 sc__law_next.nd (sx_bin op_mod (mod_ok _) (sx_bin op_addA (add_ok _) (sx_var 0) sx_int) sx_int))
  (ss_one (ss_ret (sx_bin op_mod (mod_ok _) (sx_bin op_addA (add_ok _) (sx_bin op_addA (add_ok _) (sx_bin op_mulA (mul_ok _) (sx_var 0) (sx_var 0)) (sx_bin op_mulA (mul_ok _) sx_int (sx_var 0))) sx_int) sx_int))))
theorem sc__law_draw : FnScope ["pen", "many", "found"] ["pen", "many"] (defScope s__law_draw) := ⟨rfl, rfl, rfl, by decide +kernel, rfl, by decide +kernel, by decide +kernel⟩
theorem ok__law_draw {P : Program} {w : World} {K : PySem.W.Frag} {mg : Str → Option Value} {base : Heap} {f : Addr} {fd : FuncData} (F : FunD K "_law_draw" "_law_draw" (defArgs s__law_draw) (defBody s__law_draw) (defScope s__law_draw) [] [] f fd) (hm : mg "_law_draw" = some (.ref f)) (C__law_next : Callee P w K mg base 1 "_law_next" 1 M__law_next) :
    Callee P w K mg base 2 "_law_draw" 2 M__law_draw :=
  calleeOf F sc__law_draw hm (fun _ _ _ _ _ _ us hl => match us, hl with | [_, _], _ => rfl) fun cdv A outer s H E hr =>
  (ss_cons (ss_if (st_cmp (op_eqD (u64 hr)) (eq_ok _) (sx_item (u65 hr) (sx_var 0) sx_int) sx_int)
  (ss_cons (ss_set 2 sc__law_draw.nd (sx_bin op_mod (mod_ok _) (sx_item (u65 hr) (sx_var 0) sx_int) (sx_var 1)))
  (ss_cons (ss_unp (sx_bin op_fdivW (div_ok _) (sx_item (u65 hr) (sx_var 0) sx_int) (sx_var 1)) (sg_put 0 (set_any (u65 hr)) (putA_ok _) sx_int))
  (ss_one (ss_ret (sx_var 2)))))
  ss_nil)
  (ss_cons (ss_unp (sx_callC C__law_next hr rfl (lenA_cons lenA_nil) (sa_cons (sx_bin op_addA (add_ok _) (sx_callC C__law_next hr rfl (lenA_cons lenA_nil) (sa_cons (sx_item (u65 hr) (sx_var 0) sx_int) sa_nil)) sx_int) sa_nil)) (sg_put 0 (set_any (u65 hr)) (putA_ok _) sx_int))
  (ss_one (ss_ret (sx_bin op_mod (mod_ok _) (sx_bin op_fdivW (div_ok _) (sx_item (u65 hr) (sx_var 0) sx_int) sx_int) (sx_var 1))))))
theorem sc__law_order_of : FnScope ["pen", "many", "left", "found"] ["pen", "many"] (defScope s__law_order_of) := ⟨rfl, rfl, rfl, by decide +kernel, rfl, by decide +kernel, by decide +kernel⟩
theorem ok__law_order_of {P : Program} {w : World} {K : PySem.W.Frag} {mg : Str → Option Value} {base : Heap} {f : Addr} {fd : FuncData} (F : FunD K "_law_order_of" "_law_order_of" (defArgs s__law_order_of) (defBody s__law_order_of) (defScope s__law_order_of) [] [] f fd) (hm : mg "_law_order_of" = some (.ref f)) (h_range : mg "range" = none) (h_list : mg "list" = none) (h_len : mg "len" = none) (C__law_draw : Callee P w K mg base 2 "_law_draw" 2 M__law_draw) :
    Callee P w K mg base 3 "_law_order_of" 2 M__law_order_of :=
  calleeOf F sc__law_order_of hm (fun _ _ _ _ _ _ us hl => match us, hl with | [_, _], _ => rfl) fun cdv A outer s H E hr =>
  (ss_cons (ss_set 2 sc__law_order_of.nd (sx_lstRg rfl rfl h_list (sr_1 rfl h_range (sx_var 1))))
  (ss_cons (ss_set 3 sc__law_order_of.nd (sx_lst sa_nil))
  (ss_cons (ss_while 1000000 (st_cmp (op_neD (u64 hr)) (ne_ok _) (sx_var 2) (sx_lst sa_nil))
  (ss_one (ss_expr (sx_mutL 3 PySem.F.plainAttrs_list PySem.F.slot_list_append rfl mt_append (append_ok _) (sa_cons (sx_mutL 2 PySem.F.plainAttrs_list PySem.F.slot_list_pop rfl mt_popA (pop_ok _) (sa_cons (sx_callC C__law_draw hr rfl (lenA_cons (lenA_cons lenA_nil)) (sa_cons (sx_var 0) (sa_cons (sx_callB cr_lenA (len_ok _) rfl h_len boot_len (sa_cons (sx_var 2) sa_nil)) sa_nil))) sa_nil)) sa_nil)))))
  (ss_one (ss_ret (sx_var 3))))))
theorem sc__law_hub_web : FnScope ["pen", "many", "ties", "place", "turn", "order", "found", "one", "other", "a", "b"] ["pen"] (defScope s__law_hub_web) := ⟨rfl, rfl, rfl, by decide +kernel, rfl, by decide +kernel, by decide +kernel⟩
theorem ok__law_hub_web {P : Program} {w : World} {K : PySem.W.Frag} {mg : Str → Option Value} {base : Heap} {f : Addr} {fd : FuncData} (F : FunD K "_law_hub_web" "_law_hub_web" (defArgs s__law_hub_web) (defBody s__law_hub_web) (defScope s__law_hub_web) [] [] f fd) (hm : mg "_law_hub_web" = some (.ref f)) (h_range : mg "range" = none) (h_len : mg "len" = none) (h_min : mg "min" = none) (h_max : mg "max" = none) (h_sorted : mg "sorted" = none) (h_tuple : mg "tuple" = none) (C__law_draw : Callee P w K mg base 3 "_law_draw" 2 M__law_draw) (C__law_order_of : Callee P w K mg base 3 "_law_order_of" 2 M__law_order_of) :
    Callee P w K mg base 4 "_law_hub_web" 1 M__law_hub_web :=
  calleeOf F sc__law_hub_web hm (fun _ _ _ _ _ _ us hl => match us, hl with | [_], _ => rfl) fun cdv A outer s H E hr =>
  (ss_cons (ss_set 1 sc__law_hub_web.nd (sx_bin op_addA (add_ok _) sx_int (sx_callC C__law_draw hr rfl (lenA_cons (lenA_cons lenA_nil)) (sa_cons (sx_var 0) (sa_cons sx_int sa_nil)))))
  (ss_cons (ss_set 2 sc__law_hub_web.nd sx_newT)
  (ss_cons (ss_for rfl (si_rng2 rfl h_range sx_int (sx_var 1)) (sg_name 3 sc__law_hub_web.nd)
  (ss_one (ss_unp sx_bl (sg_put 2 (set_any (u65 hr)) (putA_ok _) (sx_tup (sa_cons sx_int (sa_cons (sx_var 3) sa_nil)))))))
  (ss_cons (ss_for rfl (si_rng1 rfl h_range (sx_item (u65 hr) (sx_lst (sa_cons sx_int (sa_cons (sx_var 1) (sa_cons (sx_bin op_mulA (mul_ok _) sx_int (sx_var 1)) sa_nil)))) (sx_callC C__law_draw hr rfl (lenA_cons (lenA_cons lenA_nil)) (sa_cons (sx_var 0) (sa_cons sx_int sa_nil))))) (sg_name 4 sc__law_hub_web.nd)
  (ss_cons (ss_set 7 sc__law_hub_web.nd (sx_callC C__law_draw hr rfl (lenA_cons (lenA_cons lenA_nil)) (sa_cons (sx_var 0) (sa_cons (sx_var 1) sa_nil))))
  (ss_cons (ss_set 8 sc__law_hub_web.nd (sx_callC C__law_draw hr rfl (lenA_cons (lenA_cons lenA_nil)) (sa_cons (sx_var 0) (sa_cons (sx_var 1) sa_nil))))
  (ss_one (ss_if (st_w (sw_and (st_cmp (op_neD (u64 hr)) (ne_ok _) (sx_var 7) (sx_var 8)) (sw_and1 (st_cmp op_lt (ltG_ok _ _) (sx_callB cr_lenA (len_ok _) rfl h_len boot_len (sa_cons (sx_var 2) sa_nil)) sx_int))))
  (ss_one (ss_unp sx_bl (sg_put 2 (set_any (u65 hr)) (putA_ok _) (sx_tup (sa_cons (sx_callB (call_min2 rfl) (min2_ok _) rfl h_min boot_min (sa_cons (sx_var 7) (sa_cons (sx_var 8) sa_nil))) (sa_cons (sx_callB (call_max2 rfl) (max2_ok _) rfl h_max boot_max (sa_cons (sx_var 7) (sa_cons (sx_var 8) sa_nil))) sa_nil))))))
  ss_nil)))))
  (ss_cons (ss_set 5 sc__law_hub_web.nd (sx_callC C__law_order_of hr rfl (lenA_cons (lenA_cons lenA_nil)) (sa_cons (sx_var 0) (sa_cons (sx_var 1) sa_nil))))
  (ss_cons (ss_setCompD 6 rfl sc__law_hub_web.nd (j := 2) (x := "ties") rfl (by first | exact Or.inl rfl | exact Or.inr (Or.inl rfl) | exact Or.inr (Or.inr rfl)) (by decide) (by decide) (own := [("a", 9), ("b", 10)]) (blkB_ok (by kernel_rfl)) (by decide) (fun s H C cl fp => (sg_tup rfl (sgs_cons (sg_name 9 sc__law_hub_web.nd) (sgs_cons (sg_name 10 sc__law_hub_web.nd) sgs_nil)))) (fun s H C cl fp => spt_nil) (fun s H C cl fp => (sx_tup (sa_cons (sx_callB (call_min2 rfl) (min2_ok _) rfl h_min boot_min (sa_cons (sx_item (u65 hr) (sx_var 5) (sx_var 9)) (sa_cons (sx_item (u65 hr) (sx_var 5) (sx_var 10)) sa_nil))) (sa_cons (sx_callB (call_max2 rfl) (max2_ok _) rfl h_max boot_max (sa_cons (sx_item (u65 hr) (sx_var 5) (sx_var 9)) (sa_cons (sx_item (u65 hr) (sx_var 5) (sx_var 10)) sa_nil))) sa_nil)))))
  (ss_one (ss_ret (sx_tup (sa_cons (sx_var 1) (sa_cons (sx_callTy call_tuple_of (tuple_ok _) rfl h_tuple boot_tuple (sa_cons (sx_callB (cr_sortD hr) (sorted_ok _) rfl h_sorted boot_sorted (sa_cons (sx_var 6) sa_nil)) sa_nil)) sa_nil)))))))))))
theorem sc__law_numbers_of : FnScope ["pen", "many", "found", "last", "turn"] ["pen", "many"] (defScope s__law_numbers_of) := ⟨rfl, rfl, rfl, by decide +kernel, rfl, by decide +kernel, by decide +kernel⟩
theorem ok__law_numbers_of {P : Program} {w : World} {K : PySem.W.Frag} {mg : Str → Option Value} {base : Heap} {f : Addr} {fd : FuncData} (F : FunD K "_law_numbers_of" "_law_numbers_of" (defArgs s__law_numbers_of) (defBody s__law_numbers_of) (defScope s__law_numbers_of) [] [] f fd) (hm : mg "_law_numbers_of" = some (.ref f)) (h_range : mg "range" = none) (C__law_draw : Callee P w K mg base 2 "_law_draw" 2 M__law_draw) :
    Callee P w K mg base 3 "_law_numbers_of" 2 M__law_numbers_of :=
  calleeOf F sc__law_numbers_of hm (fun _ _ _ _ _ _ us hl => match us, hl with | [_, _], _ => rfl) fun cdv A outer s H E hr =>
  (ss_cons (ss_set 2 sc__law_numbers_of.nd (sx_lst sa_nil))
  (ss_cons (ss_set 3 sc__law_numbers_of.nd sx_int)
  (ss_cons (ss_for rfl (si_rng1 rfl h_range (sx_var 1)) (sg_name 4 sc__law_numbers_of.nd)
  (ss_cons (ss_set 3 sc__law_numbers_of.nd (sx_bin op_addA (add_ok _) (sx_bin op_addA (add_ok _) (sx_var 3) sx_int) (sx_callC C__law_draw hr rfl (lenA_cons (lenA_cons lenA_nil)) (sa_cons (sx_var 0) (sa_cons (sx_item (u65 hr) (sx_lst (sa_cons sx_int (sa_cons sx_int (sa_cons (sx_bin op_pow (pow_ok _) sx_int sx_int) sa_nil)))) (sx_callC C__law_draw hr rfl (lenA_cons (lenA_cons lenA_nil)) (sa_cons (sx_var 0) (sa_cons sx_int sa_nil)))) sa_nil)))))
  (ss_one (ss_expr (sx_mutL 2 PySem.F.plainAttrs_list PySem.F.slot_list_append rfl mt_append (append_ok _) (sa_cons (sx_var 3) sa_nil))))))
  (ss_one (ss_ret (sx_var 2))))))
theorem sc_is_whole : FnScope ["thing"] ["thing"] (defScope s_is_whole) := ⟨rfl, rfl, rfl, by decide +kernel, rfl, by decide +kernel, by decide +kernel⟩
theorem ok_is_whole {P : Program} {w : World} {K : PySem.W.Frag} {mg : Str → Option Value} {base : Heap} {f : Addr} {fd : FuncData} (F : FunD K "is_whole" "is_whole" (defArgs s_is_whole) (defBody s_is_whole) (defScope s_is_whole) [] [] f fd) (hm : mg "is_whole" = some (.ref f)) (h_isinstance : mg "isinstance" = none) (h_int : mg "int" = none) (h_bool : mg "bool" = none) :
    Callee P w K mg base 1 "is_whole" 1 M_is_whole :=
  calleeOf F sc_is_whole hm (fun _ _ _ _ _ _ us hl => match us, hl with | [_], _ => rfl) fun cdv A outer s H E hr =>
  (ss_one (ss_ret (sx_and (sx_isi rfl h_isinstance rfl h_int boot_int (sx_var 0)) (sx_one (sx_not (sx_isi rfl h_isinstance rfl h_bool boot_bool (sx_var 0)))))))
theorem sc_check_place : FnScope ["web", "place"] ["web", "place"] (defScope s_check_place) := ⟨rfl, rfl, rfl, by decide +kernel, rfl, by decide +kernel, by decide +kernel⟩
theorem ok_check_place {P : Program} {w : World} {K : PySem.W.Frag} {mg : Str → Option Value} {base : Heap} {f : Addr} {fd : FuncData} (F : FunD K "check_place" "check_place" (defArgs s_check_place) (defBody s_check_place) (defScope s_check_place) [] [] f fd) (hm : mg "check_place" = some (.ref f)) (EX : ExS K mg XS) (x_NoPlace : (He.Fa.exc "NoPlace").ok K = true) (C_is_whole : Callee P w K mg base 1 "is_whole" 1 M_is_whole) :
    Callee P w K mg base 2 "check_place" 2 M_check_place :=
  calleeOf F sc_check_place hm (fun _ _ _ _ _ _ us hl => match us, hl with | [_, _], _ => rfl) fun cdv A outer s H E hr =>
  (ss_one (ss_if (st_w (sw_or (st_not (st_val (sx_callC C_is_whole hr rfl (lenA_cons lenA_nil) (sa_cons (sx_var 1) sa_nil)))) (sw_or (st_cmp op_lt (ltG_ok _ _) (sx_var 1) sx_int) (sw_or1 (st_cmp op_ge (ltG_ok _ _) (sx_var 1) (sx_item (u65 hr) (sx_var 0) sx_int))))))
  (ss_one (ss_raise0 rfl rfl (EX.all "NoPlace" (by decide)).glo x_NoPlace))
  ss_nil))
theorem sc_ties_at : FnScope ["web", "place", "number", "tie"] ["web", "place"] (defScope s_ties_at) := ⟨rfl, rfl, rfl, by decide +kernel, rfl, by decide +kernel, by decide +kernel⟩
theorem ok_ties_at {P : Program} {w : World} {K : PySem.W.Frag} {mg : Str → Option Value} {base : Heap} {f : Addr} {fd : FuncData} (F : FunD K "ties_at" "ties_at" (defArgs s_ties_at) (defBody s_ties_at) (defScope s_ties_at) [] [] f fd) (hm : mg "ties_at" = some (.ref f)) (h_enumerate : mg "enumerate" = none) (C_check_place : Callee P w K mg base 2 "check_place" 2 M_check_place) :
    Callee P w K mg base 3 "ties_at" 2 M_ties_at :=
  calleeOf F sc_ties_at hm (fun _ _ _ _ _ _ us hl => match us, hl with | [_, _], _ => rfl) fun cdv A outer s H E hr =>
  (ss_cons (ss_expr (sx_callC C_check_place hr rfl (lenA_cons (lenA_cons lenA_nil)) (sa_cons (sx_var 0) (sa_cons (sx_var 1) sa_nil))))
  (ss_one (ss_ret (sx_comp rfl sc_ties_at.nd (si_enum rfl h_enumerate (sx_item (u65 hr) (sx_var 0) sx_int)) (own := [("number", 2), ("tie", 3)]) (blkB_ok (by kernel_rfl)) (by decide) (fun s H C cl fp => (sg_tup rfl (sgs_cons (sg_name 2 sc_ties_at.nd) (sgs_cons (sg_name 3 sc_ties_at.nd) sgs_nil)))) (fun s H C cl fp => (spt_one (st_cmp (op_inA (u65 hr)) (in_ok _) (sx_var 1) (sx_var 3)))) (fun s H C cl fp => (sx_var 2))))))
theorem sc_tie_counts : FnScope ["web", "place"] ["web"] (defScope s_tie_counts) := ⟨rfl, rfl, rfl, by decide +kernel, rfl, by decide +kernel, by decide +kernel⟩
theorem ok_tie_counts {P : Program} {w : World} {K : PySem.W.Frag} {mg : Str → Option Value} {base : Heap} {f : Addr} {fd : FuncData} (F : FunD K "tie_counts" "tie_counts" (defArgs s_tie_counts) (defBody s_tie_counts) (defScope s_tie_counts) [] [] f fd) (hm : mg "tie_counts" = some (.ref f)) (h_range : mg "range" = none) (h_len : mg "len" = none) (h_tuple : mg "tuple" = none) (C_ties_at : Callee P w K mg base 3 "ties_at" 2 M_ties_at) :
    Callee P w K mg base 4 "tie_counts" 1 M_tie_counts :=
  calleeOf F sc_tie_counts hm (fun _ _ _ _ _ _ us hl => match us, hl with | [_], _ => rfl) fun cdv A outer s H E hr =>
  (ss_one (ss_ret (sx_callTy call_tuple_of (tuple_ok _) rfl h_tuple boot_tuple (sa_cons (sx_comp rfl sc_tie_counts.nd (si_rng1 rfl h_range (sx_item (u65 hr) (sx_var 0) sx_int)) (own := [("place", 1)]) (blkB_ok (by kernel_rfl)) (by decide) (fun s H C cl fp => (sg_name 1 sc_tie_counts.nd)) (fun s H C cl fp => spt_nil) (fun s H C cl fp => (sx_callB cr_lenA (len_ok _) rfl h_len boot_len (sa_cons (sx_callC C_ties_at hr rfl (lenA_cons (lenA_cons lenA_nil)) (sa_cons (sx_var 0) (sa_cons (sx_var 1) sa_nil))) sa_nil)))) sa_nil))))
theorem sc_hubs_of : FnScope ["web", "place", "count"] ["web"] (defScope s_hubs_of) := ⟨rfl, rfl, rfl, by decide +kernel, rfl, by decide +kernel, by decide +kernel⟩
theorem ok_hubs_of {P : Program} {w : World} {K : PySem.W.Frag} {mg : Str → Option Value} {base : Heap} {f : Addr} {fd : FuncData} (F : FunD K "hubs_of" "hubs_of" (defArgs s_hubs_of) (defBody s_hubs_of) (defScope s_hubs_of) [] [] f fd) (hm : mg "hubs_of" = some (.ref f)) (h_enumerate : mg "enumerate" = none) (C_tie_counts : Callee P w K mg base 4 "tie_counts" 1 M_tie_counts) :
    Callee P w K mg base 5 "hubs_of" 1 M_hubs_of :=
  calleeOf F sc_hubs_of hm (fun _ _ _ _ _ _ us hl => match us, hl with | [_], _ => rfl) fun cdv A outer s H E hr =>
  (ss_one (ss_ret (sx_comp rfl sc_hubs_of.nd (si_enum rfl h_enumerate (sx_callC C_tie_counts hr rfl (lenA_cons lenA_nil) (sa_cons (sx_var 0) sa_nil))) (own := [("place", 1), ("count", 2)]) (blkB_ok (by kernel_rfl)) (by decide) (fun s H C cl fp => (sg_tup rfl (sgs_cons (sg_name 1 sc_hubs_of.nd) (sgs_cons (sg_name 2 sc_hubs_of.nd) sgs_nil)))) (fun s H C cl fp => (spt_one (st_cmp (op_eqD (u64 hr)) (eq_ok _) (sx_var 2) (sx_bin op_sub (sub_ok _) (sx_item (u65 hr) (sx_var 0) sx_int) sx_int)))) (fun s H C cl fp => (sx_var 1)))))
theorem sc_need_hub : FnScope ["web", "hubs"] ["web"] (defScope s_need_hub) := ⟨rfl, rfl, rfl, by decide +kernel, rfl, by decide +kernel, by decide +kernel⟩
theorem ok_need_hub {P : Program} {w : World} {K : PySem.W.Frag} {mg : Str → Option Value} {base : Heap} {f : Addr} {fd : FuncData} (F : FunD K "need_hub" "need_hub" (defArgs s_need_hub) (defBody s_need_hub) (defScope s_need_hub) [] [] f fd) (hm : mg "need_hub" = some (.ref f)) (EX : ExS K mg XS) (x_NoKind : (He.Fa.exc "NoKind").ok K = true) (C_hubs_of : Callee P w K mg base 5 "hubs_of" 1 M_hubs_of) :
    Callee P w K mg base 6 "need_hub" 1 M_need_hub :=
  calleeOf F sc_need_hub hm (fun _ _ _ _ _ _ us hl => match us, hl with | [_], _ => rfl) fun cdv A outer s H E hr =>
  (ss_cons (ss_set 1 sc_need_hub.nd (sx_callC C_hubs_of hr rfl (lenA_cons lenA_nil) (sa_cons (sx_var 0) sa_nil)))
  (ss_cons (ss_if (st_w (sw_or (st_cmp op_lt (ltG_ok _ _) (sx_item (u65 hr) (sx_var 0) sx_int) sx_int) (sw_or1 (st_cmp (op_eqD (u64 hr)) (eq_ok _) (sx_var 1) (sx_lst sa_nil)))))
  (ss_one (ss_raise0 rfl rfl (EX.all "NoKind" (by decide)).glo x_NoKind))
  ss_nil)
  (ss_one (ss_ret (sx_item (u65 hr) (sx_var 1) sx_int)))))
theorem sc_sums_at : FnScope ["web", "numbers", "found", "number", "a", "b"] ["web", "numbers"] (defScope s_sums_at) := ⟨rfl, rfl, rfl, by decide +kernel, rfl, by decide +kernel, by decide +kernel⟩
theorem ok_sums_at {P : Program} {w : World} {K : PySem.W.Frag} {mg : Str → Option Value} {base : Heap} {f : Addr} {fd : FuncData} (F : FunD K "sums_at" "sums_at" (defArgs s_sums_at) (defBody s_sums_at) (defScope s_sums_at) [] [] f fd) (hm : mg "sums_at" = some (.ref f)) (h_zip : mg "zip" = none) :
    Callee P w K mg base 1 "sums_at" 2 M_sums_at :=
  calleeOf F sc_sums_at hm (fun _ _ _ _ _ _ us hl => match us, hl with | [_, _], _ => rfl) fun cdv A outer s H E hr =>
  (ss_cons (ss_set 2 sc_sums_at.nd (sx_bin op_mulA (mul_ok _) (sx_lst (sa_cons sx_int sa_nil)) (sx_item (u65 hr) (sx_var 0) sx_int)))
  (ss_cons (ss_for rfl (si_zipM rfl h_zip (sx_item (u65 hr) (sx_var 0) sx_int) (sx_var 1)) (sg_tup rfl (sgs_cons (sg_tup rfl (sgs_cons (sg_name 4 sc_sums_at.nd) (sgs_cons (sg_name 5 sc_sums_at.nd) sgs_nil))) (sgs_cons (sg_name 3 sc_sums_at.nd) sgs_nil)))
  (ss_cons (ss_unp (sx_bin op_addA (add_ok _) (sx_item (u65 hr) (sx_var 2) (sx_var 4)) (sx_var 3)) (sg_put 2 (set_any (u65 hr)) (putA_ok _) (sx_var 4)))
  (ss_one (ss_unp (sx_bin op_addA (add_ok _) (sx_item (u65 hr) (sx_var 2) (sx_var 5)) (sx_var 3)) (sg_put 2 (set_any (u65 hr)) (putA_ok _) (sx_var 5))))))
  (ss_one (ss_ret (sx_var 2)))))
theorem sc_by_hub : FnScope ["web", "hub", "numbers", "found", "left", "there", "rows", "k", "tie", "worth"] ["web", "hub", "numbers"] (defScope s_by_hub) := ⟨rfl, rfl, rfl, by decide +kernel, rfl, by decide +kernel, by decide +kernel⟩
theorem ok_by_hub {P : Program} {w : World} {K : PySem.W.Frag} {mg : Str → Option Value} {base : Heap} {f : Addr} {fd : FuncData} (F : FunD K "by_hub" "by_hub" (defArgs s_by_hub) (defBody s_by_hub) (defScope s_by_hub) [] [] f fd) (hm : mg "by_hub" = some (.ref f)) (h_list : mg "list" = none) (h_enumerate : mg "enumerate" = none) (h_range : mg "range" = none) (h_len : mg "len" = none) (h_sum : mg "sum" = none) (h_sorted : mg "sorted" = none) (h_tuple : mg "tuple" = none) (C_sums_at : Callee P w K mg base 1 "sums_at" 2 M_sums_at) :
    Callee P w K mg base 2 "by_hub" 3 M_by_hub :=
  calleeOf F sc_by_hub hm (fun _ _ _ _ _ _ us hl => match us, hl with | [_, _, _], _ => rfl) fun cdv A outer s H E hr =>
  (ss_cons (ss_set 3 sc_by_hub.nd sx_newK)
  (ss_cons (ss_set 4 sc_by_hub.nd (sx_callTyG (cr_listA rfl) (listA_ok _) rfl h_list boot_list (sa_cons (sx_var 2) sa_nil)))
  (ss_cons (ss_for rfl (si_enum rfl h_enumerate (sx_item (u65 hr) (sx_var 0) sx_int)) (sg_tup rfl (sgs_cons (sg_name 7 sc_by_hub.nd) (sgs_cons (sg_name 8 sc_by_hub.nd) sgs_nil)))
  (ss_one (ss_if (st_cmp (op_notInA (u65 hr)) (notIn_ok _) (sx_var 1) (sx_var 8))
  (ss_one (ss_unp (sx_mutL 4 PySem.F.plainAttrs_list PySem.F.slot_list_pop rfl mt_popA (pop_ok _) (sa_cons sx_int sa_nil)) (sg_put 3 (set_any (u65 hr)) (putA_ok _) (sx_var 7))))
  ss_nil)))
  (ss_cons (ss_set 5 sc_by_hub.nd (sx_callC C_sums_at hr rfl (lenA_cons (lenA_cons lenA_nil)) (sa_cons (sx_var 0) (sa_cons (sx_comp rfl sc_by_hub.nd (si_rng1 rfl h_range (sx_callB cr_lenA (len_ok _) rfl h_len boot_len (sa_cons (sx_item (u65 hr) (sx_var 0) sx_int) sa_nil))) (own := [("k", 7)]) (blkB_ok (by kernel_rfl)) (by decide) (fun s H C cl fp => (sg_name 7 sc_by_hub.nd)) (fun s H C cl fp => spt_nil) (fun s H C cl fp => (sx_get2 (Nat.lt_of_le_of_lt (Nat.add_le_add_left (by decide) _) (u65 hr)) (sx_var 3) (sx_var 7) sx_int ⟨by rfl, by rfl, by rfl, by rfl⟩))) sa_nil))))
  (ss_cons (ss_setComp 6 rfl sc_by_hub.nd (si_enum rfl h_enumerate (sx_item (u65 hr) (sx_var 0) sx_int)) (own := [("k", 7), ("tie", 8)]) (blkB_ok (by kernel_rfl)) (by decide) (fun s H C cl fp => (sg_tup rfl (sgs_cons (sg_name 7 sc_by_hub.nd) (sgs_cons (sg_name 8 sc_by_hub.nd) sgs_nil)))) (fun s H C cl fp => (spt_one (st_cmp (op_inA (u65 hr)) (in_ok _) (sx_var 1) (sx_var 8)))) (fun s H C cl fp => (sx_tup (sa_cons (sx_item (u65 hr) (sx_var 5) (sx_bin op_sub (sub_ok _) (sx_callB (cr_sumA rfl) (sum_ok _) rfl h_sum boot_sum (sa_cons (sx_var 8) sa_nil)) (sx_var 1))) (sa_cons (sx_var 7) sa_nil)))))
  (ss_cons (ss_for rfl (si_seq (sx_callB (cr_sortD hr) (sorted_ok _) rfl h_sorted boot_sorted (sa_cons (sx_var 6) sa_nil))) (sg_tup rfl (sgs_cons (sg_name 9 sc_by_hub.nd) (sgs_cons (sg_name 7 sc_by_hub.nd) sgs_nil)))
  (ss_one (ss_unp (sx_mutL 4 PySem.F.plainAttrs_list PySem.F.slot_list_pop rfl mt_popA (pop_ok _) (sa_cons sx_int sa_nil)) (sg_put 3 (set_any (u65 hr)) (putA_ok _) (sx_var 7)))))
  (ss_one (ss_ret (sx_callTy call_tuple_of (tuple_ok _) rfl h_tuple boot_tuple (sa_cons (sx_comp rfl sc_by_hub.nd (si_rng1 rfl h_range (sx_callB cr_lenA (len_ok _) rfl h_len boot_len (sa_cons (sx_item (u65 hr) (sx_var 0) sx_int) sa_nil))) (own := [("k", 7)]) (blkB_ok (by kernel_rfl)) (by decide) (fun s H C cl fp => (sg_name 7 sc_by_hub.nd)) (fun s H C cl fp => spt_nil) (fun s H C cl fp => (sx_item (u65 hr) (sx_var 3) (sx_var 7)))) sa_nil))))))))))
theorem sc_numbers_in : FnScope ["thing", "size", "one"] ["thing", "size"] (defScope s_numbers_in) := ⟨rfl, rfl, rfl, by decide +kernel, rfl, by decide +kernel, by decide +kernel⟩
theorem ok_numbers_in {P : Program} {w : World} {K : PySem.W.Frag} {mg : Str → Option Value} {base : Heap} {f : Addr} {fd : FuncData} (F : FunD K "numbers_in" "numbers_in" (defArgs s_numbers_in) (defBody s_numbers_in) (defScope s_numbers_in) [] [] f fd) (hm : mg "numbers_in" = some (.ref f)) (h_isinstance : mg "isinstance" = none) (h_list : mg "list" = none) (h_tuple : mg "tuple" = none) (h_len : mg "len" = none) (EX : ExS K mg XS) (x_NoNumber : (He.Fa.exc "NoNumber").ok K = true) (h_all : mg "all" = none) (h_set : mg "set" = none) (h_sorted : mg "sorted" = none) (C_is_whole : Callee P w K mg base 1 "is_whole" 1 M_is_whole) :
    Callee P w K mg base 2 "numbers_in" 2 M_numbers_in :=
  calleeOf F sc_numbers_in hm (fun _ _ _ _ _ _ us hl => match us, hl with | [_, _], _ => rfl) fun cdv A outer s H E hr =>
  (ss_cons (ss_if (st_w (sw_or (st_not (st_val (sx_isiLT rfl h_isinstance rfl h_list rfl h_tuple (sx_var 0)))) (sw_or1 (st_cmp (op_neD (u64 hr)) (ne_ok _) (sx_callB cr_lenA (len_ok _) rfl h_len boot_len (sa_cons (sx_var 0) sa_nil)) (sx_var 1)))))
  (ss_one (ss_raise0 rfl rfl (EX.all "NoNumber" (by decide)).glo x_NoNumber))
  ss_nil)
  (ss_cons (ss_if (st_w (sw_or (st_not (st_val (sx_callB (cr_all rfl) (all_ok _) rfl h_all boot_all (sa_cons (sx_comp rfl sc_numbers_in.nd (si_seq (sx_var 0)) (own := [("one", 2)]) (blkB_ok (by kernel_rfl)) (by decide) (fun s H C cl fp => (sg_name 2 sc_numbers_in.nd)) (fun s H C cl fp => spt_nil) (fun s H C cl fp => (sx_and (sx_callC C_is_whole hr rfl (lenA_cons lenA_nil) (sa_cons (sx_var 2) sa_nil)) (sx_one (sx_cmp op_gt (ltG_ok _ _) (sx_var 2) sx_int))))) sa_nil)))) (sw_or1 (st_cmp op_lt (ltG_ok _ _) (sx_lenSet rfl rfl h_len rfl h_set (sx_var 0)) (sx_var 1)))))
  (ss_one (ss_raise0 rfl rfl (EX.all "NoNumber" (by decide)).glo x_NoNumber))
  ss_nil)
  (ss_one (ss_ret (sx_callB (cr_sortD hr) (sorted_ok _) rfl h_sorted boot_sorted (sa_cons (sx_var 0) sa_nil))))))
theorem sc_unlike_by : FnScope ["web", "thing", "hub"] ["web", "thing"] (defScope s_unlike_by) := ⟨rfl, rfl, rfl, by decide +kernel, rfl, by decide +kernel, by decide +kernel⟩
theorem ok_unlike_by {P : Program} {w : World} {K : PySem.W.Frag} {mg : Str → Option Value} {base : Heap} {f : Addr} {fd : FuncData} (F : FunD K "unlike_by" "unlike_by" (defArgs s_unlike_by) (defBody s_unlike_by) (defScope s_unlike_by) [] [] f fd) (hm : mg "unlike_by" = some (.ref f)) (h_len : mg "len" = none) (C_need_hub : Callee P w K mg base 6 "need_hub" 1 M_need_hub) (C_by_hub : Callee P w K mg base 6 "by_hub" 3 M_by_hub) (C_numbers_in : Callee P w K mg base 6 "numbers_in" 2 M_numbers_in) :
    Callee P w K mg base 7 "unlike_by" 2 M_unlike_by :=
  calleeOf F sc_unlike_by hm (fun _ _ _ _ _ _ us hl => match us, hl with | [_, _], _ => rfl) fun cdv A outer s H E hr =>
  (ss_cons (ss_set 2 sc_unlike_by.nd (sx_callC C_need_hub hr rfl (lenA_cons lenA_nil) (sa_cons (sx_var 0) sa_nil)))
  (ss_one (ss_ret (sx_callC C_by_hub hr rfl (lenA_cons (lenA_cons (lenA_cons lenA_nil))) (sa_cons (sx_var 0) (sa_cons (sx_var 2) (sa_cons (sx_callC C_numbers_in hr rfl (lenA_cons (lenA_cons lenA_nil)) (sa_cons (sx_var 1) (sa_cons (sx_callB cr_lenA (len_ok _) rfl h_len boot_len (sa_cons (sx_item (u65 hr) (sx_var 0) sx_int) sa_nil)) sa_nil))) sa_nil)))))))
theorem sc__law_sums_of : FnScope ["web", "numbers", "found", "k", "a", "b"] ["web", "numbers"] (defScope s__law_sums_of) := ⟨rfl, rfl, rfl, by decide +kernel, rfl, by decide +kernel, by decide +kernel⟩
theorem ok__law_sums_of {P : Program} {w : World} {K : PySem.W.Frag} {mg : Str → Option Value} {base : Heap} {f : Addr} {fd : FuncData} (F : FunD K "_law_sums_of" "_law_sums_of" (defArgs s__law_sums_of) (defBody s__law_sums_of) (defScope s__law_sums_of) [] [] f fd) (hm : mg "_law_sums_of" = some (.ref f)) (h_enumerate : mg "enumerate" = none) :
    Callee P w K mg base 1 "_law_sums_of" 2 M__law_sums_of :=
  calleeOf F sc__law_sums_of hm (fun _ _ _ _ _ _ us hl => match us, hl with | [_, _], _ => rfl) fun cdv A outer s H E hr =>
  (ss_cons (ss_set 2 sc__law_sums_of.nd (sx_bin op_mulA (mul_ok _) (sx_lst (sa_cons sx_int sa_nil)) (sx_item (u65 hr) (sx_var 0) sx_int)))
  (ss_cons (ss_for rfl (si_enum rfl h_enumerate (sx_item (u65 hr) (sx_var 0) sx_int)) (sg_tup rfl (sgs_cons (sg_name 3 sc__law_sums_of.nd) (sgs_cons (sg_tup rfl (sgs_cons (sg_name 4 sc__law_sums_of.nd) (sgs_cons (sg_name 5 sc__law_sums_of.nd) sgs_nil))) sgs_nil)))
  (ss_cons (ss_unp (sx_bin op_addA (add_ok _) (sx_item (u65 hr) (sx_var 2) (sx_var 4)) (sx_item (u65 hr) (sx_var 1) (sx_var 3))) (sg_put 2 (set_any (u65 hr)) (putA_ok _) (sx_var 4)))
  (ss_one (ss_unp (sx_bin op_addA (add_ok _) (sx_item (u65 hr) (sx_var 2) (sx_var 5)) (sx_item (u65 hr) (sx_var 1) (sx_var 3))) (sg_put 2 (set_any (u65 hr)) (putA_ok _) (sx_var 5))))))
  (ss_one (ss_ret (sx_var 2)))))
theorem sc__law_unlike : FnScope ["web", "numbers", "sums", "k"] ["web", "numbers"] (defScope s__law_unlike) := ⟨rfl, rfl, rfl, by decide +kernel, rfl, by decide +kernel, by decide +kernel⟩
theorem ok__law_unlike {P : Program} {w : World} {K : PySem.W.Frag} {mg : Str → Option Value} {base : Heap} {f : Addr} {fd : FuncData} (F : FunD K "_law_unlike" "_law_unlike" (defArgs s__law_unlike) (defBody s__law_unlike) (defScope s__law_unlike) [] [] f fd) (hm : mg "_law_unlike" = some (.ref f)) (h_sorted : mg "sorted" = none) (h_range : mg "range" = none) (h_len : mg "len" = none) (C__law_sums_of : Callee P w K mg base 1 "_law_sums_of" 2 M__law_sums_of) :
    Callee P w K mg base 2 "_law_unlike" 2 M__law_unlike :=
  calleeOf F sc__law_unlike hm (fun _ _ _ _ _ _ us hl => match us, hl with | [_, _], _ => rfl) fun cdv A outer s H E hr =>
  (ss_cons (ss_set 2 sc__law_unlike.nd (sx_callB (cr_sortD hr) (sorted_ok _) rfl h_sorted boot_sorted (sa_cons (sx_callC C__law_sums_of hr rfl (lenA_cons (lenA_cons lenA_nil)) (sa_cons (sx_var 0) (sa_cons (sx_var 1) sa_nil))) sa_nil)))
  (ss_cons (ss_for rfl (si_rng1 rfl h_range (sx_bin op_sub (sub_ok _) (sx_callB cr_lenA (len_ok _) rfl h_len boot_len (sa_cons (sx_var 2) sa_nil)) sx_int)) (sg_name 3 sc__law_unlike.nd)
  (ss_one (ss_if (st_cmp (op_eqD (u64 hr)) (eq_ok _) (sx_item (u65 hr) (sx_var 2) (sx_var 3)) (sx_item (u65 hr) (sx_var 2) (sx_bin op_addA (add_ok _) (sx_var 3) sx_int)))
  (ss_one (ss_ret sx_bl))
  ss_nil)))
  (ss_one (ss_ret sx_bl))))
theorem sc_unlike_bar_holds : FnScope ["web", "thing", "counts", "one", "place"] ["web", "thing"] (defScope s_unlike_bar_holds) := ⟨rfl, rfl, rfl, by decide +kernel, rfl, by decide +kernel, by decide +kernel⟩
theorem ok_unlike_bar_holds {P : Program} {w : World} {K : PySem.W.Frag} {mg : Str → Option Value} {base : Heap} {f : Addr} {fd : FuncData} (F : FunD K "unlike_bar_holds" "unlike_bar_holds" (defArgs s_unlike_bar_holds) (defBody s_unlike_bar_holds) (defScope s_unlike_bar_holds) [] [] f fd) (hm : mg "unlike_bar_holds" = some (.ref f)) (h_isinstance : mg "isinstance" = none) (h_tuple : mg "tuple" = none) (h_len : mg "len" = none) (h_str : mg "str" = none) (h_all : mg "all" = none) (C_tie_counts : Callee P w K mg base 4 "tie_counts" 1 M_tie_counts) (C_is_whole : Callee P w K mg base 4 "is_whole" 1 M_is_whole) :
    Callee P w K mg base 5 "unlike_bar_holds" 2 M_unlike_bar_holds :=
  calleeOf F sc_unlike_bar_holds hm (fun _ _ _ _ _ _ us hl => match us, hl with | [_, _], _ => rfl) fun cdv A outer s H E hr =>
  (ss_cons (ss_set 2 sc_unlike_bar_holds.nd (sx_callC C_tie_counts hr rfl (lenA_cons lenA_nil) (sa_cons (sx_var 0) sa_nil)))
  (ss_cons (ss_if (st_w (sw_or (st_not (st_val (sx_isi rfl h_isinstance rfl h_tuple boot_tuple (sx_var 1)))) (sw_or (st_cmp (op_notInA (u65 hr)) (notIn_ok _) (sx_callB cr_lenA (len_ok _) rfl h_len boot_len (sa_cons (sx_var 1) sa_nil)) (sx_tup (sa_cons sx_int (sa_cons sx_int sa_nil)))) (sw_or1 (st_not (st_val (sx_isi rfl h_isinstance rfl h_str boot_str (sx_item (u65 hr) (sx_var 1) sx_int))))))))
  (ss_one (ss_ret sx_bl))
  ss_nil)
  (ss_cons (ss_if (st_not (st_val (sx_callB (cr_all rfl) (all_ok _) rfl h_all boot_all (sa_cons (sx_comp rfl sc_unlike_bar_holds.nd (si_seq (sx_slice (sx_var 1) (so_some sx_int) so_none)) (own := [("one", 3)]) (blkB_ok (by kernel_rfl)) (by decide) (fun s H C cl fp => (sg_name 3 sc_unlike_bar_holds.nd)) (fun s H C cl fp => spt_nil) (fun s H C cl fp => (sx_callC C_is_whole hr rfl (lenA_cons lenA_nil) (sa_cons (sx_var 3) sa_nil)))) sa_nil))))
  (ss_one (ss_ret sx_bl))
  ss_nil)
  (ss_cons (ss_if (st_w (sw_and (st_cmp (op_eqD (u64 hr)) (eq_ok _) (sx_item (u65 hr) (sx_var 1) sx_int) sx_str) (sw_and (st_cmp (op_eqD (u64 hr)) (eq_ok _) (sx_callB cr_lenA (len_ok _) rfl h_len boot_len (sa_cons (sx_var 1) sa_nil)) sx_int) (sw_and1 (st_chain op_le (ltG_ok _ _) op_lt (ltG_ok _ _) sx_int (sx_item (u65 hr) (sx_var 1) sx_int) (sx_callB cr_lenA (len_ok _) rfl h_len boot_len (sa_cons (sx_item (u65 hr) (sx_var 0) sx_int) sa_nil)))))))
  (ss_one (ss_ret (sx_callB (cr_all rfl) (all_ok _) rfl h_all boot_all (sa_cons (sx_comp rfl sc_unlike_bar_holds.nd (si_seq (sx_item (u65 hr) (sx_item (u65 hr) (sx_var 0) sx_int) (sx_item (u65 hr) (sx_var 1) sx_int))) (own := [("place", 4)]) (blkB_ok (by kernel_rfl)) (by decide) (fun s H C cl fp => (sg_name 4 sc_unlike_bar_holds.nd)) (fun s H C cl fp => spt_nil) (fun s H C cl fp => (sx_cmp (op_eqD (u64 hr)) (eq_ok _) (sx_item (u65 hr) (sx_var 2) (sx_var 4)) sx_int))) sa_nil))))
  ss_nil)
  (ss_cons (ss_if (st_w (sw_and (st_cmp (op_eqD (u64 hr)) (eq_ok _) (sx_item (u65 hr) (sx_var 1) sx_int) sx_str) (sw_and (st_cmp (op_eqD (u64 hr)) (eq_ok _) (sx_callB cr_lenA (len_ok _) rfl h_len boot_len (sa_cons (sx_var 1) sa_nil)) sx_int) (sw_and1 (st_chain3 op_le (ltG_ok _ _) op_lt (ltG_ok _ _) op_lt (ltG_ok _ _) sx_int (sx_item (u65 hr) (sx_var 1) sx_int) (sx_item (u65 hr) (sx_var 1) sx_int) (sx_item (u65 hr) (sx_var 0) sx_int))))))
  (ss_one (ss_ret (sx_and (sx_cmp (op_eqD (u64 hr)) (eq_ok _) (sx_item (u65 hr) (sx_var 2) (sx_item (u65 hr) (sx_var 1) sx_int)) sx_int) (sx_one (sx_cmp (op_eqD (u64 hr)) (eq_ok _) (sx_item (u65 hr) (sx_var 2) (sx_item (u65 hr) (sx_var 1) sx_int)) sx_int)))))
  ss_nil)
  (ss_one (ss_ret sx_bl)))))))
theorem sc_unlike_bar : FnScope ["web", "k", "bare", "place", "count"] ["web"] (defScope s_unlike_bar) := ⟨rfl, rfl, rfl, by decide +kernel, rfl, by decide +kernel, by decide +kernel⟩
theorem ok_unlike_bar {P : Program} {w : World} {K : PySem.W.Frag} {mg : Str → Option Value} {base : Heap} {f : Addr} {fd : FuncData} (F : FunD K "unlike_bar" "unlike_bar" (defArgs s_unlike_bar) (defBody s_unlike_bar) (defScope s_unlike_bar) [] [] f fd) (hm : mg "unlike_bar" = some (.ref f)) (h_range : mg "range" = none) (h_len : mg "len" = none) (h_enumerate : mg "enumerate" = none) (C_unlike_bar_holds : Callee P w K mg base 5 "unlike_bar_holds" 2 M_unlike_bar_holds) (C_tie_counts : Callee P w K mg base 5 "tie_counts" 1 M_tie_counts) :
    Callee P w K mg base 6 "unlike_bar" 1 M_unlike_bar :=
  calleeOf F sc_unlike_bar hm (fun _ _ _ _ _ _ us hl => match us, hl with | [_], _ => rfl) fun cdv A outer s H E hr =>
  (ss_cons (ss_for rfl (si_rng1 rfl h_range (sx_callB cr_lenA (len_ok _) rfl h_len boot_len (sa_cons (sx_item (u65 hr) (sx_var 0) sx_int) sa_nil))) (sg_name 1 sc_unlike_bar.nd)
  (ss_one (ss_if (st_val (sx_callC C_unlike_bar_holds hr rfl (lenA_cons (lenA_cons lenA_nil)) (sa_cons (sx_var 0) (sa_cons (sx_tup (sa_cons sx_str (sa_cons (sx_var 1) sa_nil))) sa_nil))))
  (ss_one (ss_ret (sx_tup (sa_cons sx_str (sa_cons (sx_var 1) sa_nil)))))
  ss_nil)))
  (ss_cons (ss_setComp 2 rfl sc_unlike_bar.nd (si_enum rfl h_enumerate (sx_callC C_tie_counts hr rfl (lenA_cons lenA_nil) (sa_cons (sx_var 0) sa_nil))) (own := [("place", 3), ("count", 4)]) (blkB_ok (by kernel_rfl)) (by decide) (fun s H C cl fp => (sg_tup rfl (sgs_cons (sg_name 3 sc_unlike_bar.nd) (sgs_cons (sg_name 4 sc_unlike_bar.nd) sgs_nil)))) (fun s H C cl fp => (spt_one (st_cmp (op_eqD (u64 hr)) (eq_ok _) (sx_var 4) sx_int))) (fun s H C cl fp => (sx_var 3)))
  (ss_cons (ss_if (st_cmp op_gt (ltG_ok _ _) (sx_callB cr_lenA (len_ok _) rfl h_len boot_len (sa_cons (sx_var 2) sa_nil)) sx_int)
  (ss_one (ss_ret (sx_tup (sa_cons sx_str (sa_cons (sx_item (u65 hr) (sx_var 2) sx_int) (sa_cons (sx_item (u65 hr) (sx_var 2) sx_int) sa_nil))))))
  ss_nil)
  (ss_one (ss_ret sx_non)))))
theorem sc__law_right : FnScope ["web", "numbers", "found"] ["web", "numbers"] (defScope s__law_right) := ⟨rfl, rfl, rfl, by decide +kernel, rfl, by decide +kernel, by decide +kernel⟩
theorem ok__law_right {P : Program} {w : World} {K : PySem.W.Frag} {mg : Str → Option Value} {base : Heap} {f : Addr} {fd : FuncData} (F : FunD K "_law_right" "_law_right" (defArgs s__law_right) (defBody s__law_right) (defScope s__law_right) [] [] f fd) (hm : mg "_law_right" = some (.ref f)) (h_sorted : mg "sorted" = none) (h_sum : mg "sum" = none) (C_unlike_by : Callee P w K mg base 7 "unlike_by" 2 M_unlike_by) (C__law_unlike : Callee P w K mg base 7 "_law_unlike" 2 M__law_unlike) (C__law_sums_of : Callee P w K mg base 7 "_law_sums_of" 2 M__law_sums_of) (C_unlike_bar : Callee P w K mg base 7 "unlike_bar" 1 M_unlike_bar) :
    Callee P w K mg base 8 "_law_right" 2 M__law_right :=
  calleeOf F sc__law_right hm (fun _ _ _ _ _ _ us hl => match us, hl with | [_, _], _ => rfl) fun cdv A outer s H E hr =>
  (ss_cons (ss_set 2 sc__law_right.nd (sx_callC C_unlike_by hr rfl (lenA_cons (lenA_cons lenA_nil)) (sa_cons (sx_var 0) (sa_cons (sx_var 1) sa_nil))))
  (ss_cons (ss_if (st_w (sw_or (st_cmp (op_neD (u64 hr)) (ne_ok _) (sx_callB (cr_sortD hr) (sorted_ok _) rfl h_sorted boot_sorted (sa_cons (sx_var 2) sa_nil)) (sx_callB (cr_sortD hr) (sorted_ok _) rfl h_sorted boot_sorted (sa_cons (sx_var 1) sa_nil))) (sw_or1 (st_not (st_val (sx_callC C__law_unlike hr rfl (lenA_cons (lenA_cons lenA_nil)) (sa_cons (sx_var 0) (sa_cons (sx_var 2) sa_nil))))))))
  (ss_one (ss_ret sx_bl))
  ss_nil)
  (ss_one (ss_ret (sx_and (sx_cmp (op_eqD (u64 hr)) (eq_ok _) (sx_callB (cr_sumA rfl) (sum_ok _) rfl h_sum boot_sum (sa_cons (sx_callC C__law_sums_of hr rfl (lenA_cons (lenA_cons lenA_nil)) (sa_cons (sx_var 0) (sa_cons (sx_var 2) sa_nil))) sa_nil)) (sx_bin op_mulA (mul_ok _) sx_int (sx_callB (cr_sumA rfl) (sum_ok _) rfl h_sum boot_sum (sa_cons (sx_var 1) sa_nil)))) (sx_one (sx_cmp op_isN (isN_ok _) (sx_callC C_unlike_bar hr rfl (lenA_cons lenA_nil) (sa_cons (sx_var 0) sa_nil)) sx_non)))))))
theorem sc__law_more_tied : FnScope ["web", "one", "other"] ["web"] (defScope s__law_more_tied) := ⟨rfl, rfl, rfl, by decide +kernel, rfl, by decide +kernel, by decide +kernel⟩
theorem ok__law_more_tied {P : Program} {w : World} {K : PySem.W.Frag} {mg : Str → Option Value} {base : Heap} {f : Addr} {fd : FuncData} (F : FunD K "_law_more_tied" "_law_more_tied" (defArgs s__law_more_tied) (defBody s__law_more_tied) (defScope s__law_more_tied) [] [] f fd) (hm : mg "_law_more_tied" = some (.ref f)) (h_range : mg "range" = none) (h_sorted : mg "sorted" = none) (h_tuple : mg "tuple" = none) :
    Callee P w K mg base 1 "_law_more_tied" 1 M__law_more_tied :=
  calleeOf F sc__law_more_tied hm (fun _ _ _ _ _ _ us hl => match us, hl with | [_], _ => rfl) fun cdv A outer s H E hr =>
  (ss_cons (ss_for rfl (si_rng1 rfl h_range (sx_item (u65 hr) (sx_var 0) sx_int)) (sg_name 1 sc__law_more_tied.nd)
  (ss_one (ss_for rfl (si_rng2 rfl h_range (sx_bin op_addA (add_ok _) (sx_var 1) sx_int) (sx_item (u65 hr) (sx_var 0) sx_int)) (sg_name 2 sc__law_more_tied.nd)
  (ss_one (ss_if (st_cmp (op_notInA (u65 hr)) (notIn_ok _) (sx_tup (sa_cons (sx_var 1) (sa_cons (sx_var 2) sa_nil))) (sx_item (u65 hr) (sx_var 0) sx_int))
  (ss_one (ss_ret (sx_tup (sa_cons (sx_item (u65 hr) (sx_var 0) sx_int) (sa_cons (sx_callTy call_tuple_of (tuple_ok _) rfl h_tuple boot_tuple (sa_cons (sx_callB (cr_sortD hr) (sorted_ok _) rfl h_sorted boot_sorted (sa_cons (sx_bin op_addA (add_ok _) (sx_item (u65 hr) (sx_var 0) sx_int) (sx_tup (sa_cons (sx_tup (sa_cons (sx_var 1) (sa_cons (sx_var 2) sa_nil))) sa_nil))) sa_nil)) sa_nil)) sa_nil)))))
  ss_nil)))))
  (ss_one (ss_ret sx_non)))
theorem sc_legs_good : FnScope ["thing", "count"] ["thing"] (defScope s_legs_good) := ⟨rfl, rfl, rfl, by decide +kernel, rfl, by decide +kernel, by decide +kernel⟩
theorem ok_legs_good {P : Program} {w : World} {K : PySem.W.Frag} {mg : Str → Option Value} {base : Heap} {f : Addr} {fd : FuncData} (F : FunD K "legs_good" "legs_good" (defArgs s_legs_good) (defBody s_legs_good) (defScope s_legs_good) [] [] f fd) (hm : mg "legs_good" = some (.ref f)) (h_isinstance : mg "isinstance" = none) (h_tuple : mg "tuple" = none) (h_len : mg "len" = none) (i_MOST_PLACES : ∃ t, mg "MOST_PLACES" = some (.int (40) t)) (h_all : mg "all" = none) (h_sum : mg "sum" = none) (C_is_whole : Callee P w K mg base 1 "is_whole" 1 M_is_whole) :
    Callee P w K mg base 2 "legs_good" 1 M_legs_good :=
  calleeOf F sc_legs_good hm (fun _ _ _ _ _ _ us hl => match us, hl with | [_], _ => rfl) fun cdv A outer s H E hr =>
  (ss_cons (ss_if (st_w (sw_or (st_not (st_val (sx_isi rfl h_isinstance rfl h_tuple boot_tuple (sx_var 0)))) (sw_or (st_cmp op_lt (ltG_ok _ _) (sx_callB cr_lenA (len_ok _) rfl h_len boot_len (sa_cons (sx_var 0) sa_nil)) sx_int) (sw_or1 (st_cmp op_gt (ltG_ok _ _) (sx_callB cr_lenA (len_ok _) rfl h_len boot_len (sa_cons (sx_var 0) sa_nil)) (sx_gint rfl i_MOST_PLACES))))))
  (ss_one (ss_ret sx_bl))
  ss_nil)
  (ss_cons (ss_if (st_not (st_val (sx_callB (cr_all rfl) (all_ok _) rfl h_all boot_all (sa_cons (sx_comp rfl sc_legs_good.nd (si_seq (sx_var 0)) (own := [("count", 1)]) (blkB_ok (by kernel_rfl)) (by decide) (fun s H C cl fp => (sg_name 1 sc_legs_good.nd)) (fun s H C cl fp => spt_nil) (fun s H C cl fp => (sx_and (sx_callC C_is_whole hr rfl (lenA_cons lenA_nil) (sa_cons (sx_var 1) sa_nil)) (sx_one (sx_chain op_le (ltG_ok _ _) op_le (ltG_ok _ _) sx_int (sx_var 1) (sx_gint rfl i_MOST_PLACES)))))) sa_nil))))
  (ss_one (ss_ret sx_bl))
  ss_nil)
  (ss_one (ss_ret (sx_cmp op_le (ltG_ok _ _) (sx_bin op_addA (add_ok _) (sx_callB cr_lenA (len_ok _) rfl h_len boot_len (sa_cons (sx_var 0) sa_nil)) (sx_callB (cr_sumA rfl) (sum_ok _) rfl h_sum boot_sum (sa_cons (sx_var 0) sa_nil))) (sx_gint rfl i_MOST_PLACES))))))
theorem sc_kind_form : FnScope ["thing", "size"] ["thing"] (defScope s_kind_form) := ⟨rfl, rfl, rfl, by decide +kernel, rfl, by decide +kernel, by decide +kernel⟩
theorem ok_kind_form {P : Program} {w : World} {K : PySem.W.Frag} {mg : Str → Option Value} {base : Heap} {f : Addr} {fd : FuncData} (F : FunD K "kind_form" "kind_form" (defArgs s_kind_form) (defBody s_kind_form) (defScope s_kind_form) [] [] f fd) (hm : mg "kind_form" = some (.ref f)) (h_isinstance : mg "isinstance" = none) (h_tuple : mg "tuple" = none) (h_len : mg "len" = none) (h_str : mg "str" = none) (i_MOST_PLACES : ∃ t, mg "MOST_PLACES" = some (.int (40) t)) (h_all : mg "all" = none) (k_LEAST : KC K w mg "LEAST" [("ring", 3), ("full", 1), ("wheel", 3), ("fan", 1)]) (C_legs_good : Callee P w K mg base 2 "legs_good" 1 M_legs_good) (C_is_whole : Callee P w K mg base 2 "is_whole" 1 M_is_whole) :
    Callee P w K mg base 3 "kind_form" 1 M_kind_form :=
  calleeOf F sc_kind_form hm (fun _ _ _ _ _ _ us hl => match us, hl with | [_], _ => rfl) fun cdv A outer s H E hr =>
  (ss_cons (ss_if (st_w (sw_or (st_not (st_val (sx_isi rfl h_isinstance rfl h_tuple boot_tuple (sx_var 0)))) (sw_or (st_cmp op_lt (ltG_ok _ _) (sx_callB cr_lenA (len_ok _) rfl h_len boot_len (sa_cons (sx_var 0) sa_nil)) sx_int) (sw_or1 (st_not (st_val (sx_isi rfl h_isinstance rfl h_str boot_str (sx_item (u65 hr) (sx_var 0) sx_int))))))))
  (ss_one (ss_ret sx_bl))
  ss_nil)
  (ss_cons (ss_if (st_cmp (op_eqD (u64 hr)) (eq_ok _) (sx_item (u65 hr) (sx_var 0) sx_int) sx_str)
  (ss_one (ss_ret (sx_and (sx_cmp (op_eqD (u64 hr)) (eq_ok _) (sx_callB cr_lenA (len_ok _) rfl h_len boot_len (sa_cons (sx_var 0) sa_nil)) sx_int) (sx_one (sx_callC C_legs_good hr rfl (lenA_cons lenA_nil) (sa_cons (sx_item (u65 hr) (sx_var 0) sx_int) sa_nil))))))
  ss_nil)
  (ss_cons (ss_if (st_not (st_val (sx_callB (cr_all rfl) (all_ok _) rfl h_all boot_all (sa_cons (sx_comp rfl sc_kind_form.nd (si_seq (sx_slice (sx_var 0) (so_some sx_int) so_none)) (own := [("size", 1)]) (blkB_ok (by kernel_rfl)) (by decide) (fun s H C cl fp => (sg_name 1 sc_kind_form.nd)) (fun s H C cl fp => spt_nil) (fun s H C cl fp => (sx_and (sx_callC C_is_whole hr rfl (lenA_cons lenA_nil) (sa_cons (sx_var 1) sa_nil)) (sx_one (sx_chain op_le (ltG_ok _ _) op_le (ltG_ok _ _) sx_int (sx_var 1) (sx_gint rfl i_MOST_PLACES)))))) sa_nil))))
  (ss_one (ss_ret sx_bl))
  ss_nil)
  (ss_cons (ss_if (st_cmp (op_eqD (u64 hr)) (eq_ok _) (sx_item (u65 hr) (sx_var 0) sx_int) sx_str)
  (ss_one (ss_ret (sx_cmp (op_eqD (u64 hr)) (eq_ok _) (sx_callB cr_lenA (len_ok _) rfl h_len boot_len (sa_cons (sx_var 0) sa_nil)) sx_int)))
  ss_nil)
  (ss_one (ss_ret (sx_and (sx_inC k_LEAST rfl (sx_item (u65 hr) (sx_var 0) sx_int)) (sx_and (sx_cmp (op_eqD (u64 hr)) (eq_ok _) (sx_callB cr_lenA (len_ok _) rfl h_len boot_len (sa_cons (sx_var 0) sa_nil)) sx_int) (sx_one (sx_cmp op_ge (ltG_ok _ _) (sx_item (u65 hr) (sx_var 0) sx_int) (sx_ixC k_LEAST rfl (sx_item (u65 hr) (sx_var 0) sx_int))))))))))))
theorem sc_spine_ties : FnScope ["legs", "many", "ties", "place", "count", "number"] ["legs"] (defScope s_spine_ties) := ⟨rfl, rfl, rfl, by decide +kernel, rfl, by decide +kernel, by decide +kernel⟩
theorem ok_spine_ties {P : Program} {w : World} {K : PySem.W.Frag} {mg : Str → Option Value} {base : Heap} {f : Addr} {fd : FuncData} (F : FunD K "spine_ties" "spine_ties" (defArgs s_spine_ties) (defBody s_spine_ties) (defScope s_spine_ties) [] [] f fd) (hm : mg "spine_ties" = some (.ref f)) (h_len : mg "len" = none) (h_range : mg "range" = none) (h_enumerate : mg "enumerate" = none) :
    Callee P w K mg base 1 "spine_ties" 1 M_spine_ties :=
  calleeOf F sc_spine_ties hm (fun _ _ _ _ _ _ us hl => match us, hl with | [_], _ => rfl) fun cdv A outer s H E hr =>
  (ss_cons (ss_set 1 sc_spine_ties.nd (sx_callB cr_lenA (len_ok _) rfl h_len boot_len (sa_cons (sx_var 0) sa_nil)))
  (ss_cons (ss_setComp 2 rfl sc_spine_ties.nd (si_rng1 rfl h_range (sx_bin op_sub (sub_ok _) (sx_var 1) sx_int)) (own := [("place", 3)]) (blkB_ok (by kernel_rfl)) (by decide) (fun s H C cl fp => (sg_name 3 sc_spine_ties.nd)) (fun s H C cl fp => spt_nil) (fun s H C cl fp => (sx_tup (sa_cons (sx_var 3) (sa_cons (sx_bin op_addA (add_ok _) (sx_var 3) sx_int) sa_nil)))))
  (ss_cons (ss_for rfl (si_enum rfl h_enumerate (sx_var 0)) (sg_tup rfl (sgs_cons (sg_name 3 sc_spine_ties.nd) (sgs_cons (sg_name 4 sc_spine_ties.nd) sgs_nil)))
  (ss_cons (ss_expr (sx_mutL 2 PySem.F.plainAttrs_list PySem.F.slot_list_extend rfl mt_extendA (extend_ok _) (sa_cons (sx_comp rfl sc_spine_ties.nd (si_rng1 rfl h_range (sx_var 4)) (own := [("number", 5)]) (blkB_ok (by kernel_rfl)) (by decide) (fun s H C cl fp => (sg_name 5 sc_spine_ties.nd)) (fun s H C cl fp => spt_nil) (fun s H C cl fp => (sx_tup (sa_cons (sx_var 3) (sa_cons (sx_bin op_addA (add_ok _) (sx_var 1) (sx_var 5)) sa_nil))))) sa_nil)))
  (ss_one (ss_set 1 sc_spine_ties.nd (sx_bin op_addA (add_ok _) (sx_var 1) (sx_var 4))))))
  (ss_one (ss_ret (sx_tup (sa_cons (sx_var 1) (sa_cons (sx_var 2) sa_nil))))))))
theorem sc_row_ties : FnScope ["first", "last", "place"] ["first", "last"] (defScope s_row_ties) := ⟨rfl, rfl, rfl, by decide +kernel, rfl, by decide +kernel, by decide +kernel⟩
theorem ok_row_ties {P : Program} {w : World} {K : PySem.W.Frag} {mg : Str → Option Value} {base : Heap} {f : Addr} {fd : FuncData} (F : FunD K "row_ties" "row_ties" (defArgs s_row_ties) (defBody s_row_ties) (defScope s_row_ties) [] [] f fd) (hm : mg "row_ties" = some (.ref f)) (h_range : mg "range" = none) :
    Callee P w K mg base 1 "row_ties" 2 M_row_ties :=
  calleeOf F sc_row_ties hm (fun _ _ _ _ _ _ us hl => match us, hl with | [_, _], _ => rfl) fun cdv A outer s H E hr =>
  (ss_one (ss_ret (sx_comp rfl sc_row_ties.nd (si_rng2 rfl h_range (sx_var 0) (sx_var 1)) (own := [("place", 2)]) (blkB_ok (by kernel_rfl)) (by decide) (fun s H C cl fp => (sg_name 2 sc_row_ties.nd)) (fun s H C cl fp => spt_nil) (fun s H C cl fp => (sx_tup (sa_cons (sx_var 2) (sa_cons (sx_bin op_addA (add_ok _) (sx_var 2) sx_int) sa_nil)))))))
theorem sc_kind_ties : FnScope ["kind", "size", "ties", "one", "place", "other"] ["kind"] (defScope s_kind_ties) := ⟨rfl, rfl, rfl, by decide +kernel, rfl, by decide +kernel, by decide +kernel⟩
theorem ok_kind_ties {P : Program} {w : World} {K : PySem.W.Frag} {mg : Str → Option Value} {base : Heap} {f : Addr} {fd : FuncData} (F : FunD K "kind_ties" "kind_ties" (defArgs s_kind_ties) (defBody s_kind_ties) (defScope s_kind_ties) [] [] f fd) (hm : mg "kind_ties" = some (.ref f)) (h_range : mg "range" = none) (C_spine_ties : Callee P w K mg base 1 "spine_ties" 1 M_spine_ties) (C_row_ties : Callee P w K mg base 1 "row_ties" 2 M_row_ties) :
    Callee P w K mg base 2 "kind_ties" 1 M_kind_ties :=
  calleeOf F sc_kind_ties hm (fun _ _ _ _ _ _ us hl => match us, hl with | [_], _ => rfl) fun cdv A outer s H E hr =>
  (ss_cons (ss_if (st_cmp (op_eqD (u64 hr)) (eq_ok _) (sx_item (u65 hr) (sx_var 0) sx_int) sx_str)
  (ss_one (ss_ret (sx_callC C_spine_ties hr rfl (lenA_cons lenA_nil) (sa_cons (sx_item (u65 hr) (sx_var 0) sx_int) sa_nil))))
  ss_nil)
  (ss_cons (ss_set 1 sc_kind_ties.nd (sx_item (u65 hr) (sx_var 0) sx_int))
  (ss_cons (ss_if (st_cmp (op_eqD (u64 hr)) (eq_ok _) (sx_item (u65 hr) (sx_var 0) sx_int) sx_str)
  (ss_one (ss_ret (sx_tup (sa_cons (sx_var 1) (sa_cons (sx_bin op_addA (add_ok _) (sx_callC C_row_ties hr rfl (lenA_cons (lenA_cons lenA_nil)) (sa_cons sx_int (sa_cons (sx_bin op_sub (sub_ok _) (sx_var 1) sx_int) sa_nil))) (sx_lst (sa_cons (sx_tup (sa_cons sx_int (sa_cons (sx_bin op_sub (sub_ok _) (sx_var 1) sx_int) sa_nil))) sa_nil))) sa_nil)))))
  ss_nil)
  (ss_cons (ss_if (st_cmp (op_eqD (u64 hr)) (eq_ok _) (sx_item (u65 hr) (sx_var 0) sx_int) sx_str)
  (ss_cons (ss_set 2 sc_kind_ties.nd (sx_lst sa_nil))
  (ss_cons (ss_for rfl (si_rng1 rfl h_range (sx_var 1)) (sg_name 3 sc_kind_ties.nd)
  (ss_one (ss_expr (sx_mutL 2 PySem.F.plainAttrs_list PySem.F.slot_list_extend rfl mt_extendA (extend_ok _) (sa_cons (sx_comp rfl sc_kind_ties.nd (si_rng2 rfl h_range (sx_bin op_addA (add_ok _) (sx_var 3) sx_int) (sx_var 1)) (own := [("other", 5)]) (blkB_ok (by kernel_rfl)) (by decide) (fun s H C cl fp => (sg_name 5 sc_kind_ties.nd)) (fun s H C cl fp => spt_nil) (fun s H C cl fp => (sx_tup (sa_cons (sx_var 3) (sa_cons (sx_var 5) sa_nil))))) sa_nil)))))
  (ss_one (ss_ret (sx_tup (sa_cons (sx_var 1) (sa_cons (sx_var 2) sa_nil)))))))
  ss_nil)
  (ss_cons (ss_if (st_cmp (op_eqD (u64 hr)) (eq_ok _) (sx_item (u65 hr) (sx_var 0) sx_int) sx_str)
  (ss_cons (ss_set 2 sc_kind_ties.nd (sx_lst sa_nil))
  (ss_cons (ss_for rfl (si_rng1 rfl h_range (sx_var 1)) (sg_name 3 sc_kind_ties.nd)
  (ss_one (ss_expr (sx_mutL 2 PySem.F.plainAttrs_list PySem.F.slot_list_extend rfl mt_extendA (extend_ok _) (sa_cons (sx_comp rfl sc_kind_ties.nd (si_rng1 rfl h_range (sx_item (u65 hr) (sx_var 0) sx_int)) (own := [("other", 5)]) (blkB_ok (by kernel_rfl)) (by decide) (fun s H C cl fp => (sg_name 5 sc_kind_ties.nd)) (fun s H C cl fp => spt_nil) (fun s H C cl fp => (sx_tup (sa_cons (sx_var 3) (sa_cons (sx_bin op_addA (add_ok _) (sx_var 1) (sx_var 5)) sa_nil))))) sa_nil)))))
  (ss_one (ss_ret (sx_tup (sa_cons (sx_bin op_addA (add_ok _) (sx_var 1) (sx_item (u65 hr) (sx_var 0) sx_int)) (sa_cons (sx_var 2) sa_nil)))))))
  ss_nil)
  (ss_cons (ss_set 2 sc_kind_ties.nd (sx_bin op_addA (add_ok _) (sx_comp rfl sc_kind_ties.nd (si_rng2 rfl h_range sx_int (sx_bin op_addA (add_ok _) (sx_var 1) sx_int)) (own := [("place", 4)]) (blkB_ok (by kernel_rfl)) (by decide) (fun s H C cl fp => (sg_name 4 sc_kind_ties.nd)) (fun s H C cl fp => spt_nil) (fun s H C cl fp => (sx_tup (sa_cons sx_int (sa_cons (sx_var 4) sa_nil))))) (sx_callC C_row_ties hr rfl (lenA_cons (lenA_cons lenA_nil)) (sa_cons sx_int (sa_cons (sx_var 1) sa_nil)))))
  (ss_cons (ss_if (st_cmp (op_eqD (u64 hr)) (eq_ok _) (sx_item (u65 hr) (sx_var 0) sx_int) sx_str)
  (ss_one (ss_expr (sx_mutL 2 PySem.F.plainAttrs_list PySem.F.slot_list_append rfl mt_append (append_ok _) (sa_cons (sx_tup (sa_cons sx_int (sa_cons (sx_var 1) sa_nil))) sa_nil))))
  ss_nil)
  (ss_one (ss_ret (sx_tup (sa_cons (sx_bin op_addA (add_ok _) (sx_var 1) sx_int) (sa_cons (sx_var 2) sa_nil))))))))))))
theorem sc_kind_good : FnScope ["thing", "many", "ties"] ["thing"] (defScope s_kind_good) := ⟨rfl, rfl, rfl, by decide +kernel, rfl, by decide +kernel, by decide +kernel⟩
theorem ok_kind_good {P : Program} {w : World} {K : PySem.W.Frag} {mg : Str → Option Value} {base : Heap} {f : Addr} {fd : FuncData} (F : FunD K "kind_good" "kind_good" (defArgs s_kind_good) (defBody s_kind_good) (defScope s_kind_good) [] [] f fd) (hm : mg "kind_good" = some (.ref f)) (i_MOST_PLACES : ∃ t, mg "MOST_PLACES" = some (.int (40) t)) (h_len : mg "len" = none) (i_MOST_TIES : ∃ t, mg "MOST_TIES" = some (.int (60) t)) (C_kind_form : Callee P w K mg base 3 "kind_form" 1 M_kind_form) (C_kind_ties : Callee P w K mg base 3 "kind_ties" 1 M_kind_ties) :
    Callee P w K mg base 4 "kind_good" 1 M_kind_good :=
  calleeOf F sc_kind_good hm (fun _ _ _ _ _ _ us hl => match us, hl with | [_], _ => rfl) fun cdv A outer s H E hr =>
  (ss_cons (ss_if (st_not (st_val (sx_callC C_kind_form hr rfl (lenA_cons lenA_nil) (sa_cons (sx_var 0) sa_nil))))
  (ss_one (ss_ret sx_bl))
  ss_nil)
  (ss_cons (ss_unp (sx_callC C_kind_ties hr rfl (lenA_cons lenA_nil) (sa_cons (sx_var 0) sa_nil)) (sg_tup rfl (sgs_cons (sg_name 1 sc_kind_good.nd) (sgs_cons (sg_name 2 sc_kind_good.nd) sgs_nil))))
  (ss_one (ss_ret (sx_and (sx_cmp op_le (ltG_ok _ _) (sx_var 1) (sx_gint rfl i_MOST_PLACES)) (sx_one (sx_cmp op_le (ltG_ok _ _) (sx_callB cr_lenA (len_ok _) rfl h_len boot_len (sa_cons (sx_var 2) sa_nil)) (sx_gint rfl i_MOST_TIES))))))))
theorem sc_web_for : FnScope ["kind", "many", "ties"] ["kind"] (defScope s_web_for) := ⟨rfl, rfl, rfl, by decide +kernel, rfl, by decide +kernel, by decide +kernel⟩
theorem ok_web_for {P : Program} {w : World} {K : PySem.W.Frag} {mg : Str → Option Value} {base : Heap} {f : Addr} {fd : FuncData} (F : FunD K "web_for" "web_for" (defArgs s_web_for) (defBody s_web_for) (defScope s_web_for) [] [] f fd) (hm : mg "web_for" = some (.ref f)) (EX : ExS K mg XS) (x_NoKind : (He.Fa.exc "NoKind").ok K = true) (h_sorted : mg "sorted" = none) (h_tuple : mg "tuple" = none) (C_kind_good : Callee P w K mg base 4 "kind_good" 1 M_kind_good) (C_kind_ties : Callee P w K mg base 4 "kind_ties" 1 M_kind_ties) :
    Callee P w K mg base 5 "web_for" 1 M_web_for :=
  calleeOf F sc_web_for hm (fun _ _ _ _ _ _ us hl => match us, hl with | [_], _ => rfl) fun cdv A outer s H E hr =>
  (ss_cons (ss_if (st_not (st_val (sx_callC C_kind_good hr rfl (lenA_cons lenA_nil) (sa_cons (sx_var 0) sa_nil))))
  (ss_one (ss_raise0 rfl rfl (EX.all "NoKind" (by decide)).glo x_NoKind))
  ss_nil)
  (ss_cons (ss_unp (sx_callC C_kind_ties hr rfl (lenA_cons lenA_nil) (sa_cons (sx_var 0) sa_nil)) (sg_tup rfl (sgs_cons (sg_name 1 sc_web_for.nd) (sgs_cons (sg_name 2 sc_web_for.nd) sgs_nil))))
  (ss_one (ss_ret (sx_tup (sa_cons (sx_var 1) (sa_cons (sx_callTy call_tuple_of (tuple_ok _) rfl h_tuple boot_tuple (sa_cons (sx_callB (cr_sortD hr) (sorted_ok _) rfl h_sorted boot_sorted (sa_cons (sx_var 2) sa_nil)) sa_nil)) sa_nil)))))))
theorem sc_put_in_order : FnScope ["web", "ties", "numbers", "found", "tie", "number"] ["web", "ties", "numbers"] (defScope s_put_in_order) := ⟨rfl, rfl, rfl, by decide +kernel, rfl, by decide +kernel, by decide +kernel⟩
theorem ok_put_in_order {P : Program} {w : World} {K : PySem.W.Frag} {mg : Str → Option Value} {base : Heap} {f : Addr} {fd : FuncData} (F : FunD K "put_in_order" "put_in_order" (defArgs s_put_in_order) (defBody s_put_in_order) (defScope s_put_in_order) [] [] f fd) (hm : mg "put_in_order" = some (.ref f)) (h_zip : mg "zip" = none) (h_tuple : mg "tuple" = none) :
    Callee P w K mg base 1 "put_in_order" 3 M_put_in_order :=
  calleeOf F sc_put_in_order hm (fun _ _ _ _ _ _ us hl => match us, hl with | [_, _, _], _ => rfl) fun cdv A outer s H E hr =>
  (ss_cons (ss_set 3 sc_put_in_order.nd sx_newT)
  (ss_cons (ss_for rfl (si_zipM rfl h_zip (sx_var 1) (sx_var 2)) (sg_tup rfl (sgs_cons (sg_name 4 sc_put_in_order.nd) (sgs_cons (sg_name 5 sc_put_in_order.nd) sgs_nil)))
  (ss_one (ss_unp (sx_var 5) (sg_put 3 (set_any (u65 hr)) (putA_ok _) (sx_var 4)))))
  (ss_one (ss_ret (sx_callTy call_tuple_of (tuple_ok _) rfl h_tuple boot_tuple (sa_cons (sx_comp rfl sc_put_in_order.nd (si_seq (sx_item (u65 hr) (sx_var 0) sx_int)) (own := [("tie", 4)]) (blkB_ok (by kernel_rfl)) (by decide) (fun s H C cl fp => (sg_name 4 sc_put_in_order.nd)) (fun s H C cl fp => spt_nil) (fun s H C cl fp => (sx_item (u65 hr) (sx_var 3) (sx_var 4)))) sa_nil))))))
theorem sc_ring_numbers : FnScope ["size", "falling", "number"] ["size"] (defScope s_ring_numbers) := ⟨rfl, rfl, rfl, by decide +kernel, rfl, by decide +kernel, by decide +kernel⟩
theorem ok_ring_numbers {P : Program} {w : World} {K : PySem.W.Frag} {mg : Str → Option Value} {base : Heap} {f : Addr} {fd : FuncData} (F : FunD K "ring_numbers" "ring_numbers" (defArgs s_ring_numbers) (defBody s_ring_numbers) (defScope s_ring_numbers) [] [] f fd) (hm : mg "ring_numbers" = some (.ref f)) (h_range : mg "range" = none) :
    Callee P w K mg base 1 "ring_numbers" 1 M_ring_numbers :=
  calleeOf F sc_ring_numbers hm (fun _ _ _ _ _ _ us hl => match us, hl with | [_], _ => rfl) fun cdv A outer s H E hr =>
  (ss_cons (ss_setComp 1 rfl sc_ring_numbers.nd (si_rng3 rfl h_range (sx_var 0) sx_int (sx_un un_neg (neg_ok _) sx_int)) (own := [("number", 2)]) (blkB_ok (by kernel_rfl)) (by decide) (fun s H C cl fp => (sg_name 2 sc_ring_numbers.nd)) (fun s H C cl fp => (spt_one (st_cmp (op_eqD (u64 hr)) (eq_ok _) (sx_bin op_mod (mod_ok _) (sx_var 2) sx_int) sx_int))) (fun s H C cl fp => (sx_var 2)))
  (ss_one (ss_ret (sx_bin op_addA (add_ok _) (sx_comp rfl sc_ring_numbers.nd (si_rng2 rfl h_range sx_int (sx_bin op_addA (add_ok _) (sx_var 0) sx_int)) (own := [("number", 2)]) (blkB_ok (by kernel_rfl)) (by decide) (fun s H C cl fp => (sg_name 2 sc_ring_numbers.nd)) (fun s H C cl fp => (spt_one (st_cmp (op_eqD (u64 hr)) (eq_ok _) (sx_bin op_mod (mod_ok _) (sx_var 2) sx_int) sx_int))) (fun s H C cl fp => (sx_var 2))) (sx_var 1)))))
theorem sc_row_numbers : FnScope ["last", "found"] ["last"] (defScope s_row_numbers) := ⟨rfl, rfl, rfl, by decide +kernel, rfl, by decide +kernel, by decide +kernel⟩
theorem ok_row_numbers {P : Program} {w : World} {K : PySem.W.Frag} {mg : Str → Option Value} {base : Heap} {f : Addr} {fd : FuncData} (F : FunD K "row_numbers" "row_numbers" (defArgs s_row_numbers) (defBody s_row_numbers) (defScope s_row_numbers) [] [] f fd) (hm : mg "row_numbers" = some (.ref f)) (h_range : mg "range" = none) (h_list : mg "list" = none) :
    Callee P w K mg base 1 "row_numbers" 1 M_row_numbers :=
  calleeOf F sc_row_numbers hm (fun _ _ _ _ _ _ us hl => match us, hl with | [_], _ => rfl) fun cdv A outer s H E hr =>
  (ss_cons (ss_set 1 sc_row_numbers.nd (sx_lstRg rfl rfl h_list (sr_2 rfl h_range sx_int (sx_bin op_addA (add_ok _) (sx_var 0) sx_int))))
  (ss_cons (ss_if (st_cmp (op_eqD (u64 hr)) (eq_ok _) (sx_bin op_mod (mod_ok _) (sx_var 0) sx_int) sx_int)
  (ss_one (ss_ret (sx_bin op_addA (add_ok _) (sx_slice (sx_var 1) so_none (so_some (sx_un un_neg (neg_ok _) sx_int))) (sx_lst (sa_cons (sx_var 0) (sa_cons (sx_bin op_sub (sub_ok _) (sx_var 0) sx_int) sa_nil))))))
  ss_nil)
  (ss_one (ss_ret (sx_var 1)))))
theorem sc_unlike_for : FnScope ["kind", "web", "row", "place"] ["kind"] (defScope s_unlike_for) := ⟨rfl, rfl, rfl, by decide +kernel, rfl, by decide +kernel, by decide +kernel⟩
theorem ok_unlike_for {P : Program} {w : World} {K : PySem.W.Frag} {mg : Str → Option Value} {base : Heap} {f : Addr} {fd : FuncData} (F : FunD K "unlike_for" "unlike_for" (defArgs s_unlike_for) (defBody s_unlike_for) (defScope s_unlike_for) [] [] f fd) (hm : mg "unlike_for" = some (.ref f)) (EX : ExS K mg XS) (x_NoKind : (He.Fa.exc "NoKind").ok K = true) (h_range : mg "range" = none) (h_max : mg "max" = none) (h_len : mg "len" = none) (h_list : mg "list" = none) (C_kind_good : Callee P w K mg base 7 "kind_good" 1 M_kind_good) (C_web_for : Callee P w K mg base 7 "web_for" 1 M_web_for) (C_put_in_order : Callee P w K mg base 7 "put_in_order" 3 M_put_in_order) (C_ring_numbers : Callee P w K mg base 7 "ring_numbers" 1 M_ring_numbers) (C_row_numbers : Callee P w K mg base 7 "row_numbers" 1 M_row_numbers) (C_unlike_by : Callee P w K mg base 7 "unlike_by" 2 M_unlike_by) :
    Callee P w K mg base 8 "unlike_for" 1 M_unlike_for :=
  calleeOf F sc_unlike_for hm (fun _ _ _ _ _ _ us hl => match us, hl with | [_], _ => rfl) fun cdv A outer s H E hr =>
  (ss_cons (ss_if (st_not (st_val (sx_callC C_kind_good hr rfl (lenA_cons lenA_nil) (sa_cons (sx_var 0) sa_nil))))
  (ss_one (ss_raise0 rfl rfl (EX.all "NoKind" (by decide)).glo x_NoKind))
  ss_nil)
  (ss_cons (ss_set 1 sc_unlike_for.nd (sx_callC C_web_for hr rfl (lenA_cons lenA_nil) (sa_cons (sx_var 0) sa_nil)))
  (ss_cons (ss_setComp 2 rfl sc_unlike_for.nd (si_rng1 rfl h_range (sx_bin op_sub (sub_ok _) (sx_item (u65 hr) (sx_var 1) sx_int) sx_int)) (own := [("place", 3)]) (blkB_ok (by kernel_rfl)) (by decide) (fun s H C cl fp => (sg_name 3 sc_unlike_for.nd)) (fun s H C cl fp => spt_nil) (fun s H C cl fp => (sx_tup (sa_cons (sx_var 3) (sa_cons (sx_bin op_addA (add_ok _) (sx_var 3) sx_int) sa_nil)))))
  (ss_cons (ss_if (st_cmp (op_eqD (u64 hr)) (eq_ok _) (sx_item (u65 hr) (sx_var 0) sx_int) sx_str)
  (ss_one (ss_ret (sx_callC C_put_in_order hr rfl (lenA_cons (lenA_cons (lenA_cons lenA_nil))) (sa_cons (sx_var 1) (sa_cons (sx_bin op_addA (add_ok _) (sx_var 2) (sx_lst (sa_cons (sx_tup (sa_cons sx_int (sa_cons (sx_bin op_sub (sub_ok _) (sx_item (u65 hr) (sx_var 1) sx_int) sx_int) sa_nil))) sa_nil))) (sa_cons (sx_callC C_ring_numbers hr rfl (lenA_cons lenA_nil) (sa_cons (sx_item (u65 hr) (sx_var 1) sx_int) sa_nil)) sa_nil))))))
  ss_nil)
  (ss_cons (ss_if (st_w (sw_and (st_cmp (op_eqD (u64 hr)) (eq_ok _) (sx_item (u65 hr) (sx_var 0) sx_int) sx_str) (sw_and (st_cmp (op_eqD (u64 hr)) (eq_ok _) (sx_callB (cr_maxA rfl hr) (fold_ok _ max) rfl h_max boot_max (sa_cons (sx_item (u65 hr) (sx_var 0) sx_int) sa_nil)) sx_int) (sw_and1 (st_cmp op_gt (ltG_ok _ _) (sx_item (u65 hr) (sx_var 1) sx_int) sx_int)))))
  (ss_one (ss_ret (sx_callC C_put_in_order hr rfl (lenA_cons (lenA_cons (lenA_cons lenA_nil))) (sa_cons (sx_var 1) (sa_cons (sx_var 2) (sa_cons (sx_callC C_row_numbers hr rfl (lenA_cons lenA_nil) (sa_cons (sx_callB cr_lenA (len_ok _) rfl h_len boot_len (sa_cons (sx_var 2) sa_nil)) sa_nil)) sa_nil))))))
  ss_nil)
  (ss_one (ss_ret (sx_callC C_unlike_by hr rfl (lenA_cons (lenA_cons lenA_nil)) (sa_cons (sx_var 1) (sa_cons (sx_lstRg rfl rfl h_list (sr_2 rfl h_range sx_int (sx_bin op_addA (add_ok _) (sx_callB cr_lenA (len_ok _) rfl h_len boot_len (sa_cons (sx_item (u65 hr) (sx_var 1) sx_int) sa_nil)) sx_int))) sa_nil))))))))))
theorem sc_are_numbers : FnScope ["thing", "size", "one"] ["thing", "size"] (defScope s_are_numbers) := ⟨rfl, rfl, rfl, by decide +kernel, rfl, by decide +kernel, by decide +kernel⟩
theorem ok_are_numbers {P : Program} {w : World} {K : PySem.W.Frag} {mg : Str → Option Value} {base : Heap} {f : Addr} {fd : FuncData} (F : FunD K "are_numbers" "are_numbers" (defArgs s_are_numbers) (defBody s_are_numbers) (defScope s_are_numbers) [] [] f fd) (hm : mg "are_numbers" = some (.ref f)) (h_isinstance : mg "isinstance" = none) (h_tuple : mg "tuple" = none) (h_len : mg "len" = none) (h_all : mg "all" = none) (C_is_whole : Callee P w K mg base 1 "is_whole" 1 M_is_whole) :
    Callee P w K mg base 2 "are_numbers" 2 M_are_numbers :=
  calleeOf F sc_are_numbers hm (fun _ _ _ _ _ _ us hl => match us, hl with | [_, _], _ => rfl) fun cdv A outer s H E hr =>
  (ss_one (ss_ret (sx_and (sx_isi rfl h_isinstance rfl h_tuple boot_tuple (sx_var 0)) (sx_and (sx_cmp (op_eqD (u64 hr)) (eq_ok _) (sx_callB cr_lenA (len_ok _) rfl h_len boot_len (sa_cons (sx_var 0) sa_nil)) (sx_var 1)) (sx_one (sx_callB (cr_all rfl) (all_ok _) rfl h_all boot_all (sa_cons (sx_comp rfl sc_are_numbers.nd (si_seq (sx_var 0)) (own := [("one", 2)]) (blkB_ok (by kernel_rfl)) (by decide) (fun s H C cl fp => (sg_name 2 sc_are_numbers.nd)) (fun s H C cl fp => spt_nil) (fun s H C cl fp => (sx_callC C_is_whole hr rfl (lenA_cons lenA_nil) (sa_cons (sx_var 2) sa_nil)))) sa_nil)))))))
theorem sc_sums_unlike : FnScope ["web", "numbers"] ["web", "numbers"] (defScope s_sums_unlike) := ⟨rfl, rfl, rfl, by decide +kernel, rfl, by decide +kernel, by decide +kernel⟩
theorem ok_sums_unlike {P : Program} {w : World} {K : PySem.W.Frag} {mg : Str → Option Value} {base : Heap} {f : Addr} {fd : FuncData} (F : FunD K "sums_unlike" "sums_unlike" (defArgs s_sums_unlike) (defBody s_sums_unlike) (defScope s_sums_unlike) [] [] f fd) (hm : mg "sums_unlike" = some (.ref f)) (h_len : mg "len" = none) (h_set : mg "set" = none) (C_sums_at : Callee P w K mg base 1 "sums_at" 2 M_sums_at) :
    Callee P w K mg base 2 "sums_unlike" 2 M_sums_unlike :=
  calleeOf F sc_sums_unlike hm (fun _ _ _ _ _ _ us hl => match us, hl with | [_, _], _ => rfl) fun cdv A outer s H E hr =>
  (ss_one (ss_ret (sx_cmp (op_eqD (u64 hr)) (eq_ok _) (sx_lenSet rfl rfl h_len rfl h_set (sx_callC C_sums_at hr rfl (lenA_cons (lenA_cons lenA_nil)) (sa_cons (sx_var 0) (sa_cons (sx_var 1) sa_nil)))) (sx_item (u65 hr) (sx_var 0) sx_int))))
theorem sc_unlike_good : FnScope ["web", "thing", "last"] ["web", "thing"] (defScope s_unlike_good) := ⟨rfl, rfl, rfl, by decide +kernel, rfl, by decide +kernel, by decide +kernel⟩
theorem ok_unlike_good {P : Program} {w : World} {K : PySem.W.Frag} {mg : Str → Option Value} {base : Heap} {f : Addr} {fd : FuncData} (F : FunD K "unlike_good" "unlike_good" (defArgs s_unlike_good) (defBody s_unlike_good) (defScope s_unlike_good) [] [] f fd) (hm : mg "unlike_good" = some (.ref f)) (h_len : mg "len" = none) (h_sorted : mg "sorted" = none) (h_range : mg "range" = none) (h_list : mg "list" = none) (C_are_numbers : Callee P w K mg base 2 "are_numbers" 2 M_are_numbers) (C_sums_unlike : Callee P w K mg base 2 "sums_unlike" 2 M_sums_unlike) :
    Callee P w K mg base 3 "unlike_good" 2 M_unlike_good :=
  calleeOf F sc_unlike_good hm (fun _ _ _ _ _ _ us hl => match us, hl with | [_, _], _ => rfl) fun cdv A outer s H E hr =>
  (ss_cons (ss_set 2 sc_unlike_good.nd (sx_callB cr_lenA (len_ok _) rfl h_len boot_len (sa_cons (sx_item (u65 hr) (sx_var 0) sx_int) sa_nil)))
  (ss_cons (ss_if (st_w (sw_or (st_not (st_val (sx_callC C_are_numbers hr rfl (lenA_cons (lenA_cons lenA_nil)) (sa_cons (sx_var 1) (sa_cons (sx_var 2) sa_nil))))) (sw_or1 (st_cmp (op_neD (u64 hr)) (ne_ok _) (sx_callB (cr_sortD hr) (sorted_ok _) rfl h_sorted boot_sorted (sa_cons (sx_var 1) sa_nil)) (sx_lstRg rfl rfl h_list (sr_2 rfl h_range sx_int (sx_bin op_addA (add_ok _) (sx_var 2) sx_int)))))))
  (ss_one (ss_ret sx_bl))
  ss_nil)
  (ss_one (ss_ret (sx_callC C_sums_unlike hr rfl (lenA_cons (lenA_cons lenA_nil)) (sa_cons (sx_var 0) (sa_cons (sx_var 1) sa_nil)))))))
theorem sc_law : FnScope ["script", "cell", "pen", "web", "numbers", "more", "wider", "kind", "found", "one"] ["script"] (defScope s_law) := ⟨rfl, rfl, rfl, by decide +kernel, rfl, by decide +kernel, by decide +kernel⟩
theorem fn_law {P : Program} {w : World} {K : PySem.W.Frag} {mg : Str → Option Value} {base : Heap} {f : Addr} {fd : FuncData} (F : FunD K "law" "law" (defArgs s_law) (defBody s_law) (defScope s_law) [] [] f fd) (h_len : mg "len" = none) (h_sorted : mg "sorted" = none) (h_range : mg "range" = none) (h_list : mg "list" = none) (C__law_cell_at : Callee P w K mg base 8 "_law_cell_at" 2 M__law_cell_at) (C__law_pen_of : Callee P w K mg base 8 "_law_pen_of" 1 M__law_pen_of) (C__law_hub_web : Callee P w K mg base 8 "_law_hub_web" 1 M__law_hub_web) (C__law_numbers_of : Callee P w K mg base 8 "_law_numbers_of" 2 M__law_numbers_of) (C__law_draw : Callee P w K mg base 8 "_law_draw" 2 M__law_draw) (C__law_right : Callee P w K mg base 8 "_law_right" 2 M__law_right) (C__law_more_tied : Callee P w K mg base 8 "_law_more_tied" 1 M__law_more_tied) (C_unlike_for : Callee P w K mg base 8 "unlike_for" 1 M_unlike_for) (C_unlike_good : Callee P w K mg base 8 "unlike_good" 2 M_unlike_good) (C_web_for : Callee P w K mg base 8 "web_for" 1 M_web_for) (C__law_unlike : Callee P w K mg base 8 "_law_unlike" 2 M__law_unlike) :
    FnOk P w K mg base (L2.CX P w) 9 f fd ["script"] (spF K mg 1 M_law) :=
  fn_sound F sc_law fun cdv A outer s H E hr =>
  (ss_cons (ss_for rfl (si_seq (sx_bin op_addA (add_ok _) (sx_lst (sa_cons (sx_callC C__law_cell_at hr rfl (lenA_cons (lenA_cons lenA_nil)) (sa_cons (sx_var 0) (sa_cons sx_int sa_nil))) sa_nil)) (sx_slice (sx_var 0) (so_some sx_int) (so_some sx_int)))) (sg_name 1 sc_law.nd)
  (ss_cons (ss_set 2 sc_law.nd (sx_callC C__law_pen_of hr rfl (lenA_cons lenA_nil) (sa_cons (sx_var 1) sa_nil)))
  (ss_cons (ss_set 3 sc_law.nd (sx_callC C__law_hub_web hr rfl (lenA_cons lenA_nil) (sa_cons (sx_var 2) sa_nil)))
  (ss_cons (ss_set 4 sc_law.nd (sx_callC C__law_numbers_of hr rfl (lenA_cons (lenA_cons lenA_nil)) (sa_cons (sx_var 2) (sa_cons (sx_callB cr_lenA (len_ok _) rfl h_len boot_len (sa_cons (sx_item (u65 hr) (sx_var 3) sx_int) sa_nil)) sa_nil))))
  (ss_cons (ss_set 5 sc_law.nd (sx_bin op_addA (add_ok _) sx_int (sx_callC C__law_draw hr rfl (lenA_cons (lenA_cons lenA_nil)) (sa_cons (sx_var 2) (sa_cons (sx_bin op_pow (pow_ok _) sx_int sx_int) sa_nil)))))
  (ss_cons (ss_if (st_w (sw_or (st_not (st_val (sx_callC C__law_right hr rfl (lenA_cons (lenA_cons lenA_nil)) (sa_cons (sx_var 3) (sa_cons (sx_var 4) sa_nil))))) (sw_or1 (st_not (st_val (sx_callC C__law_right hr rfl (lenA_cons (lenA_cons lenA_nil)) (sa_cons (sx_var 3) (sa_cons (sx_comp rfl sc_law.nd (si_seq (sx_rev (sx_var 4))) (own := [("one", 9)]) (blkB_ok (by kernel_rfl)) (by decide) (fun s H C cl fp => (sg_name 9 sc_law.nd)) (fun s H C cl fp => spt_nil) (fun s H C cl fp => (sx_bin op_addA (add_ok _) (sx_var 9) (sx_var 5)))) sa_nil))))))))
  (ss_one (ss_ret sx_bl))
  ss_nil)
  (ss_cons (ss_set 6 sc_law.nd (sx_callC C__law_more_tied hr rfl (lenA_cons lenA_nil) (sa_cons (sx_var 3) sa_nil)))
  (ss_cons (ss_if (st_w (sw_and (st_cmp op_notN (notN_ok _) (sx_var 6) sx_non) (sw_and1 (st_not (st_val (sx_callC C__law_right hr rfl (lenA_cons (lenA_cons lenA_nil)) (sa_cons (sx_var 6) (sa_cons (sx_bin op_addA (add_ok _) (sx_var 4) (sx_lst (sa_cons (sx_bin op_addA (add_ok _) (sx_item (u65 hr) (sx_var 4) (sx_un un_neg (neg_ok _) sx_int)) (sx_var 5)) sa_nil))) sa_nil))))))))
  (ss_one (ss_ret sx_bl))
  ss_nil)
  (ss_cons (ss_set 7 sc_law.nd (sx_item (u65 hr) (sx_lst (sa_cons (sx_tup (sa_cons sx_str (sa_cons (sx_bin op_addA (add_ok _) sx_int (sx_callC C__law_draw hr rfl (lenA_cons (lenA_cons lenA_nil)) (sa_cons (sx_var 2) (sa_cons sx_int sa_nil)))) sa_nil))) (sa_cons (sx_tup (sa_cons sx_str (sa_cons (sx_bin op_mulX (mulX_ok _) (sx_tup (sa_cons sx_int sa_nil)) (sx_bin op_addA (add_ok _) sx_int (sx_callC C__law_draw hr rfl (lenA_cons (lenA_cons lenA_nil)) (sa_cons (sx_var 2) (sa_cons sx_int sa_nil))))) sa_nil))) sa_nil))) (sx_callC C__law_draw hr rfl (lenA_cons (lenA_cons lenA_nil)) (sa_cons (sx_var 2) (sa_cons sx_int sa_nil)))))
  (ss_cons (ss_set 8 sc_law.nd (sx_callC C_unlike_for hr rfl (lenA_cons lenA_nil) (sa_cons (sx_var 7) sa_nil)))
  (ss_cons (ss_if (st_w (sw_or (st_not (st_val (sx_callC C_unlike_good hr rfl (lenA_cons (lenA_cons lenA_nil)) (sa_cons (sx_callC C_web_for hr rfl (lenA_cons lenA_nil) (sa_cons (sx_var 7) sa_nil)) (sa_cons (sx_var 8) sa_nil))))) (sw_or1 (st_not (st_val (sx_callC C__law_unlike hr rfl (lenA_cons (lenA_cons lenA_nil)) (sa_cons (sx_callC C_web_for hr rfl (lenA_cons lenA_nil) (sa_cons (sx_var 7) sa_nil)) (sa_cons (sx_var 8) sa_nil))))))))
  (ss_one (ss_ret sx_bl))
  ss_nil)
  (ss_one (ss_if (st_cmp (op_neD (u64 hr)) (ne_ok _) (sx_callB (cr_sortD hr) (sorted_ok _) rfl h_sorted boot_sorted (sa_cons (sx_var 8) sa_nil)) (sx_lstRg rfl rfl h_list (sr_2 rfl h_range sx_int (sx_bin op_addA (add_ok _) (sx_callB cr_lenA (len_ok _) rfl h_len boot_len (sa_cons (sx_var 8) sa_nil)) sx_int))))
  (ss_one (ss_ret sx_bl))
  ss_nil)))))))))))))
  (ss_one (ss_ret sx_bl)))
end K69
namespace K69
open PySem PySem.Spec PyProof.Rows L2 TN
theorem ob_eq (s : PySem.W.SharedT) : ob s = hk.obs s.abs := obsZ_eq (HandSHeadRun.getT_eq s)
theorem facts {P : Program} {w : World} {K : PySem.W.Frag} {h : Heap} {mg : Str → Option Value} {f : Addr} (X : K.In h) (G : h.Ns mainGlobals mg) (hfa : mg ("law" : Str) = some (.ref f)) (c : He.SaysD fas fns K) (cx : exAll XS K = true) (co : oxAll RS K = true) (ct : tabObs TS K = tabVal TS w) :
    ∃ fd : FuncData, (∀ (s : Shared) (u : Value), BindsTo s fd ⟨[u], []⟩ [("script", u)]) ∧ ∀ base : Heap, K.In base → base.Ns mainGlobals mg → FnOk P w K mg base (L2.CX P w) 9 f fd ["script"] (spF K mg 1 M_law) := by
  obtain ⟨fd__law_cell_at, F__law_cell_at⟩ := c.def_ 0 (d := d__law_cell_at) rfl
  obtain ⟨fd__law_pen_of, F__law_pen_of⟩ := c.def_ 1 (d := d__law_pen_of) rfl
  obtain ⟨fd__law_next, F__law_next⟩ := c.def_ 2 (d := d__law_next) rfl
  obtain ⟨fd__law_draw, F__law_draw⟩ := c.def_ 3 (d := d__law_draw) rfl
  obtain ⟨fd__law_order_of, F__law_order_of⟩ := c.def_ 4 (d := d__law_order_of) rfl
  obtain ⟨fd__law_hub_web, F__law_hub_web⟩ := c.def_ 5 (d := d__law_hub_web) rfl
  obtain ⟨fd__law_numbers_of, F__law_numbers_of⟩ := c.def_ 6 (d := d__law_numbers_of) rfl
  obtain ⟨fd_is_whole, F_is_whole⟩ := c.def_ 7 (d := d_is_whole) rfl
  obtain ⟨fd_check_place, F_check_place⟩ := c.def_ 8 (d := d_check_place) rfl
  obtain ⟨fd_ties_at, F_ties_at⟩ := c.def_ 9 (d := d_ties_at) rfl
  obtain ⟨fd_tie_counts, F_tie_counts⟩ := c.def_ 10 (d := d_tie_counts) rfl
  obtain ⟨fd_hubs_of, F_hubs_of⟩ := c.def_ 11 (d := d_hubs_of) rfl
  obtain ⟨fd_need_hub, F_need_hub⟩ := c.def_ 12 (d := d_need_hub) rfl
  obtain ⟨fd_sums_at, F_sums_at⟩ := c.def_ 13 (d := d_sums_at) rfl
  obtain ⟨fd_by_hub, F_by_hub⟩ := c.def_ 14 (d := d_by_hub) rfl
  obtain ⟨fd_numbers_in, F_numbers_in⟩ := c.def_ 15 (d := d_numbers_in) rfl
  obtain ⟨fd_unlike_by, F_unlike_by⟩ := c.def_ 16 (d := d_unlike_by) rfl
  obtain ⟨fd__law_sums_of, F__law_sums_of⟩ := c.def_ 17 (d := d__law_sums_of) rfl
  obtain ⟨fd__law_unlike, F__law_unlike⟩ := c.def_ 18 (d := d__law_unlike) rfl
  obtain ⟨fd_unlike_bar_holds, F_unlike_bar_holds⟩ := c.def_ 19 (d := d_unlike_bar_holds) rfl
  obtain ⟨fd_unlike_bar, F_unlike_bar⟩ := c.def_ 20 (d := d_unlike_bar) rfl
  obtain ⟨fd__law_right, F__law_right⟩ := c.def_ 21 (d := d__law_right) rfl
  obtain ⟨fd__law_more_tied, F__law_more_tied⟩ := c.def_ 22 (d := d__law_more_tied) rfl
  obtain ⟨fd_legs_good, F_legs_good⟩ := c.def_ 23 (d := d_legs_good) rfl
  obtain ⟨fd_kind_form, F_kind_form⟩ := c.def_ 24 (d := d_kind_form) rfl
  obtain ⟨fd_spine_ties, F_spine_ties⟩ := c.def_ 25 (d := d_spine_ties) rfl
  obtain ⟨fd_row_ties, F_row_ties⟩ := c.def_ 26 (d := d_row_ties) rfl
  obtain ⟨fd_kind_ties, F_kind_ties⟩ := c.def_ 27 (d := d_kind_ties) rfl
  obtain ⟨fd_kind_good, F_kind_good⟩ := c.def_ 28 (d := d_kind_good) rfl
  obtain ⟨fd_web_for, F_web_for⟩ := c.def_ 29 (d := d_web_for) rfl
  obtain ⟨fd_put_in_order, F_put_in_order⟩ := c.def_ 30 (d := d_put_in_order) rfl
  obtain ⟨fd_ring_numbers, F_ring_numbers⟩ := c.def_ 31 (d := d_ring_numbers) rfl
  obtain ⟨fd_row_numbers, F_row_numbers⟩ := c.def_ 32 (d := d_row_numbers) rfl
  obtain ⟨fd_unlike_for, F_unlike_for⟩ := c.def_ 33 (d := d_unlike_for) rfl
  obtain ⟨fd_are_numbers, F_are_numbers⟩ := c.def_ 34 (d := d_are_numbers) rfl
  obtain ⟨fd_sums_unlike, F_sums_unlike⟩ := c.def_ 35 (d := d_sums_unlike) rfl
  obtain ⟨fd_unlike_good, F_unlike_good⟩ := c.def_ 36 (d := d_unlike_good) rfl
  obtain ⟨fd_law, F_law⟩ := c.def_ 37 (d := d_law) rfl
  have g__law_cell_at := He.glo_ok X G (c.fact 0 (f := .glo "_law_cell_at") rfl)
  have g__law_pen_of := He.glo_ok X G (c.fact 1 (f := .glo "_law_pen_of") rfl)
  have g__law_next := He.glo_ok X G (c.fact 2 (f := .glo "_law_next") rfl)
  have g__law_draw := He.glo_ok X G (c.fact 3 (f := .glo "_law_draw") rfl)
  have g__law_order_of := He.glo_ok X G (c.fact 4 (f := .glo "_law_order_of") rfl)
  have g__law_hub_web := He.glo_ok X G (c.fact 5 (f := .glo "_law_hub_web") rfl)
  have g__law_numbers_of := He.glo_ok X G (c.fact 6 (f := .glo "_law_numbers_of") rfl)
  have g_is_whole := He.glo_ok X G (c.fact 7 (f := .glo "is_whole") rfl)
  have g_check_place := He.glo_ok X G (c.fact 8 (f := .glo "check_place") rfl)
  have g_ties_at := He.glo_ok X G (c.fact 9 (f := .glo "ties_at") rfl)
  have g_tie_counts := He.glo_ok X G (c.fact 10 (f := .glo "tie_counts") rfl)
  have g_hubs_of := He.glo_ok X G (c.fact 11 (f := .glo "hubs_of") rfl)
  have g_need_hub := He.glo_ok X G (c.fact 12 (f := .glo "need_hub") rfl)
  have g_sums_at := He.glo_ok X G (c.fact 13 (f := .glo "sums_at") rfl)
  have g_by_hub := He.glo_ok X G (c.fact 14 (f := .glo "by_hub") rfl)
  have g_numbers_in := He.glo_ok X G (c.fact 15 (f := .glo "numbers_in") rfl)
  have g_unlike_by := He.glo_ok X G (c.fact 16 (f := .glo "unlike_by") rfl)
  have g__law_sums_of := He.glo_ok X G (c.fact 17 (f := .glo "_law_sums_of") rfl)
  have g__law_unlike := He.glo_ok X G (c.fact 18 (f := .glo "_law_unlike") rfl)
  have g_unlike_bar_holds := He.glo_ok X G (c.fact 19 (f := .glo "unlike_bar_holds") rfl)
  have g_unlike_bar := He.glo_ok X G (c.fact 20 (f := .glo "unlike_bar") rfl)
  have g__law_right := He.glo_ok X G (c.fact 21 (f := .glo "_law_right") rfl)
  have g__law_more_tied := He.glo_ok X G (c.fact 22 (f := .glo "_law_more_tied") rfl)
  have g_legs_good := He.glo_ok X G (c.fact 23 (f := .glo "legs_good") rfl)
  have g_kind_form := He.glo_ok X G (c.fact 24 (f := .glo "kind_form") rfl)
  have g_spine_ties := He.glo_ok X G (c.fact 25 (f := .glo "spine_ties") rfl)
  have g_row_ties := He.glo_ok X G (c.fact 26 (f := .glo "row_ties") rfl)
  have g_kind_ties := He.glo_ok X G (c.fact 27 (f := .glo "kind_ties") rfl)
  have g_kind_good := He.glo_ok X G (c.fact 28 (f := .glo "kind_good") rfl)
  have g_web_for := He.glo_ok X G (c.fact 29 (f := .glo "web_for") rfl)
  have g_put_in_order := He.glo_ok X G (c.fact 30 (f := .glo "put_in_order") rfl)
  have g_ring_numbers := He.glo_ok X G (c.fact 31 (f := .glo "ring_numbers") rfl)
  have g_row_numbers := He.glo_ok X G (c.fact 32 (f := .glo "row_numbers") rfl)
  have g_unlike_for := He.glo_ok X G (c.fact 33 (f := .glo "unlike_for") rfl)
  have g_are_numbers := He.glo_ok X G (c.fact 34 (f := .glo "are_numbers") rfl)
  have g_sums_unlike := He.glo_ok X G (c.fact 35 (f := .glo "sums_unlike") rfl)
  have g_unlike_good := He.glo_ok X G (c.fact 36 (f := .glo "unlike_good") rfl)
  have g_law := He.glo_ok X G (c.fact 37 (f := .glo "law") rfl)
  have h_len := He.free_ok X G (c.fact 38 (f := .free "len") rfl)
  have h_max := He.free_ok X G (c.fact 39 (f := .free "max") rfl)
  have h_int := He.free_ok X G (c.fact 40 (f := .free "int") rfl)
  have h_range := He.free_ok X G (c.fact 41 (f := .free "range") rfl)
  have h_list := He.free_ok X G (c.fact 42 (f := .free "list") rfl)
  have h_min := He.free_ok X G (c.fact 43 (f := .free "min") rfl)
  have h_sorted := He.free_ok X G (c.fact 44 (f := .free "sorted") rfl)
  have h_tuple := He.free_ok X G (c.fact 45 (f := .free "tuple") rfl)
  have h_isinstance := He.free_ok X G (c.fact 46 (f := .free "isinstance") rfl)
  have h_bool := He.free_ok X G (c.fact 47 (f := .free "bool") rfl)
  have EX := exS_of X G cx
  have x_NoPlace := c.fact 48 (f := .exc "NoPlace") rfl
  have h_enumerate := He.free_ok X G (c.fact 49 (f := .free "enumerate") rfl)
  have x_NoKind := c.fact 50 (f := .exc "NoKind") rfl
  have h_zip := He.free_ok X G (c.fact 51 (f := .free "zip") rfl)
  have h_sum := He.free_ok X G (c.fact 52 (f := .free "sum") rfl)
  have x_NoNumber := c.fact 53 (f := .exc "NoNumber") rfl
  have h_all := He.free_ok X G (c.fact 54 (f := .free "all") rfl)
  have h_set := He.free_ok X G (c.fact 55 (f := .free "set") rfl)
  have h_str := He.free_ok X G (c.fact 56 (f := .free "str") rfl)
  have i_MOST_PLACES := He.int_ok X G (c.fact 57 (f := .int "MOST_PLACES" (40)) rfl)
  have k_LEAST := kc_of (x := "LEAST") (es := [("ring", 3), ("full", 1), ("wheel", 3), ("fan", 1)]) X G ct (by decide)
  have i_MOST_TIES := He.int_ok X G (c.fact 58 (f := .int "MOST_TIES" (60)) rfl)
  have e := hfa.symm.trans g_law
  cases e
  refine ⟨fd_law, fun s v => FunD.bindsA (ps := ["script"]) F_law (fun _ _ _ _ _ _ us hl => match us, hl with | [_], _ => rfl) s [v] rfl, fun base _ _ => ?_⟩
  have C__law_cell_at := ok__law_cell_at (P := P) (w := w) (base := base) F__law_cell_at g__law_cell_at h_len
  have C__law_pen_of := ok__law_pen_of (P := P) (w := w) (base := base) F__law_pen_of g__law_pen_of h_max h_int
  have C__law_next := ok__law_next (P := P) (w := w) (base := base) F__law_next g__law_next
  have C__law_draw := ok__law_draw (P := P) (w := w) (base := base) F__law_draw g__law_draw (C__law_next.up (by decide))
  have C__law_order_of := ok__law_order_of (P := P) (w := w) (base := base) F__law_order_of g__law_order_of h_range h_list h_len (C__law_draw.up (by decide))
  have C__law_hub_web := ok__law_hub_web (P := P) (w := w) (base := base) F__law_hub_web g__law_hub_web h_range h_len h_min h_max h_sorted h_tuple (C__law_draw.up (by decide)) (C__law_order_of.up (by decide))
  have C__law_numbers_of := ok__law_numbers_of (P := P) (w := w) (base := base) F__law_numbers_of g__law_numbers_of h_range (C__law_draw.up (by decide))
  have C_is_whole := ok_is_whole (P := P) (w := w) (base := base) F_is_whole g_is_whole h_isinstance h_int h_bool
  have C_check_place := ok_check_place (P := P) (w := w) (base := base) F_check_place g_check_place EX x_NoPlace (C_is_whole.up (by decide))
  have C_ties_at := ok_ties_at (P := P) (w := w) (base := base) F_ties_at g_ties_at h_enumerate (C_check_place.up (by decide))
  have C_tie_counts := ok_tie_counts (P := P) (w := w) (base := base) F_tie_counts g_tie_counts h_range h_len h_tuple (C_ties_at.up (by decide))
  have C_hubs_of := ok_hubs_of (P := P) (w := w) (base := base) F_hubs_of g_hubs_of h_enumerate (C_tie_counts.up (by decide))
  have C_need_hub := ok_need_hub (P := P) (w := w) (base := base) F_need_hub g_need_hub EX x_NoKind (C_hubs_of.up (by decide))
  have C_sums_at := ok_sums_at (P := P) (w := w) (base := base) F_sums_at g_sums_at h_zip
  have C_by_hub := ok_by_hub (P := P) (w := w) (base := base) F_by_hub g_by_hub h_list h_enumerate h_range h_len h_sum h_sorted h_tuple (C_sums_at.up (by decide))
  have C_numbers_in := ok_numbers_in (P := P) (w := w) (base := base) F_numbers_in g_numbers_in h_isinstance h_list h_tuple h_len EX x_NoNumber h_all h_set h_sorted (C_is_whole.up (by decide))
  have C_unlike_by := ok_unlike_by (P := P) (w := w) (base := base) F_unlike_by g_unlike_by h_len (C_need_hub.up (by decide)) (C_by_hub.up (by decide)) (C_numbers_in.up (by decide))
  have C__law_sums_of := ok__law_sums_of (P := P) (w := w) (base := base) F__law_sums_of g__law_sums_of h_enumerate
  have C__law_unlike := ok__law_unlike (P := P) (w := w) (base := base) F__law_unlike g__law_unlike h_sorted h_range h_len (C__law_sums_of.up (by decide))
  have C_unlike_bar_holds := ok_unlike_bar_holds (P := P) (w := w) (base := base) F_unlike_bar_holds g_unlike_bar_holds h_isinstance h_tuple h_len h_str h_all (C_tie_counts.up (by decide)) (C_is_whole.up (by decide))
  have C_unlike_bar := ok_unlike_bar (P := P) (w := w) (base := base) F_unlike_bar g_unlike_bar h_range h_len h_enumerate (C_unlike_bar_holds.up (by decide)) (C_tie_counts.up (by decide))
  have C__law_right := ok__law_right (P := P) (w := w) (base := base) F__law_right g__law_right h_sorted h_sum (C_unlike_by.up (by decide)) (C__law_unlike.up (by decide)) (C__law_sums_of.up (by decide)) (C_unlike_bar.up (by decide))
  have C__law_more_tied := ok__law_more_tied (P := P) (w := w) (base := base) F__law_more_tied g__law_more_tied h_range h_sorted h_tuple
  have C_legs_good := ok_legs_good (P := P) (w := w) (base := base) F_legs_good g_legs_good h_isinstance h_tuple h_len i_MOST_PLACES h_all h_sum (C_is_whole.up (by decide))
  have C_kind_form := ok_kind_form (P := P) (w := w) (base := base) F_kind_form g_kind_form h_isinstance h_tuple h_len h_str i_MOST_PLACES h_all k_LEAST (C_legs_good.up (by decide)) (C_is_whole.up (by decide))
  have C_spine_ties := ok_spine_ties (P := P) (w := w) (base := base) F_spine_ties g_spine_ties h_len h_range h_enumerate
  have C_row_ties := ok_row_ties (P := P) (w := w) (base := base) F_row_ties g_row_ties h_range
  have C_kind_ties := ok_kind_ties (P := P) (w := w) (base := base) F_kind_ties g_kind_ties h_range (C_spine_ties.up (by decide)) (C_row_ties.up (by decide))
  have C_kind_good := ok_kind_good (P := P) (w := w) (base := base) F_kind_good g_kind_good i_MOST_PLACES h_len i_MOST_TIES (C_kind_form.up (by decide)) (C_kind_ties.up (by decide))
  have C_web_for := ok_web_for (P := P) (w := w) (base := base) F_web_for g_web_for EX x_NoKind h_sorted h_tuple (C_kind_good.up (by decide)) (C_kind_ties.up (by decide))
  have C_put_in_order := ok_put_in_order (P := P) (w := w) (base := base) F_put_in_order g_put_in_order h_zip h_tuple
  have C_ring_numbers := ok_ring_numbers (P := P) (w := w) (base := base) F_ring_numbers g_ring_numbers h_range
  have C_row_numbers := ok_row_numbers (P := P) (w := w) (base := base) F_row_numbers g_row_numbers h_range h_list
  have C_unlike_for := ok_unlike_for (P := P) (w := w) (base := base) F_unlike_for g_unlike_for EX x_NoKind h_range h_max h_len h_list (C_kind_good.up (by decide)) (C_web_for.up (by decide)) (C_put_in_order.up (by decide)) (C_ring_numbers.up (by decide)) (C_row_numbers.up (by decide)) (C_unlike_by.up (by decide))
  have C_are_numbers := ok_are_numbers (P := P) (w := w) (base := base) F_are_numbers g_are_numbers h_isinstance h_tuple h_len h_all (C_is_whole.up (by decide))
  have C_sums_unlike := ok_sums_unlike (P := P) (w := w) (base := base) F_sums_unlike g_sums_unlike h_len h_set (C_sums_at.up (by decide))
  have C_unlike_good := ok_unlike_good (P := P) (w := w) (base := base) F_unlike_good g_unlike_good h_len h_sorted h_range h_list (C_are_numbers.up (by decide)) (C_sums_unlike.up (by decide))
  exact fn_law F_law h_len h_sorted h_range h_list (C__law_cell_at.up (by decide)) (C__law_pen_of.up (by decide)) (C__law_hub_web.up (by decide)) (C__law_numbers_of.up (by decide)) (C__law_draw.up (by decide)) (C__law_right.up (by decide)) (C__law_more_tied.up (by decide)) (C_unlike_for.up (by decide)) (C_unlike_good.up (by decide)) (C_web_for.up (by decide)) (C__law_unlike.up (by decide))
end K69
open PySem PySem.W PySem.Calls PyProof.Rows
theorem PySem.Challenge.cw_tienumbers_k69_whole_hubs_and_kinds_holds : PySem.Challenge.rw_tienumbers_k69_whole_hubs_and_kinds.Holds := by
  w_on; o_law
  refine HandSHeadRun.head_any (r := OpenLaw.row PySem.Challenge.rw_tienumbers_k69_whole_hubs_and_kinds) (q := view (OpenLaw.row PySem.Challenge.rw_tienumbers_k69_whole_hubs_and_kinds).prog [50]) (H := K69.hk) (ob := K69.ob) (M := 6000) (loose := (("TieError" : Str) :: "NoPlace" :: "NoKind" :: "NoNumber" :: "MOST_PLACES" :: "MOST_TIES" :: "is_whole" :: "check_place" :: "ties_at" :: "tie_counts" :: "hubs_of" :: "LEAST" :: "legs_good" :: "kind_form" :: "spine_ties" :: "row_ties" :: "kind_ties" :: "kind_good" :: "web_for" :: "are_numbers" :: "sums_at" :: "sums_unlike" :: "unlike_good" :: "need_hub" :: "numbers_in" :: "by_hub" :: "unlike_by" :: "row_numbers" :: "ring_numbers" :: "put_in_order" :: "unlike_for" :: "unlike_bar_holds" :: "unlike_bar" :: "_law_cell_at" :: "_law_next" :: "_law_pen_of" :: "_law_draw" :: "_law_order_of" :: "_law_hub_web" :: "_law_sums_of" :: "_law_unlike" :: "_law_numbers_of" :: "_law_right" :: "_law_more_tied" :: [])) (d := HandSHeadRun.topDef (OpenLaw.row PySem.Challenge.rw_tienumbers_k69_whole_hubs_and_kinds).prog 50) (kwd := []) K69.ob_eq
    (by kernel_rfl) (fun s => by kernel_rfl) K69.run (by kernel_rfl) (by kernel_rfl) (by kernel_rfl) (by rfl) (by first | assumption | decide +kernel) (by decide +kernel) ⟨rfl, rfl, rfl, rfl, rfl, by decide +kernel⟩ ?hw ?hc
  case hw => w_witness2
  case hc =>
    exact TN.law_endZ (l := PySem.Challenge.rw_tienumbers_k69_whole_hubs_and_kinds) (k := 9) (x := "script") (M := K69.M_law) rfl (by kernel_rfl) (by kernel_rfl) ⟨rfl, by decide, by decide⟩ (fun w K mg f h X G hf c cx co ct => K69.facts X G hf c cx co ct) K69.law_true

